/- Twins of functions,printed by gen.py. Conditions: none. -/
import Derived.Test.YtkmpkebaloejhaaDoorFb1
import Derived.KernelRfl
set_option linter.unusedSimpArgs false
set_option linter.unusedVariables false
set_option maxRecDepth 100000
set_option maxHeartbeats 8000000
namespace Go.Proofs.YtkmpkebaloejhaaDoor.Av
open Go
abbrev C137:Type:=L85→Int→Int→L78→Option (Bool×L85×Int×Int×L78)
def e137 {R:Type} (c:C137):Ent R:=eG [.aC (.cP 0)] [.oB 0 122 [.cL 85 ty85,.cI .i64,.cO 1002,.cI .i64],.oR 1002 78 ty78] fun v k=>ob (c v.1 v.2.1 v.2.2.1 v.2.2.2.1) (K16 k)
abbrev Sp137 (c:C137):Prop:=∀ (p0:L85) (p1 p2:Int) (p3:L78) (y:Bool×L85×Int×Int×L78),c p0 p1 p2 p3=some y→Spec Tryd.prog gl0 137 [.c (.ptr 0 0)] [(0,.box 122 [.list 85 ty85 p0,.int .i64 p1,.own 1002,.int .i64 p2]),(1002,.row 78 ty78 p3)] (.c (.bool y.1)) [(0,.box 122 [.list 85 ty85 y.2.1,.int .i64 y.2.2.1,.own 1002,.int .i64 y.2.2.2.1]),(1002,.row 78 ty78 y.2.2.2.2)]
theorem ek137 {R:Type} {c:C137} (hs:Sp137 c):EOk 137 (e137 (R:=R) c):=qan fun v=>hs v.1 v.2.1 v.2.2.1 v.2.2.2.1
abbrev C180:Type:=LB→Int→L85→Int→Int→L78→Option (Bool×L85×Int×Int×L78)
def e180 {R:Type} (c:C180):Ent R:=eG [.aC (.cP 0),.aC .cS,.aC (.cI .i64),.aM 137 [.cP 0]] [.oB 0 122 [.cL 85 ty85,.cI .i64,.cO 1002,.cI .i64],.oR 1002 78 ty78] fun v k=>ob (c v.1 v.2.1 v.2.2.1 v.2.2.2.1 v.2.2.2.2.1 v.2.2.2.2.2.1) (K16 k)
abbrev Sp180 (c:C180):Prop:=∀ (p0:LB) (p1:Int) (p2:L85) (p3 p4:Int) (p5:L78) (y:Bool×L85×Int×Int×L78),c p0 p1 p2 p3 p4 p5=some y→Spec Tryd.prog gl0 129 [.c (.ptr 0 0),.c (.str p0),.c (.int .i64 p1),.bm 137 [.ptr 0 0]] [(0,.box 122 [.list 85 ty85 p2,.int .i64 p3,.own 1002,.int .i64 p4]),(1002,.row 78 ty78 p5)] (.c (.bool y.1)) [(0,.box 122 [.list 85 ty85 y.2.1,.int .i64 y.2.2.1,.own 1002,.int .i64 y.2.2.2.1]),(1002,.row 78 ty78 y.2.2.2.2)]
theorem ek180 {R:Type} {c:C180} (hs:Sp180 c):EOk 129 (e180 (R:=R) c):=qan fun v=>hs v.1 v.2.1 v.2.2.1 v.2.2.2.1 v.2.2.2.2.1 v.2.2.2.2.2.1
abbrev C130:Type:=L85→Int→Int→L78→Option (Bool×L85×Int×Int×L78)
def e130 {R:Type} (c:C130):Ent R:=eG [.aC (.cP 0)] [.oB 0 122 [.cL 85 ty85,.cI .i64,.cO 1002,.cI .i64],.oR 1002 78 ty78] fun v k=>ob (c v.1 v.2.1 v.2.2.1 v.2.2.2.1) (K16 k)
abbrev Sp130 (c:C130):Prop:=∀ (p0:L85) (p1 p2:Int) (p3:L78) (y:Bool×L85×Int×Int×L78),c p0 p1 p2 p3=some y→Spec Tryd.prog gl0 130 [.c (.ptr 0 0)] [(0,.box 122 [.list 85 ty85 p0,.int .i64 p1,.own 1002,.int .i64 p2]),(1002,.row 78 ty78 p3)] (.c (.bool y.1)) [(0,.box 122 [.list 85 ty85 y.2.1,.int .i64 y.2.2.1,.own 1002,.int .i64 y.2.2.2.1]),(1002,.row 78 ty78 y.2.2.2.2)]
theorem ek130 {R:Type} {c:C130} (hs:Sp130 c):EOk 130 (e130 (R:=R) c):=qan fun v=>hs v.1 v.2.1 v.2.2.1 v.2.2.2.1
abbrev C129:Type:=LB→Int→L85→Int→Int→L78→Option (Bool×L85×Int×Int×L78)
def e129 {R:Type} (c:C129):Ent R:=eG [.aC (.cP 0),.aC .cS,.aC (.cI .i64),.aM 130 [.cP 0]] [.oB 0 122 [.cL 85 ty85,.cI .i64,.cO 1002,.cI .i64],.oR 1002 78 ty78] fun v k=>ob (c v.1 v.2.1 v.2.2.1 v.2.2.2.1 v.2.2.2.2.1 v.2.2.2.2.2.1) (K16 k)
abbrev Sp129 (c:C129):Prop:=∀ (p0:LB) (p1:Int) (p2:L85) (p3 p4:Int) (p5:L78) (y:Bool×L85×Int×Int×L78),c p0 p1 p2 p3 p4 p5=some y→Spec Tryd.prog gl0 129 [.c (.ptr 0 0),.c (.str p0),.c (.int .i64 p1),.bm 130 [.ptr 0 0]] [(0,.box 122 [.list 85 ty85 p2,.int .i64 p3,.own 1002,.int .i64 p4]),(1002,.row 78 ty78 p5)] (.c (.bool y.1)) [(0,.box 122 [.list 85 ty85 y.2.1,.int .i64 y.2.2.1,.own 1002,.int .i64 y.2.2.2.1]),(1002,.row 78 ty78 y.2.2.2.2)]
theorem ek129 {R:Type} {c:C129} (hs:Sp129 c):EOk 129 (e129 (R:=R) c):=qan fun v=>hs v.1 v.2.1 v.2.2.1 v.2.2.2.1 v.2.2.2.2.1 v.2.2.2.2.2.1
abbrev C116:Type:=L85→Int→Int→L78→Option (Bool×L85×Int×Int×L78)
def e116 {R:Type} (c:C116):Ent R:=eG [.aC (.cP 0)] [.oB 0 122 [.cL 85 ty85,.cI .i64,.cO 1002,.cI .i64],.oR 1002 78 ty78] fun v k=>ob (c v.1 v.2.1 v.2.2.1 v.2.2.2.1) (K16 k)
abbrev Sp116 (c:C116):Prop:=∀ (p0:L85) (p1 p2:Int) (p3:L78) (y:Bool×L85×Int×Int×L78),c p0 p1 p2 p3=some y→Spec Tryd.prog gl0 116 [.c (.ptr 0 0)] [(0,.box 122 [.list 85 ty85 p0,.int .i64 p1,.own 1002,.int .i64 p2]),(1002,.row 78 ty78 p3)] (.c (.bool y.1)) [(0,.box 122 [.list 85 ty85 y.2.1,.int .i64 y.2.2.1,.own 1002,.int .i64 y.2.2.2.1]),(1002,.row 78 ty78 y.2.2.2.2)]
theorem ek116 {R:Type} {c:C116} (hs:Sp116 c):EOk 116 (e116 (R:=R) c):=qan fun v=>hs v.1 v.2.1 v.2.2.1 v.2.2.2.1
abbrev C114:Type:=L85→Int→Int→L78→Option (Bool×L85×Int×Int×L78)
def e114 {R:Type} (c:C114):Ent R:=eG [.aC (.cP 0),.aF 115 [],.aM 116 [.cP 0]] [.oB 0 122 [.cL 85 ty85,.cI .i64,.cO 1002,.cI .i64],.oR 1002 78 ty78] fun v k=>ob (c v.1 v.2.1 v.2.2.1 v.2.2.2.1) (K16 k)
abbrev Sp114 (c:C114):Prop:=∀ (p0:L85) (p1 p2:Int) (p3:L78) (y:Bool×L85×Int×Int×L78),c p0 p1 p2 p3=some y→Spec Tryd.prog gl0 114 [.c (.ptr 0 0),.fn 115 [],.bm 116 [.ptr 0 0]] [(0,.box 122 [.list 85 ty85 p0,.int .i64 p1,.own 1002,.int .i64 p2]),(1002,.row 78 ty78 p3)] (.c (.bool y.1)) [(0,.box 122 [.list 85 ty85 y.2.1,.int .i64 y.2.2.1,.own 1002,.int .i64 y.2.2.2.1]),(1002,.row 78 ty78 y.2.2.2.2)]
theorem ek114 {R:Type} {c:C114} (hs:Sp114 c):EOk 114 (e114 (R:=R) c):=qan fun v=>hs v.1 v.2.1 v.2.2.1 v.2.2.2.1
abbrev C80:Type:=L85→Int→Int→L78→Option (Bool×L85×Int×Int×L78)
def e80 {R:Type} (c:C80):Ent R:=eG [.aC (.cP 0)] [.oB 0 122 [.cL 85 ty85,.cI .i64,.cO 1002,.cI .i64],.oR 1002 78 ty78] fun v k=>ob (c v.1 v.2.1 v.2.2.1 v.2.2.2.1) (K16 k)
abbrev Sp80 (c:C80):Prop:=∀ (p0:L85) (p1 p2:Int) (p3:L78) (y:Bool×L85×Int×Int×L78),c p0 p1 p2 p3=some y→Spec Tryd.prog gl0 80 [.c (.ptr 0 0)] [(0,.box 122 [.list 85 ty85 p0,.int .i64 p1,.own 1002,.int .i64 p2]),(1002,.row 78 ty78 p3)] (.c (.bool y.1)) [(0,.box 122 [.list 85 ty85 y.2.1,.int .i64 y.2.2.1,.own 1002,.int .i64 y.2.2.2.1]),(1002,.row 78 ty78 y.2.2.2.2)]
theorem ek80 {R:Type} {c:C80} (hs:Sp80 c):EOk 80 (e80 (R:=R) c):=qan fun v=>hs v.1 v.2.1 v.2.2.1 v.2.2.2.1
abbrev C150:Type:=L85→Int→Int→L78→Option (Bool×L85×Int×Int×L78)
def e150 {R:Type} (c:C150):Ent R:=eG [.aC (.cP 0)] [.oB 0 122 [.cL 85 ty85,.cI .i64,.cO 1002,.cI .i64],.oR 1002 78 ty78] fun v k=>ob (c v.1 v.2.1 v.2.2.1 v.2.2.2.1) (K16 k)
abbrev Sp150 (c:C150):Prop:=∀ (p0:L85) (p1 p2:Int) (p3:L78) (y:Bool×L85×Int×Int×L78),c p0 p1 p2 p3=some y→Spec Tryd.prog gl0 150 [.c (.ptr 0 0)] [(0,.box 122 [.list 85 ty85 p0,.int .i64 p1,.own 1002,.int .i64 p2]),(1002,.row 78 ty78 p3)] (.c (.bool y.1)) [(0,.box 122 [.list 85 ty85 y.2.1,.int .i64 y.2.2.1,.own 1002,.int .i64 y.2.2.2.1]),(1002,.row 78 ty78 y.2.2.2.2)]
theorem ek150 {R:Type} {c:C150} (hs:Sp150 c):EOk 150 (e150 (R:=R) c):=qan fun v=>hs v.1 v.2.1 v.2.2.1 v.2.2.2.1
def X80:Aux:=⟨[],[]⟩
def T80 {R:Type} (B:Ops) (c116:C116) (c114:C114) (c115:C115) (p0:L85) (p1 p2:Int) (p3:L78) (k:(Bool×L85×Int×Int×L78)→Option R):Option R:=ob (c114 p0 p1 p2 p3) fun y0=>k (y0.1,y0.2.1,y0.2.2.1,y0.2.2.2.1,y0.2.2.2.2)
theorem eq80 {R:Type} (B:Ops) (c116:C116) (c114:C114) (c115:C115) (p0:L85) (p1 p2:Int) (p3:L78) (k:AV→Objs→Option R) (n:Nat):afun tau B gl0 X80 (ent 116 (e116 c116) (ent 114 (e114 c114) (ent 115 (e115 c115) gnil))) ow Tryd.f80 [.c (.ptr 0 0)] [(0,.box 122 [.list 85 ty85 p0,.int .i64 p1,.own 1002,.int .i64 p2]),(1002,.row 78 ty78 p3)] k n=T80 B c116 c114 c115 p0 p1 p2 p3 (K16 k):=by kernel_rfl
theorem nt80 {R R':Type} (B:Ops) (c116:C116) (c114:C114) (c115:C115) (p0:L85) (p1 p2:Int) (p3:L78) (k0:(Bool×L85×Int×Int×L78)→Option R') (k:R'→Option R):T80 B c116 c114 c115 p0 p1 p2 p3 (fun y=>ob (k0 y) k)=ob (T80 B c116 c114 c115 p0 p1 p2 p3 k0) k:=by
 unfold T80
 repeat' first | exact rfl | apply qac | (apply qai;intro)
def F80 (c116:C116) (c114:C114) (c115:C115) (p0:L85) (p1 p2:Int) (p3:L78):Option (Bool×L85×Int×Int×L78):=T80 Ops.std c116 c114 c115 p0 p1 p2 p3 some
theorem sf80 {c116:C116} {c114:C114} {c115:C115} (h116:Sp116 c116) (h114:Sp114 c114) (h115:Sp115 c115):Sp80 (F80 c116 c114 c115):=fun p0 p1 p2 p3 y hy=>by
 refine qae (qab (ek116 h116) (qab (ek114 h114) (qab (ek115 h115) qad))) 1000000 (fn:=Tryd.f80) (by kernel_rfl) (by kernel_rfl) (X:=X80) (by kernel_rfl) ?_
 rw [eq80]
 exact (nt80 Ops.std c116 c114 c115 p0 p1 p2 p3 some (K16 k0)).trans (by show ob (F80 c116 c114 c115 p0 p1 p2 p3) _=_;rw [hy];rfl)
def X116:Aux:=⟨[],[]⟩
def T116 {R:Type} (B:Ops) (c130:C130) (c129:C129) (p0:L85) (p1 p2:Int) (p3:L78) (k:(Bool×L85×Int×Int×L78)→Option R):Option R:=ob (c129 ([124,124]:LB) 6 p0 p1 p2 p3) fun y0=>k (y0.1,y0.2.1,y0.2.2.1,y0.2.2.2.1,y0.2.2.2.2)
theorem eq116 {R:Type} (B:Ops) (c130:C130) (c129:C129) (p0:L85) (p1 p2:Int) (p3:L78) (k:AV→Objs→Option R) (n:Nat):afun tau B gl0 X116 (ent 130 (e130 c130) (ent 129 (e129 c129) gnil)) ow Tryd.f116 [.c (.ptr 0 0)] [(0,.box 122 [.list 85 ty85 p0,.int .i64 p1,.own 1002,.int .i64 p2]),(1002,.row 78 ty78 p3)] k n=T116 B c130 c129 p0 p1 p2 p3 (K16 k):=by kernel_rfl
theorem nt116 {R R':Type} (B:Ops) (c130:C130) (c129:C129) (p0:L85) (p1 p2:Int) (p3:L78) (k0:(Bool×L85×Int×Int×L78)→Option R') (k:R'→Option R):T116 B c130 c129 p0 p1 p2 p3 (fun y=>ob (k0 y) k)=ob (T116 B c130 c129 p0 p1 p2 p3 k0) k:=by
 unfold T116
 repeat' first | exact rfl | apply qac | (apply qai;intro)
def F116 (c130:C130) (c129:C129) (p0:L85) (p1 p2:Int) (p3:L78):Option (Bool×L85×Int×Int×L78):=T116 Ops.std c130 c129 p0 p1 p2 p3 some
theorem sf116 {c130:C130} {c129:C129} (h130:Sp130 c130) (h129:Sp129 c129):Sp116 (F116 c130 c129):=fun p0 p1 p2 p3 y hy=>by
 refine qae (qab (ek130 h130) (qab (ek129 h129) qad)) 1000000 (fn:=Tryd.f116) (by kernel_rfl) (by kernel_rfl) (X:=X116) (by kernel_rfl) ?_
 rw [eq116]
 exact (nt116 Ops.std c130 c129 p0 p1 p2 p3 some (K16 k0)).trans (by show ob (F116 c130 c129 p0 p1 p2 p3) _=_;rw [hy];rfl)
def X130:Aux:=⟨[],[]⟩
def T130 {R:Type} (B:Ops) (c137:C137) (c180:C180) (p0:L85) (p1 p2:Int) (p3:L78) (k:(Bool×L85×Int×Int×L78)→Option R):Option R:=ob (c180 ([38,38]:LB) 5 p0 p1 p2 p3) fun y0=>k (y0.1,y0.2.1,y0.2.2.1,y0.2.2.2.1,y0.2.2.2.2)
theorem eq130 {R:Type} (B:Ops) (c137:C137) (c180:C180) (p0:L85) (p1 p2:Int) (p3:L78) (k:AV→Objs→Option R) (n:Nat):afun tau B gl0 X130 (ent 137 (e137 c137) (ent 129 (e180 c180) gnil)) ow Tryd.f130 [.c (.ptr 0 0)] [(0,.box 122 [.list 85 ty85 p0,.int .i64 p1,.own 1002,.int .i64 p2]),(1002,.row 78 ty78 p3)] k n=T130 B c137 c180 p0 p1 p2 p3 (K16 k):=by kernel_rfl
theorem nt130 {R R':Type} (B:Ops) (c137:C137) (c180:C180) (p0:L85) (p1 p2:Int) (p3:L78) (k0:(Bool×L85×Int×Int×L78)→Option R') (k:R'→Option R):T130 B c137 c180 p0 p1 p2 p3 (fun y=>ob (k0 y) k)=ob (T130 B c137 c180 p0 p1 p2 p3 k0) k:=by
 unfold T130
 repeat' first | exact rfl | apply qac | (apply qai;intro)
def F130 (c137:C137) (c180:C180) (p0:L85) (p1 p2:Int) (p3:L78):Option (Bool×L85×Int×Int×L78):=T130 Ops.std c137 c180 p0 p1 p2 p3 some
theorem sf130 {c137:C137} {c180:C180} (h137:Sp137 c137) (h180:Sp180 c180):Sp130 (F130 c137 c180):=fun p0 p1 p2 p3 y hy=>by
 refine qae (qab (ek137 h137) (qab (ek180 h180) qad)) 1000000 (fn:=Tryd.f130) (by kernel_rfl) (by kernel_rfl) (X:=X130) (by kernel_rfl) ?_
 rw [eq130]
 exact (nt130 Ops.std c137 c180 p0 p1 p2 p3 some (K16 k0)).trans (by show ob (F130 c137 c180 p0 p1 p2 p3) _=_;rw [hy];rfl)
def X137:Aux:=⟨[],[]⟩
def T137 {R:Type} (B:Ops) (c144:C144) (c179:C179) (c143:C143) (p0:L85) (p1 p2:Int) (p3:L78) (k:(Bool×L85×Int×Int×L78)→Option R):Option R:=ob (c179 p0 p1 p2 p3) fun y0=>k (y0.1,y0.2.1,y0.2.2.1,y0.2.2.2.1,y0.2.2.2.2)
theorem eq137 {R:Type} (B:Ops) (c144:C144) (c179:C179) (c143:C143) (p0:L85) (p1 p2:Int) (p3:L78) (k:AV→Objs→Option R) (n:Nat):afun tau B gl0 X137 (ent 144 (e144 c144) (ent 114 (e179 c179) (ent 143 (e143 c143) gnil))) ow Tryd.f137 [.c (.ptr 0 0)] [(0,.box 122 [.list 85 ty85 p0,.int .i64 p1,.own 1002,.int .i64 p2]),(1002,.row 78 ty78 p3)] k n=T137 B c144 c179 c143 p0 p1 p2 p3 (K16 k):=by kernel_rfl
theorem nt137 {R R':Type} (B:Ops) (c144:C144) (c179:C179) (c143:C143) (p0:L85) (p1 p2:Int) (p3:L78) (k0:(Bool×L85×Int×Int×L78)→Option R') (k:R'→Option R):T137 B c144 c179 c143 p0 p1 p2 p3 (fun y=>ob (k0 y) k)=ob (T137 B c144 c179 c143 p0 p1 p2 p3 k0) k:=by
 unfold T137
 repeat' first | exact rfl | apply qac | (apply qai;intro)
def F137 (c144:C144) (c179:C179) (c143:C143) (p0:L85) (p1 p2:Int) (p3:L78):Option (Bool×L85×Int×Int×L78):=T137 Ops.std c144 c179 c143 p0 p1 p2 p3 some
theorem sf137 {c144:C144} {c179:C179} {c143:C143} (h144:Sp144 c144) (h179:Sp179 c179) (h143:Sp143 c143):Sp137 (F137 c144 c179 c143):=fun p0 p1 p2 p3 y hy=>by
 refine qae (qab (ek144 h144) (qab (ek179 h179) (qab (ek143 h143) qad))) 1000000 (fn:=Tryd.f137) (by kernel_rfl) (by kernel_rfl) (X:=X137) (by kernel_rfl) ?_
 rw [eq137]
 exact (nt137 Ops.std c144 c179 c143 p0 p1 p2 p3 some (K16 k0)).trans (by show ob (F137 c144 c179 c143 p0 p1 p2 p3) _=_;rw [hy];rfl)
def X144:Aux:=⟨[(3,([0,2]++rg 5 31)),(3000011,([0]++rg 2 28++[31,32,33,34,35]))],[]⟩
inductive S144 where
 | l0 (v0:Int) (v1:L85) (v2 v3:Int) (v4:L3) (v5:L78)
 | l1011 (v0:Int) (v1:L85) (v2 v3:Int) (v4:L78) (v5:L3)
def T144 {R:Type} (B:Ops) (c127:C127) (c147:C147) (c148:C148) (c123:C123) (c128:C128) (p0:L85) (p1 p2:Int) (p3:L78) (again:S144→Option R) (k:(Bool×L85×Int×Int×L78)→Option R):Option S144→Option R | none=>ob (c127 p0 p1 p2 p3) fun y0=>ob (c147 y0.1) fun y1=>again (.l0 y1 y0.2.1 y0.2.2.1 y0.2.2.2.1 (mt (Ty.den (Ty.int .i64))) y0.2.2.2.2) | some (.l0 v0 v1 v2 v3 v4 v5)=>cond (!B.eq v0 0) (cond (B.lim (List.length v4+List.length (v0::mt (Ty.den (Ty.int .i64)))) 8) (ob (c127 v1 (IntKind.wrap .i64 (v2+1)) v3 v5) fun y0=>ob (c147 y0.1) fun y1=>again (.l0 y1 y0.2.1 y0.2.2.1 y0.2.2.2.1 (v4++v0::mt (Ty.den (Ty.int .i64))) y0.2.2.2.2)) none) (ob (c148 v1 v2 v3 v5) fun y0=>cond (!y0.1) (k (false,y0.2.1,y0.2.2.1,y0.2.2.2.1,y0.2.2.2.2)) (ob (c123 v4) fun y1=>again (.l1011 (Nat.cast y1.length-1) y0.2.1 y0.2.2.1 y0.2.2.2.1 y0.2.2.2.2 y1))) | some (.l1011 v0 v1 v2 v3 v4 v5)=>cond (B.lt v0 0) (k (true,v1,v2,v3,v4)) (cond (B.lt v0 (↑v5.length)) (ob (c128 (v5.getD v0.toNat 0) v1 v2 v3 v4) fun y0=>again (.l1011 (v0-1) y0.2.1 y0.2.2.1 y0.2.2.2.1 y0.2.2.2.2 v5)) none)
def E144 (p0:L85) (p1 p2:Int) (p3:L78):S144→List AV×Objs
 | .l0 v0 v1 v2 v3 v4 v5=>(mk 36 [(1,.c (.ptr 1 0)),(3,.c (.own 3)),(4,.c (.int .i64 v0))],[(0,.box 122 [.list 85 ty85 v1,.int .i64 v2,.own 1002,.int .i64 v3]),(1,.box 120 [.ptr 0 0]),(3,.row 3 ty3 v4),(1002,.row 78 ty78 v5)])
 | .l1011 v0 v1 v2 v3 v4 v5=>(mk 36 [(1,.c (.ptr 1 0)),(30,.fn 136 [.ptr 31500 0]),(31,.c (.int .i64 v0))],[(0,.box 122 [.list 85 ty85 v1,.int .i64 v2,.own 1002,.int .i64 v3]),(1,.box 120 [.ptr 0 0]),(1002,.row 78 ty78 v4),(31500,.box 22 [.list 3 ty3 v5])])
def I144:S144→Nat
 | .l0 _ _ _ _ _ _=>0
 | .l1011 _ _ _ _ _ _=>1011
noncomputable abbrev A144 {R:Type} (B:Ops) (c127:C127) (c147:C147) (c148:C148) (c123:C123) (c128:C128) (p0:L85) (p1 p2:Int) (p3:L78) (k:AV→Objs→Option R) (s:S144) (n:Nat):Option R:=aloop tau B gl0 X144 (ent 127 (e127 c127) (ent 147 (e147 c147) (ent 148 (e148 c148) (ent 123 (e123 c123) (ent 128 (e128 c128) gnil))))) ow [0] Tryd.f144 k (I144 s) (E144 p0 p1 p2 p3 s) n
theorem eq144 {R:Type} (B:Ops) (c127:C127) (c147:C147) (c148:C148) (c123:C123) (c128:C128) (p0:L85) (p1 p2:Int) (p3:L78) (k:AV→Objs→Option R) (n:Nat):afun tau B gl0 X144 (ent 127 (e127 c127) (ent 147 (e147 c147) (ent 148 (e148 c148) (ent 123 (e123 c123) (ent 128 (e128 c128) gnil))))) ow Tryd.f144 [.c (.ptr 0 0)] [(0,.box 122 [.list 85 ty85 p0,.int .i64 p1,.own 1002,.int .i64 p2]),(1002,.row 78 ty78 p3)] k n=T144 B c127 c147 c148 c123 c128 p0 p1 p2 p3 (fun s=>A144 B c127 c147 c148 c123 c128 p0 p1 p2 p3 k s n) (K16 k) none:=by kernel_rfl
theorem el144 {R:Type} (B:Ops) (c127:C127) (c147:C147) (c148:C148) (c123:C123) (c128:C128) (p0:L85) (p1 p2:Int) (p3:L78) (k:AV→Objs→Option R) (n:Nat):∀ s,A144 B c127 c147 c148 c123 c128 p0 p1 p2 p3 k s (n+1)=T144 B c127 c147 c148 c123 c128 p0 p1 p2 p3 (fun s=>A144 B c127 c147 c148 c123 c128 p0 p1 p2 p3 k s n) (K16 k) (some s):=by
 intro s
 cases s<;>kernel_rfl
theorem nt144 {R R':Type} (B:Ops) (c127:C127) (c147:C147) (c148:C148) (c123:C123) (c128:C128) (p0:L85) (p1 p2:Int) (p3:L78) (again:S144→Option R) (again':S144→Option R') (k0:(Bool×L85×Int×Int×L78)→Option R') (k:R'→Option R) (h:∀ s,again s=ob (again' s) k):∀ s,T144 B c127 c147 c148 c123 c128 p0 p1 p2 p3 again (fun y=>ob (k0 y) k) s=ob (T144 B c127 c147 c148 c123 c128 p0 p1 p2 p3 again' k0 s) k:=by
 rintro (_ | x)
 all_goals try cases x
 all_goals (unfold T144;repeat' first | exact rfl | exact h _ | apply qac | (apply qai;intro))
def R144 (c127:C127) (c147:C147) (c148:C148) (c123:C123) (c128:C128) (p0:L85) (p1 p2:Int) (p3:L78):Nat→S144→Option (Bool×L85×Int×Int×L78)
 | 0,_=>none
 | n+1,s=>T144 Ops.std c127 c147 c148 c123 c128 p0 p1 p2 p3 (R144 c127 c147 c148 c123 c128 p0 p1 p2 p3 n) some (some s)
theorem rr144 {R:Type} (c127:C127) (c147:C147) (c148:C148) (c123:C123) (c128:C128) (p0:L85) (p1 p2:Int) (p3:L78) (k:AV→Objs→Option R):∀ (n:Nat) (s:S144),A144 Ops.std c127 c147 c148 c123 c128 p0 p1 p2 p3 k s n=ob (R144 c127 c147 c148 c123 c128 p0 p1 p2 p3 n s) (K16 k)
 | 0,s=>by cases s<;>rfl
 | n+1,s=>by rw [el144];exact nt144 Ops.std c127 c147 c148 c123 c128 p0 p1 p2 p3 _ _ some (K16 k) (rr144 c127 c147 c148 c123 c128 p0 p1 p2 p3 k n) (some s)
def F144 (c127:C127) (c147:C147) (c148:C148) (c123:C123) (c128:C128) (p0:L85) (p1 p2:Int) (p3:L78):Option (Bool×L85×Int×Int×L78):=T144 Ops.std c127 c147 c148 c123 c128 p0 p1 p2 p3 (R144 c127 c147 c148 c123 c128 p0 p1 p2 p3 1000000) some none
theorem sf144 {c127:C127} {c147:C147} {c148:C148} {c123:C123} {c128:C128} (h127:Sp127 c127) (h147:Sp147 c147) (h148:Sp148 c148) (h123:Sp123 c123) (h128:Sp128 c128):Sp144 (F144 c127 c147 c148 c123 c128):=fun p0 p1 p2 p3 y hy=>by
 refine qae (qab (ek127 h127) (qab (ek147 h147) (qab (ek148 h148) (qab (ek123 h123) (qab (ek128 h128) qad))))) 1000000 (fn:=Tryd.f144) (by kernel_rfl) (by kernel_rfl) (X:=X144) (by kernel_rfl) ?_
 rw [eq144]
 exact (nt144 Ops.std c127 c147 c148 c123 c128 p0 p1 p2 p3 _ _ some (K16 k0) (rr144 c127 c147 c148 c123 c128 p0 p1 p2 p3 k0 1000000) none).trans (by show ob (F144 c127 c147 c148 c123 c128 p0 p1 p2 p3) _=_;rw [hy];rfl)
def X148:Aux:=⟨[],[]⟩
def T148 {R:Type} (B:Ops) (c127:C127) (c128:C128) (c149:C149) (c150:C150) (c151:C151) (p0:L85) (p1 p2:Int) (p3:L78) (k:(Bool×L85×Int×Int×L78)→Option R):Option R:=ob (c127 p0 p1 p2 p3) fun y0=>cond (y0.1 == ([116,114,117,101]:LB)) (ob (c128 1 y0.2.1 (IntKind.wrap .i64 (y0.2.2.1+1)) y0.2.2.2.1 y0.2.2.2.2) fun y1=>k (y1.1,y1.2.1,y1.2.2.1,y1.2.2.2.1,y1.2.2.2.2)) (cond (y0.1 == ([102,97,108,115,101]:LB)) (ob (c128 2 y0.2.1 (IntKind.wrap .i64 (y0.2.2.1+1)) y0.2.2.2.1 y0.2.2.2.2) fun y1=>k (y1.1,y1.2.1,y1.2.2.1,y1.2.2.2.1,y1.2.2.2.2)) (cond (y0.1 == ([91]:LB)) (ob (c149 y0.2.1 y0.2.2.1 y0.2.2.2.1 y0.2.2.2.2) fun y1=>k (y1.1,y1.2.1,y1.2.2.1,y1.2.2.2.1,y1.2.2.2.2)) (cond (y0.1 == ([40]:LB)) (ob (c150 y0.2.1 y0.2.2.1 y0.2.2.2.1 y0.2.2.2.2) fun y1=>k (y1.1,y1.2.1,y1.2.2.1,y1.2.2.2.1,y1.2.2.2.2)) (ob (c151 2 y0.2.1 y0.2.2.1 y0.2.2.2.1 y0.2.2.2.2) fun y1=>k (y1.1,y1.2.1,y1.2.2.1,y1.2.2.2.1,y1.2.2.2.2)))))
theorem eq148 {R:Type} (B:Ops) (c127:C127) (c128:C128) (c149:C149) (c150:C150) (c151:C151) (p0:L85) (p1 p2:Int) (p3:L78) (k:AV→Objs→Option R) (n:Nat):afun tau B gl0 X148 (ent 127 (e127 c127) (ent 128 (e128 c128) (ent 149 (e149 c149) (ent 150 (e150 c150) (ent 151 (e151 c151) gnil))))) ow Tryd.f148 [.c (.ptr 0 0)] [(0,.box 122 [.list 85 ty85 p0,.int .i64 p1,.own 1002,.int .i64 p2]),(1002,.row 78 ty78 p3)] k n=T148 B c127 c128 c149 c150 c151 p0 p1 p2 p3 (K16 k):=by kernel_rfl
theorem nt148 {R R':Type} (B:Ops) (c127:C127) (c128:C128) (c149:C149) (c150:C150) (c151:C151) (p0:L85) (p1 p2:Int) (p3:L78) (k0:(Bool×L85×Int×Int×L78)→Option R') (k:R'→Option R):T148 B c127 c128 c149 c150 c151 p0 p1 p2 p3 (fun y=>ob (k0 y) k)=ob (T148 B c127 c128 c149 c150 c151 p0 p1 p2 p3 k0) k:=by
 unfold T148
 repeat' first | exact rfl | apply qac | (apply qai;intro)
def F148 (c127:C127) (c128:C128) (c149:C149) (c150:C150) (c151:C151) (p0:L85) (p1 p2:Int) (p3:L78):Option (Bool×L85×Int×Int×L78):=T148 Ops.std c127 c128 c149 c150 c151 p0 p1 p2 p3 some
theorem sf148 {c127:C127} {c128:C128} {c149:C149} {c150:C150} {c151:C151} (h127:Sp127 c127) (h128:Sp128 c128) (h149:Sp149 c149) (h150:Sp150 c150) (h151:Sp151 c151):Sp148 (F148 c127 c128 c149 c150 c151):=fun p0 p1 p2 p3 y hy=>by
 refine qae (qab (ek127 h127) (qab (ek128 h128) (qab (ek149 h149) (qab (ek150 h150) (qab (ek151 h151) qad))))) 1000000 (fn:=Tryd.f148) (by kernel_rfl) (by kernel_rfl) (X:=X148) (by kernel_rfl) ?_
 rw [eq148]
 exact (nt148 Ops.std c127 c128 c149 c150 c151 p0 p1 p2 p3 some (K16 k0)).trans (by show ob (F148 c127 c128 c149 c150 c151 p0 p1 p2 p3) _=_;rw [hy];rfl)
def X150:Aux:=⟨[],[]⟩
def T150 {R:Type} (B:Ops) (c80:C80) (c127:C127) (c151:C151) (p0:L85) (p1 p2:Int) (p3:L78) (k:(Bool×L85×Int×Int×L78)→Option R):Option R:=ob (c80 p0 (IntKind.wrap .i64 (p1+1)) p2 p3) fun y0=>cond (!y0.1) (k (false,y0.2.1,y0.2.2.1,y0.2.2.2.1,y0.2.2.2.2)) (ob (c127 y0.2.1 y0.2.2.1 y0.2.2.2.1 y0.2.2.2.2) fun y1=>cond (!y1.1 == ([41]:LB)) (ob (c151 2 y1.2.1 y1.2.2.1 y1.2.2.2.1 y1.2.2.2.2) fun y2=>k (y2.1,y2.2.1,y2.2.2.1,y2.2.2.2.1,y2.2.2.2.2)) (k ((true,y1.2.1,IntKind.wrap .i64 (y1.2.2.1+1),y1.2.2.2.1,y1.2.2.2.2))))
theorem eq150 {R:Type} (B:Ops) (c80:C80) (c127:C127) (c151:C151) (p0:L85) (p1 p2:Int) (p3:L78) (k:AV→Objs→Option R) (n:Nat):afun tau B gl0 X150 (ent 80 (e80 c80) (ent 127 (e127 c127) (ent 151 (e151 c151) gnil))) ow Tryd.f150 [.c (.ptr 0 0)] [(0,.box 122 [.list 85 ty85 p0,.int .i64 p1,.own 1002,.int .i64 p2]),(1002,.row 78 ty78 p3)] k n=T150 B c80 c127 c151 p0 p1 p2 p3 (K16 k):=by kernel_rfl
theorem nt150 {R R':Type} (B:Ops) (c80:C80) (c127:C127) (c151:C151) (p0:L85) (p1 p2:Int) (p3:L78) (k0:(Bool×L85×Int×Int×L78)→Option R') (k:R'→Option R):T150 B c80 c127 c151 p0 p1 p2 p3 (fun y=>ob (k0 y) k)=ob (T150 B c80 c127 c151 p0 p1 p2 p3 k0) k:=by
 unfold T150
 repeat' first | exact rfl | apply qac | (apply qai;intro)
def F150 (c80:C80) (c127:C127) (c151:C151) (p0:L85) (p1 p2:Int) (p3:L78):Option (Bool×L85×Int×Int×L78):=T150 Ops.std c80 c127 c151 p0 p1 p2 p3 some
theorem sf150 {c80:C80} {c127:C127} {c151:C151} (h80:Sp80 c80) (h127:Sp127 c127) (h151:Sp151 c151):Sp150 (F150 c80 c127 c151):=fun p0 p1 p2 p3 y hy=>by
 refine qae (qab (ek80 h80) (qab (ek127 h127) (qab (ek151 h151) qad))) 1000000 (fn:=Tryd.f150) (by kernel_rfl) (by kernel_rfl) (X:=X150) (by kernel_rfl) ?_
 rw [eq150]
 exact (nt150 Ops.std c80 c127 c151 p0 p1 p2 p3 some (K16 k0)).trans (by show ob (F150 c80 c127 c151 p0 p1 p2 p3) _=_;rw [hy];rfl)
def X179:Aux:=⟨[(2,([0,4,5,6]++rg 8 30)),(3000010,([0,1,2]++rg 4 28++[33,34,35,36,37]))],[]⟩
inductive S179 where
 | l0 (v0:L85) (v1 v2:Int) (v3:L3) (v4:L78)
 | l1010 (v0:Int) (v1:L85) (v2 v3:Int) (v4:L78) (v5:L3)
def T179 {R:Type} (B:Ops) (c127:C127) (c123:C123) (c128:C128) (c143:C143) (c144:C144) (p0:L85) (p1 p2:Int) (p3:L78) (again:S179→Option R) (k:(Bool×L85×Int×Int×L78)→Option R):Option S179→Option R | none=>again (.l0 p0 p1 p2 (mt (Ty.den (Ty.int .i64))) p3) | some (.l0 v0 v1 v2 v3 v4)=>ob (c144 v0 v1 v2 v4) fun y0=>cond (!y0.1) (k (false,y0.2.1,y0.2.2.1,y0.2.2.2.1,y0.2.2.2.2)) (ob (c127 y0.2.1 y0.2.2.1 y0.2.2.2.1 y0.2.2.2.2) fun y1=>ob (c143 y1.1) fun y2=>cond (B.eq y2 0) (ob (c123 v3) fun y3=>again (.l1010 (Nat.cast y3.length-1) y1.2.1 y1.2.2.1 y1.2.2.2.1 y1.2.2.2.2 y3)) (cond (B.lim (List.length v3+List.length (y2::mt (Ty.den (Ty.int .i64)))) 8) (again (.l0 y1.2.1 (IntKind.wrap .i64 (y1.2.2.1+1)) y1.2.2.2.1 (v3++y2::mt (Ty.den (Ty.int .i64))) y1.2.2.2.2)) none)) | some (.l1010 v0 v1 v2 v3 v4 v5)=>cond (B.lt v0 0) (k (true,v1,v2,v3,v4)) (cond (B.lt v0 (↑v5.length)) (ob (c128 (v5.getD v0.toNat 0) v1 v2 v3 v4) fun y0=>again (.l1010 (v0-1) y0.2.1 y0.2.2.1 y0.2.2.2.1 y0.2.2.2.2 v5)) none)
def E179 (p0:L85) (p1 p2:Int) (p3:L78):S179→List AV×Objs
 | .l0 v0 v1 v2 v3 v4=>(mk 38 [(1,.fn 143 []),(2,.bm 144 [.ptr 0 0]),(3,.c (.ptr 3 0)),(7,.c (.own 7))],[(0,.box 122 [.list 85 ty85 v0,.int .i64 v1,.own 1002,.int .i64 v2]),(3,.box 120 [.ptr 0 0]),(7,.row 3 ty3 v3),(1002,.row 78 ty78 v4)])
 | .l1010 v0 v1 v2 v3 v4 v5=>(mk 38 [(3,.c (.ptr 3 0)),(32,.fn 136 [.ptr 33500 0]),(33,.c (.int .i64 v0))],[(0,.box 122 [.list 85 ty85 v1,.int .i64 v2,.own 1002,.int .i64 v3]),(3,.box 120 [.ptr 0 0]),(1002,.row 78 ty78 v4),(33500,.box 22 [.list 3 ty3 v5])])
def I179:S179→Nat
 | .l0 _ _ _ _ _=>0
 | .l1010 _ _ _ _ _ _=>1010
noncomputable abbrev A179 {R:Type} (B:Ops) (c127:C127) (c123:C123) (c128:C128) (c143:C143) (c144:C144) (p0:L85) (p1 p2:Int) (p3:L78) (k:AV→Objs→Option R) (s:S179) (n:Nat):Option R:=aloop tau B gl0 X179 (ent 127 (e127 c127) (ent 123 (e123 c123) (ent 128 (e128 c128) (ent 143 (e143 c143) (ent 144 (e144 c144) gnil))))) ow [0] Tryd.f114 k (I179 s) (E179 p0 p1 p2 p3 s) n
theorem eq179 {R:Type} (B:Ops) (c127:C127) (c123:C123) (c128:C128) (c143:C143) (c144:C144) (p0:L85) (p1 p2:Int) (p3:L78) (k:AV→Objs→Option R) (n:Nat):afun tau B gl0 X179 (ent 127 (e127 c127) (ent 123 (e123 c123) (ent 128 (e128 c128) (ent 143 (e143 c143) (ent 144 (e144 c144) gnil))))) ow Tryd.f114 [.c (.ptr 0 0),.fn 143 [],.bm 144 [.ptr 0 0]] [(0,.box 122 [.list 85 ty85 p0,.int .i64 p1,.own 1002,.int .i64 p2]),(1002,.row 78 ty78 p3)] k n=T179 B c127 c123 c128 c143 c144 p0 p1 p2 p3 (fun s=>A179 B c127 c123 c128 c143 c144 p0 p1 p2 p3 k s n) (K16 k) none:=by kernel_rfl
theorem el179 {R:Type} (B:Ops) (c127:C127) (c123:C123) (c128:C128) (c143:C143) (c144:C144) (p0:L85) (p1 p2:Int) (p3:L78) (k:AV→Objs→Option R) (n:Nat):∀ s,A179 B c127 c123 c128 c143 c144 p0 p1 p2 p3 k s (n+1)=T179 B c127 c123 c128 c143 c144 p0 p1 p2 p3 (fun s=>A179 B c127 c123 c128 c143 c144 p0 p1 p2 p3 k s n) (K16 k) (some s):=by
 intro s
 cases s<;>kernel_rfl
theorem nt179 {R R':Type} (B:Ops) (c127:C127) (c123:C123) (c128:C128) (c143:C143) (c144:C144) (p0:L85) (p1 p2:Int) (p3:L78) (again:S179→Option R) (again':S179→Option R') (k0:(Bool×L85×Int×Int×L78)→Option R') (k:R'→Option R) (h:∀ s,again s=ob (again' s) k):∀ s,T179 B c127 c123 c128 c143 c144 p0 p1 p2 p3 again (fun y=>ob (k0 y) k) s=ob (T179 B c127 c123 c128 c143 c144 p0 p1 p2 p3 again' k0 s) k:=by
 rintro (_ | x)
 all_goals try cases x
 all_goals (unfold T179;repeat' first | exact rfl | exact h _ | apply qac | (apply qai;intro))
def R179 (c127:C127) (c123:C123) (c128:C128) (c143:C143) (c144:C144) (p0:L85) (p1 p2:Int) (p3:L78):Nat→S179→Option (Bool×L85×Int×Int×L78)
 | 0,_=>none
 | n+1,s=>T179 Ops.std c127 c123 c128 c143 c144 p0 p1 p2 p3 (R179 c127 c123 c128 c143 c144 p0 p1 p2 p3 n) some (some s)
theorem rr179 {R:Type} (c127:C127) (c123:C123) (c128:C128) (c143:C143) (c144:C144) (p0:L85) (p1 p2:Int) (p3:L78) (k:AV→Objs→Option R):∀ (n:Nat) (s:S179),A179 Ops.std c127 c123 c128 c143 c144 p0 p1 p2 p3 k s n=ob (R179 c127 c123 c128 c143 c144 p0 p1 p2 p3 n s) (K16 k)
 | 0,s=>by cases s<;>rfl
 | n+1,s=>by rw [el179];exact nt179 Ops.std c127 c123 c128 c143 c144 p0 p1 p2 p3 _ _ some (K16 k) (rr179 c127 c123 c128 c143 c144 p0 p1 p2 p3 k n) (some s)
def F179 (c127:C127) (c123:C123) (c128:C128) (c143:C143) (c144:C144) (p0:L85) (p1 p2:Int) (p3:L78):Option (Bool×L85×Int×Int×L78):=T179 Ops.std c127 c123 c128 c143 c144 p0 p1 p2 p3 (R179 c127 c123 c128 c143 c144 p0 p1 p2 p3 1000000) some none
theorem sf179 {c127:C127} {c123:C123} {c128:C128} {c143:C143} {c144:C144} (h127:Sp127 c127) (h123:Sp123 c123) (h128:Sp128 c128) (h143:Sp143 c143) (h144:Sp144 c144):Sp179 (F179 c127 c123 c128 c143 c144):=fun p0 p1 p2 p3 y hy=>by
 refine qae (qab (ek127 h127) (qab (ek123 h123) (qab (ek128 h128) (qab (ek143 h143) (qab (ek144 h144) qad))))) 1000000 (fn:=Tryd.f114) (by kernel_rfl) (by kernel_rfl) (X:=X179) (by kernel_rfl) ?_
 rw [eq179]
 exact (nt179 Ops.std c127 c123 c128 c143 c144 p0 p1 p2 p3 _ _ some (K16 k0) (rr179 c127 c123 c128 c143 c144 p0 p1 p2 p3 k0 1000000) none).trans (by show ob (F179 c127 c123 c128 c143 c144 p0 p1 p2 p3) _=_;rw [hy];rfl)
def X180:Aux:=⟨[(3,(rg 4 25))],[]⟩
inductive S180 where
 | l0 (v2:L85) (v3 v4:Int) (v5:L78)
def T180 {R:Type} (B:Ops) (c127:C127) (c128:C128) (c137:C137) (p0:LB) (p1:Int) (p2:L85) (p3 p4:Int) (p5:L78) (again:S180→Option R) (k:(Bool×L85×Int×Int×L78)→Option R):Option S180→Option R | none=>ob (c137 p2 p3 p4 p5) fun y0=>cond (!y0.1) (k (false,y0.2.1,y0.2.2.1,y0.2.2.2.1,y0.2.2.2.2)) (again (.l0 y0.2.1 y0.2.2.1 y0.2.2.2.1 y0.2.2.2.2)) | some (.l0 v2 v3 v4 v5)=>ob (c127 v2 v3 v4 v5) fun y0=>cond (y0.1 == p0) (ob (c137 y0.2.1 (IntKind.wrap .i64 (y0.2.2.1+1)) y0.2.2.2.1 y0.2.2.2.2) fun y1=>cond (!y1.1) (k (false,y1.2.1,y1.2.2.1,y1.2.2.2.1,y1.2.2.2.2)) (ob (c128 p1 y1.2.1 y1.2.2.1 y1.2.2.2.1 y1.2.2.2.2) fun y2=>again (.l0 y2.2.1 y2.2.2.1 y2.2.2.2.1 y2.2.2.2.2))) (k (true,y0.2.1,y0.2.2.1,y0.2.2.2.1,y0.2.2.2.2))
def E180 (p0:LB) (p1:Int) (p2:L85) (p3 p4:Int) (p5:L78):S180→List AV×Objs
 | .l0 v2 v3 v4 v5=>(mk 29 [(0,.c (.ptr 0 0)),(1,.c (.str p0)),(2,.c (.int .i64 p1)),(3,.bm 137 [.ptr 0 0])],[(0,.box 122 [.list 85 ty85 v2,.int .i64 v3,.own 1002,.int .i64 v4]),(1002,.row 78 ty78 v5)])
def I180:S180→Nat
 | .l0 _ _ _ _=>0
noncomputable abbrev A180 {R:Type} (B:Ops) (c127:C127) (c128:C128) (c137:C137) (p0:LB) (p1:Int) (p2:L85) (p3 p4:Int) (p5:L78) (k:AV→Objs→Option R) (s:S180) (n:Nat):Option R:=aloop tau B gl0 X180 (ent 127 (e127 c127) (ent 128 (e128 c128) (ent 137 (e137 c137) gnil))) ow [0] Tryd.f129 k (I180 s) (E180 p0 p1 p2 p3 p4 p5 s) n
theorem eq180 {R:Type} (B:Ops) (c127:C127) (c128:C128) (c137:C137) (p0:LB) (p1:Int) (p2:L85) (p3 p4:Int) (p5:L78) (k:AV→Objs→Option R) (n:Nat):afun tau B gl0 X180 (ent 127 (e127 c127) (ent 128 (e128 c128) (ent 137 (e137 c137) gnil))) ow Tryd.f129 [.c (.ptr 0 0),.c (.str p0),.c (.int .i64 p1),.bm 137 [.ptr 0 0]] [(0,.box 122 [.list 85 ty85 p2,.int .i64 p3,.own 1002,.int .i64 p4]),(1002,.row 78 ty78 p5)] k n=T180 B c127 c128 c137 p0 p1 p2 p3 p4 p5 (fun s=>A180 B c127 c128 c137 p0 p1 p2 p3 p4 p5 k s n) (K16 k) none:=by kernel_rfl
theorem el180 {R:Type} (B:Ops) (c127:C127) (c128:C128) (c137:C137) (p0:LB) (p1:Int) (p2:L85) (p3 p4:Int) (p5:L78) (k:AV→Objs→Option R) (n:Nat):∀ s,A180 B c127 c128 c137 p0 p1 p2 p3 p4 p5 k s (n+1)=T180 B c127 c128 c137 p0 p1 p2 p3 p4 p5 (fun s=>A180 B c127 c128 c137 p0 p1 p2 p3 p4 p5 k s n) (K16 k) (some s):=by
 intro s
 cases s<;>kernel_rfl
theorem nt180 {R R':Type} (B:Ops) (c127:C127) (c128:C128) (c137:C137) (p0:LB) (p1:Int) (p2:L85) (p3 p4:Int) (p5:L78) (again:S180→Option R) (again':S180→Option R') (k0:(Bool×L85×Int×Int×L78)→Option R') (k:R'→Option R) (h:∀ s,again s=ob (again' s) k):∀ s,T180 B c127 c128 c137 p0 p1 p2 p3 p4 p5 again (fun y=>ob (k0 y) k) s=ob (T180 B c127 c128 c137 p0 p1 p2 p3 p4 p5 again' k0 s) k:=by
 rintro (_ | x)
 all_goals try cases x
 all_goals (unfold T180;repeat' first | exact rfl | exact h _ | apply qac | (apply qai;intro))
def R180 (c127:C127) (c128:C128) (c137:C137) (p0:LB) (p1:Int) (p2:L85) (p3 p4:Int) (p5:L78):Nat→S180→Option (Bool×L85×Int×Int×L78)
 | 0,_=>none
 | n+1,s=>T180 Ops.std c127 c128 c137 p0 p1 p2 p3 p4 p5 (R180 c127 c128 c137 p0 p1 p2 p3 p4 p5 n) some (some s)
theorem rr180 {R:Type} (c127:C127) (c128:C128) (c137:C137) (p0:LB) (p1:Int) (p2:L85) (p3 p4:Int) (p5:L78) (k:AV→Objs→Option R):∀ (n:Nat) (s:S180),A180 Ops.std c127 c128 c137 p0 p1 p2 p3 p4 p5 k s n=ob (R180 c127 c128 c137 p0 p1 p2 p3 p4 p5 n s) (K16 k)
 | 0,s=>by cases s<;>rfl
 | n+1,s=>by rw [el180];exact nt180 Ops.std c127 c128 c137 p0 p1 p2 p3 p4 p5 _ _ some (K16 k) (rr180 c127 c128 c137 p0 p1 p2 p3 p4 p5 k n) (some s)
def F180 (c127:C127) (c128:C128) (c137:C137) (p0:LB) (p1:Int) (p2:L85) (p3 p4:Int) (p5:L78):Option (Bool×L85×Int×Int×L78):=T180 Ops.std c127 c128 c137 p0 p1 p2 p3 p4 p5 (R180 c127 c128 c137 p0 p1 p2 p3 p4 p5 1000000) some none
theorem sf180 {c127:C127} {c128:C128} {c137:C137} (h127:Sp127 c127) (h128:Sp128 c128) (h137:Sp137 c137):Sp180 (F180 c127 c128 c137):=fun p0 p1 p2 p3 p4 p5 y hy=>by
 refine qae (qab (ek127 h127) (qab (ek128 h128) (qab (ek137 h137) qad))) 1000000 (fn:=Tryd.f129) (by kernel_rfl) (by kernel_rfl) (X:=X180) (by kernel_rfl) ?_
 rw [eq180]
 exact (nt180 Ops.std c127 c128 c137 p0 p1 p2 p3 p4 p5 _ _ some (K16 k0) (rr180 c127 c128 c137 p0 p1 p2 p3 p4 p5 k0 1000000) none).trans (by show ob (F180 c127 c128 c137 p0 p1 p2 p3 p4 p5) _=_;rw [hy];rfl)
def X129:Aux:=⟨[(3,(rg 4 25))],[]⟩
inductive S129 where
 | l0 (v2:L85) (v3 v4:Int) (v5:L78)
def T129 {R:Type} (B:Ops) (c127:C127) (c128:C128) (c130:C130) (p0:LB) (p1:Int) (p2:L85) (p3 p4:Int) (p5:L78) (again:S129→Option R) (k:(Bool×L85×Int×Int×L78)→Option R):Option S129→Option R | none=>ob (c130 p2 p3 p4 p5) fun y0=>cond (!y0.1) (k (false,y0.2.1,y0.2.2.1,y0.2.2.2.1,y0.2.2.2.2)) (again (.l0 y0.2.1 y0.2.2.1 y0.2.2.2.1 y0.2.2.2.2)) | some (.l0 v2 v3 v4 v5)=>ob (c127 v2 v3 v4 v5) fun y0=>cond (y0.1 == p0) (ob (c130 y0.2.1 (IntKind.wrap .i64 (y0.2.2.1+1)) y0.2.2.2.1 y0.2.2.2.2) fun y1=>cond (!y1.1) (k (false,y1.2.1,y1.2.2.1,y1.2.2.2.1,y1.2.2.2.2)) (ob (c128 p1 y1.2.1 y1.2.2.1 y1.2.2.2.1 y1.2.2.2.2) fun y2=>again (.l0 y2.2.1 y2.2.2.1 y2.2.2.2.1 y2.2.2.2.2))) (k (true,y0.2.1,y0.2.2.1,y0.2.2.2.1,y0.2.2.2.2))
def E129 (p0:LB) (p1:Int) (p2:L85) (p3 p4:Int) (p5:L78):S129→List AV×Objs
 | .l0 v2 v3 v4 v5=>(mk 29 [(0,.c (.ptr 0 0)),(1,.c (.str p0)),(2,.c (.int .i64 p1)),(3,.bm 130 [.ptr 0 0])],[(0,.box 122 [.list 85 ty85 v2,.int .i64 v3,.own 1002,.int .i64 v4]),(1002,.row 78 ty78 v5)])
def I129:S129→Nat
 | .l0 _ _ _ _=>0
noncomputable abbrev A129 {R:Type} (B:Ops) (c127:C127) (c128:C128) (c130:C130) (p0:LB) (p1:Int) (p2:L85) (p3 p4:Int) (p5:L78) (k:AV→Objs→Option R) (s:S129) (n:Nat):Option R:=aloop tau B gl0 X129 (ent 127 (e127 c127) (ent 128 (e128 c128) (ent 130 (e130 c130) gnil))) ow [0] Tryd.f129 k (I129 s) (E129 p0 p1 p2 p3 p4 p5 s) n
theorem eq129 {R:Type} (B:Ops) (c127:C127) (c128:C128) (c130:C130) (p0:LB) (p1:Int) (p2:L85) (p3 p4:Int) (p5:L78) (k:AV→Objs→Option R) (n:Nat):afun tau B gl0 X129 (ent 127 (e127 c127) (ent 128 (e128 c128) (ent 130 (e130 c130) gnil))) ow Tryd.f129 [.c (.ptr 0 0),.c (.str p0),.c (.int .i64 p1),.bm 130 [.ptr 0 0]] [(0,.box 122 [.list 85 ty85 p2,.int .i64 p3,.own 1002,.int .i64 p4]),(1002,.row 78 ty78 p5)] k n=T129 B c127 c128 c130 p0 p1 p2 p3 p4 p5 (fun s=>A129 B c127 c128 c130 p0 p1 p2 p3 p4 p5 k s n) (K16 k) none:=by kernel_rfl
theorem el129 {R:Type} (B:Ops) (c127:C127) (c128:C128) (c130:C130) (p0:LB) (p1:Int) (p2:L85) (p3 p4:Int) (p5:L78) (k:AV→Objs→Option R) (n:Nat):∀ s,A129 B c127 c128 c130 p0 p1 p2 p3 p4 p5 k s (n+1)=T129 B c127 c128 c130 p0 p1 p2 p3 p4 p5 (fun s=>A129 B c127 c128 c130 p0 p1 p2 p3 p4 p5 k s n) (K16 k) (some s):=by
 intro s
 cases s<;>kernel_rfl
theorem nt129 {R R':Type} (B:Ops) (c127:C127) (c128:C128) (c130:C130) (p0:LB) (p1:Int) (p2:L85) (p3 p4:Int) (p5:L78) (again:S129→Option R) (again':S129→Option R') (k0:(Bool×L85×Int×Int×L78)→Option R') (k:R'→Option R) (h:∀ s,again s=ob (again' s) k):∀ s,T129 B c127 c128 c130 p0 p1 p2 p3 p4 p5 again (fun y=>ob (k0 y) k) s=ob (T129 B c127 c128 c130 p0 p1 p2 p3 p4 p5 again' k0 s) k:=by
 rintro (_ | x)
 all_goals try cases x
 all_goals (unfold T129;repeat' first | exact rfl | exact h _ | apply qac | (apply qai;intro))
def R129 (c127:C127) (c128:C128) (c130:C130) (p0:LB) (p1:Int) (p2:L85) (p3 p4:Int) (p5:L78):Nat→S129→Option (Bool×L85×Int×Int×L78)
 | 0,_=>none
 | n+1,s=>T129 Ops.std c127 c128 c130 p0 p1 p2 p3 p4 p5 (R129 c127 c128 c130 p0 p1 p2 p3 p4 p5 n) some (some s)
theorem rr129 {R:Type} (c127:C127) (c128:C128) (c130:C130) (p0:LB) (p1:Int) (p2:L85) (p3 p4:Int) (p5:L78) (k:AV→Objs→Option R):∀ (n:Nat) (s:S129),A129 Ops.std c127 c128 c130 p0 p1 p2 p3 p4 p5 k s n=ob (R129 c127 c128 c130 p0 p1 p2 p3 p4 p5 n s) (K16 k)
 | 0,s=>by cases s<;>rfl
 | n+1,s=>by rw [el129];exact nt129 Ops.std c127 c128 c130 p0 p1 p2 p3 p4 p5 _ _ some (K16 k) (rr129 c127 c128 c130 p0 p1 p2 p3 p4 p5 k n) (some s)
def F129 (c127:C127) (c128:C128) (c130:C130) (p0:LB) (p1:Int) (p2:L85) (p3 p4:Int) (p5:L78):Option (Bool×L85×Int×Int×L78):=T129 Ops.std c127 c128 c130 p0 p1 p2 p3 p4 p5 (R129 c127 c128 c130 p0 p1 p2 p3 p4 p5 1000000) some none
theorem sf129 {c127:C127} {c128:C128} {c130:C130} (h127:Sp127 c127) (h128:Sp128 c128) (h130:Sp130 c130):Sp129 (F129 c127 c128 c130):=fun p0 p1 p2 p3 p4 p5 y hy=>by
 refine qae (qab (ek127 h127) (qab (ek128 h128) (qab (ek130 h130) qad))) 1000000 (fn:=Tryd.f129) (by kernel_rfl) (by kernel_rfl) (X:=X129) (by kernel_rfl) ?_
 rw [eq129]
 exact (nt129 Ops.std c127 c128 c130 p0 p1 p2 p3 p4 p5 _ _ some (K16 k0) (rr129 c127 c128 c130 p0 p1 p2 p3 p4 p5 k0 1000000) none).trans (by show ob (F129 c127 c128 c130 p0 p1 p2 p3 p4 p5) _=_;rw [hy];rfl)
def X114:Aux:=⟨[(2,([0,4,5,6]++rg 8 30)),(3000010,([0,1,2]++rg 4 28++[33,34,35,36,37]))],[]⟩
inductive S114 where
 | l0 (v0:L85) (v1 v2:Int) (v3:L3) (v4:L78)
 | l1010 (v0:Int) (v1:L85) (v2 v3:Int) (v4:L78) (v5:L3)
def T114 {R:Type} (B:Ops) (c127:C127) (c123:C123) (c128:C128) (c115:C115) (c116:C116) (p0:L85) (p1 p2:Int) (p3:L78) (again:S114→Option R) (k:(Bool×L85×Int×Int×L78)→Option R):Option S114→Option R | none=>again (.l0 p0 p1 p2 (mt (Ty.den (Ty.int .i64))) p3) | some (.l0 v0 v1 v2 v3 v4)=>ob (c116 v0 v1 v2 v4) fun y0=>cond (!y0.1) (k (false,y0.2.1,y0.2.2.1,y0.2.2.2.1,y0.2.2.2.2)) (ob (c127 y0.2.1 y0.2.2.1 y0.2.2.2.1 y0.2.2.2.2) fun y1=>ob (c115 y1.1) fun y2=>cond (B.eq y2 0) (ob (c123 v3) fun y3=>again (.l1010 (Nat.cast y3.length-1) y1.2.1 y1.2.2.1 y1.2.2.2.1 y1.2.2.2.2 y3)) (cond (B.lim (List.length v3+List.length (y2::mt (Ty.den (Ty.int .i64)))) 8) (again (.l0 y1.2.1 (IntKind.wrap .i64 (y1.2.2.1+1)) y1.2.2.2.1 (v3++y2::mt (Ty.den (Ty.int .i64))) y1.2.2.2.2)) none)) | some (.l1010 v0 v1 v2 v3 v4 v5)=>cond (B.lt v0 0) (k (true,v1,v2,v3,v4)) (cond (B.lt v0 (↑v5.length)) (ob (c128 (v5.getD v0.toNat 0) v1 v2 v3 v4) fun y0=>again (.l1010 (v0-1) y0.2.1 y0.2.2.1 y0.2.2.2.1 y0.2.2.2.2 v5)) none)
def E114 (p0:L85) (p1 p2:Int) (p3:L78):S114→List AV×Objs
 | .l0 v0 v1 v2 v3 v4=>(mk 38 [(1,.fn 115 []),(2,.bm 116 [.ptr 0 0]),(3,.c (.ptr 3 0)),(7,.c (.own 7))],[(0,.box 122 [.list 85 ty85 v0,.int .i64 v1,.own 1002,.int .i64 v2]),(3,.box 120 [.ptr 0 0]),(7,.row 3 ty3 v3),(1002,.row 78 ty78 v4)])
 | .l1010 v0 v1 v2 v3 v4 v5=>(mk 38 [(3,.c (.ptr 3 0)),(32,.fn 136 [.ptr 33500 0]),(33,.c (.int .i64 v0))],[(0,.box 122 [.list 85 ty85 v1,.int .i64 v2,.own 1002,.int .i64 v3]),(3,.box 120 [.ptr 0 0]),(1002,.row 78 ty78 v4),(33500,.box 22 [.list 3 ty3 v5])])
def I114:S114→Nat
 | .l0 _ _ _ _ _=>0
 | .l1010 _ _ _ _ _ _=>1010
noncomputable abbrev A114 {R:Type} (B:Ops) (c127:C127) (c123:C123) (c128:C128) (c115:C115) (c116:C116) (p0:L85) (p1 p2:Int) (p3:L78) (k:AV→Objs→Option R) (s:S114) (n:Nat):Option R:=aloop tau B gl0 X114 (ent 127 (e127 c127) (ent 123 (e123 c123) (ent 128 (e128 c128) (ent 115 (e115 c115) (ent 116 (e116 c116) gnil))))) ow [0] Tryd.f114 k (I114 s) (E114 p0 p1 p2 p3 s) n
theorem eq114 {R:Type} (B:Ops) (c127:C127) (c123:C123) (c128:C128) (c115:C115) (c116:C116) (p0:L85) (p1 p2:Int) (p3:L78) (k:AV→Objs→Option R) (n:Nat):afun tau B gl0 X114 (ent 127 (e127 c127) (ent 123 (e123 c123) (ent 128 (e128 c128) (ent 115 (e115 c115) (ent 116 (e116 c116) gnil))))) ow Tryd.f114 [.c (.ptr 0 0),.fn 115 [],.bm 116 [.ptr 0 0]] [(0,.box 122 [.list 85 ty85 p0,.int .i64 p1,.own 1002,.int .i64 p2]),(1002,.row 78 ty78 p3)] k n=T114 B c127 c123 c128 c115 c116 p0 p1 p2 p3 (fun s=>A114 B c127 c123 c128 c115 c116 p0 p1 p2 p3 k s n) (K16 k) none:=by kernel_rfl
theorem el114 {R:Type} (B:Ops) (c127:C127) (c123:C123) (c128:C128) (c115:C115) (c116:C116) (p0:L85) (p1 p2:Int) (p3:L78) (k:AV→Objs→Option R) (n:Nat):∀ s,A114 B c127 c123 c128 c115 c116 p0 p1 p2 p3 k s (n+1)=T114 B c127 c123 c128 c115 c116 p0 p1 p2 p3 (fun s=>A114 B c127 c123 c128 c115 c116 p0 p1 p2 p3 k s n) (K16 k) (some s):=by
 intro s
 cases s<;>kernel_rfl
theorem nt114 {R R':Type} (B:Ops) (c127:C127) (c123:C123) (c128:C128) (c115:C115) (c116:C116) (p0:L85) (p1 p2:Int) (p3:L78) (again:S114→Option R) (again':S114→Option R') (k0:(Bool×L85×Int×Int×L78)→Option R') (k:R'→Option R) (h:∀ s,again s=ob (again' s) k):∀ s,T114 B c127 c123 c128 c115 c116 p0 p1 p2 p3 again (fun y=>ob (k0 y) k) s=ob (T114 B c127 c123 c128 c115 c116 p0 p1 p2 p3 again' k0 s) k:=by
 rintro (_ | x)
 all_goals try cases x
 all_goals (unfold T114;repeat' first | exact rfl | exact h _ | apply qac | (apply qai;intro))
def R114 (c127:C127) (c123:C123) (c128:C128) (c115:C115) (c116:C116) (p0:L85) (p1 p2:Int) (p3:L78):Nat→S114→Option (Bool×L85×Int×Int×L78)
 | 0,_=>none
 | n+1,s=>T114 Ops.std c127 c123 c128 c115 c116 p0 p1 p2 p3 (R114 c127 c123 c128 c115 c116 p0 p1 p2 p3 n) some (some s)
theorem rr114 {R:Type} (c127:C127) (c123:C123) (c128:C128) (c115:C115) (c116:C116) (p0:L85) (p1 p2:Int) (p3:L78) (k:AV→Objs→Option R):∀ (n:Nat) (s:S114),A114 Ops.std c127 c123 c128 c115 c116 p0 p1 p2 p3 k s n=ob (R114 c127 c123 c128 c115 c116 p0 p1 p2 p3 n s) (K16 k)
 | 0,s=>by cases s<;>rfl
 | n+1,s=>by rw [el114];exact nt114 Ops.std c127 c123 c128 c115 c116 p0 p1 p2 p3 _ _ some (K16 k) (rr114 c127 c123 c128 c115 c116 p0 p1 p2 p3 k n) (some s)
def F114 (c127:C127) (c123:C123) (c128:C128) (c115:C115) (c116:C116) (p0:L85) (p1 p2:Int) (p3:L78):Option (Bool×L85×Int×Int×L78):=T114 Ops.std c127 c123 c128 c115 c116 p0 p1 p2 p3 (R114 c127 c123 c128 c115 c116 p0 p1 p2 p3 1000000) some none
theorem sf114 {c127:C127} {c123:C123} {c128:C128} {c115:C115} {c116:C116} (h127:Sp127 c127) (h123:Sp123 c123) (h128:Sp128 c128) (h115:Sp115 c115) (h116:Sp116 c116):Sp114 (F114 c127 c123 c128 c115 c116):=fun p0 p1 p2 p3 y hy=>by
 refine qae (qab (ek127 h127) (qab (ek123 h123) (qab (ek128 h128) (qab (ek115 h115) (qab (ek116 h116) qad))))) 1000000 (fn:=Tryd.f114) (by kernel_rfl) (by kernel_rfl) (X:=X114) (by kernel_rfl) ?_
 rw [eq114]
 exact (nt114 Ops.std c127 c123 c128 c115 c116 p0 p1 p2 p3 _ _ some (K16 k0) (rr114 c127 c123 c128 c115 c116 p0 p1 p2 p3 k0 1000000) none).trans (by show ob (F114 c127 c123 c128 c115 c116 p0 p1 p2 p3) _=_;rw [hy];rfl)
noncomputable def Rec80:Nat→(L85→Int→Int→L78→Option (Bool×L85×Int×Int×L78))×(L85→Int→Int→L78→Option (Bool×L85×Int×Int×L78))×(L85→Int→Int→L78→Option (Bool×L85×Int×Int×L78))×(L85→Int→Int→L78→Option (Bool×L85×Int×Int×L78))×(L85→Int→Int→L78→Option (Bool×L85×Int×Int×L78))×(L85→Int→Int→L78→Option (Bool×L85×Int×Int×L78))×(L85→Int→Int→L78→Option (Bool×L85×Int×Int×L78))×(L85→Int→Int→L78→Option (Bool×L85×Int×Int×L78))×(LB→Int→L85→Int→Int→L78→Option (Bool×L85×Int×Int×L78))×(LB→Int→L85→Int→Int→L78→Option (Bool×L85×Int×Int×L78))×(L85→Int→Int→L78→Option (Bool×L85×Int×Int×L78))
 | 0=>(fun _ _ _ _=>none,fun _ _ _ _=>none,fun _ _ _ _=>none,fun _ _ _ _=>none,fun _ _ _ _=>none,fun _ _ _ _=>none,fun _ _ _ _=>none,fun _ _ _ _=>none,fun _ _ _ _ _ _=>none,fun _ _ _ _ _ _=>none,fun _ _ _ _=>none)
 | d+1=>(F80 (Rec80 d).2.1 (Rec80 d).2.2.2.2.2.2.2.2.2.2 M115,F116 (Rec80 d).2.2.1 (Rec80 d).2.2.2.2.2.2.2.2.2.1,F130 (Rec80 d).2.2.2.1 (Rec80 d).2.2.2.2.2.2.2.2.1,F137 (Rec80 d).2.2.2.2.1 (Rec80 d).2.2.2.2.2.2.2.1 M143,F144 M127 M147 (Rec80 d).2.2.2.2.2.1 M123 M128,F148 M127 M128 M149 (Rec80 d).2.2.2.2.2.2.1 M151,F150 (Rec80 d).1 M127 M151,F179 M127 M123 M128 M143 (Rec80 d).2.2.2.2.1,F180 M127 M128 (Rec80 d).2.2.2.1,F129 M127 M128 (Rec80 d).2.2.1,F114 M127 M123 M128 M115 (Rec80 d).2.1)
theorem rec80:∀ d,Sp80 (Rec80 d).1∧Sp116 (Rec80 d).2.1∧Sp130 (Rec80 d).2.2.1∧Sp137 (Rec80 d).2.2.2.1∧Sp144 (Rec80 d).2.2.2.2.1∧Sp148 (Rec80 d).2.2.2.2.2.1∧Sp150 (Rec80 d).2.2.2.2.2.2.1∧Sp179 (Rec80 d).2.2.2.2.2.2.2.1∧Sp180 (Rec80 d).2.2.2.2.2.2.2.2.1∧Sp129 (Rec80 d).2.2.2.2.2.2.2.2.2.1∧Sp114 (Rec80 d).2.2.2.2.2.2.2.2.2.2
 | 0=>⟨(fun p0 p1 p2 p3 y (h:(none:Option (Bool×L85×Int×Int×L78))=some y)=>by cases h),(fun p0 p1 p2 p3 y (h:(none:Option (Bool×L85×Int×Int×L78))=some y)=>by cases h),(fun p0 p1 p2 p3 y (h:(none:Option (Bool×L85×Int×Int×L78))=some y)=>by cases h),(fun p0 p1 p2 p3 y (h:(none:Option (Bool×L85×Int×Int×L78))=some y)=>by cases h),(fun p0 p1 p2 p3 y (h:(none:Option (Bool×L85×Int×Int×L78))=some y)=>by cases h),(fun p0 p1 p2 p3 y (h:(none:Option (Bool×L85×Int×Int×L78))=some y)=>by cases h),(fun p0 p1 p2 p3 y (h:(none:Option (Bool×L85×Int×Int×L78))=some y)=>by cases h),(fun p0 p1 p2 p3 y (h:(none:Option (Bool×L85×Int×Int×L78))=some y)=>by cases h),(fun p0 p1 p2 p3 p4 p5 y (h:(none:Option (Bool×L85×Int×Int×L78))=some y)=>by cases h),(fun p0 p1 p2 p3 p4 p5 y (h:(none:Option (Bool×L85×Int×Int×L78))=some y)=>by cases h),(fun p0 p1 p2 p3 y (h:(none:Option (Bool×L85×Int×Int×L78))=some y)=>by cases h)⟩
 | d+1=>⟨sf80 (rec80 d).2.1 (rec80 d).2.2.2.2.2.2.2.2.2.2 sm115,sf116 (rec80 d).2.2.1 (rec80 d).2.2.2.2.2.2.2.2.2.1,sf130 (rec80 d).2.2.2.1 (rec80 d).2.2.2.2.2.2.2.2.1,sf137 (rec80 d).2.2.2.2.1 (rec80 d).2.2.2.2.2.2.2.1 sm143,sf144 sm127 sm147 (rec80 d).2.2.2.2.2.1 sm123 sm128,sf148 sm127 sm128 sm149 (rec80 d).2.2.2.2.2.2.1 sm151,sf150 (rec80 d).1 sm127 sm151,sf179 sm127 sm123 sm128 sm143 (rec80 d).2.2.2.2.1,sf180 sm127 sm128 (rec80 d).2.2.2.1,sf129 sm127 sm128 (rec80 d).2.2.1,sf114 sm127 sm123 sm128 sm115 (rec80 d).2.1⟩
noncomputable def M80:C80:=(Rec80 1000000).1
theorem sm80:Sp80 M80:=(rec80 1000000).1
def X39:Aux:=⟨[],[(6,.lin (rg 0 15)),(8,.lin (rg 0 11))]⟩
def T39 {R:Type} (B:Ops) (c29:C29) (c80:C80) (p0:LB) (k:(Int×Int×L78)→Option R):Option R:=ob (c29 p0) fun y0=>cond (!B.eq y0.1 0) (k ((y0.1,y0.2.1,mt (Ty.den ty78)))) (ob (c80 y0.2.2 0 0 (mt (Ty.den ty78))) fun y1=>cond (!y1.1) (cond (B.inb y1.2.2.1 (List.length y0.2.2)) (k ((y1.2.2.2.1,(((List.getD y0.2.2 (Int.toNat y1.2.2.1) ty85.dflt).2).2).2,mt (Ty.den ty78)))) none) (cond (B.inb y1.2.2.1 (List.length y0.2.2)) (cond (!B.eq (List.getD y0.2.2 (Int.toNat y1.2.2.1) ty85.dflt).1 5) (cond (B.inb y1.2.2.1 (List.length y0.2.2)) (k ((2,(((List.getD y0.2.2 (Int.toNat y1.2.2.1) ty85.dflt).2).2).2,mt (Ty.den ty78)))) none) (cond (B.lt 24 (Nat.cast (List.length y1.2.2.2.2))) (k ((13,0,mt (Ty.den ty78)))) (k (0,0,y1.2.2.2.2)))) none))
abbrev K17 {R:Type} (k:AV→Objs→Option R) (y:(Int×Int×L78)):Option R:=k (.tup [(false,[.own 501000]),(false,[.int .i64 y.1]),(false,[.int .i64 y.2.1])]) [(501000,.row 78 ty78 y.2.2)]
theorem eq39 {R:Type} (B:Ops) (c29:C29) (c80:C80) (p0:LB) (k:AV→Objs→Option R) (n:Nat):afun tau B gl0 X39 (ent 29 (e29 c29) (ent 80 (e80 c80) gnil)) ow Tryd.f39 [.c (.str p0)] [] k n=T39 B c29 c80 p0 (K17 k):=by kernel_rfl
theorem nt39 {R R':Type} (B:Ops) (c29:C29) (c80:C80) (p0:LB) (k0:(Int×Int×L78)→Option R') (k:R'→Option R):T39 B c29 c80 p0 (fun y=>ob (k0 y) k)=ob (T39 B c29 c80 p0 k0) k:=by
 unfold T39
 repeat' first | exact rfl | apply qac | (apply qai;intro)
def F39 (c29:C29) (c80:C80) (p0:LB):Option (Int×Int×L78):=T39 Ops.std c29 c80 p0 some
abbrev C39:Type:=LB→Option (Int×Int×L78)
def e39 {R:Type} (c:C39):Ent R:=eG [.aC .cS] [] fun v k=>ob (c v.1) (K17 k)
abbrev Sp39 (c:C39):Prop:=∀ (p0:LB) (y:Int×Int×L78),c p0=some y→Spec Tryd.prog gl0 39 [.c (.str p0)] [] (.tup [(false,[.own 501000]),(false,[.int .i64 y.1]),(false,[.int .i64 y.2.1])]) [(501000,.row 78 ty78 y.2.2)]
theorem ek39 {R:Type} {c:C39} (hs:Sp39 c):EOk 39 (e39 (R:=R) c):=qan fun v=>hs v.1
theorem sf39 {c29:C29} {c80:C80} (h29:Sp29 c29) (h80:Sp80 c80):Sp39 (F39 c29 c80):=fun p0 y hy=>by
 refine qae (qab (ek29 h29) (qab (ek80 h80) qad)) 1000000 (fn:=Tryd.f39) (by kernel_rfl) (by kernel_rfl) (X:=X39) (by kernel_rfl) ?_
 rw [eq39]
 exact (nt39 Ops.std c29 c80 p0 some (K17 k0)).trans (by show ob (F39 c29 c80 p0) _=_;rw [hy];rfl)
noncomputable def M39:C39:=F39 M29 M80
theorem sm39:Sp39 M39:=sf39 sm29 sm80
def X82:Aux:=⟨[],[]⟩
def T82 {R:Type} (B:Ops) (p0:Int) (k:(Int)→Option R):Option R:=cond (B.eq p0 1) (k 0) (cond (B.eq p0 2) (k 0) (cond (B.eq p0 3) (k 0) (cond (B.eq p0 4) (k 1) (cond (B.eq p0 8) (k 1) (cond (B.eq p0 11) (k 1) (cond (B.eq p0 12) (k 1) (cond (B.eq p0 5) (k 2) (cond (B.eq p0 6) (k 2) (cond (B.eq p0 7) (k 2) (cond (B.eq p0 9) (k 2) (cond (B.eq p0 10) (k 2) (k (-1)))))))))))))
theorem eq82 {R:Type} (B:Ops) (p0:Int) (k:AV→Objs→Option R) (n:Nat):afun tau B gl0 X82 gnil ow Tryd.f82 [.c (.int .i64 p0)] [] k n=T82 B p0 (K1 k):=by kernel_rfl
theorem nt82 {R R':Type} (B:Ops) (p0:Int) (k0:(Int)→Option R') (k:R'→Option R):T82 B p0 (fun y=>ob (k0 y) k)=ob (T82 B p0 k0) k:=by
 unfold T82
 repeat' first | exact rfl | apply qac | (apply qai;intro)
def F82 (p0:Int):Option (Int):=T82 Ops.std p0 some
abbrev C82:Type:=Int→Option (Int)
def e82 {R:Type} (c:C82):Ent R:=eG [.aC (.cI .i64)] [] fun v k=>ob (c v.1) (K1 k)
abbrev Sp82 (c:C82):Prop:=∀ (p0 y:Int),c p0=some y→Spec Tryd.prog gl0 82 [.c (.int .i64 p0)] [] (.c (.int .i64 y)) []
theorem ek82 {R:Type} {c:C82} (hs:Sp82 c):EOk 82 (e82 (R:=R) c):=qan fun v=>hs v.1
theorem sf82:Sp82 (F82):=fun p0 y hy=>by
 refine qae qad 1000000 (fn:=Tryd.f82) (by kernel_rfl) (by kernel_rfl) (X:=X82) (by kernel_rfl) ?_
 rw [eq82]
 exact (nt82 Ops.std p0 some (K1 k0)).trans (by show ob (F82 p0) _=_;rw [hy];rfl)
noncomputable def M82:C82:=F82
theorem sm82:Sp82 M82:=sf82
def X48:Aux:=⟨[(3,([1,2,4,5,6]++rg 10 47))],[]⟩
inductive S48 where
 | l0 (v1 v3 v4:Int)
def T48 {R:Type} (B:Ops) (c82:C82) (c22:C22) (p0:L78) (again:S48→Option R) (k:(Bool)→Option R):Option S48→Option R | none=>again (.l0 0 (↑p0.length) 0) | some (.l0 v1 v3 v4)=>cond (B.lt v4 v3) (cond (B.inb v4 p0.length) (ob (c82 (p0.getD v4.toNat ty78.dflt).1) fun y0=>cond (B.lt y0 0) (k false) (cond (B.lt v1 y0) (k false) (cond (B.eq (p0.getD v4.toNat ty78.dflt).1 3) (ob (c22 (p0.getD v4.toNat ty78.dflt).2) fun y1=>cond (!y1) (k false) (cond (!B.eq (p0.getD v4.toNat ty78.dflt).1 3) (cond (B.lt 0 (Nat.cast (List.length (p0.getD v4.toNat ty78.dflt).2))) (k false) (again (.l0 (IntKind.wrap .i64 (v1+IntKind.wrap .i64 (1-y0))) v3 (IntKind.wrap .i64 (v4+1))))) (again (.l0 (IntKind.wrap .i64 (v1+IntKind.wrap .i64 (1-y0))) v3 (IntKind.wrap .i64 (v4+1)))))) (cond (!B.eq (p0.getD v4.toNat ty78.dflt).1 3) (cond (B.lt 0 (Nat.cast (List.length (p0.getD v4.toNat ty78.dflt).2))) (k false) (again (.l0 (IntKind.wrap .i64 (v1+IntKind.wrap .i64 (1-y0))) v3 (IntKind.wrap .i64 (v4+1))))) (again (.l0 (IntKind.wrap .i64 (v1+IntKind.wrap .i64 (1-y0))) v3 (IntKind.wrap .i64 (v4+1)))))))) none) (cond (B.eq v1 1) (k (B.le (↑p0.length) 60)) (k false))
def E48 (p0:L78):S48→List AV×Objs
 | .l0 v1 v3 v4=>(mk 57 [(0,.c (.list 78 ty78 p0)),(3,.c (.int .i64 v1)),(7,.c (.list 78 ty78 p0)),(8,.c (.int .i64 v3)),(9,.c (.int .i64 v4))],[])
def I48:S48→Nat
 | .l0 _ _ _=>0
noncomputable abbrev A48 {R:Type} (B:Ops) (c82:C82) (c22:C22) (p0:L78) (k:AV→Objs→Option R) (s:S48) (n:Nat):Option R:=aloop tau B gl0 X48 (ent 82 (e82 c82) (ent 22 (e22 c22) gnil)) ow [] Tryd.f48 k (I48 s) (E48 p0 s) n
theorem eq48 {R:Type} (B:Ops) (c82:C82) (c22:C22) (p0:L78) (k:AV→Objs→Option R) (n:Nat):afun tau B gl0 X48 (ent 82 (e82 c82) (ent 22 (e22 c22) gnil)) ow Tryd.f48 [.c (.list 78 ty78 p0)] [] k n=T48 B c82 c22 p0 (fun s=>A48 B c82 c22 p0 k s n) (K2 k) none:=by kernel_rfl
theorem el48 {R:Type} (B:Ops) (c82:C82) (c22:C22) (p0:L78) (k:AV→Objs→Option R) (n:Nat):∀ s,A48 B c82 c22 p0 k s (n+1)=T48 B c82 c22 p0 (fun s=>A48 B c82 c22 p0 k s n) (K2 k) (some s):=by
 intro s
 cases s<;>kernel_rfl
theorem nt48 {R R':Type} (B:Ops) (c82:C82) (c22:C22) (p0:L78) (again:S48→Option R) (again':S48→Option R') (k0:(Bool)→Option R') (k:R'→Option R) (h:∀ s,again s=ob (again' s) k):∀ s,T48 B c82 c22 p0 again (fun y=>ob (k0 y) k) s=ob (T48 B c82 c22 p0 again' k0 s) k:=by
 rintro (_ | x)
 all_goals try cases x
 all_goals (unfold T48;repeat' first | exact rfl | exact h _ | apply qac | (apply qai;intro))
def R48 (c82:C82) (c22:C22) (p0:L78):Nat→S48→Option (Bool)
 | 0,_=>none
 | n+1,s=>T48 Ops.std c82 c22 p0 (R48 c82 c22 p0 n) some (some s)
theorem rr48 {R:Type} (c82:C82) (c22:C22) (p0:L78) (k:AV→Objs→Option R):∀ (n:Nat) (s:S48),A48 Ops.std c82 c22 p0 k s n=ob (R48 c82 c22 p0 n s) (K2 k)
 | 0,s=>by cases s<;>rfl
 | n+1,s=>by rw [el48];exact nt48 Ops.std c82 c22 p0 _ _ some (K2 k) (rr48 c82 c22 p0 k n) (some s)
def F48 (c82:C82) (c22:C22) (p0:L78):Option (Bool):=T48 Ops.std c82 c22 p0 (R48 c82 c22 p0 1000000) some none
abbrev C48:Type:=L78→Option (Bool)
def e48 {R:Type} (c:C48):Ent R:=eG [.aC (.cL 78 ty78)] [] fun v k=>ob (c v.1) (K2 k)
abbrev Sp48 (c:C48):Prop:=∀ (p0:L78) (y:Bool),c p0=some y→Spec Tryd.prog gl0 48 [.c (.list 78 ty78 p0)] [] (.c (.bool y)) []
theorem ek48 {R:Type} {c:C48} (hs:Sp48 c):EOk 48 (e48 (R:=R) c):=qan fun v=>hs v.1
theorem sf48 {c82:C82} {c22:C22} (h82:Sp82 c82) (h22:Sp22 c22):Sp48 (F48 c82 c22):=fun p0 y hy=>by
 refine qae (qab (ek82 h82) (qab (ek22 h22) qad)) 1000000 (fn:=Tryd.f48) (by kernel_rfl) (by kernel_rfl) (X:=X48) (by kernel_rfl) ?_
 rw [eq48]
 exact (nt48 Ops.std c82 c22 p0 _ _ some (K2 k0) (rr48 c82 c22 p0 k0 1000000) none).trans (by show ob (F48 c82 c22 p0) _=_;rw [hy];rfl)
noncomputable def M48:C48:=F48 M82 M22
theorem sm48:Sp48 M48:=sf48 sm82 sm22
abbrev K18 {R:Type} (k:AV→Objs→Option R) (y:(L126)):Option R:=k (.c (.own 500)) [(500,.row 126 ty126 y)]
abbrev C85:Type:=L126→Option (L126)
def e85 {R:Type} (c:C85):Ent R:=eG [.aC (.cL 126 ty126)] [] fun v k=>ob (c v.1) (K18 k)
abbrev Sp85 (c:C85):Prop:=∀ (p0 y:L126),c p0=some y→Spec Tryd.prog gl0 85 [.c (.list 126 ty126 p0)] [] (.c (.own 500)) [(500,.row 126 ty126 y)]
theorem ek85 {R:Type} {c:C85} (hs:Sp85 c):EOk 85 (e85 (R:=R) c):=qan fun v=>hs v.1
def M85:L126→Option (L126):=cloneF (t:=ty126) 24
theorem sm85:Sp85 M85:=by
 have h:∀ (B:Ops) (xs:List (Ty.den ty126)) (k:AV→Objs→Option AO),afun tau B gl0 X0 gnil ow Tryd.f85 [.c (.list 126 ty126 xs)] [] k 1=cloneT B 126 24 ty126 xs k:=fun B xs k=>by kernel_rfl
 refine clone_sp (fun xs v o h0=>?_) fun b=>?_
 ·exact qae (G:=gnil) qad 1 (fn:=Tryd.f85) (by kernel_rfl) (by kernel_rfl) (X:=X0) (by kernel_rfl) ((h _ _ _).trans h0)
 ·cases b<;>exact qae (G:=gnil) qad 1 (fn:=Tryd.f85) (by kernel_rfl) (by kernel_rfl) (X:=X0) (by kernel_rfl) (by kernel_rfl)
def X117:Aux:=⟨[],[]⟩
def T117 {R:Type} (B:Ops) (p0:Int) (k:(LB)→Option R):Option R:=cond (B.eq p0 4) (k ([33]:LB)) (cond (B.eq p0 8) (k ([88,32]:LB)) (cond (B.eq p0 11) (k ([70,32]:LB)) (k ([71,32]:LB))))
theorem eq117 {R:Type} (B:Ops) (p0:Int) (k:AV→Objs→Option R) (n:Nat):afun tau B gl0 X117 gnil ow Tryd.f117 [.c (.int .i64 p0)] [] k n=T117 B p0 (K3 k):=by kernel_rfl
theorem nt117 {R R':Type} (B:Ops) (p0:Int) (k0:(LB)→Option R') (k:R'→Option R):T117 B p0 (fun y=>ob (k0 y) k)=ob (T117 B p0 k0) k:=by
 unfold T117
 repeat' first | exact rfl | apply qac | (apply qai;intro)
def F117 (p0:Int):Option (LB):=T117 Ops.std p0 some
abbrev C117:Type:=Int→Option (LB)
def e117 {R:Type} (c:C117):Ent R:=eG [.aC (.cI .i64)] [] fun v k=>ob (c v.1) (K3 k)
abbrev Sp117 (c:C117):Prop:=∀ (p0:Int) (y:LB),c p0=some y→Spec Tryd.prog gl0 117 [.c (.int .i64 p0)] [] (.c (.str y)) []
theorem ek117 {R:Type} {c:C117} (hs:Sp117 c):EOk 117 (e117 (R:=R) c):=qan fun v=>hs v.1
theorem sf117:Sp117 (F117):=fun p0 y hy=>by
 refine qae qad 1000000 (fn:=Tryd.f117) (by kernel_rfl) (by kernel_rfl) (X:=X117) (by kernel_rfl) ?_
 rw [eq117]
 exact (nt117 Ops.std p0 some (K3 k0)).trans (by show ob (F117 p0) _=_;rw [hy];rfl)
noncomputable def M117:C117:=F117
theorem sm117:Sp117 M117:=sf117
def X118:Aux:=⟨[],[]⟩
def T118 {R:Type} (B:Ops) (p0:LB) (p1 p2:Int) (k:(LB)→Option R):Option R:=cond (B.lt p1 p2) (cond (B.lim (1+List.length p0) 1) (cond (B.lim (List.length (([40]:LB)++p0)+1) 1) (k (([40]:LB)++p0++([41]:LB))) none) none) (k p0)
theorem eq118 {R:Type} (B:Ops) (p0:LB) (p1 p2:Int) (k:AV→Objs→Option R) (n:Nat):afun tau B gl0 X118 gnil ow Tryd.f118 [.agg [.str p0,.int .i64 p1],.c (.int .i64 p2)] [] k n=T118 B p0 p1 p2 (K3 k):=by kernel_rfl
theorem nt118 {R R':Type} (B:Ops) (p0:LB) (p1 p2:Int) (k0:(LB)→Option R') (k:R'→Option R):T118 B p0 p1 p2 (fun y=>ob (k0 y) k)=ob (T118 B p0 p1 p2 k0) k:=by
 unfold T118
 repeat' first | exact rfl | apply qac | (apply qai;intro)
def F118 (p0:LB) (p1 p2:Int):Option (LB):=T118 Ops.std p0 p1 p2 some
abbrev C118:Type:=LB→Int→Int→Option (LB)
def e118 {R:Type} (c:C118):Ent R:=eG [.aG [.cS,.cI .i64],.aC (.cI .i64)] [] fun v k=>ob (c v.1 v.2.1 v.2.2.1) (K3 k)
abbrev Sp118 (c:C118):Prop:=∀ (p0:LB) (p1 p2:Int) (y:LB),c p0 p1 p2=some y→Spec Tryd.prog gl0 118 [.agg [.str p0,.int .i64 p1],.c (.int .i64 p2)] [] (.c (.str y)) []
theorem ek118 {R:Type} {c:C118} (hs:Sp118 c):EOk 118 (e118 (R:=R) c):=qan fun v=>hs v.1 v.2.1 v.2.2.1
theorem sf118:Sp118 (F118):=fun p0 p1 p2 y hy=>by
 refine qae qad 1000000 (fn:=Tryd.f118) (by kernel_rfl) (by kernel_rfl) (X:=X118) (by kernel_rfl) ?_
 rw [eq118]
 exact (nt118 Ops.std p0 p1 p2 some (K3 k0)).trans (by show ob (F118 p0 p1 p2) _=_;rw [hy];rfl)
noncomputable def M118:C118:=F118
theorem sm118:Sp118 M118:=sf118
def X119:Aux:=⟨[],[]⟩
def T119 {R:Type} (B:Ops) (p0:Int) (k:(LB×Int×Bool)→Option R):Option R:=cond (B.eq p0 7) (k ((([32,45,62,32]:LB),0,true))) (cond (B.eq p0 6) (k ((([32,124,124,32]:LB),1,false))) (cond (B.eq p0 5) (k ((([32,38,38,32]:LB),2,false))) (cond (B.eq p0 9) (k ((([32,85,32]:LB),3,true))) (k ((([32,82,32]:LB),3,true))))))
abbrev K19 {R:Type} (k:AV→Objs→Option R) (y:(LB×Int×Bool)):Option R:=k (.tup [(false,[.str y.1]),(false,[.int .i64 y.2.1]),(false,[.bool y.2.2])]) []
theorem eq119 {R:Type} (B:Ops) (p0:Int) (k:AV→Objs→Option R) (n:Nat):afun tau B gl0 X119 gnil ow Tryd.f119 [.c (.int .i64 p0)] [] k n=T119 B p0 (K19 k):=by kernel_rfl
theorem nt119 {R R':Type} (B:Ops) (p0:Int) (k0:(LB×Int×Bool)→Option R') (k:R'→Option R):T119 B p0 (fun y=>ob (k0 y) k)=ob (T119 B p0 k0) k:=by
 unfold T119
 repeat' first | exact rfl | apply qac | (apply qai;intro)
def F119 (p0:Int):Option (LB×Int×Bool):=T119 Ops.std p0 some
abbrev C119:Type:=Int→Option (LB×Int×Bool)
def e119 {R:Type} (c:C119):Ent R:=eG [.aC (.cI .i64)] [] fun v k=>ob (c v.1) (K19 k)
abbrev Sp119 (c:C119):Prop:=∀ (p0:Int) (y:LB×Int×Bool),c p0=some y→Spec Tryd.prog gl0 119 [.c (.int .i64 p0)] [] (.tup [(false,[.str y.1]),(false,[.int .i64 y.2.1]),(false,[.bool y.2.2])]) []
theorem ek119 {R:Type} {c:C119} (hs:Sp119 c):EOk 119 (e119 (R:=R) c):=qan fun v=>hs v.1
theorem sf119:Sp119 (F119):=fun p0 y hy=>by
 refine qae qad 1000000 (fn:=Tryd.f119) (by kernel_rfl) (by kernel_rfl) (X:=X119) (by kernel_rfl) ?_
 rw [eq119]
 exact (nt119 Ops.std p0 some (K19 k0)).trans (by show ob (F119 p0) _=_;rw [hy];rfl)
noncomputable def M119:C119:=F119
theorem sm119:Sp119 M119:=sf119
def X84:Aux:=⟨[],[(8,.lin ([0,1,3,4,5,2,6,7,8,9])),(11,.lin ([0,1,2,3,4,6,8,9,10,11,14,5,7,12,13,15,16])),(12,.lin ([0,1,2,3,5,7,8,9,10,11,14,4,6,12,13,15,16]))]⟩
def T84 {R:Type} (B:Ops) (c20:C20) (c117:C117) (c118:C118) (c119:C119) (p0:Int) (p1:L56) (p2:L126) (k:(LB×Int)→Option R):Option R:=cond (B.eq p0 1) (k ((([116,114,117,101]:LB),5))) (cond (B.eq p0 2) (k ((([102,97,108,115,101]:LB),5))) (cond (B.eq p0 3) (ob (c20 p1) fun y0=>cond (B.lim (1+List.length y0) 1) (cond (B.lim (List.length (([91]:LB)++y0)+1) 1) (k ((([91]:LB)++y0++([93]:LB),5))) none) none) (cond (B.eq (↑p2.length) 1) (cond (B.inb 0 p2.length) (ob (c117 p0) fun y0=>ob (c118 (p2.getD (Int.toNat 0) ty126.dflt).1 (p2.getD (Int.toNat 0) ty126.dflt).2 4) fun y1=>cond (B.lim (List.length y0+List.length y1) 1) (k (y0++y1,4)) none) none) (ob (c119 p0) fun y0=>cond y0.2.2 (cond (B.inb 0 p2.length) (cond (B.inb 1 p2.length) (ob (c118 (p2.getD (Int.toNat 0) ty126.dflt).1 (p2.getD (Int.toNat 0) ty126.dflt).2 (IntKind.wrap .i64 (y0.2.1+1))) fun y1=>cond (B.lim (List.length y1+List.length y0.1) 1) (ob (c118 (p2.getD (Int.toNat 1) ty126.dflt).1 (p2.getD (Int.toNat 1) ty126.dflt).2 y0.2.1) fun y2=>cond (B.lim (List.length (y1++y0.1)+List.length y2) 1) (k (y1++y0.1++y2,y0.2.1)) none) none) none) none) (cond (B.inb 0 p2.length) (cond (B.inb 1 p2.length) (ob (c118 (p2.getD (Int.toNat 0) ty126.dflt).1 (p2.getD (Int.toNat 0) ty126.dflt).2 y0.2.1) fun y1=>cond (B.lim (List.length y1+List.length y0.1) 1) (ob (c118 (p2.getD (Int.toNat 1) ty126.dflt).1 (p2.getD (Int.toNat 1) ty126.dflt).2 (IntKind.wrap .i64 (y0.2.1+1))) fun y2=>cond (B.lim (List.length (y1++y0.1)+List.length y2) 1) (k (y1++y0.1++y2,y0.2.1)) none) none) none) none)))))
theorem eq84 {R:Type} (B:Ops) (c20:C20) (c117:C117) (c118:C118) (c119:C119) (p0:Int) (p1:L56) (p2:L126) (k:AV→Objs→Option R) (n:Nat):afun tau B gl0 X84 (ent 20 (e20 c20) (ent 117 (e117 c117) (ent 118 (e118 c118) (ent 119 (e119 c119) gnil)))) ow Tryd.f84 [.agg [.int .i64 p0,.list 56 ty56 p1],.c (.list 126 ty126 p2)] [] k n=T84 B c20 c117 c118 c119 p0 p1 p2 (K14 k):=by kernel_rfl
theorem nt84 {R R':Type} (B:Ops) (c20:C20) (c117:C117) (c118:C118) (c119:C119) (p0:Int) (p1:L56) (p2:L126) (k0:(LB×Int)→Option R') (k:R'→Option R):T84 B c20 c117 c118 c119 p0 p1 p2 (fun y=>ob (k0 y) k)=ob (T84 B c20 c117 c118 c119 p0 p1 p2 k0) k:=by
 unfold T84
 repeat' first | exact rfl | apply qac | (apply qai;intro)
def F84 (c20:C20) (c117:C117) (c118:C118) (c119:C119) (p0:Int) (p1:L56) (p2:L126):Option (LB×Int):=T84 Ops.std c20 c117 c118 c119 p0 p1 p2 some
abbrev C84:Type:=Int→L56→L126→Option (LB×Int)
def e84 {R:Type} (c:C84):Ent R:=eG [.aG [.cI .i64,.cL 56 ty56],.aC (.cL 126 ty126)] [] fun v k=>ob (c v.1 v.2.1 v.2.2.1) (K14 k)
abbrev Sp84 (c:C84):Prop:=∀ (p0:Int) (p1:L56) (p2:L126) (y:LB×Int),c p0 p1 p2=some y→Spec Tryd.prog gl0 84 [.agg [.int .i64 p0,.list 56 ty56 p1],.c (.list 126 ty126 p2)] [] (.agg [.str y.1,.int .i64 y.2]) []
theorem ek84 {R:Type} {c:C84} (hs:Sp84 c):EOk 84 (e84 (R:=R) c):=qan fun v=>hs v.1 v.2.1 v.2.2.1
theorem sf84 {c20:C20} {c117:C117} {c118:C118} {c119:C119} (h20:Sp20 c20) (h117:Sp117 c117) (h118:Sp118 c118) (h119:Sp119 c119):Sp84 (F84 c20 c117 c118 c119):=fun p0 p1 p2 y hy=>by
 refine qae (qab (ek20 h20) (qab (ek117 h117) (qab (ek118 h118) (qab (ek119 h119) qad)))) 1000000 (fn:=Tryd.f84) (by kernel_rfl) (by kernel_rfl) (X:=X84) (by kernel_rfl) ?_
 rw [eq84]
 exact (nt84 Ops.std c20 c117 c118 c119 p0 p1 p2 some (K14 k0)).trans (by show ob (F84 c20 c117 c118 c119 p0 p1 p2) _=_;rw [hy];rfl)
noncomputable def M84:C84:=F84 M20 M117 M118 M119
theorem sm84:Sp84 M84:=sf84 sm20 sm117 sm118 sm119
def X42:Aux:=⟨[(5,([0,1,2,4,5,6,7,8,9]++rg 13 25))],[(8,.lin (rg 0 12))]⟩
inductive S42 where
 | l0 (v1 v2:Int) (v3:L126)
def T42 {R:Type} (B:Ops) (c48:C48) (c82:C82) (c85:C85) (c84:C84) (p0:L78) (again:S42→Option R) (k:(LB)→Option R):Option S42→Option R | none=>ob (c48 p0) fun y0=>cond (!y0) (k (mt UInt8)) (again (.l0 (↑p0.length) 0 (mt (Ty.den ty88)))) | some (.l0 v1 v2 v3)=>cond (B.lt v2 v1) (cond (B.inb v2 p0.length) (ob (c82 (p0.getD v2.toNat ty78.dflt).1) fun y0=>cond (B.inb (IntKind.wrap .i64 (Nat.cast v3.length-y0)) (List.length v3+1)) (cond (B.inb (IntKind.wrap .i64 (Nat.cast v3.length-y0)) (List.length v3+1)) (ob (c85 (List.drop (Int.toNat (IntKind.wrap .i64 (Nat.cast v3.length-y0))) (List.take v3.length v3))) fun y1=>ob (c84 (p0.getD v2.toNat ty78.dflt).1 (p0.getD v2.toNat ty78.dflt).2 y1) fun y2=>cond (B.lim (List.length (List.take (Int.toNat (IntKind.wrap .i64 (Nat.cast v3.length-y0))) v3)+List.length ((y2.1,y2.2)::mt (Ty.den ty88))) 24) (again (.l0 v1 (IntKind.wrap .i64 (v2+1)) (List.take (Int.toNat (IntKind.wrap .i64 (Nat.cast v3.length-y0))) v3++(y2.1,y2.2)::mt (Ty.den ty88)))) none) none) none) none) (cond (B.inb 0 v3.length) (k (v3.getD (Int.toNat 0) ty126.dflt).1) none)
def E42 (p0:L78):S42→List AV×Objs
 | .l0 v1 v2 v3=>(mk 38 [(3,.c (.own 3)),(10,.c (.list 78 ty78 p0)),(11,.c (.int .i64 v1)),(12,.c (.int .i64 v2))],[(3,.row 126 ty126 v3)])
def I42:S42→Nat
 | .l0 _ _ _=>0
noncomputable abbrev A42 {R:Type} (B:Ops) (c48:C48) (c82:C82) (c85:C85) (c84:C84) (p0:L78) (k:AV→Objs→Option R) (s:S42) (n:Nat):Option R:=aloop tau B gl0 X42 (ent 48 (e48 c48) (ent 82 (e82 c82) (ent 85 (e85 c85) (ent 84 (e84 c84) gnil)))) ow [] Tryd.f42 k (I42 s) (E42 p0 s) n
theorem eq42 {R:Type} (B:Ops) (c48:C48) (c82:C82) (c85:C85) (c84:C84) (p0:L78) (k:AV→Objs→Option R) (n:Nat):afun tau B gl0 X42 (ent 48 (e48 c48) (ent 82 (e82 c82) (ent 85 (e85 c85) (ent 84 (e84 c84) gnil)))) ow Tryd.f42 [.c (.list 78 ty78 p0)] [] k n=T42 B c48 c82 c85 c84 p0 (fun s=>A42 B c48 c82 c85 c84 p0 k s n) (K3 k) none:=by kernel_rfl
theorem el42 {R:Type} (B:Ops) (c48:C48) (c82:C82) (c85:C85) (c84:C84) (p0:L78) (k:AV→Objs→Option R) (n:Nat):∀ s,A42 B c48 c82 c85 c84 p0 k s (n+1)=T42 B c48 c82 c85 c84 p0 (fun s=>A42 B c48 c82 c85 c84 p0 k s n) (K3 k) (some s):=by
 intro s
 cases s<;>kernel_rfl
theorem nt42 {R R':Type} (B:Ops) (c48:C48) (c82:C82) (c85:C85) (c84:C84) (p0:L78) (again:S42→Option R) (again':S42→Option R') (k0:(LB)→Option R') (k:R'→Option R) (h:∀ s,again s=ob (again' s) k):∀ s,T42 B c48 c82 c85 c84 p0 again (fun y=>ob (k0 y) k) s=ob (T42 B c48 c82 c85 c84 p0 again' k0 s) k:=by
 rintro (_ | x)
 all_goals try cases x
 all_goals (unfold T42;repeat' first | exact rfl | exact h _ | apply qac | (apply qai;intro))
def R42 (c48:C48) (c82:C82) (c85:C85) (c84:C84) (p0:L78):Nat→S42→Option (LB)
 | 0,_=>none
 | n+1,s=>T42 Ops.std c48 c82 c85 c84 p0 (R42 c48 c82 c85 c84 p0 n) some (some s)
theorem rr42 {R:Type} (c48:C48) (c82:C82) (c85:C85) (c84:C84) (p0:L78) (k:AV→Objs→Option R):∀ (n:Nat) (s:S42),A42 Ops.std c48 c82 c85 c84 p0 k s n=ob (R42 c48 c82 c85 c84 p0 n s) (K3 k)
 | 0,s=>by cases s<;>rfl
 | n+1,s=>by rw [el42];exact nt42 Ops.std c48 c82 c85 c84 p0 _ _ some (K3 k) (rr42 c48 c82 c85 c84 p0 k n) (some s)
def F42 (c48:C48) (c82:C82) (c85:C85) (c84:C84) (p0:L78):Option (LB):=T42 Ops.std c48 c82 c85 c84 p0 (R42 c48 c82 c85 c84 p0 1000000) some none
abbrev C42:Type:=L78→Option (LB)
def e42 {R:Type} (c:C42):Ent R:=eG [.aC (.cL 78 ty78)] [] fun v k=>ob (c v.1) (K3 k)
abbrev Sp42 (c:C42):Prop:=∀ (p0:L78) (y:LB),c p0=some y→Spec Tryd.prog gl0 42 [.c (.list 78 ty78 p0)] [] (.c (.str y)) []
theorem ek42 {R:Type} {c:C42} (hs:Sp42 c):EOk 42 (e42 (R:=R) c):=qan fun v=>hs v.1
theorem sf42 {c48:C48} {c82:C82} {c85:C85} {c84:C84} (h48:Sp48 c48) (h82:Sp82 c82) (h85:Sp85 c85) (h84:Sp84 c84):Sp42 (F42 c48 c82 c85 c84):=fun p0 y hy=>by
 refine qae (qab (ek48 h48) (qab (ek82 h82) (qab (ek85 h85) (qab (ek84 h84) qad)))) 1000000 (fn:=Tryd.f42) (by kernel_rfl) (by kernel_rfl) (X:=X42) (by kernel_rfl) ?_
 rw [eq42]
 exact (nt42 Ops.std c48 c82 c85 c84 p0 _ _ some (K3 k0) (rr42 c48 c82 c85 c84 p0 k0 1000000) none).trans (by show ob (F42 c48 c82 c85 c84 p0) _=_;rw [hy];rfl)
noncomputable def M42:C42:=F42 M48 M82 M85 M84
theorem sm42:Sp42 M42:=sf42 sm48 sm82 sm85 sm84
def X38:Aux:=⟨[],[]⟩
def T38 {R:Type} (B:Ops) (c39:C39) (c42:C42) (c48:C48) (k:(Bool)→Option R):Option R:=ob (c39 ([71,40,40,70,32,91,120,61,61,49,93,41,45,62,91,112,64,97,93,85,32,116,114,117,101,41]:LB)) fun y0=>cond (B.eq y0.1 0) (cond (B.eq (Nat.cast (List.length y0.2.2)) 7) (ob (c42 y0.2.2) fun y1=>cond (y1 == ([71,32,40,70,32,91,120,61,61,49,93,32,45,62,32,91,112,64,97,93,32,85,32,116,114,117,101,41]:LB)) (ob (c48 y0.2.2) fun y2=>k y2) (k false)) (k false)) (k false)
theorem eq38 {R:Type} (B:Ops) (c39:C39) (c42:C42) (c48:C48) (k:AV→Objs→Option R) (n:Nat):afun tau B gl0 X38 (ent 39 (e39 c39) (ent 42 (e42 c42) (ent 48 (e48 c48) gnil))) ow Tryd.f38 [] [] k n=T38 B c39 c42 c48 (K2 k):=by kernel_rfl
theorem nt38 {R R':Type} (B:Ops) (c39:C39) (c42:C42) (c48:C48) (k0:(Bool)→Option R') (k:R'→Option R):T38 B c39 c42 c48 (fun y=>ob (k0 y) k)=ob (T38 B c39 c42 c48 k0) k:=by
 unfold T38
 repeat' first | exact rfl | apply qac | (apply qai;intro)
def F38 (c39:C39) (c42:C42) (c48:C48):Option (Bool):=T38 Ops.std c39 c42 c48 some
abbrev C38:Type:=Option (Bool)
def e38 {R:Type} (c:C38):Ent R:=eG [] [] fun _ k=>ob c (K2 k)
abbrev Sp38 (c:C38):Prop:=∀ (y:Bool),c=some y→Spec Tryd.prog gl0 38 [] [] (.c (.bool y)) []
theorem ek38 {R:Type} {c:C38} (hs:Sp38 c):EOk 38 (e38 (R:=R) c):=qan fun _=>hs
theorem sf38 {c39:C39} {c42:C42} {c48:C48} (h39:Sp39 c39) (h42:Sp42 c42) (h48:Sp48 c48):Sp38 (F38 c39 c42 c48):=fun y hy=>by
 refine qae (qab (ek39 h39) (qab (ek42 h42) (qab (ek48 h48) qad))) 1000000 (fn:=Tryd.f38) (by kernel_rfl) (by kernel_rfl) (X:=X38) (by kernel_rfl) ?_
 rw [eq38]
 exact (nt38 Ops.std c39 c42 c48 some (K2 k0)).trans (by show ob (F38 c39 c42 c48) _=_;rw [hy];rfl)
noncomputable def M38:C38:=F38 M39 M42 M48
theorem sm38:Sp38 M38:=sf38 sm39 sm42 sm48
def X24:Aux:=⟨[],[]⟩
def T24 {R:Type} (B:Ops) (p0 p1:Int) (k:(Int)→Option R):Option R:=cond (B.eq p1 0) none (cond (B.lt (Int.tmod p0 p1) 0) (k (IntKind.wrap .i64 (Int.tmod p0 p1+p1))) (k (Int.tmod p0 p1)))
theorem eq24 {R:Type} (B:Ops) (p0 p1:Int) (k:AV→Objs→Option R) (n:Nat):afun tau B gl0 X24 gnil ow Tryd.f24 [.c (.int .i64 p0),.c (.int .i64 p1)] [] k n=T24 B p0 p1 (K1 k):=by kernel_rfl
theorem nt24 {R R':Type} (B:Ops) (p0 p1:Int) (k0:(Int)→Option R') (k:R'→Option R):T24 B p0 p1 (fun y=>ob (k0 y) k)=ob (T24 B p0 p1 k0) k:=by
 unfold T24
 repeat' first | exact rfl | apply qac | (apply qai;intro)
def F24 (p0 p1:Int):Option (Int):=T24 Ops.std p0 p1 some
abbrev C24:Type:=Int→Int→Option (Int)
def e24 {R:Type} (c:C24):Ent R:=eG [.aC (.cI .i64),.aC (.cI .i64)] [] fun v k=>ob (c v.1 v.2.1) (K1 k)
abbrev Sp24 (c:C24):Prop:=∀ (p0 p1 y:Int),c p0 p1=some y→Spec Tryd.prog gl0 24 [.c (.int .i64 p0),.c (.int .i64 p1)] [] (.c (.int .i64 y)) []
theorem ek24 {R:Type} {c:C24} (hs:Sp24 c):EOk 24 (e24 (R:=R) c):=qan fun v=>hs v.1 v.2.1
theorem sf24:Sp24 (F24):=fun p0 p1 y hy=>by
 refine qae qad 1000000 (fn:=Tryd.f24) (by kernel_rfl) (by kernel_rfl) (X:=X24) (by kernel_rfl) ?_
 rw [eq24]
 exact (nt24 Ops.std p0 p1 some (K1 k0)).trans (by show ob (F24 p0 p1) _=_;rw [hy];rfl)
noncomputable def M24:C24:=F24
theorem sm24:Sp24 M24:=sf24
def X90:Aux:=⟨[],[(4,.lin (rg 0 31))]⟩
def T90 {R:Type} (B:Ops) (c24:C24) (p0:Int) (p1:L3) (p2:Int) (k:(Int×L3×Int)→Option R):Option R:=cond (B.eq (↑p1.length) 0) (k (0,p1,p2)) (cond (B.eq (↑p1.length) 0) none (cond (B.inb (Int.tmod (IntKind.wrap .i64 (p2+1)) (↑p1.length)) p1.length) (cond (B.eq (↑p1.length) 0) none (cond (B.eq (IntKind.wrap .i64 (1+IntKind.wrap .i64 (Int.tdiv (IntKind.wrap .i64 (p2+1)) (↑p1.length)))) 0) none (ob (c24 (IntKind.wrap .i64 (Int.tdiv (p1.getD (Int.toNat (Int.tmod (IntKind.wrap .i64 (p2+1)) (↑p1.length))) ty3.dflt) (IntKind.wrap .i64 (1+IntKind.wrap .i64 (Int.tdiv (IntKind.wrap .i64 (p2+1)) (↑p1.length)))))) p0) fun y0=>k ((y0,p1,IntKind.wrap .i64 (p2+1)))))) none))
abbrev K20 {R:Type} (k:AV→Objs→Option R) (y:(Int×L3×Int)):Option R:=k (.c (.int .i64 y.1)) [(0,.box 82 [.list 3 ty3 y.2.1,.int .i64 y.2.2])]
theorem eq90 {R:Type} (B:Ops) (c24:C24) (p0:Int) (p1:L3) (p2:Int) (k:AV→Objs→Option R) (n:Nat):afun tau B gl0 X90 (ent 24 (e24 c24) gnil) ow Tryd.f90 [.c (.ptr 0 0),.c (.int .i64 p0)] [(0,.box 82 [.list 3 ty3 p1,.int .i64 p2])] k n=T90 B c24 p0 p1 p2 (K20 k):=by kernel_rfl
theorem nt90 {R R':Type} (B:Ops) (c24:C24) (p0:Int) (p1:L3) (p2:Int) (k0:(Int×L3×Int)→Option R') (k:R'→Option R):T90 B c24 p0 p1 p2 (fun y=>ob (k0 y) k)=ob (T90 B c24 p0 p1 p2 k0) k:=by
 unfold T90
 repeat' first | exact rfl | apply qac | (apply qai;intro)
def F90 (c24:C24) (p0:Int) (p1:L3) (p2:Int):Option (Int×L3×Int):=T90 Ops.std c24 p0 p1 p2 some
abbrev C90:Type:=Int→L3→Int→Option (Int×L3×Int)
def e90 {R:Type} (c:C90):Ent R:=eG [.aC (.cP 0),.aC (.cI .i64)] [.oB 0 82 [.cL 3 ty3,.cI .i64]] fun v k=>ob (c v.1 v.2.1 v.2.2.1) (K20 k)
abbrev Sp90 (c:C90):Prop:=∀ (p0:Int) (p1:L3) (p2:Int) (y:Int×L3×Int),c p0 p1 p2=some y→Spec Tryd.prog gl0 90 [.c (.ptr 0 0),.c (.int .i64 p0)] [(0,.box 82 [.list 3 ty3 p1,.int .i64 p2])] (.c (.int .i64 y.1)) [(0,.box 82 [.list 3 ty3 y.2.1,.int .i64 y.2.2])]
theorem ek90 {R:Type} {c:C90} (hs:Sp90 c):EOk 90 (e90 (R:=R) c):=qan fun v=>hs v.1 v.2.1 v.2.2.1
theorem sf90 {c24:C24} (h24:Sp24 c24):Sp90 (F90 c24):=fun p0 p1 p2 y hy=>by
 refine qae (qab (ek24 h24) qad) 1000000 (fn:=Tryd.f90) (by kernel_rfl) (by kernel_rfl) (X:=X90) (by kernel_rfl) ?_
 rw [eq90]
 exact (nt90 Ops.std c24 p0 p1 p2 some (K20 k0)).trans (by show ob (F90 c24 p0 p1 p2) _=_;rw [hy];rfl)
noncomputable def M90:C90:=F90 M24
theorem sm90:Sp90 M90:=sf90 sm24
def X15:Aux:=⟨[(2,([2,3,4]++rg 6 49))],[(6,.lin (rg 0 17))]⟩
inductive S15 where
 | l0 (v0:LB) (v2:Int)
def T15 {R:Type} (B:Ops) (c24:C24) (p0:LB) (p1:L3) (again:S15→Option R) (k:(LB)→Option R):Option S15→Option R | none=>again (.l0 p0 0) | some (.l0 v0 v2)=>cond (B.lt v2 (↑p1.length)) (cond (B.lt v2 2) (cond (B.lt 0 (↑v0.length)) (cond (B.inb v2 p1.length) (cond (B.eq 17 0) none (ob (c24 (IntKind.wrap .i64 (Int.tdiv (p1.getD v2.toNat ty3.dflt) 17)) (↑v0.length)) fun y0=>cond (B.inb v2 p1.length) (ob (c24 (p1.getD v2.toNat ty3.dflt) 17) fun y1=>cond (B.inb y1 17) (cond (B.inb y0 (List.length v0+1)) (cond (B.lim (List.length (List.drop 0 (List.take y0.toNat v0))+List.length (List.getD (([32]:LB)::([40]:LB)::([41]:LB)::([91]:LB)::([93]:LB)::([85]:LB)::([88]:LB)::([33]:LB)::([45]:LB)::([57]:LB)::([61]:LB)::([60]:LB)::([64]:LB)::([119]:LB)::mt UInt8::([38,38]:LB)::([82]:LB)::mt LB) y1.toNat (mt UInt8))) 1) (cond (B.inb v2 p1.length) (cond (B.eq 7 0) none (ob (c24 (IntKind.wrap .i64 (Int.tdiv (p1.getD v2.toNat ty3.dflt) 7)) 2) fun y2=>cond (B.inb (IntKind.wrap .i64 (y0+y2)) (List.length v0+1)) (cond (B.lim (List.length (List.drop 0 (List.take y0.toNat v0)++List.getD (([32]:LB)::([40]:LB)::([41]:LB)::([91]:LB)::([93]:LB)::([85]:LB)::([88]:LB)::([33]:LB)::([45]:LB)::([57]:LB)::([61]:LB)::([60]:LB)::([64]:LB)::([119]:LB)::mt UInt8::([38,38]:LB)::([82]:LB)::mt LB) y1.toNat (mt UInt8))+List.length (List.drop (Int.toNat (IntKind.wrap .i64 (y0+y2))) (List.take v0.length v0))) 1) (again (.l0 (List.drop 0 (List.take y0.toNat v0)++List.getD (([32]:LB)::([40]:LB)::([41]:LB)::([91]:LB)::([93]:LB)::([85]:LB)::([88]:LB)::([33]:LB)::([45]:LB)::([57]:LB)::([61]:LB)::([60]:LB)::([64]:LB)::([119]:LB)::mt UInt8::([38,38]:LB)::([82]:LB)::mt LB) y1.toNat (mt UInt8)++List.drop (Int.toNat (IntKind.wrap .i64 (y0+y2))) (List.take v0.length v0)) (IntKind.wrap .i64 (v2+1)))) none) none)) none) none) none) none) none)) none) (k v0)) (k v0)) (k v0)
def E15 (p0:LB) (p1:L3):S15→List AV×Objs
 | .l0 v0 v2=>(mk 55 [(0,.c (.str v0)),(1,.c (.list 3 ty3 p1)),(5,.c (.int .i64 v2))],[])
def I15:S15→Nat
 | .l0 _ _=>0
noncomputable abbrev A15 {R:Type} (B:Ops) (c24:C24) (p0:LB) (p1:L3) (k:AV→Objs→Option R) (s:S15) (n:Nat):Option R:=aloop tau B gl0 X15 (ent 24 (e24 c24) gnil) ow [] Tryd.f15 k (I15 s) (E15 p0 p1 s) n
theorem eq15 {R:Type} (B:Ops) (c24:C24) (p0:LB) (p1:L3) (k:AV→Objs→Option R) (n:Nat):afun tau B gl0 X15 (ent 24 (e24 c24) gnil) ow Tryd.f15 [.c (.str p0),.c (.list 3 ty3 p1)] [] k n=T15 B c24 p0 p1 (fun s=>A15 B c24 p0 p1 k s n) (K3 k) none:=by kernel_rfl
theorem el15 {R:Type} (B:Ops) (c24:C24) (p0:LB) (p1:L3) (k:AV→Objs→Option R) (n:Nat):∀ s,A15 B c24 p0 p1 k s (n+1)=T15 B c24 p0 p1 (fun s=>A15 B c24 p0 p1 k s n) (K3 k) (some s):=by
 intro s
 cases s<;>kernel_rfl
theorem nt15 {R R':Type} (B:Ops) (c24:C24) (p0:LB) (p1:L3) (again:S15→Option R) (again':S15→Option R') (k0:(LB)→Option R') (k:R'→Option R) (h:∀ s,again s=ob (again' s) k):∀ s,T15 B c24 p0 p1 again (fun y=>ob (k0 y) k) s=ob (T15 B c24 p0 p1 again' k0 s) k:=by
 rintro (_ | x)
 all_goals try cases x
 all_goals (unfold T15;repeat' first | exact rfl | exact h _ | apply qac | (apply qai;intro))
def R15 (c24:C24) (p0:LB) (p1:L3):Nat→S15→Option (LB)
 | 0,_=>none
 | n+1,s=>T15 Ops.std c24 p0 p1 (R15 c24 p0 p1 n) some (some s)
theorem rr15 {R:Type} (c24:C24) (p0:LB) (p1:L3) (k:AV→Objs→Option R):∀ (n:Nat) (s:S15),A15 Ops.std c24 p0 p1 k s n=ob (R15 c24 p0 p1 n s) (K3 k)
 | 0,s=>by cases s<;>rfl
 | n+1,s=>by rw [el15];exact nt15 Ops.std c24 p0 p1 _ _ some (K3 k) (rr15 c24 p0 p1 k n) (some s)
def F15 (c24:C24) (p0:LB) (p1:L3):Option (LB):=T15 Ops.std c24 p0 p1 (R15 c24 p0 p1 1000000) some none
abbrev C15:Type:=LB→L3→Option (LB)
def e15 {R:Type} (c:C15):Ent R:=eG [.aC .cS,.aC (.cL 3 ty3)] [] fun v k=>ob (c v.1 v.2.1) (K3 k)
abbrev Sp15 (c:C15):Prop:=∀ (p0:LB) (p1:L3) (y:LB),c p0 p1=some y→Spec Tryd.prog gl0 15 [.c (.str p0),.c (.list 3 ty3 p1)] [] (.c (.str y)) []
theorem ek15 {R:Type} {c:C15} (hs:Sp15 c):EOk 15 (e15 (R:=R) c):=qan fun v=>hs v.1 v.2.1
theorem sf15 {c24:C24} (h24:Sp24 c24):Sp15 (F15 c24):=fun p0 p1 y hy=>by
 refine qae (qab (ek24 h24) qad) 1000000 (fn:=Tryd.f15) (by kernel_rfl) (by kernel_rfl) (X:=X15) (by kernel_rfl) ?_
 rw [eq15]
 exact (nt15 Ops.std c24 p0 p1 _ _ some (K3 k0) (rr15 c24 p0 p1 k0 1000000) none).trans (by show ob (F15 c24 p0 p1) _=_;rw [hy];rfl)
noncomputable def M15:C15:=F15 M24
theorem sm15:Sp15 M15:=sf15 sm24
abbrev K21 {R:Type} (k:AV→Objs→Option R) (y:(LB×L3×Int)):Option R:=k (.c (.str y.1)) [(0,.box 82 [.list 3 ty3 y.2.1,.int .i64 y.2.2])]
abbrev C81:Type:=Int→L3→Int→Option (LB×L3×Int)
def e81 {R:Type} (c:C81):Ent R:=eG [.aC (.cP 0),.aC (.cI .i64)] [.oB 0 82 [.cL 3 ty3,.cI .i64]] fun v k=>ob (c v.1 v.2.1 v.2.2.1) (K21 k)
abbrev Sp81 (c:C81):Prop:=∀ (p0:Int) (p1:L3) (p2:Int) (y:LB×L3×Int),c p0 p1 p2=some y→Spec Tryd.prog gl0 81 [.c (.ptr 0 0),.c (.int .i64 p0)] [(0,.box 82 [.list 3 ty3 p1,.int .i64 p2])] (.c (.str y.1)) [(0,.box 82 [.list 3 ty3 y.2.1,.int .i64 y.2.2])]
theorem ek81 {R:Type} {c:C81} (hs:Sp81 c):EOk 81 (e81 (R:=R) c):=qan fun v=>hs v.1 v.2.1 v.2.2.1
def X81:Aux:=⟨[(1000004,([2,3,4]++rg 6 105))],[(11,.lin ([0,1,2,5,6,10,11,12,3,4,7,8,9,13,14,15,16])),(13,.lin ([0,1,2,5,6,10,11,12,3,4,7,8,9,13,14,15,16]))]⟩
inductive S81 where
 | l1004 (v1:Int) (v2:L3) (v3:Int)
def T81 {R:Type} (B:Ops) (c90:C90) (c81:C81) (p0:Int) (p1:L3) (p2:Int) (again:S81→Option R) (k:(LB×L3×Int)→Option R):Option S81→Option R | none=>ob (c90 22 p1 p2) fun y0=>cond (B.lt 2 p0) (cond (B.eq 4 0) none (again (.l1004 (IntKind.wrap .i64 (18+Int.tmod y0.1 4)) y0.2.1 y0.2.2))) (cond (B.lt 9 y0.2.2) (cond (B.eq 4 0) none (again (.l1004 (IntKind.wrap .i64 (18+Int.tmod y0.1 4)) y0.2.1 y0.2.2))) (again (.l1004 y0.1 y0.2.1 y0.2.2))) | some (.l1004 v1 v2 v3)=>cond (B.lt v1 3) (ob (c81 (IntKind.wrap .i64 (p0+1)) v2 v3) fun y0=>cond (B.lim (3+List.length y0.1) 1) (cond (B.lim (List.length (([71,32,40]:LB)++y0.1)+1) 1) (k ((([71,32,40]:LB)++y0.1++([41]:LB),y0.2.1,y0.2.2))) none) none) (cond (B.lt v1 6) (ob (c81 (IntKind.wrap .i64 (p0+1)) v2 v3) fun y0=>cond (B.lim (3+List.length y0.1) 1) (cond (B.lim (List.length (([70,32,40]:LB)++y0.1)+1) 1) (k ((([70,32,40]:LB)++y0.1++([41]:LB),y0.2.1,y0.2.2))) none) none) (cond (B.lt v1 8) (ob (c81 (IntKind.wrap .i64 (p0+1)) v2 v3) fun y0=>cond (B.lim (2+List.length y0.1) 1) (k ((([88,32]:LB)++y0.1,y0.2.1,y0.2.2))) none) (cond (B.lt v1 11) (ob (c81 (IntKind.wrap .i64 (p0+1)) v2 v3) fun y0=>cond (B.lim (1+List.length y0.1) 1) (ob (c90 2 y0.2.1 y0.2.2) fun y1=>cond (B.inb y1.1 2) (cond (B.lim (List.length (([40]:LB)++y0.1)+List.length (List.getD (([32,85,32]:LB)::([32,82,32]:LB)::mt LB) (Int.toNat y1.1) (mt UInt8))) 1) (ob (c81 (IntKind.wrap .i64 (p0+1)) y1.2.1 y1.2.2) fun y2=>cond (B.lim (List.length (([40]:LB)++y0.1++List.getD (([32,85,32]:LB)::([32,82,32]:LB)::mt LB) (Int.toNat y1.1) (mt UInt8))+List.length y2.1) 1) (cond (B.lim (List.length (([40]:LB)++y0.1++List.getD (([32,85,32]:LB)::([32,82,32]:LB)::mt LB) (Int.toNat y1.1) (mt UInt8)++y2.1)+1) 1) (k ((([40]:LB)++y0.1++List.getD (([32,85,32]:LB)::([32,82,32]:LB)::mt LB) (Int.toNat y1.1) (mt UInt8)++y2.1++([41]:LB),y2.2.1,y2.2.2))) none) none) none) none) none) (cond (B.lt v1 15) (ob (c81 (IntKind.wrap .i64 (p0+1)) v2 v3) fun y0=>cond (B.lim (1+List.length y0.1) 1) (ob (c90 3 y0.2.1 y0.2.2) fun y1=>cond (B.inb y1.1 3) (cond (B.lim (List.length (([40]:LB)++y0.1)+List.length (List.getD (([32,38,38,32]:LB)::([32,124,124,32]:LB)::([32,45,62,32]:LB)::mt LB) (Int.toNat y1.1) (mt UInt8))) 1) (ob (c81 (IntKind.wrap .i64 (p0+1)) y1.2.1 y1.2.2) fun y2=>cond (B.lim (List.length (([40]:LB)++y0.1++List.getD (([32,38,38,32]:LB)::([32,124,124,32]:LB)::([32,45,62,32]:LB)::mt LB) (Int.toNat y1.1) (mt UInt8))+List.length y2.1) 1) (cond (B.lim (List.length (([40]:LB)++y0.1++List.getD (([32,38,38,32]:LB)::([32,124,124,32]:LB)::([32,45,62,32]:LB)::mt LB) (Int.toNat y1.1) (mt UInt8)++y2.1)+1) 1) (k ((([40]:LB)++y0.1++List.getD (([32,38,38,32]:LB)::([32,124,124,32]:LB)::([32,45,62,32]:LB)::mt LB) (Int.toNat y1.1) (mt UInt8)++y2.1++([41]:LB),y2.2.1,y2.2.2))) none) none) none) none) none) (cond (B.lt v1 17) (ob (c81 (IntKind.wrap .i64 (p0+1)) v2 v3) fun y0=>cond (B.lim (1+List.length y0.1) 1) (k ((([33]:LB)++y0.1,y0.2.1,y0.2.2))) none) (cond (B.eq v1 17) (ob (c81 (IntKind.wrap .i64 (p0+1)) v2 v3) fun y0=>cond (B.lim (4+List.length y0.1) 1) (k ((([71,32,70,32]:LB)++y0.1,y0.2.1,y0.2.2))) none) (cond (B.eq v1 18) (ob (c90 2 v2 v3) fun y0=>cond (B.inb y0.1 2) (k ((List.getD (([116,114,117,101]:LB)::([102,97,108,115,101]:LB)::mt LB) (Int.toNat y0.1) (mt UInt8),y0.2.1,y0.2.2))) none) (ob (c90 6 v2 v3) fun y0=>cond (B.inb y0.1 6) (k ((List.getD (([91,120,61,61,49,93]:LB)::([91,112,64,97,93]:LB)::([91,121,60,49,93]:LB)::([91,113,64,98,38,38,120,62,48,93]:LB)::([91,120,61,61,121,93]:LB)::([91,112,64,98,93]:LB)::mt LB) (Int.toNat y0.1) (mt UInt8),y0.2.1,y0.2.2))) none))))))))
def E81 (p0:Int) (p1:L3) (p2:Int):S81→List AV×Objs
 | .l1004 v1 v2 v3=>(mk 111 [(0,.c (.ptr 0 0)),(1,.c (.int .i64 p0)),(5,.c (.int .i64 v1))],[(0,.box 82 [.list 3 ty3 v2,.int .i64 v3])])
def I81:S81→Nat
 | .l1004 _ _ _=>1004
noncomputable abbrev A81 {R:Type} (B:Ops) (c90:C90) (c81:C81) (p0:Int) (p1:L3) (p2:Int) (k:AV→Objs→Option R) (s:S81) (n:Nat):Option R:=aloop tau B gl0 X81 (ent 90 (e90 c90) (ent 81 (e81 c81) gnil)) ow [0] Tryd.f81 k (I81 s) (E81 p0 p1 p2 s) n
theorem eq81 {R:Type} (B:Ops) (c90:C90) (c81:C81) (p0:Int) (p1:L3) (p2:Int) (k:AV→Objs→Option R) (n:Nat):afun tau B gl0 X81 (ent 90 (e90 c90) (ent 81 (e81 c81) gnil)) ow Tryd.f81 [.c (.ptr 0 0),.c (.int .i64 p0)] [(0,.box 82 [.list 3 ty3 p1,.int .i64 p2])] k n=T81 B c90 c81 p0 p1 p2 (fun s=>A81 B c90 c81 p0 p1 p2 k s n) (K21 k) none:=by kernel_rfl
theorem el81 {R:Type} (B:Ops) (c90:C90) (c81:C81) (p0:Int) (p1:L3) (p2:Int) (k:AV→Objs→Option R) (n:Nat):∀ s,A81 B c90 c81 p0 p1 p2 k s (n+1)=T81 B c90 c81 p0 p1 p2 (fun s=>A81 B c90 c81 p0 p1 p2 k s n) (K21 k) (some s):=by
 intro s
 cases s<;>kernel_rfl
theorem nt81 {R R':Type} (B:Ops) (c90:C90) (c81:C81) (p0:Int) (p1:L3) (p2:Int) (again:S81→Option R) (again':S81→Option R') (k0:(LB×L3×Int)→Option R') (k:R'→Option R) (h:∀ s,again s=ob (again' s) k):∀ s,T81 B c90 c81 p0 p1 p2 again (fun y=>ob (k0 y) k) s=ob (T81 B c90 c81 p0 p1 p2 again' k0 s) k:=by
 rintro (_ | x)
 all_goals try cases x
 all_goals (unfold T81;repeat' first | exact rfl | exact h _ | apply qac | (apply qai;intro))
def R81 (c90:C90) (c81:C81) (p0:Int) (p1:L3) (p2:Int):Nat→S81→Option (LB×L3×Int)
 | 0,_=>none
 | n+1,s=>T81 Ops.std c90 c81 p0 p1 p2 (R81 c90 c81 p0 p1 p2 n) some (some s)
theorem rr81 {R:Type} (c90:C90) (c81:C81) (p0:Int) (p1:L3) (p2:Int) (k:AV→Objs→Option R):∀ (n:Nat) (s:S81),A81 Ops.std c90 c81 p0 p1 p2 k s n=ob (R81 c90 c81 p0 p1 p2 n s) (K21 k)
 | 0,s=>by cases s<;>rfl
 | n+1,s=>by rw [el81];exact nt81 Ops.std c90 c81 p0 p1 p2 _ _ some (K21 k) (rr81 c90 c81 p0 p1 p2 k n) (some s)
def F81 (c90:C90) (c81:C81) (p0:Int) (p1:L3) (p2:Int):Option (LB×L3×Int):=T81 Ops.std c90 c81 p0 p1 p2 (R81 c90 c81 p0 p1 p2 1000000) some none
theorem sf81 {c90:C90} {c81:C81} (h90:Sp90 c90) (h81:Sp81 c81):Sp81 (F81 c90 c81):=fun p0 p1 p2 y hy=>by
 refine qae (qab (ek90 h90) (qab (ek81 h81) qad)) 1000000 (fn:=Tryd.f81) (by kernel_rfl) (by kernel_rfl) (X:=X81) (by kernel_rfl) ?_
 rw [eq81]
 exact (nt81 Ops.std c90 c81 p0 p1 p2 _ _ some (K21 k0) (rr81 c90 c81 p0 p1 p2 k0 1000000) none).trans (by show ob (F81 c90 c81 p0 p1 p2) _=_;rw [hy];rfl)
noncomputable def Rec81:Nat→(Int→L3→Int→Option (LB×L3×Int))
 | 0=>fun _ _ _=>none
 | d+1=>F81 M90 (Rec81 d)
theorem rec81:∀ d,Sp81 (Rec81 d)
 | 0=>fun p0 p1 p2 y (h:(none:Option (LB×L3×Int))=some y)=>by cases h
 | d+1=>sf81 sm90 (rec81 d)
noncomputable def M81:C81:=(Rec81 1000000)
theorem sm81:Sp81 M81:=(rec81 1000000)
def X40:Aux:=⟨[],[]⟩
def T40 {R:Type} (B:Ops) (c81:C81) (p0:L3) (k:(LB)→Option R):Option R:=ob (c81 0 p0 0) fun y0=>k y0.1
theorem eq40 {R:Type} (B:Ops) (c81:C81) (p0:L3) (k:AV→Objs→Option R) (n:Nat):afun tau B gl0 X40 (ent 81 (e81 c81) gnil) ow Tryd.f40 [.c (.list 3 ty3 p0)] [] k n=T40 B c81 p0 (K3 k):=by kernel_rfl
theorem nt40 {R R':Type} (B:Ops) (c81:C81) (p0:L3) (k0:(LB)→Option R') (k:R'→Option R):T40 B c81 p0 (fun y=>ob (k0 y) k)=ob (T40 B c81 p0 k0) k:=by
 unfold T40
 repeat' first | exact rfl | apply qac | (apply qai;intro)
def F40 (c81:C81) (p0:L3):Option (LB):=T40 Ops.std c81 p0 some
abbrev C40:Type:=L3→Option (LB)
def e40 {R:Type} (c:C40):Ent R:=eG [.aC (.cL 3 ty3)] [] fun v k=>ob (c v.1) (K3 k)
abbrev Sp40 (c:C40):Prop:=∀ (p0:L3) (y:LB),c p0=some y→Spec Tryd.prog gl0 40 [.c (.list 3 ty3 p0)] [] (.c (.str y)) []
theorem ek40 {R:Type} {c:C40} (hs:Sp40 c):EOk 40 (e40 (R:=R) c):=qan fun v=>hs v.1
theorem sf40 {c81:C81} (h81:Sp81 c81):Sp40 (F40 c81):=fun p0 y hy=>by
 refine qae (qab (ek81 h81) qad) 1000000 (fn:=Tryd.f40) (by kernel_rfl) (by kernel_rfl) (X:=X40) (by kernel_rfl) ?_
 rw [eq40]
 exact (nt40 Ops.std c81 p0 some (K3 k0)).trans (by show ob (F40 c81 p0) _=_;rw [hy];rfl)
noncomputable def M40:C40:=F40 M81
theorem sm40:Sp40 M40:=sf40 sm81
def X65:Aux:=⟨[(4,(rg 2 10++rg 14 12))],[(6,.lin [0,1,2,3,4,5,6,7,8])]⟩
inductive S65 where
 | l0 (v2 v3:Int)
def T65 {R:Type} (B:Ops) (p0 p1:L56) (again:S65→Option R) (k:(Bool)→Option R):Option S65→Option R | none=>cond (!B.eq (↑p0.length) (↑p1.length)) (k false) (again (.l0 (↑p0.length) 0)) | some (.l0 v2 v3)=>cond (B.lt v3 v2) (cond (B.inb v3 p0.length) (cond (B.inb v3 p1.length) (cond (!(B.eq (p0.getD v3.toNat ty56.dflt).1 (p1.getD v3.toNat ty56.dflt).1 && (B.eq ((p0.getD v3.toNat ty56.dflt).2).1 ((p1.getD v3.toNat ty56.dflt).2).1 && ((((p0.getD v3.toNat ty56.dflt).2).2).1 == (((p1.getD v3.toNat ty56.dflt).2).2).1 && ((((p0.getD v3.toNat ty56.dflt).2).2).2 == (((p1.getD v3.toNat ty56.dflt).2).2).2 && true))))) (k false) (again (.l0 v2 (IntKind.wrap .i64 (v3+1))))) none) none) (k true)
def E65 (p0 p1:L56):S65→List AV×Objs
 | .l0 v2 v3=>(mk 26 [(0,.c (.list 56 ty56 p0)),(1,.c (.list 56 ty56 p1)),(12,.c (.int .i64 v2)),(13,.c (.int .i64 v3))],[])
def I65:S65→Nat
 | .l0 _ _=>0
noncomputable abbrev A65 {R:Type} (B:Ops) (p0 p1:L56) (k:AV→Objs→Option R) (s:S65) (n:Nat):Option R:=aloop tau B gl0 X65 gnil ow [] Tryd.f65 k (I65 s) (E65 p0 p1 s) n
theorem eq65 {R:Type} (B:Ops) (p0 p1:L56) (k:AV→Objs→Option R) (n:Nat):afun tau B gl0 X65 gnil ow Tryd.f65 [.c (.list 56 ty56 p0),.c (.list 56 ty56 p1)] [] k n=T65 B p0 p1 (fun s=>A65 B p0 p1 k s n) (K2 k) none:=by kernel_rfl
theorem el65 {R:Type} (B:Ops) (p0 p1:L56) (k:AV→Objs→Option R) (n:Nat):∀ s,A65 B p0 p1 k s (n+1)=T65 B p0 p1 (fun s=>A65 B p0 p1 k s n) (K2 k) (some s):=by
 intro s
 cases s<;>kernel_rfl
theorem nt65 {R R':Type} (B:Ops) (p0 p1:L56) (again:S65→Option R) (again':S65→Option R') (k0:(Bool)→Option R') (k:R'→Option R) (h:∀ s,again s=ob (again' s) k):∀ s,T65 B p0 p1 again (fun y=>ob (k0 y) k) s=ob (T65 B p0 p1 again' k0 s) k:=by
 rintro (_ | x)
 all_goals try cases x
 all_goals (unfold T65;repeat' first | exact rfl | exact h _ | apply qac | (apply qai;intro))
def R65 (p0 p1:L56):Nat→S65→Option (Bool)
 | 0,_=>none
 | n+1,s=>T65 Ops.std p0 p1 (R65 p0 p1 n) some (some s)
theorem rr65 {R:Type} (p0 p1:L56) (k:AV→Objs→Option R):∀ (n:Nat) (s:S65),A65 Ops.std p0 p1 k s n=ob (R65 p0 p1 n s) (K2 k)
 | 0,s=>by cases s<;>rfl
 | n+1,s=>by rw [el65];exact nt65 Ops.std p0 p1 _ _ some (K2 k) (rr65 p0 p1 k n) (some s)
def F65 (p0 p1:L56):Option (Bool):=T65 Ops.std p0 p1 (R65 p0 p1 1000000) some none
abbrev C65:Type:=L56→L56→Option (Bool)
def e65 {R:Type} (c:C65):Ent R:=eG [.aC (.cL 56 ty56),.aC (.cL 56 ty56)] [] fun v k=>ob (c v.1 v.2.1) (K2 k)
abbrev Sp65 (c:C65):Prop:=∀ (p0 p1:L56) (y:Bool),c p0 p1=some y→Spec Tryd.prog gl0 65 [.c (.list 56 ty56 p0),.c (.list 56 ty56 p1)] [] (.c (.bool y)) []
theorem ek65 {R:Type} {c:C65} (hs:Sp65 c):EOk 65 (e65 (R:=R) c):=qan fun v=>hs v.1 v.2.1
theorem sf65:Sp65 (F65):=fun p0 p1 y hy=>by
 refine qae qad 1000000 (fn:=Tryd.f65) (by kernel_rfl) (by kernel_rfl) (X:=X65) (by kernel_rfl) ?_
 rw [eq65]
 exact (nt65 Ops.std p0 p1 _ _ some (K2 k0) (rr65 p0 p1 k0 1000000) none).trans (by show ob (F65 p0 p1) _=_;rw [hy];rfl)
noncomputable def M65:C65:=F65
theorem sm65:Sp65 M65:=sf65
def X27:Aux:=⟨[],[]⟩
def T27 {R:Type} (B:Ops) (c65:C65) (p0 p1:L56) (k:(Bool)→Option R):Option R:=ob (c65 p0 p1) fun y0=>k y0
theorem eq27 {R:Type} (B:Ops) (c65:C65) (p0 p1:L56) (k:AV→Objs→Option R) (n:Nat):afun tau B gl0 X27 (ent 65 (e65 c65) gnil) ow Tryd.f27 [.c (.list 56 ty56 p0),.c (.list 56 ty56 p1)] [] k n=T27 B c65 p0 p1 (K2 k):=by kernel_rfl
theorem nt27 {R R':Type} (B:Ops) (c65:C65) (p0 p1:L56) (k0:(Bool)→Option R') (k:R'→Option R):T27 B c65 p0 p1 (fun y=>ob (k0 y) k)=ob (T27 B c65 p0 p1 k0) k:=by
 unfold T27
 repeat' first | exact rfl | apply qac | (apply qai;intro)
def F27 (c65:C65) (p0 p1:L56):Option (Bool):=T27 Ops.std c65 p0 p1 some
abbrev C27:Type:=L56→L56→Option (Bool)
def e27 {R:Type} (c:C27):Ent R:=eG [.aC (.cL 56 ty56),.aC (.cL 56 ty56)] [] fun v k=>ob (c v.1 v.2.1) (K2 k)
abbrev Sp27 (c:C27):Prop:=∀ (p0 p1:L56) (y:Bool),c p0 p1=some y→Spec Tryd.prog gl0 27 [.c (.list 56 ty56 p0),.c (.list 56 ty56 p1)] [] (.c (.bool y)) []
theorem ek27 {R:Type} {c:C27} (hs:Sp27 c):EOk 27 (e27 (R:=R) c):=qan fun v=>hs v.1 v.2.1
theorem sf27 {c65:C65} (h65:Sp65 c65):Sp27 (F27 c65):=fun p0 p1 y hy=>by
 refine qae (qab (ek65 h65) qad) 1000000 (fn:=Tryd.f27) (by kernel_rfl) (by kernel_rfl) (X:=X27) (by kernel_rfl) ?_
 rw [eq27]
 exact (nt27 Ops.std c65 p0 p1 some (K2 k0)).trans (by show ob (F27 c65 p0 p1) _=_;rw [hy];rfl)
noncomputable def M27:C27:=F27 M65
theorem sm27:Sp27 M27:=sf27 sm65
def X87:Aux:=⟨[],[]⟩
def T87 {R:Type} (B:Ops) (c27:C27) (p0:Int) (p1:L56) (p2:Int) (p3:L56) (k:(Bool)→Option R):Option R:=cond (B.eq p0 p2) (ob (c27 p1 p3) fun y0=>k y0) (k false)
theorem eq87 {R:Type} (B:Ops) (c27:C27) (p0:Int) (p1:L56) (p2:Int) (p3:L56) (k:AV→Objs→Option R) (n:Nat):afun tau B gl0 X87 (ent 27 (e27 c27) gnil) ow Tryd.f87 [.agg [.int .i64 p0,.list 56 ty56 p1],.agg [.int .i64 p2,.list 56 ty56 p3]] [] k n=T87 B c27 p0 p1 p2 p3 (K2 k):=by kernel_rfl
theorem nt87 {R R':Type} (B:Ops) (c27:C27) (p0:Int) (p1:L56) (p2:Int) (p3:L56) (k0:(Bool)→Option R') (k:R'→Option R):T87 B c27 p0 p1 p2 p3 (fun y=>ob (k0 y) k)=ob (T87 B c27 p0 p1 p2 p3 k0) k:=by
 unfold T87
 repeat' first | exact rfl | apply qac | (apply qai;intro)
def F87 (c27:C27) (p0:Int) (p1:L56) (p2:Int) (p3:L56):Option (Bool):=T87 Ops.std c27 p0 p1 p2 p3 some
abbrev C87:Type:=Int→L56→Int→L56→Option (Bool)
def e87 {R:Type} (c:C87):Ent R:=eG [.aG [.cI .i64,.cL 56 ty56],.aG [.cI .i64,.cL 56 ty56]] [] fun v k=>ob (c v.1 v.2.1 v.2.2.1 v.2.2.2.1) (K2 k)
abbrev Sp87 (c:C87):Prop:=∀ (p0:Int) (p1:L56) (p2:Int) (p3:L56) (y:Bool),c p0 p1 p2 p3=some y→Spec Tryd.prog gl0 87 [.agg [.int .i64 p0,.list 56 ty56 p1],.agg [.int .i64 p2,.list 56 ty56 p3]] [] (.c (.bool y)) []
theorem ek87 {R:Type} {c:C87} (hs:Sp87 c):EOk 87 (e87 (R:=R) c):=qan fun v=>hs v.1 v.2.1 v.2.2.1 v.2.2.2.1
theorem sf87 {c27:C27} (h27:Sp27 c27):Sp87 (F87 c27):=fun p0 p1 p2 p3 y hy=>by
 refine qae (qab (ek27 h27) qad) 1000000 (fn:=Tryd.f87) (by kernel_rfl) (by kernel_rfl) (X:=X87) (by kernel_rfl) ?_
 rw [eq87]
 exact (nt87 Ops.std c27 p0 p1 p2 p3 some (K2 k0)).trans (by show ob (F87 c27 p0 p1 p2 p3) _=_;rw [hy];rfl)
noncomputable def M87:C87:=F87 M27
theorem sm87:Sp87 M87:=sf87 sm27
def X86:Aux:=⟨[(4,([0]++rg 3 12++rg 18 14))],[]⟩
inductive S86 where
 | l0 (v2 v3:Int)
def T86 {R:Type} (B:Ops) (c87:C87) (p0 p1:L78) (again:S86→Option R) (k:(Bool)→Option R):Option S86→Option R | none=>cond (!B.eq (↑p0.length) (↑p1.length)) (k false) (again (.l0 (↑p0.length) 0)) | some (.l0 v2 v3)=>cond (B.lt v3 v2) (cond (B.inb v3 p0.length) (cond (B.inb v3 p1.length) (ob (c87 (p0.getD v3.toNat ty78.dflt).1 (p0.getD v3.toNat ty78.dflt).2 (p1.getD v3.toNat ty78.dflt).1 (p1.getD v3.toNat ty78.dflt).2) fun y0=>cond (!y0) (k false) (again (.l0 v2 (IntKind.wrap .i64 (v3+1))))) none) none) (k true)
def E86 (p0 p1:L78):S86→List AV×Objs
 | .l0 v2 v3=>(mk 32 [(1,.c (.list 78 ty78 p1)),(2,.fn 87 []),(15,.c (.list 78 ty78 p0)),(16,.c (.int .i64 v2)),(17,.c (.int .i64 v3))],[])
def I86:S86→Nat
 | .l0 _ _=>0
noncomputable abbrev A86 {R:Type} (B:Ops) (c87:C87) (p0 p1:L78) (k:AV→Objs→Option R) (s:S86) (n:Nat):Option R:=aloop tau B gl0 X86 (ent 87 (e87 c87) gnil) ow [] Tryd.f86 k (I86 s) (E86 p0 p1 s) n
theorem eq86 {R:Type} (B:Ops) (c87:C87) (p0 p1:L78) (k:AV→Objs→Option R) (n:Nat):afun tau B gl0 X86 (ent 87 (e87 c87) gnil) ow Tryd.f86 [.c (.list 78 ty78 p0),.c (.list 78 ty78 p1),.fn 87 []] [] k n=T86 B c87 p0 p1 (fun s=>A86 B c87 p0 p1 k s n) (K2 k) none:=by kernel_rfl
theorem el86 {R:Type} (B:Ops) (c87:C87) (p0 p1:L78) (k:AV→Objs→Option R) (n:Nat):∀ s,A86 B c87 p0 p1 k s (n+1)=T86 B c87 p0 p1 (fun s=>A86 B c87 p0 p1 k s n) (K2 k) (some s):=by
 intro s
 cases s<;>kernel_rfl
theorem nt86 {R R':Type} (B:Ops) (c87:C87) (p0 p1:L78) (again:S86→Option R) (again':S86→Option R') (k0:(Bool)→Option R') (k:R'→Option R) (h:∀ s,again s=ob (again' s) k):∀ s,T86 B c87 p0 p1 again (fun y=>ob (k0 y) k) s=ob (T86 B c87 p0 p1 again' k0 s) k:=by
 rintro (_ | x)
 all_goals try cases x
 all_goals (unfold T86;repeat' first | exact rfl | exact h _ | apply qac | (apply qai;intro))
def R86 (c87:C87) (p0 p1:L78):Nat→S86→Option (Bool)
 | 0,_=>none
 | n+1,s=>T86 Ops.std c87 p0 p1 (R86 c87 p0 p1 n) some (some s)
theorem rr86 {R:Type} (c87:C87) (p0 p1:L78) (k:AV→Objs→Option R):∀ (n:Nat) (s:S86),A86 Ops.std c87 p0 p1 k s n=ob (R86 c87 p0 p1 n s) (K2 k)
 | 0,s=>by cases s<;>rfl
 | n+1,s=>by rw [el86];exact nt86 Ops.std c87 p0 p1 _ _ some (K2 k) (rr86 c87 p0 p1 k n) (some s)
def F86 (c87:C87) (p0 p1:L78):Option (Bool):=T86 Ops.std c87 p0 p1 (R86 c87 p0 p1 1000000) some none
abbrev C86:Type:=L78→L78→Option (Bool)
def e86 {R:Type} (c:C86):Ent R:=eG [.aC (.cL 78 ty78),.aC (.cL 78 ty78),.aF 87 []] [] fun v k=>ob (c v.1 v.2.1) (K2 k)
abbrev Sp86 (c:C86):Prop:=∀ (p0 p1:L78) (y:Bool),c p0 p1=some y→Spec Tryd.prog gl0 86 [.c (.list 78 ty78 p0),.c (.list 78 ty78 p1),.fn 87 []] [] (.c (.bool y)) []
theorem ek86 {R:Type} {c:C86} (hs:Sp86 c):EOk 86 (e86 (R:=R) c):=qan fun v=>hs v.1 v.2.1
theorem sf86 {c87:C87} (h87:Sp87 c87):Sp86 (F86 c87):=fun p0 p1 y hy=>by
 refine qae (qab (ek87 h87) qad) 1000000 (fn:=Tryd.f86) (by kernel_rfl) (by kernel_rfl) (X:=X86) (by kernel_rfl) ?_
 rw [eq86]
 exact (nt86 Ops.std c87 p0 p1 _ _ some (K2 k0) (rr86 c87 p0 p1 k0 1000000) none).trans (by show ob (F86 c87 p0 p1) _=_;rw [hy];rfl)
noncomputable def M86:C86:=F86 M87
theorem sm86:Sp86 M86:=sf86 sm87
def X43:Aux:=⟨[],[]⟩
def T43 {R:Type} (B:Ops) (c86:C86) (c87:C87) (p0 p1:L78) (k:(Bool)→Option R):Option R:=ob (c86 p0 p1) fun y0=>k y0
theorem eq43 {R:Type} (B:Ops) (c86:C86) (c87:C87) (p0 p1:L78) (k:AV→Objs→Option R) (n:Nat):afun tau B gl0 X43 (ent 86 (e86 c86) (ent 87 (e87 c87) gnil)) ow Tryd.f43 [.c (.list 78 ty78 p0),.c (.list 78 ty78 p1)] [] k n=T43 B c86 c87 p0 p1 (K2 k):=by kernel_rfl
theorem nt43 {R R':Type} (B:Ops) (c86:C86) (c87:C87) (p0 p1:L78) (k0:(Bool)→Option R') (k:R'→Option R):T43 B c86 c87 p0 p1 (fun y=>ob (k0 y) k)=ob (T43 B c86 c87 p0 p1 k0) k:=by
 unfold T43
 repeat' first | exact rfl | apply qac | (apply qai;intro)
def F43 (c86:C86) (c87:C87) (p0 p1:L78):Option (Bool):=T43 Ops.std c86 c87 p0 p1 some
abbrev C43:Type:=L78→L78→Option (Bool)
def e43 {R:Type} (c:C43):Ent R:=eG [.aC (.cL 78 ty78),.aC (.cL 78 ty78)] [] fun v k=>ob (c v.1 v.2.1) (K2 k)
abbrev Sp43 (c:C43):Prop:=∀ (p0 p1:L78) (y:Bool),c p0 p1=some y→Spec Tryd.prog gl0 43 [.c (.list 78 ty78 p0),.c (.list 78 ty78 p1)] [] (.c (.bool y)) []
theorem ek43 {R:Type} {c:C43} (hs:Sp43 c):EOk 43 (e43 (R:=R) c):=qan fun v=>hs v.1 v.2.1
theorem sf43 {c86:C86} {c87:C87} (h86:Sp86 c86) (h87:Sp87 c87):Sp43 (F43 c86 c87):=fun p0 p1 y hy=>by
 refine qae (qab (ek86 h86) (qab (ek87 h87) qad)) 1000000 (fn:=Tryd.f43) (by kernel_rfl) (by kernel_rfl) (X:=X43) (by kernel_rfl) ?_
 rw [eq43]
 exact (nt43 Ops.std c86 c87 p0 p1 some (K2 k0)).trans (by show ob (F43 c86 c87 p0 p1) _=_;rw [hy];rfl)
noncomputable def M43:C43:=F43 M86 M87
theorem sm43:Sp43 M43:=sf43 sm86 sm87
end Go.Proofs.YtkmpkebaloejhaaDoor.Av
