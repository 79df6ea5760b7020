/- Twins of functions,printed by gen.py. Conditions: none. -/
import Derived.Test.YtimcngbieedlcaaSk1
import Derived.KernelRfl
set_option linter.unusedSimpArgs false
set_option linter.unusedVariables false
set_option maxRecDepth 100000
set_option maxHeartbeats 8000000
namespace Go.Proofs.Ytimcngbieedlcaa.Av
open Go
def X42:Aux:=⟨[(6,([0,1,4,5,6,7]++rg 9 74))],[(8,.lin (rg 0 20))]⟩
inductive S42 where
 | l0 (v0:Int)
def T42 {R:Type} (B:Ops) (c64:C64) (c35:C35) (c57:C57) (c65:C65) (c66:C66) (c67:C67) (p0:L62) (p1:L66) (p2:L43) (p3:Int) (p4 p5 p6 p7:LB) (p8:L95) (p9:L73) (again:S42→Option R) (k:(Bool)→Option R):Option S42→Option R | none=>ob (c64 p0 p1 p2 p4) fun y0=>ob (c35 p7) fun y1=>ob (c57 p3) fun y2=>cond (!y2) (k false) (cond (!y1.2) (k false) (ob (c65 p0 p1 p2 y0 p5) fun y3=>cond (B.lt y3 0) (k false) (ob (c65 p0 p1 p2 y0 p6) fun y4=>cond (B.lt y4 0) (k false) (ob (c66 p0 p1 p2 p8) fun y5=>cond (!y5) (k false) (cond (B.lt 3 (↑p9.length)) (k false) (again (.l0 0))))))) | some (.l0 v0)=>cond (B.lt v0 (↑p9.length)) (cond (B.inb v0 p9.length) (ob (c67 p0 p1 p2 ((p9.getD v0.toNat ty73.dflt).1)) fun y0=>cond (B.lt y0 0) (k false) (cond (B.inb v0 p9.length) (ob (c66 p0 p1 p2 ((p9.getD v0.toNat ty73.dflt).2)) fun y1=>cond (!y1) (k false) (again (.l0 (IntKind.wrap .i64 (v0+1))))) none)) none) (k true)
def E42 (p0:L62) (p1:L66) (p2:L43) (p3:Int) (p4 p5 p6 p7:LB) (p8:L95) (p9:L73):S42→List AV×Objs
 | .l0 v0=>(mk 83 [(2,.c (.ptr 2 0)),(3,.c (.ptr 3 0)),(8,.c (.int .i64 v0))],[(2,.box 27 [.list 62 ty62 p0,.list 66 ty66 p1,.list 43 ty43 p2]),(3,.box 43 [.int .i64 p3,.str p4,.str p5,.str p6,.str p7,.list 95 ty95 p8,.list 73 ty73 p9])])
def I42:S42→Nat
 | .l0 _=>0
theorem eq42 {R:Type} (B:Ops) (c64:C64) (c35:C35) (c57:C57) (c65:C65) (c66:C66) (c67:C67) (p0:L62) (p1:L66) (p2:L43) (p3:Int) (p4 p5 p6 p7:LB) (p8:L95) (p9:L73) (k:AV→Objs→Option R) (n:Nat):afun tau B gl0 X42 (ent 64 (e64 c64) (ent 35 (e35 c35) (ent 57 (e57 c57) (ent 65 (e65 c65) (ent 66 (e66 c66) (ent 67 (e67 c67) gnil)))))) ow Try.f42 [.agg [.list 62 ty62 p0,.list 66 ty66 p1,.list 43 ty43 p2],.agg [.int .i64 p3,.str p4,.str p5,.str p6,.str p7,.list 95 ty95 p8,.list 73 ty73 p9]] [] k n=T42 B c64 c35 c57 c65 c66 c67 p0 p1 p2 p3 p4 p5 p6 p7 p8 p9 (fun s=>aloop tau B gl0 X42 (ent 64 (e64 c64) (ent 35 (e35 c35) (ent 57 (e57 c57) (ent 65 (e65 c65) (ent 66 (e66 c66) (ent 67 (e67 c67) gnil)))))) ow [] Try.f42 k (I42 s) (E42 p0 p1 p2 p3 p4 p5 p6 p7 p8 p9 s) n) (K2 k) none:=by kernel_rfl
theorem el42 {R:Type} (B:Ops) (c64:C64) (c35:C35) (c57:C57) (c65:C65) (c66:C66) (c67:C67) (p0:L62) (p1:L66) (p2:L43) (p3:Int) (p4 p5 p6 p7:LB) (p8:L95) (p9:L73) (k:AV→Objs→Option R) (n:Nat):∀ s,aloop tau B gl0 X42 (ent 64 (e64 c64) (ent 35 (e35 c35) (ent 57 (e57 c57) (ent 65 (e65 c65) (ent 66 (e66 c66) (ent 67 (e67 c67) gnil)))))) ow [] Try.f42 k (I42 s) (E42 p0 p1 p2 p3 p4 p5 p6 p7 p8 p9 s) (n+1)=T42 B c64 c35 c57 c65 c66 c67 p0 p1 p2 p3 p4 p5 p6 p7 p8 p9 (fun s=>aloop tau B gl0 X42 (ent 64 (e64 c64) (ent 35 (e35 c35) (ent 57 (e57 c57) (ent 65 (e65 c65) (ent 66 (e66 c66) (ent 67 (e67 c67) gnil)))))) ow [] Try.f42 k (I42 s) (E42 p0 p1 p2 p3 p4 p5 p6 p7 p8 p9 s) n) (K2 k) (some s):=by
 intro s
 cases s<;>kernel_rfl
theorem nt42 {R R':Type} (B:Ops) (c64:C64) (c35:C35) (c57:C57) (c65:C65) (c66:C66) (c67:C67) (p0:L62) (p1:L66) (p2:L43) (p3:Int) (p4 p5 p6 p7:LB) (p8:L95) (p9:L73) (again:S42→Option R) (again':S42→Option R') (k0:(Bool)→Option R') (k:R'→Option R) (h:∀ s,again s=ob (again' s) k):∀ s,T42 B c64 c35 c57 c65 c66 c67 p0 p1 p2 p3 p4 p5 p6 p7 p8 p9 again (fun y=>ob (k0 y) k) s=ob (T42 B c64 c35 c57 c65 c66 c67 p0 p1 p2 p3 p4 p5 p6 p7 p8 p9 again' k0 s) k:=by
 rintro (_ | x)
 all_goals try cases x
 all_goals (unfold T42;repeat' first | exact rfl | exact h _ | apply qab | (apply qae;intro))
def R42 (c64:C64) (c35:C35) (c57:C57) (c65:C65) (c66:C66) (c67:C67) (p0:L62) (p1:L66) (p2:L43) (p3:Int) (p4 p5 p6 p7:LB) (p8:L95) (p9:L73):Nat→S42→Option (Bool)
 | 0,_=>none
 | n+1,s=>T42 Ops.std c64 c35 c57 c65 c66 c67 p0 p1 p2 p3 p4 p5 p6 p7 p8 p9 (R42 c64 c35 c57 c65 c66 c67 p0 p1 p2 p3 p4 p5 p6 p7 p8 p9 n) some (some s)
theorem rr42 {R:Type} (c64:C64) (c35:C35) (c57:C57) (c65:C65) (c66:C66) (c67:C67) (p0:L62) (p1:L66) (p2:L43) (p3:Int) (p4 p5 p6 p7:LB) (p8:L95) (p9:L73) (k:AV→Objs→Option R):∀ (n:Nat) (s:S42),aloop tau Ops.std gl0 X42 (ent 64 (e64 c64) (ent 35 (e35 c35) (ent 57 (e57 c57) (ent 65 (e65 c65) (ent 66 (e66 c66) (ent 67 (e67 c67) gnil)))))) ow [] Try.f42 k (I42 s) (E42 p0 p1 p2 p3 p4 p5 p6 p7 p8 p9 s) n=ob (R42 c64 c35 c57 c65 c66 c67 p0 p1 p2 p3 p4 p5 p6 p7 p8 p9 n s) (K2 k)
 | 0,s=>by cases s<;>rfl
 | n+1,s=>by rw [el42];exact nt42 Ops.std c64 c35 c57 c65 c66 c67 p0 p1 p2 p3 p4 p5 p6 p7 p8 p9 _ _ some (K2 k) (rr42 c64 c35 c57 c65 c66 c67 p0 p1 p2 p3 p4 p5 p6 p7 p8 p9 k n) (some s)
def F42 (c64:C64) (c35:C35) (c57:C57) (c65:C65) (c66:C66) (c67:C67) (p0:L62) (p1:L66) (p2:L43) (p3:Int) (p4 p5 p6 p7:LB) (p8:L95) (p9:L73):Option (Bool):=T42 Ops.std c64 c35 c57 c65 c66 c67 p0 p1 p2 p3 p4 p5 p6 p7 p8 p9 (R42 c64 c35 c57 c65 c66 c67 p0 p1 p2 p3 p4 p5 p6 p7 p8 p9 1000000) some none
abbrev C42:Type:=L62→L66→L43→Int→LB→LB→LB→LB→L95→L73→Option (Bool)
def e42 {R:Type} (c:C42):Ent R:=eG [.aG [.cL 62 ty62,.cL 66 ty66,.cL 43 ty43],.aG [.cI .i64,.cS,.cS,.cS,.cS,.cL 95 ty95,.cL 73 ty73]] [] fun v k=>ob (c v.1 v.2.1 v.2.2.1 v.2.2.2.1 v.2.2.2.2.1 v.2.2.2.2.2.1 v.2.2.2.2.2.2.1 v.2.2.2.2.2.2.2.1 v.2.2.2.2.2.2.2.2.1 v.2.2.2.2.2.2.2.2.2.1) (K2 k)
abbrev Sp42 (c:C42):Prop:=∀ (p0:L62) (p1:L66) (p2:L43) (p3:Int) (p4 p5 p6 p7:LB) (p8:L95) (p9:L73) (y:Bool),c p0 p1 p2 p3 p4 p5 p6 p7 p8 p9=some y→Spec Try.prog gl0 42 [.agg [.list 62 ty62 p0,.list 66 ty66 p1,.list 43 ty43 p2],.agg [.int .i64 p3,.str p4,.str p5,.str p6,.str p7,.list 95 ty95 p8,.list 73 ty73 p9]] [] (.c (.bool y)) []
theorem ek42 {R:Type} {c:C42} (hs:Sp42 c):EOk 42 (e42 (R:=R) c):=qag fun v=>hs v.1 v.2.1 v.2.2.1 v.2.2.2.1 v.2.2.2.2.1 v.2.2.2.2.2.1 v.2.2.2.2.2.2.1 v.2.2.2.2.2.2.2.1 v.2.2.2.2.2.2.2.2.1 v.2.2.2.2.2.2.2.2.2.1
theorem sf42 {c64:C64} {c35:C35} {c57:C57} {c65:C65} {c66:C66} {c67:C67} (h64:Sp64 c64) (h35:Sp35 c35) (h57:Sp57 c57) (h65:Sp65 c65) (h66:Sp66 c66) (h67:Sp67 c67):Sp42 (F42 c64 c35 c57 c65 c66 c67):=fun p0 p1 p2 p3 p4 p5 p6 p7 p8 p9 y hy=>by
 refine qad (qaa (ek64 h64) (qaa (ek35 h35) (qaa (ek57 h57) (qaa (ek65 h65) (qaa (ek66 h66) (qaa (ek67 h67) qac)))))) 1000000 (fn:=Try.f42) (by kernel_rfl) (by kernel_rfl) (X:=X42) (by kernel_rfl) ?_
 rw [eq42]
 exact (nt42 Ops.std c64 c35 c57 c65 c66 c67 p0 p1 p2 p3 p4 p5 p6 p7 p8 p9 _ _ some (K2 k0) (rr42 c64 c35 c57 c65 c66 c67 p0 p1 p2 p3 p4 p5 p6 p7 p8 p9 k0 1000000) none).trans (by show ob (F42 c64 c35 c57 c65 c66 c67 p0 p1 p2 p3 p4 p5 p6 p7 p8 p9) _=_;rw [hy];rfl)
noncomputable def M42:C42:=F42 M64 M35 M57 M65 M66 M67
theorem sm42:Sp42 M42:=sf42 sm64 sm35 sm57 sm65 sm66 sm67
def X25:Aux:=⟨[(3,([0,2]++rg 6 166)),(10,([0,2,5,6]++rg 8 164)),(17,([0,2,5,6]++rg 10 162)),(24,([0,2,3,4,5,6,7,8,9]++rg 11 161)),(1000004,([0,2]++rg 6 166)),(1000016,([0,2,5,6]++rg 9 163)),(1000023,([0]++rg 2 170)),(1000025,([0,2,3,4,5,6,7,8,9]++rg 11 161))],[(26,.lin (rg 0 28))]⟩
inductive S25 where
 | l0 (v0:Int) (v4:L9)
 | l1 (v0:Int) (v4 v5:L9)
 | l2 (v0 v1:Int) (v5 v6:L9) (v7:LB) (v8:L9)
 | l3 (v0:Int)
 | l1004 (v0:Int) (v4:L9)
 | l1016 (v0:Int) (v4 v5:L9) (v6:LB) (v7:L9)
 | l1023
 | l1025 (v0:Int)
def T25 {R:Type} (B:Ops) (c39:C39) (c40:C40) (c41:C41) (c42:C42) (p0:L62) (p1:L66) (p2:L43) (again:S25→Option R) (k:(Bool)→Option R):Option S25→Option R | none=>again (.l0 0 (mt (Ty.den Ty.str))) | some (.l0 v0 v4)=>cond (B.lt v0 (↑p0.length)) (cond (B.inb v0 p0.length) (cond (B.lim (List.length v4+List.length ((p0.getD v0.toNat ty62.dflt).1::mt (Ty.den Ty.str))) 16) (ob (c39 ((p0.getD v0.toNat ty62.dflt).1)) fun y0=>cond (!y0) (k false) (cond (B.lt ((((p0.getD v0.toNat ty62.dflt).2).2).2) (((p0.getD v0.toNat ty62.dflt).2).1)) (k false) (cond (B.lt ((((p0.getD v0.toNat ty62.dflt).2).2).1) ((((p0.getD v0.toNat ty62.dflt).2).2).2)) (k false) (ob (c40 (((p0.getD v0.toNat ty62.dflt).2).1)) fun y1=>cond (!y1) (k false) (ob (c40 ((((p0.getD v0.toNat ty62.dflt).2).2).1)) fun y2=>cond (!y2) (k false) (again (.l1004 v0 (v4++(p0.getD v0.toNat ty62.dflt).1::mt (Ty.den Ty.str))))))))) none) none) (again (.l1 0 v4 ((mt (Ty.den Ty.str))))) | some (.l1 v0 v4 v5)=>cond (B.lt v0 (↑p1.length)) (cond (B.inb v0 p1.length) (cond (B.lim (List.length v5+List.length ((p1.getD v0.toNat ty66.dflt).1::mt (Ty.den Ty.str))) 16) (ob (c39 ((p1.getD v0.toNat ty66.dflt).1)) fun y0=>cond (!y0) (k false) (cond (B.lt (Nat.cast (List.length ((p1.getD v0.toNat ty66.dflt).2))) 1) (k false) (cond (B.lt 6 (Nat.cast (List.length ((p1.getD v0.toNat ty66.dflt).2)))) (k false) (ob (c41 ((p1.getD v0.toNat ty66.dflt).2)) fun y1=>cond (y1) (k false) (again (.l1016 v0 v4 (v5++(p1.getD v0.toNat ty66.dflt).1::mt (Ty.den Ty.str)) ((p1.getD v0.toNat ty66.dflt).1) ((p1.getD v0.toNat ty66.dflt).2))))))) none) none) (cond (B.lt 4 (↑v4.length)) (k false) (cond (B.lt (↑v5.length) 1) (k false) (cond (B.lt 3 (↑v5.length)) (k false) (cond (B.lt 16 (↑p2.length)) (k false) (ob (c41 v4) fun y0=>cond (y0) (k false) (ob (c41 v5) fun y1=>cond (y1) (k false) (again (.l1023)))))))) | some (.l2 v0 v1 v5 v6 v7 v8)=>cond (B.lt v1 (↑v8.length)) (cond (B.inb v1 v8.length) (ob (c39 (v8.getD v1.toNat ty9.dflt)) fun y0=>cond (!y0) (k false) (again (.l2 v0 (IntKind.wrap .i64 (v1+1)) v5 v6 v7 v8))) none) (again (.l1 (IntKind.wrap .i64 (v0+1)) v5 v6)) | some (.l3 v0)=>cond (B.lt v0 (↑p2.length)) (cond (B.inb v0 p2.length) (ob (c42 p0 p1 p2 ((p2.getD v0.toNat ty43.dflt).1) (((p2.getD v0.toNat ty43.dflt).2).1) ((((p2.getD v0.toNat ty43.dflt).2).2).1) (((((p2.getD v0.toNat ty43.dflt).2).2).2).1) ((((((p2.getD v0.toNat ty43.dflt).2).2).2).2).1) (Prod.fst ((((((p2.getD v0.toNat ty43.dflt).2).2).2).2).2)) (Prod.snd ((((((p2.getD v0.toNat ty43.dflt).2).2).2).2).2))) fun y0=>cond (!y0) (k false) (cond (B.lt 0 v0) (cond (B.inb v0 p2.length) (cond (B.inb (IntKind.wrap .i64 (v0-1)) p2.length) (cond (B.le ((p2.getD v0.toNat ty43.dflt).1) ((p2.getD (Int.toNat (IntKind.wrap .i64 (v0-1))) ty43.dflt).1)) (k false) (again (.l1025 v0))) none) none) (again (.l1025 v0)))) none) (k true) | some (.l1004 v0 v4)=>again (.l0 (IntKind.wrap .i64 (v0+1)) v4) | some (.l1016 v0 v4 v5 v6 v7)=>again (.l2 v0 0 v4 v5 v6 v7) | some (.l1023)=>again (.l3 0) | some (.l1025 v0)=>again (.l3 (IntKind.wrap .i64 (v0+1)))
def E25 (p0:L62) (p1:L66) (p2:L43):S25→List AV×Objs
 | .l0 v0 v4=>(mk 172 [(1,.c (.ptr 1 0)),(3,.c (.own 3)),(4,.c (.own 4)),(5,.c (.int .i64 v0))],[(1,.box 27 [.list 62 ty62 p0,.list 66 ty66 p1,.list 43 ty43 p2]),(3,.row 9 ty9 v4),(4,.row 9 ty9 (mt (Ty.den Ty.str)))])
 | .l1 v0 v4 v5=>(mk 172 [(1,.c (.ptr 1 0)),(3,.c (.own 3)),(4,.c (.own 4)),(7,.c (.int .i64 v0))],[(1,.box 27 [.list 62 ty62 p0,.list 66 ty66 p1,.list 43 ty43 p2]),(3,.row 9 ty9 v4),(4,.row 9 ty9 v5)])
 | .l2 v0 v1 v5 v6 v7 v8=>(mk 172 [(1,.c (.ptr 1 0)),(3,.c (.own 3)),(4,.c (.own 4)),(7,.c (.int .i64 v0)),(8,.c (.ptr 8 0)),(9,.c (.int .i64 v1))],[(1,.box 27 [.list 62 ty62 p0,.list 66 ty66 p1,.list 43 ty43 p2]),(3,.row 9 ty9 v5),(4,.row 9 ty9 v6),(8,.box 66 [.str v7,.list 9 ty9 v8])])
 | .l3 v0=>(mk 172 [(1,.c (.ptr 1 0)),(10,.c (.int .i64 v0))],[(1,.box 27 [.list 62 ty62 p0,.list 66 ty66 p1,.list 43 ty43 p2])])
 | .l1004 v0 v4=>(mk 172 [(1,.c (.ptr 1 0)),(3,.c (.own 3)),(4,.c (.own 4)),(5,.c (.int .i64 v0))],[(1,.box 27 [.list 62 ty62 p0,.list 66 ty66 p1,.list 43 ty43 p2]),(3,.row 9 ty9 v4),(4,.row 9 ty9 (mt (Ty.den Ty.str)))])
 | .l1016 v0 v4 v5 v6 v7=>(mk 172 [(1,.c (.ptr 1 0)),(3,.c (.own 3)),(4,.c (.own 4)),(7,.c (.int .i64 v0)),(8,.c (.ptr 8 0))],[(1,.box 27 [.list 62 ty62 p0,.list 66 ty66 p1,.list 43 ty43 p2]),(3,.row 9 ty9 v4),(4,.row 9 ty9 v5),(8,.box 66 [.str v6,.list 9 ty9 v7])])
 | .l1023=>(mk 172 [(1,.c (.ptr 1 0))],[(1,.box 27 [.list 62 ty62 p0,.list 66 ty66 p1,.list 43 ty43 p2])])
 | .l1025 v0=>(mk 172 [(1,.c (.ptr 1 0)),(10,.c (.int .i64 v0))],[(1,.box 27 [.list 62 ty62 p0,.list 66 ty66 p1,.list 43 ty43 p2])])
def I25:S25→Nat
 | .l0 _ _=>0
 | .l1 _ _ _=>1
 | .l2 _ _ _ _ _ _=>2
 | .l3 _=>3
 | .l1004 _ _=>1004
 | .l1016 _ _ _ _ _=>1016
 | .l1023=>1023
 | .l1025 _=>1025
theorem eq25 {R:Type} (B:Ops) (c39:C39) (c40:C40) (c41:C41) (c42:C42) (p0:L62) (p1:L66) (p2:L43) (k:AV→Objs→Option R) (n:Nat):afun tau B gl0 X25 (ent 39 (e39 c39) (ent 40 (e40 c40) (ent 41 (e41 c41) (ent 42 (e42 c42) gnil)))) ow Try.f25 [.agg [.list 62 ty62 p0,.list 66 ty66 p1,.list 43 ty43 p2]] [] k n=T25 B c39 c40 c41 c42 p0 p1 p2 (fun s=>aloop tau B gl0 X25 (ent 39 (e39 c39) (ent 40 (e40 c40) (ent 41 (e41 c41) (ent 42 (e42 c42) gnil)))) ow [] Try.f25 k (I25 s) (E25 p0 p1 p2 s) n) (K2 k) none:=by kernel_rfl
theorem el25 {R:Type} (B:Ops) (c39:C39) (c40:C40) (c41:C41) (c42:C42) (p0:L62) (p1:L66) (p2:L43) (k:AV→Objs→Option R) (n:Nat):∀ s,aloop tau B gl0 X25 (ent 39 (e39 c39) (ent 40 (e40 c40) (ent 41 (e41 c41) (ent 42 (e42 c42) gnil)))) ow [] Try.f25 k (I25 s) (E25 p0 p1 p2 s) (n+1)=T25 B c39 c40 c41 c42 p0 p1 p2 (fun s=>aloop tau B gl0 X25 (ent 39 (e39 c39) (ent 40 (e40 c40) (ent 41 (e41 c41) (ent 42 (e42 c42) gnil)))) ow [] Try.f25 k (I25 s) (E25 p0 p1 p2 s) n) (K2 k) (some s):=by
 intro s
 cases s<;>kernel_rfl
theorem nt25 {R R':Type} (B:Ops) (c39:C39) (c40:C40) (c41:C41) (c42:C42) (p0:L62) (p1:L66) (p2:L43) (again:S25→Option R) (again':S25→Option R') (k0:(Bool)→Option R') (k:R'→Option R) (h:∀ s,again s=ob (again' s) k):∀ s,T25 B c39 c40 c41 c42 p0 p1 p2 again (fun y=>ob (k0 y) k) s=ob (T25 B c39 c40 c41 c42 p0 p1 p2 again' k0 s) k:=by
 rintro (_ | x)
 all_goals try cases x
 all_goals (unfold T25;repeat' first | exact rfl | exact h _ | apply qab | (apply qae;intro))
def R25 (c39:C39) (c40:C40) (c41:C41) (c42:C42) (p0:L62) (p1:L66) (p2:L43):Nat→S25→Option (Bool)
 | 0,_=>none
 | n+1,s=>T25 Ops.std c39 c40 c41 c42 p0 p1 p2 (R25 c39 c40 c41 c42 p0 p1 p2 n) some (some s)
theorem rr25 {R:Type} (c39:C39) (c40:C40) (c41:C41) (c42:C42) (p0:L62) (p1:L66) (p2:L43) (k:AV→Objs→Option R):∀ (n:Nat) (s:S25),aloop tau Ops.std gl0 X25 (ent 39 (e39 c39) (ent 40 (e40 c40) (ent 41 (e41 c41) (ent 42 (e42 c42) gnil)))) ow [] Try.f25 k (I25 s) (E25 p0 p1 p2 s) n=ob (R25 c39 c40 c41 c42 p0 p1 p2 n s) (K2 k)
 | 0,s=>by cases s<;>rfl
 | n+1,s=>by rw [el25];exact nt25 Ops.std c39 c40 c41 c42 p0 p1 p2 _ _ some (K2 k) (rr25 c39 c40 c41 c42 p0 p1 p2 k n) (some s)
def F25 (c39:C39) (c40:C40) (c41:C41) (c42:C42) (p0:L62) (p1:L66) (p2:L43):Option (Bool):=T25 Ops.std c39 c40 c41 c42 p0 p1 p2 (R25 c39 c40 c41 c42 p0 p1 p2 1000000) some none
abbrev C25:Type:=L62→L66→L43→Option (Bool)
def e25 {R:Type} (c:C25):Ent R:=eG [.aG [.cL 62 ty62,.cL 66 ty66,.cL 43 ty43]] [] fun v k=>ob (c v.1 v.2.1 v.2.2.1) (K2 k)
abbrev Sp25 (c:C25):Prop:=∀ (p0:L62) (p1:L66) (p2:L43) (y:Bool),c p0 p1 p2=some y→Spec Try.prog gl0 25 [.agg [.list 62 ty62 p0,.list 66 ty66 p1,.list 43 ty43 p2]] [] (.c (.bool y)) []
theorem ek25 {R:Type} {c:C25} (hs:Sp25 c):EOk 25 (e25 (R:=R) c):=qag fun v=>hs v.1 v.2.1 v.2.2.1
theorem sf25 {c39:C39} {c40:C40} {c41:C41} {c42:C42} (h39:Sp39 c39) (h40:Sp40 c40) (h41:Sp41 c41) (h42:Sp42 c42):Sp25 (F25 c39 c40 c41 c42):=fun p0 p1 p2 y hy=>by
 refine qad (qaa (ek39 h39) (qaa (ek40 h40) (qaa (ek41 h41) (qaa (ek42 h42) qac)))) 1000000 (fn:=Try.f25) (by kernel_rfl) (by kernel_rfl) (X:=X25) (by kernel_rfl) ?_
 rw [eq25]
 exact (nt25 Ops.std c39 c40 c41 c42 p0 p1 p2 _ _ some (K2 k0) (rr25 c39 c40 c41 c42 p0 p1 p2 k0 1000000) none).trans (by show ob (F25 c39 c40 c41 c42 p0 p1 p2) _=_;rw [hy];rfl)
noncomputable def M25:C25:=F25 M39 M40 M41 M42
theorem sm25:Sp25 M25:=sf25 sm39 sm40 sm41 sm42
def X68:Aux:=⟨[(2,([0,2,3,4,5,6,7]++rg 11 10)),(2000000,[])],[]⟩
inductive S68 where
 | l0 (v2 v3:Int)
def T68 {R:Type} (B:Ops) (p0:L62) (p1:L66) (p2:L43) (p3:LB) (again:S68→Option R) (k:(L9)→Option R):Option S68→Option R | none=>again (.l0 (↑p1.length) 0) | some (.l0 v2 v3)=>cond (B.lt v3 v2) (cond (B.inb v3 p1.length) (cond ((p1.getD v3.toNat ty66.dflt).1 == p3) (k ((p1.getD v3.toNat ty66.dflt).2)) (again (.l0 v2 (IntKind.wrap .i64 (v3+1))))) none) (k (mt (Ty.den Ty.str)))
def E68 (p0:L62) (p1:L66) (p2:L43) (p3:LB):S68→List AV×Objs
 | .l0 v2 v3=>(mk 21 [(1,.c (.str p3)),(8,.c (.list 66 ty66 p1)),(9,.c (.int .i64 v2)),(10,.c (.int .i64 v3))],[])
def I68:S68→Nat
 | .l0 _ _=>0
abbrev K11 {R:Type} (k:AV→Objs→Option R) (y:(L9)):Option R:=k (.c (.list 9 ty9 y)) []
theorem eq68 {R:Type} (B:Ops) (p0:L62) (p1:L66) (p2:L43) (p3:LB) (k:AV→Objs→Option R) (n:Nat):afun tau B gl0 X68 gnil ow Try.f68 [.agg [.list 62 ty62 p0,.list 66 ty66 p1,.list 43 ty43 p2],.c (.str p3)] [] k n=T68 B p0 p1 p2 p3 (fun s=>aloop tau B gl0 X68 gnil ow [] Try.f68 k (I68 s) (E68 p0 p1 p2 p3 s) n) (K11 k) none:=by kernel_rfl
theorem el68 {R:Type} (B:Ops) (p0:L62) (p1:L66) (p2:L43) (p3:LB) (k:AV→Objs→Option R) (n:Nat):∀ s,aloop tau B gl0 X68 gnil ow [] Try.f68 k (I68 s) (E68 p0 p1 p2 p3 s) (n+1)=T68 B p0 p1 p2 p3 (fun s=>aloop tau B gl0 X68 gnil ow [] Try.f68 k (I68 s) (E68 p0 p1 p2 p3 s) n) (K11 k) (some s):=by
 intro s
 cases s<;>kernel_rfl
theorem nt68 {R R':Type} (B:Ops) (p0:L62) (p1:L66) (p2:L43) (p3:LB) (again:S68→Option R) (again':S68→Option R') (k0:(L9)→Option R') (k:R'→Option R) (h:∀ s,again s=ob (again' s) k):∀ s,T68 B p0 p1 p2 p3 again (fun y=>ob (k0 y) k) s=ob (T68 B p0 p1 p2 p3 again' k0 s) k:=by
 rintro (_ | x)
 all_goals try cases x
 all_goals (unfold T68;repeat' first | exact rfl | exact h _ | apply qab | (apply qae;intro))
def R68 (p0:L62) (p1:L66) (p2:L43) (p3:LB):Nat→S68→Option (L9)
 | 0,_=>none
 | n+1,s=>T68 Ops.std p0 p1 p2 p3 (R68 p0 p1 p2 p3 n) some (some s)
theorem rr68 {R:Type} (p0:L62) (p1:L66) (p2:L43) (p3:LB) (k:AV→Objs→Option R):∀ (n:Nat) (s:S68),aloop tau Ops.std gl0 X68 gnil ow [] Try.f68 k (I68 s) (E68 p0 p1 p2 p3 s) n=ob (R68 p0 p1 p2 p3 n s) (K11 k)
 | 0,s=>by cases s<;>rfl
 | n+1,s=>by rw [el68];exact nt68 Ops.std p0 p1 p2 p3 _ _ some (K11 k) (rr68 p0 p1 p2 p3 k n) (some s)
def F68 (p0:L62) (p1:L66) (p2:L43) (p3:LB):Option (L9):=T68 Ops.std p0 p1 p2 p3 (R68 p0 p1 p2 p3 1000000) some none
abbrev C68:Type:=L62→L66→L43→LB→Option (L9)
def e68 {R:Type} (c:C68):Ent R:=eG [.aG [.cL 62 ty62,.cL 66 ty66,.cL 43 ty43],.aC .cS] [] fun v k=>ob (c v.1 v.2.1 v.2.2.1 v.2.2.2.1) (K11 k)
abbrev Sp68 (c:C68):Prop:=∀ (p0:L62) (p1:L66) (p2:L43) (p3:LB) (y:L9),c p0 p1 p2 p3=some y→Spec Try.prog gl0 68 [.agg [.list 62 ty62 p0,.list 66 ty66 p1,.list 43 ty43 p2],.c (.str p3)] [] (.c (.list 9 ty9 y)) []
theorem ek68 {R:Type} {c:C68} (hs:Sp68 c):EOk 68 (e68 (R:=R) c):=qag fun v=>hs v.1 v.2.1 v.2.2.1 v.2.2.2.1
theorem sf68:Sp68 (F68):=fun p0 p1 p2 p3 y hy=>by
 refine qad qac 1000000 (fn:=Try.f68) (by kernel_rfl) (by kernel_rfl) (X:=X68) (by kernel_rfl) ?_
 rw [eq68]
 exact (nt68 Ops.std p0 p1 p2 p3 _ _ some (K11 k0) (rr68 p0 p1 p2 p3 k0 1000000) none).trans (by show ob (F68 p0 p1 p2 p3) _=_;rw [hy];rfl)
noncomputable def M68:C68:=F68
theorem sm68:Sp68 M68:=sf68
def X70:Aux:=⟨[],[]⟩
def T70 {R:Type} (B:Ops) (p0:LB) (p1 p2 p3:Int) (p4:LB) (p5:L95) (k:(Bool×LB×L95)→Option R):Option R:=k (p0 == p4,p4,p5)
abbrev K12 {R:Type} (k:AV→Objs→Option R) (y:(Bool×LB×L95)):Option R:=k (.c (.bool y.1)) [(1,.box 73 [.str y.2.1,.list 95 ty95 y.2.2])]
theorem eq70 {R:Type} (B:Ops) (p0:LB) (p1 p2 p3:Int) (p4:LB) (p5:L95) (k:AV→Objs→Option R) (n:Nat):afun tau B gl0 X70 gnil ow Try.f70 [.agg [.str p0,.int .i64 p1,.int .i64 p2,.int .i64 p3],.c (.ptr 1 0)] [(1,.box 73 [.str p4,.list 95 ty95 p5])] k n=T70 B p0 p1 p2 p3 p4 p5 (K12 k):=by kernel_rfl
theorem nt70 {R R':Type} (B:Ops) (p0:LB) (p1 p2 p3:Int) (p4:LB) (p5:L95) (k0:(Bool×LB×L95)→Option R') (k:R'→Option R):T70 B p0 p1 p2 p3 p4 p5 (fun y=>ob (k0 y) k)=ob (T70 B p0 p1 p2 p3 p4 p5 k0) k:=by
 unfold T70
 repeat' first | exact rfl | apply qab | (apply qae;intro)
def F70 (p0:LB) (p1 p2 p3:Int) (p4:LB) (p5:L95):Option (Bool×LB×L95):=T70 Ops.std p0 p1 p2 p3 p4 p5 some
abbrev C70:Type:=LB→Int→Int→Int→LB→L95→Option (Bool×LB×L95)
def e70 {R:Type} (c:C70):Ent R:=eG [.aG [.cS,.cI .i64,.cI .i64,.cI .i64],.aC (.cP 1)] [.oB 1 73 [.cS,.cL 95 ty95]] fun v k=>ob (c v.1 v.2.1 v.2.2.1 v.2.2.2.1 v.2.2.2.2.1 v.2.2.2.2.2.1) (K12 k)
abbrev Sp70 (c:C70):Prop:=∀ (p0:LB) (p1 p2 p3:Int) (p4:LB) (p5:L95) (y:Bool×LB×L95),c p0 p1 p2 p3 p4 p5=some y→Spec Try.prog gl0 70 [.agg [.str p0,.int .i64 p1,.int .i64 p2,.int .i64 p3],.c (.ptr 1 0)] [(1,.box 73 [.str p4,.list 95 ty95 p5])] (.c (.bool y.1)) [(1,.box 73 [.str y.2.1,.list 95 ty95 y.2.2])]
theorem ek70 {R:Type} {c:C70} (hs:Sp70 c):EOk 70 (e70 (R:=R) c):=qag fun v=>hs v.1 v.2.1 v.2.2.1 v.2.2.2.1 v.2.2.2.2.1 v.2.2.2.2.2.1
theorem sf70:Sp70 (F70):=fun p0 p1 p2 p3 p4 p5 y hy=>by
 refine qad qac 1000000 (fn:=Try.f70) (by kernel_rfl) (by kernel_rfl) (X:=X70) (by kernel_rfl) ?_
 rw [eq70]
 exact (nt70 Ops.std p0 p1 p2 p3 p4 p5 some (K12 k0)).trans (by show ob (F70 p0 p1 p2 p3 p4 p5) _=_;rw [hy];rfl)
noncomputable def M70:C70:=F70
theorem sm70:Sp70 M70:=sf70
def X111:Aux:=⟨[(2,([2,3,4,5,6]++rg 9 10))],[]⟩
inductive S111 where
 | l0 (v1 v2:Int) (v3:LB) (v4:L95)
def T111 {R:Type} (B:Ops) (c70:C70) (p0:L62) (p1:LB) (p2:L95) (again:S111→Option R) (k:(Int×LB×L95)→Option R):Option S111→Option R | none=>again (.l0 (↑p0.length) 0 p1 p2) | some (.l0 v1 v2 v3 v4)=>cond (B.lt v2 v1) (cond (B.inb v2 p0.length) (ob (c70 ((p0.getD v2.toNat ty62.dflt).1) (((p0.getD v2.toNat ty62.dflt).2).1) ((((p0.getD v2.toNat ty62.dflt).2).2).1) ((((p0.getD v2.toNat ty62.dflt).2).2).2) v3 v4) fun y0=>cond y0.1 (k (v2,y0.2.1,y0.2.2)) (again (.l0 v1 (IntKind.wrap .i64 (v2+1)) y0.2.1 y0.2.2))) none) (k (-1,v3,v4))
def E111 (p0:L62) (p1:LB) (p2:L95):S111→List AV×Objs
 | .l0 v1 v2 v3 v4=>(mk 19 [(0,.c (.list 62 ty62 p0)),(1,.fn 70 [.ptr 2500 0]),(7,.c (.int .i64 v1)),(8,.c (.int .i64 v2))],[(2500,.box 73 [.str v3,.list 95 ty95 v4])])
def I111:S111→Nat
 | .l0 _ _ _ _=>0
abbrev K13 {R:Type} (k:AV→Objs→Option R) (y:(Int×LB×L95)):Option R:=k (.c (.int .i64 y.1)) [(2500,.box 73 [.str y.2.1,.list 95 ty95 y.2.2])]
theorem eq111 {R:Type} (B:Ops) (c70:C70) (p0:L62) (p1:LB) (p2:L95) (k:AV→Objs→Option R) (n:Nat):afun tau B gl0 X111 (ent 70 (e70 c70) gnil) ow Try.f28 [.c (.list 62 ty62 p0),.fn 70 [.ptr 2500 0]] [(2500,.box 73 [.str p1,.list 95 ty95 p2])] k n=T111 B c70 p0 p1 p2 (fun s=>aloop tau B gl0 X111 (ent 70 (e70 c70) gnil) ow [2500] Try.f28 k (I111 s) (E111 p0 p1 p2 s) n) (K13 k) none:=by kernel_rfl
theorem el111 {R:Type} (B:Ops) (c70:C70) (p0:L62) (p1:LB) (p2:L95) (k:AV→Objs→Option R) (n:Nat):∀ s,aloop tau B gl0 X111 (ent 70 (e70 c70) gnil) ow [2500] Try.f28 k (I111 s) (E111 p0 p1 p2 s) (n+1)=T111 B c70 p0 p1 p2 (fun s=>aloop tau B gl0 X111 (ent 70 (e70 c70) gnil) ow [2500] Try.f28 k (I111 s) (E111 p0 p1 p2 s) n) (K13 k) (some s):=by
 intro s
 cases s<;>kernel_rfl
theorem nt111 {R R':Type} (B:Ops) (c70:C70) (p0:L62) (p1:LB) (p2:L95) (again:S111→Option R) (again':S111→Option R') (k0:(Int×LB×L95)→Option R') (k:R'→Option R) (h:∀ s,again s=ob (again' s) k):∀ s,T111 B c70 p0 p1 p2 again (fun y=>ob (k0 y) k) s=ob (T111 B c70 p0 p1 p2 again' k0 s) k:=by
 rintro (_ | x)
 all_goals try cases x
 all_goals (unfold T111;repeat' first | exact rfl | exact h _ | apply qab | (apply qae;intro))
def R111 (c70:C70) (p0:L62) (p1:LB) (p2:L95):Nat→S111→Option (Int×LB×L95)
 | 0,_=>none
 | n+1,s=>T111 Ops.std c70 p0 p1 p2 (R111 c70 p0 p1 p2 n) some (some s)
theorem rr111 {R:Type} (c70:C70) (p0:L62) (p1:LB) (p2:L95) (k:AV→Objs→Option R):∀ (n:Nat) (s:S111),aloop tau Ops.std gl0 X111 (ent 70 (e70 c70) gnil) ow [2500] Try.f28 k (I111 s) (E111 p0 p1 p2 s) n=ob (R111 c70 p0 p1 p2 n s) (K13 k)
 | 0,s=>by cases s<;>rfl
 | n+1,s=>by rw [el111];exact nt111 Ops.std c70 p0 p1 p2 _ _ some (K13 k) (rr111 c70 p0 p1 p2 k n) (some s)
def F111 (c70:C70) (p0:L62) (p1:LB) (p2:L95):Option (Int×LB×L95):=T111 Ops.std c70 p0 p1 p2 (R111 c70 p0 p1 p2 1000000) some none
abbrev C111:Type:=L62→LB→L95→Option (Int×LB×L95)
def e111 {R:Type} (c:C111):Ent R:=eG [.aC (.cL 62 ty62),.aF 70 [.cP 2500]] [.oB 2500 73 [.cS,.cL 95 ty95]] fun v k=>ob (c v.1 v.2.1 v.2.2.1) (K13 k)
abbrev Sp111 (c:C111):Prop:=∀ (p0:L62) (p1:LB) (p2:L95) (y:Int×LB×L95),c p0 p1 p2=some y→Spec Try.prog gl0 28 [.c (.list 62 ty62 p0),.fn 70 [.ptr 2500 0]] [(2500,.box 73 [.str p1,.list 95 ty95 p2])] (.c (.int .i64 y.1)) [(2500,.box 73 [.str y.2.1,.list 95 ty95 y.2.2])]
theorem ek111 {R:Type} {c:C111} (hs:Sp111 c):EOk 28 (e111 (R:=R) c):=qag fun v=>hs v.1 v.2.1 v.2.2.1
theorem sf111 {c70:C70} (h70:Sp70 c70):Sp111 (F111 c70):=fun p0 p1 p2 y hy=>by
 refine qad (qaa (ek70 h70) qac) 1000000 (fn:=Try.f28) (by kernel_rfl) (by kernel_rfl) (X:=X111) (by kernel_rfl) ?_
 rw [eq111]
 exact (nt111 Ops.std c70 p0 p1 p2 _ _ some (K13 k0) (rr111 c70 p0 p1 p2 k0 1000000) none).trans (by show ob (F111 c70 p0 p1 p2) _=_;rw [hy];rfl)
noncomputable def M111:C111:=F111 M70
theorem sm111:Sp111 M111:=sf111 sm70
def X69:Aux:=⟨[],[]⟩
def T69 {R:Type} (B:Ops) (c111:C111) (c70:C70) (p0:L62) (p1:LB) (p2:L95) (k:(Bool×LB×L95)→Option R):Option R:=ob (c111 p0 p1 p2) fun y0=>k (B.le 0 y0.1,y0.2.1,y0.2.2)
abbrev K14 {R:Type} (k:AV→Objs→Option R) (y:(Bool×LB×L95)):Option R:=k (.c (.bool y.1)) [(2500,.box 73 [.str y.2.1,.list 95 ty95 y.2.2])]
theorem eq69 {R:Type} (B:Ops) (c111:C111) (c70:C70) (p0:L62) (p1:LB) (p2:L95) (k:AV→Objs→Option R) (n:Nat):afun tau B gl0 X69 (ent 28 (e111 c111) (ent 70 (e70 c70) gnil)) ow Try.f69 [.c (.list 62 ty62 p0),.fn 70 [.ptr 2500 0]] [(2500,.box 73 [.str p1,.list 95 ty95 p2])] k n=T69 B c111 c70 p0 p1 p2 (K14 k):=by kernel_rfl
theorem nt69 {R R':Type} (B:Ops) (c111:C111) (c70:C70) (p0:L62) (p1:LB) (p2:L95) (k0:(Bool×LB×L95)→Option R') (k:R'→Option R):T69 B c111 c70 p0 p1 p2 (fun y=>ob (k0 y) k)=ob (T69 B c111 c70 p0 p1 p2 k0) k:=by
 unfold T69
 repeat' first | exact rfl | apply qab | (apply qae;intro)
def F69 (c111:C111) (c70:C70) (p0:L62) (p1:LB) (p2:L95):Option (Bool×LB×L95):=T69 Ops.std c111 c70 p0 p1 p2 some
abbrev C69:Type:=L62→LB→L95→Option (Bool×LB×L95)
def e69 {R:Type} (c:C69):Ent R:=eG [.aC (.cL 62 ty62),.aF 70 [.cP 2500]] [.oB 2500 73 [.cS,.cL 95 ty95]] fun v k=>ob (c v.1 v.2.1 v.2.2.1) (K14 k)
abbrev Sp69 (c:C69):Prop:=∀ (p0:L62) (p1:LB) (p2:L95) (y:Bool×LB×L95),c p0 p1 p2=some y→Spec Try.prog gl0 69 [.c (.list 62 ty62 p0),.fn 70 [.ptr 2500 0]] [(2500,.box 73 [.str p1,.list 95 ty95 p2])] (.c (.bool y.1)) [(2500,.box 73 [.str y.2.1,.list 95 ty95 y.2.2])]
theorem ek69 {R:Type} {c:C69} (hs:Sp69 c):EOk 69 (e69 (R:=R) c):=qag fun v=>hs v.1 v.2.1 v.2.2.1
theorem sf69 {c111:C111} {c70:C70} (h111:Sp111 c111) (h70:Sp70 c70):Sp69 (F69 c111 c70):=fun p0 p1 p2 y hy=>by
 refine qad (qaa (ek111 h111) (qaa (ek70 h70) qac)) 1000000 (fn:=Try.f69) (by kernel_rfl) (by kernel_rfl) (X:=X69) (by kernel_rfl) ?_
 rw [eq69]
 exact (nt69 Ops.std c111 c70 p0 p1 p2 some (K14 k0)).trans (by show ob (F69 c111 c70 p0 p1 p2) _=_;rw [hy];rfl)
noncomputable def M69:C69:=F69 M111 M70
theorem sm69:Sp69 M69:=sf69 sm111 sm70
def X76:Aux:=⟨[],[]⟩
def T76 {R:Type} (B:Ops) (p0:LB) (p1 p2 p3:Int) (p4:LB) (k:(Bool×LB)→Option R):Option R:=k (p0 == p4,p4)
abbrev K15 {R:Type} (k:AV→Objs→Option R) (y:(Bool×LB)):Option R:=k (.c (.bool y.1)) [(1,.box 9 [.str y.2])]
theorem eq76 {R:Type} (B:Ops) (p0:LB) (p1 p2 p3:Int) (p4:LB) (k:AV→Objs→Option R) (n:Nat):afun tau B gl0 X76 gnil ow Try.f76 [.agg [.str p0,.int .i64 p1,.int .i64 p2,.int .i64 p3],.c (.ptr 1 0)] [(1,.box 9 [.str p4])] k n=T76 B p0 p1 p2 p3 p4 (K15 k):=by kernel_rfl
theorem nt76 {R R':Type} (B:Ops) (p0:LB) (p1 p2 p3:Int) (p4:LB) (k0:(Bool×LB)→Option R') (k:R'→Option R):T76 B p0 p1 p2 p3 p4 (fun y=>ob (k0 y) k)=ob (T76 B p0 p1 p2 p3 p4 k0) k:=by
 unfold T76
 repeat' first | exact rfl | apply qab | (apply qae;intro)
def F76 (p0:LB) (p1 p2 p3:Int) (p4:LB):Option (Bool×LB):=T76 Ops.std p0 p1 p2 p3 p4 some
abbrev C76:Type:=LB→Int→Int→Int→LB→Option (Bool×LB)
def e76 {R:Type} (c:C76):Ent R:=eG [.aG [.cS,.cI .i64,.cI .i64,.cI .i64],.aC (.cP 1)] [.oB 1 9 [.cS]] fun v k=>ob (c v.1 v.2.1 v.2.2.1 v.2.2.2.1 v.2.2.2.2.1) (K15 k)
abbrev Sp76 (c:C76):Prop:=∀ (p0:LB) (p1 p2 p3:Int) (p4:LB) (y:Bool×LB),c p0 p1 p2 p3 p4=some y→Spec Try.prog gl0 76 [.agg [.str p0,.int .i64 p1,.int .i64 p2,.int .i64 p3],.c (.ptr 1 0)] [(1,.box 9 [.str p4])] (.c (.bool y.1)) [(1,.box 9 [.str y.2])]
theorem ek76 {R:Type} {c:C76} (hs:Sp76 c):EOk 76 (e76 (R:=R) c):=qag fun v=>hs v.1 v.2.1 v.2.2.1 v.2.2.2.1 v.2.2.2.2.1
theorem sf76:Sp76 (F76):=fun p0 p1 p2 p3 p4 y hy=>by
 refine qad qac 1000000 (fn:=Try.f76) (by kernel_rfl) (by kernel_rfl) (X:=X76) (by kernel_rfl) ?_
 rw [eq76]
 exact (nt76 Ops.std p0 p1 p2 p3 p4 some (K15 k0)).trans (by show ob (F76 p0 p1 p2 p3 p4) _=_;rw [hy];rfl)
noncomputable def M76:C76:=F76
theorem sm76:Sp76 M76:=sf76
def X28:Aux:=⟨[(2,([2,3,4,5,6]++rg 9 10))],[]⟩
inductive S28 where
 | l0 (v1 v2:Int) (v3:LB)
def T28 {R:Type} (B:Ops) (c76:C76) (p0:L62) (p1:LB) (again:S28→Option R) (k:(Int×LB)→Option R):Option S28→Option R | none=>again (.l0 (↑p0.length) 0 p1) | some (.l0 v1 v2 v3)=>cond (B.lt v2 v1) (cond (B.inb v2 p0.length) (ob (c76 ((p0.getD v2.toNat ty62.dflt).1) (((p0.getD v2.toNat ty62.dflt).2).1) ((((p0.getD v2.toNat ty62.dflt).2).2).1) ((((p0.getD v2.toNat ty62.dflt).2).2).2) v3) fun y0=>cond y0.1 (k (v2,y0.2)) (again (.l0 v1 (IntKind.wrap .i64 (v2+1)) y0.2))) none) (k (-1,v3))
def E28 (p0:L62) (p1:LB):S28→List AV×Objs
 | .l0 v1 v2 v3=>(mk 19 [(0,.c (.list 62 ty62 p0)),(1,.fn 76 [.ptr 2500 0]),(7,.c (.int .i64 v1)),(8,.c (.int .i64 v2))],[(2500,.box 9 [.str v3])])
def I28:S28→Nat
 | .l0 _ _ _=>0
abbrev K16 {R:Type} (k:AV→Objs→Option R) (y:(Int×LB)):Option R:=k (.c (.int .i64 y.1)) [(2500,.box 9 [.str y.2])]
theorem eq28 {R:Type} (B:Ops) (c76:C76) (p0:L62) (p1:LB) (k:AV→Objs→Option R) (n:Nat):afun tau B gl0 X28 (ent 76 (e76 c76) gnil) ow Try.f28 [.c (.list 62 ty62 p0),.fn 76 [.ptr 2500 0]] [(2500,.box 9 [.str p1])] k n=T28 B c76 p0 p1 (fun s=>aloop tau B gl0 X28 (ent 76 (e76 c76) gnil) ow [2500] Try.f28 k (I28 s) (E28 p0 p1 s) n) (K16 k) none:=by kernel_rfl
theorem el28 {R:Type} (B:Ops) (c76:C76) (p0:L62) (p1:LB) (k:AV→Objs→Option R) (n:Nat):∀ s,aloop tau B gl0 X28 (ent 76 (e76 c76) gnil) ow [2500] Try.f28 k (I28 s) (E28 p0 p1 s) (n+1)=T28 B c76 p0 p1 (fun s=>aloop tau B gl0 X28 (ent 76 (e76 c76) gnil) ow [2500] Try.f28 k (I28 s) (E28 p0 p1 s) n) (K16 k) (some s):=by
 intro s
 cases s<;>kernel_rfl
theorem nt28 {R R':Type} (B:Ops) (c76:C76) (p0:L62) (p1:LB) (again:S28→Option R) (again':S28→Option R') (k0:(Int×LB)→Option R') (k:R'→Option R) (h:∀ s,again s=ob (again' s) k):∀ s,T28 B c76 p0 p1 again (fun y=>ob (k0 y) k) s=ob (T28 B c76 p0 p1 again' k0 s) k:=by
 rintro (_ | x)
 all_goals try cases x
 all_goals (unfold T28;repeat' first | exact rfl | exact h _ | apply qab | (apply qae;intro))
def R28 (c76:C76) (p0:L62) (p1:LB):Nat→S28→Option (Int×LB)
 | 0,_=>none
 | n+1,s=>T28 Ops.std c76 p0 p1 (R28 c76 p0 p1 n) some (some s)
theorem rr28 {R:Type} (c76:C76) (p0:L62) (p1:LB) (k:AV→Objs→Option R):∀ (n:Nat) (s:S28),aloop tau Ops.std gl0 X28 (ent 76 (e76 c76) gnil) ow [2500] Try.f28 k (I28 s) (E28 p0 p1 s) n=ob (R28 c76 p0 p1 n s) (K16 k)
 | 0,s=>by cases s<;>rfl
 | n+1,s=>by rw [el28];exact nt28 Ops.std c76 p0 p1 _ _ some (K16 k) (rr28 c76 p0 p1 k n) (some s)
def F28 (c76:C76) (p0:L62) (p1:LB):Option (Int×LB):=T28 Ops.std c76 p0 p1 (R28 c76 p0 p1 1000000) some none
abbrev C28:Type:=L62→LB→Option (Int×LB)
def e28 {R:Type} (c:C28):Ent R:=eG [.aC (.cL 62 ty62),.aF 76 [.cP 2500]] [.oB 2500 9 [.cS]] fun v k=>ob (c v.1 v.2.1) (K16 k)
abbrev Sp28 (c:C28):Prop:=∀ (p0:L62) (p1:LB) (y:Int×LB),c p0 p1=some y→Spec Try.prog gl0 28 [.c (.list 62 ty62 p0),.fn 76 [.ptr 2500 0]] [(2500,.box 9 [.str p1])] (.c (.int .i64 y.1)) [(2500,.box 9 [.str y.2])]
theorem ek28 {R:Type} {c:C28} (hs:Sp28 c):EOk 28 (e28 (R:=R) c):=qag fun v=>hs v.1 v.2.1
theorem sf28 {c76:C76} (h76:Sp76 c76):Sp28 (F28 c76):=fun p0 p1 y hy=>by
 refine qad (qaa (ek76 h76) qac) 1000000 (fn:=Try.f28) (by kernel_rfl) (by kernel_rfl) (X:=X28) (by kernel_rfl) ?_
 rw [eq28]
 exact (nt28 Ops.std c76 p0 p1 _ _ some (K16 k0) (rr28 c76 p0 p1 k0 1000000) none).trans (by show ob (F28 c76 p0 p1) _=_;rw [hy];rfl)
noncomputable def M28:C28:=F28 M76
theorem sm28:Sp28 M28:=sf28 sm76
def X48:Aux:=⟨[],[]⟩
def T48 {R:Type} (B:Ops) (c76:C76) (c28:C28) (p0:L62) (p1:L66) (p2:L43) (p3:LB) (k:(Int)→Option R):Option R:=ob (c28 p0 p3) fun y0=>k y0.1
theorem eq48 {R:Type} (B:Ops) (c76:C76) (c28:C28) (p0:L62) (p1:L66) (p2:L43) (p3:LB) (k:AV→Objs→Option R) (n:Nat):afun tau B gl0 X48 (ent 76 (e76 c76) (ent 28 (e28 c28) gnil)) ow Try.f48 [.agg [.list 62 ty62 p0,.list 66 ty66 p1,.list 43 ty43 p2],.c (.str p3)] [] k n=T48 B c76 c28 p0 p1 p2 p3 (K9 k):=by kernel_rfl
theorem nt48 {R R':Type} (B:Ops) (c76:C76) (c28:C28) (p0:L62) (p1:L66) (p2:L43) (p3:LB) (k0:(Int)→Option R') (k:R'→Option R):T48 B c76 c28 p0 p1 p2 p3 (fun y=>ob (k0 y) k)=ob (T48 B c76 c28 p0 p1 p2 p3 k0) k:=by
 unfold T48
 repeat' first | exact rfl | apply qab | (apply qae;intro)
def F48 (c76:C76) (c28:C28) (p0:L62) (p1:L66) (p2:L43) (p3:LB):Option (Int):=T48 Ops.std c76 c28 p0 p1 p2 p3 some
abbrev C48:Type:=L62→L66→L43→LB→Option (Int)
def e48 {R:Type} (c:C48):Ent R:=eG [.aG [.cL 62 ty62,.cL 66 ty66,.cL 43 ty43],.aC .cS] [] fun v k=>ob (c v.1 v.2.1 v.2.2.1 v.2.2.2.1) (K9 k)
abbrev Sp48 (c:C48):Prop:=∀ (p0:L62) (p1:L66) (p2:L43) (p3:LB) (y:Int),c p0 p1 p2 p3=some y→Spec Try.prog gl0 48 [.agg [.list 62 ty62 p0,.list 66 ty66 p1,.list 43 ty43 p2],.c (.str p3)] [] (.c (.int .i64 y)) []
theorem ek48 {R:Type} {c:C48} (hs:Sp48 c):EOk 48 (e48 (R:=R) c):=qag fun v=>hs v.1 v.2.1 v.2.2.1 v.2.2.2.1
theorem sf48 {c76:C76} {c28:C28} (h76:Sp76 c76) (h28:Sp28 c28):Sp48 (F48 c76 c28):=fun p0 p1 p2 p3 y hy=>by
 refine qad (qaa (ek76 h76) (qaa (ek28 h28) qac)) 1000000 (fn:=Try.f48) (by kernel_rfl) (by kernel_rfl) (X:=X48) (by kernel_rfl) ?_
 rw [eq48]
 exact (nt48 Ops.std c76 c28 p0 p1 p2 p3 some (K9 k0)).trans (by show ob (F48 c76 c28 p0 p1 p2 p3) _=_;rw [hy];rfl)
noncomputable def M48:C48:=F48 M76 M28
theorem sm48:Sp48 M48:=sf48 sm76 sm28
def X77:Aux:=⟨[],[]⟩
def T77 {R:Type} (B:Ops) (p0:LB) (p1:L9) (p2:LB) (k:(Bool×LB)→Option R):Option R:=k (p0 == p2,p2)
theorem eq77 {R:Type} (B:Ops) (p0:LB) (p1:L9) (p2:LB) (k:AV→Objs→Option R) (n:Nat):afun tau B gl0 X77 gnil ow Try.f77 [.agg [.str p0,.list 9 ty9 p1],.c (.ptr 1 0)] [(1,.box 9 [.str p2])] k n=T77 B p0 p1 p2 (K15 k):=by kernel_rfl
theorem nt77 {R R':Type} (B:Ops) (p0:LB) (p1:L9) (p2:LB) (k0:(Bool×LB)→Option R') (k:R'→Option R):T77 B p0 p1 p2 (fun y=>ob (k0 y) k)=ob (T77 B p0 p1 p2 k0) k:=by
 unfold T77
 repeat' first | exact rfl | apply qab | (apply qae;intro)
def F77 (p0:LB) (p1:L9) (p2:LB):Option (Bool×LB):=T77 Ops.std p0 p1 p2 some
abbrev C77:Type:=LB→L9→LB→Option (Bool×LB)
def e77 {R:Type} (c:C77):Ent R:=eG [.aG [.cS,.cL 9 ty9],.aC (.cP 1)] [.oB 1 9 [.cS]] fun v k=>ob (c v.1 v.2.1 v.2.2.1) (K15 k)
abbrev Sp77 (c:C77):Prop:=∀ (p0:LB) (p1:L9) (p2:LB) (y:Bool×LB),c p0 p1 p2=some y→Spec Try.prog gl0 77 [.agg [.str p0,.list 9 ty9 p1],.c (.ptr 1 0)] [(1,.box 9 [.str p2])] (.c (.bool y.1)) [(1,.box 9 [.str y.2])]
theorem ek77 {R:Type} {c:C77} (hs:Sp77 c):EOk 77 (e77 (R:=R) c):=qag fun v=>hs v.1 v.2.1 v.2.2.1
theorem sf77:Sp77 (F77):=fun p0 p1 p2 y hy=>by
 refine qad qac 1000000 (fn:=Try.f77) (by kernel_rfl) (by kernel_rfl) (X:=X77) (by kernel_rfl) ?_
 rw [eq77]
 exact (nt77 Ops.std p0 p1 p2 some (K15 k0)).trans (by show ob (F77 p0 p1 p2) _=_;rw [hy];rfl)
noncomputable def M77:C77:=F77
theorem sm77:Sp77 M77:=sf77
def X52:Aux:=⟨[(2,([2,3,4,5,6]++rg 9 10))],[]⟩
inductive S52 where
 | l0 (v1 v2:Int) (v3:LB)
def T52 {R:Type} (B:Ops) (c77:C77) (p0:L66) (p1:LB) (again:S52→Option R) (k:(Int×LB)→Option R):Option S52→Option R | none=>again (.l0 (↑p0.length) 0 p1) | some (.l0 v1 v2 v3)=>cond (B.lt v2 v1) (cond (B.inb v2 p0.length) (ob (c77 ((p0.getD v2.toNat ty66.dflt).1) ((p0.getD v2.toNat ty66.dflt).2) v3) fun y0=>cond y0.1 (k (v2,y0.2)) (again (.l0 v1 (IntKind.wrap .i64 (v2+1)) y0.2))) none) (k (-1,v3))
def E52 (p0:L66) (p1:LB):S52→List AV×Objs
 | .l0 v1 v2 v3=>(mk 19 [(0,.c (.list 66 ty66 p0)),(1,.fn 77 [.ptr 2500 0]),(7,.c (.int .i64 v1)),(8,.c (.int .i64 v2))],[(2500,.box 9 [.str v3])])
def I52:S52→Nat
 | .l0 _ _ _=>0
theorem eq52 {R:Type} (B:Ops) (c77:C77) (p0:L66) (p1:LB) (k:AV→Objs→Option R) (n:Nat):afun tau B gl0 X52 (ent 77 (e77 c77) gnil) ow Try.f52 [.c (.list 66 ty66 p0),.fn 77 [.ptr 2500 0]] [(2500,.box 9 [.str p1])] k n=T52 B c77 p0 p1 (fun s=>aloop tau B gl0 X52 (ent 77 (e77 c77) gnil) ow [2500] Try.f52 k (I52 s) (E52 p0 p1 s) n) (K16 k) none:=by kernel_rfl
theorem el52 {R:Type} (B:Ops) (c77:C77) (p0:L66) (p1:LB) (k:AV→Objs→Option R) (n:Nat):∀ s,aloop tau B gl0 X52 (ent 77 (e77 c77) gnil) ow [2500] Try.f52 k (I52 s) (E52 p0 p1 s) (n+1)=T52 B c77 p0 p1 (fun s=>aloop tau B gl0 X52 (ent 77 (e77 c77) gnil) ow [2500] Try.f52 k (I52 s) (E52 p0 p1 s) n) (K16 k) (some s):=by
 intro s
 cases s<;>kernel_rfl
theorem nt52 {R R':Type} (B:Ops) (c77:C77) (p0:L66) (p1:LB) (again:S52→Option R) (again':S52→Option R') (k0:(Int×LB)→Option R') (k:R'→Option R) (h:∀ s,again s=ob (again' s) k):∀ s,T52 B c77 p0 p1 again (fun y=>ob (k0 y) k) s=ob (T52 B c77 p0 p1 again' k0 s) k:=by
 rintro (_ | x)
 all_goals try cases x
 all_goals (unfold T52;repeat' first | exact rfl | exact h _ | apply qab | (apply qae;intro))
def R52 (c77:C77) (p0:L66) (p1:LB):Nat→S52→Option (Int×LB)
 | 0,_=>none
 | n+1,s=>T52 Ops.std c77 p0 p1 (R52 c77 p0 p1 n) some (some s)
theorem rr52 {R:Type} (c77:C77) (p0:L66) (p1:LB) (k:AV→Objs→Option R):∀ (n:Nat) (s:S52),aloop tau Ops.std gl0 X52 (ent 77 (e77 c77) gnil) ow [2500] Try.f52 k (I52 s) (E52 p0 p1 s) n=ob (R52 c77 p0 p1 n s) (K16 k)
 | 0,s=>by cases s<;>rfl
 | n+1,s=>by rw [el52];exact nt52 Ops.std c77 p0 p1 _ _ some (K16 k) (rr52 c77 p0 p1 k n) (some s)
def F52 (c77:C77) (p0:L66) (p1:LB):Option (Int×LB):=T52 Ops.std c77 p0 p1 (R52 c77 p0 p1 1000000) some none
abbrev C52:Type:=L66→LB→Option (Int×LB)
def e52 {R:Type} (c:C52):Ent R:=eG [.aC (.cL 66 ty66),.aF 77 [.cP 2500]] [.oB 2500 9 [.cS]] fun v k=>ob (c v.1 v.2.1) (K16 k)
abbrev Sp52 (c:C52):Prop:=∀ (p0:L66) (p1:LB) (y:Int×LB),c p0 p1=some y→Spec Try.prog gl0 52 [.c (.list 66 ty66 p0),.fn 77 [.ptr 2500 0]] [(2500,.box 9 [.str p1])] (.c (.int .i64 y.1)) [(2500,.box 9 [.str y.2])]
theorem ek52 {R:Type} {c:C52} (hs:Sp52 c):EOk 52 (e52 (R:=R) c):=qag fun v=>hs v.1 v.2.1
theorem sf52 {c77:C77} (h77:Sp77 c77):Sp52 (F52 c77):=fun p0 p1 y hy=>by
 refine qad (qaa (ek77 h77) qac) 1000000 (fn:=Try.f52) (by kernel_rfl) (by kernel_rfl) (X:=X52) (by kernel_rfl) ?_
 rw [eq52]
 exact (nt52 Ops.std c77 p0 p1 _ _ some (K16 k0) (rr52 c77 p0 p1 k0 1000000) none).trans (by show ob (F52 c77 p0 p1) _=_;rw [hy];rfl)
noncomputable def M52:C52:=F52 M77
theorem sm52:Sp52 M52:=sf52 sm77
def X32:Aux:=⟨[(2,([2,3,4,5,6]++rg 9 10))],[]⟩
inductive S32 where
 | l0 (v2 v3:Int)
def T32 {R:Type} (B:Ops) (p0:L9) (p1:LB) (again:S32→Option R) (k:(Int)→Option R):Option S32→Option R | none=>again (.l0 (↑p0.length) 0) | some (.l0 v2 v3)=>cond (B.lt v3 v2) (cond (B.inb v3 p0.length) (cond (p1 == p0.getD v3.toNat ty9.dflt) (k v3) (again (.l0 v2 (IntKind.wrap .i64 (v3+1))))) none) (k (-1))
def E32 (p0:L9) (p1:LB):S32→List AV×Objs
 | .l0 v2 v3=>(mk 19 [(0,.c (.list 9 ty9 p0)),(1,.c (.str p1)),(7,.c (.int .i64 v2)),(8,.c (.int .i64 v3))],[])
def I32:S32→Nat
 | .l0 _ _=>0
theorem eq32 {R:Type} (B:Ops) (p0:L9) (p1:LB) (k:AV→Objs→Option R) (n:Nat):afun tau B gl0 X32 gnil ow Try.f32 [.c (.list 9 ty9 p0),.c (.str p1)] [] k n=T32 B p0 p1 (fun s=>aloop tau B gl0 X32 gnil ow [] Try.f32 k (I32 s) (E32 p0 p1 s) n) (K9 k) none:=by kernel_rfl
theorem el32 {R:Type} (B:Ops) (p0:L9) (p1:LB) (k:AV→Objs→Option R) (n:Nat):∀ s,aloop tau B gl0 X32 gnil ow [] Try.f32 k (I32 s) (E32 p0 p1 s) (n+1)=T32 B p0 p1 (fun s=>aloop tau B gl0 X32 gnil ow [] Try.f32 k (I32 s) (E32 p0 p1 s) n) (K9 k) (some s):=by
 intro s
 cases s<;>kernel_rfl
theorem nt32 {R R':Type} (B:Ops) (p0:L9) (p1:LB) (again:S32→Option R) (again':S32→Option R') (k0:(Int)→Option R') (k:R'→Option R) (h:∀ s,again s=ob (again' s) k):∀ s,T32 B p0 p1 again (fun y=>ob (k0 y) k) s=ob (T32 B p0 p1 again' k0 s) k:=by
 rintro (_ | x)
 all_goals try cases x
 all_goals (unfold T32;repeat' first | exact rfl | exact h _ | apply qab | (apply qae;intro))
def R32 (p0:L9) (p1:LB):Nat→S32→Option (Int)
 | 0,_=>none
 | n+1,s=>T32 Ops.std p0 p1 (R32 p0 p1 n) some (some s)
theorem rr32 {R:Type} (p0:L9) (p1:LB) (k:AV→Objs→Option R):∀ (n:Nat) (s:S32),aloop tau Ops.std gl0 X32 gnil ow [] Try.f32 k (I32 s) (E32 p0 p1 s) n=ob (R32 p0 p1 n s) (K9 k)
 | 0,s=>by cases s<;>rfl
 | n+1,s=>by rw [el32];exact nt32 Ops.std p0 p1 _ _ some (K9 k) (rr32 p0 p1 k n) (some s)
def F32 (p0:L9) (p1:LB):Option (Int):=T32 Ops.std p0 p1 (R32 p0 p1 1000000) some none
abbrev C32:Type:=L9→LB→Option (Int)
def e32 {R:Type} (c:C32):Ent R:=eG [.aC (.cL 9 ty9),.aC .cS] [] fun v k=>ob (c v.1 v.2.1) (K9 k)
abbrev Sp32 (c:C32):Prop:=∀ (p0:L9) (p1:LB) (y:Int),c p0 p1=some y→Spec Try.prog gl0 32 [.c (.list 9 ty9 p0),.c (.str p1)] [] (.c (.int .i64 y)) []
theorem ek32 {R:Type} {c:C32} (hs:Sp32 c):EOk 32 (e32 (R:=R) c):=qag fun v=>hs v.1 v.2.1
theorem sf32:Sp32 (F32):=fun p0 p1 y hy=>by
 refine qad qac 1000000 (fn:=Try.f32) (by kernel_rfl) (by kernel_rfl) (X:=X32) (by kernel_rfl) ?_
 rw [eq32]
 exact (nt32 Ops.std p0 p1 _ _ some (K9 k0) (rr32 p0 p1 k0 1000000) none).trans (by show ob (F32 p0 p1) _=_;rw [hy];rfl)
noncomputable def M32:C32:=F32
theorem sm32:Sp32 M32:=sf32
def X49:Aux:=⟨[],[]⟩
def T49 {R:Type} (B:Ops) (c77:C77) (c52:C52) (c32:C32) (p0:L62) (p1:L66) (p2:L43) (p3 p4:LB) (k:(Int×Int)→Option R):Option R:=ob (c52 p1 p3) fun y0=>cond (B.lt y0.1 0) (k (-1,-1)) (cond (B.inb y0.1 p1.length) (ob (c32 ((p1.getD (Int.toNat y0.1) ty66.dflt).2) p4) fun y1=>k (y0.1,y1)) none)
abbrev K17 {R:Type} (k:AV→Objs→Option R) (y:(Int×Int)):Option R:=k (.tup [(false,[.int .i64 y.1]),(false,[.int .i64 y.2])]) []
theorem eq49 {R:Type} (B:Ops) (c77:C77) (c52:C52) (c32:C32) (p0:L62) (p1:L66) (p2:L43) (p3 p4:LB) (k:AV→Objs→Option R) (n:Nat):afun tau B gl0 X49 (ent 77 (e77 c77) (ent 52 (e52 c52) (ent 32 (e32 c32) gnil))) ow Try.f49 [.agg [.list 62 ty62 p0,.list 66 ty66 p1,.list 43 ty43 p2],.c (.str p3),.c (.str p4)] [] k n=T49 B c77 c52 c32 p0 p1 p2 p3 p4 (K17 k):=by kernel_rfl
theorem nt49 {R R':Type} (B:Ops) (c77:C77) (c52:C52) (c32:C32) (p0:L62) (p1:L66) (p2:L43) (p3 p4:LB) (k0:(Int×Int)→Option R') (k:R'→Option R):T49 B c77 c52 c32 p0 p1 p2 p3 p4 (fun y=>ob (k0 y) k)=ob (T49 B c77 c52 c32 p0 p1 p2 p3 p4 k0) k:=by
 unfold T49
 repeat' first | exact rfl | apply qab | (apply qae;intro)
def F49 (c77:C77) (c52:C52) (c32:C32) (p0:L62) (p1:L66) (p2:L43) (p3 p4:LB):Option (Int×Int):=T49 Ops.std c77 c52 c32 p0 p1 p2 p3 p4 some
abbrev C49:Type:=L62→L66→L43→LB→LB→Option (Int×Int)
def e49 {R:Type} (c:C49):Ent R:=eG [.aG [.cL 62 ty62,.cL 66 ty66,.cL 43 ty43],.aC .cS,.aC .cS] [] fun v k=>ob (c v.1 v.2.1 v.2.2.1 v.2.2.2.1 v.2.2.2.2.1) (K17 k)
abbrev Sp49 (c:C49):Prop:=∀ (p0:L62) (p1:L66) (p2:L43) (p3 p4:LB) (y:Int×Int),c p0 p1 p2 p3 p4=some y→Spec Try.prog gl0 49 [.agg [.list 62 ty62 p0,.list 66 ty66 p1,.list 43 ty43 p2],.c (.str p3),.c (.str p4)] [] (.tup [(false,[.int .i64 y.1]),(false,[.int .i64 y.2])]) []
theorem ek49 {R:Type} {c:C49} (hs:Sp49 c):EOk 49 (e49 (R:=R) c):=qag fun v=>hs v.1 v.2.1 v.2.2.1 v.2.2.2.1 v.2.2.2.2.1
theorem sf49 {c77:C77} {c52:C52} {c32:C32} (h77:Sp77 c77) (h52:Sp52 c52) (h32:Sp32 c32):Sp49 (F49 c77 c52 c32):=fun p0 p1 p2 p3 p4 y hy=>by
 refine qad (qaa (ek77 h77) (qaa (ek52 h52) (qaa (ek32 h32) qac))) 1000000 (fn:=Try.f49) (by kernel_rfl) (by kernel_rfl) (X:=X49) (by kernel_rfl) ?_
 rw [eq49]
 exact (nt49 Ops.std c77 c52 c32 p0 p1 p2 p3 p4 some (K17 k0)).trans (by show ob (F49 c77 c52 c32 p0 p1 p2 p3 p4) _=_;rw [hy];rfl)
noncomputable def M49:C49:=F49 M77 M52 M32
theorem sm49:Sp49 M49:=sf49 sm77 sm52 sm32
def X46:Aux:=⟨[],[]⟩
def T46 {R:Type} (B:Ops) (p0:Int) (k:(Int)→Option R):Option R:=cond (B.lt p0 1) (k (-1)) (cond (B.lt 16 p0) (k (-1)) (cond (B.le p0 3) (k 0) (cond (B.le p0 5) (k 1) (k 2))))
theorem eq46 {R:Type} (B:Ops) (p0:Int) (k:AV→Objs→Option R) (n:Nat):afun tau B gl0 X46 gnil ow Try.f46 [.c (.int .i64 p0)] [] k n=T46 B p0 (K9 k):=by kernel_rfl
theorem nt46 {R R':Type} (B:Ops) (p0:Int) (k0:(Int)→Option R') (k:R'→Option R):T46 B p0 (fun y=>ob (k0 y) k)=ob (T46 B p0 k0) k:=by
 unfold T46
 repeat' first | exact rfl | apply qab | (apply qae;intro)
def F46 (p0:Int):Option (Int):=T46 Ops.std p0 some
abbrev C46:Type:=Int→Option (Int)
def e46 {R:Type} (c:C46):Ent R:=eG [.aC (.cI .i64)] [] fun v k=>ob (c v.1) (K9 k)
abbrev Sp46 (c:C46):Prop:=∀ (p0 y:Int),c p0=some y→Spec Try.prog gl0 46 [.c (.int .i64 p0)] [] (.c (.int .i64 y)) []
theorem ek46 {R:Type} {c:C46} (hs:Sp46 c):EOk 46 (e46 (R:=R) c):=qag fun v=>hs v.1
theorem sf46:Sp46 (F46):=fun p0 y hy=>by
 refine qad qac 1000000 (fn:=Try.f46) (by kernel_rfl) (by kernel_rfl) (X:=X46) (by kernel_rfl) ?_
 rw [eq46]
 exact (nt46 Ops.std p0 some (K9 k0)).trans (by show ob (F46 p0) _=_;rw [hy];rfl)
noncomputable def M46:C46:=F46
theorem sm46:Sp46 M46:=sf46
def X88:Aux:=⟨[],[]⟩
def T88 {R:Type} (B:Ops) (p0:Int) (k:(Bool)→Option R):Option R:=cond (B.le 97 p0) (cond (B.le p0 122) (k true) (k (B.eq p0 95))) (k (B.eq p0 95))
theorem eq88 {R:Type} (B:Ops) (p0:Int) (k:AV→Objs→Option R) (n:Nat):afun tau B gl0 X88 gnil ow Try.f88 [.c (.int .u8 p0)] [] k n=T88 B p0 (K2 k):=by kernel_rfl
theorem nt88 {R R':Type} (B:Ops) (p0:Int) (k0:(Bool)→Option R') (k:R'→Option R):T88 B p0 (fun y=>ob (k0 y) k)=ob (T88 B p0 k0) k:=by
 unfold T88
 repeat' first | exact rfl | apply qab | (apply qae;intro)
def F88 (p0:Int):Option (Bool):=T88 Ops.std p0 some
abbrev C88:Type:=Int→Option (Bool)
def e88 {R:Type} (c:C88):Ent R:=eG [.aC (.cI .u8)] [] fun v k=>ob (c v.1) (K2 k)
abbrev Sp88 (c:C88):Prop:=∀ (p0:Int) (y:Bool),c p0=some y→Spec Try.prog gl0 88 [.c (.int .u8 p0)] [] (.c (.bool y)) []
theorem ek88 {R:Type} {c:C88} (hs:Sp88 c):EOk 88 (e88 (R:=R) c):=qag fun v=>hs v.1
theorem sf88:Sp88 (F88):=fun p0 y hy=>by
 refine qad qac 1000000 (fn:=Try.f88) (by kernel_rfl) (by kernel_rfl) (X:=X88) (by kernel_rfl) ?_
 rw [eq88]
 exact (nt88 Ops.std p0 some (K2 k0)).trans (by show ob (F88 p0) _=_;rw [hy];rfl)
noncomputable def M88:C88:=F88
theorem sm88:Sp88 M88:=sf88
def X93:Aux:=⟨[],[]⟩
def T93 {R:Type} (B:Ops) (p0:Int) (k:(Bool)→Option R):Option R:=cond (B.le 48 p0) (k (B.le p0 57)) (k false)
theorem eq93 {R:Type} (B:Ops) (p0:Int) (k:AV→Objs→Option R) (n:Nat):afun tau B gl0 X93 gnil ow Try.f93 [.c (.int .u8 p0)] [] k n=T93 B p0 (K2 k):=by kernel_rfl
theorem nt93 {R R':Type} (B:Ops) (p0:Int) (k0:(Bool)→Option R') (k:R'→Option R):T93 B p0 (fun y=>ob (k0 y) k)=ob (T93 B p0 k0) k:=by
 unfold T93
 repeat' first | exact rfl | apply qab | (apply qae;intro)
def F93 (p0:Int):Option (Bool):=T93 Ops.std p0 some
abbrev C93:Type:=Int→Option (Bool)
def e93 {R:Type} (c:C93):Ent R:=eG [.aC (.cI .u8)] [] fun v k=>ob (c v.1) (K2 k)
abbrev Sp93 (c:C93):Prop:=∀ (p0:Int) (y:Bool),c p0=some y→Spec Try.prog gl0 93 [.c (.int .u8 p0)] [] (.c (.bool y)) []
theorem ek93 {R:Type} {c:C93} (hs:Sp93 c):EOk 93 (e93 (R:=R) c):=qag fun v=>hs v.1
theorem sf93:Sp93 (F93):=fun p0 y hy=>by
 refine qad qac 1000000 (fn:=Try.f93) (by kernel_rfl) (by kernel_rfl) (X:=X93) (by kernel_rfl) ?_
 rw [eq93]
 exact (nt93 Ops.std p0 some (K2 k0)).trans (by show ob (F93 p0) _=_;rw [hy];rfl)
noncomputable def M93:C93:=F93
theorem sm93:Sp93 M93:=sf93
def X90:Aux:=⟨[],[]⟩
def T90 {R:Type} (B:Ops) (c88:C88) (c93:C93) (p0:Int) (k:(Bool)→Option R):Option R:=ob (c88 p0) fun y0=>cond (y0) (k true) (ob (c93 p0) fun y1=>k y1)
theorem eq90 {R:Type} (B:Ops) (c88:C88) (c93:C93) (p0:Int) (k:AV→Objs→Option R) (n:Nat):afun tau B gl0 X90 (ent 88 (e88 c88) (ent 93 (e93 c93) gnil)) ow Try.f90 [.c (.int .u8 p0)] [] k n=T90 B c88 c93 p0 (K2 k):=by kernel_rfl
theorem nt90 {R R':Type} (B:Ops) (c88:C88) (c93:C93) (p0:Int) (k0:(Bool)→Option R') (k:R'→Option R):T90 B c88 c93 p0 (fun y=>ob (k0 y) k)=ob (T90 B c88 c93 p0 k0) k:=by
 unfold T90
 repeat' first | exact rfl | apply qab | (apply qae;intro)
def F90 (c88:C88) (c93:C93) (p0:Int):Option (Bool):=T90 Ops.std c88 c93 p0 some
abbrev C90:Type:=Int→Option (Bool)
def e90 {R:Type} (c:C90):Ent R:=eG [.aC (.cI .u8)] [] fun v k=>ob (c v.1) (K2 k)
abbrev Sp90 (c:C90):Prop:=∀ (p0:Int) (y:Bool),c p0=some y→Spec Try.prog gl0 90 [.c (.int .u8 p0)] [] (.c (.bool y)) []
theorem ek90 {R:Type} {c:C90} (hs:Sp90 c):EOk 90 (e90 (R:=R) c):=qag fun v=>hs v.1
theorem sf90 {c88:C88} {c93:C93} (h88:Sp88 c88) (h93:Sp93 c93):Sp90 (F90 c88 c93):=fun p0 y hy=>by
 refine qad (qaa (ek88 h88) (qaa (ek93 h93) qac)) 1000000 (fn:=Try.f90) (by kernel_rfl) (by kernel_rfl) (X:=X90) (by kernel_rfl) ?_
 rw [eq90]
 exact (nt90 Ops.std c88 c93 p0 some (K2 k0)).trans (by show ob (F90 c88 c93 p0) _=_;rw [hy];rfl)
noncomputable def M90:C90:=F90 M88 M93
theorem sm90:Sp90 M90:=sf90 sm88 sm93
def X89:Aux:=⟨[(2,([2,3,4]++rg 6 16))],[]⟩
inductive S89 where
 | l0 (v1:Int)
def T89 {R:Type} (B:Ops) (c90:C90) (p0:LB) (again:S89→Option R) (k:(LB)→Option R):Option S89→Option R | none=>again (.l0 0) | some (.l0 v1)=>cond (B.lt v1 (↑p0.length)) (cond (B.inb v1 p0.length) (ob (c90 (Nat.cast (UInt8.toNat (p0.getD v1.toNat 0)))) fun y0=>cond (y0) (again (.l0 (IntKind.wrap .i64 (v1+1)))) (cond (B.inb v1 (List.length p0+1)) (k (List.drop 0 (List.take v1.toNat p0))) none)) none) (cond (B.inb v1 (List.length p0+1)) (k (List.drop 0 (List.take v1.toNat p0))) none)
def E89 (p0:LB):S89→List AV×Objs
 | .l0 v1=>(mk 22 [(0,.c (.str p0)),(1,.fn 90 []),(5,.c (.int .i64 v1))],[])
def I89:S89→Nat
 | .l0 _=>0
theorem eq89 {R:Type} (B:Ops) (c90:C90) (p0:LB) (k:AV→Objs→Option R) (n:Nat):afun tau B gl0 X89 (ent 90 (e90 c90) gnil) ow Try.f89 [.c (.str p0),.fn 90 []] [] k n=T89 B c90 p0 (fun s=>aloop tau B gl0 X89 (ent 90 (e90 c90) gnil) ow [] Try.f89 k (I89 s) (E89 p0 s) n) (K5 k) none:=by kernel_rfl
theorem el89 {R:Type} (B:Ops) (c90:C90) (p0:LB) (k:AV→Objs→Option R) (n:Nat):∀ s,aloop tau B gl0 X89 (ent 90 (e90 c90) gnil) ow [] Try.f89 k (I89 s) (E89 p0 s) (n+1)=T89 B c90 p0 (fun s=>aloop tau B gl0 X89 (ent 90 (e90 c90) gnil) ow [] Try.f89 k (I89 s) (E89 p0 s) n) (K5 k) (some s):=by
 intro s
 cases s<;>kernel_rfl
theorem nt89 {R R':Type} (B:Ops) (c90:C90) (p0:LB) (again:S89→Option R) (again':S89→Option R') (k0:(LB)→Option R') (k:R'→Option R) (h:∀ s,again s=ob (again' s) k):∀ s,T89 B c90 p0 again (fun y=>ob (k0 y) k) s=ob (T89 B c90 p0 again' k0 s) k:=by
 rintro (_ | x)
 all_goals try cases x
 all_goals (unfold T89;repeat' first | exact rfl | exact h _ | apply qab | (apply qae;intro))
def R89 (c90:C90) (p0:LB):Nat→S89→Option (LB)
 | 0,_=>none
 | n+1,s=>T89 Ops.std c90 p0 (R89 c90 p0 n) some (some s)
theorem rr89 {R:Type} (c90:C90) (p0:LB) (k:AV→Objs→Option R):∀ (n:Nat) (s:S89),aloop tau Ops.std gl0 X89 (ent 90 (e90 c90) gnil) ow [] Try.f89 k (I89 s) (E89 p0 s) n=ob (R89 c90 p0 n s) (K5 k)
 | 0,s=>by cases s<;>rfl
 | n+1,s=>by rw [el89];exact nt89 Ops.std c90 p0 _ _ some (K5 k) (rr89 c90 p0 k n) (some s)
def F89 (c90:C90) (p0:LB):Option (LB):=T89 Ops.std c90 p0 (R89 c90 p0 1000000) some none
abbrev C89:Type:=LB→Option (LB)
def e89 {R:Type} (c:C89):Ent R:=eG [.aC .cS,.aF 90 []] [] fun v k=>ob (c v.1) (K5 k)
abbrev Sp89 (c:C89):Prop:=∀ (p0 y:LB),c p0=some y→Spec Try.prog gl0 89 [.c (.str p0),.fn 90 []] [] (.c (.str y)) []
theorem ek89 {R:Type} {c:C89} (hs:Sp89 c):EOk 89 (e89 (R:=R) c):=qag fun v=>hs v.1
theorem sf89 {c90:C90} (h90:Sp90 c90):Sp89 (F89 c90):=fun p0 y hy=>by
 refine qad (qaa (ek90 h90) qac) 1000000 (fn:=Try.f89) (by kernel_rfl) (by kernel_rfl) (X:=X89) (by kernel_rfl) ?_
 rw [eq89]
 exact (nt89 Ops.std c90 p0 _ _ some (K5 k0) (rr89 c90 p0 k0 1000000) none).trans (by show ob (F89 c90 p0) _=_;rw [hy];rfl)
noncomputable def M89:C89:=F89 M90
theorem sm89:Sp89 M89:=sf89 sm90
def X110:Aux:=⟨[(2,([2,3,4]++rg 6 16))],[]⟩
inductive S110 where
 | l0 (v1:Int)
def T110 {R:Type} (B:Ops) (c93:C93) (p0:LB) (again:S110→Option R) (k:(LB)→Option R):Option S110→Option R | none=>again (.l0 0) | some (.l0 v1)=>cond (B.lt v1 (↑p0.length)) (cond (B.inb v1 p0.length) (ob (c93 (Nat.cast (UInt8.toNat (p0.getD v1.toNat 0)))) fun y0=>cond (y0) (again (.l0 (IntKind.wrap .i64 (v1+1)))) (cond (B.inb v1 (List.length p0+1)) (k (List.drop 0 (List.take v1.toNat p0))) none)) none) (cond (B.inb v1 (List.length p0+1)) (k (List.drop 0 (List.take v1.toNat p0))) none)
def E110 (p0:LB):S110→List AV×Objs
 | .l0 v1=>(mk 22 [(0,.c (.str p0)),(1,.fn 93 []),(5,.c (.int .i64 v1))],[])
def I110:S110→Nat
 | .l0 _=>0
theorem eq110 {R:Type} (B:Ops) (c93:C93) (p0:LB) (k:AV→Objs→Option R) (n:Nat):afun tau B gl0 X110 (ent 93 (e93 c93) gnil) ow Try.f89 [.c (.str p0),.fn 93 []] [] k n=T110 B c93 p0 (fun s=>aloop tau B gl0 X110 (ent 93 (e93 c93) gnil) ow [] Try.f89 k (I110 s) (E110 p0 s) n) (K5 k) none:=by kernel_rfl
theorem el110 {R:Type} (B:Ops) (c93:C93) (p0:LB) (k:AV→Objs→Option R) (n:Nat):∀ s,aloop tau B gl0 X110 (ent 93 (e93 c93) gnil) ow [] Try.f89 k (I110 s) (E110 p0 s) (n+1)=T110 B c93 p0 (fun s=>aloop tau B gl0 X110 (ent 93 (e93 c93) gnil) ow [] Try.f89 k (I110 s) (E110 p0 s) n) (K5 k) (some s):=by
 intro s
 cases s<;>kernel_rfl
theorem nt110 {R R':Type} (B:Ops) (c93:C93) (p0:LB) (again:S110→Option R) (again':S110→Option R') (k0:(LB)→Option R') (k:R'→Option R) (h:∀ s,again s=ob (again' s) k):∀ s,T110 B c93 p0 again (fun y=>ob (k0 y) k) s=ob (T110 B c93 p0 again' k0 s) k:=by
 rintro (_ | x)
 all_goals try cases x
 all_goals (unfold T110;repeat' first | exact rfl | exact h _ | apply qab | (apply qae;intro))
def R110 (c93:C93) (p0:LB):Nat→S110→Option (LB)
 | 0,_=>none
 | n+1,s=>T110 Ops.std c93 p0 (R110 c93 p0 n) some (some s)
theorem rr110 {R:Type} (c93:C93) (p0:LB) (k:AV→Objs→Option R):∀ (n:Nat) (s:S110),aloop tau Ops.std gl0 X110 (ent 93 (e93 c93) gnil) ow [] Try.f89 k (I110 s) (E110 p0 s) n=ob (R110 c93 p0 n s) (K5 k)
 | 0,s=>by cases s<;>rfl
 | n+1,s=>by rw [el110];exact nt110 Ops.std c93 p0 _ _ some (K5 k) (rr110 c93 p0 k n) (some s)
def F110 (c93:C93) (p0:LB):Option (LB):=T110 Ops.std c93 p0 (R110 c93 p0 1000000) some none
abbrev C110:Type:=LB→Option (LB)
def e110 {R:Type} (c:C110):Ent R:=eG [.aC .cS,.aF 93 []] [] fun v k=>ob (c v.1) (K5 k)
abbrev Sp110 (c:C110):Prop:=∀ (p0 y:LB),c p0=some y→Spec Try.prog gl0 89 [.c (.str p0),.fn 93 []] [] (.c (.str y)) []
theorem ek110 {R:Type} {c:C110} (hs:Sp110 c):EOk 89 (e110 (R:=R) c):=qag fun v=>hs v.1
theorem sf110 {c93:C93} (h93:Sp93 c93):Sp110 (F110 c93):=fun p0 y hy=>by
 refine qad (qaa (ek93 h93) qac) 1000000 (fn:=Try.f89) (by kernel_rfl) (by kernel_rfl) (X:=X110) (by kernel_rfl) ?_
 rw [eq110]
 exact (nt110 Ops.std c93 p0 _ _ some (K5 k0) (rr110 c93 p0 k0 1000000) none).trans (by show ob (F110 c93 p0) _=_;rw [hy];rfl)
noncomputable def M110:C110:=F110 M93
theorem sm110:Sp110 M110:=sf110 sm93
def X84:Aux:=⟨[],[]⟩
def T84 {R:Type} (B:Ops) (c88:C88) (c89:C89) (c110:C110) (c90:C90) (p0:LB) (k:(Bool)→Option R):Option R:=cond (!p0 == mt UInt8) (cond (B.le (↑p0.length) 8) (cond (B.inb 0 p0.length) (ob (c88 (Nat.cast (UInt8.toNat (p0.getD (Int.toNat 0) 0)))) fun y0=>cond (y0) (ob (c89 p0) fun y1=>k (y1 == p0)) (k false)) none) (k false)) (k false)
theorem eq84 {R:Type} (B:Ops) (c88:C88) (c89:C89) (c110:C110) (c90:C90) (p0:LB) (k:AV→Objs→Option R) (n:Nat):afun tau B gl0 X84 (ent 88 (e88 c88) (ent 89 (eAlt 1 90 (e89 c89) (e110 c110)) (ent 90 (e90 c90) gnil))) ow Try.f84 [.c (.str p0)] [] k n=T84 B c88 c89 c110 c90 p0 (K2 k):=by kernel_rfl
theorem nt84 {R R':Type} (B:Ops) (c88:C88) (c89:C89) (c110:C110) (c90:C90) (p0:LB) (k0:(Bool)→Option R') (k:R'→Option R):T84 B c88 c89 c110 c90 p0 (fun y=>ob (k0 y) k)=ob (T84 B c88 c89 c110 c90 p0 k0) k:=by
 unfold T84
 repeat' first | exact rfl | apply qab | (apply qae;intro)
def F84 (c88:C88) (c89:C89) (c110:C110) (c90:C90) (p0:LB):Option (Bool):=T84 Ops.std c88 c89 c110 c90 p0 some
abbrev C84:Type:=LB→Option (Bool)
def e84 {R:Type} (c:C84):Ent R:=eG [.aC .cS] [] fun v k=>ob (c v.1) (K2 k)
abbrev Sp84 (c:C84):Prop:=∀ (p0:LB) (y:Bool),c p0=some y→Spec Try.prog gl0 84 [.c (.str p0)] [] (.c (.bool y)) []
theorem ek84 {R:Type} {c:C84} (hs:Sp84 c):EOk 84 (e84 (R:=R) c):=qag fun v=>hs v.1
theorem sf84 {c88:C88} {c89:C89} {c110:C110} {c90:C90} (h88:Sp88 c88) (h89:Sp89 c89) (h110:Sp110 c110) (h90:Sp90 c90):Sp84 (F84 c88 c89 c110 c90):=fun p0 y hy=>by
 refine qad (G:=ent 88 (e88 c88) (ent 89 (eAlt 1 90 (e89 c89) (e110 c110)) (ent 90 (e90 c90) gnil))) (qaa (ek88 h88) (qaa (eAlt_ok (ek89 h89) (ek110 h110)) (qaa (ek90 h90) qac))) 1000000 (fn:=Try.f84) (by kernel_rfl) (by kernel_rfl) (X:=X84) (by kernel_rfl) ?_
 rw [eq84]
 exact (nt84 Ops.std c88 c89 c110 c90 p0 some (K2 k0)).trans (by show ob (F84 c88 c89 c110 c90 p0) _=_;rw [hy];rfl)
noncomputable def M84:C84:=F84 M88 M89 M110 M90
theorem sm84:Sp84 M84:=sf84 sm88 sm89 sm110 sm90
def X85:Aux:=⟨[],[]⟩
def T85 {R:Type} (B:Ops) (c84:C84) (c46:C46) (p0 p1:Int) (p2 p3:LB) (k:(Bool)→Option R):Option R:=cond (B.eq p0 1) (cond (B.le 0 p1) (cond (B.le p1 999) (cond (p2 == mt UInt8) (k (p3 == mt UInt8)) (k false)) (k false)) (k false)) (cond (B.eq p0 2) (cond (B.eq p1 0) (ob (c84 p2) fun y0=>cond (y0) (k (p3 == mt UInt8)) (k false)) (k false)) (cond (B.eq p0 3) (cond (B.eq p1 0) (ob (c84 p2) fun y0=>cond (y0) (ob (c84 p3) fun y1=>k y1) (k false)) (k false)) (ob (c46 p0) fun y0=>cond (B.lt 0 y0) (cond (B.eq p1 0) (cond (p2 == mt UInt8) (k (p3 == mt UInt8)) (k false)) (k false)) (k false))))
theorem eq85 {R:Type} (B:Ops) (c84:C84) (c46:C46) (p0 p1:Int) (p2 p3:LB) (k:AV→Objs→Option R) (n:Nat):afun tau B gl0 X85 (ent 84 (e84 c84) (ent 46 (e46 c46) gnil)) ow Try.f85 [.agg [.int .i64 p0,.int .i64 p1,.str p2,.str p3]] [] k n=T85 B c84 c46 p0 p1 p2 p3 (K2 k):=by kernel_rfl
theorem nt85 {R R':Type} (B:Ops) (c84:C84) (c46:C46) (p0 p1:Int) (p2 p3:LB) (k0:(Bool)→Option R') (k:R'→Option R):T85 B c84 c46 p0 p1 p2 p3 (fun y=>ob (k0 y) k)=ob (T85 B c84 c46 p0 p1 p2 p3 k0) k:=by
 unfold T85
 repeat' first | exact rfl | apply qab | (apply qae;intro)
def F85 (c84:C84) (c46:C46) (p0 p1:Int) (p2 p3:LB):Option (Bool):=T85 Ops.std c84 c46 p0 p1 p2 p3 some
abbrev C85:Type:=Int→Int→LB→LB→Option (Bool)
def e85 {R:Type} (c:C85):Ent R:=eG [.aG [.cI .i64,.cI .i64,.cS,.cS]] [] fun v k=>ob (c v.1 v.2.1 v.2.2.1 v.2.2.2.1) (K2 k)
abbrev Sp85 (c:C85):Prop:=∀ (p0 p1:Int) (p2 p3:LB) (y:Bool),c p0 p1 p2 p3=some y→Spec Try.prog gl0 85 [.agg [.int .i64 p0,.int .i64 p1,.str p2,.str p3]] [] (.c (.bool y)) []
theorem ek85 {R:Type} {c:C85} (hs:Sp85 c):EOk 85 (e85 (R:=R) c):=qag fun v=>hs v.1 v.2.1 v.2.2.1 v.2.2.2.1
theorem sf85 {c84:C84} {c46:C46} (h84:Sp84 c84) (h46:Sp46 c46):Sp85 (F85 c84 c46):=fun p0 p1 p2 p3 y hy=>by
 refine qad (qaa (ek84 h84) (qaa (ek46 h46) qac)) 1000000 (fn:=Try.f85) (by kernel_rfl) (by kernel_rfl) (X:=X85) (by kernel_rfl) ?_
 rw [eq85]
 exact (nt85 Ops.std c84 c46 p0 p1 p2 p3 some (K2 k0)).trans (by show ob (F85 c84 c46 p0 p1 p2 p3) _=_;rw [hy];rfl)
noncomputable def M85:C85:=F85 M84 M46
theorem sm85:Sp85 M85:=sf85 sm84 sm46
def X75:Aux:=⟨[(3,([1,2,4,5,6]++rg 10 26))],[]⟩
inductive S75 where
 | l0 (v1 v3 v4:Int)
def T75 {R:Type} (B:Ops) (c46:C46) (c85:C85) (p0:L95) (again:S75→Option R) (k:(Bool)→Option R):Option S75→Option R | none=>again (.l0 0 (↑p0.length) 0) | some (.l0 v1 v3 v4)=>cond (B.lt v4 v3) (cond (B.inb v4 p0.length) (ob (c46 ((p0.getD v4.toNat ty95.dflt).1)) fun y0=>ob (c85 ((p0.getD v4.toNat ty95.dflt).1) (((p0.getD v4.toNat ty95.dflt).2).1) ((((p0.getD v4.toNat ty95.dflt).2).2).1) ((((p0.getD v4.toNat ty95.dflt).2).2).2)) fun y1=>cond (!y1) (k false) (cond (B.lt v1 y0) (k false) (again (.l0 (IntKind.wrap .i64 (v1+IntKind.wrap .i64 (1-y0))) v3 (IntKind.wrap .i64 (v4+1)))))) none) (cond (B.eq v1 1) (k (B.le (↑p0.length) 30)) (k false))
def E75 (p0:L95):S75→List AV×Objs
 | .l0 v1 v3 v4=>(mk 36 [(0,.c (.list 95 ty95 p0)),(3,.c (.int .i64 v1)),(7,.c (.list 95 ty95 p0)),(8,.c (.int .i64 v3)),(9,.c (.int .i64 v4))],[])
def I75:S75→Nat
 | .l0 _ _ _=>0
theorem eq75 {R:Type} (B:Ops) (c46:C46) (c85:C85) (p0:L95) (k:AV→Objs→Option R) (n:Nat):afun tau B gl0 X75 (ent 46 (e46 c46) (ent 85 (e85 c85) gnil)) ow Try.f75 [.c (.list 95 ty95 p0)] [] k n=T75 B c46 c85 p0 (fun s=>aloop tau B gl0 X75 (ent 46 (e46 c46) (ent 85 (e85 c85) gnil)) ow [] Try.f75 k (I75 s) (E75 p0 s) n) (K2 k) none:=by kernel_rfl
theorem el75 {R:Type} (B:Ops) (c46:C46) (c85:C85) (p0:L95) (k:AV→Objs→Option R) (n:Nat):∀ s,aloop tau B gl0 X75 (ent 46 (e46 c46) (ent 85 (e85 c85) gnil)) ow [] Try.f75 k (I75 s) (E75 p0 s) (n+1)=T75 B c46 c85 p0 (fun s=>aloop tau B gl0 X75 (ent 46 (e46 c46) (ent 85 (e85 c85) gnil)) ow [] Try.f75 k (I75 s) (E75 p0 s) n) (K2 k) (some s):=by
 intro s
 cases s<;>kernel_rfl
theorem nt75 {R R':Type} (B:Ops) (c46:C46) (c85:C85) (p0:L95) (again:S75→Option R) (again':S75→Option R') (k0:(Bool)→Option R') (k:R'→Option R) (h:∀ s,again s=ob (again' s) k):∀ s,T75 B c46 c85 p0 again (fun y=>ob (k0 y) k) s=ob (T75 B c46 c85 p0 again' k0 s) k:=by
 rintro (_ | x)
 all_goals try cases x
 all_goals (unfold T75;repeat' first | exact rfl | exact h _ | apply qab | (apply qae;intro))
def R75 (c46:C46) (c85:C85) (p0:L95):Nat→S75→Option (Bool)
 | 0,_=>none
 | n+1,s=>T75 Ops.std c46 c85 p0 (R75 c46 c85 p0 n) some (some s)
theorem rr75 {R:Type} (c46:C46) (c85:C85) (p0:L95) (k:AV→Objs→Option R):∀ (n:Nat) (s:S75),aloop tau Ops.std gl0 X75 (ent 46 (e46 c46) (ent 85 (e85 c85) gnil)) ow [] Try.f75 k (I75 s) (E75 p0 s) n=ob (R75 c46 c85 p0 n s) (K2 k)
 | 0,s=>by cases s<;>rfl
 | n+1,s=>by rw [el75];exact nt75 Ops.std c46 c85 p0 _ _ some (K2 k) (rr75 c46 c85 p0 k n) (some s)
def F75 (c46:C46) (c85:C85) (p0:L95):Option (Bool):=T75 Ops.std c46 c85 p0 (R75 c46 c85 p0 1000000) some none
abbrev C75:Type:=L95→Option (Bool)
def e75 {R:Type} (c:C75):Ent R:=eG [.aC (.cL 95 ty95)] [] fun v k=>ob (c v.1) (K2 k)
abbrev Sp75 (c:C75):Prop:=∀ (p0:L95) (y:Bool),c p0=some y→Spec Try.prog gl0 75 [.c (.list 95 ty95 p0)] [] (.c (.bool y)) []
theorem ek75 {R:Type} {c:C75} (hs:Sp75 c):EOk 75 (e75 (R:=R) c):=qag fun v=>hs v.1
theorem sf75 {c46:C46} {c85:C85} (h46:Sp46 c46) (h85:Sp85 c85):Sp75 (F75 c46 c85):=fun p0 y hy=>by
 refine qad (qaa (ek46 h46) (qaa (ek85 h85) qac)) 1000000 (fn:=Try.f75) (by kernel_rfl) (by kernel_rfl) (X:=X75) (by kernel_rfl) ?_
 rw [eq75]
 exact (nt75 Ops.std c46 c85 p0 _ _ some (K2 k0) (rr75 c46 c85 p0 k0 1000000) none).trans (by show ob (F75 c46 c85 p0) _=_;rw [hy];rfl)
noncomputable def M75:C75:=F75 M46 M85
theorem sm75:Sp75 M75:=sf75 sm46 sm85
def X45:Aux:=⟨[(2,([0,3,4,5,6,7,8]++rg 12 28))],[]⟩
inductive S45 where
 | l0 (v2 v3:Int)
def T45 {R:Type} (B:Ops) (c48:C48) (c49:C49) (c75:C75) (p0:L62) (p1:L66) (p2:L43) (p3:L95) (again:S45→Option R) (k:(Bool)→Option R):Option S45→Option R | none=>again (.l0 (↑p3.length) 0) | some (.l0 v2 v3)=>cond (B.lt v3 v2) (cond (B.inb v3 p3.length) (cond (B.eq ((p3.getD v3.toNat ty95.dflt).1) 2) (ob (c48 p0 p1 p2 ((((p3.getD v3.toNat ty95.dflt).2).2).1)) fun y0=>cond (B.lt y0 0) (k false) (again (.l0 v2 (IntKind.wrap .i64 (v3+1))))) (cond (B.eq ((p3.getD v3.toNat ty95.dflt).1) 3) (ob (c49 p0 p1 p2 ((((p3.getD v3.toNat ty95.dflt).2).2).1) ((((p3.getD v3.toNat ty95.dflt).2).2).2)) fun y0=>cond (B.lt y0.2 0) (k false) (again (.l0 v2 (IntKind.wrap .i64 (v3+1))))) (again (.l0 v2 (IntKind.wrap .i64 (v3+1)))))) none) (ob (c75 p3) fun y0=>k y0)
def E45 (p0:L62) (p1:L66) (p2:L43) (p3:L95):S45→List AV×Objs
 | .l0 v2 v3=>(mk 40 [(1,.c (.list 95 ty95 p3)),(2,.c (.ptr 2 0)),(9,.c (.list 95 ty95 p3)),(10,.c (.int .i64 v2)),(11,.c (.int .i64 v3))],[(2,.box 27 [.list 62 ty62 p0,.list 66 ty66 p1,.list 43 ty43 p2])])
def I45:S45→Nat
 | .l0 _ _=>0
theorem eq45 {R:Type} (B:Ops) (c48:C48) (c49:C49) (c75:C75) (p0:L62) (p1:L66) (p2:L43) (p3:L95) (k:AV→Objs→Option R) (n:Nat):afun tau B gl0 X45 (ent 48 (e48 c48) (ent 49 (e49 c49) (ent 75 (e75 c75) gnil))) ow Try.f45 [.agg [.list 62 ty62 p0,.list 66 ty66 p1,.list 43 ty43 p2],.c (.list 95 ty95 p3)] [] k n=T45 B c48 c49 c75 p0 p1 p2 p3 (fun s=>aloop tau B gl0 X45 (ent 48 (e48 c48) (ent 49 (e49 c49) (ent 75 (e75 c75) gnil))) ow [] Try.f45 k (I45 s) (E45 p0 p1 p2 p3 s) n) (K2 k) none:=by kernel_rfl
theorem el45 {R:Type} (B:Ops) (c48:C48) (c49:C49) (c75:C75) (p0:L62) (p1:L66) (p2:L43) (p3:L95) (k:AV→Objs→Option R) (n:Nat):∀ s,aloop tau B gl0 X45 (ent 48 (e48 c48) (ent 49 (e49 c49) (ent 75 (e75 c75) gnil))) ow [] Try.f45 k (I45 s) (E45 p0 p1 p2 p3 s) (n+1)=T45 B c48 c49 c75 p0 p1 p2 p3 (fun s=>aloop tau B gl0 X45 (ent 48 (e48 c48) (ent 49 (e49 c49) (ent 75 (e75 c75) gnil))) ow [] Try.f45 k (I45 s) (E45 p0 p1 p2 p3 s) n) (K2 k) (some s):=by
 intro s
 cases s<;>kernel_rfl
theorem nt45 {R R':Type} (B:Ops) (c48:C48) (c49:C49) (c75:C75) (p0:L62) (p1:L66) (p2:L43) (p3:L95) (again:S45→Option R) (again':S45→Option R') (k0:(Bool)→Option R') (k:R'→Option R) (h:∀ s,again s=ob (again' s) k):∀ s,T45 B c48 c49 c75 p0 p1 p2 p3 again (fun y=>ob (k0 y) k) s=ob (T45 B c48 c49 c75 p0 p1 p2 p3 again' k0 s) k:=by
 rintro (_ | x)
 all_goals try cases x
 all_goals (unfold T45;repeat' first | exact rfl | exact h _ | apply qab | (apply qae;intro))
def R45 (c48:C48) (c49:C49) (c75:C75) (p0:L62) (p1:L66) (p2:L43) (p3:L95):Nat→S45→Option (Bool)
 | 0,_=>none
 | n+1,s=>T45 Ops.std c48 c49 c75 p0 p1 p2 p3 (R45 c48 c49 c75 p0 p1 p2 p3 n) some (some s)
theorem rr45 {R:Type} (c48:C48) (c49:C49) (c75:C75) (p0:L62) (p1:L66) (p2:L43) (p3:L95) (k:AV→Objs→Option R):∀ (n:Nat) (s:S45),aloop tau Ops.std gl0 X45 (ent 48 (e48 c48) (ent 49 (e49 c49) (ent 75 (e75 c75) gnil))) ow [] Try.f45 k (I45 s) (E45 p0 p1 p2 p3 s) n=ob (R45 c48 c49 c75 p0 p1 p2 p3 n s) (K2 k)
 | 0,s=>by cases s<;>rfl
 | n+1,s=>by rw [el45];exact nt45 Ops.std c48 c49 c75 p0 p1 p2 p3 _ _ some (K2 k) (rr45 c48 c49 c75 p0 p1 p2 p3 k n) (some s)
def F45 (c48:C48) (c49:C49) (c75:C75) (p0:L62) (p1:L66) (p2:L43) (p3:L95):Option (Bool):=T45 Ops.std c48 c49 c75 p0 p1 p2 p3 (R45 c48 c49 c75 p0 p1 p2 p3 1000000) some none
abbrev C45:Type:=L62→L66→L43→L95→Option (Bool)
def e45 {R:Type} (c:C45):Ent R:=eG [.aG [.cL 62 ty62,.cL 66 ty66,.cL 43 ty43],.aC (.cL 95 ty95)] [] fun v k=>ob (c v.1 v.2.1 v.2.2.1 v.2.2.2.1) (K2 k)
abbrev Sp45 (c:C45):Prop:=∀ (p0:L62) (p1:L66) (p2:L43) (p3:L95) (y:Bool),c p0 p1 p2 p3=some y→Spec Try.prog gl0 45 [.agg [.list 62 ty62 p0,.list 66 ty66 p1,.list 43 ty43 p2],.c (.list 95 ty95 p3)] [] (.c (.bool y)) []
theorem ek45 {R:Type} {c:C45} (hs:Sp45 c):EOk 45 (e45 (R:=R) c):=qag fun v=>hs v.1 v.2.1 v.2.2.1 v.2.2.2.1
theorem sf45 {c48:C48} {c49:C49} {c75:C75} (h48:Sp48 c48) (h49:Sp49 c49) (h75:Sp75 c75):Sp45 (F45 c48 c49 c75):=fun p0 p1 p2 p3 y hy=>by
 refine qad (qaa (ek48 h48) (qaa (ek49 h49) (qaa (ek75 h75) qac))) 1000000 (fn:=Try.f45) (by kernel_rfl) (by kernel_rfl) (X:=X45) (by kernel_rfl) ?_
 rw [eq45]
 exact (nt45 Ops.std c48 c49 c75 p0 p1 p2 p3 _ _ some (K2 k0) (rr45 c48 c49 c75 p0 p1 p2 p3 k0 1000000) none).trans (by show ob (F45 c48 c49 c75 p0 p1 p2 p3) _=_;rw [hy];rfl)
noncomputable def M45:C45:=F45 M48 M49 M75
theorem sm45:Sp45 M45:=sf45 sm48 sm49 sm75
def X71:Aux:=⟨[],[]⟩
def T71 {R:Type} (B:Ops) (c32:C32) (p0:L9) (p1:LB) (k:(Bool)→Option R):Option R:=ob (c32 p0 p1) fun y0=>k (B.le 0 y0)
theorem eq71 {R:Type} (B:Ops) (c32:C32) (p0:L9) (p1:LB) (k:AV→Objs→Option R) (n:Nat):afun tau B gl0 X71 (ent 32 (e32 c32) gnil) ow Try.f71 [.c (.list 9 ty9 p0),.c (.str p1)] [] k n=T71 B c32 p0 p1 (K2 k):=by kernel_rfl
theorem nt71 {R R':Type} (B:Ops) (c32:C32) (p0:L9) (p1:LB) (k0:(Bool)→Option R') (k:R'→Option R):T71 B c32 p0 p1 (fun y=>ob (k0 y) k)=ob (T71 B c32 p0 p1 k0) k:=by
 unfold T71
 repeat' first | exact rfl | apply qab | (apply qae;intro)
def F71 (c32:C32) (p0:L9) (p1:LB):Option (Bool):=T71 Ops.std c32 p0 p1 some
abbrev C71:Type:=L9→LB→Option (Bool)
def e71 {R:Type} (c:C71):Ent R:=eG [.aC (.cL 9 ty9),.aC .cS] [] fun v k=>ob (c v.1 v.2.1) (K2 k)
abbrev Sp71 (c:C71):Prop:=∀ (p0:L9) (p1:LB) (y:Bool),c p0 p1=some y→Spec Try.prog gl0 71 [.c (.list 9 ty9 p0),.c (.str p1)] [] (.c (.bool y)) []
theorem ek71 {R:Type} {c:C71} (hs:Sp71 c):EOk 71 (e71 (R:=R) c):=qag fun v=>hs v.1 v.2.1
theorem sf71 {c32:C32} (h32:Sp32 c32):Sp71 (F71 c32):=fun p0 p1 y hy=>by
 refine qad (qaa (ek32 h32) qac) 1000000 (fn:=Try.f71) (by kernel_rfl) (by kernel_rfl) (X:=X71) (by kernel_rfl) ?_
 rw [eq71]
 exact (nt71 Ops.std c32 p0 p1 some (K2 k0)).trans (by show ob (F71 c32 p0 p1) _=_;rw [hy];rfl)
noncomputable def M71:C71:=F71 M32
theorem sm71:Sp71 M71:=sf71 sm32
def X72:Aux:=⟨[],[]⟩
def T72 {R:Type} (B:Ops) (c84:C84) (p0:LB) (k:(Bool)→Option R):Option R:=cond (p0 == mt UInt8) (k true) (cond (B.inb (IntKind.wrap .i64 (Nat.cast p0.length-1)) p0.length) (cond (B.inb (IntKind.wrap .i64 (Nat.cast p0.length-1)) (List.length p0+1)) (ob (c84 (List.drop 0 (List.take (Int.toNat (IntKind.wrap .i64 (Nat.cast p0.length-1))) p0))) fun y0=>cond (y0) (cond (B.eq (Nat.cast (UInt8.toNat (p0.getD (Int.toNat (IntKind.wrap .i64 (Nat.cast p0.length-1))) 0))) 33) (k true) (k (B.eq (Nat.cast (UInt8.toNat (p0.getD (Int.toNat (IntKind.wrap .i64 (Nat.cast p0.length-1))) 0))) 63))) (k false)) none) none)
theorem eq72 {R:Type} (B:Ops) (c84:C84) (p0:LB) (k:AV→Objs→Option R) (n:Nat):afun tau B gl0 X72 (ent 84 (e84 c84) gnil) ow Try.f72 [.c (.str p0)] [] k n=T72 B c84 p0 (K2 k):=by kernel_rfl
theorem nt72 {R R':Type} (B:Ops) (c84:C84) (p0:LB) (k0:(Bool)→Option R') (k:R'→Option R):T72 B c84 p0 (fun y=>ob (k0 y) k)=ob (T72 B c84 p0 k0) k:=by
 unfold T72
 repeat' first | exact rfl | apply qab | (apply qae;intro)
def F72 (c84:C84) (p0:LB):Option (Bool):=T72 Ops.std c84 p0 some
abbrev C72:Type:=LB→Option (Bool)
def e72 {R:Type} (c:C72):Ent R:=eG [.aC .cS] [] fun v k=>ob (c v.1) (K2 k)
abbrev Sp72 (c:C72):Prop:=∀ (p0:LB) (y:Bool),c p0=some y→Spec Try.prog gl0 72 [.c (.str p0)] [] (.c (.bool y)) []
theorem ek72 {R:Type} {c:C72} (hs:Sp72 c):EOk 72 (e72 (R:=R) c):=qag fun v=>hs v.1
theorem sf72 {c84:C84} (h84:Sp84 c84):Sp72 (F72 c84):=fun p0 y hy=>by
 refine qad (qaa (ek84 h84) qac) 1000000 (fn:=Try.f72) (by kernel_rfl) (by kernel_rfl) (X:=X72) (by kernel_rfl) ?_
 rw [eq72]
 exact (nt72 Ops.std c84 p0 some (K2 k0)).trans (by show ob (F72 c84 p0) _=_;rw [hy];rfl)
noncomputable def M72:C72:=F72 M84
theorem sm72:Sp72 M72:=sf72 sm84
def X43:Aux:=⟨[(3,([0,1,4,6,7,8,9,10,11,12,13]++rg 17 54))],[]⟩
inductive S43 where
 | l0 (v0:L9) (v2 v3:Int)
def T43 {R:Type} (B:Ops) (c68:C68) (c70:C70) (c69:C69) (c45:C45) (c71:C71) (c72:C72) (p0:L62) (p1:L66) (p2:L43) (p3:Int) (p4 p5 p6 p7:LB) (p8:L95) (p9:L73) (again:S43→Option R) (k:(Bool)→Option R):Option S43→Option R | none=>ob (c68 p0 p1 p2 p4) fun y0=>again (.l0 y0 (↑p9.length) 0) | some (.l0 v0 v2 v3)=>cond (B.lt v3 v2) (cond (B.inb v3 p9.length) (ob (c69 p0 ((p9.getD v3.toNat ty73.dflt).1) ((p9.getD v3.toNat ty73.dflt).2)) fun y0=>cond (!y0.1) (k false) (ob (c45 p0 p1 p2 y0.2.2) fun y1=>cond (!y1) (k false) (again (.l0 v0 v2 (IntKind.wrap .i64 (v3+1)))))) none) (cond (B.le 1 p3) (cond (B.le p3 999) (ob (c71 v0 p5) fun y0=>cond (y0) (ob (c71 v0 p6) fun y1=>cond (y1) (ob (c72 p7) fun y2=>cond (y2) (ob (c45 p0 p1 p2 p8) fun y3=>cond (y3) (k (B.le (↑p9.length) 3)) (k false)) (k false)) (k false)) (k false)) (k false)) (k false))
def E43 (p0:L62) (p1:L66) (p2:L43) (p3:Int) (p4 p5 p6 p7:LB) (p8:L95) (p9:L73):S43→List AV×Objs
 | .l0 v0 v2 v3=>(mk 71 [(2,.c (.ptr 2 0)),(3,.c (.ptr 3 0)),(5,.c (.list 9 ty9 v0)),(14,.c (.list 73 ty73 p9)),(15,.c (.int .i64 v2)),(16,.c (.int .i64 v3))],[(2,.box 27 [.list 62 ty62 p0,.list 66 ty66 p1,.list 43 ty43 p2]),(3,.box 43 [.int .i64 p3,.str p4,.str p5,.str p6,.str p7,.list 95 ty95 p8,.list 73 ty73 p9])])
def I43:S43→Nat
 | .l0 _ _ _=>0
theorem eq43 {R:Type} (B:Ops) (c68:C68) (c70:C70) (c69:C69) (c45:C45) (c71:C71) (c72:C72) (p0:L62) (p1:L66) (p2:L43) (p3:Int) (p4 p5 p6 p7:LB) (p8:L95) (p9:L73) (k:AV→Objs→Option R) (n:Nat):afun tau B gl0 X43 (ent 68 (e68 c68) (ent 70 (e70 c70) (ent 69 (e69 c69) (ent 45 (e45 c45) (ent 71 (e71 c71) (ent 72 (e72 c72) gnil)))))) ow Try.f43 [.agg [.list 62 ty62 p0,.list 66 ty66 p1,.list 43 ty43 p2],.agg [.int .i64 p3,.str p4,.str p5,.str p6,.str p7,.list 95 ty95 p8,.list 73 ty73 p9]] [] k n=T43 B c68 c70 c69 c45 c71 c72 p0 p1 p2 p3 p4 p5 p6 p7 p8 p9 (fun s=>aloop tau B gl0 X43 (ent 68 (e68 c68) (ent 70 (e70 c70) (ent 69 (e69 c69) (ent 45 (e45 c45) (ent 71 (e71 c71) (ent 72 (e72 c72) gnil)))))) ow [] Try.f43 k (I43 s) (E43 p0 p1 p2 p3 p4 p5 p6 p7 p8 p9 s) n) (K2 k) none:=by kernel_rfl
theorem el43 {R:Type} (B:Ops) (c68:C68) (c70:C70) (c69:C69) (c45:C45) (c71:C71) (c72:C72) (p0:L62) (p1:L66) (p2:L43) (p3:Int) (p4 p5 p6 p7:LB) (p8:L95) (p9:L73) (k:AV→Objs→Option R) (n:Nat):∀ s,aloop tau B gl0 X43 (ent 68 (e68 c68) (ent 70 (e70 c70) (ent 69 (e69 c69) (ent 45 (e45 c45) (ent 71 (e71 c71) (ent 72 (e72 c72) gnil)))))) ow [] Try.f43 k (I43 s) (E43 p0 p1 p2 p3 p4 p5 p6 p7 p8 p9 s) (n+1)=T43 B c68 c70 c69 c45 c71 c72 p0 p1 p2 p3 p4 p5 p6 p7 p8 p9 (fun s=>aloop tau B gl0 X43 (ent 68 (e68 c68) (ent 70 (e70 c70) (ent 69 (e69 c69) (ent 45 (e45 c45) (ent 71 (e71 c71) (ent 72 (e72 c72) gnil)))))) ow [] Try.f43 k (I43 s) (E43 p0 p1 p2 p3 p4 p5 p6 p7 p8 p9 s) n) (K2 k) (some s):=by
 intro s
 cases s<;>kernel_rfl
theorem nt43 {R R':Type} (B:Ops) (c68:C68) (c70:C70) (c69:C69) (c45:C45) (c71:C71) (c72:C72) (p0:L62) (p1:L66) (p2:L43) (p3:Int) (p4 p5 p6 p7:LB) (p8:L95) (p9:L73) (again:S43→Option R) (again':S43→Option R') (k0:(Bool)→Option R') (k:R'→Option R) (h:∀ s,again s=ob (again' s) k):∀ s,T43 B c68 c70 c69 c45 c71 c72 p0 p1 p2 p3 p4 p5 p6 p7 p8 p9 again (fun y=>ob (k0 y) k) s=ob (T43 B c68 c70 c69 c45 c71 c72 p0 p1 p2 p3 p4 p5 p6 p7 p8 p9 again' k0 s) k:=by
 rintro (_ | x)
 all_goals try cases x
 all_goals (unfold T43;repeat' first | exact rfl | exact h _ | apply qab | (apply qae;intro))
def R43 (c68:C68) (c70:C70) (c69:C69) (c45:C45) (c71:C71) (c72:C72) (p0:L62) (p1:L66) (p2:L43) (p3:Int) (p4 p5 p6 p7:LB) (p8:L95) (p9:L73):Nat→S43→Option (Bool)
 | 0,_=>none
 | n+1,s=>T43 Ops.std c68 c70 c69 c45 c71 c72 p0 p1 p2 p3 p4 p5 p6 p7 p8 p9 (R43 c68 c70 c69 c45 c71 c72 p0 p1 p2 p3 p4 p5 p6 p7 p8 p9 n) some (some s)
theorem rr43 {R:Type} (c68:C68) (c70:C70) (c69:C69) (c45:C45) (c71:C71) (c72:C72) (p0:L62) (p1:L66) (p2:L43) (p3:Int) (p4 p5 p6 p7:LB) (p8:L95) (p9:L73) (k:AV→Objs→Option R):∀ (n:Nat) (s:S43),aloop tau Ops.std gl0 X43 (ent 68 (e68 c68) (ent 70 (e70 c70) (ent 69 (e69 c69) (ent 45 (e45 c45) (ent 71 (e71 c71) (ent 72 (e72 c72) gnil)))))) ow [] Try.f43 k (I43 s) (E43 p0 p1 p2 p3 p4 p5 p6 p7 p8 p9 s) n=ob (R43 c68 c70 c69 c45 c71 c72 p0 p1 p2 p3 p4 p5 p6 p7 p8 p9 n s) (K2 k)
 | 0,s=>by cases s<;>rfl
 | n+1,s=>by rw [el43];exact nt43 Ops.std c68 c70 c69 c45 c71 c72 p0 p1 p2 p3 p4 p5 p6 p7 p8 p9 _ _ some (K2 k) (rr43 c68 c70 c69 c45 c71 c72 p0 p1 p2 p3 p4 p5 p6 p7 p8 p9 k n) (some s)
def F43 (c68:C68) (c70:C70) (c69:C69) (c45:C45) (c71:C71) (c72:C72) (p0:L62) (p1:L66) (p2:L43) (p3:Int) (p4 p5 p6 p7:LB) (p8:L95) (p9:L73):Option (Bool):=T43 Ops.std c68 c70 c69 c45 c71 c72 p0 p1 p2 p3 p4 p5 p6 p7 p8 p9 (R43 c68 c70 c69 c45 c71 c72 p0 p1 p2 p3 p4 p5 p6 p7 p8 p9 1000000) some none
abbrev C43:Type:=L62→L66→L43→Int→LB→LB→LB→LB→L95→L73→Option (Bool)
def e43 {R:Type} (c:C43):Ent R:=eG [.aG [.cL 62 ty62,.cL 66 ty66,.cL 43 ty43],.aG [.cI .i64,.cS,.cS,.cS,.cS,.cL 95 ty95,.cL 73 ty73]] [] fun v k=>ob (c v.1 v.2.1 v.2.2.1 v.2.2.2.1 v.2.2.2.2.1 v.2.2.2.2.2.1 v.2.2.2.2.2.2.1 v.2.2.2.2.2.2.2.1 v.2.2.2.2.2.2.2.2.1 v.2.2.2.2.2.2.2.2.2.1) (K2 k)
abbrev Sp43 (c:C43):Prop:=∀ (p0:L62) (p1:L66) (p2:L43) (p3:Int) (p4 p5 p6 p7:LB) (p8:L95) (p9:L73) (y:Bool),c p0 p1 p2 p3 p4 p5 p6 p7 p8 p9=some y→Spec Try.prog gl0 43 [.agg [.list 62 ty62 p0,.list 66 ty66 p1,.list 43 ty43 p2],.agg [.int .i64 p3,.str p4,.str p5,.str p6,.str p7,.list 95 ty95 p8,.list 73 ty73 p9]] [] (.c (.bool y)) []
theorem ek43 {R:Type} {c:C43} (hs:Sp43 c):EOk 43 (e43 (R:=R) c):=qag fun v=>hs v.1 v.2.1 v.2.2.1 v.2.2.2.1 v.2.2.2.2.1 v.2.2.2.2.2.1 v.2.2.2.2.2.2.1 v.2.2.2.2.2.2.2.1 v.2.2.2.2.2.2.2.2.1 v.2.2.2.2.2.2.2.2.2.1
theorem sf43 {c68:C68} {c70:C70} {c69:C69} {c45:C45} {c71:C71} {c72:C72} (h68:Sp68 c68) (h70:Sp70 c70) (h69:Sp69 c69) (h45:Sp45 c45) (h71:Sp71 c71) (h72:Sp72 c72):Sp43 (F43 c68 c70 c69 c45 c71 c72):=fun p0 p1 p2 p3 p4 p5 p6 p7 p8 p9 y hy=>by
 refine qad (qaa (ek68 h68) (qaa (ek70 h70) (qaa (ek69 h69) (qaa (ek45 h45) (qaa (ek71 h71) (qaa (ek72 h72) qac)))))) 1000000 (fn:=Try.f43) (by kernel_rfl) (by kernel_rfl) (X:=X43) (by kernel_rfl) ?_
 rw [eq43]
 exact (nt43 Ops.std c68 c70 c69 c45 c71 c72 p0 p1 p2 p3 p4 p5 p6 p7 p8 p9 _ _ some (K2 k0) (rr43 c68 c70 c69 c45 c71 c72 p0 p1 p2 p3 p4 p5 p6 p7 p8 p9 k0 1000000) none).trans (by show ob (F43 c68 c70 c69 c45 c71 c72 p0 p1 p2 p3 p4 p5 p6 p7 p8 p9) _=_;rw [hy];rfl)
noncomputable def M43:C43:=F43 M68 M70 M69 M45 M71 M72
theorem sm43:Sp43 M43:=sf43 sm68 sm70 sm69 sm45 sm71 sm72
def X73:Aux:=⟨[],[]⟩
def T73 {R:Type} (B:Ops) (p0:LB) (p1 p2 p3:Int) (k:(Bool)→Option R):Option R:=cond (B.le (-999) p1) (cond (B.le p1 p3) (cond (B.le p3 p2) (k (B.le p2 999)) (k false)) (k false)) (k false)
theorem eq73 {R:Type} (B:Ops) (p0:LB) (p1 p2 p3:Int) (k:AV→Objs→Option R) (n:Nat):afun tau B gl0 X73 gnil ow Try.f73 [.agg [.str p0,.int .i64 p1,.int .i64 p2,.int .i64 p3]] [] k n=T73 B p0 p1 p2 p3 (K2 k):=by kernel_rfl
theorem nt73 {R R':Type} (B:Ops) (p0:LB) (p1 p2 p3:Int) (k0:(Bool)→Option R') (k:R'→Option R):T73 B p0 p1 p2 p3 (fun y=>ob (k0 y) k)=ob (T73 B p0 p1 p2 p3 k0) k:=by
 unfold T73
 repeat' first | exact rfl | apply qab | (apply qae;intro)
def F73 (p0:LB) (p1 p2 p3:Int):Option (Bool):=T73 Ops.std p0 p1 p2 p3 some
abbrev C73:Type:=LB→Int→Int→Int→Option (Bool)
def e73 {R:Type} (c:C73):Ent R:=eG [.aG [.cS,.cI .i64,.cI .i64,.cI .i64]] [] fun v k=>ob (c v.1 v.2.1 v.2.2.1 v.2.2.2.1) (K2 k)
abbrev Sp73 (c:C73):Prop:=∀ (p0:LB) (p1 p2 p3:Int) (y:Bool),c p0 p1 p2 p3=some y→Spec Try.prog gl0 73 [.agg [.str p0,.int .i64 p1,.int .i64 p2,.int .i64 p3]] [] (.c (.bool y)) []
theorem ek73 {R:Type} {c:C73} (hs:Sp73 c):EOk 73 (e73 (R:=R) c):=qag fun v=>hs v.1 v.2.1 v.2.2.1 v.2.2.2.1
theorem sf73:Sp73 (F73):=fun p0 p1 p2 p3 y hy=>by
 refine qad qac 1000000 (fn:=Try.f73) (by kernel_rfl) (by kernel_rfl) (X:=X73) (by kernel_rfl) ?_
 rw [eq73]
 exact (nt73 Ops.std p0 p1 p2 p3 some (K2 k0)).trans (by show ob (F73 p0 p1 p2 p3) _=_;rw [hy];rfl)
noncomputable def M73:C73:=F73
theorem sm73:Sp73 M73:=sf73
def X74:Aux:=⟨[(3,([0,1,2,4,5,6]++rg 10 14))],[]⟩
inductive S74 where
 | l0 (v1 v2:Int) (v3:List (LB×Bool))
def T74 {R:Type} (B:Ops) (c84:C84) (p0:L9) (again:S74→Option R) (k:(Bool)→Option R):Option S74→Option R | none=>again (.l0 (↑p0.length) 0 (mt (Ty.den Ty.str×Ty.den Ty.bool))) | some (.l0 v1 v2 v3)=>cond (B.lt v2 v1) (cond (B.inb v2 p0.length) (ob (c84 (p0.getD v2.toNat ty9.dflt)) fun y0=>cond (!y0) (k false) (cond (Option.getD (mget Ty.str v3 (p0.getD v2.toNat ty9.dflt)) (Ty.dflt Ty.bool)) (k false) (again (.l0 v1 (IntKind.wrap .i64 (v2+1)) (mput Ty.str v3 (p0.getD v2.toNat ty9.dflt) true))))) none) (k true)
def E74 (p0:L9):S74→List AV×Objs
 | .l0 v1 v2 v3=>(mk 24 [(3,.c (.own 3)),(7,.c (.list 9 ty9 p0)),(8,.c (.int .i64 v1)),(9,.c (.int .i64 v2))],[(3,.mp 133 .str .bool v3)])
def I74:S74→Nat
 | .l0 _ _ _=>0
theorem eq74 {R:Type} (B:Ops) (c84:C84) (p0:L9) (k:AV→Objs→Option R) (n:Nat):afun tau B gl0 X74 (ent 84 (e84 c84) gnil) ow Try.f74 [.c (.list 9 ty9 p0)] [] k n=T74 B c84 p0 (fun s=>aloop tau B gl0 X74 (ent 84 (e84 c84) gnil) ow [] Try.f74 k (I74 s) (E74 p0 s) n) (K2 k) none:=by kernel_rfl
theorem el74 {R:Type} (B:Ops) (c84:C84) (p0:L9) (k:AV→Objs→Option R) (n:Nat):∀ s,aloop tau B gl0 X74 (ent 84 (e84 c84) gnil) ow [] Try.f74 k (I74 s) (E74 p0 s) (n+1)=T74 B c84 p0 (fun s=>aloop tau B gl0 X74 (ent 84 (e84 c84) gnil) ow [] Try.f74 k (I74 s) (E74 p0 s) n) (K2 k) (some s):=by
 intro s
 cases s<;>kernel_rfl
theorem nt74 {R R':Type} (B:Ops) (c84:C84) (p0:L9) (again:S74→Option R) (again':S74→Option R') (k0:(Bool)→Option R') (k:R'→Option R) (h:∀ s,again s=ob (again' s) k):∀ s,T74 B c84 p0 again (fun y=>ob (k0 y) k) s=ob (T74 B c84 p0 again' k0 s) k:=by
 rintro (_ | x)
 all_goals try cases x
 all_goals (unfold T74;repeat' first | exact rfl | exact h _ | apply qab | (apply qae;intro))
def R74 (c84:C84) (p0:L9):Nat→S74→Option (Bool)
 | 0,_=>none
 | n+1,s=>T74 Ops.std c84 p0 (R74 c84 p0 n) some (some s)
theorem rr74 {R:Type} (c84:C84) (p0:L9) (k:AV→Objs→Option R):∀ (n:Nat) (s:S74),aloop tau Ops.std gl0 X74 (ent 84 (e84 c84) gnil) ow [] Try.f74 k (I74 s) (E74 p0 s) n=ob (R74 c84 p0 n s) (K2 k)
 | 0,s=>by cases s<;>rfl
 | n+1,s=>by rw [el74];exact nt74 Ops.std c84 p0 _ _ some (K2 k) (rr74 c84 p0 k n) (some s)
def F74 (c84:C84) (p0:L9):Option (Bool):=T74 Ops.std c84 p0 (R74 c84 p0 1000000) some none
abbrev C74:Type:=L9→Option (Bool)
def e74 {R:Type} (c:C74):Ent R:=eG [.aC (.cL 9 ty9)] [] fun v k=>ob (c v.1) (K2 k)
abbrev Sp74 (c:C74):Prop:=∀ (p0:L9) (y:Bool),c p0=some y→Spec Try.prog gl0 74 [.c (.list 9 ty9 p0)] [] (.c (.bool y)) []
theorem ek74 {R:Type} {c:C74} (hs:Sp74 c):EOk 74 (e74 (R:=R) c):=qag fun v=>hs v.1
theorem sf74 {c84:C84} (h84:Sp84 c84):Sp74 (F74 c84):=fun p0 y hy=>by
 refine qad (qaa (ek84 h84) qac) 1000000 (fn:=Try.f74) (by kernel_rfl) (by kernel_rfl) (X:=X74) (by kernel_rfl) ?_
 rw [eq74]
 exact (nt74 Ops.std c84 p0 _ _ some (K2 k0) (rr74 c84 p0 k0 1000000) none).trans (by show ob (F74 c84 p0) _=_;rw [hy];rfl)
noncomputable def M74:C74:=F74 M84
theorem sm74:Sp74 M74:=sf74 sm84
def X44:Aux:=⟨[(3,([0,2,5,6,7,8,9]++rg 13 62)),(10,([0,1,2]++rg 5 21++rg 29 46))],[]⟩
inductive S44 where
 | l0 (v1 v2:Int) (v6:L9)
 | l1 (v1 v2:Int) (v3 v4:L9)
def T44 {R:Type} (B:Ops) (c73:C73) (c74:C74) (p0:L62) (p1:L66) (p2:L43) (again:S44→Option R) (k:(Bool)→Option R):Option S44→Option R | none=>again (.l0 (↑p0.length) 0 (mt (Ty.den Ty.str))) | some (.l0 v1 v2 v6)=>cond (B.lt v2 v1) (cond (B.inb v2 p0.length) (ob (c73 ((p0.getD v2.toNat ty62.dflt).1) (((p0.getD v2.toNat ty62.dflt).2).1) ((((p0.getD v2.toNat ty62.dflt).2).2).1) ((((p0.getD v2.toNat ty62.dflt).2).2).2)) fun y0=>cond (!y0) (k false) (cond (B.lim (List.length v6+List.length ((p0.getD v2.toNat ty62.dflt).1::mt (Ty.den Ty.str))) 16) (again (.l0 v1 (IntKind.wrap .i64 (v2+1)) (v6++(p0.getD v2.toNat ty62.dflt).1::mt (Ty.den Ty.str)))) none)) none) (again (.l1 (↑p1.length) 0 v6 ((mt (Ty.den Ty.str))))) | some (.l1 v1 v2 v3 v4)=>cond (B.lt v2 v1) (cond (B.inb v2 p1.length) (cond (B.lt (Nat.cast (List.length ((p1.getD v2.toNat ty66.dflt).2))) 1) (k false) (cond (B.lt 6 (Nat.cast (List.length ((p1.getD v2.toNat ty66.dflt).2)))) (k false) (ob (c74 ((p1.getD v2.toNat ty66.dflt).2)) fun y0=>cond (!y0) (k false) (cond (B.lim (List.length v4+List.length ((p1.getD v2.toNat ty66.dflt).1::mt (Ty.den Ty.str))) 16) (again (.l1 v1 (IntKind.wrap .i64 (v2+1)) v3 (v4++(p1.getD v2.toNat ty66.dflt).1::mt (Ty.den Ty.str)))) none)))) none) (cond (B.le (↑v3.length) 4) (ob (c74 v3) fun y0=>cond (y0) (cond (B.le 1 (↑v4.length)) (cond (B.le (↑v4.length) 3) (ob (c74 v4) fun y1=>k y1) (k false)) (k false)) (k false)) (k false))
def E44 (p0:L62) (p1:L66) (p2:L43):S44→List AV×Objs
 | .l0 v1 v2 v6=>(mk 75 [(1,.c (.ptr 1 0)),(3,.c (.own 3)),(4,.c (.own 4)),(10,.c (.list 62 ty62 p0)),(11,.c (.int .i64 v1)),(12,.c (.int .i64 v2))],[(1,.box 27 [.list 62 ty62 p0,.list 66 ty66 p1,.list 43 ty43 p2]),(3,.row 9 ty9 v6),(4,.row 9 ty9 (mt (Ty.den Ty.str)))])
 | .l1 v1 v2 v3 v4=>(mk 75 [(3,.c (.own 3)),(4,.c (.own 4)),(26,.c (.list 66 ty66 p1)),(27,.c (.int .i64 v1)),(28,.c (.int .i64 v2))],[(3,.row 9 ty9 v3),(4,.row 9 ty9 v4)])
def I44:S44→Nat
 | .l0 _ _ _=>0
 | .l1 _ _ _ _=>1
theorem eq44 {R:Type} (B:Ops) (c73:C73) (c74:C74) (p0:L62) (p1:L66) (p2:L43) (k:AV→Objs→Option R) (n:Nat):afun tau B gl0 X44 (ent 73 (e73 c73) (ent 74 (e74 c74) gnil)) ow Try.f44 [.agg [.list 62 ty62 p0,.list 66 ty66 p1,.list 43 ty43 p2]] [] k n=T44 B c73 c74 p0 p1 p2 (fun s=>aloop tau B gl0 X44 (ent 73 (e73 c73) (ent 74 (e74 c74) gnil)) ow [] Try.f44 k (I44 s) (E44 p0 p1 p2 s) n) (K2 k) none:=by kernel_rfl
theorem el44 {R:Type} (B:Ops) (c73:C73) (c74:C74) (p0:L62) (p1:L66) (p2:L43) (k:AV→Objs→Option R) (n:Nat):∀ s,aloop tau B gl0 X44 (ent 73 (e73 c73) (ent 74 (e74 c74) gnil)) ow [] Try.f44 k (I44 s) (E44 p0 p1 p2 s) (n+1)=T44 B c73 c74 p0 p1 p2 (fun s=>aloop tau B gl0 X44 (ent 73 (e73 c73) (ent 74 (e74 c74) gnil)) ow [] Try.f44 k (I44 s) (E44 p0 p1 p2 s) n) (K2 k) (some s):=by
 intro s
 cases s<;>kernel_rfl
theorem nt44 {R R':Type} (B:Ops) (c73:C73) (c74:C74) (p0:L62) (p1:L66) (p2:L43) (again:S44→Option R) (again':S44→Option R') (k0:(Bool)→Option R') (k:R'→Option R) (h:∀ s,again s=ob (again' s) k):∀ s,T44 B c73 c74 p0 p1 p2 again (fun y=>ob (k0 y) k) s=ob (T44 B c73 c74 p0 p1 p2 again' k0 s) k:=by
 rintro (_ | x)
 all_goals try cases x
 all_goals (unfold T44;repeat' first | exact rfl | exact h _ | apply qab | (apply qae;intro))
def R44 (c73:C73) (c74:C74) (p0:L62) (p1:L66) (p2:L43):Nat→S44→Option (Bool)
 | 0,_=>none
 | n+1,s=>T44 Ops.std c73 c74 p0 p1 p2 (R44 c73 c74 p0 p1 p2 n) some (some s)
theorem rr44 {R:Type} (c73:C73) (c74:C74) (p0:L62) (p1:L66) (p2:L43) (k:AV→Objs→Option R):∀ (n:Nat) (s:S44),aloop tau Ops.std gl0 X44 (ent 73 (e73 c73) (ent 74 (e74 c74) gnil)) ow [] Try.f44 k (I44 s) (E44 p0 p1 p2 s) n=ob (R44 c73 c74 p0 p1 p2 n s) (K2 k)
 | 0,s=>by cases s<;>rfl
 | n+1,s=>by rw [el44];exact nt44 Ops.std c73 c74 p0 p1 p2 _ _ some (K2 k) (rr44 c73 c74 p0 p1 p2 k n) (some s)
def F44 (c73:C73) (c74:C74) (p0:L62) (p1:L66) (p2:L43):Option (Bool):=T44 Ops.std c73 c74 p0 p1 p2 (R44 c73 c74 p0 p1 p2 1000000) some none
abbrev C44:Type:=L62→L66→L43→Option (Bool)
def e44 {R:Type} (c:C44):Ent R:=eG [.aG [.cL 62 ty62,.cL 66 ty66,.cL 43 ty43]] [] fun v k=>ob (c v.1 v.2.1 v.2.2.1) (K2 k)
abbrev Sp44 (c:C44):Prop:=∀ (p0:L62) (p1:L66) (p2:L43) (y:Bool),c p0 p1 p2=some y→Spec Try.prog gl0 44 [.agg [.list 62 ty62 p0,.list 66 ty66 p1,.list 43 ty43 p2]] [] (.c (.bool y)) []
theorem ek44 {R:Type} {c:C44} (hs:Sp44 c):EOk 44 (e44 (R:=R) c):=qag fun v=>hs v.1 v.2.1 v.2.2.1
theorem sf44 {c73:C73} {c74:C74} (h73:Sp73 c73) (h74:Sp74 c74):Sp44 (F44 c73 c74):=fun p0 p1 p2 y hy=>by
 refine qad (qaa (ek73 h73) (qaa (ek74 h74) qac)) 1000000 (fn:=Try.f44) (by kernel_rfl) (by kernel_rfl) (X:=X44) (by kernel_rfl) ?_
 rw [eq44]
 exact (nt44 Ops.std c73 c74 p0 p1 p2 _ _ some (K2 k0) (rr44 c73 c74 p0 p1 p2 k0 1000000) none).trans (by show ob (F44 c73 c74 p0 p1 p2) _=_;rw [hy];rfl)
noncomputable def M44:C44:=F44 M73 M74
theorem sm44:Sp44 M44:=sf44 sm73 sm74
def X26:Aux:=⟨[(2,([0,2,3,4,5]++rg 9 33))],[(4,.lin (rg 0 20))]⟩
inductive S26 where
 | l0 (v1 v2:Int)
def T26 {R:Type} (B:Ops) (c43:C43) (c44:C44) (p0:L62) (p1:L66) (p2:L43) (again:S26→Option R) (k:(Bool)→Option R):Option S26→Option R | none=>again (.l0 (↑p2.length) 0) | some (.l0 v1 v2)=>cond (B.lt v2 v1) (cond (B.inb v2 p2.length) (ob (c43 p0 p1 p2 ((p2.getD v2.toNat ty43.dflt).1) (((p2.getD v2.toNat ty43.dflt).2).1) ((((p2.getD v2.toNat ty43.dflt).2).2).1) (((((p2.getD v2.toNat ty43.dflt).2).2).2).1) ((((((p2.getD v2.toNat ty43.dflt).2).2).2).2).1) (Prod.fst ((((((p2.getD v2.toNat ty43.dflt).2).2).2).2).2)) (Prod.snd ((((((p2.getD v2.toNat ty43.dflt).2).2).2).2).2))) fun y0=>cond (!y0) (k false) (cond (B.lt 0 v2) (cond (B.inb (IntKind.wrap .i64 (v2-1)) p2.length) (cond (B.le ((p2.getD v2.toNat ty43.dflt).1) ((p2.getD (Int.toNat (IntKind.wrap .i64 (v2-1))) ty43.dflt).1)) (k false) (again (.l0 v1 (IntKind.wrap .i64 (v2+1))))) none) (again (.l0 v1 (IntKind.wrap .i64 (v2+1)))))) none) (ob (c44 p0 p1 p2) fun y0=>cond (y0) (k (B.le (↑p2.length) 16)) (k false))
def E26 (p0:L62) (p1:L66) (p2:L43):S26→List AV×Objs
 | .l0 v1 v2=>(mk 42 [(1,.c (.ptr 1 0)),(6,.c (.list 43 ty43 p2)),(7,.c (.int .i64 v1)),(8,.c (.int .i64 v2))],[(1,.box 27 [.list 62 ty62 p0,.list 66 ty66 p1,.list 43 ty43 p2])])
def I26:S26→Nat
 | .l0 _ _=>0
theorem eq26 {R:Type} (B:Ops) (c43:C43) (c44:C44) (p0:L62) (p1:L66) (p2:L43) (k:AV→Objs→Option R) (n:Nat):afun tau B gl0 X26 (ent 43 (e43 c43) (ent 44 (e44 c44) gnil)) ow Try.f26 [.agg [.list 62 ty62 p0,.list 66 ty66 p1,.list 43 ty43 p2]] [] k n=T26 B c43 c44 p0 p1 p2 (fun s=>aloop tau B gl0 X26 (ent 43 (e43 c43) (ent 44 (e44 c44) gnil)) ow [] Try.f26 k (I26 s) (E26 p0 p1 p2 s) n) (K2 k) none:=by kernel_rfl
theorem el26 {R:Type} (B:Ops) (c43:C43) (c44:C44) (p0:L62) (p1:L66) (p2:L43) (k:AV→Objs→Option R) (n:Nat):∀ s,aloop tau B gl0 X26 (ent 43 (e43 c43) (ent 44 (e44 c44) gnil)) ow [] Try.f26 k (I26 s) (E26 p0 p1 p2 s) (n+1)=T26 B c43 c44 p0 p1 p2 (fun s=>aloop tau B gl0 X26 (ent 43 (e43 c43) (ent 44 (e44 c44) gnil)) ow [] Try.f26 k (I26 s) (E26 p0 p1 p2 s) n) (K2 k) (some s):=by
 intro s
 cases s<;>kernel_rfl
theorem nt26 {R R':Type} (B:Ops) (c43:C43) (c44:C44) (p0:L62) (p1:L66) (p2:L43) (again:S26→Option R) (again':S26→Option R') (k0:(Bool)→Option R') (k:R'→Option R) (h:∀ s,again s=ob (again' s) k):∀ s,T26 B c43 c44 p0 p1 p2 again (fun y=>ob (k0 y) k) s=ob (T26 B c43 c44 p0 p1 p2 again' k0 s) k:=by
 rintro (_ | x)
 all_goals try cases x
 all_goals (unfold T26;repeat' first | exact rfl | exact h _ | apply qab | (apply qae;intro))
def R26 (c43:C43) (c44:C44) (p0:L62) (p1:L66) (p2:L43):Nat→S26→Option (Bool)
 | 0,_=>none
 | n+1,s=>T26 Ops.std c43 c44 p0 p1 p2 (R26 c43 c44 p0 p1 p2 n) some (some s)
theorem rr26 {R:Type} (c43:C43) (c44:C44) (p0:L62) (p1:L66) (p2:L43) (k:AV→Objs→Option R):∀ (n:Nat) (s:S26),aloop tau Ops.std gl0 X26 (ent 43 (e43 c43) (ent 44 (e44 c44) gnil)) ow [] Try.f26 k (I26 s) (E26 p0 p1 p2 s) n=ob (R26 c43 c44 p0 p1 p2 n s) (K2 k)
 | 0,s=>by cases s<;>rfl
 | n+1,s=>by rw [el26];exact nt26 Ops.std c43 c44 p0 p1 p2 _ _ some (K2 k) (rr26 c43 c44 p0 p1 p2 k n) (some s)
def F26 (c43:C43) (c44:C44) (p0:L62) (p1:L66) (p2:L43):Option (Bool):=T26 Ops.std c43 c44 p0 p1 p2 (R26 c43 c44 p0 p1 p2 1000000) some none
abbrev C26:Type:=L62→L66→L43→Option (Bool)
def e26 {R:Type} (c:C26):Ent R:=eG [.aG [.cL 62 ty62,.cL 66 ty66,.cL 43 ty43]] [] fun v k=>ob (c v.1 v.2.1 v.2.2.1) (K2 k)
abbrev Sp26 (c:C26):Prop:=∀ (p0:L62) (p1:L66) (p2:L43) (y:Bool),c p0 p1 p2=some y→Spec Try.prog gl0 26 [.agg [.list 62 ty62 p0,.list 66 ty66 p1,.list 43 ty43 p2]] [] (.c (.bool y)) []
theorem ek26 {R:Type} {c:C26} (hs:Sp26 c):EOk 26 (e26 (R:=R) c):=qag fun v=>hs v.1 v.2.1 v.2.2.1
theorem sf26 {c43:C43} {c44:C44} (h43:Sp43 c43) (h44:Sp44 c44):Sp26 (F26 c43 c44):=fun p0 p1 p2 y hy=>by
 refine qad (qaa (ek43 h43) (qaa (ek44 h44) qac)) 1000000 (fn:=Try.f26) (by kernel_rfl) (by kernel_rfl) (X:=X26) (by kernel_rfl) ?_
 rw [eq26]
 exact (nt26 Ops.std c43 c44 p0 p1 p2 _ _ some (K2 k0) (rr26 c43 c44 p0 p1 p2 k0 1000000) none).trans (by show ob (F26 c43 c44 p0 p1 p2) _=_;rw [hy];rfl)
noncomputable def M26:C26:=F26 M43 M44
theorem sm26:Sp26 M26:=sf26 sm43 sm44
def X13:Aux:=⟨[(4,([0,1]++rg 4 27++rg 34 49)),(10,([0,1,2]++rg 4 53++rg 60 23))],[(6,.lin (rg 0 17)),(12,.lin (rg 0 18))]⟩
inductive S13 where
 | l0 (v1 v2:Int)
 | l1 (v1 v2:Int)
def T13 {R:Type} (B:Ops) (c26:C26) (p0:L62) (p1:L66) (p2:L43) (p3 p4:L3) (again:S13→Option R) (k:(Bool)→Option R):Option S13→Option R | none=>ob (c26 p0 p1 p2) fun y0=>cond (!y0) (k false) (cond (!B.eq (↑p3.length) (↑p1.length)) (k false) (cond (!B.eq (↑p4.length) (↑p0.length)) (k false) (again (.l0 (↑p1.length) 0)))) | some (.l0 v1 v2)=>cond (B.lt v2 v1) (cond (B.inb v2 p1.length) (cond (B.inb v2 p3.length) (cond (B.lt (p3.getD v2.toNat ty3.dflt) 0) (k false) (cond (B.inb v2 p3.length) (cond (B.le (Nat.cast (List.length ((p1.getD v2.toNat ty66.dflt).2))) (p3.getD v2.toNat ty3.dflt)) (k false) (again (.l0 v1 (IntKind.wrap .i64 (v2+1))))) none)) none) none) (again (.l1 (↑p0.length) 0)) | some (.l1 v1 v2)=>cond (B.lt v2 v1) (cond (B.inb v2 p0.length) (cond (B.inb v2 p4.length) (cond (B.lt (p4.getD v2.toNat ty3.dflt) (((p0.getD v2.toNat ty62.dflt).2).1)) (k false) (cond (B.inb v2 p4.length) (cond (B.lt ((((p0.getD v2.toNat ty62.dflt).2).2).1) (p4.getD v2.toNat ty3.dflt)) (k false) (again (.l1 v1 (IntKind.wrap .i64 (v2+1))))) none)) none) none) (k true)
def E13 (p0:L62) (p1:L66) (p2:L43) (p3 p4:L3):S13→List AV×Objs
 | .l0 v1 v2=>(mk 83 [(2,.c (.ptr 2 0)),(3,.c (.ptr 3 0)),(31,.c (.list 66 ty66 p1)),(32,.c (.int .i64 v1)),(33,.c (.int .i64 v2))],[(2,.box 27 [.list 62 ty62 p0,.list 66 ty66 p1,.list 43 ty43 p2]),(3,.box 31 [.list 3 ty3 p3,.list 3 ty3 p4])])
 | .l1 v1 v2=>(mk 83 [(3,.c (.ptr 3 0)),(57,.c (.list 62 ty62 p0)),(58,.c (.int .i64 v1)),(59,.c (.int .i64 v2))],[(3,.box 31 [.list 3 ty3 p3,.list 3 ty3 p4])])
def I13:S13→Nat
 | .l0 _ _=>0
 | .l1 _ _=>1
theorem eq13 {R:Type} (B:Ops) (c26:C26) (p0:L62) (p1:L66) (p2:L43) (p3 p4:L3) (k:AV→Objs→Option R) (n:Nat):afun tau B gl0 X13 (ent 26 (e26 c26) gnil) ow Try.f13 [.agg [.list 62 ty62 p0,.list 66 ty66 p1,.list 43 ty43 p2],.agg [.list 3 ty3 p3,.list 3 ty3 p4]] [] k n=T13 B c26 p0 p1 p2 p3 p4 (fun s=>aloop tau B gl0 X13 (ent 26 (e26 c26) gnil) ow [] Try.f13 k (I13 s) (E13 p0 p1 p2 p3 p4 s) n) (K2 k) none:=by kernel_rfl
theorem el13 {R:Type} (B:Ops) (c26:C26) (p0:L62) (p1:L66) (p2:L43) (p3 p4:L3) (k:AV→Objs→Option R) (n:Nat):∀ s,aloop tau B gl0 X13 (ent 26 (e26 c26) gnil) ow [] Try.f13 k (I13 s) (E13 p0 p1 p2 p3 p4 s) (n+1)=T13 B c26 p0 p1 p2 p3 p4 (fun s=>aloop tau B gl0 X13 (ent 26 (e26 c26) gnil) ow [] Try.f13 k (I13 s) (E13 p0 p1 p2 p3 p4 s) n) (K2 k) (some s):=by
 intro s
 cases s<;>kernel_rfl
theorem nt13 {R R':Type} (B:Ops) (c26:C26) (p0:L62) (p1:L66) (p2:L43) (p3 p4:L3) (again:S13→Option R) (again':S13→Option R') (k0:(Bool)→Option R') (k:R'→Option R) (h:∀ s,again s=ob (again' s) k):∀ s,T13 B c26 p0 p1 p2 p3 p4 again (fun y=>ob (k0 y) k) s=ob (T13 B c26 p0 p1 p2 p3 p4 again' k0 s) k:=by
 rintro (_ | x)
 all_goals try cases x
 all_goals (unfold T13;repeat' first | exact rfl | exact h _ | apply qab | (apply qae;intro))
def R13 (c26:C26) (p0:L62) (p1:L66) (p2:L43) (p3 p4:L3):Nat→S13→Option (Bool)
 | 0,_=>none
 | n+1,s=>T13 Ops.std c26 p0 p1 p2 p3 p4 (R13 c26 p0 p1 p2 p3 p4 n) some (some s)
theorem rr13 {R:Type} (c26:C26) (p0:L62) (p1:L66) (p2:L43) (p3 p4:L3) (k:AV→Objs→Option R):∀ (n:Nat) (s:S13),aloop tau Ops.std gl0 X13 (ent 26 (e26 c26) gnil) ow [] Try.f13 k (I13 s) (E13 p0 p1 p2 p3 p4 s) n=ob (R13 c26 p0 p1 p2 p3 p4 n s) (K2 k)
 | 0,s=>by cases s<;>rfl
 | n+1,s=>by rw [el13];exact nt13 Ops.std c26 p0 p1 p2 p3 p4 _ _ some (K2 k) (rr13 c26 p0 p1 p2 p3 p4 k n) (some s)
def F13 (c26:C26) (p0:L62) (p1:L66) (p2:L43) (p3 p4:L3):Option (Bool):=T13 Ops.std c26 p0 p1 p2 p3 p4 (R13 c26 p0 p1 p2 p3 p4 1000000) some none
abbrev C13:Type:=L62→L66→L43→L3→L3→Option (Bool)
def e13 {R:Type} (c:C13):Ent R:=eG [.aG [.cL 62 ty62,.cL 66 ty66,.cL 43 ty43],.aG [.cL 3 ty3,.cL 3 ty3]] [] fun v k=>ob (c v.1 v.2.1 v.2.2.1 v.2.2.2.1 v.2.2.2.2.1) (K2 k)
abbrev Sp13 (c:C13):Prop:=∀ (p0:L62) (p1:L66) (p2:L43) (p3 p4:L3) (y:Bool),c p0 p1 p2 p3 p4=some y→Spec Try.prog gl0 13 [.agg [.list 62 ty62 p0,.list 66 ty66 p1,.list 43 ty43 p2],.agg [.list 3 ty3 p3,.list 3 ty3 p4]] [] (.c (.bool y)) []
theorem ek13 {R:Type} {c:C13} (hs:Sp13 c):EOk 13 (e13 (R:=R) c):=qag fun v=>hs v.1 v.2.1 v.2.2.1 v.2.2.2.1 v.2.2.2.2.1
theorem sf13 {c26:C26} (h26:Sp26 c26):Sp13 (F13 c26):=fun p0 p1 p2 p3 p4 y hy=>by
 refine qad (qaa (ek26 h26) qac) 1000000 (fn:=Try.f13) (by kernel_rfl) (by kernel_rfl) (X:=X13) (by kernel_rfl) ?_
 rw [eq13]
 exact (nt13 Ops.std c26 p0 p1 p2 p3 p4 _ _ some (K2 k0) (rr13 c26 p0 p1 p2 p3 p4 k0 1000000) none).trans (by show ob (F13 c26 p0 p1 p2 p3 p4) _=_;rw [hy];rfl)
noncomputable def M13:C13:=F13 M26
theorem sm13:Sp13 M13:=sf13 sm26
def X53:Aux:=⟨[],[]⟩
def T53 {R:Type} (B:Ops) (p0:LB) (p1:L9) (p2:Int) (p3 p4 p5 p6:LB) (p7:L95) (p8:L73) (k:(Bool×Int×LB×LB×LB×LB×L95×L73)→Option R):Option R:=k (p0 == p3,p2,p3,p4,p5,p6,p7,p8)
abbrev K18 {R:Type} (k:AV→Objs→Option R) (y:(Bool×Int×LB×LB×LB×LB×L95×L73)):Option R:=k (.c (.bool y.1)) [(1,.box 43 [.int .i64 y.2.1,.str y.2.2.1,.str y.2.2.2.1,.str y.2.2.2.2.1,.str y.2.2.2.2.2.1,.list 95 ty95 y.2.2.2.2.2.2.1,.list 73 ty73 y.2.2.2.2.2.2.2])]
theorem eq53 {R:Type} (B:Ops) (p0:LB) (p1:L9) (p2:Int) (p3 p4 p5 p6:LB) (p7:L95) (p8:L73) (k:AV→Objs→Option R) (n:Nat):afun tau B gl0 X53 gnil ow Try.f53 [.agg [.str p0,.list 9 ty9 p1],.c (.ptr 1 0)] [(1,.box 43 [.int .i64 p2,.str p3,.str p4,.str p5,.str p6,.list 95 ty95 p7,.list 73 ty73 p8])] k n=T53 B p0 p1 p2 p3 p4 p5 p6 p7 p8 (K18 k):=by kernel_rfl
theorem nt53 {R R':Type} (B:Ops) (p0:LB) (p1:L9) (p2:Int) (p3 p4 p5 p6:LB) (p7:L95) (p8:L73) (k0:(Bool×Int×LB×LB×LB×LB×L95×L73)→Option R') (k:R'→Option R):T53 B p0 p1 p2 p3 p4 p5 p6 p7 p8 (fun y=>ob (k0 y) k)=ob (T53 B p0 p1 p2 p3 p4 p5 p6 p7 p8 k0) k:=by
 unfold T53
 repeat' first | exact rfl | apply qab | (apply qae;intro)
def F53 (p0:LB) (p1:L9) (p2:Int) (p3 p4 p5 p6:LB) (p7:L95) (p8:L73):Option (Bool×Int×LB×LB×LB×LB×L95×L73):=T53 Ops.std p0 p1 p2 p3 p4 p5 p6 p7 p8 some
abbrev C53:Type:=LB→L9→Int→LB→LB→LB→LB→L95→L73→Option (Bool×Int×LB×LB×LB×LB×L95×L73)
def e53 {R:Type} (c:C53):Ent R:=eG [.aG [.cS,.cL 9 ty9],.aC (.cP 1)] [.oB 1 43 [.cI .i64,.cS,.cS,.cS,.cS,.cL 95 ty95,.cL 73 ty73]] fun v k=>ob (c v.1 v.2.1 v.2.2.1 v.2.2.2.1 v.2.2.2.2.1 v.2.2.2.2.2.1 v.2.2.2.2.2.2.1 v.2.2.2.2.2.2.2.1 v.2.2.2.2.2.2.2.2.1) (K18 k)
abbrev Sp53 (c:C53):Prop:=∀ (p0:LB) (p1:L9) (p2:Int) (p3 p4 p5 p6:LB) (p7:L95) (p8:L73) (y:Bool×Int×LB×LB×LB×LB×L95×L73),c p0 p1 p2 p3 p4 p5 p6 p7 p8=some y→Spec Try.prog gl0 53 [.agg [.str p0,.list 9 ty9 p1],.c (.ptr 1 0)] [(1,.box 43 [.int .i64 p2,.str p3,.str p4,.str p5,.str p6,.list 95 ty95 p7,.list 73 ty73 p8])] (.c (.bool y.1)) [(1,.box 43 [.int .i64 y.2.1,.str y.2.2.1,.str y.2.2.2.1,.str y.2.2.2.2.1,.str y.2.2.2.2.2.1,.list 95 ty95 y.2.2.2.2.2.2.1,.list 73 ty73 y.2.2.2.2.2.2.2])]
theorem ek53 {R:Type} {c:C53} (hs:Sp53 c):EOk 53 (e53 (R:=R) c):=qag fun v=>hs v.1 v.2.1 v.2.2.1 v.2.2.2.1 v.2.2.2.2.1 v.2.2.2.2.2.1 v.2.2.2.2.2.2.1 v.2.2.2.2.2.2.2.1 v.2.2.2.2.2.2.2.2.1
theorem sf53:Sp53 (F53):=fun p0 p1 p2 p3 p4 p5 p6 p7 p8 y hy=>by
 refine qad qac 1000000 (fn:=Try.f53) (by kernel_rfl) (by kernel_rfl) (X:=X53) (by kernel_rfl) ?_
 rw [eq53]
 exact (nt53 Ops.std p0 p1 p2 p3 p4 p5 p6 p7 p8 some (K18 k0)).trans (by show ob (F53 p0 p1 p2 p3 p4 p5 p6 p7 p8) _=_;rw [hy];rfl)
noncomputable def M53:C53:=F53
theorem sm53:Sp53 M53:=sf53
def X113:Aux:=⟨[(2,([2,3,4,5,6]++rg 9 10))],[]⟩
inductive S113 where
 | l0 (v1 v2 v3:Int) (v4 v5 v6 v7:LB) (v8:L95) (v9:L73)
def T113 {R:Type} (B:Ops) (c53:C53) (p0:L66) (p1:Int) (p2 p3 p4 p5:LB) (p6:L95) (p7:L73) (again:S113→Option R) (k:(Int×Int×LB×LB×LB×LB×L95×L73)→Option R):Option S113→Option R | none=>again (.l0 (↑p0.length) 0 p1 p2 p3 p4 p5 p6 p7) | some (.l0 v1 v2 v3 v4 v5 v6 v7 v8 v9)=>cond (B.lt v2 v1) (cond (B.inb v2 p0.length) (ob (c53 ((p0.getD v2.toNat ty66.dflt).1) ((p0.getD v2.toNat ty66.dflt).2) v3 v4 v5 v6 v7 v8 v9) fun y0=>cond y0.1 (k (v2,y0.2.1,y0.2.2.1,y0.2.2.2.1,y0.2.2.2.2.1,y0.2.2.2.2.2.1,y0.2.2.2.2.2.2.1,y0.2.2.2.2.2.2.2)) (again (.l0 v1 (IntKind.wrap .i64 (v2+1)) y0.2.1 y0.2.2.1 y0.2.2.2.1 y0.2.2.2.2.1 y0.2.2.2.2.2.1 y0.2.2.2.2.2.2.1 y0.2.2.2.2.2.2.2))) none) (k (-1,v3,v4,v5,v6,v7,v8,v9))
def E113 (p0:L66) (p1:Int) (p2 p3 p4 p5:LB) (p6:L95) (p7:L73):S113→List AV×Objs
 | .l0 v1 v2 v3 v4 v5 v6 v7 v8 v9=>(mk 19 [(0,.c (.list 66 ty66 p0)),(1,.fn 53 [.ptr 2500 0]),(7,.c (.int .i64 v1)),(8,.c (.int .i64 v2))],[(2500,.box 43 [.int .i64 v3,.str v4,.str v5,.str v6,.str v7,.list 95 ty95 v8,.list 73 ty73 v9])])
def I113:S113→Nat
 | .l0 _ _ _ _ _ _ _ _ _=>0
abbrev K19 {R:Type} (k:AV→Objs→Option R) (y:(Int×Int×LB×LB×LB×LB×L95×L73)):Option R:=k (.c (.int .i64 y.1)) [(2500,.box 43 [.int .i64 y.2.1,.str y.2.2.1,.str y.2.2.2.1,.str y.2.2.2.2.1,.str y.2.2.2.2.2.1,.list 95 ty95 y.2.2.2.2.2.2.1,.list 73 ty73 y.2.2.2.2.2.2.2])]
theorem eq113 {R:Type} (B:Ops) (c53:C53) (p0:L66) (p1:Int) (p2 p3 p4 p5:LB) (p6:L95) (p7:L73) (k:AV→Objs→Option R) (n:Nat):afun tau B gl0 X113 (ent 53 (e53 c53) gnil) ow Try.f52 [.c (.list 66 ty66 p0),.fn 53 [.ptr 2500 0]] [(2500,.box 43 [.int .i64 p1,.str p2,.str p3,.str p4,.str p5,.list 95 ty95 p6,.list 73 ty73 p7])] k n=T113 B c53 p0 p1 p2 p3 p4 p5 p6 p7 (fun s=>aloop tau B gl0 X113 (ent 53 (e53 c53) gnil) ow [2500] Try.f52 k (I113 s) (E113 p0 p1 p2 p3 p4 p5 p6 p7 s) n) (K19 k) none:=by kernel_rfl
theorem el113 {R:Type} (B:Ops) (c53:C53) (p0:L66) (p1:Int) (p2 p3 p4 p5:LB) (p6:L95) (p7:L73) (k:AV→Objs→Option R) (n:Nat):∀ s,aloop tau B gl0 X113 (ent 53 (e53 c53) gnil) ow [2500] Try.f52 k (I113 s) (E113 p0 p1 p2 p3 p4 p5 p6 p7 s) (n+1)=T113 B c53 p0 p1 p2 p3 p4 p5 p6 p7 (fun s=>aloop tau B gl0 X113 (ent 53 (e53 c53) gnil) ow [2500] Try.f52 k (I113 s) (E113 p0 p1 p2 p3 p4 p5 p6 p7 s) n) (K19 k) (some s):=by
 intro s
 cases s<;>kernel_rfl
theorem nt113 {R R':Type} (B:Ops) (c53:C53) (p0:L66) (p1:Int) (p2 p3 p4 p5:LB) (p6:L95) (p7:L73) (again:S113→Option R) (again':S113→Option R') (k0:(Int×Int×LB×LB×LB×LB×L95×L73)→Option R') (k:R'→Option R) (h:∀ s,again s=ob (again' s) k):∀ s,T113 B c53 p0 p1 p2 p3 p4 p5 p6 p7 again (fun y=>ob (k0 y) k) s=ob (T113 B c53 p0 p1 p2 p3 p4 p5 p6 p7 again' k0 s) k:=by
 rintro (_ | x)
 all_goals try cases x
 all_goals (unfold T113;repeat' first | exact rfl | exact h _ | apply qab | (apply qae;intro))
def R113 (c53:C53) (p0:L66) (p1:Int) (p2 p3 p4 p5:LB) (p6:L95) (p7:L73):Nat→S113→Option (Int×Int×LB×LB×LB×LB×L95×L73)
 | 0,_=>none
 | n+1,s=>T113 Ops.std c53 p0 p1 p2 p3 p4 p5 p6 p7 (R113 c53 p0 p1 p2 p3 p4 p5 p6 p7 n) some (some s)
theorem rr113 {R:Type} (c53:C53) (p0:L66) (p1:Int) (p2 p3 p4 p5:LB) (p6:L95) (p7:L73) (k:AV→Objs→Option R):∀ (n:Nat) (s:S113),aloop tau Ops.std gl0 X113 (ent 53 (e53 c53) gnil) ow [2500] Try.f52 k (I113 s) (E113 p0 p1 p2 p3 p4 p5 p6 p7 s) n=ob (R113 c53 p0 p1 p2 p3 p4 p5 p6 p7 n s) (K19 k)
 | 0,s=>by cases s<;>rfl
 | n+1,s=>by rw [el113];exact nt113 Ops.std c53 p0 p1 p2 p3 p4 p5 p6 p7 _ _ some (K19 k) (rr113 c53 p0 p1 p2 p3 p4 p5 p6 p7 k n) (some s)
def F113 (c53:C53) (p0:L66) (p1:Int) (p2 p3 p4 p5:LB) (p6:L95) (p7:L73):Option (Int×Int×LB×LB×LB×LB×L95×L73):=T113 Ops.std c53 p0 p1 p2 p3 p4 p5 p6 p7 (R113 c53 p0 p1 p2 p3 p4 p5 p6 p7 1000000) some none
abbrev C113:Type:=L66→Int→LB→LB→LB→LB→L95→L73→Option (Int×Int×LB×LB×LB×LB×L95×L73)
def e113 {R:Type} (c:C113):Ent R:=eG [.aC (.cL 66 ty66),.aF 53 [.cP 2500]] [.oB 2500 43 [.cI .i64,.cS,.cS,.cS,.cS,.cL 95 ty95,.cL 73 ty73]] fun v k=>ob (c v.1 v.2.1 v.2.2.1 v.2.2.2.1 v.2.2.2.2.1 v.2.2.2.2.2.1 v.2.2.2.2.2.2.1 v.2.2.2.2.2.2.2.1) (K19 k)
abbrev Sp113 (c:C113):Prop:=∀ (p0:L66) (p1:Int) (p2 p3 p4 p5:LB) (p6:L95) (p7:L73) (y:Int×Int×LB×LB×LB×LB×L95×L73),c p0 p1 p2 p3 p4 p5 p6 p7=some y→Spec Try.prog gl0 52 [.c (.list 66 ty66 p0),.fn 53 [.ptr 2500 0]] [(2500,.box 43 [.int .i64 p1,.str p2,.str p3,.str p4,.str p5,.list 95 ty95 p6,.list 73 ty73 p7])] (.c (.int .i64 y.1)) [(2500,.box 43 [.int .i64 y.2.1,.str y.2.2.1,.str y.2.2.2.1,.str y.2.2.2.2.1,.str y.2.2.2.2.2.1,.list 95 ty95 y.2.2.2.2.2.2.1,.list 73 ty73 y.2.2.2.2.2.2.2])]
theorem ek113 {R:Type} {c:C113} (hs:Sp113 c):EOk 52 (e113 (R:=R) c):=qag fun v=>hs v.1 v.2.1 v.2.2.1 v.2.2.2.1 v.2.2.2.2.1 v.2.2.2.2.2.1 v.2.2.2.2.2.2.1 v.2.2.2.2.2.2.2.1
theorem sf113 {c53:C53} (h53:Sp53 c53):Sp113 (F113 c53):=fun p0 p1 p2 p3 p4 p5 p6 p7 y hy=>by
 refine qad (qaa (ek53 h53) qac) 1000000 (fn:=Try.f52) (by kernel_rfl) (by kernel_rfl) (X:=X113) (by kernel_rfl) ?_
 rw [eq113]
 exact (nt113 Ops.std c53 p0 p1 p2 p3 p4 p5 p6 p7 _ _ some (K19 k0) (rr113 c53 p0 p1 p2 p3 p4 p5 p6 p7 k0 1000000) none).trans (by show ob (F113 c53 p0 p1 p2 p3 p4 p5 p6 p7) _=_;rw [hy];rfl)
noncomputable def M113:C113:=F113 M53
theorem sm113:Sp113 M113:=sf113 sm53
end Go.Proofs.Ytimcngbieedlcaa.Av
