/- Twins of functions,printed by gen.py. Conditions: none. -/
import Derived.Test.YtfdlgmbbflmbgaaGreatDoorWn4
import Derived.KernelRfl
set_option linter.unusedSimpArgs false
set_option linter.unusedVariables false
set_option maxRecDepth 100000
set_option maxHeartbeats 8000000
namespace Go.Proofs.YtfdlgmbbflmbgaaGreatDoor.Av
open Go
def X11:Aux:=⟨[(7,([0,2,4,6]++rg 11 129)),(12,([0,2,4,6]++rg 13 127))],[(14,.lin ([0,1,2,3,4,7,8,9,10,11,5,6,12,13,14,15])),(21,.lin (rg 0 16))]⟩
inductive S11 where
 | l0 (v1:Int) (v2:Int) (v8:L22) (v9:L45)
 | l1 (v1:Int) (v2:Int) (v3:Int) (v9:L22) (v10:L45) (v11:L4)
abbrev C9:Type:=L61→L65→L71→L73→Option (Bool)
abbrev C27:Type:=L61→L65→L71→L79→L79→Option (Bool)
abbrev C28:Type:=L73→Option (L22)
abbrev C29:Type:=L61→L65→L71→L3→L3→L118→Option (Int)
abbrev C31:Type:=Int→L4→L4→Int→Int→Option (L4)
def T11 {R:Type} (B:Ops) (c9:C9) (c27:C27) (c28:C28) (c30:C30) (c29:C29) (c31:C31) (p0:L61) (p1:L65) (p2:L71) (p3:L73) (p4:L79) (p5:L79) (again:S11→Option R) (k:(L45)→Option R):Option S11→Option R | none=>ob (c9 p0 p1 p2 p3) fun y0=>cond (!y0) (k (mt (Ty.den ty45))) (ob (c27 p0 p1 p2 p4 p5) fun y1=>cond (!y1) (k (mt (Ty.den ty45))) (ob (c28 p3) fun y2=>again (.l0 (IntKind.wrap .i64 (Nat.cast p4.length+Nat.cast p5.length)) 0 y2 (mt (Ty.den ty45))))) | some (.l0 v1 v2 v8 v9)=>cond (B.lt v2 (↑p3.length)) (cond (B.inb v2 p3.length) (cond (B.eq ((p3.getD v2.toNat ty73.dflt).1) (3)) (cond (bif B.eq v1 v1 then bif B.le (0) v1 then B.lim v1.toNat (1) else false else false) (again (.l1 v1 v2 0 v8 v9 (List.replicate v1.toNat (Ty.dflt Ty.bool)))) none) (cond (B.inb v2 v8.length) (cond (B.lt (0) (Nat.cast (List.length (v8.getD v2.toNat ty22.dflt)))) (cond (B.inb v2 v8.length) (cond (B.inb (0) (List.length (v8.getD v2.toNat ty22.dflt))) (cond (B.lt (List.getD (v8.getD v2.toNat ty22.dflt) (Int.toNat (0)) (Ty.dflt (Ty.int .i64))) (↑v9.length)) (cond (B.inb v2 v8.length) (cond (B.inb (0) (List.length (v8.getD v2.toNat ty22.dflt))) (cond (B.inb (List.getD (v8.getD v2.toNat ty22.dflt) (Int.toNat (0)) (Ty.dflt (Ty.int .i64))) v9.length) (cond (B.inb v2 v8.length) (cond (B.lt (1) (Nat.cast (List.length (v8.getD v2.toNat ty22.dflt)))) (cond (B.inb v2 v8.length) (cond (B.inb (1) (List.length (v8.getD v2.toNat ty22.dflt))) (cond (B.lt (List.getD (v8.getD v2.toNat ty22.dflt) (Int.toNat (1)) (Ty.dflt (Ty.int .i64))) (↑v9.length)) (cond (B.inb v2 v8.length) (cond (B.inb (1) (List.length (v8.getD v2.toNat ty22.dflt))) (cond (B.inb (List.getD (v8.getD v2.toNat ty22.dflt) (Int.toNat (1)) (Ty.dflt (Ty.int .i64))) v9.length) (cond (B.inb v2 p3.length) (ob (c31 ((p3.getD v2.toNat ty73.dflt).1) (v9.getD (Int.toNat (List.getD (v8.getD v2.toNat ty22.dflt) (Int.toNat (0)) (Ty.dflt (Ty.int .i64)))) ty45.dflt) (v9.getD (Int.toNat (List.getD (v8.getD v2.toNat ty22.dflt) (Int.toNat (1)) (Ty.dflt (Ty.int .i64)))) ty45.dflt) v1 (↑p4.length)) fun y0=>cond (B.lim (List.length v9+List.length (y0::mt (Ty.den ty45))) (24)) (again (.l0 v1 (IntKind.wrap .i64 (v2+1)) v8 (v9++y0::mt (Ty.den ty45)))) none) none) none) none) none) (cond (B.inb v2 p3.length) (ob (c31 ((p3.getD v2.toNat ty73.dflt).1) (v9.getD (Int.toNat (List.getD (v8.getD v2.toNat ty22.dflt) (Int.toNat (0)) (Ty.dflt (Ty.int .i64)))) ty45.dflt) (mt (Ty.den Ty.bool)) v1 (↑p4.length)) fun y0=>cond (B.lim (List.length v9+List.length (y0::mt (Ty.den ty45))) (24)) (again (.l0 v1 (IntKind.wrap .i64 (v2+1)) v8 (v9++y0::mt (Ty.den ty45)))) none) none)) none) none) (cond (B.inb v2 p3.length) (ob (c31 ((p3.getD v2.toNat ty73.dflt).1) (v9.getD (Int.toNat (List.getD (v8.getD v2.toNat ty22.dflt) (Int.toNat (0)) (Ty.dflt (Ty.int .i64)))) ty45.dflt) (mt (Ty.den Ty.bool)) v1 (↑p4.length)) fun y0=>cond (B.lim (List.length v9+List.length (y0::mt (Ty.den ty45))) (24)) (again (.l0 v1 (IntKind.wrap .i64 (v2+1)) v8 (v9++y0::mt (Ty.den ty45)))) none) none)) none) none) none) none) (cond (B.inb v2 v8.length) (cond (B.lt (1) (Nat.cast (List.length (v8.getD v2.toNat ty22.dflt)))) (cond (B.inb v2 v8.length) (cond (B.inb (1) (List.length (v8.getD v2.toNat ty22.dflt))) (cond (B.lt (List.getD (v8.getD v2.toNat ty22.dflt) (Int.toNat (1)) (Ty.dflt (Ty.int .i64))) (↑v9.length)) (cond (B.inb v2 v8.length) (cond (B.inb (1) (List.length (v8.getD v2.toNat ty22.dflt))) (cond (B.inb (List.getD (v8.getD v2.toNat ty22.dflt) (Int.toNat (1)) (Ty.dflt (Ty.int .i64))) v9.length) (cond (B.inb v2 p3.length) (ob (c31 ((p3.getD v2.toNat ty73.dflt).1) (mt (Ty.den Ty.bool)) (v9.getD (Int.toNat (List.getD (v8.getD v2.toNat ty22.dflt) (Int.toNat (1)) (Ty.dflt (Ty.int .i64)))) ty45.dflt) v1 (↑p4.length)) fun y0=>cond (B.lim (List.length v9+List.length (y0::mt (Ty.den ty45))) (24)) (again (.l0 v1 (IntKind.wrap .i64 (v2+1)) v8 (v9++y0::mt (Ty.den ty45)))) none) none) none) none) none) (cond (B.inb v2 p3.length) (ob (c31 ((p3.getD v2.toNat ty73.dflt).1) (mt (Ty.den Ty.bool)) (mt (Ty.den Ty.bool)) v1 (↑p4.length)) fun y0=>cond (B.lim (List.length v9+List.length (y0::mt (Ty.den ty45))) (24)) (again (.l0 v1 (IntKind.wrap .i64 (v2+1)) v8 (v9++y0::mt (Ty.den ty45)))) none) none)) none) none) (cond (B.inb v2 p3.length) (ob (c31 ((p3.getD v2.toNat ty73.dflt).1) (mt (Ty.den Ty.bool)) (mt (Ty.den Ty.bool)) v1 (↑p4.length)) fun y0=>cond (B.lim (List.length v9+List.length (y0::mt (Ty.den ty45))) (24)) (again (.l0 v1 (IntKind.wrap .i64 (v2+1)) v8 (v9++y0::mt (Ty.den ty45)))) none) none)) none)) none) none) (cond (B.inb v2 v8.length) (cond (B.lt (1) (Nat.cast (List.length (v8.getD v2.toNat ty22.dflt)))) (cond (B.inb v2 v8.length) (cond (B.inb (1) (List.length (v8.getD v2.toNat ty22.dflt))) (cond (B.lt (List.getD (v8.getD v2.toNat ty22.dflt) (Int.toNat (1)) (Ty.dflt (Ty.int .i64))) (↑v9.length)) (cond (B.inb v2 v8.length) (cond (B.inb (1) (List.length (v8.getD v2.toNat ty22.dflt))) (cond (B.inb (List.getD (v8.getD v2.toNat ty22.dflt) (Int.toNat (1)) (Ty.dflt (Ty.int .i64))) v9.length) (cond (B.inb v2 p3.length) (ob (c31 ((p3.getD v2.toNat ty73.dflt).1) (mt (Ty.den Ty.bool)) (v9.getD (Int.toNat (List.getD (v8.getD v2.toNat ty22.dflt) (Int.toNat (1)) (Ty.dflt (Ty.int .i64)))) ty45.dflt) v1 (↑p4.length)) fun y0=>cond (B.lim (List.length v9+List.length (y0::mt (Ty.den ty45))) (24)) (again (.l0 v1 (IntKind.wrap .i64 (v2+1)) v8 (v9++y0::mt (Ty.den ty45)))) none) none) none) none) none) (cond (B.inb v2 p3.length) (ob (c31 ((p3.getD v2.toNat ty73.dflt).1) (mt (Ty.den Ty.bool)) (mt (Ty.den Ty.bool)) v1 (↑p4.length)) fun y0=>cond (B.lim (List.length v9+List.length (y0::mt (Ty.den ty45))) (24)) (again (.l0 v1 (IntKind.wrap .i64 (v2+1)) v8 (v9++y0::mt (Ty.den ty45)))) none) none)) none) none) (cond (B.inb v2 p3.length) (ob (c31 ((p3.getD v2.toNat ty73.dflt).1) (mt (Ty.den Ty.bool)) (mt (Ty.den Ty.bool)) v1 (↑p4.length)) fun y0=>cond (B.lim (List.length v9+List.length (y0::mt (Ty.den ty45))) (24)) (again (.l0 v1 (IntKind.wrap .i64 (v2+1)) v8 (v9++y0::mt (Ty.den ty45)))) none) none)) none)) none)) none) (k v9) | some (.l1 v1 v2 v3 v9 v10 v11)=>cond (B.lt v3 v1) (cond (B.inb v2 p3.length) (ob (c30 p4 p5 v3) fun y0=>ob (c29 p0 p1 p2 y0.1 y0.2.1 ((p3.getD v2.toNat ty73.dflt).2)) fun y1=>cond (B.inb v3 v11.length) (again (.l1 v1 v2 (IntKind.wrap .i64 (v3+1)) v9 v10 (List.set v11 v3.toNat !B.eq y1 (0)))) none) none) (cond (B.lim (List.length v10+List.length (v11::mt (Ty.den ty45))) (24)) (again (.l0 v1 (IntKind.wrap .i64 (v2+1)) v9 (v10++v11::mt (Ty.den ty45)))) none)
def E11 (p0:L61) (p1:L65) (p2:L71) (p3:L73) (p4:L79) (p5:L79):S11→List AV×Objs
 | .l0 v1 v2 v8 v9=>(mk 140 [(1,.c (.list 73 ty73 p3)),(3,.c (.ptr 3 0)),(5,.c (.ptr 5 0)),(7,.c (.int .i64 v1)),(8,.c (.own 8)),(9,.c (.own 9)),(10,.c (.int .i64 v2))],[(3,.box 31 [.list 61 ty61 p0,.list 65 ty65 p1,.list 71 ty71 p2]),(5,.box 40 [.list 79 ty79 p4,.list 79 ty79 p5]),(8,.row 22 ty22 v8),(9,.row 45 ty45 v9)])
 | .l1 v1 v2 v3 v9 v10 v11=>(mk 140 [(1,.c (.list 73 ty73 p3)),(3,.c (.ptr 3 0)),(5,.c (.ptr 5 0)),(7,.c (.int .i64 v1)),(8,.c (.own 8)),(9,.c (.own 9)),(10,.c (.int .i64 v2)),(11,.c (.own 11)),(12,.c (.int .i64 v3))],[(3,.box 31 [.list 61 ty61 p0,.list 65 ty65 p1,.list 71 ty71 p2]),(5,.box 40 [.list 79 ty79 p4,.list 79 ty79 p5]),(8,.row 22 ty22 v9),(9,.row 45 ty45 v10),(11,.row 4 ty4 v11)])
def I11:S11→Nat
 | .l0 _ _ _ _=>0
 | .l1 _ _ _ _ _ _=>1
abbrev K31 {R:Type} (k:AV→Objs→Option R) (y:(L45)):Option R:=k (.c (.own 500)) [(500,.row 45 ty45 y)]
theorem eq11 {R:Type} (B:Ops) (c9:C9) (c27:C27) (c28:C28) (c30:C30) (c29:C29) (c31:C31) (p0:L61) (p1:L65) (p2:L71) (p3:L73) (p4:L79) (p5:L79) (k:AV→Objs→Option R) (n:Nat):afun tau B gl0 X11 (ent 9 (e9 c9) (ent 27 (e27 c27) (ent 28 (e28 c28) (ent 30 (e30 c30) (ent 29 (e29 c29) (ent 31 (e31 c31) gnil)))))) ow Tryz.f11 [.agg [.list 61 ty61 p0,.list 65 ty65 p1,.list 71 ty71 p2],.c (.list 73 ty73 p3),.agg [.list 79 ty79 p4,.list 79 ty79 p5]] [] k n=T11 B c9 c27 c28 c30 c29 c31 p0 p1 p2 p3 p4 p5 (fun s=>aloop tau B gl0 X11 (ent 9 (e9 c9) (ent 27 (e27 c27) (ent 28 (e28 c28) (ent 30 (e30 c30) (ent 29 (e29 c29) (ent 31 (e31 c31) gnil)))))) ow [] Tryz.f11 k (I11 s) (E11 p0 p1 p2 p3 p4 p5 s) n) (K31 k) none:=by kernel_rfl
theorem el11 {R:Type} (B:Ops) (c9:C9) (c27:C27) (c28:C28) (c30:C30) (c29:C29) (c31:C31) (p0:L61) (p1:L65) (p2:L71) (p3:L73) (p4:L79) (p5:L79) (k:AV→Objs→Option R) (n:Nat):∀ s,aloop tau B gl0 X11 (ent 9 (e9 c9) (ent 27 (e27 c27) (ent 28 (e28 c28) (ent 30 (e30 c30) (ent 29 (e29 c29) (ent 31 (e31 c31) gnil)))))) ow [] Tryz.f11 k (I11 s) (E11 p0 p1 p2 p3 p4 p5 s) (n+1)=T11 B c9 c27 c28 c30 c29 c31 p0 p1 p2 p3 p4 p5 (fun s=>aloop tau B gl0 X11 (ent 9 (e9 c9) (ent 27 (e27 c27) (ent 28 (e28 c28) (ent 30 (e30 c30) (ent 29 (e29 c29) (ent 31 (e31 c31) gnil)))))) ow [] Tryz.f11 k (I11 s) (E11 p0 p1 p2 p3 p4 p5 s) n) (K31 k) (some s):=by
 intro s
 cases s<;>kernel_rfl
theorem nt11 {R R':Type} (B:Ops) (c9:C9) (c27:C27) (c28:C28) (c30:C30) (c29:C29) (c31:C31) (p0:L61) (p1:L65) (p2:L71) (p3:L73) (p4:L79) (p5:L79) (again:S11→Option R) (again':S11→Option R') (k0:(L45)→Option R') (k:R'→Option R) (h:∀ s,again s=ob (again' s) k):∀ s,T11 B c9 c27 c28 c30 c29 c31 p0 p1 p2 p3 p4 p5 again (fun y=>ob (k0 y) k) s=ob (T11 B c9 c27 c28 c30 c29 c31 p0 p1 p2 p3 p4 p5 again' k0 s) k:=by
 rintro (_ | x)
 all_goals try cases x
 all_goals (unfold T11;repeat' first | exact rfl | exact h _ | apply qae | (apply qao;intro))
def R11 (c9:C9) (c27:C27) (c28:C28) (c30:C30) (c29:C29) (c31:C31) (p0:L61) (p1:L65) (p2:L71) (p3:L73) (p4:L79) (p5:L79):Nat→S11→Option (L45)
 | 0,_=>none
 | n+1,s=>T11 Ops.std c9 c27 c28 c30 c29 c31 p0 p1 p2 p3 p4 p5 (R11 c9 c27 c28 c30 c29 c31 p0 p1 p2 p3 p4 p5 n) some (some s)
theorem rr11 {R:Type} (c9:C9) (c27:C27) (c28:C28) (c30:C30) (c29:C29) (c31:C31) (p0:L61) (p1:L65) (p2:L71) (p3:L73) (p4:L79) (p5:L79) (k:AV→Objs→Option R):∀ (n:Nat) (s:S11),aloop tau Ops.std gl0 X11 (ent 9 (e9 c9) (ent 27 (e27 c27) (ent 28 (e28 c28) (ent 30 (e30 c30) (ent 29 (e29 c29) (ent 31 (e31 c31) gnil)))))) ow [] Tryz.f11 k (I11 s) (E11 p0 p1 p2 p3 p4 p5 s) n=ob (R11 c9 c27 c28 c30 c29 c31 p0 p1 p2 p3 p4 p5 n s) (K31 k)
 | 0,s=>by cases s<;>rfl
 | n+1,s=>by rw [el11];exact nt11 Ops.std c9 c27 c28 c30 c29 c31 p0 p1 p2 p3 p4 p5 _ _ some (K31 k) (rr11 c9 c27 c28 c30 c29 c31 p0 p1 p2 p3 p4 p5 k n) (some s)
def F11 (c9:C9) (c27:C27) (c28:C28) (c30:C30) (c29:C29) (c31:C31) (p0:L61) (p1:L65) (p2:L71) (p3:L73) (p4:L79) (p5:L79):Option (L45):=T11 Ops.std c9 c27 c28 c30 c29 c31 p0 p1 p2 p3 p4 p5 (R11 c9 c27 c28 c30 c29 c31 p0 p1 p2 p3 p4 p5 1000000) some none
def e11 {R:Type} (c:L61→L65→L71→L73→L79→L79→Option (L45)):Ent R:=fun args objs k=>
 oCons args fun a0 l0=>oAgg a0 fun x0=>cCons x0 fun z0_0 w0_0=>cList 61 ty61 z0_0 fun p0=>cCons w0_0 fun z0_1 w0_1=>cList 65 ty65 z0_1 fun p1=>cCons w0_1 fun z0_2 w0_2=>cList 71 ty71 z0_2 fun p2=>cNil w0_2 <| oL l0 73 ty73 fun p3 l1=>oCons l1 fun a2 l2=>oAgg a2 fun x2=>cCons x2 fun z2_0 w2_0=>cList 79 ty79 z2_0 fun p4=>cCons w2_0 fun z2_1 w2_1=>cList 79 ty79 z2_1 fun p5=>cNil w2_1 <| oE l2 objs <| ob (c p0 p1 p2 p3 p4 p5) (K31 k)
abbrev Sp11 (c:L61→L65→L71→L73→L79→L79→Option (L45)):Prop:=∀ (p0:L61) (p1:L65) (p2:L71) (p3:L73) (p4:L79) (p5:L79) (y:L45),c p0 p1 p2 p3 p4 p5=some y→Spec Tryz.prog gl0 11 [.agg [.list 61 ty61 p0,.list 65 ty65 p1,.list 71 ty71 p2],.c (.list 73 ty73 p3),.agg [.list 79 ty79 p4,.list 79 ty79 p5]] [] (.c (.own 500)) [(500,.row 45 ty45 y)]
theorem ek11 {R:Type} {c:L61→L65→L71→L73→L79→L79→Option (L45)} (hs:Sp11 c):EOk 11 (e11 (R:=R) c):=fun args objs k r h=>by
 unfold e11 at h
 obtain ⟨a0,l0,rfl,q1⟩:=qak h
 obtain ⟨x0,rfl,q2⟩:=qav q1
 obtain ⟨z0_0,w0_0,rfl,q3⟩:=qaa q2
 obtain ⟨p0,rfl,q4⟩:=qac q3
 obtain ⟨z0_1,w0_1,rfl,q5⟩:=qaa q4
 obtain ⟨p1,rfl,q6⟩:=qac q5
 obtain ⟨z0_2,w0_2,rfl,q7⟩:=qaa q6
 obtain ⟨p2,rfl,q8⟩:=qac q7
 obtain ⟨rfl,q9⟩:=qaq q8
 obtain ⟨p3,l1,rfl,q12⟩:=qa1 q9
 obtain ⟨a2,l2,rfl,q13⟩:=qak q12
 obtain ⟨x2,rfl,q14⟩:=qav q13
 obtain ⟨z2_0,w2_0,rfl,q15⟩:=qaa q14
 obtain ⟨p4,rfl,q16⟩:=qac q15
 obtain ⟨z2_1,w2_1,rfl,q17⟩:=qaa q16
 obtain ⟨p5,rfl,q18⟩:=qac q17
 obtain ⟨rfl,q19⟩:=qaq q18
 obtain ⟨rfl,rfl,q21⟩:=qam q19
 exact qan (hs p0 p1 p2 p3 p4 p5) q21
theorem sf11 {c9:C9} {c27:C27} {c28:C28} {c30:C30} {c29:C29} {c31:C31} (h9:Sp9 c9) (h27:Sp27 c27) (h28:Sp28 c28) (h30:Sp30 c30) (h29:Sp29 c29) (h31:Sp31 c31):Sp11 (F11 c9 c27 c28 c30 c29 c31):=fun p0 p1 p2 p3 p4 p5 y hy=>by
 refine qai (qad (ek9 h9) (qad (ek27 h27) (qad (ek28 h28) (qad (ek30 h30) (qad (ek29 h29) (qad (ek31 h31) qah)))))) 1000000 (fn:=Tryz.f11) (by kernel_rfl) (by kernel_rfl) (X:=X11) (by kernel_rfl) ?_
 rw [eq11]
 exact (nt11 Ops.std c9 c27 c28 c30 c29 c31 p0 p1 p2 p3 p4 p5 _ _ some (K31 k0) (rr11 c9 c27 c28 c30 c29 c31 p0 p1 p2 p3 p4 p5 k0 1000000) none).trans (by show ob (F11 c9 c27 c28 c30 c29 c31 p0 p1 p2 p3 p4 p5) _=_;rw [hy];rfl)
noncomputable def M11:L61→L65→L71→L73→L79→L79→Option (L45):=F11 M9 M27 M28 M30 M29 M31
theorem sm11:Sp11 M11:=sf11 sm9 sm27 sm28 sm30 sm29 sm31
def X13:Aux:=⟨[],[]⟩
def T13 {R:Type} (B:Ops) (c32:C32) (p0:L73) (k:(L73)→Option R):Option R:=ob (c32 p0 true) fun y0=>k y0
theorem eq13 {R:Type} (B:Ops) (c32:C32) (p0:L73) (k:AV→Objs→Option R) (n:Nat):afun tau B gl0 X13 (ent 32 (e32 c32) gnil) ow Tryz.f13 [.c (.list 73 ty73 p0)] [] k n=T13 B c32 p0 (K12 k):=by kernel_rfl
theorem nt13 {R R':Type} (B:Ops) (c32:C32) (p0:L73) (k0:(L73)→Option R') (k:R'→Option R):T13 B c32 p0 (fun y=>ob (k0 y) k)=ob (T13 B c32 p0 k0) k:=by
 unfold T13
 repeat' first | exact rfl | apply qae | (apply qao;intro)
def F13 (c32:C32) (p0:L73):Option (L73):=T13 Ops.std c32 p0 some
def e13 {R:Type} (c:L73→Option (L73)):Ent R:=fun args objs k=>
 oL args 73 ty73 fun p0 l0=>oE l0 objs <| ob (c p0) (K12 k)
abbrev Sp13 (c:L73→Option (L73)):Prop:=∀ (p0:L73) (y:L73),c p0=some y→Spec Tryz.prog gl0 13 [.c (.list 73 ty73 p0)] [] (.c (.own 500)) [(500,.row 73 ty73 y)]
theorem ek13 {R:Type} {c:L73→Option (L73)} (hs:Sp13 c):EOk 13 (e13 (R:=R) c):=fun args objs k r h=>by
 unfold e13 at h
 obtain ⟨p0,l0,rfl,q3⟩:=qa1 h
 obtain ⟨rfl,rfl,q5⟩:=qam q3
 exact qan (hs p0) q5
theorem sf13 {c32:C32} (h32:Sp32 c32):Sp13 (F13 c32):=fun p0 y hy=>by
 refine qai (qad (ek32 h32) qah) 1000000 (fn:=Tryz.f13) (by kernel_rfl) (by kernel_rfl) (X:=X13) (by kernel_rfl) ?_
 rw [eq13]
 exact (nt13 Ops.std c32 p0 some (K12 k0)).trans (by show ob (F13 c32 p0) _=_;rw [hy];rfl)
noncomputable def M13:L73→Option (L73):=F13 M32
theorem sm13:Sp13 M13:=sf13 sm32
def X3:Aux:=⟨[(14,(rg 0 12++rg 15 64++rg 81 43))],[(9,.lin [0,1,3,2,4,5]),(10,.lin [0,1,3,2,4,5]),(16,.lin (rg 0 40))]⟩
inductive S3 where
 | l0 (v0:Int) (v1:Int) (v2:L45) (v3:L45) (v4:L45)
abbrev C4:Type:=Option (Bool)
abbrev C5:Type:=Int→Int→L22→Option (L61×L65×L71)
abbrev C7:Type:=L3→Option (LB)
abbrev C10:Type:=L61→L65→L71→L3→L3→Option (L79×L79)
abbrev C11:Type:=L61→L65→L71→L73→L79→L79→Option (L45)
abbrev C13:Type:=L73→Option (L73)
def T3 {R:Type} (B:Ops) (c4:C4) (c5:C5) (c7:C7) (c6:C6) (c8:C8) (c9:C9) (c10:C10) (c11:C11) (c12:C12) (c13:C13) (p0:L3) (p1:Int) (p2:Int) (p3:L22) (p4:L3) (p5:L3) (again:S3→Option R) (k:(Bool)→Option R):Option S3→Option R | none=>ob (c4) fun y0=>cond (!y0) (k false) (ob (c5 p1 p2 p3) fun y1=>ob (c7 p0) fun y2=>ob (c6 y2) fun y3=>ob (c4) fun y4=>cond (!y4) (ob (c4) fun y5=>k y5) (cond (B.eq (↑y3.length) (0)) (ob (c4) fun y5=>k y5) (ob (c8 y1.1 y1.2.1 y1.2.2) fun y5=>cond (!y5) (ob (c4) fun y6=>k y6) (ob (c9 y1.1 y1.2.1 y1.2.2 y3) fun y6=>cond (!y6) (ob (c4) fun y7=>k y7) (ob (c10 y1.1 y1.2.1 y1.2.2 p4 p5) fun y7=>ob (c11 y1.1 y1.2.1 y1.2.2 y3 y7.1 y7.2) fun y8=>ob (c12 y3) fun y9=>ob (c11 y1.1 y1.2.1 y1.2.2 y9 y7.1 y7.2) fun y10=>ob (c13 y3) fun y11=>ob (c11 y1.1 y1.2.1 y1.2.2 y11 y7.1 y7.2) fun y12=>cond (B.eq (↑y8.length) (0)) (k false) (cond (B.eq (↑y10.length) (0)) (k false) (cond (B.eq (↑y12.length) (0)) (k false) (cond (B.inb (IntKind.wrap .i64 (Nat.cast y8.length-1)) y8.length) (again (.l0 (Nat.cast (List.length (y8.getD (Int.toNat (IntKind.wrap .i64 (Nat.cast y8.length-1))) ty45.dflt))) 0 y8 y10 y12)) none)))))))) | some (.l0 v0 v1 v2 v3 v4)=>cond (B.lt v1 v0) (cond (B.inb (IntKind.wrap .i64 (Nat.cast v2.length-1)) v2.length) (cond (B.inb v1 (List.length (v2.getD (Int.toNat (IntKind.wrap .i64 (Nat.cast v2.length-1))) ty45.dflt))) (cond (B.inb (IntKind.wrap .i64 (Nat.cast v3.length-1)) v3.length) (cond (B.inb v1 (List.length (v3.getD (Int.toNat (IntKind.wrap .i64 (Nat.cast v3.length-1))) ty45.dflt))) (cond (!List.getD (v2.getD (Int.toNat (IntKind.wrap .i64 (Nat.cast v2.length-1))) ty45.dflt) v1.toNat (Ty.dflt Ty.bool) == List.getD (v3.getD (Int.toNat (IntKind.wrap .i64 (Nat.cast v3.length-1))) ty45.dflt) v1.toNat (Ty.dflt Ty.bool)) (k false) (cond (B.inb (IntKind.wrap .i64 (Nat.cast v2.length-1)) v2.length) (cond (B.inb v1 (List.length (v2.getD (Int.toNat (IntKind.wrap .i64 (Nat.cast v2.length-1))) ty45.dflt))) (cond (B.inb (IntKind.wrap .i64 (Nat.cast v4.length-1)) v4.length) (cond (B.inb v1 (List.length (v4.getD (Int.toNat (IntKind.wrap .i64 (Nat.cast v4.length-1))) ty45.dflt))) (cond (List.getD (v2.getD (Int.toNat (IntKind.wrap .i64 (Nat.cast v2.length-1))) ty45.dflt) v1.toNat (Ty.dflt Ty.bool) == List.getD (v4.getD (Int.toNat (IntKind.wrap .i64 (Nat.cast v4.length-1))) ty45.dflt) v1.toNat (Ty.dflt Ty.bool)) (k false) (again (.l0 v0 (IntKind.wrap .i64 (v1+1)) v2 v3 v4))) none) none) none) none)) none) none) none) none) (k true)
def E3 (p0:L3) (p1:Int) (p2:Int) (p3:L22) (p4:L3) (p5:L3):S3→List AV×Objs
 | .l0 v0 v1 v2 v3 v4=>(mk 124 [(12,.c (.own 12)),(13,.c (.own 13)),(14,.c (.own 14)),(79,.c (.int .i64 v0)),(80,.c (.int .i64 v1))],[(12,.row 45 ty45 v2),(13,.row 45 ty45 v3),(14,.row 45 ty45 v4)])
def I3:S3→Nat
 | .l0 _ _ _ _ _=>0
theorem eq3 {R:Type} (B:Ops) (c4:C4) (c5:C5) (c7:C7) (c6:C6) (c8:C8) (c9:C9) (c10:C10) (c11:C11) (c12:C12) (c13:C13) (p0:L3) (p1:Int) (p2:Int) (p3:L22) (p4:L3) (p5:L3) (k:AV→Objs→Option R) (n:Nat):afun tau B gl0 X3 (ent 4 (e4 c4) (ent 5 (e5 c5) (ent 7 (e7 c7) (ent 6 (e6 c6) (ent 8 (e8 c8) (ent 9 (e9 c9) (ent 10 (e10 c10) (ent 11 (e11 c11) (ent 12 (e12 c12) (ent 13 (e13 c13) gnil)))))))))) ow Tryz.f3 [.c (.list 3 ty3 p0),.agg [.int .i64 p1,.int .i64 p2,.list 22 ty22 p3],.c (.list 3 ty3 p4),.c (.list 3 ty3 p5)] [] k n=T3 B c4 c5 c7 c6 c8 c9 c10 c11 c12 c13 p0 p1 p2 p3 p4 p5 (fun s=>aloop tau B gl0 X3 (ent 4 (e4 c4) (ent 5 (e5 c5) (ent 7 (e7 c7) (ent 6 (e6 c6) (ent 8 (e8 c8) (ent 9 (e9 c9) (ent 10 (e10 c10) (ent 11 (e11 c11) (ent 12 (e12 c12) (ent 13 (e13 c13) gnil)))))))))) ow [] Tryz.f3 k (I3 s) (E3 p0 p1 p2 p3 p4 p5 s) n) (K1 k) none:=by kernel_rfl
theorem el3 {R:Type} (B:Ops) (c4:C4) (c5:C5) (c7:C7) (c6:C6) (c8:C8) (c9:C9) (c10:C10) (c11:C11) (c12:C12) (c13:C13) (p0:L3) (p1:Int) (p2:Int) (p3:L22) (p4:L3) (p5:L3) (k:AV→Objs→Option R) (n:Nat):∀ s,aloop tau B gl0 X3 (ent 4 (e4 c4) (ent 5 (e5 c5) (ent 7 (e7 c7) (ent 6 (e6 c6) (ent 8 (e8 c8) (ent 9 (e9 c9) (ent 10 (e10 c10) (ent 11 (e11 c11) (ent 12 (e12 c12) (ent 13 (e13 c13) gnil)))))))))) ow [] Tryz.f3 k (I3 s) (E3 p0 p1 p2 p3 p4 p5 s) (n+1)=T3 B c4 c5 c7 c6 c8 c9 c10 c11 c12 c13 p0 p1 p2 p3 p4 p5 (fun s=>aloop tau B gl0 X3 (ent 4 (e4 c4) (ent 5 (e5 c5) (ent 7 (e7 c7) (ent 6 (e6 c6) (ent 8 (e8 c8) (ent 9 (e9 c9) (ent 10 (e10 c10) (ent 11 (e11 c11) (ent 12 (e12 c12) (ent 13 (e13 c13) gnil)))))))))) ow [] Tryz.f3 k (I3 s) (E3 p0 p1 p2 p3 p4 p5 s) n) (K1 k) (some s):=by
 intro s
 cases s<;>kernel_rfl
theorem nt3 {R R':Type} (B:Ops) (c4:C4) (c5:C5) (c7:C7) (c6:C6) (c8:C8) (c9:C9) (c10:C10) (c11:C11) (c12:C12) (c13:C13) (p0:L3) (p1:Int) (p2:Int) (p3:L22) (p4:L3) (p5:L3) (again:S3→Option R) (again':S3→Option R') (k0:(Bool)→Option R') (k:R'→Option R) (h:∀ s,again s=ob (again' s) k):∀ s,T3 B c4 c5 c7 c6 c8 c9 c10 c11 c12 c13 p0 p1 p2 p3 p4 p5 again (fun y=>ob (k0 y) k) s=ob (T3 B c4 c5 c7 c6 c8 c9 c10 c11 c12 c13 p0 p1 p2 p3 p4 p5 again' k0 s) k:=by
 rintro (_ | x)
 all_goals try cases x
 all_goals (unfold T3;repeat' first | exact rfl | exact h _ | apply qae | (apply qao;intro))
def R3 (c4:C4) (c5:C5) (c7:C7) (c6:C6) (c8:C8) (c9:C9) (c10:C10) (c11:C11) (c12:C12) (c13:C13) (p0:L3) (p1:Int) (p2:Int) (p3:L22) (p4:L3) (p5:L3):Nat→S3→Option (Bool)
 | 0,_=>none
 | n+1,s=>T3 Ops.std c4 c5 c7 c6 c8 c9 c10 c11 c12 c13 p0 p1 p2 p3 p4 p5 (R3 c4 c5 c7 c6 c8 c9 c10 c11 c12 c13 p0 p1 p2 p3 p4 p5 n) some (some s)
theorem rr3 {R:Type} (c4:C4) (c5:C5) (c7:C7) (c6:C6) (c8:C8) (c9:C9) (c10:C10) (c11:C11) (c12:C12) (c13:C13) (p0:L3) (p1:Int) (p2:Int) (p3:L22) (p4:L3) (p5:L3) (k:AV→Objs→Option R):∀ (n:Nat) (s:S3),aloop tau Ops.std gl0 X3 (ent 4 (e4 c4) (ent 5 (e5 c5) (ent 7 (e7 c7) (ent 6 (e6 c6) (ent 8 (e8 c8) (ent 9 (e9 c9) (ent 10 (e10 c10) (ent 11 (e11 c11) (ent 12 (e12 c12) (ent 13 (e13 c13) gnil)))))))))) ow [] Tryz.f3 k (I3 s) (E3 p0 p1 p2 p3 p4 p5 s) n=ob (R3 c4 c5 c7 c6 c8 c9 c10 c11 c12 c13 p0 p1 p2 p3 p4 p5 n s) (K1 k)
 | 0,s=>by cases s<;>rfl
 | n+1,s=>by rw [el3];exact nt3 Ops.std c4 c5 c7 c6 c8 c9 c10 c11 c12 c13 p0 p1 p2 p3 p4 p5 _ _ some (K1 k) (rr3 c4 c5 c7 c6 c8 c9 c10 c11 c12 c13 p0 p1 p2 p3 p4 p5 k n) (some s)
def F3 (c4:C4) (c5:C5) (c7:C7) (c6:C6) (c8:C8) (c9:C9) (c10:C10) (c11:C11) (c12:C12) (c13:C13) (p0:L3) (p1:Int) (p2:Int) (p3:L22) (p4:L3) (p5:L3):Option (Bool):=T3 Ops.std c4 c5 c7 c6 c8 c9 c10 c11 c12 c13 p0 p1 p2 p3 p4 p5 (R3 c4 c5 c7 c6 c8 c9 c10 c11 c12 c13 p0 p1 p2 p3 p4 p5 1000000) some none
def e3 {R:Type} (c:L3→Int→Int→L22→L3→L3→Option (Bool)):Ent R:=fun args objs k=>
 oL args 3 ty3 fun p0 l0=>oCons l0 fun a1 l1=>oAgg a1 fun x1=>cCons x1 fun z1_0 w1_0=>cInt .i64 z1_0 fun p1=>cCons w1_0 fun z1_1 w1_1=>cInt .i64 z1_1 fun p2=>cCons w1_1 fun z1_2 w1_2=>cList 22 ty22 z1_2 fun p3=>cNil w1_2 <| oL l1 3 ty3 fun p4 l2=>oL l2 3 ty3 fun p5 l3=>oE l3 objs <| ob (c p0 p1 p2 p3 p4 p5) (K1 k)
abbrev Sp3 (c:L3→Int→Int→L22→L3→L3→Option (Bool)):Prop:=∀ (p0:L3) (p1:Int) (p2:Int) (p3:L22) (p4:L3) (p5:L3) (y:Bool),c p0 p1 p2 p3 p4 p5=some y→Spec Tryz.prog gl0 3 [.c (.list 3 ty3 p0),.agg [.int .i64 p1,.int .i64 p2,.list 22 ty22 p3],.c (.list 3 ty3 p4),.c (.list 3 ty3 p5)] [] (.c (.bool y)) []
theorem sf3 {c4:C4} {c5:C5} {c7:C7} {c6:C6} {c8:C8} {c9:C9} {c10:C10} {c11:C11} {c12:C12} {c13:C13} (h4:Sp4 c4) (h5:Sp5 c5) (h7:Sp7 c7) (h6:Sp6 c6) (h8:Sp8 c8) (h9:Sp9 c9) (h10:Sp10 c10) (h11:Sp11 c11) (h12:Sp12 c12) (h13:Sp13 c13):Sp3 (F3 c4 c5 c7 c6 c8 c9 c10 c11 c12 c13):=fun p0 p1 p2 p3 p4 p5 y hy=>by
 refine qai (qad (ek4 h4) (qad (ek5 h5) (qad (ek7 h7) (qad (ek6 h6) (qad (ek8 h8) (qad (ek9 h9) (qad (ek10 h10) (qad (ek11 h11) (qad (ek12 h12) (qad (ek13 h13) qah)))))))))) 1000000 (fn:=Tryz.f3) (by kernel_rfl) (by kernel_rfl) (X:=X3) (by kernel_rfl) ?_
 rw [eq3]
 exact (nt3 Ops.std c4 c5 c7 c6 c8 c9 c10 c11 c12 c13 p0 p1 p2 p3 p4 p5 _ _ some (K1 k0) (rr3 c4 c5 c7 c6 c8 c9 c10 c11 c12 c13 p0 p1 p2 p3 p4 p5 k0 1000000) none).trans (by show ob (F3 c4 c5 c7 c6 c8 c9 c10 c11 c12 c13 p0 p1 p2 p3 p4 p5) _=_;rw [hy];rfl)
noncomputable def M3:L3→Int→Int→L22→L3→L3→Option (Bool):=F3 M4 M5 M7 M6 M8 M9 M10 M11 M12 M13
theorem sm3:Sp3 M3:=sf3 sm4 sm5 sm7 sm6 sm8 sm9 sm10 sm11 sm12 sm13
end Go.Proofs.YtfdlgmbbflmbgaaGreatDoor.Av
