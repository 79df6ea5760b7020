/- Twins of functions,printed by gen.py. Conditions: none. -/
import Derived.Test.YtfdlgmbbflmbgaaGreatDoorWn3
import Derived.KernelRfl
set_option linter.unusedSimpArgs false
set_option linter.unusedVariables false
set_option maxRecDepth 100000
set_option maxHeartbeats 8000000
namespace Go.Proofs.YtfdlgmbbflmbgaaGreatDoor.Av
open Go
def X23:Aux:=⟨[(6,([0,1,4,5,6,7]++rg 9 74))],[(8,.lin (rg 0 20))]⟩
inductive S23 where
 | l0 (v0:Int)
abbrev C24:Type:=L61→L65→L71→L118→Option (Bool)
def T23 {R:Type} (B:Ops) (c49:C49) (c50:C50) (c51:C51) (c52:C52) (c24:C24) (c53:C53) (p0:L61) (p1:L65) (p2:L71) (p3:Int) (p4:LB) (p5:LB) (p6:LB) (p7:LB) (p8:L118) (p9:L116) (again:S23→Option R) (k:(Bool)→Option R):Option S23→Option R | none=>ob (c49 p0 p1 p2 p4) fun y0=>ob (c50 p7) fun y1=>ob (c51 p3) fun y2=>cond (!y2) (k false) (cond (!y1.2) (k false) (ob (c52 p0 p1 p2 y0 p5) fun y3=>cond (B.lt y3 (0)) (k false) (ob (c52 p0 p1 p2 y0 p6) fun y4=>cond (B.lt y4 (0)) (k false) (ob (c24 p0 p1 p2 p8) fun y5=>cond (!y5) (k false) (cond (B.lt (3) (↑p9.length)) (k false) (again (.l0 0))))))) | some (.l0 v0)=>cond (B.lt v0 (↑p9.length)) (cond (B.inb v0 p9.length) (ob (c53 p0 p1 p2 ((p9.getD v0.toNat ty116.dflt).1)) fun y0=>cond (B.lt y0 (0)) (k false) (cond (B.inb v0 p9.length) (ob (c24 p0 p1 p2 ((p9.getD v0.toNat ty116.dflt).2)) fun y1=>cond (!y1) (k false) (again (.l0 (IntKind.wrap .i64 (v0+1))))) none)) none) (k true)
def E23 (p0:L61) (p1:L65) (p2:L71) (p3:Int) (p4:LB) (p5:LB) (p6:LB) (p7:LB) (p8:L118) (p9:L116):S23→List AV×Objs
 | .l0 v0=>(mk 83 [(2,.c (.ptr 2 0)),(3,.c (.ptr 3 0)),(8,.c (.int .i64 v0))],[(2,.box 31 [.list 61 ty61 p0,.list 65 ty65 p1,.list 71 ty71 p2]),(3,.box 71 [.int .i64 p3,.str p4,.str p5,.str p6,.str p7,.list 118 ty118 p8,.list 116 ty116 p9])])
def I23:S23→Nat
 | .l0 _=>0
theorem eq23 {R:Type} (B:Ops) (c49:C49) (c50:C50) (c51:C51) (c52:C52) (c24:C24) (c53:C53) (p0:L61) (p1:L65) (p2:L71) (p3:Int) (p4:LB) (p5:LB) (p6:LB) (p7:LB) (p8:L118) (p9:L116) (k:AV→Objs→Option R) (n:Nat):afun tau B gl0 X23 (ent 49 (e49 c49) (ent 50 (e50 c50) (ent 51 (e51 c51) (ent 52 (e52 c52) (ent 24 (e24 c24) (ent 53 (e53 c53) gnil)))))) ow Tryz.f23 [.agg [.list 61 ty61 p0,.list 65 ty65 p1,.list 71 ty71 p2],.agg [.int .i64 p3,.str p4,.str p5,.str p6,.str p7,.list 118 ty118 p8,.list 116 ty116 p9]] [] k n=T23 B c49 c50 c51 c52 c24 c53 p0 p1 p2 p3 p4 p5 p6 p7 p8 p9 (fun s=>aloop tau B gl0 X23 (ent 49 (e49 c49) (ent 50 (e50 c50) (ent 51 (e51 c51) (ent 52 (e52 c52) (ent 24 (e24 c24) (ent 53 (e53 c53) gnil)))))) ow [] Tryz.f23 k (I23 s) (E23 p0 p1 p2 p3 p4 p5 p6 p7 p8 p9 s) n) (K1 k) none:=by kernel_rfl
theorem el23 {R:Type} (B:Ops) (c49:C49) (c50:C50) (c51:C51) (c52:C52) (c24:C24) (c53:C53) (p0:L61) (p1:L65) (p2:L71) (p3:Int) (p4:LB) (p5:LB) (p6:LB) (p7:LB) (p8:L118) (p9:L116) (k:AV→Objs→Option R) (n:Nat):∀ s,aloop tau B gl0 X23 (ent 49 (e49 c49) (ent 50 (e50 c50) (ent 51 (e51 c51) (ent 52 (e52 c52) (ent 24 (e24 c24) (ent 53 (e53 c53) gnil)))))) ow [] Tryz.f23 k (I23 s) (E23 p0 p1 p2 p3 p4 p5 p6 p7 p8 p9 s) (n+1)=T23 B c49 c50 c51 c52 c24 c53 p0 p1 p2 p3 p4 p5 p6 p7 p8 p9 (fun s=>aloop tau B gl0 X23 (ent 49 (e49 c49) (ent 50 (e50 c50) (ent 51 (e51 c51) (ent 52 (e52 c52) (ent 24 (e24 c24) (ent 53 (e53 c53) gnil)))))) ow [] Tryz.f23 k (I23 s) (E23 p0 p1 p2 p3 p4 p5 p6 p7 p8 p9 s) n) (K1 k) (some s):=by
 intro s
 cases s<;>kernel_rfl
theorem nt23 {R R':Type} (B:Ops) (c49:C49) (c50:C50) (c51:C51) (c52:C52) (c24:C24) (c53:C53) (p0:L61) (p1:L65) (p2:L71) (p3:Int) (p4:LB) (p5:LB) (p6:LB) (p7:LB) (p8:L118) (p9:L116) (again:S23→Option R) (again':S23→Option R') (k0:(Bool)→Option R') (k:R'→Option R) (h:∀ s,again s=ob (again' s) k):∀ s,T23 B c49 c50 c51 c52 c24 c53 p0 p1 p2 p3 p4 p5 p6 p7 p8 p9 again (fun y=>ob (k0 y) k) s=ob (T23 B c49 c50 c51 c52 c24 c53 p0 p1 p2 p3 p4 p5 p6 p7 p8 p9 again' k0 s) k:=by
 rintro (_ | x)
 all_goals try cases x
 all_goals (unfold T23;repeat' first | exact rfl | exact h _ | apply qae | (apply qao;intro))
def R23 (c49:C49) (c50:C50) (c51:C51) (c52:C52) (c24:C24) (c53:C53) (p0:L61) (p1:L65) (p2:L71) (p3:Int) (p4:LB) (p5:LB) (p6:LB) (p7:LB) (p8:L118) (p9:L116):Nat→S23→Option (Bool)
 | 0,_=>none
 | n+1,s=>T23 Ops.std c49 c50 c51 c52 c24 c53 p0 p1 p2 p3 p4 p5 p6 p7 p8 p9 (R23 c49 c50 c51 c52 c24 c53 p0 p1 p2 p3 p4 p5 p6 p7 p8 p9 n) some (some s)
theorem rr23 {R:Type} (c49:C49) (c50:C50) (c51:C51) (c52:C52) (c24:C24) (c53:C53) (p0:L61) (p1:L65) (p2:L71) (p3:Int) (p4:LB) (p5:LB) (p6:LB) (p7:LB) (p8:L118) (p9:L116) (k:AV→Objs→Option R):∀ (n:Nat) (s:S23),aloop tau Ops.std gl0 X23 (ent 49 (e49 c49) (ent 50 (e50 c50) (ent 51 (e51 c51) (ent 52 (e52 c52) (ent 24 (e24 c24) (ent 53 (e53 c53) gnil)))))) ow [] Tryz.f23 k (I23 s) (E23 p0 p1 p2 p3 p4 p5 p6 p7 p8 p9 s) n=ob (R23 c49 c50 c51 c52 c24 c53 p0 p1 p2 p3 p4 p5 p6 p7 p8 p9 n s) (K1 k)
 | 0,s=>by cases s<;>rfl
 | n+1,s=>by rw [el23];exact nt23 Ops.std c49 c50 c51 c52 c24 c53 p0 p1 p2 p3 p4 p5 p6 p7 p8 p9 _ _ some (K1 k) (rr23 c49 c50 c51 c52 c24 c53 p0 p1 p2 p3 p4 p5 p6 p7 p8 p9 k n) (some s)
def F23 (c49:C49) (c50:C50) (c51:C51) (c52:C52) (c24:C24) (c53:C53) (p0:L61) (p1:L65) (p2:L71) (p3:Int) (p4:LB) (p5:LB) (p6:LB) (p7:LB) (p8:L118) (p9:L116):Option (Bool):=T23 Ops.std c49 c50 c51 c52 c24 c53 p0 p1 p2 p3 p4 p5 p6 p7 p8 p9 (R23 c49 c50 c51 c52 c24 c53 p0 p1 p2 p3 p4 p5 p6 p7 p8 p9 1000000) some none
def e23 {R:Type} (c:L61→L65→L71→Int→LB→LB→LB→LB→L118→L116→Option (Bool)):Ent R:=fun args objs k=>
 oCons args fun a0 l0=>oAgg a0 fun x0=>cCons x0 fun z0_0 w0_0=>cList 61 ty61 z0_0 fun p0=>cCons w0_0 fun z0_1 w0_1=>cList 65 ty65 z0_1 fun p1=>cCons w0_1 fun z0_2 w0_2=>cList 71 ty71 z0_2 fun p2=>cNil w0_2 <| oCons l0 fun a1 l1=>oAgg a1 fun x1=>cCons x1 fun z1_0 w1_0=>cInt .i64 z1_0 fun p3=>cCons w1_0 fun z1_1 w1_1=>cStr z1_1 fun p4=>cCons w1_1 fun z1_2 w1_2=>cStr z1_2 fun p5=>cCons w1_2 fun z1_3 w1_3=>cStr z1_3 fun p6=>cCons w1_3 fun z1_4 w1_4=>cStr z1_4 fun p7=>cCons w1_4 fun z1_5 w1_5=>cList 118 ty118 z1_5 fun p8=>cCons w1_5 fun z1_6 w1_6=>cList 116 ty116 z1_6 fun p9=>cNil w1_6 <| oE l1 objs <| ob (c p0 p1 p2 p3 p4 p5 p6 p7 p8 p9) (K1 k)
abbrev Sp23 (c:L61→L65→L71→Int→LB→LB→LB→LB→L118→L116→Option (Bool)):Prop:=∀ (p0:L61) (p1:L65) (p2:L71) (p3:Int) (p4:LB) (p5:LB) (p6:LB) (p7:LB) (p8:L118) (p9:L116) (y:Bool),c p0 p1 p2 p3 p4 p5 p6 p7 p8 p9=some y→Spec Tryz.prog gl0 23 [.agg [.list 61 ty61 p0,.list 65 ty65 p1,.list 71 ty71 p2],.agg [.int .i64 p3,.str p4,.str p5,.str p6,.str p7,.list 118 ty118 p8,.list 116 ty116 p9]] [] (.c (.bool y)) []
theorem ek23 {R:Type} {c:L61→L65→L71→Int→LB→LB→LB→LB→L118→L116→Option (Bool)} (hs:Sp23 c):EOk 23 (e23 (R:=R) c):=fun args objs k r h=>by
 unfold e23 at h
 obtain ⟨a0,l0,rfl,q1⟩:=qak h
 obtain ⟨x0,rfl,q2⟩:=qav q1
 obtain ⟨z0_0,w0_0,rfl,q3⟩:=qaa q2
 obtain ⟨p0,rfl,q4⟩:=qac q3
 obtain ⟨z0_1,w0_1,rfl,q5⟩:=qaa q4
 obtain ⟨p1,rfl,q6⟩:=qac q5
 obtain ⟨z0_2,w0_2,rfl,q7⟩:=qaa q6
 obtain ⟨p2,rfl,q8⟩:=qac q7
 obtain ⟨rfl,q9⟩:=qaq q8
 obtain ⟨a1,l1,rfl,q10⟩:=qak q9
 obtain ⟨x1,rfl,q11⟩:=qav q10
 obtain ⟨z1_0,w1_0,rfl,q12⟩:=qaa q11
 obtain ⟨p3,rfl,q13⟩:=qar q12
 obtain ⟨z1_1,w1_1,rfl,q14⟩:=qaa q13
 obtain ⟨p4,rfl,q15⟩:=qbb q14
 obtain ⟨z1_2,w1_2,rfl,q16⟩:=qaa q15
 obtain ⟨p5,rfl,q17⟩:=qbb q16
 obtain ⟨z1_3,w1_3,rfl,q18⟩:=qaa q17
 obtain ⟨p6,rfl,q19⟩:=qbb q18
 obtain ⟨z1_4,w1_4,rfl,q20⟩:=qaa q19
 obtain ⟨p7,rfl,q21⟩:=qbb q20
 obtain ⟨z1_5,w1_5,rfl,q22⟩:=qaa q21
 obtain ⟨p8,rfl,q23⟩:=qac q22
 obtain ⟨z1_6,w1_6,rfl,q24⟩:=qaa q23
 obtain ⟨p9,rfl,q25⟩:=qac q24
 obtain ⟨rfl,q26⟩:=qaq q25
 obtain ⟨rfl,rfl,q28⟩:=qam q26
 exact qan (hs p0 p1 p2 p3 p4 p5 p6 p7 p8 p9) q28
theorem sf23 {c49:C49} {c50:C50} {c51:C51} {c52:C52} {c24:C24} {c53:C53} (h49:Sp49 c49) (h50:Sp50 c50) (h51:Sp51 c51) (h52:Sp52 c52) (h24:Sp24 c24) (h53:Sp53 c53):Sp23 (F23 c49 c50 c51 c52 c24 c53):=fun p0 p1 p2 p3 p4 p5 p6 p7 p8 p9 y hy=>by
 refine qai (qad (ek49 h49) (qad (ek50 h50) (qad (ek51 h51) (qad (ek52 h52) (qad (ek24 h24) (qad (ek53 h53) qah)))))) 1000000 (fn:=Tryz.f23) (by kernel_rfl) (by kernel_rfl) (X:=X23) (by kernel_rfl) ?_
 rw [eq23]
 exact (nt23 Ops.std c49 c50 c51 c52 c24 c53 p0 p1 p2 p3 p4 p5 p6 p7 p8 p9 _ _ some (K1 k0) (rr23 c49 c50 c51 c52 c24 c53 p0 p1 p2 p3 p4 p5 p6 p7 p8 p9 k0 1000000) none).trans (by show ob (F23 c49 c50 c51 c52 c24 c53 p0 p1 p2 p3 p4 p5 p6 p7 p8 p9) _=_;rw [hy];rfl)
noncomputable def M23:L61→L65→L71→Int→LB→LB→LB→LB→L118→L116→Option (Bool):=F23 M49 M50 M51 M52 M24 M53
theorem sm23:Sp23 M23:=sf23 sm49 sm50 sm51 sm52 sm24 sm53
def X8:Aux:=⟨[(3,([0,2]++rg 6 166)),(10,([0,2,5,6]++rg 8 164)),(17,([0,2,5,6]++rg 10 162)),(24,([0,2,3,4,5,6,7,8,9]++rg 11 161)),(1000004,([0,2]++rg 6 166)),(1000016,([0,2,5,6]++rg 9 163)),(1000023,([0]++rg 2 170)),(1000025,([0,2,3,4,5,6,7,8,9]++rg 11 161))],[(26,.lin (rg 0 28))]⟩
inductive S8 where
 | l0 (v0:Int) (v4:L9)
 | l1 (v0:Int) (v4:L9) (v5:L9)
 | l2 (v0:Int) (v1:Int) (v5:L9) (v6:L9) (v7:LB) (v8:L9)
 | l3 (v0:Int)
 | l1004 (v0:Int) (v4:L9)
 | l1016 (v0:Int) (v4:L9) (v5:L9) (v6:LB) (v7:L9)
 | l1023
 | l1025 (v0:Int)
abbrev C21:Type:=Int→Option (Bool)
abbrev C22:Type:=L9→Option (Bool)
abbrev C23:Type:=L61→L65→L71→Int→LB→LB→LB→LB→L118→L116→Option (Bool)
def T8 {R:Type} (B:Ops) (c20:C20) (c21:C21) (c22:C22) (c23:C23) (p0:L61) (p1:L65) (p2:L71) (again:S8→Option R) (k:(Bool)→Option R):Option S8→Option R | none=>again (.l0 0 (mt (Ty.den Ty.str))) | some (.l0 v0 v4)=>cond (B.lt v0 (↑p0.length)) (cond (B.inb v0 p0.length) (cond (B.lim (List.length v4+List.length ((p0.getD v0.toNat ty61.dflt).1::mt (Ty.den Ty.str))) (16)) (ob (c20 ((p0.getD v0.toNat ty61.dflt).1)) fun y0=>cond (!y0) (k false) (cond (B.lt ((((p0.getD v0.toNat ty61.dflt).2).2).2) (((p0.getD v0.toNat ty61.dflt).2).1)) (k false) (cond (B.lt ((((p0.getD v0.toNat ty61.dflt).2).2).1) ((((p0.getD v0.toNat ty61.dflt).2).2).2)) (k false) (ob (c21 (((p0.getD v0.toNat ty61.dflt).2).1)) fun y1=>cond (!y1) (k false) (ob (c21 ((((p0.getD v0.toNat ty61.dflt).2).2).1)) fun y2=>cond (!y2) (k false) (again (.l1004 v0 (v4++(p0.getD v0.toNat ty61.dflt).1::mt (Ty.den Ty.str))))))))) none) none) (again (.l1 0 v4 ((mt (Ty.den Ty.str))))) | some (.l1 v0 v4 v5)=>cond (B.lt v0 (↑p1.length)) (cond (B.inb v0 p1.length) (cond (B.lim (List.length v5+List.length ((p1.getD v0.toNat ty65.dflt).1::mt (Ty.den Ty.str))) (16)) (ob (c20 ((p1.getD v0.toNat ty65.dflt).1)) fun y0=>cond (!y0) (k false) (cond (B.lt (Nat.cast (List.length ((p1.getD v0.toNat ty65.dflt).2))) (1)) (k false) (cond (B.lt (6) (Nat.cast (List.length ((p1.getD v0.toNat ty65.dflt).2)))) (k false) (ob (c22 ((p1.getD v0.toNat ty65.dflt).2)) fun y1=>cond (y1) (k false) (again (.l1016 v0 v4 (v5++(p1.getD v0.toNat ty65.dflt).1::mt (Ty.den Ty.str)) ((p1.getD v0.toNat ty65.dflt).1) ((p1.getD v0.toNat ty65.dflt).2))))))) none) none) (cond (B.lt (4) (↑v4.length)) (k false) (cond (B.lt (↑v5.length) (1)) (k false) (cond (B.lt (3) (↑v5.length)) (k false) (cond (B.lt (16) (↑p2.length)) (k false) (ob (c22 v4) fun y0=>cond (y0) (k false) (ob (c22 v5) fun y1=>cond (y1) (k false) (again (.l1023)))))))) | some (.l2 v0 v1 v5 v6 v7 v8)=>cond (B.lt v1 (↑v8.length)) (cond (B.inb v1 v8.length) (ob (c20 (v8.getD v1.toNat ty9.dflt)) fun y0=>cond (!y0) (k false) (again (.l2 v0 (IntKind.wrap .i64 (v1+1)) v5 v6 v7 v8))) none) (again (.l1 (IntKind.wrap .i64 (v0+1)) v5 v6)) | some (.l3 v0)=>cond (B.lt v0 (↑p2.length)) (cond (B.inb v0 p2.length) (ob (c23 p0 p1 p2 ((p2.getD v0.toNat ty71.dflt).1) (((p2.getD v0.toNat ty71.dflt).2).1) ((((p2.getD v0.toNat ty71.dflt).2).2).1) (((((p2.getD v0.toNat ty71.dflt).2).2).2).1) ((((((p2.getD v0.toNat ty71.dflt).2).2).2).2).1) (Prod.fst ((((((p2.getD v0.toNat ty71.dflt).2).2).2).2).2)) (Prod.snd ((((((p2.getD v0.toNat ty71.dflt).2).2).2).2).2))) fun y0=>cond (!y0) (k false) (cond (B.lt (0) v0) (cond (B.inb v0 p2.length) (cond (B.inb (IntKind.wrap .i64 (v0-1)) p2.length) (cond (B.le ((p2.getD v0.toNat ty71.dflt).1) ((p2.getD (Int.toNat (IntKind.wrap .i64 (v0-1))) ty71.dflt).1)) (k false) (again (.l1025 v0))) none) none) (again (.l1025 v0)))) none) (k true) | some (.l1004 v0 v4)=>again (.l0 (IntKind.wrap .i64 (v0+1)) v4) | some (.l1016 v0 v4 v5 v6 v7)=>again (.l2 v0 0 v4 v5 v6 v7) | some (.l1023)=>again (.l3 0) | some (.l1025 v0)=>again (.l3 (IntKind.wrap .i64 (v0+1)))
def E8 (p0:L61) (p1:L65) (p2:L71):S8→List AV×Objs
 | .l0 v0 v4=>(mk 172 [(1,.c (.ptr 1 0)),(3,.c (.own 3)),(4,.c (.own 4)),(5,.c (.int .i64 v0))],[(1,.box 31 [.list 61 ty61 p0,.list 65 ty65 p1,.list 71 ty71 p2]),(3,.row 9 ty9 v4),(4,.row 9 ty9 (mt (Ty.den Ty.str)))])
 | .l1 v0 v4 v5=>(mk 172 [(1,.c (.ptr 1 0)),(3,.c (.own 3)),(4,.c (.own 4)),(7,.c (.int .i64 v0))],[(1,.box 31 [.list 61 ty61 p0,.list 65 ty65 p1,.list 71 ty71 p2]),(3,.row 9 ty9 v4),(4,.row 9 ty9 v5)])
 | .l2 v0 v1 v5 v6 v7 v8=>(mk 172 [(1,.c (.ptr 1 0)),(3,.c (.own 3)),(4,.c (.own 4)),(7,.c (.int .i64 v0)),(8,.c (.ptr 8 0)),(9,.c (.int .i64 v1))],[(1,.box 31 [.list 61 ty61 p0,.list 65 ty65 p1,.list 71 ty71 p2]),(3,.row 9 ty9 v5),(4,.row 9 ty9 v6),(8,.box 65 [.str v7,.list 9 ty9 v8])])
 | .l3 v0=>(mk 172 [(1,.c (.ptr 1 0)),(10,.c (.int .i64 v0))],[(1,.box 31 [.list 61 ty61 p0,.list 65 ty65 p1,.list 71 ty71 p2])])
 | .l1004 v0 v4=>(mk 172 [(1,.c (.ptr 1 0)),(3,.c (.own 3)),(4,.c (.own 4)),(5,.c (.int .i64 v0))],[(1,.box 31 [.list 61 ty61 p0,.list 65 ty65 p1,.list 71 ty71 p2]),(3,.row 9 ty9 v4),(4,.row 9 ty9 (mt (Ty.den Ty.str)))])
 | .l1016 v0 v4 v5 v6 v7=>(mk 172 [(1,.c (.ptr 1 0)),(3,.c (.own 3)),(4,.c (.own 4)),(7,.c (.int .i64 v0)),(8,.c (.ptr 8 0))],[(1,.box 31 [.list 61 ty61 p0,.list 65 ty65 p1,.list 71 ty71 p2]),(3,.row 9 ty9 v4),(4,.row 9 ty9 v5),(8,.box 65 [.str v6,.list 9 ty9 v7])])
 | .l1023=>(mk 172 [(1,.c (.ptr 1 0))],[(1,.box 31 [.list 61 ty61 p0,.list 65 ty65 p1,.list 71 ty71 p2])])
 | .l1025 v0=>(mk 172 [(1,.c (.ptr 1 0)),(10,.c (.int .i64 v0))],[(1,.box 31 [.list 61 ty61 p0,.list 65 ty65 p1,.list 71 ty71 p2])])
def I8:S8→Nat
 | .l0 _ _=>0
 | .l1 _ _ _=>1
 | .l2 _ _ _ _ _ _=>2
 | .l3 _=>3
 | .l1004 _ _=>1004
 | .l1016 _ _ _ _ _=>1016
 | .l1023=>1023
 | .l1025 _=>1025
theorem eq8 {R:Type} (B:Ops) (c20:C20) (c21:C21) (c22:C22) (c23:C23) (p0:L61) (p1:L65) (p2:L71) (k:AV→Objs→Option R) (n:Nat):afun tau B gl0 X8 (ent 20 (e20 c20) (ent 21 (e21 c21) (ent 22 (e22 c22) (ent 23 (e23 c23) gnil)))) ow Tryz.f8 [.agg [.list 61 ty61 p0,.list 65 ty65 p1,.list 71 ty71 p2]] [] k n=T8 B c20 c21 c22 c23 p0 p1 p2 (fun s=>aloop tau B gl0 X8 (ent 20 (e20 c20) (ent 21 (e21 c21) (ent 22 (e22 c22) (ent 23 (e23 c23) gnil)))) ow [] Tryz.f8 k (I8 s) (E8 p0 p1 p2 s) n) (K1 k) none:=by kernel_rfl
theorem el8 {R:Type} (B:Ops) (c20:C20) (c21:C21) (c22:C22) (c23:C23) (p0:L61) (p1:L65) (p2:L71) (k:AV→Objs→Option R) (n:Nat):∀ s,aloop tau B gl0 X8 (ent 20 (e20 c20) (ent 21 (e21 c21) (ent 22 (e22 c22) (ent 23 (e23 c23) gnil)))) ow [] Tryz.f8 k (I8 s) (E8 p0 p1 p2 s) (n+1)=T8 B c20 c21 c22 c23 p0 p1 p2 (fun s=>aloop tau B gl0 X8 (ent 20 (e20 c20) (ent 21 (e21 c21) (ent 22 (e22 c22) (ent 23 (e23 c23) gnil)))) ow [] Tryz.f8 k (I8 s) (E8 p0 p1 p2 s) n) (K1 k) (some s):=by
 intro s
 cases s<;>kernel_rfl
theorem nt8 {R R':Type} (B:Ops) (c20:C20) (c21:C21) (c22:C22) (c23:C23) (p0:L61) (p1:L65) (p2:L71) (again:S8→Option R) (again':S8→Option R') (k0:(Bool)→Option R') (k:R'→Option R) (h:∀ s,again s=ob (again' s) k):∀ s,T8 B c20 c21 c22 c23 p0 p1 p2 again (fun y=>ob (k0 y) k) s=ob (T8 B c20 c21 c22 c23 p0 p1 p2 again' k0 s) k:=by
 rintro (_ | x)
 all_goals try cases x
 all_goals (unfold T8;repeat' first | exact rfl | exact h _ | apply qae | (apply qao;intro))
def R8 (c20:C20) (c21:C21) (c22:C22) (c23:C23) (p0:L61) (p1:L65) (p2:L71):Nat→S8→Option (Bool)
 | 0,_=>none
 | n+1,s=>T8 Ops.std c20 c21 c22 c23 p0 p1 p2 (R8 c20 c21 c22 c23 p0 p1 p2 n) some (some s)
theorem rr8 {R:Type} (c20:C20) (c21:C21) (c22:C22) (c23:C23) (p0:L61) (p1:L65) (p2:L71) (k:AV→Objs→Option R):∀ (n:Nat) (s:S8),aloop tau Ops.std gl0 X8 (ent 20 (e20 c20) (ent 21 (e21 c21) (ent 22 (e22 c22) (ent 23 (e23 c23) gnil)))) ow [] Tryz.f8 k (I8 s) (E8 p0 p1 p2 s) n=ob (R8 c20 c21 c22 c23 p0 p1 p2 n s) (K1 k)
 | 0,s=>by cases s<;>rfl
 | n+1,s=>by rw [el8];exact nt8 Ops.std c20 c21 c22 c23 p0 p1 p2 _ _ some (K1 k) (rr8 c20 c21 c22 c23 p0 p1 p2 k n) (some s)
def F8 (c20:C20) (c21:C21) (c22:C22) (c23:C23) (p0:L61) (p1:L65) (p2:L71):Option (Bool):=T8 Ops.std c20 c21 c22 c23 p0 p1 p2 (R8 c20 c21 c22 c23 p0 p1 p2 1000000) some none
def e8 {R:Type} (c:L61→L65→L71→Option (Bool)):Ent R:=fun args objs k=>
 oCons args fun a0 l0=>oAgg a0 fun x0=>cCons x0 fun z0_0 w0_0=>cList 61 ty61 z0_0 fun p0=>cCons w0_0 fun z0_1 w0_1=>cList 65 ty65 z0_1 fun p1=>cCons w0_1 fun z0_2 w0_2=>cList 71 ty71 z0_2 fun p2=>cNil w0_2 <| oE l0 objs <| ob (c p0 p1 p2) (K1 k)
abbrev Sp8 (c:L61→L65→L71→Option (Bool)):Prop:=∀ (p0:L61) (p1:L65) (p2:L71) (y:Bool),c p0 p1 p2=some y→Spec Tryz.prog gl0 8 [.agg [.list 61 ty61 p0,.list 65 ty65 p1,.list 71 ty71 p2]] [] (.c (.bool y)) []
theorem ek8 {R:Type} {c:L61→L65→L71→Option (Bool)} (hs:Sp8 c):EOk 8 (e8 (R:=R) c):=fun args objs k r h=>by
 unfold e8 at h
 obtain ⟨a0,l0,rfl,q1⟩:=qak h
 obtain ⟨x0,rfl,q2⟩:=qav q1
 obtain ⟨z0_0,w0_0,rfl,q3⟩:=qaa q2
 obtain ⟨p0,rfl,q4⟩:=qac q3
 obtain ⟨z0_1,w0_1,rfl,q5⟩:=qaa q4
 obtain ⟨p1,rfl,q6⟩:=qac q5
 obtain ⟨z0_2,w0_2,rfl,q7⟩:=qaa q6
 obtain ⟨p2,rfl,q8⟩:=qac q7
 obtain ⟨rfl,q9⟩:=qaq q8
 obtain ⟨rfl,rfl,q11⟩:=qam q9
 exact qan (hs p0 p1 p2) q11
theorem sf8 {c20:C20} {c21:C21} {c22:C22} {c23:C23} (h20:Sp20 c20) (h21:Sp21 c21) (h22:Sp22 c22) (h23:Sp23 c23):Sp8 (F8 c20 c21 c22 c23):=fun p0 p1 p2 y hy=>by
 refine qai (qad (ek20 h20) (qad (ek21 h21) (qad (ek22 h22) (qad (ek23 h23) qah)))) 1000000 (fn:=Tryz.f8) (by kernel_rfl) (by kernel_rfl) (X:=X8) (by kernel_rfl) ?_
 rw [eq8]
 exact (nt8 Ops.std c20 c21 c22 c23 p0 p1 p2 _ _ some (K1 k0) (rr8 c20 c21 c22 c23 p0 p1 p2 k0 1000000) none).trans (by show ob (F8 c20 c21 c22 c23 p0 p1 p2) _=_;rw [hy];rfl)
noncomputable def M8:L61→L65→L71→Option (Bool):=F8 M20 M21 M22 M23
theorem sm8:Sp8 M8:=sf8 sm20 sm21 sm22 sm23
def X16:Aux:=⟨[(7,([0,1,3,4]++rg 9 101)),(2000000,[])],[(24,.lin (rg 0 12))]⟩
inductive S16 where
 | l0 (v0:Int) (v1:Int) (v2:L9) (v6:L61) (v7:L65) (v8:L71)
abbrev C37:Type:=L9→Option (LB×Int×Int×Int×Bool)
abbrev C38:Type:=LB→Option (Int×LB×LB×LB×LB×L118×L116×Bool)
abbrev C8:Type:=L61→L65→L71→Option (Bool)
def T16 {R:Type} (B:Ops) (c35:C35) (c36:C36) (c37:C37) (c39:C39) (c38:C38) (c8:C8) (p0:LB) (again:S16→Option R) (k:(L61×L65×L71×Int×Int)→Option R):Option S16→Option R | none=>cond (B.lt (60000) (↑p0.length)) (k ((mt (Ty.den ty61),mt (Ty.den ty65),mt (Ty.den ty71),14,0))) (ob (c35 p0 (10)) fun y0=>again (.l0 0 0 y0 (mt (Ty.den ty61)) (mt (Ty.den ty65)) (mt (Ty.den ty71)))) | some (.l0 v0 v1 v2 v6 v7 v8)=>cond (B.lt v1 (↑v2.length)) (cond (B.inb v1 v2.length) (cond (v2.getD v1.toNat ty9.dflt == mt UInt8) (again (.l0 v0 (IntKind.wrap .i64 (v1+1)) v2 v6 v7 v8)) (cond (B.inb v1 v2.length) (ob (c36 (v2.getD v1.toNat ty9.dflt)) fun y0=>cond (B.lt (0) (↑y0.length)) (cond (B.inb (0) y0.length) (cond (y0.getD (Int.toNat (0)) ty9.dflt == ([118,97,114]:LB)) (cond (B.inb (1) (List.length y0+1)) (ob (c37 (List.drop (Int.toNat (1)) (List.take y0.length y0))) fun y1=>cond (B.lim (List.length v6+List.length ((y1.1,y1.2.1,(y1.2.2).1,(y1.2.2.2).1)::mt (Ty.den ty61))) (40)) (cond (!(y1.2.2.2).2) (k ((mt (Ty.den ty61),mt (Ty.den ty65),mt (Ty.den ty71),2,IntKind.wrap .i64 (v1+1)))) (cond (B.lt (1) v0) (k ((mt (Ty.den ty61),mt (Ty.den ty65),mt (Ty.den ty71),2,IntKind.wrap .i64 (v1+1)))) (again (.l0 1 (IntKind.wrap .i64 (v1+1)) v2 (v6++(y1.1,y1.2.1,(y1.2.2).1,(y1.2.2.2).1)::mt (Ty.den ty61)) v7 v8)))) none) none) (cond (y0.getD (Int.toNat (0)) ty9.dflt == ([112,114,111,99]:LB)) (cond (B.lt (1) (↑y0.length)) (cond (B.inb (1) y0.length) (cond (B.inb (2) (List.length y0+1)) (cond (B.lim (List.length v7+List.length ((y0.getD (Int.toNat (1)) ty9.dflt,List.drop (Int.toNat (2)) (List.take y0.length y0))::mt (Ty.den ty65))) (40)) (cond (!B.lt (1) (↑y0.length)) (k ((mt (Ty.den ty61),mt (Ty.den ty65),mt (Ty.den ty71),2,IntKind.wrap .i64 (v1+1)))) (cond (B.lt (2) v0) (k ((mt (Ty.den ty61),mt (Ty.den ty65),mt (Ty.den ty71),2,IntKind.wrap .i64 (v1+1)))) (again (.l0 2 (IntKind.wrap .i64 (v1+1)) v2 v6 (v7++(y0.getD (Int.toNat (1)) ty9.dflt,List.drop (Int.toNat (2)) (List.take y0.length y0))::mt (Ty.den ty65)) v8)))) none) none) none) (cond (!B.lt (1) (↑y0.length)) (k ((mt (Ty.den ty61),mt (Ty.den ty65),mt (Ty.den ty71),2,IntKind.wrap .i64 (v1+1)))) (cond (B.lt (2) v0) (k ((mt (Ty.den ty61),mt (Ty.den ty65),mt (Ty.den ty71),2,IntKind.wrap .i64 (v1+1)))) (again (.l0 2 (IntKind.wrap .i64 (v1+1)) v2 v6 v7 v8))))) (cond (y0.getD (Int.toNat (0)) ty9.dflt == ([116,114,97,110,115]:LB)) (cond (B.inb v1 v2.length) (ob (c39 (v2.getD v1.toNat ty9.dflt) (1)) fun y1=>ob (c38 y1) fun y2=>cond (B.lim (List.length v8+List.length ((y2.1,y2.2.1,(y2.2.2).1,(y2.2.2.2).1,((y2.2.2.2).2).1,((y2.2.2.2.2).2).1,(((y2.2.2.2.2).2).2).1)::mt (Ty.den ty71))) (120)) (cond (!(((y2.2.2.2.2).2).2).2) (k ((mt (Ty.den ty61),mt (Ty.den ty65),mt (Ty.den ty71),2,IntKind.wrap .i64 (v1+1)))) (cond (B.lt (3) v0) (k ((mt (Ty.den ty61),mt (Ty.den ty65),mt (Ty.den ty71),2,IntKind.wrap .i64 (v1+1)))) (again (.l0 3 (IntKind.wrap .i64 (v1+1)) v2 v6 v7 (v8++(y2.1,y2.2.1,(y2.2.2).1,(y2.2.2.2).1,((y2.2.2.2).2).1,((y2.2.2.2.2).2).1,(((y2.2.2.2.2).2).2).1)::mt (Ty.den ty71)))))) none) none) (k ((mt (Ty.den ty61),mt (Ty.den ty65),mt (Ty.den ty71),2,IntKind.wrap .i64 (v1+1))))))) none) (k ((mt (Ty.den ty61),mt (Ty.den ty65),mt (Ty.den ty71),2,IntKind.wrap .i64 (v1+1))))) none)) none) (ob (c8 v6 v7 v8) fun y0=>cond (!y0) (k ((mt (Ty.den ty61),mt (Ty.den ty65),mt (Ty.den ty71),2,0))) (k ((v6,v7,v8,0,0))))
def E16 (p0:LB):S16→List AV×Objs
 | .l0 v0 v1 v2 v6 v7 v8=>(mk 110 [(2,.c (.ptr 2 0)),(5,.c (.ptr 5 0)),(6,.c (.int .i64 v0)),(7,.c (.own 7)),(8,.c (.int .i64 v1))],[(2,.box 31 [.own 3000,.own 3001,.own 3002]),(5,.box 31 [.own 6000,.own 6001,.own 6002]),(7,.row 9 ty9 v2),(3000,.row 61 ty61 (mt (Ty.den ty61))),(3001,.row 65 ty65 (mt (Ty.den ty65))),(3002,.row 71 ty71 (mt (Ty.den ty71))),(6000,.row 61 ty61 v6),(6001,.row 65 ty65 v7),(6002,.row 71 ty71 v8)])
def I16:S16→Nat
 | .l0 _ _ _ _ _ _=>0
abbrev K25 {R:Type} (k:AV→Objs→Option R) (y:(L61×L65×L71×Int×Int)):Option R:=k (.tup [(true,[.list 61 ty61 y.1,.list 65 ty65 y.2.1,.list 71 ty71 y.2.2.1]),(false,[.int .i64 y.2.2.2.1]),(false,[.int .i64 y.2.2.2.2])]) []
theorem eq16 {R:Type} (B:Ops) (c35:C35) (c36:C36) (c37:C37) (c39:C39) (c38:C38) (c8:C8) (p0:LB) (k:AV→Objs→Option R) (n:Nat):afun tau B gl0 X16 (ent 35 (e35 c35) (ent 36 (e36 c36) (ent 37 (e37 c37) (ent 39 (e39 c39) (ent 38 (e38 c38) (ent 8 (e8 c8) gnil)))))) ow Tryz.f16 [.c (.str p0)] [] k n=T16 B c35 c36 c37 c39 c38 c8 p0 (fun s=>aloop tau B gl0 X16 (ent 35 (e35 c35) (ent 36 (e36 c36) (ent 37 (e37 c37) (ent 39 (e39 c39) (ent 38 (e38 c38) (ent 8 (e8 c8) gnil)))))) ow [] Tryz.f16 k (I16 s) (E16 p0 s) n) (K25 k) none:=by kernel_rfl
theorem el16 {R:Type} (B:Ops) (c35:C35) (c36:C36) (c37:C37) (c39:C39) (c38:C38) (c8:C8) (p0:LB) (k:AV→Objs→Option R) (n:Nat):∀ s,aloop tau B gl0 X16 (ent 35 (e35 c35) (ent 36 (e36 c36) (ent 37 (e37 c37) (ent 39 (e39 c39) (ent 38 (e38 c38) (ent 8 (e8 c8) gnil)))))) ow [] Tryz.f16 k (I16 s) (E16 p0 s) (n+1)=T16 B c35 c36 c37 c39 c38 c8 p0 (fun s=>aloop tau B gl0 X16 (ent 35 (e35 c35) (ent 36 (e36 c36) (ent 37 (e37 c37) (ent 39 (e39 c39) (ent 38 (e38 c38) (ent 8 (e8 c8) gnil)))))) ow [] Tryz.f16 k (I16 s) (E16 p0 s) n) (K25 k) (some s):=by
 intro s
 cases s<;>kernel_rfl
theorem nt16 {R R':Type} (B:Ops) (c35:C35) (c36:C36) (c37:C37) (c39:C39) (c38:C38) (c8:C8) (p0:LB) (again:S16→Option R) (again':S16→Option R') (k0:(L61×L65×L71×Int×Int)→Option R') (k:R'→Option R) (h:∀ s,again s=ob (again' s) k):∀ s,T16 B c35 c36 c37 c39 c38 c8 p0 again (fun y=>ob (k0 y) k) s=ob (T16 B c35 c36 c37 c39 c38 c8 p0 again' k0 s) k:=by
 rintro (_ | x)
 all_goals try cases x
 all_goals (unfold T16;repeat' first | exact rfl | exact h _ | apply qae | (apply qao;intro))
def R16 (c35:C35) (c36:C36) (c37:C37) (c39:C39) (c38:C38) (c8:C8) (p0:LB):Nat→S16→Option (L61×L65×L71×Int×Int)
 | 0,_=>none
 | n+1,s=>T16 Ops.std c35 c36 c37 c39 c38 c8 p0 (R16 c35 c36 c37 c39 c38 c8 p0 n) some (some s)
theorem rr16 {R:Type} (c35:C35) (c36:C36) (c37:C37) (c39:C39) (c38:C38) (c8:C8) (p0:LB) (k:AV→Objs→Option R):∀ (n:Nat) (s:S16),aloop tau Ops.std gl0 X16 (ent 35 (e35 c35) (ent 36 (e36 c36) (ent 37 (e37 c37) (ent 39 (e39 c39) (ent 38 (e38 c38) (ent 8 (e8 c8) gnil)))))) ow [] Tryz.f16 k (I16 s) (E16 p0 s) n=ob (R16 c35 c36 c37 c39 c38 c8 p0 n s) (K25 k)
 | 0,s=>by cases s<;>rfl
 | n+1,s=>by rw [el16];exact nt16 Ops.std c35 c36 c37 c39 c38 c8 p0 _ _ some (K25 k) (rr16 c35 c36 c37 c39 c38 c8 p0 k n) (some s)
def F16 (c35:C35) (c36:C36) (c37:C37) (c39:C39) (c38:C38) (c8:C8) (p0:LB):Option (L61×L65×L71×Int×Int):=T16 Ops.std c35 c36 c37 c39 c38 c8 p0 (R16 c35 c36 c37 c39 c38 c8 p0 1000000) some none
def e16 {R:Type} (c:LB→Option (L61×L65×L71×Int×Int)):Ent R:=fun args objs k=>
 oS args fun p0 l0=>oE l0 objs <| ob (c p0) (K25 k)
abbrev Sp16 (c:LB→Option (L61×L65×L71×Int×Int)):Prop:=∀ (p0:LB) (y:L61×L65×L71×Int×Int),c p0=some y→Spec Tryz.prog gl0 16 [.c (.str p0)] [] (.tup [(true,[.list 61 ty61 y.1,.list 65 ty65 y.2.1,.list 71 ty71 y.2.2.1]),(false,[.int .i64 y.2.2.2.1]),(false,[.int .i64 y.2.2.2.2])]) []
theorem ek16 {R:Type} {c:LB→Option (L61×L65×L71×Int×Int)} (hs:Sp16 c):EOk 16 (e16 (R:=R) c):=fun args objs k r h=>by
 unfold e16 at h
 obtain ⟨p0,l0,rfl,q3⟩:=qa9 h
 obtain ⟨rfl,rfl,q5⟩:=qam q3
 exact qan (hs p0) q5
theorem sf16 {c35:C35} {c36:C36} {c37:C37} {c39:C39} {c38:C38} {c8:C8} (h35:Sp35 c35) (h36:Sp36 c36) (h37:Sp37 c37) (h39:Sp39 c39) (h38:Sp38 c38) (h8:Sp8 c8):Sp16 (F16 c35 c36 c37 c39 c38 c8):=fun p0 y hy=>by
 refine qai (qad (ek35 h35) (qad (ek36 h36) (qad (ek37 h37) (qad (ek39 h39) (qad (ek38 h38) (qad (ek8 h8) qah)))))) 1000000 (fn:=Tryz.f16) (by kernel_rfl) (by kernel_rfl) (X:=X16) (by kernel_rfl) ?_
 rw [eq16]
 exact (nt16 Ops.std c35 c36 c37 c39 c38 c8 p0 _ _ some (K25 k0) (rr16 c35 c36 c37 c39 c38 c8 p0 k0 1000000) none).trans (by show ob (F16 c35 c36 c37 c39 c38 c8 p0) _=_;rw [hy];rfl)
noncomputable def M16:LB→Option (L61×L65×L71×Int×Int):=F16 M35 M36 M37 M39 M38 M8
theorem sm16:Sp16 M16:=sf16 sm35 sm36 sm37 sm39 sm38 sm8
def X5:Aux:=⟨[],[]⟩
abbrev C17:Type:=Int→Int→L22→Option (LB)
abbrev C16:Type:=LB→Option (L61×L65×L71×Int×Int)
def T5 {R:Type} (B:Ops) (c17:C17) (c16:C16) (p0:Int) (p1:Int) (p2:L22) (k:(L61×L65×L71)→Option R):Option R:=ob (c17 p0 p1 p2) fun y0=>ob (c16 y0) fun y1=>k ((y1.1,y1.2.1,(y1.2.2).1))
abbrev K26 {R:Type} (k:AV→Objs→Option R) (y:(L61×L65×L71)):Option R:=k (.agg [.list 61 ty61 y.1,.list 65 ty65 y.2.1,.list 71 ty71 y.2.2]) []
theorem eq5 {R:Type} (B:Ops) (c17:C17) (c16:C16) (p0:Int) (p1:Int) (p2:L22) (k:AV→Objs→Option R) (n:Nat):afun tau B gl0 X5 (ent 17 (e17 c17) (ent 16 (e16 c16) gnil)) ow Tryz.f5 [.agg [.int .i64 p0,.int .i64 p1,.list 22 ty22 p2]] [] k n=T5 B c17 c16 p0 p1 p2 (K26 k):=by kernel_rfl
theorem nt5 {R R':Type} (B:Ops) (c17:C17) (c16:C16) (p0:Int) (p1:Int) (p2:L22) (k0:(L61×L65×L71)→Option R') (k:R'→Option R):T5 B c17 c16 p0 p1 p2 (fun y=>ob (k0 y) k)=ob (T5 B c17 c16 p0 p1 p2 k0) k:=by
 unfold T5
 repeat' first | exact rfl | apply qae | (apply qao;intro)
def F5 (c17:C17) (c16:C16) (p0:Int) (p1:Int) (p2:L22):Option (L61×L65×L71):=T5 Ops.std c17 c16 p0 p1 p2 some
def e5 {R:Type} (c:Int→Int→L22→Option (L61×L65×L71)):Ent R:=fun args objs k=>
 oCons args fun a0 l0=>oAgg a0 fun x0=>cCons x0 fun z0_0 w0_0=>cInt .i64 z0_0 fun p0=>cCons w0_0 fun z0_1 w0_1=>cInt .i64 z0_1 fun p1=>cCons w0_1 fun z0_2 w0_2=>cList 22 ty22 z0_2 fun p2=>cNil w0_2 <| oE l0 objs <| ob (c p0 p1 p2) (K26 k)
abbrev Sp5 (c:Int→Int→L22→Option (L61×L65×L71)):Prop:=∀ (p0:Int) (p1:Int) (p2:L22) (y:L61×L65×L71),c p0 p1 p2=some y→Spec Tryz.prog gl0 5 [.agg [.int .i64 p0,.int .i64 p1,.list 22 ty22 p2]] [] (.agg [.list 61 ty61 y.1,.list 65 ty65 y.2.1,.list 71 ty71 y.2.2]) []
theorem ek5 {R:Type} {c:Int→Int→L22→Option (L61×L65×L71)} (hs:Sp5 c):EOk 5 (e5 (R:=R) c):=fun args objs k r h=>by
 unfold e5 at h
 obtain ⟨a0,l0,rfl,q1⟩:=qak h
 obtain ⟨x0,rfl,q2⟩:=qav q1
 obtain ⟨z0_0,w0_0,rfl,q3⟩:=qaa q2
 obtain ⟨p0,rfl,q4⟩:=qar q3
 obtain ⟨z0_1,w0_1,rfl,q5⟩:=qaa q4
 obtain ⟨p1,rfl,q6⟩:=qar q5
 obtain ⟨z0_2,w0_2,rfl,q7⟩:=qaa q6
 obtain ⟨p2,rfl,q8⟩:=qac q7
 obtain ⟨rfl,q9⟩:=qaq q8
 obtain ⟨rfl,rfl,q11⟩:=qam q9
 exact qan (hs p0 p1 p2) q11
theorem sf5 {c17:C17} {c16:C16} (h17:Sp17 c17) (h16:Sp16 c16):Sp5 (F5 c17 c16):=fun p0 p1 p2 y hy=>by
 refine qai (qad (ek17 h17) (qad (ek16 h16) qah)) 1000000 (fn:=Tryz.f5) (by kernel_rfl) (by kernel_rfl) (X:=X5) (by kernel_rfl) ?_
 rw [eq5]
 exact (nt5 Ops.std c17 c16 p0 p1 p2 some (K26 k0)).trans (by show ob (F5 c17 c16 p0 p1 p2) _=_;rw [hy];rfl)
noncomputable def M5:Int→Int→L22→Option (L61×L65×L71):=F5 M17 M16
theorem sm5:Sp5 M5:=sf5 sm17 sm16
def e19 {R:Type} (c:Int→L3→Int→Option (LB×L3×Int)):Ent R:=fun args objs k=>
 oCons args fun a0 l0=>oC a0 fun x0=>cPtr 0 x0 <| oI l0 .i64 fun p0 l1=>oNil l1 <| oBox 0 57 objs fun b0 o0=>cCons b0 fun u0_0 v0=>cList 3 ty3 u0_0 fun p1=>cCons v0 fun u0_1 v1=>cInt .i64 u0_1 fun p2=>cNil v1 <| oNilO o0 <| ob (c p0 p1 p2) (K18 k)
abbrev Sp19 (c:Int→L3→Int→Option (LB×L3×Int)):Prop:=∀ (p0:Int) (p1:L3) (p2:Int) (y:LB×L3×Int),c p0 p1 p2=some y→Spec Tryz.prog gl0 19 [.c (.ptr 0 0),.c (.int .i64 p0)] [(0,.box 57 [.list 3 ty3 p1,.int .i64 p2])] (.c (.str y.1)) [(0,.box 57 [.list 3 ty3 y.2.1,.int .i64 y.2.2])]
theorem ek19 {R:Type} {c:Int→L3→Int→Option (LB×L3×Int)} (hs:Sp19 c):EOk 19 (e19 (R:=R) c):=fun args objs k r h=>by
 unfold e19 at h
 obtain ⟨a0,l0,rfl,q1⟩:=qak h
 obtain ⟨x0,rfl,q2⟩:=qa5 q1
 obtain ⟨rfl,q3⟩:=qa3 q2
 obtain ⟨p0,l1,rfl,q6⟩:=qas q3
 obtain ⟨rfl,q7⟩:=qa2 q6
 obtain ⟨b0,o0,rfl,q8⟩:=qa4 q7
 obtain ⟨u0_0,v0,rfl,q9⟩:=qaa q8
 obtain ⟨p1,rfl,q10⟩:=qac q9
 obtain ⟨u0_1,v1,rfl,q11⟩:=qaa q10
 obtain ⟨p2,rfl,q12⟩:=qar q11
 obtain ⟨rfl,q13⟩:=qaq q12
 obtain ⟨rfl,q14⟩:=qay q13
 exact qan (hs p0 p1 p2) q14
def X19:Aux:=⟨[(1000004,([2,3,4]++rg 6 105))],[(11,.lin ([0,1,2,5,6,10,11,12,3,4,7,8,9,13,14,15,16])),(13,.lin ([0,1,2,5,6,10,11,12,3,4,7,8,9,13,14,15,16]))]⟩
inductive S19 where
 | l1004 (v1:Int) (v2:L3) (v3:Int)
abbrev C19:Type:=Int→L3→Int→Option (LB×L3×Int)
def T19 {R:Type} (B:Ops) (c46:C46) (c19:C19) (p0:Int) (p1:L3) (p2:Int) (again:S19→Option R) (k:(LB×L3×Int)→Option R):Option S19→Option R | none=>ob (c46 (22) p1 p2) fun y0=>cond (B.lt (2) p0) (cond (B.eq (4) (0)) none (again (.l1004 (IntKind.wrap .i64 (18+Int.tmod y0.1 (4))) y0.2.1 y0.2.2))) (cond (B.lt (9) y0.2.2) (cond (B.eq (4) (0)) none (again (.l1004 (IntKind.wrap .i64 (18+Int.tmod y0.1 (4))) y0.2.1 y0.2.2))) (again (.l1004 y0.1 y0.2.1 y0.2.2))) | some (.l1004 v1 v2 v3)=>cond (B.lt v1 (3)) (ob (c19 (IntKind.wrap .i64 (p0+1)) v2 v3) fun y0=>cond (B.lim (3+List.length y0.1) (1)) (cond (B.lim (List.length (([71,32,40]:LB)++y0.1)+1) (1)) (k ((([71,32,40]:LB)++y0.1++([41]:LB),y0.2.1,y0.2.2))) none) none) (cond (B.lt v1 (6)) (ob (c19 (IntKind.wrap .i64 (p0+1)) v2 v3) fun y0=>cond (B.lim (3+List.length y0.1) (1)) (cond (B.lim (List.length (([70,32,40]:LB)++y0.1)+1) (1)) (k ((([70,32,40]:LB)++y0.1++([41]:LB),y0.2.1,y0.2.2))) none) none) (cond (B.lt v1 (8)) (ob (c19 (IntKind.wrap .i64 (p0+1)) v2 v3) fun y0=>cond (B.lim (2+List.length y0.1) (1)) (k ((([88,32]:LB)++y0.1,y0.2.1,y0.2.2))) none) (cond (B.lt v1 (11)) (ob (c19 (IntKind.wrap .i64 (p0+1)) v2 v3) fun y0=>cond (B.lim (1+List.length y0.1) (1)) (ob (c46 (2) y0.2.1 y0.2.2) fun y1=>cond (B.inb y1.1 (2)) (cond (B.lim (List.length (([40]:LB)++y0.1)+List.length (List.getD (([32,85,32]:LB)::([32,82,32]:LB)::mt LB) (Int.toNat y1.1) (mt UInt8))) (1)) (ob (c19 (IntKind.wrap .i64 (p0+1)) y1.2.1 y1.2.2) fun y2=>cond (B.lim (List.length (([40]:LB)++y0.1++List.getD (([32,85,32]:LB)::([32,82,32]:LB)::mt LB) (Int.toNat y1.1) (mt UInt8))+List.length y2.1) (1)) (cond (B.lim (List.length (([40]:LB)++y0.1++List.getD (([32,85,32]:LB)::([32,82,32]:LB)::mt LB) (Int.toNat y1.1) (mt UInt8)++y2.1)+1) (1)) (k ((([40]:LB)++y0.1++List.getD (([32,85,32]:LB)::([32,82,32]:LB)::mt LB) (Int.toNat y1.1) (mt UInt8)++y2.1++([41]:LB),y2.2.1,y2.2.2))) none) none) none) none) none) (cond (B.lt v1 (15)) (ob (c19 (IntKind.wrap .i64 (p0+1)) v2 v3) fun y0=>cond (B.lim (1+List.length y0.1) (1)) (ob (c46 (3) y0.2.1 y0.2.2) fun y1=>cond (B.inb y1.1 (3)) (cond (B.lim (List.length (([40]:LB)++y0.1)+List.length (List.getD (([32,38,38,32]:LB)::([32,124,124,32]:LB)::([32,45,62,32]:LB)::mt LB) (Int.toNat y1.1) (mt UInt8))) (1)) (ob (c19 (IntKind.wrap .i64 (p0+1)) y1.2.1 y1.2.2) fun y2=>cond (B.lim (List.length (([40]:LB)++y0.1++List.getD (([32,38,38,32]:LB)::([32,124,124,32]:LB)::([32,45,62,32]:LB)::mt LB) (Int.toNat y1.1) (mt UInt8))+List.length y2.1) (1)) (cond (B.lim (List.length (([40]:LB)++y0.1++List.getD (([32,38,38,32]:LB)::([32,124,124,32]:LB)::([32,45,62,32]:LB)::mt LB) (Int.toNat y1.1) (mt UInt8)++y2.1)+1) (1)) (k ((([40]:LB)++y0.1++List.getD (([32,38,38,32]:LB)::([32,124,124,32]:LB)::([32,45,62,32]:LB)::mt LB) (Int.toNat y1.1) (mt UInt8)++y2.1++([41]:LB),y2.2.1,y2.2.2))) none) none) none) none) none) (cond (B.lt v1 (17)) (ob (c19 (IntKind.wrap .i64 (p0+1)) v2 v3) fun y0=>cond (B.lim (1+List.length y0.1) (1)) (k ((([33]:LB)++y0.1,y0.2.1,y0.2.2))) none) (cond (B.eq v1 (17)) (ob (c19 (IntKind.wrap .i64 (p0+1)) v2 v3) fun y0=>cond (B.lim (4+List.length y0.1) (1)) (k ((([71,32,70,32]:LB)++y0.1,y0.2.1,y0.2.2))) none) (cond (B.eq v1 (18)) (ob (c46 (2) v2 v3) fun y0=>cond (B.inb y0.1 (2)) (k ((List.getD (([116,114,117,101]:LB)::([102,97,108,115,101]:LB)::mt LB) (Int.toNat y0.1) (mt UInt8),y0.2.1,y0.2.2))) none) (ob (c46 (6) v2 v3) fun y0=>cond (B.inb y0.1 (6)) (k ((List.getD (([91,120,61,61,49,93]:LB)::([91,112,64,97,93]:LB)::([91,121,60,49,93]:LB)::([91,113,64,98,38,38,120,62,48,93]:LB)::([91,120,61,61,121,93]:LB)::([91,112,64,98,93]:LB)::mt LB) (Int.toNat y0.1) (mt UInt8),y0.2.1,y0.2.2))) none))))))))
def E19 (p0:Int) (p1:L3) (p2:Int):S19→List AV×Objs
 | .l1004 v1 v2 v3=>(mk 111 [(0,.c (.ptr 0 0)),(1,.c (.int .i64 p0)),(5,.c (.int .i64 v1))],[(0,.box 57 [.list 3 ty3 v2,.int .i64 v3])])
def I19:S19→Nat
 | .l1004 _ _ _=>1004
theorem eq19 {R:Type} (B:Ops) (c46:C46) (c19:C19) (p0:Int) (p1:L3) (p2:Int) (k:AV→Objs→Option R) (n:Nat):afun tau B gl0 X19 (ent 46 (e46 c46) (ent 19 (e19 c19) gnil)) ow Tryz.f19 [.c (.ptr 0 0),.c (.int .i64 p0)] [(0,.box 57 [.list 3 ty3 p1,.int .i64 p2])] k n=T19 B c46 c19 p0 p1 p2 (fun s=>aloop tau B gl0 X19 (ent 46 (e46 c46) (ent 19 (e19 c19) gnil)) ow [0] Tryz.f19 k (I19 s) (E19 p0 p1 p2 s) n) (K18 k) none:=by kernel_rfl
theorem el19 {R:Type} (B:Ops) (c46:C46) (c19:C19) (p0:Int) (p1:L3) (p2:Int) (k:AV→Objs→Option R) (n:Nat):∀ s,aloop tau B gl0 X19 (ent 46 (e46 c46) (ent 19 (e19 c19) gnil)) ow [0] Tryz.f19 k (I19 s) (E19 p0 p1 p2 s) (n+1)=T19 B c46 c19 p0 p1 p2 (fun s=>aloop tau B gl0 X19 (ent 46 (e46 c46) (ent 19 (e19 c19) gnil)) ow [0] Tryz.f19 k (I19 s) (E19 p0 p1 p2 s) n) (K18 k) (some s):=by
 intro s
 cases s<;>kernel_rfl
theorem nt19 {R R':Type} (B:Ops) (c46:C46) (c19:C19) (p0:Int) (p1:L3) (p2:Int) (again:S19→Option R) (again':S19→Option R') (k0:(LB×L3×Int)→Option R') (k:R'→Option R) (h:∀ s,again s=ob (again' s) k):∀ s,T19 B c46 c19 p0 p1 p2 again (fun y=>ob (k0 y) k) s=ob (T19 B c46 c19 p0 p1 p2 again' k0 s) k:=by
 rintro (_ | x)
 all_goals try cases x
 all_goals (unfold T19;repeat' first | exact rfl | exact h _ | apply qae | (apply qao;intro))
def R19 (c46:C46) (c19:C19) (p0:Int) (p1:L3) (p2:Int):Nat→S19→Option (LB×L3×Int)
 | 0,_=>none
 | n+1,s=>T19 Ops.std c46 c19 p0 p1 p2 (R19 c46 c19 p0 p1 p2 n) some (some s)
theorem rr19 {R:Type} (c46:C46) (c19:C19) (p0:Int) (p1:L3) (p2:Int) (k:AV→Objs→Option R):∀ (n:Nat) (s:S19),aloop tau Ops.std gl0 X19 (ent 46 (e46 c46) (ent 19 (e19 c19) gnil)) ow [0] Tryz.f19 k (I19 s) (E19 p0 p1 p2 s) n=ob (R19 c46 c19 p0 p1 p2 n s) (K18 k)
 | 0,s=>by cases s<;>rfl
 | n+1,s=>by rw [el19];exact nt19 Ops.std c46 c19 p0 p1 p2 _ _ some (K18 k) (rr19 c46 c19 p0 p1 p2 k n) (some s)
def F19 (c46:C46) (c19:C19) (p0:Int) (p1:L3) (p2:Int):Option (LB×L3×Int):=T19 Ops.std c46 c19 p0 p1 p2 (R19 c46 c19 p0 p1 p2 1000000) some none
theorem sf19 {c46:C46} {c19:C19} (h46:Sp46 c46) (h19:Sp19 c19):Sp19 (F19 c46 c19):=fun p0 p1 p2 y hy=>by
 refine qai (qad (ek46 h46) (qad (ek19 h19) qah)) 1000000 (fn:=Tryz.f19) (by kernel_rfl) (by kernel_rfl) (X:=X19) (by kernel_rfl) ?_
 rw [eq19]
 exact (nt19 Ops.std c46 c19 p0 p1 p2 _ _ some (K18 k0) (rr19 c46 c19 p0 p1 p2 k0 1000000) none).trans (by show ob (F19 c46 c19 p0 p1 p2) _=_;rw [hy];rfl)
noncomputable def Rec19:Nat→(Int→L3→Int→Option (LB×L3×Int))
 | 0=>fun _ _ _=>none
 | d+1=>F19 M46 (Rec19 d)
theorem rec19:∀ d,Sp19 (Rec19 d)
 | 0=>fun p0 p1 p2 y (h:(none:Option (LB×L3×Int))=some y)=>by cases h
 | d+1=>sf19 sm46 (rec19 d)
noncomputable def M19:Int→L3→Int→Option (LB×L3×Int):=(Rec19 1000000)
theorem sm19:Sp19 M19:=(rec19 1000000)
def X7:Aux:=⟨[],[]⟩
def T7 {R:Type} (B:Ops) (c19:C19) (p0:L3) (k:(LB)→Option R):Option R:=ob (c19 (0) p0 (0)) fun y0=>k y0.1
theorem eq7 {R:Type} (B:Ops) (c19:C19) (p0:L3) (k:AV→Objs→Option R) (n:Nat):afun tau B gl0 X7 (ent 19 (e19 c19) gnil) ow Tryz.f7 [.c (.list 3 ty3 p0)] [] k n=T7 B c19 p0 (K2 k):=by kernel_rfl
theorem nt7 {R R':Type} (B:Ops) (c19:C19) (p0:L3) (k0:(LB)→Option R') (k:R'→Option R):T7 B c19 p0 (fun y=>ob (k0 y) k)=ob (T7 B c19 p0 k0) k:=by
 unfold T7
 repeat' first | exact rfl | apply qae | (apply qao;intro)
def F7 (c19:C19) (p0:L3):Option (LB):=T7 Ops.std c19 p0 some
def e7 {R:Type} (c:L3→Option (LB)):Ent R:=fun args objs k=>
 oL args 3 ty3 fun p0 l0=>oE l0 objs <| ob (c p0) (K2 k)
abbrev Sp7 (c:L3→Option (LB)):Prop:=∀ (p0:L3) (y:LB),c p0=some y→Spec Tryz.prog gl0 7 [.c (.list 3 ty3 p0)] [] (.c (.str y)) []
theorem ek7 {R:Type} {c:L3→Option (LB)} (hs:Sp7 c):EOk 7 (e7 (R:=R) c):=fun args objs k r h=>by
 unfold e7 at h
 obtain ⟨p0,l0,rfl,q3⟩:=qa1 h
 obtain ⟨rfl,rfl,q5⟩:=qam q3
 exact qan (hs p0) q5
theorem sf7 {c19:C19} (h19:Sp19 c19):Sp7 (F7 c19):=fun p0 y hy=>by
 refine qai (qad (ek19 h19) qah) 1000000 (fn:=Tryz.f7) (by kernel_rfl) (by kernel_rfl) (X:=X7) (by kernel_rfl) ?_
 rw [eq7]
 exact (nt7 Ops.std c19 p0 some (K2 k0)).trans (by show ob (F7 c19 p0) _=_;rw [hy];rfl)
noncomputable def M7:L3→Option (LB):=F7 M19
theorem sm7:Sp7 M7:=sf7 sm19
def X9:Aux:=⟨[(2,([0,3,4]++rg 6 24))],[(4,.lin (rg 0 16))]⟩
inductive S9 where
 | l0 (v1:Int)
def T9 {R:Type} (B:Ops) (c24:C24) (c25:C25) (p0:L61) (p1:L65) (p2:L71) (p3:L73) (again:S9→Option R) (k:(Bool)→Option R):Option S9→Option R | none=>again (.l0 0) | some (.l0 v1)=>cond (B.lt v1 (↑p3.length)) (cond (B.inb v1 p3.length) (cond (B.eq ((p3.getD v1.toNat ty73.dflt).1) (3)) (cond (B.inb v1 p3.length) (ob (c24 p0 p1 p2 ((p3.getD v1.toNat ty73.dflt).2)) fun y0=>cond (!y0) (k false) (again (.l0 (IntKind.wrap .i64 (v1+1))))) none) (again (.l0 (IntKind.wrap .i64 (v1+1))))) none) (ob (c25 p3) fun y0=>k y0)
def E9 (p0:L61) (p1:L65) (p2:L71) (p3:L73):S9→List AV×Objs
 | .l0 v1=>(mk 30 [(1,.c (.list 73 ty73 p3)),(2,.c (.ptr 2 0)),(5,.c (.int .i64 v1))],[(2,.box 31 [.list 61 ty61 p0,.list 65 ty65 p1,.list 71 ty71 p2])])
def I9:S9→Nat
 | .l0 _=>0
theorem eq9 {R:Type} (B:Ops) (c24:C24) (c25:C25) (p0:L61) (p1:L65) (p2:L71) (p3:L73) (k:AV→Objs→Option R) (n:Nat):afun tau B gl0 X9 (ent 24 (e24 c24) (ent 25 (e25 c25) gnil)) ow Tryz.f9 [.agg [.list 61 ty61 p0,.list 65 ty65 p1,.list 71 ty71 p2],.c (.list 73 ty73 p3)] [] k n=T9 B c24 c25 p0 p1 p2 p3 (fun s=>aloop tau B gl0 X9 (ent 24 (e24 c24) (ent 25 (e25 c25) gnil)) ow [] Tryz.f9 k (I9 s) (E9 p0 p1 p2 p3 s) n) (K1 k) none:=by kernel_rfl
theorem el9 {R:Type} (B:Ops) (c24:C24) (c25:C25) (p0:L61) (p1:L65) (p2:L71) (p3:L73) (k:AV→Objs→Option R) (n:Nat):∀ s,aloop tau B gl0 X9 (ent 24 (e24 c24) (ent 25 (e25 c25) gnil)) ow [] Tryz.f9 k (I9 s) (E9 p0 p1 p2 p3 s) (n+1)=T9 B c24 c25 p0 p1 p2 p3 (fun s=>aloop tau B gl0 X9 (ent 24 (e24 c24) (ent 25 (e25 c25) gnil)) ow [] Tryz.f9 k (I9 s) (E9 p0 p1 p2 p3 s) n) (K1 k) (some s):=by
 intro s
 cases s<;>kernel_rfl
theorem nt9 {R R':Type} (B:Ops) (c24:C24) (c25:C25) (p0:L61) (p1:L65) (p2:L71) (p3:L73) (again:S9→Option R) (again':S9→Option R') (k0:(Bool)→Option R') (k:R'→Option R) (h:∀ s,again s=ob (again' s) k):∀ s,T9 B c24 c25 p0 p1 p2 p3 again (fun y=>ob (k0 y) k) s=ob (T9 B c24 c25 p0 p1 p2 p3 again' k0 s) k:=by
 rintro (_ | x)
 all_goals try cases x
 all_goals (unfold T9;repeat' first | exact rfl | exact h _ | apply qae | (apply qao;intro))
def R9 (c24:C24) (c25:C25) (p0:L61) (p1:L65) (p2:L71) (p3:L73):Nat→S9→Option (Bool)
 | 0,_=>none
 | n+1,s=>T9 Ops.std c24 c25 p0 p1 p2 p3 (R9 c24 c25 p0 p1 p2 p3 n) some (some s)
theorem rr9 {R:Type} (c24:C24) (c25:C25) (p0:L61) (p1:L65) (p2:L71) (p3:L73) (k:AV→Objs→Option R):∀ (n:Nat) (s:S9),aloop tau Ops.std gl0 X9 (ent 24 (e24 c24) (ent 25 (e25 c25) gnil)) ow [] Tryz.f9 k (I9 s) (E9 p0 p1 p2 p3 s) n=ob (R9 c24 c25 p0 p1 p2 p3 n s) (K1 k)
 | 0,s=>by cases s<;>rfl
 | n+1,s=>by rw [el9];exact nt9 Ops.std c24 c25 p0 p1 p2 p3 _ _ some (K1 k) (rr9 c24 c25 p0 p1 p2 p3 k n) (some s)
def F9 (c24:C24) (c25:C25) (p0:L61) (p1:L65) (p2:L71) (p3:L73):Option (Bool):=T9 Ops.std c24 c25 p0 p1 p2 p3 (R9 c24 c25 p0 p1 p2 p3 1000000) some none
def e9 {R:Type} (c:L61→L65→L71→L73→Option (Bool)):Ent R:=fun args objs k=>
 oCons args fun a0 l0=>oAgg a0 fun x0=>cCons x0 fun z0_0 w0_0=>cList 61 ty61 z0_0 fun p0=>cCons w0_0 fun z0_1 w0_1=>cList 65 ty65 z0_1 fun p1=>cCons w0_1 fun z0_2 w0_2=>cList 71 ty71 z0_2 fun p2=>cNil w0_2 <| oL l0 73 ty73 fun p3 l1=>oE l1 objs <| ob (c p0 p1 p2 p3) (K1 k)
abbrev Sp9 (c:L61→L65→L71→L73→Option (Bool)):Prop:=∀ (p0:L61) (p1:L65) (p2:L71) (p3:L73) (y:Bool),c p0 p1 p2 p3=some y→Spec Tryz.prog gl0 9 [.agg [.list 61 ty61 p0,.list 65 ty65 p1,.list 71 ty71 p2],.c (.list 73 ty73 p3)] [] (.c (.bool y)) []
theorem ek9 {R:Type} {c:L61→L65→L71→L73→Option (Bool)} (hs:Sp9 c):EOk 9 (e9 (R:=R) c):=fun args objs k r h=>by
 unfold e9 at h
 obtain ⟨a0,l0,rfl,q1⟩:=qak h
 obtain ⟨x0,rfl,q2⟩:=qav q1
 obtain ⟨z0_0,w0_0,rfl,q3⟩:=qaa q2
 obtain ⟨p0,rfl,q4⟩:=qac q3
 obtain ⟨z0_1,w0_1,rfl,q5⟩:=qaa q4
 obtain ⟨p1,rfl,q6⟩:=qac q5
 obtain ⟨z0_2,w0_2,rfl,q7⟩:=qaa q6
 obtain ⟨p2,rfl,q8⟩:=qac q7
 obtain ⟨rfl,q9⟩:=qaq q8
 obtain ⟨p3,l1,rfl,q12⟩:=qa1 q9
 obtain ⟨rfl,rfl,q14⟩:=qam q12
 exact qan (hs p0 p1 p2 p3) q14
theorem sf9 {c24:C24} {c25:C25} (h24:Sp24 c24) (h25:Sp25 c25):Sp9 (F9 c24 c25):=fun p0 p1 p2 p3 y hy=>by
 refine qai (qad (ek24 h24) (qad (ek25 h25) qah)) 1000000 (fn:=Tryz.f9) (by kernel_rfl) (by kernel_rfl) (X:=X9) (by kernel_rfl) ?_
 rw [eq9]
 exact (nt9 Ops.std c24 c25 p0 p1 p2 p3 _ _ some (K1 k0) (rr9 c24 c25 p0 p1 p2 p3 k0 1000000) none).trans (by show ob (F9 c24 c25 p0 p1 p2 p3) _=_;rw [hy];rfl)
noncomputable def M9:L61→L65→L71→L73→Option (Bool):=F9 M24 M25
theorem sm9:Sp9 M9:=sf9 sm24 sm25
def X26:Aux:=⟨[(3,([0,3]++rg 7 65)),(7,([0,3,6]++rg 8 64))],[(5,.lin (rg 0 18)),(9,.lin (rg 0 33))]⟩
inductive S26 where
 | l0 (v1:Int) (v7:L3)
 | l1 (v1:Int) (v7:L3) (v8:L3)
def T26 {R:Type} (B:Ops) (c40:C40) (p0:L61) (p1:L65) (p2:L71) (p3:Int) (again:S26→Option R) (k:(L3×L3)→Option R):Option S26→Option R | none=>again (.l0 0 (mt (Ty.den (Ty.int .i64)))) | some (.l0 v1 v7)=>cond (B.lt v1 (↑p1.length)) (cond (B.eq (IntKind.wrap .i64 (1+v1)) (0)) none (cond (B.inb v1 p1.length) (ob (c40 (IntKind.wrap .i64 (Int.tdiv p3 (IntKind.wrap .i64 (1+v1)))) (Nat.cast (List.length ((p1.getD v1.toNat ty65.dflt).2)))) fun y0=>cond (B.lim (List.length v7+List.length (y0::mt (Ty.den (Ty.int .i64)))) (8)) (again (.l0 (IntKind.wrap .i64 (v1+1)) (v7++y0::mt (Ty.den (Ty.int .i64))))) none) none)) (again (.l1 0 v7 ((mt (Ty.den (Ty.int .i64)))))) | some (.l1 v1 v7 v8)=>cond (B.lt v1 (↑p0.length)) (cond (B.inb v1 p0.length) (cond (B.eq (IntKind.wrap .i64 (3+IntKind.wrap .i64 (4*v1))) (0)) none (cond (B.inb v1 p0.length) (cond (B.inb v1 p0.length) (ob (c40 (IntKind.wrap .i64 (Int.tdiv p3 (IntKind.wrap .i64 (3+IntKind.wrap .i64 (4*v1))))) (IntKind.wrap .i64 (IntKind.wrap .i64 ((((p0.getD v1.toNat ty61.dflt).2).2).1-((p0.getD v1.toNat ty61.dflt).2).1)+1))) fun y0=>cond (B.lim (List.length v8+List.length (IntKind.wrap .i64 (((p0.getD v1.toNat ty61.dflt).2).1+y0)::mt (Ty.den (Ty.int .i64)))) (8)) (again (.l1 (IntKind.wrap .i64 (v1+1)) v7 (v8++IntKind.wrap .i64 (((p0.getD v1.toNat ty61.dflt).2).1+y0)::mt (Ty.den (Ty.int .i64))))) none) none) none)) none) (k ((v7,v8)))
def E26 (p0:L61) (p1:L65) (p2:L71) (p3:Int):S26→List AV×Objs
 | .l0 v1 v7=>(mk 72 [(1,.c (.int .i64 p3)),(2,.c (.ptr 2 0)),(4,.c (.ptr 4 0)),(5,.c (.ptr 5 0)),(6,.c (.int .i64 v1))],[(2,.box 31 [.list 61 ty61 p0,.list 65 ty65 p1,.list 71 ty71 p2]),(4,.box 76 [.own 5000,.own 5001]),(5,.box 76 [.own 6000,.own 6001]),(5000,.row 3 ty3 (mt (Ty.den (Ty.int .i64)))),(5001,.row 3 ty3 (mt (Ty.den (Ty.int .i64)))),(6000,.row 3 ty3 v7),(6001,.row 3 ty3 (mt (Ty.den (Ty.int .i64))))])
 | .l1 v1 v7 v8=>(mk 72 [(1,.c (.int .i64 p3)),(2,.c (.ptr 2 0)),(4,.c (.ptr 4 0)),(5,.c (.ptr 5 0)),(7,.c (.int .i64 v1))],[(2,.box 31 [.list 61 ty61 p0,.list 65 ty65 p1,.list 71 ty71 p2]),(4,.box 76 [.own 5000,.own 5001]),(5,.box 76 [.own 6000,.own 6001]),(5000,.row 3 ty3 (mt (Ty.den (Ty.int .i64)))),(5001,.row 3 ty3 (mt (Ty.den (Ty.int .i64)))),(6000,.row 3 ty3 v7),(6001,.row 3 ty3 v8)])
def I26:S26→Nat
 | .l0 _ _=>0
 | .l1 _ _ _=>1
abbrev K27 {R:Type} (k:AV→Objs→Option R) (y:(L3×L3)):Option R:=k (.agg [.list 3 ty3 y.1,.list 3 ty3 y.2]) []
theorem eq26 {R:Type} (B:Ops) (c40:C40) (p0:L61) (p1:L65) (p2:L71) (p3:Int) (k:AV→Objs→Option R) (n:Nat):afun tau B gl0 X26 (ent 40 (e40 c40) gnil) ow Tryz.f26 [.agg [.list 61 ty61 p0,.list 65 ty65 p1,.list 71 ty71 p2],.c (.int .i64 p3)] [] k n=T26 B c40 p0 p1 p2 p3 (fun s=>aloop tau B gl0 X26 (ent 40 (e40 c40) gnil) ow [] Tryz.f26 k (I26 s) (E26 p0 p1 p2 p3 s) n) (K27 k) none:=by kernel_rfl
theorem el26 {R:Type} (B:Ops) (c40:C40) (p0:L61) (p1:L65) (p2:L71) (p3:Int) (k:AV→Objs→Option R) (n:Nat):∀ s,aloop tau B gl0 X26 (ent 40 (e40 c40) gnil) ow [] Tryz.f26 k (I26 s) (E26 p0 p1 p2 p3 s) (n+1)=T26 B c40 p0 p1 p2 p3 (fun s=>aloop tau B gl0 X26 (ent 40 (e40 c40) gnil) ow [] Tryz.f26 k (I26 s) (E26 p0 p1 p2 p3 s) n) (K27 k) (some s):=by
 intro s
 cases s<;>kernel_rfl
theorem nt26 {R R':Type} (B:Ops) (c40:C40) (p0:L61) (p1:L65) (p2:L71) (p3:Int) (again:S26→Option R) (again':S26→Option R') (k0:(L3×L3)→Option R') (k:R'→Option R) (h:∀ s,again s=ob (again' s) k):∀ s,T26 B c40 p0 p1 p2 p3 again (fun y=>ob (k0 y) k) s=ob (T26 B c40 p0 p1 p2 p3 again' k0 s) k:=by
 rintro (_ | x)
 all_goals try cases x
 all_goals (unfold T26;repeat' first | exact rfl | exact h _ | apply qae | (apply qao;intro))
def R26 (c40:C40) (p0:L61) (p1:L65) (p2:L71) (p3:Int):Nat→S26→Option (L3×L3)
 | 0,_=>none
 | n+1,s=>T26 Ops.std c40 p0 p1 p2 p3 (R26 c40 p0 p1 p2 p3 n) some (some s)
theorem rr26 {R:Type} (c40:C40) (p0:L61) (p1:L65) (p2:L71) (p3:Int) (k:AV→Objs→Option R):∀ (n:Nat) (s:S26),aloop tau Ops.std gl0 X26 (ent 40 (e40 c40) gnil) ow [] Tryz.f26 k (I26 s) (E26 p0 p1 p2 p3 s) n=ob (R26 c40 p0 p1 p2 p3 n s) (K27 k)
 | 0,s=>by cases s<;>rfl
 | n+1,s=>by rw [el26];exact nt26 Ops.std c40 p0 p1 p2 p3 _ _ some (K27 k) (rr26 c40 p0 p1 p2 p3 k n) (some s)
def F26 (c40:C40) (p0:L61) (p1:L65) (p2:L71) (p3:Int):Option (L3×L3):=T26 Ops.std c40 p0 p1 p2 p3 (R26 c40 p0 p1 p2 p3 1000000) some none
def e26 {R:Type} (c:L61→L65→L71→Int→Option (L3×L3)):Ent R:=fun args objs k=>
 oCons args fun a0 l0=>oAgg a0 fun x0=>cCons x0 fun z0_0 w0_0=>cList 61 ty61 z0_0 fun p0=>cCons w0_0 fun z0_1 w0_1=>cList 65 ty65 z0_1 fun p1=>cCons w0_1 fun z0_2 w0_2=>cList 71 ty71 z0_2 fun p2=>cNil w0_2 <| oI l0 .i64 fun p3 l1=>oE l1 objs <| ob (c p0 p1 p2 p3) (K27 k)
abbrev Sp26 (c:L61→L65→L71→Int→Option (L3×L3)):Prop:=∀ (p0:L61) (p1:L65) (p2:L71) (p3:Int) (y:L3×L3),c p0 p1 p2 p3=some y→Spec Tryz.prog gl0 26 [.agg [.list 61 ty61 p0,.list 65 ty65 p1,.list 71 ty71 p2],.c (.int .i64 p3)] [] (.agg [.list 3 ty3 y.1,.list 3 ty3 y.2]) []
theorem ek26 {R:Type} {c:L61→L65→L71→Int→Option (L3×L3)} (hs:Sp26 c):EOk 26 (e26 (R:=R) c):=fun args objs k r h=>by
 unfold e26 at h
 obtain ⟨a0,l0,rfl,q1⟩:=qak h
 obtain ⟨x0,rfl,q2⟩:=qav q1
 obtain ⟨z0_0,w0_0,rfl,q3⟩:=qaa q2
 obtain ⟨p0,rfl,q4⟩:=qac q3
 obtain ⟨z0_1,w0_1,rfl,q5⟩:=qaa q4
 obtain ⟨p1,rfl,q6⟩:=qac q5
 obtain ⟨z0_2,w0_2,rfl,q7⟩:=qaa q6
 obtain ⟨p2,rfl,q8⟩:=qac q7
 obtain ⟨rfl,q9⟩:=qaq q8
 obtain ⟨p3,l1,rfl,q12⟩:=qas q9
 obtain ⟨rfl,rfl,q14⟩:=qam q12
 exact qan (hs p0 p1 p2 p3) q14
theorem sf26 {c40:C40} (h40:Sp40 c40):Sp26 (F26 c40):=fun p0 p1 p2 p3 y hy=>by
 refine qai (qad (ek40 h40) qah) 1000000 (fn:=Tryz.f26) (by kernel_rfl) (by kernel_rfl) (X:=X26) (by kernel_rfl) ?_
 rw [eq26]
 exact (nt26 Ops.std c40 p0 p1 p2 p3 _ _ some (K27 k0) (rr26 c40 p0 p1 p2 p3 k0 1000000) none).trans (by show ob (F26 c40 p0 p1 p2 p3) _=_;rw [hy];rfl)
noncomputable def M26:L61→L65→L71→Int→Option (L3×L3):=F26 M40
theorem sm26:Sp26 M26:=sf26 sm40
def X10:Aux:=⟨[(3,([0,4,5]++rg 9 55)),(7,([0,1,4,5,8]++rg 10 54))],[(5,.lin (rg 0 13)),(9,.lin (rg 0 13))]⟩
inductive S10 where
 | l0 (v2:Int) (v8:L79)
 | l1 (v1:Int) (v7:L79) (v8:L79)
abbrev C26:Type:=L61→L65→L71→Int→Option (L3×L3)
def T10 {R:Type} (B:Ops) (c26:C26) (p0:L61) (p1:L65) (p2:L71) (p3:L3) (p4:L3) (again:S10→Option R) (k:(L79×L79)→Option R):Option S10→Option R | none=>again (.l0 0 (mt (Ty.den ty79))) | some (.l0 v2 v8)=>cond (B.lt v2 (↑p3.length)) (cond (B.lt v2 (6)) (cond (B.inb v2 p3.length) (ob (c26 p0 p1 p2 (p3.getD v2.toNat ty3.dflt)) fun y0=>cond (B.lim (List.length v8+List.length (((y0.1,y0.2),mt (Ty.den (Ty.int .i64)))::mt (Ty.den ty79))) (72)) (again (.l0 (IntKind.wrap .i64 (v2+1)) (v8++((y0.1,y0.2),mt (Ty.den (Ty.int .i64)))::mt (Ty.den ty79)))) none) none) (again (.l1 0 v8 ((mt (Ty.den ty79)))))) (again (.l1 0 v8 ((mt (Ty.den ty79))))) | some (.l1 v1 v7 v8)=>cond (B.lt v1 (↑p4.length)) (cond (B.lt v1 (6)) (cond (B.inb v1 p4.length) (ob (c26 p0 p1 p2 (p4.getD v1.toNat ty3.dflt)) fun y0=>cond (B.lim (List.length v8+List.length (((y0.1,y0.2),mt (Ty.den (Ty.int .i64)))::mt (Ty.den ty79))) (72)) (again (.l1 (IntKind.wrap .i64 (v1+1)) v7 (v8++((y0.1,y0.2),mt (Ty.den (Ty.int .i64)))::mt (Ty.den ty79)))) none) none) (cond (B.eq (↑v8.length) (0)) (ob (c26 p0 p1 p2 (0)) fun y0=>k ((v7,((y0.1,y0.2),mt (Ty.den (Ty.int .i64)))::mt (Ty.den ty79)))) (k ((v7,v8))))) (cond (B.eq (↑v8.length) (0)) (ob (c26 p0 p1 p2 (0)) fun y0=>k ((v7,((y0.1,y0.2),mt (Ty.den (Ty.int .i64)))::mt (Ty.den ty79)))) (k ((v7,v8))))
def E10 (p0:L61) (p1:L65) (p2:L71) (p3:L3) (p4:L3):S10→List AV×Objs
 | .l0 v2 v8=>(mk 64 [(1,.c (.list 3 ty3 p3)),(2,.c (.list 3 ty3 p4)),(3,.c (.ptr 3 0)),(6,.c (.ptr 6 0)),(7,.c (.ptr 7 0)),(8,.c (.int .i64 v2))],[(3,.box 31 [.list 61 ty61 p0,.list 65 ty65 p1,.list 71 ty71 p2]),(6,.box 40 [.own 7000,.own 7001]),(7,.box 40 [.own 8000,.own 8001]),(7000,.row 79 ty79 (mt (Ty.den ty79))),(7001,.row 79 ty79 (mt (Ty.den ty79))),(8000,.row 79 ty79 v8),(8001,.row 79 ty79 (mt (Ty.den ty79)))])
 | .l1 v1 v7 v8=>(mk 64 [(2,.c (.list 3 ty3 p4)),(3,.c (.ptr 3 0)),(6,.c (.ptr 6 0)),(7,.c (.ptr 7 0)),(9,.c (.int .i64 v1))],[(3,.box 31 [.list 61 ty61 p0,.list 65 ty65 p1,.list 71 ty71 p2]),(6,.box 40 [.own 7000,.own 7001]),(7,.box 40 [.own 8000,.own 8001]),(7000,.row 79 ty79 (mt (Ty.den ty79))),(7001,.row 79 ty79 (mt (Ty.den ty79))),(8000,.row 79 ty79 v7),(8001,.row 79 ty79 v8)])
def I10:S10→Nat
 | .l0 _ _=>0
 | .l1 _ _ _=>1
abbrev K28 {R:Type} (k:AV→Objs→Option R) (y:(L79×L79)):Option R:=k (.agg [.list 79 ty79 y.1,.list 79 ty79 y.2]) []
theorem eq10 {R:Type} (B:Ops) (c26:C26) (p0:L61) (p1:L65) (p2:L71) (p3:L3) (p4:L3) (k:AV→Objs→Option R) (n:Nat):afun tau B gl0 X10 (ent 26 (e26 c26) gnil) ow Tryz.f10 [.agg [.list 61 ty61 p0,.list 65 ty65 p1,.list 71 ty71 p2],.c (.list 3 ty3 p3),.c (.list 3 ty3 p4)] [] k n=T10 B c26 p0 p1 p2 p3 p4 (fun s=>aloop tau B gl0 X10 (ent 26 (e26 c26) gnil) ow [] Tryz.f10 k (I10 s) (E10 p0 p1 p2 p3 p4 s) n) (K28 k) none:=by kernel_rfl
theorem el10 {R:Type} (B:Ops) (c26:C26) (p0:L61) (p1:L65) (p2:L71) (p3:L3) (p4:L3) (k:AV→Objs→Option R) (n:Nat):∀ s,aloop tau B gl0 X10 (ent 26 (e26 c26) gnil) ow [] Tryz.f10 k (I10 s) (E10 p0 p1 p2 p3 p4 s) (n+1)=T10 B c26 p0 p1 p2 p3 p4 (fun s=>aloop tau B gl0 X10 (ent 26 (e26 c26) gnil) ow [] Tryz.f10 k (I10 s) (E10 p0 p1 p2 p3 p4 s) n) (K28 k) (some s):=by
 intro s
 cases s<;>kernel_rfl
theorem nt10 {R R':Type} (B:Ops) (c26:C26) (p0:L61) (p1:L65) (p2:L71) (p3:L3) (p4:L3) (again:S10→Option R) (again':S10→Option R') (k0:(L79×L79)→Option R') (k:R'→Option R) (h:∀ s,again s=ob (again' s) k):∀ s,T10 B c26 p0 p1 p2 p3 p4 again (fun y=>ob (k0 y) k) s=ob (T10 B c26 p0 p1 p2 p3 p4 again' k0 s) k:=by
 rintro (_ | x)
 all_goals try cases x
 all_goals (unfold T10;repeat' first | exact rfl | exact h _ | apply qae | (apply qao;intro))
def R10 (c26:C26) (p0:L61) (p1:L65) (p2:L71) (p3:L3) (p4:L3):Nat→S10→Option (L79×L79)
 | 0,_=>none
 | n+1,s=>T10 Ops.std c26 p0 p1 p2 p3 p4 (R10 c26 p0 p1 p2 p3 p4 n) some (some s)
theorem rr10 {R:Type} (c26:C26) (p0:L61) (p1:L65) (p2:L71) (p3:L3) (p4:L3) (k:AV→Objs→Option R):∀ (n:Nat) (s:S10),aloop tau Ops.std gl0 X10 (ent 26 (e26 c26) gnil) ow [] Tryz.f10 k (I10 s) (E10 p0 p1 p2 p3 p4 s) n=ob (R10 c26 p0 p1 p2 p3 p4 n s) (K28 k)
 | 0,s=>by cases s<;>rfl
 | n+1,s=>by rw [el10];exact nt10 Ops.std c26 p0 p1 p2 p3 p4 _ _ some (K28 k) (rr10 c26 p0 p1 p2 p3 p4 k n) (some s)
def F10 (c26:C26) (p0:L61) (p1:L65) (p2:L71) (p3:L3) (p4:L3):Option (L79×L79):=T10 Ops.std c26 p0 p1 p2 p3 p4 (R10 c26 p0 p1 p2 p3 p4 1000000) some none
def e10 {R:Type} (c:L61→L65→L71→L3→L3→Option (L79×L79)):Ent R:=fun args objs k=>
 oCons args fun a0 l0=>oAgg a0 fun x0=>cCons x0 fun z0_0 w0_0=>cList 61 ty61 z0_0 fun p0=>cCons w0_0 fun z0_1 w0_1=>cList 65 ty65 z0_1 fun p1=>cCons w0_1 fun z0_2 w0_2=>cList 71 ty71 z0_2 fun p2=>cNil w0_2 <| oL l0 3 ty3 fun p3 l1=>oL l1 3 ty3 fun p4 l2=>oE l2 objs <| ob (c p0 p1 p2 p3 p4) (K28 k)
abbrev Sp10 (c:L61→L65→L71→L3→L3→Option (L79×L79)):Prop:=∀ (p0:L61) (p1:L65) (p2:L71) (p3:L3) (p4:L3) (y:L79×L79),c p0 p1 p2 p3 p4=some y→Spec Tryz.prog gl0 10 [.agg [.list 61 ty61 p0,.list 65 ty65 p1,.list 71 ty71 p2],.c (.list 3 ty3 p3),.c (.list 3 ty3 p4)] [] (.agg [.list 79 ty79 y.1,.list 79 ty79 y.2]) []
theorem ek10 {R:Type} {c:L61→L65→L71→L3→L3→Option (L79×L79)} (hs:Sp10 c):EOk 10 (e10 (R:=R) c):=fun args objs k r h=>by
 unfold e10 at h
 obtain ⟨a0,l0,rfl,q1⟩:=qak h
 obtain ⟨x0,rfl,q2⟩:=qav q1
 obtain ⟨z0_0,w0_0,rfl,q3⟩:=qaa q2
 obtain ⟨p0,rfl,q4⟩:=qac q3
 obtain ⟨z0_1,w0_1,rfl,q5⟩:=qaa q4
 obtain ⟨p1,rfl,q6⟩:=qac q5
 obtain ⟨z0_2,w0_2,rfl,q7⟩:=qaa q6
 obtain ⟨p2,rfl,q8⟩:=qac q7
 obtain ⟨rfl,q9⟩:=qaq q8
 obtain ⟨p3,l1,rfl,q12⟩:=qa1 q9
 obtain ⟨p4,l2,rfl,q15⟩:=qa1 q12
 obtain ⟨rfl,rfl,q17⟩:=qam q15
 exact qan (hs p0 p1 p2 p3 p4) q17
theorem sf10 {c26:C26} (h26:Sp26 c26):Sp10 (F10 c26):=fun p0 p1 p2 p3 p4 y hy=>by
 refine qai (qad (ek26 h26) qah) 1000000 (fn:=Tryz.f10) (by kernel_rfl) (by kernel_rfl) (X:=X10) (by kernel_rfl) ?_
 rw [eq10]
 exact (nt10 Ops.std c26 p0 p1 p2 p3 p4 _ _ some (K28 k0) (rr10 c26 p0 p1 p2 p3 p4 k0 1000000) none).trans (by show ob (F10 c26 p0 p1 p2 p3 p4) _=_;rw [hy];rfl)
noncomputable def M10:L61→L65→L71→L3→L3→Option (L79×L79):=F10 M26
theorem sm10:Sp10 M10:=sf10 sm26
def X30:Aux:=⟨[],[]⟩
def T30 {R:Type} (B:Ops) (p0:L79) (p1:L79) (p2:Int) (k:(L3×L3×L3)→Option R):Option R:=cond (B.lt p2 (↑p0.length)) (cond (B.inb p2 p0.length) (k ((((p0.getD p2.toNat ty79.dflt).1).1,((p0.getD p2.toNat ty79.dflt).1).2,(p0.getD p2.toNat ty79.dflt).2))) none) (cond (B.inb (IntKind.wrap .i64 (p2-Nat.cast p0.length)) p1.length) (k ((((p1.getD (Int.toNat (IntKind.wrap .i64 (p2-Nat.cast p0.length))) ty79.dflt).1).1,((p1.getD (Int.toNat (IntKind.wrap .i64 (p2-Nat.cast p0.length))) ty79.dflt).1).2,(p1.getD (Int.toNat (IntKind.wrap .i64 (p2-Nat.cast p0.length))) ty79.dflt).2))) none)
abbrev K29 {R:Type} (k:AV→Objs→Option R) (y:(L3×L3×L3)):Option R:=k (.agg [.list 3 ty3 y.1,.list 3 ty3 y.2.1,.list 3 ty3 y.2.2]) []
theorem eq30 {R:Type} (B:Ops) (p0:L79) (p1:L79) (p2:Int) (k:AV→Objs→Option R) (n:Nat):afun tau B gl0 X30 gnil ow Tryz.f30 [.agg [.list 79 ty79 p0,.list 79 ty79 p1],.c (.int .i64 p2)] [] k n=T30 B p0 p1 p2 (K29 k):=by kernel_rfl
theorem nt30 {R R':Type} (B:Ops) (p0:L79) (p1:L79) (p2:Int) (k0:(L3×L3×L3)→Option R') (k:R'→Option R):T30 B p0 p1 p2 (fun y=>ob (k0 y) k)=ob (T30 B p0 p1 p2 k0) k:=by
 unfold T30
 repeat' first | exact rfl | apply qae | (apply qao;intro)
def F30 (p0:L79) (p1:L79) (p2:Int):Option (L3×L3×L3):=T30 Ops.std p0 p1 p2 some
def e30 {R:Type} (c:L79→L79→Int→Option (L3×L3×L3)):Ent R:=fun args objs k=>
 oCons args fun a0 l0=>oAgg a0 fun x0=>cCons x0 fun z0_0 w0_0=>cList 79 ty79 z0_0 fun p0=>cCons w0_0 fun z0_1 w0_1=>cList 79 ty79 z0_1 fun p1=>cNil w0_1 <| oI l0 .i64 fun p2 l1=>oE l1 objs <| ob (c p0 p1 p2) (K29 k)
abbrev Sp30 (c:L79→L79→Int→Option (L3×L3×L3)):Prop:=∀ (p0:L79) (p1:L79) (p2:Int) (y:L3×L3×L3),c p0 p1 p2=some y→Spec Tryz.prog gl0 30 [.agg [.list 79 ty79 p0,.list 79 ty79 p1],.c (.int .i64 p2)] [] (.agg [.list 3 ty3 y.1,.list 3 ty3 y.2.1,.list 3 ty3 y.2.2]) []
theorem ek30 {R:Type} {c:L79→L79→Int→Option (L3×L3×L3)} (hs:Sp30 c):EOk 30 (e30 (R:=R) c):=fun args objs k r h=>by
 unfold e30 at h
 obtain ⟨a0,l0,rfl,q1⟩:=qak h
 obtain ⟨x0,rfl,q2⟩:=qav q1
 obtain ⟨z0_0,w0_0,rfl,q3⟩:=qaa q2
 obtain ⟨p0,rfl,q4⟩:=qac q3
 obtain ⟨z0_1,w0_1,rfl,q5⟩:=qaa q4
 obtain ⟨p1,rfl,q6⟩:=qac q5
 obtain ⟨rfl,q7⟩:=qaq q6
 obtain ⟨p2,l1,rfl,q10⟩:=qas q7
 obtain ⟨rfl,rfl,q12⟩:=qam q10
 exact qan (hs p0 p1 p2) q12
theorem sf30:Sp30 (F30):=fun p0 p1 p2 y hy=>by
 refine qai qah 1000000 (fn:=Tryz.f30) (by kernel_rfl) (by kernel_rfl) (X:=X30) (by kernel_rfl) ?_
 rw [eq30]
 exact (nt30 Ops.std p0 p1 p2 some (K29 k0)).trans (by show ob (F30 p0 p1 p2) _=_;rw [hy];rfl)
noncomputable def M30:L79→L79→Int→Option (L3×L3×L3):=F30
theorem sm30:Sp30 M30:=sf30
def X80:Aux:=⟨[(4,([0,1,4]++rg 6 78)),(9,([0,1,4,5]++rg 7 77))],[(6,.lin (rg 0 21)),(11,.lin (rg 0 26))]⟩
inductive S80 where
 | l0 (v0:Int)
 | l1 (v0:Int)
def T80 {R:Type} (B:Ops) (p0:L61) (p1:L65) (p2:L71) (p3:L3) (p4:L3) (again:S80→Option R) (k:(Bool)→Option R):Option S80→Option R | none=>cond (!B.eq (↑p3.length) (↑p1.length)) (k false) (cond (!B.eq (↑p4.length) (↑p0.length)) (k false) (again (.l0 0))) | some (.l0 v0)=>cond (B.lt v0 (↑p3.length)) (cond (B.inb v0 p3.length) (cond (B.lt (p3.getD v0.toNat ty3.dflt) (0)) (k false) (cond (B.inb v0 p3.length) (cond (B.inb v0 p1.length) (cond (B.le (Nat.cast (List.length ((p1.getD v0.toNat ty65.dflt).2))) (p3.getD v0.toNat ty3.dflt)) (k false) (again (.l0 (IntKind.wrap .i64 (v0+1))))) none) none)) none) (again (.l1 0)) | some (.l1 v0)=>cond (B.lt v0 (↑p4.length)) (cond (B.inb v0 p4.length) (cond (B.inb v0 p0.length) (cond (B.lt (p4.getD v0.toNat ty3.dflt) (((p0.getD v0.toNat ty61.dflt).2).1)) (k false) (cond (B.inb v0 p4.length) (cond (B.inb v0 p0.length) (cond (B.lt ((((p0.getD v0.toNat ty61.dflt).2).2).1) (p4.getD v0.toNat ty3.dflt)) (k false) (again (.l1 (IntKind.wrap .i64 (v0+1))))) none) none)) none) none) (k true)
def E80 (p0:L61) (p1:L65) (p2:L71) (p3:L3) (p4:L3):S80→List AV×Objs
 | .l0 v0=>(mk 84 [(2,.c (.ptr 2 0)),(3,.c (.ptr 3 0)),(5,.c (.int .i64 v0))],[(2,.box 31 [.list 61 ty61 p0,.list 65 ty65 p1,.list 71 ty71 p2]),(3,.box 76 [.list 3 ty3 p3,.list 3 ty3 p4])])
 | .l1 v0=>(mk 84 [(2,.c (.ptr 2 0)),(3,.c (.ptr 3 0)),(6,.c (.int .i64 v0))],[(2,.box 31 [.list 61 ty61 p0,.list 65 ty65 p1,.list 71 ty71 p2]),(3,.box 76 [.list 3 ty3 p3,.list 3 ty3 p4])])
def I80:S80→Nat
 | .l0 _=>0
 | .l1 _=>1
theorem eq80 {R:Type} (B:Ops) (p0:L61) (p1:L65) (p2:L71) (p3:L3) (p4:L3) (k:AV→Objs→Option R) (n:Nat):afun tau B gl0 X80 gnil ow Tryz.f80 [.agg [.list 61 ty61 p0,.list 65 ty65 p1,.list 71 ty71 p2],.agg [.list 3 ty3 p3,.list 3 ty3 p4]] [] k n=T80 B p0 p1 p2 p3 p4 (fun s=>aloop tau B gl0 X80 gnil ow [] Tryz.f80 k (I80 s) (E80 p0 p1 p2 p3 p4 s) n) (K1 k) none:=by kernel_rfl
theorem el80 {R:Type} (B:Ops) (p0:L61) (p1:L65) (p2:L71) (p3:L3) (p4:L3) (k:AV→Objs→Option R) (n:Nat):∀ s,aloop tau B gl0 X80 gnil ow [] Tryz.f80 k (I80 s) (E80 p0 p1 p2 p3 p4 s) (n+1)=T80 B p0 p1 p2 p3 p4 (fun s=>aloop tau B gl0 X80 gnil ow [] Tryz.f80 k (I80 s) (E80 p0 p1 p2 p3 p4 s) n) (K1 k) (some s):=by
 intro s
 cases s<;>kernel_rfl
theorem nt80 {R R':Type} (B:Ops) (p0:L61) (p1:L65) (p2:L71) (p3:L3) (p4:L3) (again:S80→Option R) (again':S80→Option R') (k0:(Bool)→Option R') (k:R'→Option R) (h:∀ s,again s=ob (again' s) k):∀ s,T80 B p0 p1 p2 p3 p4 again (fun y=>ob (k0 y) k) s=ob (T80 B p0 p1 p2 p3 p4 again' k0 s) k:=by
 rintro (_ | x)
 all_goals try cases x
 all_goals (unfold T80;repeat' first | exact rfl | exact h _ | apply qae | (apply qao;intro))
def R80 (p0:L61) (p1:L65) (p2:L71) (p3:L3) (p4:L3):Nat→S80→Option (Bool)
 | 0,_=>none
 | n+1,s=>T80 Ops.std p0 p1 p2 p3 p4 (R80 p0 p1 p2 p3 p4 n) some (some s)
theorem rr80 {R:Type} (p0:L61) (p1:L65) (p2:L71) (p3:L3) (p4:L3) (k:AV→Objs→Option R):∀ (n:Nat) (s:S80),aloop tau Ops.std gl0 X80 gnil ow [] Tryz.f80 k (I80 s) (E80 p0 p1 p2 p3 p4 s) n=ob (R80 p0 p1 p2 p3 p4 n s) (K1 k)
 | 0,s=>by cases s<;>rfl
 | n+1,s=>by rw [el80];exact nt80 Ops.std p0 p1 p2 p3 p4 _ _ some (K1 k) (rr80 p0 p1 p2 p3 p4 k n) (some s)
def F80 (p0:L61) (p1:L65) (p2:L71) (p3:L3) (p4:L3):Option (Bool):=T80 Ops.std p0 p1 p2 p3 p4 (R80 p0 p1 p2 p3 p4 1000000) some none
def e80 {R:Type} (c:L61→L65→L71→L3→L3→Option (Bool)):Ent R:=fun args objs k=>
 oCons args fun a0 l0=>oAgg a0 fun x0=>cCons x0 fun z0_0 w0_0=>cList 61 ty61 z0_0 fun p0=>cCons w0_0 fun z0_1 w0_1=>cList 65 ty65 z0_1 fun p1=>cCons w0_1 fun z0_2 w0_2=>cList 71 ty71 z0_2 fun p2=>cNil w0_2 <| oCons l0 fun a1 l1=>oAgg a1 fun x1=>cCons x1 fun z1_0 w1_0=>cList 3 ty3 z1_0 fun p3=>cCons w1_0 fun z1_1 w1_1=>cList 3 ty3 z1_1 fun p4=>cNil w1_1 <| oE l1 objs <| ob (c p0 p1 p2 p3 p4) (K1 k)
abbrev Sp80 (c:L61→L65→L71→L3→L3→Option (Bool)):Prop:=∀ (p0:L61) (p1:L65) (p2:L71) (p3:L3) (p4:L3) (y:Bool),c p0 p1 p2 p3 p4=some y→Spec Tryz.prog gl0 80 [.agg [.list 61 ty61 p0,.list 65 ty65 p1,.list 71 ty71 p2],.agg [.list 3 ty3 p3,.list 3 ty3 p4]] [] (.c (.bool y)) []
theorem ek80 {R:Type} {c:L61→L65→L71→L3→L3→Option (Bool)} (hs:Sp80 c):EOk 80 (e80 (R:=R) c):=fun args objs k r h=>by
 unfold e80 at h
 obtain ⟨a0,l0,rfl,q1⟩:=qak h
 obtain ⟨x0,rfl,q2⟩:=qav q1
 obtain ⟨z0_0,w0_0,rfl,q3⟩:=qaa q2
 obtain ⟨p0,rfl,q4⟩:=qac q3
 obtain ⟨z0_1,w0_1,rfl,q5⟩:=qaa q4
 obtain ⟨p1,rfl,q6⟩:=qac q5
 obtain ⟨z0_2,w0_2,rfl,q7⟩:=qaa q6
 obtain ⟨p2,rfl,q8⟩:=qac q7
 obtain ⟨rfl,q9⟩:=qaq q8
 obtain ⟨a1,l1,rfl,q10⟩:=qak q9
 obtain ⟨x1,rfl,q11⟩:=qav q10
 obtain ⟨z1_0,w1_0,rfl,q12⟩:=qaa q11
 obtain ⟨p3,rfl,q13⟩:=qac q12
 obtain ⟨z1_1,w1_1,rfl,q14⟩:=qaa q13
 obtain ⟨p4,rfl,q15⟩:=qac q14
 obtain ⟨rfl,q16⟩:=qaq q15
 obtain ⟨rfl,rfl,q18⟩:=qam q16
 exact qan (hs p0 p1 p2 p3 p4) q18
theorem sf80:Sp80 (F80):=fun p0 p1 p2 p3 p4 y hy=>by
 refine qai qah 1000000 (fn:=Tryz.f80) (by kernel_rfl) (by kernel_rfl) (X:=X80) (by kernel_rfl) ?_
 rw [eq80]
 exact (nt80 Ops.std p0 p1 p2 p3 p4 _ _ some (K1 k0) (rr80 p0 p1 p2 p3 p4 k0 1000000) none).trans (by show ob (F80 p0 p1 p2 p3 p4) _=_;rw [hy];rfl)
noncomputable def M80:L61→L65→L71→L3→L3→Option (Bool):=F80
theorem sm80:Sp80 M80:=sf80
def X56:Aux:=⟨[],[]⟩
abbrev C80:Type:=L61→L65→L71→L3→L3→Option (Bool)
def T56 {R:Type} (B:Ops) (c8:C8) (c80:C80) (p0:L61) (p1:L65) (p2:L71) (p3:L3) (p4:L3) (k:(Bool)→Option R):Option R:=ob (c8 p0 p1 p2) fun y0=>cond (!y0) (k false) (ob (c80 p0 p1 p2 p3 p4) fun y1=>k y1)
theorem eq56 {R:Type} (B:Ops) (c8:C8) (c80:C80) (p0:L61) (p1:L65) (p2:L71) (p3:L3) (p4:L3) (k:AV→Objs→Option R) (n:Nat):afun tau B gl0 X56 (ent 8 (e8 c8) (ent 80 (e80 c80) gnil)) ow Tryz.f56 [.agg [.list 61 ty61 p0,.list 65 ty65 p1,.list 71 ty71 p2],.agg [.list 3 ty3 p3,.list 3 ty3 p4]] [] k n=T56 B c8 c80 p0 p1 p2 p3 p4 (K1 k):=by kernel_rfl
theorem nt56 {R R':Type} (B:Ops) (c8:C8) (c80:C80) (p0:L61) (p1:L65) (p2:L71) (p3:L3) (p4:L3) (k0:(Bool)→Option R') (k:R'→Option R):T56 B c8 c80 p0 p1 p2 p3 p4 (fun y=>ob (k0 y) k)=ob (T56 B c8 c80 p0 p1 p2 p3 p4 k0) k:=by
 unfold T56
 repeat' first | exact rfl | apply qae | (apply qao;intro)
def F56 (c8:C8) (c80:C80) (p0:L61) (p1:L65) (p2:L71) (p3:L3) (p4:L3):Option (Bool):=T56 Ops.std c8 c80 p0 p1 p2 p3 p4 some
def e56 {R:Type} (c:L61→L65→L71→L3→L3→Option (Bool)):Ent R:=fun args objs k=>
 oCons args fun a0 l0=>oAgg a0 fun x0=>cCons x0 fun z0_0 w0_0=>cList 61 ty61 z0_0 fun p0=>cCons w0_0 fun z0_1 w0_1=>cList 65 ty65 z0_1 fun p1=>cCons w0_1 fun z0_2 w0_2=>cList 71 ty71 z0_2 fun p2=>cNil w0_2 <| oCons l0 fun a1 l1=>oAgg a1 fun x1=>cCons x1 fun z1_0 w1_0=>cList 3 ty3 z1_0 fun p3=>cCons w1_0 fun z1_1 w1_1=>cList 3 ty3 z1_1 fun p4=>cNil w1_1 <| oE l1 objs <| ob (c p0 p1 p2 p3 p4) (K1 k)
abbrev Sp56 (c:L61→L65→L71→L3→L3→Option (Bool)):Prop:=∀ (p0:L61) (p1:L65) (p2:L71) (p3:L3) (p4:L3) (y:Bool),c p0 p1 p2 p3 p4=some y→Spec Tryz.prog gl0 56 [.agg [.list 61 ty61 p0,.list 65 ty65 p1,.list 71 ty71 p2],.agg [.list 3 ty3 p3,.list 3 ty3 p4]] [] (.c (.bool y)) []
theorem ek56 {R:Type} {c:L61→L65→L71→L3→L3→Option (Bool)} (hs:Sp56 c):EOk 56 (e56 (R:=R) c):=fun args objs k r h=>by
 unfold e56 at h
 obtain ⟨a0,l0,rfl,q1⟩:=qak h
 obtain ⟨x0,rfl,q2⟩:=qav q1
 obtain ⟨z0_0,w0_0,rfl,q3⟩:=qaa q2
 obtain ⟨p0,rfl,q4⟩:=qac q3
 obtain ⟨z0_1,w0_1,rfl,q5⟩:=qaa q4
 obtain ⟨p1,rfl,q6⟩:=qac q5
 obtain ⟨z0_2,w0_2,rfl,q7⟩:=qaa q6
 obtain ⟨p2,rfl,q8⟩:=qac q7
 obtain ⟨rfl,q9⟩:=qaq q8
 obtain ⟨a1,l1,rfl,q10⟩:=qak q9
 obtain ⟨x1,rfl,q11⟩:=qav q10
 obtain ⟨z1_0,w1_0,rfl,q12⟩:=qaa q11
 obtain ⟨p3,rfl,q13⟩:=qac q12
 obtain ⟨z1_1,w1_1,rfl,q14⟩:=qaa q13
 obtain ⟨p4,rfl,q15⟩:=qac q14
 obtain ⟨rfl,q16⟩:=qaq q15
 obtain ⟨rfl,rfl,q18⟩:=qam q16
 exact qan (hs p0 p1 p2 p3 p4) q18
theorem sf56 {c8:C8} {c80:C80} (h8:Sp8 c8) (h80:Sp80 c80):Sp56 (F56 c8 c80):=fun p0 p1 p2 p3 p4 y hy=>by
 refine qai (qad (ek8 h8) (qad (ek80 h80) qah)) 1000000 (fn:=Tryz.f56) (by kernel_rfl) (by kernel_rfl) (X:=X56) (by kernel_rfl) ?_
 rw [eq56]
 exact (nt56 Ops.std c8 c80 p0 p1 p2 p3 p4 some (K1 k0)).trans (by show ob (F56 c8 c80 p0 p1 p2 p3 p4) _=_;rw [hy];rfl)
noncomputable def M56:L61→L65→L71→L3→L3→Option (Bool):=F56 M8 M80
theorem sm56:Sp56 M56:=sf56 sm8 sm80
def X27:Aux:=⟨[(4,([0,1,4]++rg 6 37))],[(6,.lin [0,1,2,3,4,5,6])]⟩
inductive S27 where
 | l0 (v0:Int)
abbrev C30:Type:=L79→L79→Int→Option (L3×L3×L3)
abbrev C56:Type:=L61→L65→L71→L3→L3→Option (Bool)
def T27 {R:Type} (B:Ops) (c8:C8) (c30:C30) (c56:C56) (p0:L61) (p1:L65) (p2:L71) (p3:L79) (p4:L79) (again:S27→Option R) (k:(Bool)→Option R):Option S27→Option R | none=>ob (c8 p0 p1 p2) fun y0=>cond (!y0) (k false) (cond (B.lt (↑p4.length) (1)) (k false) (cond (B.lt (2000) (IntKind.wrap .i64 (Nat.cast p3.length+Nat.cast p4.length))) (k false) (again (.l0 0)))) | some (.l0 v0)=>cond (B.lt v0 (IntKind.wrap .i64 (Nat.cast p3.length+Nat.cast p4.length))) (ob (c30 p3 p4 v0) fun y0=>ob (c56 p0 p1 p2 y0.1 y0.2.1) fun y1=>cond (!y1) (k false) (again (.l0 (IntKind.wrap .i64 (v0+1))))) (k true)
def E27 (p0:L61) (p1:L65) (p2:L71) (p3:L79) (p4:L79):S27→List AV×Objs
 | .l0 v0=>(mk 43 [(2,.c (.ptr 2 0)),(3,.c (.ptr 3 0)),(5,.c (.int .i64 v0))],[(2,.box 31 [.list 61 ty61 p0,.list 65 ty65 p1,.list 71 ty71 p2]),(3,.box 40 [.list 79 ty79 p3,.list 79 ty79 p4])])
def I27:S27→Nat
 | .l0 _=>0
theorem eq27 {R:Type} (B:Ops) (c8:C8) (c30:C30) (c56:C56) (p0:L61) (p1:L65) (p2:L71) (p3:L79) (p4:L79) (k:AV→Objs→Option R) (n:Nat):afun tau B gl0 X27 (ent 8 (e8 c8) (ent 30 (e30 c30) (ent 56 (e56 c56) gnil))) ow Tryz.f27 [.agg [.list 61 ty61 p0,.list 65 ty65 p1,.list 71 ty71 p2],.agg [.list 79 ty79 p3,.list 79 ty79 p4]] [] k n=T27 B c8 c30 c56 p0 p1 p2 p3 p4 (fun s=>aloop tau B gl0 X27 (ent 8 (e8 c8) (ent 30 (e30 c30) (ent 56 (e56 c56) gnil))) ow [] Tryz.f27 k (I27 s) (E27 p0 p1 p2 p3 p4 s) n) (K1 k) none:=by kernel_rfl
theorem el27 {R:Type} (B:Ops) (c8:C8) (c30:C30) (c56:C56) (p0:L61) (p1:L65) (p2:L71) (p3:L79) (p4:L79) (k:AV→Objs→Option R) (n:Nat):∀ s,aloop tau B gl0 X27 (ent 8 (e8 c8) (ent 30 (e30 c30) (ent 56 (e56 c56) gnil))) ow [] Tryz.f27 k (I27 s) (E27 p0 p1 p2 p3 p4 s) (n+1)=T27 B c8 c30 c56 p0 p1 p2 p3 p4 (fun s=>aloop tau B gl0 X27 (ent 8 (e8 c8) (ent 30 (e30 c30) (ent 56 (e56 c56) gnil))) ow [] Tryz.f27 k (I27 s) (E27 p0 p1 p2 p3 p4 s) n) (K1 k) (some s):=by
 intro s
 cases s<;>kernel_rfl
theorem nt27 {R R':Type} (B:Ops) (c8:C8) (c30:C30) (c56:C56) (p0:L61) (p1:L65) (p2:L71) (p3:L79) (p4:L79) (again:S27→Option R) (again':S27→Option R') (k0:(Bool)→Option R') (k:R'→Option R) (h:∀ s,again s=ob (again' s) k):∀ s,T27 B c8 c30 c56 p0 p1 p2 p3 p4 again (fun y=>ob (k0 y) k) s=ob (T27 B c8 c30 c56 p0 p1 p2 p3 p4 again' k0 s) k:=by
 rintro (_ | x)
 all_goals try cases x
 all_goals (unfold T27;repeat' first | exact rfl | exact h _ | apply qae | (apply qao;intro))
def R27 (c8:C8) (c30:C30) (c56:C56) (p0:L61) (p1:L65) (p2:L71) (p3:L79) (p4:L79):Nat→S27→Option (Bool)
 | 0,_=>none
 | n+1,s=>T27 Ops.std c8 c30 c56 p0 p1 p2 p3 p4 (R27 c8 c30 c56 p0 p1 p2 p3 p4 n) some (some s)
theorem rr27 {R:Type} (c8:C8) (c30:C30) (c56:C56) (p0:L61) (p1:L65) (p2:L71) (p3:L79) (p4:L79) (k:AV→Objs→Option R):∀ (n:Nat) (s:S27),aloop tau Ops.std gl0 X27 (ent 8 (e8 c8) (ent 30 (e30 c30) (ent 56 (e56 c56) gnil))) ow [] Tryz.f27 k (I27 s) (E27 p0 p1 p2 p3 p4 s) n=ob (R27 c8 c30 c56 p0 p1 p2 p3 p4 n s) (K1 k)
 | 0,s=>by cases s<;>rfl
 | n+1,s=>by rw [el27];exact nt27 Ops.std c8 c30 c56 p0 p1 p2 p3 p4 _ _ some (K1 k) (rr27 c8 c30 c56 p0 p1 p2 p3 p4 k n) (some s)
def F27 (c8:C8) (c30:C30) (c56:C56) (p0:L61) (p1:L65) (p2:L71) (p3:L79) (p4:L79):Option (Bool):=T27 Ops.std c8 c30 c56 p0 p1 p2 p3 p4 (R27 c8 c30 c56 p0 p1 p2 p3 p4 1000000) some none
def e27 {R:Type} (c:L61→L65→L71→L79→L79→Option (Bool)):Ent R:=fun args objs k=>
 oCons args fun a0 l0=>oAgg a0 fun x0=>cCons x0 fun z0_0 w0_0=>cList 61 ty61 z0_0 fun p0=>cCons w0_0 fun z0_1 w0_1=>cList 65 ty65 z0_1 fun p1=>cCons w0_1 fun z0_2 w0_2=>cList 71 ty71 z0_2 fun p2=>cNil w0_2 <| oCons l0 fun a1 l1=>oAgg a1 fun x1=>cCons x1 fun z1_0 w1_0=>cList 79 ty79 z1_0 fun p3=>cCons w1_0 fun z1_1 w1_1=>cList 79 ty79 z1_1 fun p4=>cNil w1_1 <| oE l1 objs <| ob (c p0 p1 p2 p3 p4) (K1 k)
abbrev Sp27 (c:L61→L65→L71→L79→L79→Option (Bool)):Prop:=∀ (p0:L61) (p1:L65) (p2:L71) (p3:L79) (p4:L79) (y:Bool),c p0 p1 p2 p3 p4=some y→Spec Tryz.prog gl0 27 [.agg [.list 61 ty61 p0,.list 65 ty65 p1,.list 71 ty71 p2],.agg [.list 79 ty79 p3,.list 79 ty79 p4]] [] (.c (.bool y)) []
theorem ek27 {R:Type} {c:L61→L65→L71→L79→L79→Option (Bool)} (hs:Sp27 c):EOk 27 (e27 (R:=R) c):=fun args objs k r h=>by
 unfold e27 at h
 obtain ⟨a0,l0,rfl,q1⟩:=qak h
 obtain ⟨x0,rfl,q2⟩:=qav q1
 obtain ⟨z0_0,w0_0,rfl,q3⟩:=qaa q2
 obtain ⟨p0,rfl,q4⟩:=qac q3
 obtain ⟨z0_1,w0_1,rfl,q5⟩:=qaa q4
 obtain ⟨p1,rfl,q6⟩:=qac q5
 obtain ⟨z0_2,w0_2,rfl,q7⟩:=qaa q6
 obtain ⟨p2,rfl,q8⟩:=qac q7
 obtain ⟨rfl,q9⟩:=qaq q8
 obtain ⟨a1,l1,rfl,q10⟩:=qak q9
 obtain ⟨x1,rfl,q11⟩:=qav q10
 obtain ⟨z1_0,w1_0,rfl,q12⟩:=qaa q11
 obtain ⟨p3,rfl,q13⟩:=qac q12
 obtain ⟨z1_1,w1_1,rfl,q14⟩:=qaa q13
 obtain ⟨p4,rfl,q15⟩:=qac q14
 obtain ⟨rfl,q16⟩:=qaq q15
 obtain ⟨rfl,rfl,q18⟩:=qam q16
 exact qan (hs p0 p1 p2 p3 p4) q18
theorem sf27 {c8:C8} {c30:C30} {c56:C56} (h8:Sp8 c8) (h30:Sp30 c30) (h56:Sp56 c56):Sp27 (F27 c8 c30 c56):=fun p0 p1 p2 p3 p4 y hy=>by
 refine qai (qad (ek8 h8) (qad (ek30 h30) (qad (ek56 h56) qah))) 1000000 (fn:=Tryz.f27) (by kernel_rfl) (by kernel_rfl) (X:=X27) (by kernel_rfl) ?_
 rw [eq27]
 exact (nt27 Ops.std c8 c30 c56 p0 p1 p2 p3 p4 _ _ some (K1 k0) (rr27 c8 c30 c56 p0 p1 p2 p3 p4 k0 1000000) none).trans (by show ob (F27 c8 c30 c56 p0 p1 p2 p3 p4) _=_;rw [hy];rfl)
noncomputable def M27:L61→L65→L71→L79→L79→Option (Bool):=F27 M8 M30 M56
theorem sm27:Sp27 M27:=sf27 sm8 sm30 sm56
def X28:Aux:=⟨[(6,([1,2]++rg 6 37))],[]⟩
inductive S28 where
 | l0 (v1:Int) (v2:L22) (v3:L3)
def T28 {R:Type} (B:Ops) (c25:C25) (c55:C55) (p0:L73) (again:S28→Option R) (k:(L22)→Option R):Option S28→Option R | none=>ob (c25 p0) fun y0=>cond (!y0) (k (mt (Ty.den ty22))) (again (.l0 0 (mt (Ty.den ty22)) (mt (Ty.den (Ty.int .i64))))) | some (.l0 v1 v2 v3)=>cond (B.lt v1 (↑p0.length)) (cond (B.inb v1 p0.length) (ob (c55 ((p0.getD v1.toNat ty73.dflt).1)) fun y0=>cond (B.lt (IntKind.wrap .i64 (Nat.cast v3.length-y0)) (0)) (k (mt (Ty.den ty22))) (cond (B.inb (IntKind.wrap .i64 (Nat.cast v3.length-y0)) (List.length v3+1)) (cond (B.lim (List.length (mt (Ty.den (Ty.int .i64)))+List.length (List.drop (Int.toNat (IntKind.wrap .i64 (Nat.cast v3.length-y0))) (List.take v3.length v3))) (8)) (cond (B.lim (List.length v2+List.length ((mt (Ty.den (Ty.int .i64))++List.drop (Int.toNat (IntKind.wrap .i64 (Nat.cast v3.length-y0))) (List.take v3.length v3))::mt (Ty.den ty22))) (24)) (cond (B.eq (IntKind.wrap .i64 (Nat.cast v3.length-y0)) (IntKind.wrap .i64 (Nat.cast v3.length-y0))) (cond (B.inb (IntKind.wrap .i64 (Nat.cast v3.length-y0)) (List.length v3+1)) (cond (B.lt (0) (Nat.cast (List.length (v1::mt (Ty.den (Ty.int .i64)))))) (cond (B.lim (List.length (List.take (Int.toNat (IntKind.wrap .i64 (Nat.cast v3.length-y0))) v3)+List.length (v1::mt (Ty.den (Ty.int .i64)))) (8)) (again (.l0 (IntKind.wrap .i64 (v1+1)) (v2++(mt (Ty.den (Ty.int .i64))++List.drop (Int.toNat (IntKind.wrap .i64 (Nat.cast v3.length-y0))) (List.take v3.length v3))::mt (Ty.den ty22)) (List.take (Int.toNat (IntKind.wrap .i64 (Nat.cast v3.length-y0))) v3++v1::mt (Ty.den (Ty.int .i64))))) none) none) none) none) none) none) none)) none) (k v2)
def E28 (p0:L73):S28→List AV×Objs
 | .l0 v1 v2 v3=>(mk 43 [(0,.c (.list 73 ty73 p0)),(3,.c (.own 3)),(4,.c (.own 4)),(5,.c (.int .i64 v1))],[(3,.row 22 ty22 v2),(4,.row 3 ty3 v3)])
def I28:S28→Nat
 | .l0 _ _ _=>0
theorem eq28 {R:Type} (B:Ops) (c25:C25) (c55:C55) (p0:L73) (k:AV→Objs→Option R) (n:Nat):afun tau B gl0 X28 (ent 25 (e25 c25) (ent 55 (e55 c55) gnil)) ow Tryz.f28 [.c (.list 73 ty73 p0)] [] k n=T28 B c25 c55 p0 (fun s=>aloop tau B gl0 X28 (ent 25 (e25 c25) (ent 55 (e55 c55) gnil)) ow [] Tryz.f28 k (I28 s) (E28 p0 s) n) (K14 k) none:=by kernel_rfl
theorem el28 {R:Type} (B:Ops) (c25:C25) (c55:C55) (p0:L73) (k:AV→Objs→Option R) (n:Nat):∀ s,aloop tau B gl0 X28 (ent 25 (e25 c25) (ent 55 (e55 c55) gnil)) ow [] Tryz.f28 k (I28 s) (E28 p0 s) (n+1)=T28 B c25 c55 p0 (fun s=>aloop tau B gl0 X28 (ent 25 (e25 c25) (ent 55 (e55 c55) gnil)) ow [] Tryz.f28 k (I28 s) (E28 p0 s) n) (K14 k) (some s):=by
 intro s
 cases s<;>kernel_rfl
theorem nt28 {R R':Type} (B:Ops) (c25:C25) (c55:C55) (p0:L73) (again:S28→Option R) (again':S28→Option R') (k0:(L22)→Option R') (k:R'→Option R) (h:∀ s,again s=ob (again' s) k):∀ s,T28 B c25 c55 p0 again (fun y=>ob (k0 y) k) s=ob (T28 B c25 c55 p0 again' k0 s) k:=by
 rintro (_ | x)
 all_goals try cases x
 all_goals (unfold T28;repeat' first | exact rfl | exact h _ | apply qae | (apply qao;intro))
def R28 (c25:C25) (c55:C55) (p0:L73):Nat→S28→Option (L22)
 | 0,_=>none
 | n+1,s=>T28 Ops.std c25 c55 p0 (R28 c25 c55 p0 n) some (some s)
theorem rr28 {R:Type} (c25:C25) (c55:C55) (p0:L73) (k:AV→Objs→Option R):∀ (n:Nat) (s:S28),aloop tau Ops.std gl0 X28 (ent 25 (e25 c25) (ent 55 (e55 c55) gnil)) ow [] Tryz.f28 k (I28 s) (E28 p0 s) n=ob (R28 c25 c55 p0 n s) (K14 k)
 | 0,s=>by cases s<;>rfl
 | n+1,s=>by rw [el28];exact nt28 Ops.std c25 c55 p0 _ _ some (K14 k) (rr28 c25 c55 p0 k n) (some s)
def F28 (c25:C25) (c55:C55) (p0:L73):Option (L22):=T28 Ops.std c25 c55 p0 (R28 c25 c55 p0 1000000) some none
def e28 {R:Type} (c:L73→Option (L22)):Ent R:=fun args objs k=>
 oL args 73 ty73 fun p0 l0=>oE l0 objs <| ob (c p0) (K14 k)
abbrev Sp28 (c:L73→Option (L22)):Prop:=∀ (p0:L73) (y:L22),c p0=some y→Spec Tryz.prog gl0 28 [.c (.list 73 ty73 p0)] [] (.c (.own 500)) [(500,.row 22 ty22 y)]
theorem ek28 {R:Type} {c:L73→Option (L22)} (hs:Sp28 c):EOk 28 (e28 (R:=R) c):=fun args objs k r h=>by
 unfold e28 at h
 obtain ⟨p0,l0,rfl,q3⟩:=qa1 h
 obtain ⟨rfl,rfl,q5⟩:=qam q3
 exact qan (hs p0) q5
theorem sf28 {c25:C25} {c55:C55} (h25:Sp25 c25) (h55:Sp55 c55):Sp28 (F28 c25 c55):=fun p0 y hy=>by
 refine qai (qad (ek25 h25) (qad (ek55 h55) qah)) 1000000 (fn:=Tryz.f28) (by kernel_rfl) (by kernel_rfl) (X:=X28) (by kernel_rfl) ?_
 rw [eq28]
 exact (nt28 Ops.std c25 c55 p0 _ _ some (K14 k0) (rr28 c25 c55 p0 k0 1000000) none).trans (by show ob (F28 c25 c55 p0) _=_;rw [hy];rfl)
noncomputable def M28:L73→Option (L22):=F28 M25 M55
theorem sm28:Sp28 M28:=sf28 sm25 sm55
def X57:Aux:=⟨[],[]⟩
def T57 {R:Type} (B:Ops) (p0:Int) (k:(Int)→Option R):Option R:=k (bif true then bif B.lt (-99999) (bif false then bif B.lt (99999) p0 then p0 else 99999 else bif B.lt p0 (99999) then p0 else 99999) then bif false then bif B.lt (99999) p0 then p0 else 99999 else bif B.lt p0 (99999) then p0 else 99999 else -99999 else bif B.lt (bif false then bif B.lt (99999) p0 then p0 else 99999 else bif B.lt p0 (99999) then p0 else 99999) (-99999) then bif false then bif B.lt (99999) p0 then p0 else 99999 else bif B.lt p0 (99999) then p0 else 99999 else -99999)
theorem eq57 {R:Type} (B:Ops) (p0:Int) (k:AV→Objs→Option R) (n:Nat):afun tau B gl0 X57 gnil ow Tryz.f57 [.c (.int .i64 p0)] [] k n=T57 B p0 (K8 k):=by kernel_rfl
theorem nt57 {R R':Type} (B:Ops) (p0:Int) (k0:(Int)→Option R') (k:R'→Option R):T57 B p0 (fun y=>ob (k0 y) k)=ob (T57 B p0 k0) k:=by
 unfold T57
 repeat' first | exact rfl | apply qae | (apply qao;intro)
def F57 (p0:Int):Option (Int):=T57 Ops.std p0 some
def e57 {R:Type} (c:Int→Option (Int)):Ent R:=fun args objs k=>
 oI args .i64 fun p0 l0=>oE l0 objs <| ob (c p0) (K8 k)
abbrev Sp57 (c:Int→Option (Int)):Prop:=∀ (p0:Int) (y:Int),c p0=some y→Spec Tryz.prog gl0 57 [.c (.int .i64 p0)] [] (.c (.int .i64 y)) []
theorem ek57 {R:Type} {c:Int→Option (Int)} (hs:Sp57 c):EOk 57 (e57 (R:=R) c):=fun args objs k r h=>by
 unfold e57 at h
 obtain ⟨p0,l0,rfl,q3⟩:=qas h
 obtain ⟨rfl,rfl,q5⟩:=qam q3
 exact qan (hs p0) q5
theorem sf57:Sp57 (F57):=fun p0 y hy=>by
 refine qai qah 1000000 (fn:=Tryz.f57) (by kernel_rfl) (by kernel_rfl) (X:=X57) (by kernel_rfl) ?_
 rw [eq57]
 exact (nt57 Ops.std p0 some (K8 k0)).trans (by show ob (F57 p0) _=_;rw [hy];rfl)
noncomputable def M57:Int→Option (Int):=F57
theorem sm57:Sp57 M57:=sf57
def X58:Aux:=⟨[],[]⟩
def T58 {R:Type} (B:Ops) (p0:Bool) (k:(Int)→Option R):Option R:=cond (p0) (k 1) (k 0)
theorem eq58 {R:Type} (B:Ops) (p0:Bool) (k:AV→Objs→Option R) (n:Nat):afun tau B gl0 X58 gnil ow Tryz.f58 [.c (.bool p0)] [] k n=T58 B p0 (K8 k):=by kernel_rfl
theorem nt58 {R R':Type} (B:Ops) (p0:Bool) (k0:(Int)→Option R') (k:R'→Option R):T58 B p0 (fun y=>ob (k0 y) k)=ob (T58 B p0 k0) k:=by
 unfold T58
 repeat' first | exact rfl | apply qae | (apply qao;intro)
def F58 (p0:Bool):Option (Int):=T58 Ops.std p0 some
def e58 {R:Type} (c:Bool→Option (Int)):Ent R:=fun args objs k=>
 oCons args fun a0 l0=>oC a0 fun x0=>cBool x0 fun p0=>oE l0 objs <| ob (c p0) (K8 k)
abbrev Sp58 (c:Bool→Option (Int)):Prop:=∀ (p0:Bool) (y:Int),c p0=some y→Spec Tryz.prog gl0 58 [.c (.bool p0)] [] (.c (.int .i64 y)) []
theorem ek58 {R:Type} {c:Bool→Option (Int)} (hs:Sp58 c):EOk 58 (e58 (R:=R) c):=fun args objs k r h=>by
 unfold e58 at h
 obtain ⟨a0,l0,rfl,q1⟩:=qak h
 obtain ⟨x0,rfl,q2⟩:=qa5 q1
 obtain ⟨p0,rfl,q3⟩:=qbv q2
 obtain ⟨rfl,rfl,q5⟩:=qam q3
 exact qan (hs p0) q5
theorem sf58:Sp58 (F58):=fun p0 y hy=>by
 refine qai qah 1000000 (fn:=Tryz.f58) (by kernel_rfl) (by kernel_rfl) (X:=X58) (by kernel_rfl) ?_
 rw [eq58]
 exact (nt58 Ops.std p0 some (K8 k0)).trans (by show ob (F58 p0) _=_;rw [hy];rfl)
noncomputable def M58:Bool→Option (Int):=F58
theorem sm58:Sp58 M58:=sf58
def X59:Aux:=⟨[],[]⟩
abbrev C57:Type:=Int→Option (Int)
abbrev C58:Type:=Bool→Option (Int)
def T59 {R:Type} (B:Ops) (c57:C57) (c58:C58) (p0:Int) (p1:Int) (p2:Int) (k:(Int)→Option R):Option R:=cond (B.eq p0 (6)) (ob (c57 (IntKind.wrap .i64 (p1*p2))) fun y0=>k y0) (cond (B.eq p0 (7)) (ob (c57 (IntKind.wrap .i64 (p1+p2))) fun y0=>k y0) (cond (B.eq p0 (8)) (ob (c57 (IntKind.wrap .i64 (p1-p2))) fun y0=>k y0) (cond (B.eq p0 (9)) (ob (c58 (B.lt p1 p2)) fun y0=>k y0) (cond (B.eq p0 (10)) (ob (c58 (B.le p1 p2)) fun y0=>k y0) (cond (B.eq p0 (11)) (ob (c58 (B.lt p2 p1)) fun y0=>k y0) (cond (B.eq p0 (12)) (ob (c58 (B.le p2 p1)) fun y0=>k y0) (cond (B.eq p0 (13)) (ob (c58 (B.eq p1 p2)) fun y0=>k y0) (cond (B.eq p0 (14)) (ob (c58 !B.eq p1 p2) fun y0=>k y0) (cond (B.eq p0 (15)) (cond (!B.eq p1 (0)) (ob (c58 !B.eq p2 (0)) fun y0=>k y0) (ob (c58 false) fun y0=>k y0)) (cond (!B.eq p1 (0)) (ob (c58 true) fun y0=>k y0) (ob (c58 !B.eq p2 (0)) fun y0=>k y0)))))))))))
theorem eq59 {R:Type} (B:Ops) (c57:C57) (c58:C58) (p0:Int) (p1:Int) (p2:Int) (k:AV→Objs→Option R) (n:Nat):afun tau B gl0 X59 (ent 57 (e57 c57) (ent 58 (e58 c58) gnil)) ow Tryz.f59 [.c (.int .i64 p0),.c (.int .i64 p1),.c (.int .i64 p2)] [] k n=T59 B c57 c58 p0 p1 p2 (K8 k):=by kernel_rfl
theorem nt59 {R R':Type} (B:Ops) (c57:C57) (c58:C58) (p0:Int) (p1:Int) (p2:Int) (k0:(Int)→Option R') (k:R'→Option R):T59 B c57 c58 p0 p1 p2 (fun y=>ob (k0 y) k)=ob (T59 B c57 c58 p0 p1 p2 k0) k:=by
 unfold T59
 repeat' first | exact rfl | apply qae | (apply qao;intro)
def F59 (c57:C57) (c58:C58) (p0:Int) (p1:Int) (p2:Int):Option (Int):=T59 Ops.std c57 c58 p0 p1 p2 some
def e59 {R:Type} (c:Int→Int→Int→Option (Int)):Ent R:=fun args objs k=>
 oI args .i64 fun p0 l0=>oI l0 .i64 fun p1 l1=>oI l1 .i64 fun p2 l2=>oE l2 objs <| ob (c p0 p1 p2) (K8 k)
abbrev Sp59 (c:Int→Int→Int→Option (Int)):Prop:=∀ (p0:Int) (p1:Int) (p2:Int) (y:Int),c p0 p1 p2=some y→Spec Tryz.prog gl0 59 [.c (.int .i64 p0),.c (.int .i64 p1),.c (.int .i64 p2)] [] (.c (.int .i64 y)) []
theorem ek59 {R:Type} {c:Int→Int→Int→Option (Int)} (hs:Sp59 c):EOk 59 (e59 (R:=R) c):=fun args objs k r h=>by
 unfold e59 at h
 obtain ⟨p0,l0,rfl,q3⟩:=qas h
 obtain ⟨p1,l1,rfl,q6⟩:=qas q3
 obtain ⟨p2,l2,rfl,q9⟩:=qas q6
 obtain ⟨rfl,rfl,q11⟩:=qam q9
 exact qan (hs p0 p1 p2) q11
theorem sf59 {c57:C57} {c58:C58} (h57:Sp57 c57) (h58:Sp58 c58):Sp59 (F59 c57 c58):=fun p0 p1 p2 y hy=>by
 refine qai (qad (ek57 h57) (qad (ek58 h58) qah)) 1000000 (fn:=Tryz.f59) (by kernel_rfl) (by kernel_rfl) (X:=X59) (by kernel_rfl) ?_
 rw [eq59]
 exact (nt59 Ops.std c57 c58 p0 p1 p2 some (K8 k0)).trans (by show ob (F59 c57 c58 p0 p1 p2) _=_;rw [hy];rfl)
noncomputable def M59:Int→Int→Int→Option (Int):=F59 M57 M58
theorem sm59:Sp59 M59:=sf59 sm57 sm58
def X29:Aux:=⟨[(5,([0,1,5,6]++rg 9 148))],[(16,.lin (rg 0 13)),(19,.lin (rg 0 16)),(23,.lin (rg 0 16)),(27,.lin (rg 0 16)),(12,.lin (rg 0 22))]⟩
inductive S29 where
 | l0 (v1:Int) (v7:L3)
abbrev C59:Type:=Int→Int→Int→Option (Int)
def T29 {R:Type} (B:Ops) (c24:C24) (c53:C53) (c57:C57) (c49:C49) (c52:C52) (c58:C58) (c59:C59) (p0:L61) (p1:L65) (p2:L71) (p3:L3) (p4:L3) (p5:L118) (again:S29→Option R) (k:(Int)→Option R):Option S29→Option R | none=>ob (c24 p0 p1 p2 p5) fun y0=>cond (!y0) (k 0) (cond (!B.eq (↑p3.length) (↑p1.length)) (k 0) (cond (!B.eq (↑p4.length) (↑p0.length)) (k 0) (again (.l0 0 (mt (Ty.den (Ty.int .i64))))))) | some (.l0 v1 v7)=>cond (B.lt v1 (↑p5.length)) (cond (B.inb v1 p5.length) (cond (B.eq ((p5.getD v1.toNat ty118.dflt).1) (1)) (cond (B.lim (List.length v7+List.length (((p5.getD v1.toNat ty118.dflt).2).1::mt (Ty.den (Ty.int .i64)))) (8)) (again (.l0 (IntKind.wrap .i64 (v1+1)) (v7++((p5.getD v1.toNat ty118.dflt).2).1::mt (Ty.den (Ty.int .i64))))) none) (cond (B.eq ((p5.getD v1.toNat ty118.dflt).1) (2)) (ob (c53 p0 p1 p2 ((((p5.getD v1.toNat ty118.dflt).2).2).1)) fun y0=>cond (B.inb y0 p4.length) (ob (c57 (p4.getD y0.toNat ty3.dflt)) fun y1=>cond (B.lim (List.length v7+List.length (y1::mt (Ty.den (Ty.int .i64)))) (8)) (again (.l0 (IntKind.wrap .i64 (v1+1)) (v7++y1::mt (Ty.den (Ty.int .i64))))) none) none) (cond (B.eq ((p5.getD v1.toNat ty118.dflt).1) (3)) (ob (c49 p0 p1 p2 ((((p5.getD v1.toNat ty118.dflt).2).2).1)) fun y0=>cond (B.inb y0 p3.length) (ob (c52 p0 p1 p2 y0 ((((p5.getD v1.toNat ty118.dflt).2).2).2)) fun y1=>ob (c58 (B.eq (p3.getD y0.toNat ty3.dflt) y1)) fun y2=>cond (B.lim (List.length v7+List.length (y2::mt (Ty.den (Ty.int .i64)))) (8)) (again (.l0 (IntKind.wrap .i64 (v1+1)) (v7++y2::mt (Ty.den (Ty.int .i64))))) none) none) (cond (B.eq ((p5.getD v1.toNat ty118.dflt).1) (4)) (cond (B.lt (↑v7.length) (1)) (k 0) (cond (B.eq (IntKind.wrap .i64 (Nat.cast v7.length-1)) (IntKind.wrap .i64 (Nat.cast v7.length-1))) (cond (B.inb (IntKind.wrap .i64 (Nat.cast v7.length-1)) (List.length v7+1)) (cond (B.inb (IntKind.wrap .i64 (Nat.cast v7.length-1)) v7.length) (ob (c58 (B.eq (v7.getD (Int.toNat (IntKind.wrap .i64 (Nat.cast v7.length-1))) ty3.dflt) (0))) fun y0=>cond (B.lt (0) (Nat.cast (List.length (y0::mt (Ty.den (Ty.int .i64)))))) (cond (B.lim (List.length (List.take (Int.toNat (IntKind.wrap .i64 (Nat.cast v7.length-1))) v7)+List.length (y0::mt (Ty.den (Ty.int .i64)))) (8)) (again (.l0 (IntKind.wrap .i64 (v1+1)) (List.take (Int.toNat (IntKind.wrap .i64 (Nat.cast v7.length-1))) v7++y0::mt (Ty.den (Ty.int .i64))))) none) none) none) none) none)) (cond (B.eq ((p5.getD v1.toNat ty118.dflt).1) (5)) (cond (B.lt (↑v7.length) (1)) (k 0) (cond (B.eq (IntKind.wrap .i64 (Nat.cast v7.length-1)) (IntKind.wrap .i64 (Nat.cast v7.length-1))) (cond (B.inb (IntKind.wrap .i64 (Nat.cast v7.length-1)) (List.length v7+1)) (cond (B.inb (IntKind.wrap .i64 (Nat.cast v7.length-1)) v7.length) (ob (c57 (IntKind.wrap .i64 (0-v7.getD (Int.toNat (IntKind.wrap .i64 (Nat.cast v7.length-1))) ty3.dflt))) fun y0=>cond (B.lt (0) (Nat.cast (List.length (y0::mt (Ty.den (Ty.int .i64)))))) (cond (B.lim (List.length (List.take (Int.toNat (IntKind.wrap .i64 (Nat.cast v7.length-1))) v7)+List.length (y0::mt (Ty.den (Ty.int .i64)))) (8)) (again (.l0 (IntKind.wrap .i64 (v1+1)) (List.take (Int.toNat (IntKind.wrap .i64 (Nat.cast v7.length-1))) v7++y0::mt (Ty.den (Ty.int .i64))))) none) none) none) none) none)) (cond (B.lt (↑v7.length) (2)) (k 0) (cond (B.eq (IntKind.wrap .i64 (Nat.cast v7.length-2)) (IntKind.wrap .i64 (Nat.cast v7.length-2))) (cond (B.inb (IntKind.wrap .i64 (Nat.cast v7.length-2)) (List.length v7+1)) (cond (B.inb (IntKind.wrap .i64 (Nat.cast v7.length-2)) v7.length) (cond (B.inb (IntKind.wrap .i64 (Nat.cast v7.length-1)) v7.length) (ob (c59 ((p5.getD v1.toNat ty118.dflt).1) (v7.getD (Int.toNat (IntKind.wrap .i64 (Nat.cast v7.length-2))) ty3.dflt) (v7.getD (Int.toNat (IntKind.wrap .i64 (Nat.cast v7.length-1))) ty3.dflt)) fun y0=>cond (B.lt (0) (Nat.cast (List.length (y0::mt (Ty.den (Ty.int .i64)))))) (cond (B.lim (List.length (List.take (Int.toNat (IntKind.wrap .i64 (Nat.cast v7.length-2))) v7)+List.length (y0::mt (Ty.den (Ty.int .i64)))) (8)) (again (.l0 (IntKind.wrap .i64 (v1+1)) (List.take (Int.toNat (IntKind.wrap .i64 (Nat.cast v7.length-2))) v7++y0::mt (Ty.den (Ty.int .i64))))) none) none) none) none) none) none))))))) none) (cond (B.eq (↑v7.length) (0)) (k 0) (cond (B.inb (0) v7.length) (k (v7.getD (Int.toNat (0)) ty3.dflt)) none))
def E29 (p0:L61) (p1:L65) (p2:L71) (p3:L3) (p4:L3) (p5:L118):S29→List AV×Objs
 | .l0 v1 v7=>(mk 157 [(2,.c (.list 118 ty118 p5)),(3,.c (.ptr 3 0)),(4,.c (.ptr 4 0)),(7,.c (.own 7)),(8,.c (.int .i64 v1))],[(3,.box 31 [.list 61 ty61 p0,.list 65 ty65 p1,.list 71 ty71 p2]),(4,.box 76 [.list 3 ty3 p3,.list 3 ty3 p4]),(7,.row 3 ty3 v7)])
def I29:S29→Nat
 | .l0 _ _=>0
theorem eq29 {R:Type} (B:Ops) (c24:C24) (c53:C53) (c57:C57) (c49:C49) (c52:C52) (c58:C58) (c59:C59) (p0:L61) (p1:L65) (p2:L71) (p3:L3) (p4:L3) (p5:L118) (k:AV→Objs→Option R) (n:Nat):afun tau B gl0 X29 (ent 24 (e24 c24) (ent 53 (e53 c53) (ent 57 (e57 c57) (ent 49 (e49 c49) (ent 52 (e52 c52) (ent 58 (e58 c58) (ent 59 (e59 c59) gnil))))))) ow Tryz.f29 [.agg [.list 61 ty61 p0,.list 65 ty65 p1,.list 71 ty71 p2],.agg [.list 3 ty3 p3,.list 3 ty3 p4],.c (.list 118 ty118 p5)] [] k n=T29 B c24 c53 c57 c49 c52 c58 c59 p0 p1 p2 p3 p4 p5 (fun s=>aloop tau B gl0 X29 (ent 24 (e24 c24) (ent 53 (e53 c53) (ent 57 (e57 c57) (ent 49 (e49 c49) (ent 52 (e52 c52) (ent 58 (e58 c58) (ent 59 (e59 c59) gnil))))))) ow [] Tryz.f29 k (I29 s) (E29 p0 p1 p2 p3 p4 p5 s) n) (K8 k) none:=by kernel_rfl
theorem el29 {R:Type} (B:Ops) (c24:C24) (c53:C53) (c57:C57) (c49:C49) (c52:C52) (c58:C58) (c59:C59) (p0:L61) (p1:L65) (p2:L71) (p3:L3) (p4:L3) (p5:L118) (k:AV→Objs→Option R) (n:Nat):∀ s,aloop tau B gl0 X29 (ent 24 (e24 c24) (ent 53 (e53 c53) (ent 57 (e57 c57) (ent 49 (e49 c49) (ent 52 (e52 c52) (ent 58 (e58 c58) (ent 59 (e59 c59) gnil))))))) ow [] Tryz.f29 k (I29 s) (E29 p0 p1 p2 p3 p4 p5 s) (n+1)=T29 B c24 c53 c57 c49 c52 c58 c59 p0 p1 p2 p3 p4 p5 (fun s=>aloop tau B gl0 X29 (ent 24 (e24 c24) (ent 53 (e53 c53) (ent 57 (e57 c57) (ent 49 (e49 c49) (ent 52 (e52 c52) (ent 58 (e58 c58) (ent 59 (e59 c59) gnil))))))) ow [] Tryz.f29 k (I29 s) (E29 p0 p1 p2 p3 p4 p5 s) n) (K8 k) (some s):=by
 intro s
 cases s<;>kernel_rfl
theorem nt29 {R R':Type} (B:Ops) (c24:C24) (c53:C53) (c57:C57) (c49:C49) (c52:C52) (c58:C58) (c59:C59) (p0:L61) (p1:L65) (p2:L71) (p3:L3) (p4:L3) (p5:L118) (again:S29→Option R) (again':S29→Option R') (k0:(Int)→Option R') (k:R'→Option R) (h:∀ s,again s=ob (again' s) k):∀ s,T29 B c24 c53 c57 c49 c52 c58 c59 p0 p1 p2 p3 p4 p5 again (fun y=>ob (k0 y) k) s=ob (T29 B c24 c53 c57 c49 c52 c58 c59 p0 p1 p2 p3 p4 p5 again' k0 s) k:=by
 rintro (_ | x)
 all_goals try cases x
 all_goals (unfold T29;repeat' first | exact rfl | exact h _ | apply qae | (apply qao;intro))
def R29 (c24:C24) (c53:C53) (c57:C57) (c49:C49) (c52:C52) (c58:C58) (c59:C59) (p0:L61) (p1:L65) (p2:L71) (p3:L3) (p4:L3) (p5:L118):Nat→S29→Option (Int)
 | 0,_=>none
 | n+1,s=>T29 Ops.std c24 c53 c57 c49 c52 c58 c59 p0 p1 p2 p3 p4 p5 (R29 c24 c53 c57 c49 c52 c58 c59 p0 p1 p2 p3 p4 p5 n) some (some s)
theorem rr29 {R:Type} (c24:C24) (c53:C53) (c57:C57) (c49:C49) (c52:C52) (c58:C58) (c59:C59) (p0:L61) (p1:L65) (p2:L71) (p3:L3) (p4:L3) (p5:L118) (k:AV→Objs→Option R):∀ (n:Nat) (s:S29),aloop tau Ops.std gl0 X29 (ent 24 (e24 c24) (ent 53 (e53 c53) (ent 57 (e57 c57) (ent 49 (e49 c49) (ent 52 (e52 c52) (ent 58 (e58 c58) (ent 59 (e59 c59) gnil))))))) ow [] Tryz.f29 k (I29 s) (E29 p0 p1 p2 p3 p4 p5 s) n=ob (R29 c24 c53 c57 c49 c52 c58 c59 p0 p1 p2 p3 p4 p5 n s) (K8 k)
 | 0,s=>by cases s<;>rfl
 | n+1,s=>by rw [el29];exact nt29 Ops.std c24 c53 c57 c49 c52 c58 c59 p0 p1 p2 p3 p4 p5 _ _ some (K8 k) (rr29 c24 c53 c57 c49 c52 c58 c59 p0 p1 p2 p3 p4 p5 k n) (some s)
def F29 (c24:C24) (c53:C53) (c57:C57) (c49:C49) (c52:C52) (c58:C58) (c59:C59) (p0:L61) (p1:L65) (p2:L71) (p3:L3) (p4:L3) (p5:L118):Option (Int):=T29 Ops.std c24 c53 c57 c49 c52 c58 c59 p0 p1 p2 p3 p4 p5 (R29 c24 c53 c57 c49 c52 c58 c59 p0 p1 p2 p3 p4 p5 1000000) some none
def e29 {R:Type} (c:L61→L65→L71→L3→L3→L118→Option (Int)):Ent R:=fun args objs k=>
 oCons args fun a0 l0=>oAgg a0 fun x0=>cCons x0 fun z0_0 w0_0=>cList 61 ty61 z0_0 fun p0=>cCons w0_0 fun z0_1 w0_1=>cList 65 ty65 z0_1 fun p1=>cCons w0_1 fun z0_2 w0_2=>cList 71 ty71 z0_2 fun p2=>cNil w0_2 <| oCons l0 fun a1 l1=>oAgg a1 fun x1=>cCons x1 fun z1_0 w1_0=>cList 3 ty3 z1_0 fun p3=>cCons w1_0 fun z1_1 w1_1=>cList 3 ty3 z1_1 fun p4=>cNil w1_1 <| oL l1 118 ty118 fun p5 l2=>oE l2 objs <| ob (c p0 p1 p2 p3 p4 p5) (K8 k)
abbrev Sp29 (c:L61→L65→L71→L3→L3→L118→Option (Int)):Prop:=∀ (p0:L61) (p1:L65) (p2:L71) (p3:L3) (p4:L3) (p5:L118) (y:Int),c p0 p1 p2 p3 p4 p5=some y→Spec Tryz.prog gl0 29 [.agg [.list 61 ty61 p0,.list 65 ty65 p1,.list 71 ty71 p2],.agg [.list 3 ty3 p3,.list 3 ty3 p4],.c (.list 118 ty118 p5)] [] (.c (.int .i64 y)) []
theorem ek29 {R:Type} {c:L61→L65→L71→L3→L3→L118→Option (Int)} (hs:Sp29 c):EOk 29 (e29 (R:=R) c):=fun args objs k r h=>by
 unfold e29 at h
 obtain ⟨a0,l0,rfl,q1⟩:=qak h
 obtain ⟨x0,rfl,q2⟩:=qav q1
 obtain ⟨z0_0,w0_0,rfl,q3⟩:=qaa q2
 obtain ⟨p0,rfl,q4⟩:=qac q3
 obtain ⟨z0_1,w0_1,rfl,q5⟩:=qaa q4
 obtain ⟨p1,rfl,q6⟩:=qac q5
 obtain ⟨z0_2,w0_2,rfl,q7⟩:=qaa q6
 obtain ⟨p2,rfl,q8⟩:=qac q7
 obtain ⟨rfl,q9⟩:=qaq q8
 obtain ⟨a1,l1,rfl,q10⟩:=qak q9
 obtain ⟨x1,rfl,q11⟩:=qav q10
 obtain ⟨z1_0,w1_0,rfl,q12⟩:=qaa q11
 obtain ⟨p3,rfl,q13⟩:=qac q12
 obtain ⟨z1_1,w1_1,rfl,q14⟩:=qaa q13
 obtain ⟨p4,rfl,q15⟩:=qac q14
 obtain ⟨rfl,q16⟩:=qaq q15
 obtain ⟨p5,l2,rfl,q19⟩:=qa1 q16
 obtain ⟨rfl,rfl,q21⟩:=qam q19
 exact qan (hs p0 p1 p2 p3 p4 p5) q21
theorem sf29 {c24:C24} {c53:C53} {c57:C57} {c49:C49} {c52:C52} {c58:C58} {c59:C59} (h24:Sp24 c24) (h53:Sp53 c53) (h57:Sp57 c57) (h49:Sp49 c49) (h52:Sp52 c52) (h58:Sp58 c58) (h59:Sp59 c59):Sp29 (F29 c24 c53 c57 c49 c52 c58 c59):=fun p0 p1 p2 p3 p4 p5 y hy=>by
 refine qai (qad (ek24 h24) (qad (ek53 h53) (qad (ek57 h57) (qad (ek49 h49) (qad (ek52 h52) (qad (ek58 h58) (qad (ek59 h59) qah))))))) 1000000 (fn:=Tryz.f29) (by kernel_rfl) (by kernel_rfl) (X:=X29) (by kernel_rfl) ?_
 rw [eq29]
 exact (nt29 Ops.std c24 c53 c57 c49 c52 c58 c59 p0 p1 p2 p3 p4 p5 _ _ some (K8 k0) (rr29 c24 c53 c57 c49 c52 c58 c59 p0 p1 p2 p3 p4 p5 k0 1000000) none).trans (by show ob (F29 c24 c53 c57 c49 c52 c58 c59 p0 p1 p2 p3 p4 p5) _=_;rw [hy];rfl)
noncomputable def M29:L61→L65→L71→L3→L3→L118→Option (Int):=F29 M24 M53 M57 M49 M52 M58 M59
theorem sm29:Sp29 M29:=sf29 sm24 sm53 sm57 sm49 sm52 sm58 sm59
def X31:Aux:=⟨[(3,([5,6,7,8,9,10]++rg 13 195)),(7,([5,6,7,8,9,10,12]++rg 14 194)),(10,([5,6,7,8,9,10,12]++rg 15 193)),(1000004,([5,6,7,8,9,10]++rg 13 195)),(1000015,([5,6,7,8,9,10,12]++rg 16 192)),(1000011,([5,6,7,8,9,10,12]++rg 15 193)),(1000008,([5,6,7,8,9,10,12]++rg 14 194))],[]⟩
inductive S31 where
 | l0 (v5:Int) (v6:L4)
 | l1 (v5:Int) (v6:L4)
 | l2 (v5:Int) (v6:Int) (v7:L4)
 | l1004 (v5:Int) (v6:L4)
 | l1008 (v5:Int) (v6:L4)
 | l1011 (v5:Int) (v6:Int) (v7:L4)
 | l1015 (v5:Int) (v6:Int) (v7:Int) (v8:L4)
def T31 {R:Type} (B:Ops) (p0:Int) (p1:L4) (p2:L4) (p3:Int) (p4:Int) (again:S31→Option R) (k:(L4)→Option R):Option S31→Option R | none=>cond (bif B.eq p3 p3 then bif B.le (0) p3 then B.lim p3.toNat (1) else false else false) (again (.l0 0 (List.replicate p3.toNat (Ty.dflt Ty.bool)))) none | some (.l0 v5 v6)=>cond (B.lt v5 p3) (cond (B.eq p0 (10)) (cond (B.inb v5 v6.length) (again (.l1004 v5 (List.set v6 v5.toNat true))) none) (cond (B.eq p0 (12)) (cond (B.inb v5 v6.length) (again (.l1004 v5 (List.set v6 v5.toNat true))) none) (cond (B.inb v5 v6.length) (again (.l1004 v5 (List.set v6 v5.toNat (B.eq p0 (1))))) none))) (again (.l1 0 v6)) | some (.l1 v5 v6)=>cond (B.le v5 (IntKind.wrap .i64 (p3+1))) (again (.l2 v5 (IntKind.wrap .i64 (p3-1)) v6)) (k v6) | some (.l2 v5 v6 v7)=>cond (B.le (0) v6) (cond (B.eq (IntKind.wrap .i64 (v6+1)) p3) (again (.l1015 v5 v6 p4 v7)) (again (.l1015 v5 v6 (IntKind.wrap .i64 (v6+1)) v7))) (cond (!B.eq p0 (9)) (cond (!B.eq p0 (10)) (cond (!B.eq p0 (11)) (cond (!B.eq p0 (12)) (k v7) (again (.l1008 v5 v7))) (again (.l1008 v5 v7))) (again (.l1008 v5 v7))) (again (.l1008 v5 v7))) | some (.l1004 v5 v6)=>again (.l0 (IntKind.wrap .i64 (v5+1)) v6) | some (.l1008 v5 v6)=>again (.l1 (IntKind.wrap .i64 (v5+1)) v6) | some (.l1011 v5 v6 v7)=>again (.l2 v5 (IntKind.wrap .i64 (v6-1)) v7) | some (.l1015 v5 v6 v7 v8)=>cond (B.eq p0 (4)) (cond (B.inb v6 p1.length) (cond (B.inb v6 v8.length) (again (.l1011 v5 v6 (List.set v8 v6.toNat !p1.getD v6.toNat ty4.dflt))) none) none) (cond (B.eq p0 (5)) (cond (B.inb v6 p1.length) (cond (p1.getD v6.toNat ty4.dflt) (cond (B.inb v6 p2.length) (cond (B.inb v6 v8.length) (again (.l1011 v5 v6 (List.set v8 v6.toNat (p2.getD v6.toNat ty4.dflt)))) none) none) (cond (B.inb v6 v8.length) (again (.l1011 v5 v6 (List.set v8 v6.toNat false))) none)) none) (cond (B.eq p0 (6)) (cond (B.inb v6 p1.length) (cond (p1.getD v6.toNat ty4.dflt) (cond (B.inb v6 v8.length) (again (.l1011 v5 v6 (List.set v8 v6.toNat true))) none) (cond (B.inb v6 p2.length) (cond (B.inb v6 v8.length) (again (.l1011 v5 v6 (List.set v8 v6.toNat (p2.getD v6.toNat ty4.dflt)))) none) none)) none) (cond (B.eq p0 (7)) (cond (B.inb v6 p1.length) (cond (!p1.getD v6.toNat ty4.dflt) (cond (B.inb v6 v8.length) (again (.l1011 v5 v6 (List.set v8 v6.toNat true))) none) (cond (B.inb v6 p2.length) (cond (B.inb v6 v8.length) (again (.l1011 v5 v6 (List.set v8 v6.toNat (p2.getD v6.toNat ty4.dflt)))) none) none)) none) (cond (B.eq p0 (8)) (cond (B.inb v7 p1.length) (cond (B.inb v6 v8.length) (again (.l1011 v5 v6 (List.set v8 v6.toNat (p1.getD v7.toNat ty4.dflt)))) none) none) (cond (B.eq p0 (9)) (cond (B.inb v6 p2.length) (cond (p2.getD v6.toNat ty4.dflt) (cond (B.inb v6 v8.length) (again (.l1011 v5 v6 (List.set v8 v6.toNat true))) none) (cond (B.inb v6 p1.length) (cond (p1.getD v6.toNat ty4.dflt) (cond (B.inb v7 v8.length) (cond (B.inb v6 v8.length) (again (.l1011 v5 v6 (List.set v8 v6.toNat (v8.getD v7.toNat ty4.dflt)))) none) none) (cond (B.inb v6 v8.length) (again (.l1011 v5 v6 (List.set v8 v6.toNat false))) none)) none)) none) (cond (B.eq p0 (10)) (cond (B.inb v6 p2.length) (cond (p2.getD v6.toNat ty4.dflt) (cond (B.inb v6 p1.length) (cond (p1.getD v6.toNat ty4.dflt) (cond (B.inb v6 v8.length) (again (.l1011 v5 v6 (List.set v8 v6.toNat true))) none) (cond (B.inb v7 v8.length) (cond (B.inb v6 v8.length) (again (.l1011 v5 v6 (List.set v8 v6.toNat (v8.getD v7.toNat ty4.dflt)))) none) none)) none) (cond (B.inb v6 v8.length) (again (.l1011 v5 v6 (List.set v8 v6.toNat false))) none)) none) (cond (B.eq p0 (11)) (cond (B.inb v6 p1.length) (cond (p1.getD v6.toNat ty4.dflt) (cond (B.inb v6 v8.length) (again (.l1011 v5 v6 (List.set v8 v6.toNat true))) none) (cond (B.inb v7 v8.length) (cond (B.inb v6 v8.length) (again (.l1011 v5 v6 (List.set v8 v6.toNat (v8.getD v7.toNat ty4.dflt)))) none) none)) none) (cond (B.eq p0 (12)) (cond (B.inb v6 p1.length) (cond (p1.getD v6.toNat ty4.dflt) (cond (B.inb v7 v8.length) (cond (B.inb v6 v8.length) (again (.l1011 v5 v6 (List.set v8 v6.toNat (v8.getD v7.toNat ty4.dflt)))) none) none) (cond (B.inb v6 v8.length) (again (.l1011 v5 v6 (List.set v8 v6.toNat false))) none)) none) (again (.l1011 v5 v6 v8))))))))))
def E31 (p0:Int) (p1:L4) (p2:L4) (p3:Int) (p4:Int):S31→List AV×Objs
 | .l0 v5 v6=>(mk 208 [(0,.c (.int .i64 p0)),(1,.c (.list 4 ty4 p1)),(2,.c (.list 4 ty4 p2)),(3,.c (.int .i64 p3)),(4,.c (.int .i64 p4)),(11,.c (.own 11)),(12,.c (.int .i64 v5))],[(11,.row 4 ty4 v6)])
 | .l1 v5 v6=>(mk 208 [(0,.c (.int .i64 p0)),(1,.c (.list 4 ty4 p1)),(2,.c (.list 4 ty4 p2)),(3,.c (.int .i64 p3)),(4,.c (.int .i64 p4)),(11,.c (.own 11)),(13,.c (.int .i64 v5))],[(11,.row 4 ty4 v6)])
 | .l2 v5 v6 v7=>(mk 208 [(0,.c (.int .i64 p0)),(1,.c (.list 4 ty4 p1)),(2,.c (.list 4 ty4 p2)),(3,.c (.int .i64 p3)),(4,.c (.int .i64 p4)),(11,.c (.own 11)),(13,.c (.int .i64 v5)),(14,.c (.int .i64 v6))],[(11,.row 4 ty4 v7)])
 | .l1004 v5 v6=>(mk 208 [(0,.c (.int .i64 p0)),(1,.c (.list 4 ty4 p1)),(2,.c (.list 4 ty4 p2)),(3,.c (.int .i64 p3)),(4,.c (.int .i64 p4)),(11,.c (.own 11)),(12,.c (.int .i64 v5))],[(11,.row 4 ty4 v6)])
 | .l1008 v5 v6=>(mk 208 [(0,.c (.int .i64 p0)),(1,.c (.list 4 ty4 p1)),(2,.c (.list 4 ty4 p2)),(3,.c (.int .i64 p3)),(4,.c (.int .i64 p4)),(11,.c (.own 11)),(13,.c (.int .i64 v5))],[(11,.row 4 ty4 v6)])
 | .l1011 v5 v6 v7=>(mk 208 [(0,.c (.int .i64 p0)),(1,.c (.list 4 ty4 p1)),(2,.c (.list 4 ty4 p2)),(3,.c (.int .i64 p3)),(4,.c (.int .i64 p4)),(11,.c (.own 11)),(13,.c (.int .i64 v5)),(14,.c (.int .i64 v6))],[(11,.row 4 ty4 v7)])
 | .l1015 v5 v6 v7 v8=>(mk 208 [(0,.c (.int .i64 p0)),(1,.c (.list 4 ty4 p1)),(2,.c (.list 4 ty4 p2)),(3,.c (.int .i64 p3)),(4,.c (.int .i64 p4)),(11,.c (.own 11)),(13,.c (.int .i64 v5)),(14,.c (.int .i64 v6)),(15,.c (.int .i64 v7))],[(11,.row 4 ty4 v8)])
def I31:S31→Nat
 | .l0 _ _=>0
 | .l1 _ _=>1
 | .l2 _ _ _=>2
 | .l1004 _ _=>1004
 | .l1008 _ _=>1008
 | .l1011 _ _ _=>1011
 | .l1015 _ _ _ _=>1015
abbrev K30 {R:Type} (k:AV→Objs→Option R) (y:(L4)):Option R:=k (.c (.own 500)) [(500,.row 4 ty4 y)]
theorem eq31 {R:Type} (B:Ops) (p0:Int) (p1:L4) (p2:L4) (p3:Int) (p4:Int) (k:AV→Objs→Option R) (n:Nat):afun tau B gl0 X31 gnil ow Tryz.f31 [.c (.int .i64 p0),.c (.list 4 ty4 p1),.c (.list 4 ty4 p2),.c (.int .i64 p3),.c (.int .i64 p4)] [] k n=T31 B p0 p1 p2 p3 p4 (fun s=>aloop tau B gl0 X31 gnil ow [] Tryz.f31 k (I31 s) (E31 p0 p1 p2 p3 p4 s) n) (K30 k) none:=by kernel_rfl
theorem el31 {R:Type} (B:Ops) (p0:Int) (p1:L4) (p2:L4) (p3:Int) (p4:Int) (k:AV→Objs→Option R) (n:Nat):∀ s,aloop tau B gl0 X31 gnil ow [] Tryz.f31 k (I31 s) (E31 p0 p1 p2 p3 p4 s) (n+1)=T31 B p0 p1 p2 p3 p4 (fun s=>aloop tau B gl0 X31 gnil ow [] Tryz.f31 k (I31 s) (E31 p0 p1 p2 p3 p4 s) n) (K30 k) (some s):=by
 intro s
 cases s<;>kernel_rfl
theorem nt31 {R R':Type} (B:Ops) (p0:Int) (p1:L4) (p2:L4) (p3:Int) (p4:Int) (again:S31→Option R) (again':S31→Option R') (k0:(L4)→Option R') (k:R'→Option R) (h:∀ s,again s=ob (again' s) k):∀ s,T31 B p0 p1 p2 p3 p4 again (fun y=>ob (k0 y) k) s=ob (T31 B p0 p1 p2 p3 p4 again' k0 s) k:=by
 rintro (_ | x)
 all_goals try cases x
 all_goals (unfold T31;repeat' first | exact rfl | exact h _ | apply qae | (apply qao;intro))
def R31 (p0:Int) (p1:L4) (p2:L4) (p3:Int) (p4:Int):Nat→S31→Option (L4)
 | 0,_=>none
 | n+1,s=>T31 Ops.std p0 p1 p2 p3 p4 (R31 p0 p1 p2 p3 p4 n) some (some s)
theorem rr31 {R:Type} (p0:Int) (p1:L4) (p2:L4) (p3:Int) (p4:Int) (k:AV→Objs→Option R):∀ (n:Nat) (s:S31),aloop tau Ops.std gl0 X31 gnil ow [] Tryz.f31 k (I31 s) (E31 p0 p1 p2 p3 p4 s) n=ob (R31 p0 p1 p2 p3 p4 n s) (K30 k)
 | 0,s=>by cases s<;>rfl
 | n+1,s=>by rw [el31];exact nt31 Ops.std p0 p1 p2 p3 p4 _ _ some (K30 k) (rr31 p0 p1 p2 p3 p4 k n) (some s)
def F31 (p0:Int) (p1:L4) (p2:L4) (p3:Int) (p4:Int):Option (L4):=T31 Ops.std p0 p1 p2 p3 p4 (R31 p0 p1 p2 p3 p4 1000000) some none
def e31 {R:Type} (c:Int→L4→L4→Int→Int→Option (L4)):Ent R:=fun args objs k=>
 oI args .i64 fun p0 l0=>oL l0 4 ty4 fun p1 l1=>oL l1 4 ty4 fun p2 l2=>oI l2 .i64 fun p3 l3=>oI l3 .i64 fun p4 l4=>oE l4 objs <| ob (c p0 p1 p2 p3 p4) (K30 k)
abbrev Sp31 (c:Int→L4→L4→Int→Int→Option (L4)):Prop:=∀ (p0:Int) (p1:L4) (p2:L4) (p3:Int) (p4:Int) (y:L4),c p0 p1 p2 p3 p4=some y→Spec Tryz.prog gl0 31 [.c (.int .i64 p0),.c (.list 4 ty4 p1),.c (.list 4 ty4 p2),.c (.int .i64 p3),.c (.int .i64 p4)] [] (.c (.own 500)) [(500,.row 4 ty4 y)]
theorem ek31 {R:Type} {c:Int→L4→L4→Int→Int→Option (L4)} (hs:Sp31 c):EOk 31 (e31 (R:=R) c):=fun args objs k r h=>by
 unfold e31 at h
 obtain ⟨p0,l0,rfl,q3⟩:=qas h
 obtain ⟨p1,l1,rfl,q6⟩:=qa1 q3
 obtain ⟨p2,l2,rfl,q9⟩:=qa1 q6
 obtain ⟨p3,l3,rfl,q12⟩:=qas q9
 obtain ⟨p4,l4,rfl,q15⟩:=qas q12
 obtain ⟨rfl,rfl,q17⟩:=qam q15
 exact qan (hs p0 p1 p2 p3 p4) q17
theorem sf31:Sp31 (F31):=fun p0 p1 p2 p3 p4 y hy=>by
 refine qai qah 1000000 (fn:=Tryz.f31) (by kernel_rfl) (by kernel_rfl) (X:=X31) (by kernel_rfl) ?_
 rw [eq31]
 exact (nt31 Ops.std p0 p1 p2 p3 p4 _ _ some (K30 k0) (rr31 p0 p1 p2 p3 p4 k0 1000000) none).trans (by show ob (F31 p0 p1 p2 p3 p4) _=_;rw [hy];rfl)
noncomputable def M31:Int→L4→L4→Int→Int→Option (L4):=F31
theorem sm31:Sp31 M31:=sf31
end Go.Proofs.YtfdlgmbbflmbgaaGreatDoor.Av
