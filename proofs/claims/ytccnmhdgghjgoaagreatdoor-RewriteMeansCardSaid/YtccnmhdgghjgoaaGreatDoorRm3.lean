/- Twins of functions,printed by gen.py. Conditions: none. -/
import Derived.Test.YtccnmhdgghjgoaaGreatDoorRm2
import Derived.KernelRfl
set_option linter.unusedSimpArgs false
set_option linter.unusedVariables false
set_option maxRecDepth 100000
set_option maxHeartbeats 8000000
namespace Go.Proofs.YtccnmhdgghjgoaaGreatDoor.Av
open Go
def X18:Aux:=⟨[(3,([0,2]++rg 6 166)),(10,([0,2,5,6]++rg 8 164)),(17,([0,2,5,6]++rg 10 162)),(24,([0,2,3,4,5,6,7,8,9]++rg 11 161)),(1000004,([0,2]++rg 6 166)),(1000016,([0,2,5,6]++rg 9 163)),(1000023,([0]++rg 2 170)),(1000025,([0,2,3,4,5,6,7,8,9]++rg 11 161))],[(26,.lin (rg 0 28))]⟩
inductive S18 where
 | l0 (v0_0:Int) (v0_4:L9)
 | l1 (v1_0:Int) (v1_4:L9) (v1_5:L9)
 | l2 (v2_0:Int) (v2_1:Int) (v2_5:L9) (v2_6:L9) (v2_7:LB) (v2_8:L9)
 | l3 (v3_0:Int)
 | l1004 (v1004_0:Int) (v1004_4:L9)
 | l1016 (v1016_0:Int) (v1016_4:L9) (v1016_5:L9) (v1016_6:LB) (v1016_7:L9)
 | l1023
 | l1025 (v1025_0:Int)
abbrev C59:Type:=Int→Option (Bool)
abbrev C60:Type:=L9→Option (Bool)
abbrev C61:Type:=L94→L98→L103→Int→LB→LB→LB→LB→L150→L157→Option (Bool)
def T18 {R:Type} (B:Ops) (c58:C58) (c59:C59) (c60:C60) (c61:C61) (p0:L94) (p1:L98) (p2:L103) (again:S18→Option R) (k:(Bool)→Option R):Option S18→Option R | none=>again (.l0 0 (mt (Ty.den Ty.str))) | some (.l0 v0_0 v0_4)=>cond (Ops.lt B v0_0 (Nat.cast (List.length p0))) (cond (Ops.inb B v0_0 (List.length p0)) (cond (Ops.lim B (List.length v0_4+List.length ((List.getD p0 (Int.toNat v0_0) (Ty.dflt ty94)).1::mt (Ty.den Ty.str))) (16)) (ob (c58 ((List.getD p0 (Int.toNat v0_0) (Ty.dflt ty94)).1)) fun y0=>cond (!y0) (k false) (cond (Ops.lt B ((((List.getD p0 (Int.toNat v0_0) (Ty.dflt ty94)).2).2).2) (((List.getD p0 (Int.toNat v0_0) (Ty.dflt ty94)).2).1)) (k false) (cond (Ops.lt B ((((List.getD p0 (Int.toNat v0_0) (Ty.dflt ty94)).2).2).1) ((((List.getD p0 (Int.toNat v0_0) (Ty.dflt ty94)).2).2).2)) (k false) (ob (c59 (((List.getD p0 (Int.toNat v0_0) (Ty.dflt ty94)).2).1)) fun y1=>cond (!y1) (k false) (ob (c59 ((((List.getD p0 (Int.toNat v0_0) (Ty.dflt ty94)).2).2).1)) fun y2=>cond (!y2) (k false) (again (.l1004 v0_0 (v0_4++(List.getD p0 (Int.toNat v0_0) (Ty.dflt ty94)).1::mt (Ty.den Ty.str))))))))) (none)) (none)) (again (.l1 0 v0_4 ((mt (Ty.den Ty.str))))) | some (.l1 v1_0 v1_4 v1_5)=>cond (Ops.lt B v1_0 (Nat.cast (List.length p1))) (cond (Ops.inb B v1_0 (List.length p1)) (cond (Ops.lim B (List.length v1_5+List.length ((List.getD p1 (Int.toNat v1_0) (Ty.dflt ty98)).1::mt (Ty.den Ty.str))) (16)) (ob (c58 ((List.getD p1 (Int.toNat v1_0) (Ty.dflt ty98)).1)) fun y0=>cond (!y0) (k false) (cond (Ops.lt B (Nat.cast (List.length ((List.getD p1 (Int.toNat v1_0) (Ty.dflt ty98)).2))) (1)) (k false) (cond (Ops.lt B (6) (Nat.cast (List.length ((List.getD p1 (Int.toNat v1_0) (Ty.dflt ty98)).2)))) (k false) (ob (c60 ((List.getD p1 (Int.toNat v1_0) (Ty.dflt ty98)).2)) fun y1=>cond (y1) (k false) (again (.l1016 v1_0 v1_4 (v1_5++(List.getD p1 (Int.toNat v1_0) (Ty.dflt ty98)).1::mt (Ty.den Ty.str)) ((List.getD p1 (Int.toNat v1_0) (Ty.dflt ty98)).1) ((List.getD p1 (Int.toNat v1_0) (Ty.dflt ty98)).2))))))) (none)) (none)) (cond (Ops.lt B (4) (Nat.cast (List.length v1_4))) (k false) (cond (Ops.lt B (Nat.cast (List.length v1_5)) (1)) (k false) (cond (Ops.lt B (3) (Nat.cast (List.length v1_5))) (k false) (cond (Ops.lt B (16) (Nat.cast (List.length p2))) (k false) (ob (c60 v1_4) fun y0=>cond (y0) (k false) (ob (c60 v1_5) fun y1=>cond (y1) (k false) (again (.l1023)))))))) | some (.l2 v2_0 v2_1 v2_5 v2_6 v2_7 v2_8)=>cond (Ops.lt B v2_1 (Nat.cast (List.length v2_8))) (cond (Ops.inb B v2_1 (List.length v2_8)) (ob (c58 (List.getD v2_8 (Int.toNat v2_1) (Ty.dflt ty9))) fun y0=>cond (!y0) (k false) (again (.l2 v2_0 (IntKind.wrap .i64 (v2_1+1)) v2_5 v2_6 v2_7 v2_8))) (none)) (again (.l1 (IntKind.wrap .i64 (v2_0+1)) v2_5 v2_6)) | some (.l3 v3_0)=>cond (Ops.lt B v3_0 (Nat.cast (List.length p2))) (cond (Ops.inb B v3_0 (List.length p2)) (ob (c61 p0 p1 p2 ((List.getD p2 (Int.toNat v3_0) (Ty.dflt ty103)).1) (((List.getD p2 (Int.toNat v3_0) (Ty.dflt ty103)).2).1) ((((List.getD p2 (Int.toNat v3_0) (Ty.dflt ty103)).2).2).1) (((((List.getD p2 (Int.toNat v3_0) (Ty.dflt ty103)).2).2).2).1) (Prod.fst (((((List.getD p2 (Int.toNat v3_0) (Ty.dflt ty103)).2).2).2).2)) (Prod.fst (Prod.snd (((((List.getD p2 (Int.toNat v3_0) (Ty.dflt ty103)).2).2).2).2))) (Prod.snd (Prod.snd (((((List.getD p2 (Int.toNat v3_0) (Ty.dflt ty103)).2).2).2).2)))) fun y0=>cond (!y0) (k false) (cond (Ops.lt B (0) v3_0) (cond (Ops.inb B v3_0 (List.length p2)) (cond (Ops.inb B (IntKind.wrap .i64 (v3_0-1)) (List.length p2)) (cond (Ops.le B ((List.getD p2 (Int.toNat v3_0) (Ty.dflt ty103)).1) ((List.getD p2 (Int.toNat (IntKind.wrap .i64 (v3_0-1))) (Ty.dflt ty103)).1)) (k false) (again (.l1025 v3_0))) (none)) (none)) (again (.l1025 v3_0)))) (none)) (k true) | some (.l1004 v1004_0 v1004_4)=>again (.l0 (IntKind.wrap .i64 (v1004_0+1)) v1004_4) | some (.l1016 v1016_0 v1016_4 v1016_5 v1016_6 v1016_7)=>again (.l2 v1016_0 0 v1016_4 v1016_5 v1016_6 v1016_7) | some (.l1023)=>again (.l3 0) | some (.l1025 v1025_0)=>again (.l3 (IntKind.wrap .i64 (v1025_0+1)))
def E18 (p0:L94) (p1:L98) (p2:L103):S18→List AV×Objs
 | .l0 v0_0 v0_4=>(mk 172 [(1,.c (.ptr 1 0)),(3,.c (.own 3)),(4,.c (.own 4)),(5,.c (.int .i64 v0_0))],[(1,.box 31 [.list 94 ty94 p0,.list 98 ty98 p1,.list 103 ty103 p2]),(3,.row 9 ty9 v0_4),(4,.row 9 ty9 (mt (Ty.den Ty.str)))])
 | .l1 v1_0 v1_4 v1_5=>(mk 172 [(1,.c (.ptr 1 0)),(3,.c (.own 3)),(4,.c (.own 4)),(7,.c (.int .i64 v1_0))],[(1,.box 31 [.list 94 ty94 p0,.list 98 ty98 p1,.list 103 ty103 p2]),(3,.row 9 ty9 v1_4),(4,.row 9 ty9 v1_5)])
 | .l2 v2_0 v2_1 v2_5 v2_6 v2_7 v2_8=>(mk 172 [(1,.c (.ptr 1 0)),(3,.c (.own 3)),(4,.c (.own 4)),(7,.c (.int .i64 v2_0)),(8,.c (.ptr 8 0)),(9,.c (.int .i64 v2_1))],[(1,.box 31 [.list 94 ty94 p0,.list 98 ty98 p1,.list 103 ty103 p2]),(3,.row 9 ty9 v2_5),(4,.row 9 ty9 v2_6),(8,.box 98 [.str v2_7,.list 9 ty9 v2_8])])
 | .l3 v3_0=>(mk 172 [(1,.c (.ptr 1 0)),(10,.c (.int .i64 v3_0))],[(1,.box 31 [.list 94 ty94 p0,.list 98 ty98 p1,.list 103 ty103 p2])])
 | .l1004 v1004_0 v1004_4=>(mk 172 [(1,.c (.ptr 1 0)),(3,.c (.own 3)),(4,.c (.own 4)),(5,.c (.int .i64 v1004_0))],[(1,.box 31 [.list 94 ty94 p0,.list 98 ty98 p1,.list 103 ty103 p2]),(3,.row 9 ty9 v1004_4),(4,.row 9 ty9 (mt (Ty.den Ty.str)))])
 | .l1016 v1016_0 v1016_4 v1016_5 v1016_6 v1016_7=>(mk 172 [(1,.c (.ptr 1 0)),(3,.c (.own 3)),(4,.c (.own 4)),(7,.c (.int .i64 v1016_0)),(8,.c (.ptr 8 0))],[(1,.box 31 [.list 94 ty94 p0,.list 98 ty98 p1,.list 103 ty103 p2]),(3,.row 9 ty9 v1016_4),(4,.row 9 ty9 v1016_5),(8,.box 98 [.str v1016_6,.list 9 ty9 v1016_7])])
 | .l1023=>(mk 172 [(1,.c (.ptr 1 0))],[(1,.box 31 [.list 94 ty94 p0,.list 98 ty98 p1,.list 103 ty103 p2])])
 | .l1025 v1025_0=>(mk 172 [(1,.c (.ptr 1 0)),(10,.c (.int .i64 v1025_0))],[(1,.box 31 [.list 94 ty94 p0,.list 98 ty98 p1,.list 103 ty103 p2])])
def I18:S18→Nat
 | .l0 _ _=>0
 | .l1 _ _ _=>1
 | .l2 _ _ _ _ _ _=>2
 | .l3 _=>3
 | .l1004 _ _=>1004
 | .l1016 _ _ _ _ _=>1016
 | .l1023=>1023
 | .l1025 _=>1025
theorem eq18 {R:Type} (B:Ops) (c58:C58) (c59:C59) (c60:C60) (c61:C61) (p0:L94) (p1:L98) (p2:L103) (k:AV→Objs→Option R) (n:Nat):afun tau B gl0 X18 (ent 58 (e58 c58) (ent 59 (e59 c59) (ent 60 (e60 c60) (ent 61 (e61 c61) (gnil))))) ow Tryz.f18 [.agg [.list 94 ty94 p0,.list 98 ty98 p1,.list 103 ty103 p2]] [] k n=T18 B c58 c59 c60 c61 p0 p1 p2 (fun s=>aloop tau B gl0 X18 (ent 58 (e58 c58) (ent 59 (e59 c59) (ent 60 (e60 c60) (ent 61 (e61 c61) (gnil))))) ow [] Tryz.f18 k (I18 s) (E18 p0 p1 p2 s) n) (fun y=>k (.c (.bool y)) []) none:=by kernel_rfl
theorem el18 {R:Type} (B:Ops) (c58:C58) (c59:C59) (c60:C60) (c61:C61) (p0:L94) (p1:L98) (p2:L103) (k:AV→Objs→Option R) (n:Nat):∀ s,aloop tau B gl0 X18 (ent 58 (e58 c58) (ent 59 (e59 c59) (ent 60 (e60 c60) (ent 61 (e61 c61) (gnil))))) ow [] Tryz.f18 k (I18 s) (E18 p0 p1 p2 s) (n+1)=T18 B c58 c59 c60 c61 p0 p1 p2 (fun s=>aloop tau B gl0 X18 (ent 58 (e58 c58) (ent 59 (e59 c59) (ent 60 (e60 c60) (ent 61 (e61 c61) (gnil))))) ow [] Tryz.f18 k (I18 s) (E18 p0 p1 p2 s) n) (fun y=>k (.c (.bool y)) []) (some s)
 | .l0 v0_0 v0_4=>by kernel_rfl
 | .l1 v1_0 v1_4 v1_5=>by kernel_rfl
 | .l2 v2_0 v2_1 v2_5 v2_6 v2_7 v2_8=>by kernel_rfl
 | .l3 v3_0=>by kernel_rfl
 | .l1004 v1004_0 v1004_4=>by kernel_rfl
 | .l1016 v1016_0 v1016_4 v1016_5 v1016_6 v1016_7=>by kernel_rfl
 | .l1023=>by kernel_rfl
 | .l1025 v1025_0=>by kernel_rfl
theorem nt18 {R R':Type} (B:Ops) (c58:C58) (c59:C59) (c60:C60) (c61:C61) (p0:L94) (p1:L98) (p2:L103) (again:S18→Option R) (again':S18→Option R') (k0:(Bool)→Option R') (k:R'→Option R) (h:∀ s,again s=ob (again' s) k):∀ s,T18 B c58 c59 c60 c61 p0 p1 p2 again (fun y=>ob (k0 y) k) s=ob (T18 B c58 c59 c60 c61 p0 p1 p2 again' k0 s) k
 | none=>by unfold T18;repeat' first | exact rfl | exact h _ | apply qac | (apply qah;intro)
 | some (.l0 v0_0 v0_4)=>by unfold T18;repeat' first | exact rfl | exact h _ | apply qac | (apply qah;intro)
 | some (.l1 v1_0 v1_4 v1_5)=>by unfold T18;repeat' first | exact rfl | exact h _ | apply qac | (apply qah;intro)
 | some (.l2 v2_0 v2_1 v2_5 v2_6 v2_7 v2_8)=>by unfold T18;repeat' first | exact rfl | exact h _ | apply qac | (apply qah;intro)
 | some (.l3 v3_0)=>by unfold T18;repeat' first | exact rfl | exact h _ | apply qac | (apply qah;intro)
 | some (.l1004 v1004_0 v1004_4)=>by unfold T18;repeat' first | exact rfl | exact h _ | apply qac | (apply qah;intro)
 | some (.l1016 v1016_0 v1016_4 v1016_5 v1016_6 v1016_7)=>by unfold T18;repeat' first | exact rfl | exact h _ | apply qac | (apply qah;intro)
 | some (.l1023)=>by unfold T18;repeat' first | exact rfl | exact h _ | apply qac | (apply qah;intro)
 | some (.l1025 v1025_0)=>by unfold T18;repeat' first | exact rfl | exact h _ | apply qac | (apply qah;intro)
def R18 (c58:C58) (c59:C59) (c60:C60) (c61:C61) (p0:L94) (p1:L98) (p2:L103):Nat→S18→Option (Bool)
 | 0,_=>none
 | n+1,s=>T18 Ops.std c58 c59 c60 c61 p0 p1 p2 (R18 c58 c59 c60 c61 p0 p1 p2 n) some (some s)
theorem rr18 {R:Type} (c58:C58) (c59:C59) (c60:C60) (c61:C61) (p0:L94) (p1:L98) (p2:L103) (k:AV→Objs→Option R):∀ (n:Nat) (s:S18),aloop tau Ops.std gl0 X18 (ent 58 (e58 c58) (ent 59 (e59 c59) (ent 60 (e60 c60) (ent 61 (e61 c61) (gnil))))) ow [] Tryz.f18 k (I18 s) (E18 p0 p1 p2 s) n=ob (R18 c58 c59 c60 c61 p0 p1 p2 n s) (fun y=>k (.c (.bool y)) [])
 | 0,s=>by cases s<;>rfl
 | n+1,s=>by rw [el18];exact nt18 Ops.std c58 c59 c60 c61 p0 p1 p2 _ _ some (fun y=>k (.c (.bool y)) []) (rr18 c58 c59 c60 c61 p0 p1 p2 k n) (some s)
def F18 (c58:C58) (c59:C59) (c60:C60) (c61:C61) (p0:L94) (p1:L98) (p2:L103):Option (Bool):=T18 Ops.std c58 c59 c60 c61 p0 p1 p2 (R18 c58 c59 c60 c61 p0 p1 p2 1000000) some none
theorem fo18 {R:Type} (c58:C58) (c59:C59) (c60:C60) (c61:C61) (p0:L94) (p1:L98) (p2:L103) (k:AV→Objs→Option R):afun tau Ops.std gl0 X18 (ent 58 (e58 c58) (ent 59 (e59 c59) (ent 60 (e60 c60) (ent 61 (e61 c61) (gnil))))) ow Tryz.f18 [.agg [.list 94 ty94 p0,.list 98 ty98 p1,.list 103 ty103 p2]] [] k 1000000=ob (F18 c58 c59 c60 c61 p0 p1 p2) (fun y=>k (.c (.bool y)) []):=by rw [eq18];exact nt18 Ops.std c58 c59 c60 c61 p0 p1 p2 _ _ some (fun y=>k (.c (.bool y)) []) (rr18 c58 c59 c60 c61 p0 p1 p2 k 1000000) none
def e18 {R:Type} (c:L94→L98→L103→Option (Bool)):Ent R:=fun args objs k=>
 oCons args fun a0 l0=>oAgg a0 fun x0=>cCons x0 fun z0_0 w0_0=>cList 94 ty94 z0_0 fun p0=>cCons w0_0 fun z0_1 w0_1=>cList 98 ty98 z0_1 fun p1=>cCons w0_1 fun z0_2 w0_2=>cList 103 ty103 z0_2 fun p2=>cNil w0_2 <| oNil l0 <| oNilO objs <| ob (c p0 p1 p2) fun y=>k (.c (.bool y)) []
abbrev Sp18 (c:L94→L98→L103→Option (Bool)):Prop:=∀ (p0:L94) (p1:L98) (p2:L103) (y:Bool),c p0 p1 p2=some y→Spec Tryz.prog gl0 18 [.agg [.list 94 ty94 p0,.list 98 ty98 p1,.list 103 ty103 p2]] [] (.c (.bool y)) []
theorem ek18 {R:Type} {c:L94→L98→L103→Option (Bool)} (hs:Sp18 c):EOk 18 (e18 (R:=R) c):=fun args objs k r h=>by
 unfold e18 at h
 obtain ⟨a0,l0,rfl,q1⟩:=qaa h
 obtain ⟨x0,rfl,q2⟩:=qax q1
 obtain ⟨z0_0,w0_0,rfl,q3⟩:=qad q2
 obtain ⟨p0,rfl,q4⟩:=qae q3
 obtain ⟨z0_1,w0_1,rfl,q5⟩:=qad q4
 obtain ⟨p1,rfl,q6⟩:=qae q5
 obtain ⟨z0_2,w0_2,rfl,q7⟩:=qad q6
 obtain ⟨p2,rfl,q8⟩:=qae q7
 obtain ⟨rfl,q9⟩:=qat q8
 obtain ⟨rfl,q10⟩:=qag q9
 obtain ⟨rfl,q11⟩:=qaf q10
 exact qar (hs p0 p1 p2) q11
theorem sf18 {c58:C58} {c59:C59} {c60:C60} {c61:C61} (h58:Sp58 c58) (h59:Sp59 c59) (h60:Sp60 c60) (h61:Sp61 c61):Sp18 (F18 c58 c59 c60 c61):=fun p0 p1 p2 y hy=>by
 refine qap (G:=ent 58 (e58 c58) (ent 59 (e59 c59) (ent 60 (e60 c60) (ent 61 (e61 c61) (gnil))))) (qai (ek58 h58) (qai (ek59 h59) (qai (ek60 h60) (qai (ek61 h61) (qao))))) 1000000 (fn:=Tryz.f18) (by kernel_rfl) (by kernel_rfl) (X:=X18) (by kernel_rfl) ?_
 rw [fo18,hy]
 rfl
noncomputable def M18:L94→L98→L103→Option (Bool):=F18 M58 M59 M60 M61
theorem sm18:Sp18 M18:=sf18 sm58 sm59 sm60 sm61
def X89:Aux:=⟨[(2000000,[])],[(5,.lin (rg 0 16))]⟩
abbrev C87:Type:=LB→Option (L9)
abbrev C90:Type:=LB→Int→Option (LB)
abbrev C148:Type:=LB→Option (Int×Int×L150)
abbrev C149:Type:=L9→Option (Bool×L157)
abbrev C150:Type:=Int→LB→LB→LB→LB→L150→L157→Option (LB)
def T89 {R:Type} (B:Ops) (c87:C87) (c147:C147) (c106:C106) (c90:C90) (c86:C86) (c148:C148) (c149:C149) (c150:C150) (p0:LB) (k:(Int×LB×LB×LB×LB×L150×L157×Bool)→Option R):Option R:=ob (c87 p0) fun y0=>cond (Ops.lt B (Nat.cast (List.length y0)) (6)) (k ((0,mt UInt8,mt UInt8,mt UInt8,mt UInt8,mt (Ty.den ty150),mt (Ty.den ty157),false))) (cond (Ops.inb B (0) (List.length y0)) (ob (c147 (List.getD y0 (Int.toNat (0)) (Ty.dflt ty9)) false) fun y1=>cond (Ops.inb B (1) (List.length y0)) (cond (Ops.inb B (2) (List.length y0)) (cond (Ops.inb B (3) (List.length y0)) (cond (Ops.inb B (4) (List.length y0)) (cond (List.getD y0 (Int.toNat (4)) (Ty.dflt ty9) == ([45]:LB)) (ob (c90 p0 (5)) fun y2=>ob (c86 y2 (59)) fun y3=>cond (Ops.inb B (0) (List.length y3)) (ob (c148 (List.getD y3 (Int.toNat (0)) (Ty.dflt ty9))) fun y4=>cond (Ops.inb B (1) (List.length y3+1)) (ob (c149 (List.drop (Int.toNat (1)) (List.take (List.length y3) y3))) fun y5=>cond (!y1.2) (k ((0,mt UInt8,mt UInt8,mt UInt8,mt UInt8,mt (Ty.den ty150),mt (Ty.den ty157),false))) (cond (!Ops.eq B y4.1 (0)) (k ((0,mt UInt8,mt UInt8,mt UInt8,mt UInt8,mt (Ty.den ty150),mt (Ty.den ty157),false))) (cond (!y5.1) (k ((0,mt UInt8,mt UInt8,mt UInt8,mt UInt8,mt (Ty.den ty150),mt (Ty.den ty157),false))) (ob (c150 y1.1 (List.getD y0 (Int.toNat (1)) (Ty.dflt ty9)) (List.getD y0 (Int.toNat (2)) (Ty.dflt ty9)) (List.getD y0 (Int.toNat (3)) (Ty.dflt ty9)) (mt UInt8) y4.2.2 y5.2) fun y6=>cond (y6 == mt UInt8) (k ((0,mt UInt8,mt UInt8,mt UInt8,mt UInt8,mt (Ty.den ty150),mt (Ty.den ty157),false))) (k ((y1.1,List.getD y0 (Int.toNat (1)) (Ty.dflt ty9),List.getD y0 (Int.toNat (2)) (Ty.dflt ty9),List.getD y0 (Int.toNat (3)) (Ty.dflt ty9),mt UInt8,y4.2.2,y5.2,true))))))) (none)) (none)) (ob (c106 (List.getD y0 (Int.toNat (4)) (Ty.dflt ty9))) fun y2=>cond (!y2.2) (k ((0,mt UInt8,mt UInt8,mt UInt8,mt UInt8,mt (Ty.den ty150),mt (Ty.den ty157),false))) (ob (c90 p0 (5)) fun y3=>ob (c86 y3 (59)) fun y4=>cond (Ops.inb B (0) (List.length y4)) (ob (c148 (List.getD y4 (Int.toNat (0)) (Ty.dflt ty9))) fun y5=>cond (Ops.inb B (1) (List.length y4+1)) (ob (c149 (List.drop (Int.toNat (1)) (List.take (List.length y4) y4))) fun y6=>cond (!y1.2) (k ((0,mt UInt8,mt UInt8,mt UInt8,mt UInt8,mt (Ty.den ty150),mt (Ty.den ty157),false))) (cond (!Ops.eq B y5.1 (0)) (k ((0,mt UInt8,mt UInt8,mt UInt8,mt UInt8,mt (Ty.den ty150),mt (Ty.den ty157),false))) (cond (!y6.1) (k ((0,mt UInt8,mt UInt8,mt UInt8,mt UInt8,mt (Ty.den ty150),mt (Ty.den ty157),false))) (ob (c150 y1.1 (List.getD y0 (Int.toNat (1)) (Ty.dflt ty9)) (List.getD y0 (Int.toNat (2)) (Ty.dflt ty9)) (List.getD y0 (Int.toNat (3)) (Ty.dflt ty9)) (List.getD y0 (Int.toNat (4)) (Ty.dflt ty9)) y5.2.2 y6.2) fun y7=>cond (y7 == mt UInt8) (k ((0,mt UInt8,mt UInt8,mt UInt8,mt UInt8,mt (Ty.den ty150),mt (Ty.den ty157),false))) (k ((y1.1,List.getD y0 (Int.toNat (1)) (Ty.dflt ty9),List.getD y0 (Int.toNat (2)) (Ty.dflt ty9),List.getD y0 (Int.toNat (3)) (Ty.dflt ty9),List.getD y0 (Int.toNat (4)) (Ty.dflt ty9),y5.2.2,y6.2,true))))))) (none)) (none)))) (none)) (none)) (none)) (none)) (none))
theorem eq89 {R:Type} (B:Ops) (c87:C87) (c147:C147) (c106:C106) (c90:C90) (c86:C86) (c148:C148) (c149:C149) (c150:C150) (p0:LB) (k:AV→Objs→Option R) (n:Nat):afun tau B gl0 X89 (ent 87 (e87 c87) (ent 147 (e147 c147) (ent 106 (e106 c106) (ent 90 (e90 c90) (ent 86 (e86 c86) (ent 148 (e148 c148) (ent 149 (e149 c149) (ent 150 (e150 c150) (gnil))))))))) ow Tryz.f89 [.c (.str p0)] [] k n=T89 B c87 c147 c106 c90 c86 c148 c149 c150 p0 (fun y=>k (.tup [(true,[.int .i64 y.1,.str y.2.1,.str y.2.2.1,.str y.2.2.2.1,.str y.2.2.2.2.1,.list 150 ty150 y.2.2.2.2.2.1,.list 157 ty157 y.2.2.2.2.2.2.1]),(false,[.bool y.2.2.2.2.2.2.2])]) []):=by kernel_rfl
theorem nt89 {R R':Type} (B:Ops) (c87:C87) (c147:C147) (c106:C106) (c90:C90) (c86:C86) (c148:C148) (c149:C149) (c150:C150) (p0:LB) (k0:(Int×LB×LB×LB×LB×L150×L157×Bool)→Option R') (k:R'→Option R):T89 B c87 c147 c106 c90 c86 c148 c149 c150 p0 (fun y=>ob (k0 y) k)=ob (T89 B c87 c147 c106 c90 c86 c148 c149 c150 p0 k0) k:=by
 unfold T89
 repeat' first | exact rfl | apply qac | (apply qah;intro)
def F89 (c87:C87) (c147:C147) (c106:C106) (c90:C90) (c86:C86) (c148:C148) (c149:C149) (c150:C150) (p0:LB):Option (Int×LB×LB×LB×LB×L150×L157×Bool):=T89 Ops.std c87 c147 c106 c90 c86 c148 c149 c150 p0 some
theorem fo89 {R:Type} (c87:C87) (c147:C147) (c106:C106) (c90:C90) (c86:C86) (c148:C148) (c149:C149) (c150:C150) (p0:LB) (k:AV→Objs→Option R) (n:Nat):afun tau Ops.std gl0 X89 (ent 87 (e87 c87) (ent 147 (e147 c147) (ent 106 (e106 c106) (ent 90 (e90 c90) (ent 86 (e86 c86) (ent 148 (e148 c148) (ent 149 (e149 c149) (ent 150 (e150 c150) (gnil))))))))) ow Tryz.f89 [.c (.str p0)] [] k n=ob (F89 c87 c147 c106 c90 c86 c148 c149 c150 p0) (fun y=>k (.tup [(true,[.int .i64 y.1,.str y.2.1,.str y.2.2.1,.str y.2.2.2.1,.str y.2.2.2.2.1,.list 150 ty150 y.2.2.2.2.2.1,.list 157 ty157 y.2.2.2.2.2.2.1]),(false,[.bool y.2.2.2.2.2.2.2])]) []):=by rw [eq89];exact nt89 Ops.std c87 c147 c106 c90 c86 c148 c149 c150 p0 some (fun y=>k (.tup [(true,[.int .i64 y.1,.str y.2.1,.str y.2.2.1,.str y.2.2.2.1,.str y.2.2.2.2.1,.list 150 ty150 y.2.2.2.2.2.1,.list 157 ty157 y.2.2.2.2.2.2.1]),(false,[.bool y.2.2.2.2.2.2.2])]) [])
def e89 {R:Type} (c:LB→Option (Int×LB×LB×LB×LB×L150×L157×Bool)):Ent R:=fun args objs k=>
 oCons args fun a0 l0=>oC a0 fun x0=>cStr x0 fun p0=>oNil l0 <| oNilO objs <| ob (c p0) fun y=>k (.tup [(true,[.int .i64 y.1,.str y.2.1,.str y.2.2.1,.str y.2.2.2.1,.str y.2.2.2.2.1,.list 150 ty150 y.2.2.2.2.2.1,.list 157 ty157 y.2.2.2.2.2.2.1]),(false,[.bool y.2.2.2.2.2.2.2])]) []
abbrev Sp89 (c:LB→Option (Int×LB×LB×LB×LB×L150×L157×Bool)):Prop:=∀ (p0:LB) (y:Int×LB×LB×LB×LB×L150×L157×Bool),c p0=some y→Spec Tryz.prog gl0 89 [.c (.str p0)] [] (.tup [(true,[.int .i64 y.1,.str y.2.1,.str y.2.2.1,.str y.2.2.2.1,.str y.2.2.2.2.1,.list 150 ty150 y.2.2.2.2.2.1,.list 157 ty157 y.2.2.2.2.2.2.1]),(false,[.bool y.2.2.2.2.2.2.2])]) []
theorem ek89 {R:Type} {c:LB→Option (Int×LB×LB×LB×LB×L150×L157×Bool)} (hs:Sp89 c):EOk 89 (e89 (R:=R) c):=fun args objs k r h=>by
 unfold e89 at h
 obtain ⟨a0,l0,rfl,q1⟩:=qaa h
 obtain ⟨x0,rfl,q2⟩:=qaj q1
 obtain ⟨p0,rfl,q3⟩:=qav q2
 obtain ⟨rfl,q4⟩:=qag q3
 obtain ⟨rfl,q5⟩:=qaf q4
 exact qar (hs p0) q5
theorem sf89 {c87:C87} {c147:C147} {c106:C106} {c90:C90} {c86:C86} {c148:C148} {c149:C149} {c150:C150} (h87:Sp87 c87) (h147:Sp147 c147) (h106:Sp106 c106) (h90:Sp90 c90) (h86:Sp86 c86) (h148:Sp148 c148) (h149:Sp149 c149) (h150:Sp150 c150):Sp89 (F89 c87 c147 c106 c90 c86 c148 c149 c150):=fun p0 y hy=>by
 refine qap (G:=ent 87 (e87 c87) (ent 147 (e147 c147) (ent 106 (e106 c106) (ent 90 (e90 c90) (ent 86 (e86 c86) (ent 148 (e148 c148) (ent 149 (e149 c149) (ent 150 (e150 c150) (gnil))))))))) (qai (ek87 h87) (qai (ek147 h147) (qai (ek106 h106) (qai (ek90 h90) (qai (ek86 h86) (qai (ek148 h148) (qai (ek149 h149) (qai (ek150 h150) (qao))))))))) 1000000 (fn:=Tryz.f89) (by kernel_rfl) (by kernel_rfl) (X:=X89) (by kernel_rfl) ?_
 rw [fo89,hy]
 rfl
noncomputable def M89:LB→Option (Int×LB×LB×LB×LB×L150×L157×Bool):=F89 M87 M147 M106 M90 M86 M148 M149 M150
theorem sm89:Sp89 M89:=sf89 sm87 sm147 sm106 sm90 sm86 sm148 sm149 sm150
def X175:Aux:=⟨[],[(1,.lin (rg 0 28))]⟩
def T175 {R:Type} (B:Ops) (p0:LB) (p1:L130) (p2:Int) (p3:Int) (p4:Int) (p5:L66) (k:(Bool×L130×Int×Int×Int×L66)→Option R):Option R:=cond (Ops.inb B p2 (List.length p1)) (cond (Ops.eq B ((List.getD p1 (Int.toNat p2) (Ty.dflt ty130)).1) (4)) (cond (Ops.inb B p2 (List.length p1)) (k ((((List.getD p1 (Int.toNat p2) (Ty.dflt ty130)).2).1 == p0,p1,p2,p3,p4,p5))) (none)) (k ((false,p1,p2,p3,p4,p5)))) (none)
theorem eq175 {R:Type} (B:Ops) (p0:LB) (p1:L130) (p2:Int) (p3:Int) (p4:Int) (p5:L66) (k:AV→Objs→Option R) (n:Nat):afun tau B gl0 X175 (gnil) ow Tryz.f175 [.c (.ptr 0 0),.c (.str p0)] [(0,.box 127 [.list 130 ty130 p1,.int .i64 p2,.own 1002,.int .i64 p3,.int .i64 p4]),(1002,.row 66 ty66 p5)] k n=T175 B p0 p1 p2 p3 p4 p5 (fun y=>k (.c (.bool y.1)) [(0,.box 127 [.list 130 ty130 y.2.1,.int .i64 y.2.2.1,.own 1002,.int .i64 y.2.2.2.1,.int .i64 y.2.2.2.2.1]),(1002,.row 66 ty66 y.2.2.2.2.2)]):=by kernel_rfl
theorem nt175 {R R':Type} (B:Ops) (p0:LB) (p1:L130) (p2:Int) (p3:Int) (p4:Int) (p5:L66) (k0:(Bool×L130×Int×Int×Int×L66)→Option R') (k:R'→Option R):T175 B p0 p1 p2 p3 p4 p5 (fun y=>ob (k0 y) k)=ob (T175 B p0 p1 p2 p3 p4 p5 k0) k:=by
 unfold T175
 repeat' first | exact rfl | apply qac | (apply qah;intro)
def F175 (p0:LB) (p1:L130) (p2:Int) (p3:Int) (p4:Int) (p5:L66):Option (Bool×L130×Int×Int×Int×L66):=T175 Ops.std p0 p1 p2 p3 p4 p5 some
theorem fo175 {R:Type} (p0:LB) (p1:L130) (p2:Int) (p3:Int) (p4:Int) (p5:L66) (k:AV→Objs→Option R) (n:Nat):afun tau Ops.std gl0 X175 (gnil) ow Tryz.f175 [.c (.ptr 0 0),.c (.str p0)] [(0,.box 127 [.list 130 ty130 p1,.int .i64 p2,.own 1002,.int .i64 p3,.int .i64 p4]),(1002,.row 66 ty66 p5)] k n=ob (F175 p0 p1 p2 p3 p4 p5) (fun y=>k (.c (.bool y.1)) [(0,.box 127 [.list 130 ty130 y.2.1,.int .i64 y.2.2.1,.own 1002,.int .i64 y.2.2.2.1,.int .i64 y.2.2.2.2.1]),(1002,.row 66 ty66 y.2.2.2.2.2)]):=by rw [eq175];exact nt175 Ops.std p0 p1 p2 p3 p4 p5 some (fun y=>k (.c (.bool y.1)) [(0,.box 127 [.list 130 ty130 y.2.1,.int .i64 y.2.2.1,.own 1002,.int .i64 y.2.2.2.1,.int .i64 y.2.2.2.2.1]),(1002,.row 66 ty66 y.2.2.2.2.2)])
def e175 {R:Type} (c:LB→L130→Int→Int→Int→L66→Option (Bool×L130×Int×Int×Int×L66)):Ent R:=fun args objs k=>
 oCons args fun a0 l0=>oC a0 fun x0=>cPtr 0 x0 <| oCons l0 fun a1 l1=>oC a1 fun x1=>cStr x1 fun p0=>oNil l1 <| oBox 0 127 objs fun b0 o0=>cCons b0 fun u0_0 v0_0=>cList 130 ty130 u0_0 fun p1=>cCons v0_0 fun u0_1 v0_1=>cInt .i64 u0_1 fun p2=>cCons v0_1 fun u0_2 v0_2=>cOwn 1002 u0_2 <| cCons v0_2 fun u0_3 v0_3=>cInt .i64 u0_3 fun p3=>cCons v0_3 fun u0_4 v0_4=>cInt .i64 u0_4 fun p4=>cNil v0_4 <| oRow 1002 66 ty66 o0 fun p5 o1=>oNilO o1 <| ob (c p0 p1 p2 p3 p4 p5) fun y=>k (.c (.bool y.1)) [(0,.box 127 [.list 130 ty130 y.2.1,.int .i64 y.2.2.1,.own 1002,.int .i64 y.2.2.2.1,.int .i64 y.2.2.2.2.1]),(1002,.row 66 ty66 y.2.2.2.2.2)]
abbrev Sp175 (c:LB→L130→Int→Int→Int→L66→Option (Bool×L130×Int×Int×Int×L66)):Prop:=∀ (p0:LB) (p1:L130) (p2:Int) (p3:Int) (p4:Int) (p5:L66) (y:Bool×L130×Int×Int×Int×L66),c p0 p1 p2 p3 p4 p5=some y→Spec Tryz.prog gl0 175 [.c (.ptr 0 0),.c (.str p0)] [(0,.box 127 [.list 130 ty130 p1,.int .i64 p2,.own 1002,.int .i64 p3,.int .i64 p4]),(1002,.row 66 ty66 p5)] (.c (.bool y.1)) [(0,.box 127 [.list 130 ty130 y.2.1,.int .i64 y.2.2.1,.own 1002,.int .i64 y.2.2.2.1,.int .i64 y.2.2.2.2.1]),(1002,.row 66 ty66 y.2.2.2.2.2)]
theorem ek175 {R:Type} {c:LB→L130→Int→Int→Int→L66→Option (Bool×L130×Int×Int×Int×L66)} (hs:Sp175 c):EOk 175 (e175 (R:=R) c):=fun args objs k r h=>by
 unfold e175 at h
 obtain ⟨a0,l0,rfl,q1⟩:=qaa h
 obtain ⟨x0,rfl,q2⟩:=qaj q1
 obtain ⟨rfl,q3⟩:=qa4 q2
 obtain ⟨a1,l1,rfl,q4⟩:=qaa q3
 obtain ⟨x1,rfl,q5⟩:=qaj q4
 obtain ⟨p0,rfl,q6⟩:=qav q5
 obtain ⟨rfl,q7⟩:=qag q6
 obtain ⟨b0,o0,rfl,q8⟩:=qa5 q7
 obtain ⟨u0_0,v0_0,rfl,q9⟩:=qad q8
 obtain ⟨p1,rfl,q10⟩:=qae q9
 obtain ⟨u0_1,v0_1,rfl,q11⟩:=qad q10
 obtain ⟨p2,rfl,q12⟩:=qal q11
 obtain ⟨u0_2,v0_2,rfl,q13⟩:=qad q12
 obtain ⟨rfl,q14⟩:=qbe q13
 obtain ⟨u0_3,v0_3,rfl,q15⟩:=qad q14
 obtain ⟨p3,rfl,q16⟩:=qal q15
 obtain ⟨u0_4,v0_4,rfl,q17⟩:=qad q16
 obtain ⟨p4,rfl,q18⟩:=qal q17
 obtain ⟨rfl,q19⟩:=qat q18
 obtain ⟨p5,o1,rfl,q20⟩:=qbf q19
 obtain ⟨rfl,q21⟩:=qaf q20
 exact qar (hs p0 p1 p2 p3 p4 p5) q21
theorem sf175:Sp175 (F175):=fun p0 p1 p2 p3 p4 p5 y hy=>by
 refine qap (G:=gnil) (qao) 1000000 (fn:=Tryz.f175) (by kernel_rfl) (by kernel_rfl) (X:=X175) (by kernel_rfl) ?_
 rw [fo175,hy]
 rfl
noncomputable def M175:LB→L130→Int→Int→Int→L66→Option (Bool×L130×Int×Int×Int×L66):=F175
theorem sm175:Sp175 M175:=sf175
def X84:Aux:=⟨[],[]⟩
def T84 {R:Type} (B:Ops) (p0:Int) (p1:Int) (p2:L130) (p3:Int) (p4:Int) (p5:Int) (p6:L66) (k:(L130×Int×Int×Int×L66)→Option R):Option R:=cond (Ops.eq B p4 (0)) (k ((p2,p3,p0,p1,p6))) (k ((p2,p3,p4,p5,p6)))
theorem eq84 {R:Type} (B:Ops) (p0:Int) (p1:Int) (p2:L130) (p3:Int) (p4:Int) (p5:Int) (p6:L66) (k:AV→Objs→Option R) (n:Nat):afun tau B gl0 X84 (gnil) ow Tryz.f84 [.c (.ptr 0 0),.c (.int .i64 p0),.c (.int .i64 p1)] [(0,.box 127 [.list 130 ty130 p2,.int .i64 p3,.own 1002,.int .i64 p4,.int .i64 p5]),(1002,.row 66 ty66 p6)] k n=T84 B p0 p1 p2 p3 p4 p5 p6 (fun y=>k (.tup []) [(0,.box 127 [.list 130 ty130 y.1,.int .i64 y.2.1,.own 1002,.int .i64 y.2.2.1,.int .i64 y.2.2.2.1]),(1002,.row 66 ty66 y.2.2.2.2)]):=by kernel_rfl
theorem nt84 {R R':Type} (B:Ops) (p0:Int) (p1:Int) (p2:L130) (p3:Int) (p4:Int) (p5:Int) (p6:L66) (k0:(L130×Int×Int×Int×L66)→Option R') (k:R'→Option R):T84 B p0 p1 p2 p3 p4 p5 p6 (fun y=>ob (k0 y) k)=ob (T84 B p0 p1 p2 p3 p4 p5 p6 k0) k:=by
 unfold T84
 repeat' first | exact rfl | apply qac | (apply qah;intro)
def F84 (p0:Int) (p1:Int) (p2:L130) (p3:Int) (p4:Int) (p5:Int) (p6:L66):Option (L130×Int×Int×Int×L66):=T84 Ops.std p0 p1 p2 p3 p4 p5 p6 some
theorem fo84 {R:Type} (p0:Int) (p1:Int) (p2:L130) (p3:Int) (p4:Int) (p5:Int) (p6:L66) (k:AV→Objs→Option R) (n:Nat):afun tau Ops.std gl0 X84 (gnil) ow Tryz.f84 [.c (.ptr 0 0),.c (.int .i64 p0),.c (.int .i64 p1)] [(0,.box 127 [.list 130 ty130 p2,.int .i64 p3,.own 1002,.int .i64 p4,.int .i64 p5]),(1002,.row 66 ty66 p6)] k n=ob (F84 p0 p1 p2 p3 p4 p5 p6) (fun y=>k (.tup []) [(0,.box 127 [.list 130 ty130 y.1,.int .i64 y.2.1,.own 1002,.int .i64 y.2.2.1,.int .i64 y.2.2.2.1]),(1002,.row 66 ty66 y.2.2.2.2)]):=by rw [eq84];exact nt84 Ops.std p0 p1 p2 p3 p4 p5 p6 some (fun y=>k (.tup []) [(0,.box 127 [.list 130 ty130 y.1,.int .i64 y.2.1,.own 1002,.int .i64 y.2.2.1,.int .i64 y.2.2.2.1]),(1002,.row 66 ty66 y.2.2.2.2)])
def e84 {R:Type} (c:Int→Int→L130→Int→Int→Int→L66→Option (L130×Int×Int×Int×L66)):Ent R:=fun args objs k=>
 oCons args fun a0 l0=>oC a0 fun x0=>cPtr 0 x0 <| oCons l0 fun a1 l1=>oC a1 fun x1=>cInt .i64 x1 fun p0=>oCons l1 fun a2 l2=>oC a2 fun x2=>cInt .i64 x2 fun p1=>oNil l2 <| oBox 0 127 objs fun b0 o0=>cCons b0 fun u0_0 v0_0=>cList 130 ty130 u0_0 fun p2=>cCons v0_0 fun u0_1 v0_1=>cInt .i64 u0_1 fun p3=>cCons v0_1 fun u0_2 v0_2=>cOwn 1002 u0_2 <| cCons v0_2 fun u0_3 v0_3=>cInt .i64 u0_3 fun p4=>cCons v0_3 fun u0_4 v0_4=>cInt .i64 u0_4 fun p5=>cNil v0_4 <| oRow 1002 66 ty66 o0 fun p6 o1=>oNilO o1 <| ob (c p0 p1 p2 p3 p4 p5 p6) fun y=>k (.tup []) [(0,.box 127 [.list 130 ty130 y.1,.int .i64 y.2.1,.own 1002,.int .i64 y.2.2.1,.int .i64 y.2.2.2.1]),(1002,.row 66 ty66 y.2.2.2.2)]
abbrev Sp84 (c:Int→Int→L130→Int→Int→Int→L66→Option (L130×Int×Int×Int×L66)):Prop:=∀ (p0:Int) (p1:Int) (p2:L130) (p3:Int) (p4:Int) (p5:Int) (p6:L66) (y:L130×Int×Int×Int×L66),c p0 p1 p2 p3 p4 p5 p6=some y→Spec Tryz.prog gl0 84 [.c (.ptr 0 0),.c (.int .i64 p0),.c (.int .i64 p1)] [(0,.box 127 [.list 130 ty130 p2,.int .i64 p3,.own 1002,.int .i64 p4,.int .i64 p5]),(1002,.row 66 ty66 p6)] (.tup []) [(0,.box 127 [.list 130 ty130 y.1,.int .i64 y.2.1,.own 1002,.int .i64 y.2.2.1,.int .i64 y.2.2.2.1]),(1002,.row 66 ty66 y.2.2.2.2)]
theorem ek84 {R:Type} {c:Int→Int→L130→Int→Int→Int→L66→Option (L130×Int×Int×Int×L66)} (hs:Sp84 c):EOk 84 (e84 (R:=R) c):=fun args objs k r h=>by
 unfold e84 at h
 obtain ⟨a0,l0,rfl,q1⟩:=qaa h
 obtain ⟨x0,rfl,q2⟩:=qaj q1
 obtain ⟨rfl,q3⟩:=qa4 q2
 obtain ⟨a1,l1,rfl,q4⟩:=qaa q3
 obtain ⟨x1,rfl,q5⟩:=qaj q4
 obtain ⟨p0,rfl,q6⟩:=qal q5
 obtain ⟨a2,l2,rfl,q7⟩:=qaa q6
 obtain ⟨x2,rfl,q8⟩:=qaj q7
 obtain ⟨p1,rfl,q9⟩:=qal q8
 obtain ⟨rfl,q10⟩:=qag q9
 obtain ⟨b0,o0,rfl,q11⟩:=qa5 q10
 obtain ⟨u0_0,v0_0,rfl,q12⟩:=qad q11
 obtain ⟨p2,rfl,q13⟩:=qae q12
 obtain ⟨u0_1,v0_1,rfl,q14⟩:=qad q13
 obtain ⟨p3,rfl,q15⟩:=qal q14
 obtain ⟨u0_2,v0_2,rfl,q16⟩:=qad q15
 obtain ⟨rfl,q17⟩:=qbe q16
 obtain ⟨u0_3,v0_3,rfl,q18⟩:=qad q17
 obtain ⟨p4,rfl,q19⟩:=qal q18
 obtain ⟨u0_4,v0_4,rfl,q20⟩:=qad q19
 obtain ⟨p5,rfl,q21⟩:=qal q20
 obtain ⟨rfl,q22⟩:=qat q21
 obtain ⟨p6,o1,rfl,q23⟩:=qbf q22
 obtain ⟨rfl,q24⟩:=qaf q23
 exact qar (hs p0 p1 p2 p3 p4 p5 p6) q24
theorem sf84:Sp84 (F84):=fun p0 p1 p2 p3 p4 p5 p6 y hy=>by
 refine qap (G:=gnil) (qao) 1000000 (fn:=Tryz.f84) (by kernel_rfl) (by kernel_rfl) (X:=X84) (by kernel_rfl) ?_
 rw [fo84,hy]
 rfl
noncomputable def M84:Int→Int→L130→Int→Int→Int→L66→Option (L130×Int×Int×Int×L66):=F84
theorem sm84:Sp84 M84:=sf84
def X176:Aux:=⟨[],[]⟩
abbrev C175:Type:=LB→L130→Int→Int→Int→L66→Option (Bool×L130×Int×Int×Int×L66)
abbrev C84:Type:=Int→Int→L130→Int→Int→Int→L66→Option (L130×Int×Int×Int×L66)
def T176 {R:Type} (B:Ops) (c175:C175) (c84:C84) (p0:LB) (p1:L130) (p2:Int) (p3:Int) (p4:Int) (p5:L66) (k:(L130×Int×Int×Int×L66)→Option R):Option R:=cond (!Ops.eq B p3 (0)) (k ((p1,p2,p3,p4,p5))) (ob (c175 p0 p1 p2 p3 p4 p5) fun y0=>cond (!y0.1) (ob (c84 (2) ((y0.2.2).1) y0.2.1 ((y0.2.2).1) ((y0.2.2.2).1) (((y0.2.2.2).2).1) (((y0.2.2.2).2).2)) fun y1=>k ((y1.1,y1.2.1,(y1.2.2).1,(y1.2.2.2).1,(y1.2.2.2).2))) (k ((y0.2.1,IntKind.wrap .i64 ((y0.2.2).1+1),(y0.2.2.2).1,((y0.2.2.2).2).1,((y0.2.2.2).2).2))))
theorem eq176 {R:Type} (B:Ops) (c175:C175) (c84:C84) (p0:LB) (p1:L130) (p2:Int) (p3:Int) (p4:Int) (p5:L66) (k:AV→Objs→Option R) (n:Nat):afun tau B gl0 X176 (ent 175 (e175 c175) (ent 84 (e84 c84) (gnil))) ow Tryz.f176 [.c (.ptr 0 0),.c (.str p0)] [(0,.box 127 [.list 130 ty130 p1,.int .i64 p2,.own 1002,.int .i64 p3,.int .i64 p4]),(1002,.row 66 ty66 p5)] k n=T176 B c175 c84 p0 p1 p2 p3 p4 p5 (fun y=>k (.tup []) [(0,.box 127 [.list 130 ty130 y.1,.int .i64 y.2.1,.own 1002,.int .i64 y.2.2.1,.int .i64 y.2.2.2.1]),(1002,.row 66 ty66 y.2.2.2.2)]):=by kernel_rfl
theorem nt176 {R R':Type} (B:Ops) (c175:C175) (c84:C84) (p0:LB) (p1:L130) (p2:Int) (p3:Int) (p4:Int) (p5:L66) (k0:(L130×Int×Int×Int×L66)→Option R') (k:R'→Option R):T176 B c175 c84 p0 p1 p2 p3 p4 p5 (fun y=>ob (k0 y) k)=ob (T176 B c175 c84 p0 p1 p2 p3 p4 p5 k0) k:=by
 unfold T176
 repeat' first | exact rfl | apply qac | (apply qah;intro)
def F176 (c175:C175) (c84:C84) (p0:LB) (p1:L130) (p2:Int) (p3:Int) (p4:Int) (p5:L66):Option (L130×Int×Int×Int×L66):=T176 Ops.std c175 c84 p0 p1 p2 p3 p4 p5 some
theorem fo176 {R:Type} (c175:C175) (c84:C84) (p0:LB) (p1:L130) (p2:Int) (p3:Int) (p4:Int) (p5:L66) (k:AV→Objs→Option R) (n:Nat):afun tau Ops.std gl0 X176 (ent 175 (e175 c175) (ent 84 (e84 c84) (gnil))) ow Tryz.f176 [.c (.ptr 0 0),.c (.str p0)] [(0,.box 127 [.list 130 ty130 p1,.int .i64 p2,.own 1002,.int .i64 p3,.int .i64 p4]),(1002,.row 66 ty66 p5)] k n=ob (F176 c175 c84 p0 p1 p2 p3 p4 p5) (fun y=>k (.tup []) [(0,.box 127 [.list 130 ty130 y.1,.int .i64 y.2.1,.own 1002,.int .i64 y.2.2.1,.int .i64 y.2.2.2.1]),(1002,.row 66 ty66 y.2.2.2.2)]):=by rw [eq176];exact nt176 Ops.std c175 c84 p0 p1 p2 p3 p4 p5 some (fun y=>k (.tup []) [(0,.box 127 [.list 130 ty130 y.1,.int .i64 y.2.1,.own 1002,.int .i64 y.2.2.1,.int .i64 y.2.2.2.1]),(1002,.row 66 ty66 y.2.2.2.2)])
def e176 {R:Type} (c:LB→L130→Int→Int→Int→L66→Option (L130×Int×Int×Int×L66)):Ent R:=fun args objs k=>
 oCons args fun a0 l0=>oC a0 fun x0=>cPtr 0 x0 <| oCons l0 fun a1 l1=>oC a1 fun x1=>cStr x1 fun p0=>oNil l1 <| oBox 0 127 objs fun b0 o0=>cCons b0 fun u0_0 v0_0=>cList 130 ty130 u0_0 fun p1=>cCons v0_0 fun u0_1 v0_1=>cInt .i64 u0_1 fun p2=>cCons v0_1 fun u0_2 v0_2=>cOwn 1002 u0_2 <| cCons v0_2 fun u0_3 v0_3=>cInt .i64 u0_3 fun p3=>cCons v0_3 fun u0_4 v0_4=>cInt .i64 u0_4 fun p4=>cNil v0_4 <| oRow 1002 66 ty66 o0 fun p5 o1=>oNilO o1 <| ob (c p0 p1 p2 p3 p4 p5) fun y=>k (.tup []) [(0,.box 127 [.list 130 ty130 y.1,.int .i64 y.2.1,.own 1002,.int .i64 y.2.2.1,.int .i64 y.2.2.2.1]),(1002,.row 66 ty66 y.2.2.2.2)]
abbrev Sp176 (c:LB→L130→Int→Int→Int→L66→Option (L130×Int×Int×Int×L66)):Prop:=∀ (p0:LB) (p1:L130) (p2:Int) (p3:Int) (p4:Int) (p5:L66) (y:L130×Int×Int×Int×L66),c p0 p1 p2 p3 p4 p5=some y→Spec Tryz.prog gl0 176 [.c (.ptr 0 0),.c (.str p0)] [(0,.box 127 [.list 130 ty130 p1,.int .i64 p2,.own 1002,.int .i64 p3,.int .i64 p4]),(1002,.row 66 ty66 p5)] (.tup []) [(0,.box 127 [.list 130 ty130 y.1,.int .i64 y.2.1,.own 1002,.int .i64 y.2.2.1,.int .i64 y.2.2.2.1]),(1002,.row 66 ty66 y.2.2.2.2)]
theorem ek176 {R:Type} {c:LB→L130→Int→Int→Int→L66→Option (L130×Int×Int×Int×L66)} (hs:Sp176 c):EOk 176 (e176 (R:=R) c):=fun args objs k r h=>by
 unfold e176 at h
 obtain ⟨a0,l0,rfl,q1⟩:=qaa h
 obtain ⟨x0,rfl,q2⟩:=qaj q1
 obtain ⟨rfl,q3⟩:=qa4 q2
 obtain ⟨a1,l1,rfl,q4⟩:=qaa q3
 obtain ⟨x1,rfl,q5⟩:=qaj q4
 obtain ⟨p0,rfl,q6⟩:=qav q5
 obtain ⟨rfl,q7⟩:=qag q6
 obtain ⟨b0,o0,rfl,q8⟩:=qa5 q7
 obtain ⟨u0_0,v0_0,rfl,q9⟩:=qad q8
 obtain ⟨p1,rfl,q10⟩:=qae q9
 obtain ⟨u0_1,v0_1,rfl,q11⟩:=qad q10
 obtain ⟨p2,rfl,q12⟩:=qal q11
 obtain ⟨u0_2,v0_2,rfl,q13⟩:=qad q12
 obtain ⟨rfl,q14⟩:=qbe q13
 obtain ⟨u0_3,v0_3,rfl,q15⟩:=qad q14
 obtain ⟨p3,rfl,q16⟩:=qal q15
 obtain ⟨u0_4,v0_4,rfl,q17⟩:=qad q16
 obtain ⟨p4,rfl,q18⟩:=qal q17
 obtain ⟨rfl,q19⟩:=qat q18
 obtain ⟨p5,o1,rfl,q20⟩:=qbf q19
 obtain ⟨rfl,q21⟩:=qaf q20
 exact qar (hs p0 p1 p2 p3 p4 p5) q21
theorem sf176 {c175:C175} {c84:C84} (h175:Sp175 c175) (h84:Sp84 c84):Sp176 (F176 c175 c84):=fun p0 p1 p2 p3 p4 p5 y hy=>by
 refine qap (G:=ent 175 (e175 c175) (ent 84 (e84 c84) (gnil))) (qai (ek175 h175) (qai (ek84 h84) (qao))) 1000000 (fn:=Tryz.f176) (by kernel_rfl) (by kernel_rfl) (X:=X176) (by kernel_rfl) ?_
 rw [fo176,hy]
 rfl
noncomputable def M176:LB→L130→Int→Int→Int→L66→Option (L130×Int×Int×Int×L66):=F176 M175 M84
theorem sm176:Sp176 M176:=sf176 sm175 sm84
def X142:Aux:=⟨[(1000012,(rg 0 63))],[(1,.lin (rg 0 12))]⟩
inductive S142 where
 | l1012 (v1012_0:L130) (v1012_1:Int) (v1012_2:Int) (v1012_3:Int) (v1012_4:L66)
def T142 {R:Type} (B:Ops) (c175:C175) (p0:Int) (p1:L130) (p2:Int) (p3:Int) (p4:Int) (p5:L66) (again:S142→Option R) (k:(Int×L130×Int×Int×Int×L66)→Option R):Option S142→Option R | none=>cond (Ops.inb B p2 (List.length p1)) (cond (Ops.eq B p0 (1)) (ob (c175 ([45,62]:LB) p1 p2 p3 p4 p5) fun y0=>cond y0.1 (k ((7,y0.2.1,(y0.2.2).1,(y0.2.2.2).1,((y0.2.2.2).2).1,((y0.2.2.2).2).2))) (cond (Ops.eq B p0 (2)) (ob (c175 ([124,124]:LB) y0.2.1 ((y0.2.2).1) ((y0.2.2.2).1) (((y0.2.2.2).2).1) (((y0.2.2.2).2).2)) fun y1=>cond y1.1 (k ((6,y1.2.1,(y1.2.2).1,(y1.2.2.2).1,((y1.2.2.2).2).1,((y1.2.2.2).2).2))) (cond (Ops.eq B p0 (3)) (ob (c175 ([38,38]:LB) y1.2.1 ((y1.2.2).1) ((y1.2.2.2).1) (((y1.2.2.2).2).1) (((y1.2.2.2).2).2)) fun y2=>cond y2.1 (k ((5,y2.2.1,(y2.2.2).1,(y2.2.2.2).1,((y2.2.2.2).2).1,((y2.2.2.2).2).2))) (cond (Ops.eq B p0 (4)) (cond (Ops.eq B ((List.getD p1 (Int.toNat p2) (Ty.dflt ty130)).1) (3)) (cond (((List.getD p1 (Int.toNat p2) (Ty.dflt ty130)).2).1 == ([85]:LB)) (k ((9,y2.2.1,(y2.2.2).1,(y2.2.2.2).1,((y2.2.2.2).2).1,((y2.2.2.2).2).2))) (cond (Ops.eq B p0 (4)) (cond (Ops.eq B ((List.getD p1 (Int.toNat p2) (Ty.dflt ty130)).1) (3)) (cond (((List.getD p1 (Int.toNat p2) (Ty.dflt ty130)).2).1 == ([82]:LB)) (k ((10,y2.2.1,(y2.2.2).1,(y2.2.2.2).1,((y2.2.2.2).2).1,((y2.2.2.2).2).2))) (again (.l1012 y2.2.1 ((y2.2.2).1) ((y2.2.2.2).1) (((y2.2.2.2).2).1) (((y2.2.2.2).2).2)))) (again (.l1012 y2.2.1 ((y2.2.2).1) ((y2.2.2.2).1) (((y2.2.2.2).2).1) (((y2.2.2.2).2).2)))) (again (.l1012 y2.2.1 ((y2.2.2).1) ((y2.2.2.2).1) (((y2.2.2.2).2).1) (((y2.2.2.2).2).2))))) (cond (Ops.eq B p0 (4)) (cond (Ops.eq B ((List.getD p1 (Int.toNat p2) (Ty.dflt ty130)).1) (3)) (cond (((List.getD p1 (Int.toNat p2) (Ty.dflt ty130)).2).1 == ([82]:LB)) (k ((10,y2.2.1,(y2.2.2).1,(y2.2.2.2).1,((y2.2.2.2).2).1,((y2.2.2.2).2).2))) (again (.l1012 y2.2.1 ((y2.2.2).1) ((y2.2.2.2).1) (((y2.2.2.2).2).1) (((y2.2.2.2).2).2)))) (again (.l1012 y2.2.1 ((y2.2.2).1) ((y2.2.2.2).1) (((y2.2.2.2).2).1) (((y2.2.2.2).2).2)))) (again (.l1012 y2.2.1 ((y2.2.2).1) ((y2.2.2.2).1) (((y2.2.2.2).2).1) (((y2.2.2.2).2).2))))) (cond (Ops.eq B p0 (4)) (cond (Ops.eq B ((List.getD p1 (Int.toNat p2) (Ty.dflt ty130)).1) (3)) (cond (((List.getD p1 (Int.toNat p2) (Ty.dflt ty130)).2).1 == ([82]:LB)) (k ((10,y2.2.1,(y2.2.2).1,(y2.2.2.2).1,((y2.2.2.2).2).1,((y2.2.2.2).2).2))) (again (.l1012 y2.2.1 ((y2.2.2).1) ((y2.2.2.2).1) (((y2.2.2.2).2).1) (((y2.2.2.2).2).2)))) (again (.l1012 y2.2.1 ((y2.2.2).1) ((y2.2.2.2).1) (((y2.2.2.2).2).1) (((y2.2.2.2).2).2)))) (again (.l1012 y2.2.1 ((y2.2.2).1) ((y2.2.2.2).1) (((y2.2.2.2).2).1) (((y2.2.2.2).2).2)))))) (cond (Ops.eq B p0 (4)) (cond (Ops.eq B ((List.getD p1 (Int.toNat p2) (Ty.dflt ty130)).1) (3)) (cond (((List.getD p1 (Int.toNat p2) (Ty.dflt ty130)).2).1 == ([85]:LB)) (k ((9,y1.2.1,(y1.2.2).1,(y1.2.2.2).1,((y1.2.2.2).2).1,((y1.2.2.2).2).2))) (cond (Ops.eq B p0 (4)) (cond (Ops.eq B ((List.getD p1 (Int.toNat p2) (Ty.dflt ty130)).1) (3)) (cond (((List.getD p1 (Int.toNat p2) (Ty.dflt ty130)).2).1 == ([82]:LB)) (k ((10,y1.2.1,(y1.2.2).1,(y1.2.2.2).1,((y1.2.2.2).2).1,((y1.2.2.2).2).2))) (again (.l1012 y1.2.1 ((y1.2.2).1) ((y1.2.2.2).1) (((y1.2.2.2).2).1) (((y1.2.2.2).2).2)))) (again (.l1012 y1.2.1 ((y1.2.2).1) ((y1.2.2.2).1) (((y1.2.2.2).2).1) (((y1.2.2.2).2).2)))) (again (.l1012 y1.2.1 ((y1.2.2).1) ((y1.2.2.2).1) (((y1.2.2.2).2).1) (((y1.2.2.2).2).2))))) (cond (Ops.eq B p0 (4)) (cond (Ops.eq B ((List.getD p1 (Int.toNat p2) (Ty.dflt ty130)).1) (3)) (cond (((List.getD p1 (Int.toNat p2) (Ty.dflt ty130)).2).1 == ([82]:LB)) (k ((10,y1.2.1,(y1.2.2).1,(y1.2.2.2).1,((y1.2.2.2).2).1,((y1.2.2.2).2).2))) (again (.l1012 y1.2.1 ((y1.2.2).1) ((y1.2.2.2).1) (((y1.2.2.2).2).1) (((y1.2.2.2).2).2)))) (again (.l1012 y1.2.1 ((y1.2.2).1) ((y1.2.2.2).1) (((y1.2.2.2).2).1) (((y1.2.2.2).2).2)))) (again (.l1012 y1.2.1 ((y1.2.2).1) ((y1.2.2.2).1) (((y1.2.2.2).2).1) (((y1.2.2.2).2).2))))) (cond (Ops.eq B p0 (4)) (cond (Ops.eq B ((List.getD p1 (Int.toNat p2) (Ty.dflt ty130)).1) (3)) (cond (((List.getD p1 (Int.toNat p2) (Ty.dflt ty130)).2).1 == ([82]:LB)) (k ((10,y1.2.1,(y1.2.2).1,(y1.2.2.2).1,((y1.2.2.2).2).1,((y1.2.2.2).2).2))) (again (.l1012 y1.2.1 ((y1.2.2).1) ((y1.2.2.2).1) (((y1.2.2.2).2).1) (((y1.2.2.2).2).2)))) (again (.l1012 y1.2.1 ((y1.2.2).1) ((y1.2.2.2).1) (((y1.2.2.2).2).1) (((y1.2.2.2).2).2)))) (again (.l1012 y1.2.1 ((y1.2.2).1) ((y1.2.2.2).1) (((y1.2.2.2).2).1) (((y1.2.2.2).2).2))))))) (cond (Ops.eq B p0 (3)) (ob (c175 ([38,38]:LB) y0.2.1 ((y0.2.2).1) ((y0.2.2.2).1) (((y0.2.2.2).2).1) (((y0.2.2.2).2).2)) fun y1=>cond y1.1 (k ((5,y1.2.1,(y1.2.2).1,(y1.2.2.2).1,((y1.2.2.2).2).1,((y1.2.2.2).2).2))) (cond (Ops.eq B p0 (4)) (cond (Ops.eq B ((List.getD p1 (Int.toNat p2) (Ty.dflt ty130)).1) (3)) (cond (((List.getD p1 (Int.toNat p2) (Ty.dflt ty130)).2).1 == ([85]:LB)) (k ((9,y1.2.1,(y1.2.2).1,(y1.2.2.2).1,((y1.2.2.2).2).1,((y1.2.2.2).2).2))) (cond (Ops.eq B p0 (4)) (cond (Ops.eq B ((List.getD p1 (Int.toNat p2) (Ty.dflt ty130)).1) (3)) (cond (((List.getD p1 (Int.toNat p2) (Ty.dflt ty130)).2).1 == ([82]:LB)) (k ((10,y1.2.1,(y1.2.2).1,(y1.2.2.2).1,((y1.2.2.2).2).1,((y1.2.2.2).2).2))) (again (.l1012 y1.2.1 ((y1.2.2).1) ((y1.2.2.2).1) (((y1.2.2.2).2).1) (((y1.2.2.2).2).2)))) (again (.l1012 y1.2.1 ((y1.2.2).1) ((y1.2.2.2).1) (((y1.2.2.2).2).1) (((y1.2.2.2).2).2)))) (again (.l1012 y1.2.1 ((y1.2.2).1) ((y1.2.2.2).1) (((y1.2.2.2).2).1) (((y1.2.2.2).2).2))))) (cond (Ops.eq B p0 (4)) (cond (Ops.eq B ((List.getD p1 (Int.toNat p2) (Ty.dflt ty130)).1) (3)) (cond (((List.getD p1 (Int.toNat p2) (Ty.dflt ty130)).2).1 == ([82]:LB)) (k ((10,y1.2.1,(y1.2.2).1,(y1.2.2.2).1,((y1.2.2.2).2).1,((y1.2.2.2).2).2))) (again (.l1012 y1.2.1 ((y1.2.2).1) ((y1.2.2.2).1) (((y1.2.2.2).2).1) (((y1.2.2.2).2).2)))) (again (.l1012 y1.2.1 ((y1.2.2).1) ((y1.2.2.2).1) (((y1.2.2.2).2).1) (((y1.2.2.2).2).2)))) (again (.l1012 y1.2.1 ((y1.2.2).1) ((y1.2.2.2).1) (((y1.2.2.2).2).1) (((y1.2.2.2).2).2))))) (cond (Ops.eq B p0 (4)) (cond (Ops.eq B ((List.getD p1 (Int.toNat p2) (Ty.dflt ty130)).1) (3)) (cond (((List.getD p1 (Int.toNat p2) (Ty.dflt ty130)).2).1 == ([82]:LB)) (k ((10,y1.2.1,(y1.2.2).1,(y1.2.2.2).1,((y1.2.2.2).2).1,((y1.2.2.2).2).2))) (again (.l1012 y1.2.1 ((y1.2.2).1) ((y1.2.2.2).1) (((y1.2.2.2).2).1) (((y1.2.2.2).2).2)))) (again (.l1012 y1.2.1 ((y1.2.2).1) ((y1.2.2.2).1) (((y1.2.2.2).2).1) (((y1.2.2.2).2).2)))) (again (.l1012 y1.2.1 ((y1.2.2).1) ((y1.2.2.2).1) (((y1.2.2.2).2).1) (((y1.2.2.2).2).2)))))) (cond (Ops.eq B p0 (4)) (cond (Ops.eq B ((List.getD p1 (Int.toNat p2) (Ty.dflt ty130)).1) (3)) (cond (((List.getD p1 (Int.toNat p2) (Ty.dflt ty130)).2).1 == ([85]:LB)) (k ((9,y0.2.1,(y0.2.2).1,(y0.2.2.2).1,((y0.2.2.2).2).1,((y0.2.2.2).2).2))) (cond (Ops.eq B p0 (4)) (cond (Ops.eq B ((List.getD p1 (Int.toNat p2) (Ty.dflt ty130)).1) (3)) (cond (((List.getD p1 (Int.toNat p2) (Ty.dflt ty130)).2).1 == ([82]:LB)) (k ((10,y0.2.1,(y0.2.2).1,(y0.2.2.2).1,((y0.2.2.2).2).1,((y0.2.2.2).2).2))) (again (.l1012 y0.2.1 ((y0.2.2).1) ((y0.2.2.2).1) (((y0.2.2.2).2).1) (((y0.2.2.2).2).2)))) (again (.l1012 y0.2.1 ((y0.2.2).1) ((y0.2.2.2).1) (((y0.2.2.2).2).1) (((y0.2.2.2).2).2)))) (again (.l1012 y0.2.1 ((y0.2.2).1) ((y0.2.2.2).1) (((y0.2.2.2).2).1) (((y0.2.2.2).2).2))))) (cond (Ops.eq B p0 (4)) (cond (Ops.eq B ((List.getD p1 (Int.toNat p2) (Ty.dflt ty130)).1) (3)) (cond (((List.getD p1 (Int.toNat p2) (Ty.dflt ty130)).2).1 == ([82]:LB)) (k ((10,y0.2.1,(y0.2.2).1,(y0.2.2.2).1,((y0.2.2.2).2).1,((y0.2.2.2).2).2))) (again (.l1012 y0.2.1 ((y0.2.2).1) ((y0.2.2.2).1) (((y0.2.2.2).2).1) (((y0.2.2.2).2).2)))) (again (.l1012 y0.2.1 ((y0.2.2).1) ((y0.2.2.2).1) (((y0.2.2.2).2).1) (((y0.2.2.2).2).2)))) (again (.l1012 y0.2.1 ((y0.2.2).1) ((y0.2.2.2).1) (((y0.2.2.2).2).1) (((y0.2.2.2).2).2))))) (cond (Ops.eq B p0 (4)) (cond (Ops.eq B ((List.getD p1 (Int.toNat p2) (Ty.dflt ty130)).1) (3)) (cond (((List.getD p1 (Int.toNat p2) (Ty.dflt ty130)).2).1 == ([82]:LB)) (k ((10,y0.2.1,(y0.2.2).1,(y0.2.2.2).1,((y0.2.2.2).2).1,((y0.2.2.2).2).2))) (again (.l1012 y0.2.1 ((y0.2.2).1) ((y0.2.2.2).1) (((y0.2.2.2).2).1) (((y0.2.2.2).2).2)))) (again (.l1012 y0.2.1 ((y0.2.2).1) ((y0.2.2.2).1) (((y0.2.2.2).2).1) (((y0.2.2.2).2).2)))) (again (.l1012 y0.2.1 ((y0.2.2).1) ((y0.2.2.2).1) (((y0.2.2.2).2).1) (((y0.2.2.2).2).2)))))))) (cond (Ops.eq B p0 (2)) (ob (c175 ([124,124]:LB) p1 p2 p3 p4 p5) fun y0=>cond y0.1 (k ((6,y0.2.1,(y0.2.2).1,(y0.2.2.2).1,((y0.2.2.2).2).1,((y0.2.2.2).2).2))) (cond (Ops.eq B p0 (3)) (ob (c175 ([38,38]:LB) y0.2.1 ((y0.2.2).1) ((y0.2.2.2).1) (((y0.2.2.2).2).1) (((y0.2.2.2).2).2)) fun y1=>cond y1.1 (k ((5,y1.2.1,(y1.2.2).1,(y1.2.2.2).1,((y1.2.2.2).2).1,((y1.2.2.2).2).2))) (cond (Ops.eq B p0 (4)) (cond (Ops.eq B ((List.getD p1 (Int.toNat p2) (Ty.dflt ty130)).1) (3)) (cond (((List.getD p1 (Int.toNat p2) (Ty.dflt ty130)).2).1 == ([85]:LB)) (k ((9,y1.2.1,(y1.2.2).1,(y1.2.2.2).1,((y1.2.2.2).2).1,((y1.2.2.2).2).2))) (cond (Ops.eq B p0 (4)) (cond (Ops.eq B ((List.getD p1 (Int.toNat p2) (Ty.dflt ty130)).1) (3)) (cond (((List.getD p1 (Int.toNat p2) (Ty.dflt ty130)).2).1 == ([82]:LB)) (k ((10,y1.2.1,(y1.2.2).1,(y1.2.2.2).1,((y1.2.2.2).2).1,((y1.2.2.2).2).2))) (again (.l1012 y1.2.1 ((y1.2.2).1) ((y1.2.2.2).1) (((y1.2.2.2).2).1) (((y1.2.2.2).2).2)))) (again (.l1012 y1.2.1 ((y1.2.2).1) ((y1.2.2.2).1) (((y1.2.2.2).2).1) (((y1.2.2.2).2).2)))) (again (.l1012 y1.2.1 ((y1.2.2).1) ((y1.2.2.2).1) (((y1.2.2.2).2).1) (((y1.2.2.2).2).2))))) (cond (Ops.eq B p0 (4)) (cond (Ops.eq B ((List.getD p1 (Int.toNat p2) (Ty.dflt ty130)).1) (3)) (cond (((List.getD p1 (Int.toNat p2) (Ty.dflt ty130)).2).1 == ([82]:LB)) (k ((10,y1.2.1,(y1.2.2).1,(y1.2.2.2).1,((y1.2.2.2).2).1,((y1.2.2.2).2).2))) (again (.l1012 y1.2.1 ((y1.2.2).1) ((y1.2.2.2).1) (((y1.2.2.2).2).1) (((y1.2.2.2).2).2)))) (again (.l1012 y1.2.1 ((y1.2.2).1) ((y1.2.2.2).1) (((y1.2.2.2).2).1) (((y1.2.2.2).2).2)))) (again (.l1012 y1.2.1 ((y1.2.2).1) ((y1.2.2.2).1) (((y1.2.2.2).2).1) (((y1.2.2.2).2).2))))) (cond (Ops.eq B p0 (4)) (cond (Ops.eq B ((List.getD p1 (Int.toNat p2) (Ty.dflt ty130)).1) (3)) (cond (((List.getD p1 (Int.toNat p2) (Ty.dflt ty130)).2).1 == ([82]:LB)) (k ((10,y1.2.1,(y1.2.2).1,(y1.2.2.2).1,((y1.2.2.2).2).1,((y1.2.2.2).2).2))) (again (.l1012 y1.2.1 ((y1.2.2).1) ((y1.2.2.2).1) (((y1.2.2.2).2).1) (((y1.2.2.2).2).2)))) (again (.l1012 y1.2.1 ((y1.2.2).1) ((y1.2.2.2).1) (((y1.2.2.2).2).1) (((y1.2.2.2).2).2)))) (again (.l1012 y1.2.1 ((y1.2.2).1) ((y1.2.2.2).1) (((y1.2.2.2).2).1) (((y1.2.2.2).2).2)))))) (cond (Ops.eq B p0 (4)) (cond (Ops.eq B ((List.getD p1 (Int.toNat p2) (Ty.dflt ty130)).1) (3)) (cond (((List.getD p1 (Int.toNat p2) (Ty.dflt ty130)).2).1 == ([85]:LB)) (k ((9,y0.2.1,(y0.2.2).1,(y0.2.2.2).1,((y0.2.2.2).2).1,((y0.2.2.2).2).2))) (cond (Ops.eq B p0 (4)) (cond (Ops.eq B ((List.getD p1 (Int.toNat p2) (Ty.dflt ty130)).1) (3)) (cond (((List.getD p1 (Int.toNat p2) (Ty.dflt ty130)).2).1 == ([82]:LB)) (k ((10,y0.2.1,(y0.2.2).1,(y0.2.2.2).1,((y0.2.2.2).2).1,((y0.2.2.2).2).2))) (again (.l1012 y0.2.1 ((y0.2.2).1) ((y0.2.2.2).1) (((y0.2.2.2).2).1) (((y0.2.2.2).2).2)))) (again (.l1012 y0.2.1 ((y0.2.2).1) ((y0.2.2.2).1) (((y0.2.2.2).2).1) (((y0.2.2.2).2).2)))) (again (.l1012 y0.2.1 ((y0.2.2).1) ((y0.2.2.2).1) (((y0.2.2.2).2).1) (((y0.2.2.2).2).2))))) (cond (Ops.eq B p0 (4)) (cond (Ops.eq B ((List.getD p1 (Int.toNat p2) (Ty.dflt ty130)).1) (3)) (cond (((List.getD p1 (Int.toNat p2) (Ty.dflt ty130)).2).1 == ([82]:LB)) (k ((10,y0.2.1,(y0.2.2).1,(y0.2.2.2).1,((y0.2.2.2).2).1,((y0.2.2.2).2).2))) (again (.l1012 y0.2.1 ((y0.2.2).1) ((y0.2.2.2).1) (((y0.2.2.2).2).1) (((y0.2.2.2).2).2)))) (again (.l1012 y0.2.1 ((y0.2.2).1) ((y0.2.2.2).1) (((y0.2.2.2).2).1) (((y0.2.2.2).2).2)))) (again (.l1012 y0.2.1 ((y0.2.2).1) ((y0.2.2.2).1) (((y0.2.2.2).2).1) (((y0.2.2.2).2).2))))) (cond (Ops.eq B p0 (4)) (cond (Ops.eq B ((List.getD p1 (Int.toNat p2) (Ty.dflt ty130)).1) (3)) (cond (((List.getD p1 (Int.toNat p2) (Ty.dflt ty130)).2).1 == ([82]:LB)) (k ((10,y0.2.1,(y0.2.2).1,(y0.2.2.2).1,((y0.2.2.2).2).1,((y0.2.2.2).2).2))) (again (.l1012 y0.2.1 ((y0.2.2).1) ((y0.2.2.2).1) (((y0.2.2.2).2).1) (((y0.2.2.2).2).2)))) (again (.l1012 y0.2.1 ((y0.2.2).1) ((y0.2.2.2).1) (((y0.2.2.2).2).1) (((y0.2.2.2).2).2)))) (again (.l1012 y0.2.1 ((y0.2.2).1) ((y0.2.2.2).1) (((y0.2.2.2).2).1) (((y0.2.2.2).2).2))))))) (cond (Ops.eq B p0 (3)) (ob (c175 ([38,38]:LB) p1 p2 p3 p4 p5) fun y0=>cond y0.1 (k ((5,y0.2.1,(y0.2.2).1,(y0.2.2.2).1,((y0.2.2.2).2).1,((y0.2.2.2).2).2))) (cond (Ops.eq B p0 (4)) (cond (Ops.eq B ((List.getD p1 (Int.toNat p2) (Ty.dflt ty130)).1) (3)) (cond (((List.getD p1 (Int.toNat p2) (Ty.dflt ty130)).2).1 == ([85]:LB)) (k ((9,y0.2.1,(y0.2.2).1,(y0.2.2.2).1,((y0.2.2.2).2).1,((y0.2.2.2).2).2))) (cond (Ops.eq B p0 (4)) (cond (Ops.eq B ((List.getD p1 (Int.toNat p2) (Ty.dflt ty130)).1) (3)) (cond (((List.getD p1 (Int.toNat p2) (Ty.dflt ty130)).2).1 == ([82]:LB)) (k ((10,y0.2.1,(y0.2.2).1,(y0.2.2.2).1,((y0.2.2.2).2).1,((y0.2.2.2).2).2))) (again (.l1012 y0.2.1 ((y0.2.2).1) ((y0.2.2.2).1) (((y0.2.2.2).2).1) (((y0.2.2.2).2).2)))) (again (.l1012 y0.2.1 ((y0.2.2).1) ((y0.2.2.2).1) (((y0.2.2.2).2).1) (((y0.2.2.2).2).2)))) (again (.l1012 y0.2.1 ((y0.2.2).1) ((y0.2.2.2).1) (((y0.2.2.2).2).1) (((y0.2.2.2).2).2))))) (cond (Ops.eq B p0 (4)) (cond (Ops.eq B ((List.getD p1 (Int.toNat p2) (Ty.dflt ty130)).1) (3)) (cond (((List.getD p1 (Int.toNat p2) (Ty.dflt ty130)).2).1 == ([82]:LB)) (k ((10,y0.2.1,(y0.2.2).1,(y0.2.2.2).1,((y0.2.2.2).2).1,((y0.2.2.2).2).2))) (again (.l1012 y0.2.1 ((y0.2.2).1) ((y0.2.2.2).1) (((y0.2.2.2).2).1) (((y0.2.2.2).2).2)))) (again (.l1012 y0.2.1 ((y0.2.2).1) ((y0.2.2.2).1) (((y0.2.2.2).2).1) (((y0.2.2.2).2).2)))) (again (.l1012 y0.2.1 ((y0.2.2).1) ((y0.2.2.2).1) (((y0.2.2.2).2).1) (((y0.2.2.2).2).2))))) (cond (Ops.eq B p0 (4)) (cond (Ops.eq B ((List.getD p1 (Int.toNat p2) (Ty.dflt ty130)).1) (3)) (cond (((List.getD p1 (Int.toNat p2) (Ty.dflt ty130)).2).1 == ([82]:LB)) (k ((10,y0.2.1,(y0.2.2).1,(y0.2.2.2).1,((y0.2.2.2).2).1,((y0.2.2.2).2).2))) (again (.l1012 y0.2.1 ((y0.2.2).1) ((y0.2.2.2).1) (((y0.2.2.2).2).1) (((y0.2.2.2).2).2)))) (again (.l1012 y0.2.1 ((y0.2.2).1) ((y0.2.2.2).1) (((y0.2.2.2).2).1) (((y0.2.2.2).2).2)))) (again (.l1012 y0.2.1 ((y0.2.2).1) ((y0.2.2.2).1) (((y0.2.2.2).2).1) (((y0.2.2.2).2).2)))))) (cond (Ops.eq B p0 (4)) (cond (Ops.eq B ((List.getD p1 (Int.toNat p2) (Ty.dflt ty130)).1) (3)) (cond (((List.getD p1 (Int.toNat p2) (Ty.dflt ty130)).2).1 == ([85]:LB)) (k ((9,p1,p2,p3,p4,p5))) (cond (Ops.eq B p0 (4)) (cond (Ops.eq B ((List.getD p1 (Int.toNat p2) (Ty.dflt ty130)).1) (3)) (cond (((List.getD p1 (Int.toNat p2) (Ty.dflt ty130)).2).1 == ([82]:LB)) (k ((10,p1,p2,p3,p4,p5))) (again (.l1012 p1 p2 p3 p4 p5))) (again (.l1012 p1 p2 p3 p4 p5))) (again (.l1012 p1 p2 p3 p4 p5)))) (cond (Ops.eq B p0 (4)) (cond (Ops.eq B ((List.getD p1 (Int.toNat p2) (Ty.dflt ty130)).1) (3)) (cond (((List.getD p1 (Int.toNat p2) (Ty.dflt ty130)).2).1 == ([82]:LB)) (k ((10,p1,p2,p3,p4,p5))) (again (.l1012 p1 p2 p3 p4 p5))) (again (.l1012 p1 p2 p3 p4 p5))) (again (.l1012 p1 p2 p3 p4 p5)))) (cond (Ops.eq B p0 (4)) (cond (Ops.eq B ((List.getD p1 (Int.toNat p2) (Ty.dflt ty130)).1) (3)) (cond (((List.getD p1 (Int.toNat p2) (Ty.dflt ty130)).2).1 == ([82]:LB)) (k ((10,p1,p2,p3,p4,p5))) (again (.l1012 p1 p2 p3 p4 p5))) (again (.l1012 p1 p2 p3 p4 p5))) (again (.l1012 p1 p2 p3 p4 p5))))))) (none) | some (.l1012 v1012_0 v1012_1 v1012_2 v1012_3 v1012_4)=>k ((0,v1012_0,v1012_1,v1012_2,v1012_3,v1012_4))
def E142 (p0:Int) (p1:L130) (p2:Int) (p3:Int) (p4:Int) (p5:L66):S142→List AV×Objs
 | .l1012 v1012_0 v1012_1 v1012_2 v1012_3 v1012_4=>(mk 63 [],[(0,.box 127 [.list 130 ty130 v1012_0,.int .i64 v1012_1,.own 1002,.int .i64 v1012_2,.int .i64 v1012_3]),(1002,.row 66 ty66 v1012_4)])
def I142:S142→Nat
 | .l1012 _ _ _ _ _=>1012
theorem eq142 {R:Type} (B:Ops) (c175:C175) (p0:Int) (p1:L130) (p2:Int) (p3:Int) (p4:Int) (p5:L66) (k:AV→Objs→Option R) (n:Nat):afun tau B gl0 X142 (ent 175 (e175 c175) (gnil)) ow Tryz.f142 [.c (.ptr 0 0),.c (.int .i64 p0)] [(0,.box 127 [.list 130 ty130 p1,.int .i64 p2,.own 1002,.int .i64 p3,.int .i64 p4]),(1002,.row 66 ty66 p5)] k n=T142 B c175 p0 p1 p2 p3 p4 p5 (fun s=>aloop tau B gl0 X142 (ent 175 (e175 c175) (gnil)) ow [0] Tryz.f142 k (I142 s) (E142 p0 p1 p2 p3 p4 p5 s) n) (fun y=>k (.c (.int .i64 y.1)) [(0,.box 127 [.list 130 ty130 y.2.1,.int .i64 y.2.2.1,.own 1002,.int .i64 y.2.2.2.1,.int .i64 y.2.2.2.2.1]),(1002,.row 66 ty66 y.2.2.2.2.2)]) none:=by kernel_rfl
theorem el142 {R:Type} (B:Ops) (c175:C175) (p0:Int) (p1:L130) (p2:Int) (p3:Int) (p4:Int) (p5:L66) (k:AV→Objs→Option R) (n:Nat):∀ s,aloop tau B gl0 X142 (ent 175 (e175 c175) (gnil)) ow [0] Tryz.f142 k (I142 s) (E142 p0 p1 p2 p3 p4 p5 s) (n+1)=T142 B c175 p0 p1 p2 p3 p4 p5 (fun s=>aloop tau B gl0 X142 (ent 175 (e175 c175) (gnil)) ow [0] Tryz.f142 k (I142 s) (E142 p0 p1 p2 p3 p4 p5 s) n) (fun y=>k (.c (.int .i64 y.1)) [(0,.box 127 [.list 130 ty130 y.2.1,.int .i64 y.2.2.1,.own 1002,.int .i64 y.2.2.2.1,.int .i64 y.2.2.2.2.1]),(1002,.row 66 ty66 y.2.2.2.2.2)]) (some s)
 | .l1012 v1012_0 v1012_1 v1012_2 v1012_3 v1012_4=>by kernel_rfl
theorem nt142 {R R':Type} (B:Ops) (c175:C175) (p0:Int) (p1:L130) (p2:Int) (p3:Int) (p4:Int) (p5:L66) (again:S142→Option R) (again':S142→Option R') (k0:(Int×L130×Int×Int×Int×L66)→Option R') (k:R'→Option R) (h:∀ s,again s=ob (again' s) k):∀ s,T142 B c175 p0 p1 p2 p3 p4 p5 again (fun y=>ob (k0 y) k) s=ob (T142 B c175 p0 p1 p2 p3 p4 p5 again' k0 s) k
 | none=>by unfold T142;repeat' first | exact rfl | exact h _ | apply qac | (apply qah;intro)
 | some (.l1012 v1012_0 v1012_1 v1012_2 v1012_3 v1012_4)=>by unfold T142;repeat' first | exact rfl | exact h _ | apply qac | (apply qah;intro)
def R142 (c175:C175) (p0:Int) (p1:L130) (p2:Int) (p3:Int) (p4:Int) (p5:L66):Nat→S142→Option (Int×L130×Int×Int×Int×L66)
 | 0,_=>none
 | n+1,s=>T142 Ops.std c175 p0 p1 p2 p3 p4 p5 (R142 c175 p0 p1 p2 p3 p4 p5 n) some (some s)
theorem rr142 {R:Type} (c175:C175) (p0:Int) (p1:L130) (p2:Int) (p3:Int) (p4:Int) (p5:L66) (k:AV→Objs→Option R):∀ (n:Nat) (s:S142),aloop tau Ops.std gl0 X142 (ent 175 (e175 c175) (gnil)) ow [0] Tryz.f142 k (I142 s) (E142 p0 p1 p2 p3 p4 p5 s) n=ob (R142 c175 p0 p1 p2 p3 p4 p5 n s) (fun y=>k (.c (.int .i64 y.1)) [(0,.box 127 [.list 130 ty130 y.2.1,.int .i64 y.2.2.1,.own 1002,.int .i64 y.2.2.2.1,.int .i64 y.2.2.2.2.1]),(1002,.row 66 ty66 y.2.2.2.2.2)])
 | 0,s=>by cases s<;>rfl
 | n+1,s=>by rw [el142];exact nt142 Ops.std c175 p0 p1 p2 p3 p4 p5 _ _ some (fun y=>k (.c (.int .i64 y.1)) [(0,.box 127 [.list 130 ty130 y.2.1,.int .i64 y.2.2.1,.own 1002,.int .i64 y.2.2.2.1,.int .i64 y.2.2.2.2.1]),(1002,.row 66 ty66 y.2.2.2.2.2)]) (rr142 c175 p0 p1 p2 p3 p4 p5 k n) (some s)
def F142 (c175:C175) (p0:Int) (p1:L130) (p2:Int) (p3:Int) (p4:Int) (p5:L66):Option (Int×L130×Int×Int×Int×L66):=T142 Ops.std c175 p0 p1 p2 p3 p4 p5 (R142 c175 p0 p1 p2 p3 p4 p5 1000000) some none
theorem fo142 {R:Type} (c175:C175) (p0:Int) (p1:L130) (p2:Int) (p3:Int) (p4:Int) (p5:L66) (k:AV→Objs→Option R):afun tau Ops.std gl0 X142 (ent 175 (e175 c175) (gnil)) ow Tryz.f142 [.c (.ptr 0 0),.c (.int .i64 p0)] [(0,.box 127 [.list 130 ty130 p1,.int .i64 p2,.own 1002,.int .i64 p3,.int .i64 p4]),(1002,.row 66 ty66 p5)] k 1000000=ob (F142 c175 p0 p1 p2 p3 p4 p5) (fun y=>k (.c (.int .i64 y.1)) [(0,.box 127 [.list 130 ty130 y.2.1,.int .i64 y.2.2.1,.own 1002,.int .i64 y.2.2.2.1,.int .i64 y.2.2.2.2.1]),(1002,.row 66 ty66 y.2.2.2.2.2)]):=by rw [eq142];exact nt142 Ops.std c175 p0 p1 p2 p3 p4 p5 _ _ some (fun y=>k (.c (.int .i64 y.1)) [(0,.box 127 [.list 130 ty130 y.2.1,.int .i64 y.2.2.1,.own 1002,.int .i64 y.2.2.2.1,.int .i64 y.2.2.2.2.1]),(1002,.row 66 ty66 y.2.2.2.2.2)]) (rr142 c175 p0 p1 p2 p3 p4 p5 k 1000000) none
def e142 {R:Type} (c:Int→L130→Int→Int→Int→L66→Option (Int×L130×Int×Int×Int×L66)):Ent R:=fun args objs k=>
 oCons args fun a0 l0=>oC a0 fun x0=>cPtr 0 x0 <| oCons l0 fun a1 l1=>oC a1 fun x1=>cInt .i64 x1 fun p0=>oNil l1 <| oBox 0 127 objs fun b0 o0=>cCons b0 fun u0_0 v0_0=>cList 130 ty130 u0_0 fun p1=>cCons v0_0 fun u0_1 v0_1=>cInt .i64 u0_1 fun p2=>cCons v0_1 fun u0_2 v0_2=>cOwn 1002 u0_2 <| cCons v0_2 fun u0_3 v0_3=>cInt .i64 u0_3 fun p3=>cCons v0_3 fun u0_4 v0_4=>cInt .i64 u0_4 fun p4=>cNil v0_4 <| oRow 1002 66 ty66 o0 fun p5 o1=>oNilO o1 <| ob (c p0 p1 p2 p3 p4 p5) fun y=>k (.c (.int .i64 y.1)) [(0,.box 127 [.list 130 ty130 y.2.1,.int .i64 y.2.2.1,.own 1002,.int .i64 y.2.2.2.1,.int .i64 y.2.2.2.2.1]),(1002,.row 66 ty66 y.2.2.2.2.2)]
abbrev Sp142 (c:Int→L130→Int→Int→Int→L66→Option (Int×L130×Int×Int×Int×L66)):Prop:=∀ (p0:Int) (p1:L130) (p2:Int) (p3:Int) (p4:Int) (p5:L66) (y:Int×L130×Int×Int×Int×L66),c p0 p1 p2 p3 p4 p5=some y→Spec Tryz.prog gl0 142 [.c (.ptr 0 0),.c (.int .i64 p0)] [(0,.box 127 [.list 130 ty130 p1,.int .i64 p2,.own 1002,.int .i64 p3,.int .i64 p4]),(1002,.row 66 ty66 p5)] (.c (.int .i64 y.1)) [(0,.box 127 [.list 130 ty130 y.2.1,.int .i64 y.2.2.1,.own 1002,.int .i64 y.2.2.2.1,.int .i64 y.2.2.2.2.1]),(1002,.row 66 ty66 y.2.2.2.2.2)]
theorem ek142 {R:Type} {c:Int→L130→Int→Int→Int→L66→Option (Int×L130×Int×Int×Int×L66)} (hs:Sp142 c):EOk 142 (e142 (R:=R) c):=fun args objs k r h=>by
 unfold e142 at h
 obtain ⟨a0,l0,rfl,q1⟩:=qaa h
 obtain ⟨x0,rfl,q2⟩:=qaj q1
 obtain ⟨rfl,q3⟩:=qa4 q2
 obtain ⟨a1,l1,rfl,q4⟩:=qaa q3
 obtain ⟨x1,rfl,q5⟩:=qaj q4
 obtain ⟨p0,rfl,q6⟩:=qal q5
 obtain ⟨rfl,q7⟩:=qag q6
 obtain ⟨b0,o0,rfl,q8⟩:=qa5 q7
 obtain ⟨u0_0,v0_0,rfl,q9⟩:=qad q8
 obtain ⟨p1,rfl,q10⟩:=qae q9
 obtain ⟨u0_1,v0_1,rfl,q11⟩:=qad q10
 obtain ⟨p2,rfl,q12⟩:=qal q11
 obtain ⟨u0_2,v0_2,rfl,q13⟩:=qad q12
 obtain ⟨rfl,q14⟩:=qbe q13
 obtain ⟨u0_3,v0_3,rfl,q15⟩:=qad q14
 obtain ⟨p3,rfl,q16⟩:=qal q15
 obtain ⟨u0_4,v0_4,rfl,q17⟩:=qad q16
 obtain ⟨p4,rfl,q18⟩:=qal q17
 obtain ⟨rfl,q19⟩:=qat q18
 obtain ⟨p5,o1,rfl,q20⟩:=qbf q19
 obtain ⟨rfl,q21⟩:=qaf q20
 exact qar (hs p0 p1 p2 p3 p4 p5) q21
theorem sf142 {c175:C175} (h175:Sp175 c175):Sp142 (F142 c175):=fun p0 p1 p2 p3 p4 p5 y hy=>by
 refine qap (G:=ent 175 (e175 c175) (gnil)) (qai (ek175 h175) (qao)) 1000000 (fn:=Tryz.f142) (by kernel_rfl) (by kernel_rfl) (X:=X142) (by kernel_rfl) ?_
 rw [fo142,hy]
 rfl
noncomputable def M142:Int→L130→Int→Int→Int→L66→Option (Int×L130×Int×Int×Int×L66):=F142 M175
theorem sm142:Sp142 M142:=sf142 sm175
def X66:Aux:=⟨[(3,([5,6,7,8,9,10]++rg 13 195)),(7,([5,6,7,8,9,10,12]++rg 14 194)),(10,([5,6,7,8,9,10,12]++rg 15 193)),(1000004,([5,6,7,8,9,10]++rg 13 195)),(1000015,([5,6,7,8,9,10,12]++rg 16 192)),(1000011,([5,6,7,8,9,10,12]++rg 15 193)),(1000008,([5,6,7,8,9,10,12]++rg 14 194))],[]⟩
inductive S66 where
 | l0 (v0_5:Int) (v0_6:L4)
 | l1 (v1_5:Int) (v1_6:L4)
 | l2 (v2_5:Int) (v2_6:Int) (v2_7:L4)
 | l1004 (v1004_5:Int) (v1004_6:L4)
 | l1008 (v1008_5:Int) (v1008_6:L4)
 | l1011 (v1011_5:Int) (v1011_6:Int) (v1011_7:L4)
 | l1015 (v1015_5:Int) (v1015_6:Int) (v1015_7:Int) (v1015_8:L4)
def T66 {R:Type} (B:Ops) (p0:Int) (p1:L4) (p2:L4) (p3:Int) (p4:Int) (again:S66→Option R) (k:(L4)→Option R):Option S66→Option R | none=>cond (bif Ops.eq B p3 p3 then bif Ops.le B (0) p3 then Ops.lim B (Int.toNat p3) (1) else false else false) (again (.l0 0 (List.replicate (Int.toNat p3) (Ty.dflt Ty.bool)))) (none) | some (.l0 v0_5 v0_6)=>cond (Ops.lt B v0_5 p3) (cond (Ops.eq B p0 (10)) (cond (Ops.inb B v0_5 (List.length v0_6)) (again (.l1004 v0_5 (List.set v0_6 (Int.toNat v0_5) true))) (none)) (cond (Ops.eq B p0 (12)) (cond (Ops.inb B v0_5 (List.length v0_6)) (again (.l1004 v0_5 (List.set v0_6 (Int.toNat v0_5) true))) (none)) (cond (Ops.inb B v0_5 (List.length v0_6)) (again (.l1004 v0_5 (List.set v0_6 (Int.toNat v0_5) (Ops.eq B p0 (1))))) (none)))) (again (.l1 0 v0_6)) | some (.l1 v1_5 v1_6)=>cond (Ops.le B v1_5 (IntKind.wrap .i64 (p3+1))) (again (.l2 v1_5 (IntKind.wrap .i64 (p3-1)) v1_6)) (k v1_6) | some (.l2 v2_5 v2_6 v2_7)=>cond (Ops.le B (0) v2_6) (cond (Ops.eq B (IntKind.wrap .i64 (v2_6+1)) p3) (again (.l1015 v2_5 v2_6 p4 v2_7)) (again (.l1015 v2_5 v2_6 (IntKind.wrap .i64 (v2_6+1)) v2_7))) (cond (!Ops.eq B p0 (9)) (cond (!Ops.eq B p0 (10)) (cond (!Ops.eq B p0 (11)) (cond (!Ops.eq B p0 (12)) (k v2_7) (again (.l1008 v2_5 v2_7))) (again (.l1008 v2_5 v2_7))) (again (.l1008 v2_5 v2_7))) (again (.l1008 v2_5 v2_7))) | some (.l1004 v1004_5 v1004_6)=>again (.l0 (IntKind.wrap .i64 (v1004_5+1)) v1004_6) | some (.l1008 v1008_5 v1008_6)=>again (.l1 (IntKind.wrap .i64 (v1008_5+1)) v1008_6) | some (.l1011 v1011_5 v1011_6 v1011_7)=>again (.l2 v1011_5 (IntKind.wrap .i64 (v1011_6-1)) v1011_7) | some (.l1015 v1015_5 v1015_6 v1015_7 v1015_8)=>cond (Ops.eq B p0 (4)) (cond (Ops.inb B v1015_6 (List.length p1)) (cond (Ops.inb B v1015_6 (List.length v1015_8)) (again (.l1011 v1015_5 v1015_6 (List.set v1015_8 (Int.toNat v1015_6) !List.getD p1 (Int.toNat v1015_6) (Ty.dflt ty4)))) (none)) (none)) (cond (Ops.eq B p0 (5)) (cond (Ops.inb B v1015_6 (List.length p1)) (cond (List.getD p1 (Int.toNat v1015_6) (Ty.dflt ty4)) (cond (Ops.inb B v1015_6 (List.length p2)) (cond (Ops.inb B v1015_6 (List.length v1015_8)) (again (.l1011 v1015_5 v1015_6 (List.set v1015_8 (Int.toNat v1015_6) (List.getD p2 (Int.toNat v1015_6) (Ty.dflt ty4))))) (none)) (none)) (cond (Ops.inb B v1015_6 (List.length v1015_8)) (again (.l1011 v1015_5 v1015_6 (List.set v1015_8 (Int.toNat v1015_6) false))) (none))) (none)) (cond (Ops.eq B p0 (6)) (cond (Ops.inb B v1015_6 (List.length p1)) (cond (List.getD p1 (Int.toNat v1015_6) (Ty.dflt ty4)) (cond (Ops.inb B v1015_6 (List.length v1015_8)) (again (.l1011 v1015_5 v1015_6 (List.set v1015_8 (Int.toNat v1015_6) true))) (none)) (cond (Ops.inb B v1015_6 (List.length p2)) (cond (Ops.inb B v1015_6 (List.length v1015_8)) (again (.l1011 v1015_5 v1015_6 (List.set v1015_8 (Int.toNat v1015_6) (List.getD p2 (Int.toNat v1015_6) (Ty.dflt ty4))))) (none)) (none))) (none)) (cond (Ops.eq B p0 (7)) (cond (Ops.inb B v1015_6 (List.length p1)) (cond (!List.getD p1 (Int.toNat v1015_6) (Ty.dflt ty4)) (cond (Ops.inb B v1015_6 (List.length v1015_8)) (again (.l1011 v1015_5 v1015_6 (List.set v1015_8 (Int.toNat v1015_6) true))) (none)) (cond (Ops.inb B v1015_6 (List.length p2)) (cond (Ops.inb B v1015_6 (List.length v1015_8)) (again (.l1011 v1015_5 v1015_6 (List.set v1015_8 (Int.toNat v1015_6) (List.getD p2 (Int.toNat v1015_6) (Ty.dflt ty4))))) (none)) (none))) (none)) (cond (Ops.eq B p0 (8)) (cond (Ops.inb B v1015_7 (List.length p1)) (cond (Ops.inb B v1015_6 (List.length v1015_8)) (again (.l1011 v1015_5 v1015_6 (List.set v1015_8 (Int.toNat v1015_6) (List.getD p1 (Int.toNat v1015_7) (Ty.dflt ty4))))) (none)) (none)) (cond (Ops.eq B p0 (9)) (cond (Ops.inb B v1015_6 (List.length p2)) (cond (List.getD p2 (Int.toNat v1015_6) (Ty.dflt ty4)) (cond (Ops.inb B v1015_6 (List.length v1015_8)) (again (.l1011 v1015_5 v1015_6 (List.set v1015_8 (Int.toNat v1015_6) true))) (none)) (cond (Ops.inb B v1015_6 (List.length p1)) (cond (List.getD p1 (Int.toNat v1015_6) (Ty.dflt ty4)) (cond (Ops.inb B v1015_7 (List.length v1015_8)) (cond (Ops.inb B v1015_6 (List.length v1015_8)) (again (.l1011 v1015_5 v1015_6 (List.set v1015_8 (Int.toNat v1015_6) (List.getD v1015_8 (Int.toNat v1015_7) (Ty.dflt ty4))))) (none)) (none)) (cond (Ops.inb B v1015_6 (List.length v1015_8)) (again (.l1011 v1015_5 v1015_6 (List.set v1015_8 (Int.toNat v1015_6) false))) (none))) (none))) (none)) (cond (Ops.eq B p0 (10)) (cond (Ops.inb B v1015_6 (List.length p2)) (cond (List.getD p2 (Int.toNat v1015_6) (Ty.dflt ty4)) (cond (Ops.inb B v1015_6 (List.length p1)) (cond (List.getD p1 (Int.toNat v1015_6) (Ty.dflt ty4)) (cond (Ops.inb B v1015_6 (List.length v1015_8)) (again (.l1011 v1015_5 v1015_6 (List.set v1015_8 (Int.toNat v1015_6) true))) (none)) (cond (Ops.inb B v1015_7 (List.length v1015_8)) (cond (Ops.inb B v1015_6 (List.length v1015_8)) (again (.l1011 v1015_5 v1015_6 (List.set v1015_8 (Int.toNat v1015_6) (List.getD v1015_8 (Int.toNat v1015_7) (Ty.dflt ty4))))) (none)) (none))) (none)) (cond (Ops.inb B v1015_6 (List.length v1015_8)) (again (.l1011 v1015_5 v1015_6 (List.set v1015_8 (Int.toNat v1015_6) false))) (none))) (none)) (cond (Ops.eq B p0 (11)) (cond (Ops.inb B v1015_6 (List.length p1)) (cond (List.getD p1 (Int.toNat v1015_6) (Ty.dflt ty4)) (cond (Ops.inb B v1015_6 (List.length v1015_8)) (again (.l1011 v1015_5 v1015_6 (List.set v1015_8 (Int.toNat v1015_6) true))) (none)) (cond (Ops.inb B v1015_7 (List.length v1015_8)) (cond (Ops.inb B v1015_6 (List.length v1015_8)) (again (.l1011 v1015_5 v1015_6 (List.set v1015_8 (Int.toNat v1015_6) (List.getD v1015_8 (Int.toNat v1015_7) (Ty.dflt ty4))))) (none)) (none))) (none)) (cond (Ops.eq B p0 (12)) (cond (Ops.inb B v1015_6 (List.length p1)) (cond (List.getD p1 (Int.toNat v1015_6) (Ty.dflt ty4)) (cond (Ops.inb B v1015_7 (List.length v1015_8)) (cond (Ops.inb B v1015_6 (List.length v1015_8)) (again (.l1011 v1015_5 v1015_6 (List.set v1015_8 (Int.toNat v1015_6) (List.getD v1015_8 (Int.toNat v1015_7) (Ty.dflt ty4))))) (none)) (none)) (cond (Ops.inb B v1015_6 (List.length v1015_8)) (again (.l1011 v1015_5 v1015_6 (List.set v1015_8 (Int.toNat v1015_6) false))) (none))) (none)) (again (.l1011 v1015_5 v1015_6 v1015_8))))))))))
def E66 (p0:Int) (p1:L4) (p2:L4) (p3:Int) (p4:Int):S66→List AV×Objs
 | .l0 v0_5 v0_6=>(mk 208 [(0,.c (.int .i64 p0)),(1,.c (.list 4 ty4 p1)),(2,.c (.list 4 ty4 p2)),(3,.c (.int .i64 p3)),(4,.c (.int .i64 p4)),(11,.c (.own 11)),(12,.c (.int .i64 v0_5))],[(11,.row 4 ty4 v0_6)])
 | .l1 v1_5 v1_6=>(mk 208 [(0,.c (.int .i64 p0)),(1,.c (.list 4 ty4 p1)),(2,.c (.list 4 ty4 p2)),(3,.c (.int .i64 p3)),(4,.c (.int .i64 p4)),(11,.c (.own 11)),(13,.c (.int .i64 v1_5))],[(11,.row 4 ty4 v1_6)])
 | .l2 v2_5 v2_6 v2_7=>(mk 208 [(0,.c (.int .i64 p0)),(1,.c (.list 4 ty4 p1)),(2,.c (.list 4 ty4 p2)),(3,.c (.int .i64 p3)),(4,.c (.int .i64 p4)),(11,.c (.own 11)),(13,.c (.int .i64 v2_5)),(14,.c (.int .i64 v2_6))],[(11,.row 4 ty4 v2_7)])
 | .l1004 v1004_5 v1004_6=>(mk 208 [(0,.c (.int .i64 p0)),(1,.c (.list 4 ty4 p1)),(2,.c (.list 4 ty4 p2)),(3,.c (.int .i64 p3)),(4,.c (.int .i64 p4)),(11,.c (.own 11)),(12,.c (.int .i64 v1004_5))],[(11,.row 4 ty4 v1004_6)])
 | .l1008 v1008_5 v1008_6=>(mk 208 [(0,.c (.int .i64 p0)),(1,.c (.list 4 ty4 p1)),(2,.c (.list 4 ty4 p2)),(3,.c (.int .i64 p3)),(4,.c (.int .i64 p4)),(11,.c (.own 11)),(13,.c (.int .i64 v1008_5))],[(11,.row 4 ty4 v1008_6)])
 | .l1011 v1011_5 v1011_6 v1011_7=>(mk 208 [(0,.c (.int .i64 p0)),(1,.c (.list 4 ty4 p1)),(2,.c (.list 4 ty4 p2)),(3,.c (.int .i64 p3)),(4,.c (.int .i64 p4)),(11,.c (.own 11)),(13,.c (.int .i64 v1011_5)),(14,.c (.int .i64 v1011_6))],[(11,.row 4 ty4 v1011_7)])
 | .l1015 v1015_5 v1015_6 v1015_7 v1015_8=>(mk 208 [(0,.c (.int .i64 p0)),(1,.c (.list 4 ty4 p1)),(2,.c (.list 4 ty4 p2)),(3,.c (.int .i64 p3)),(4,.c (.int .i64 p4)),(11,.c (.own 11)),(13,.c (.int .i64 v1015_5)),(14,.c (.int .i64 v1015_6)),(15,.c (.int .i64 v1015_7))],[(11,.row 4 ty4 v1015_8)])
def I66:S66→Nat
 | .l0 _ _=>0
 | .l1 _ _=>1
 | .l2 _ _ _=>2
 | .l1004 _ _=>1004
 | .l1008 _ _=>1008
 | .l1011 _ _ _=>1011
 | .l1015 _ _ _ _=>1015
theorem eq66 {R:Type} (B:Ops) (p0:Int) (p1:L4) (p2:L4) (p3:Int) (p4:Int) (k:AV→Objs→Option R) (n:Nat):afun tau B gl0 X66 (gnil) ow Tryz.f66 [.c (.int .i64 p0),.c (.list 4 ty4 p1),.c (.list 4 ty4 p2),.c (.int .i64 p3),.c (.int .i64 p4)] [] k n=T66 B p0 p1 p2 p3 p4 (fun s=>aloop tau B gl0 X66 (gnil) ow [] Tryz.f66 k (I66 s) (E66 p0 p1 p2 p3 p4 s) n) (fun y=>k (.c (.own 500)) [(500,.row 4 ty4 y)]) none:=by kernel_rfl
theorem el66 {R:Type} (B:Ops) (p0:Int) (p1:L4) (p2:L4) (p3:Int) (p4:Int) (k:AV→Objs→Option R) (n:Nat):∀ s,aloop tau B gl0 X66 (gnil) ow [] Tryz.f66 k (I66 s) (E66 p0 p1 p2 p3 p4 s) (n+1)=T66 B p0 p1 p2 p3 p4 (fun s=>aloop tau B gl0 X66 (gnil) ow [] Tryz.f66 k (I66 s) (E66 p0 p1 p2 p3 p4 s) n) (fun y=>k (.c (.own 500)) [(500,.row 4 ty4 y)]) (some s)
 | .l0 v0_5 v0_6=>by kernel_rfl
 | .l1 v1_5 v1_6=>by kernel_rfl
 | .l2 v2_5 v2_6 v2_7=>by kernel_rfl
 | .l1004 v1004_5 v1004_6=>by kernel_rfl
 | .l1008 v1008_5 v1008_6=>by kernel_rfl
 | .l1011 v1011_5 v1011_6 v1011_7=>by kernel_rfl
 | .l1015 v1015_5 v1015_6 v1015_7 v1015_8=>by kernel_rfl
theorem nt66 {R R':Type} (B:Ops) (p0:Int) (p1:L4) (p2:L4) (p3:Int) (p4:Int) (again:S66→Option R) (again':S66→Option R') (k0:(L4)→Option R') (k:R'→Option R) (h:∀ s,again s=ob (again' s) k):∀ s,T66 B p0 p1 p2 p3 p4 again (fun y=>ob (k0 y) k) s=ob (T66 B p0 p1 p2 p3 p4 again' k0 s) k
 | none=>by unfold T66;repeat' first | exact rfl | exact h _ | apply qac | (apply qah;intro)
 | some (.l0 v0_5 v0_6)=>by unfold T66;repeat' first | exact rfl | exact h _ | apply qac | (apply qah;intro)
 | some (.l1 v1_5 v1_6)=>by unfold T66;repeat' first | exact rfl | exact h _ | apply qac | (apply qah;intro)
 | some (.l2 v2_5 v2_6 v2_7)=>by unfold T66;repeat' first | exact rfl | exact h _ | apply qac | (apply qah;intro)
 | some (.l1004 v1004_5 v1004_6)=>by unfold T66;repeat' first | exact rfl | exact h _ | apply qac | (apply qah;intro)
 | some (.l1008 v1008_5 v1008_6)=>by unfold T66;repeat' first | exact rfl | exact h _ | apply qac | (apply qah;intro)
 | some (.l1011 v1011_5 v1011_6 v1011_7)=>by unfold T66;repeat' first | exact rfl | exact h _ | apply qac | (apply qah;intro)
 | some (.l1015 v1015_5 v1015_6 v1015_7 v1015_8)=>by unfold T66;repeat' first | exact rfl | exact h _ | apply qac | (apply qah;intro)
def R66 (p0:Int) (p1:L4) (p2:L4) (p3:Int) (p4:Int):Nat→S66→Option (L4)
 | 0,_=>none
 | n+1,s=>T66 Ops.std p0 p1 p2 p3 p4 (R66 p0 p1 p2 p3 p4 n) some (some s)
theorem rr66 {R:Type} (p0:Int) (p1:L4) (p2:L4) (p3:Int) (p4:Int) (k:AV→Objs→Option R):∀ (n:Nat) (s:S66),aloop tau Ops.std gl0 X66 (gnil) ow [] Tryz.f66 k (I66 s) (E66 p0 p1 p2 p3 p4 s) n=ob (R66 p0 p1 p2 p3 p4 n s) (fun y=>k (.c (.own 500)) [(500,.row 4 ty4 y)])
 | 0,s=>by cases s<;>rfl
 | n+1,s=>by rw [el66];exact nt66 Ops.std p0 p1 p2 p3 p4 _ _ some (fun y=>k (.c (.own 500)) [(500,.row 4 ty4 y)]) (rr66 p0 p1 p2 p3 p4 k n) (some s)
def F66 (p0:Int) (p1:L4) (p2:L4) (p3:Int) (p4:Int):Option (L4):=T66 Ops.std p0 p1 p2 p3 p4 (R66 p0 p1 p2 p3 p4 1000000) some none
theorem fo66 {R:Type} (p0:Int) (p1:L4) (p2:L4) (p3:Int) (p4:Int) (k:AV→Objs→Option R):afun tau Ops.std gl0 X66 (gnil) ow Tryz.f66 [.c (.int .i64 p0),.c (.list 4 ty4 p1),.c (.list 4 ty4 p2),.c (.int .i64 p3),.c (.int .i64 p4)] [] k 1000000=ob (F66 p0 p1 p2 p3 p4) (fun y=>k (.c (.own 500)) [(500,.row 4 ty4 y)]):=by rw [eq66];exact nt66 Ops.std p0 p1 p2 p3 p4 _ _ some (fun y=>k (.c (.own 500)) [(500,.row 4 ty4 y)]) (rr66 p0 p1 p2 p3 p4 k 1000000) none
def e66 {R:Type} (c:Int→L4→L4→Int→Int→Option (L4)):Ent R:=fun args objs k=>
 oCons args fun a0 l0=>oC a0 fun x0=>cInt .i64 x0 fun p0=>oCons l0 fun a1 l1=>oC a1 fun x1=>cList 4 ty4 x1 fun p1=>oCons l1 fun a2 l2=>oC a2 fun x2=>cList 4 ty4 x2 fun p2=>oCons l2 fun a3 l3=>oC a3 fun x3=>cInt .i64 x3 fun p3=>oCons l3 fun a4 l4=>oC a4 fun x4=>cInt .i64 x4 fun p4=>oNil l4 <| oNilO objs <| ob (c p0 p1 p2 p3 p4) fun y=>k (.c (.own 500)) [(500,.row 4 ty4 y)]
abbrev Sp66 (c:Int→L4→L4→Int→Int→Option (L4)):Prop:=∀ (p0:Int) (p1:L4) (p2:L4) (p3:Int) (p4:Int) (y:L4),c p0 p1 p2 p3 p4=some y→Spec Tryz.prog gl0 66 [.c (.int .i64 p0),.c (.list 4 ty4 p1),.c (.list 4 ty4 p2),.c (.int .i64 p3),.c (.int .i64 p4)] [] (.c (.own 500)) [(500,.row 4 ty4 y)]
theorem ek66 {R:Type} {c:Int→L4→L4→Int→Int→Option (L4)} (hs:Sp66 c):EOk 66 (e66 (R:=R) c):=fun args objs k r h=>by
 unfold e66 at h
 obtain ⟨a0,l0,rfl,q1⟩:=qaa h
 obtain ⟨x0,rfl,q2⟩:=qaj q1
 obtain ⟨p0,rfl,q3⟩:=qal q2
 obtain ⟨a1,l1,rfl,q4⟩:=qaa q3
 obtain ⟨x1,rfl,q5⟩:=qaj q4
 obtain ⟨p1,rfl,q6⟩:=qae q5
 obtain ⟨a2,l2,rfl,q7⟩:=qaa q6
 obtain ⟨x2,rfl,q8⟩:=qaj q7
 obtain ⟨p2,rfl,q9⟩:=qae q8
 obtain ⟨a3,l3,rfl,q10⟩:=qaa q9
 obtain ⟨x3,rfl,q11⟩:=qaj q10
 obtain ⟨p3,rfl,q12⟩:=qal q11
 obtain ⟨a4,l4,rfl,q13⟩:=qaa q12
 obtain ⟨x4,rfl,q14⟩:=qaj q13
 obtain ⟨p4,rfl,q15⟩:=qal q14
 obtain ⟨rfl,q16⟩:=qag q15
 obtain ⟨rfl,q17⟩:=qaf q16
 exact qar (hs p0 p1 p2 p3 p4) q17
theorem sf66:Sp66 (F66):=fun p0 p1 p2 p3 p4 y hy=>by
 refine qap (G:=gnil) (qao) 1000000 (fn:=Tryz.f66) (by kernel_rfl) (by kernel_rfl) (X:=X66) (by kernel_rfl) ?_
 rw [fo66,hy]
 rfl
noncomputable def M66:Int→L4→L4→Int→Int→Option (L4):=F66
theorem sm66:Sp66 M66:=sf66
def e83 {R:Type} (c:Int→L130→Int→Int→Int→L66→Option (L130×Int×Int×Int×L66)):Ent R:=fun args objs k=>
 oCons args fun a0 l0=>oC a0 fun x0=>cPtr 0 x0 <| oCons l0 fun a1 l1=>oC a1 fun x1=>cInt .i64 x1 fun p0=>oNil l1 <| oBox 0 127 objs fun b0 o0=>cCons b0 fun u0_0 v0_0=>cList 130 ty130 u0_0 fun p1=>cCons v0_0 fun u0_1 v0_1=>cInt .i64 u0_1 fun p2=>cCons v0_1 fun u0_2 v0_2=>cOwn 1002 u0_2 <| cCons v0_2 fun u0_3 v0_3=>cInt .i64 u0_3 fun p3=>cCons v0_3 fun u0_4 v0_4=>cInt .i64 u0_4 fun p4=>cNil v0_4 <| oRow 1002 66 ty66 o0 fun p5 o1=>oNilO o1 <| ob (c p0 p1 p2 p3 p4 p5) fun y=>k (.tup []) [(0,.box 127 [.list 130 ty130 y.1,.int .i64 y.2.1,.own 1002,.int .i64 y.2.2.1,.int .i64 y.2.2.2.1]),(1002,.row 66 ty66 y.2.2.2.2)]
abbrev Sp83 (c:Int→L130→Int→Int→Int→L66→Option (L130×Int×Int×Int×L66)):Prop:=∀ (p0:Int) (p1:L130) (p2:Int) (p3:Int) (p4:Int) (p5:L66) (y:L130×Int×Int×Int×L66),c p0 p1 p2 p3 p4 p5=some y→Spec Tryz.prog gl0 83 [.c (.ptr 0 0),.c (.int .i64 p0)] [(0,.box 127 [.list 130 ty130 p1,.int .i64 p2,.own 1002,.int .i64 p3,.int .i64 p4]),(1002,.row 66 ty66 p5)] (.tup []) [(0,.box 127 [.list 130 ty130 y.1,.int .i64 y.2.1,.own 1002,.int .i64 y.2.2.1,.int .i64 y.2.2.2.1]),(1002,.row 66 ty66 y.2.2.2.2)]
theorem ek83 {R:Type} {c:Int→L130→Int→Int→Int→L66→Option (L130×Int×Int×Int×L66)} (hs:Sp83 c):EOk 83 (e83 (R:=R) c):=fun args objs k r h=>by
 unfold e83 at h
 obtain ⟨a0,l0,rfl,q1⟩:=qaa h
 obtain ⟨x0,rfl,q2⟩:=qaj q1
 obtain ⟨rfl,q3⟩:=qa4 q2
 obtain ⟨a1,l1,rfl,q4⟩:=qaa q3
 obtain ⟨x1,rfl,q5⟩:=qaj q4
 obtain ⟨p0,rfl,q6⟩:=qal q5
 obtain ⟨rfl,q7⟩:=qag q6
 obtain ⟨b0,o0,rfl,q8⟩:=qa5 q7
 obtain ⟨u0_0,v0_0,rfl,q9⟩:=qad q8
 obtain ⟨p1,rfl,q10⟩:=qae q9
 obtain ⟨u0_1,v0_1,rfl,q11⟩:=qad q10
 obtain ⟨p2,rfl,q12⟩:=qal q11
 obtain ⟨u0_2,v0_2,rfl,q13⟩:=qad q12
 obtain ⟨rfl,q14⟩:=qbe q13
 obtain ⟨u0_3,v0_3,rfl,q15⟩:=qad q14
 obtain ⟨p3,rfl,q16⟩:=qal q15
 obtain ⟨u0_4,v0_4,rfl,q17⟩:=qad q16
 obtain ⟨p4,rfl,q18⟩:=qal q17
 obtain ⟨rfl,q19⟩:=qat q18
 obtain ⟨p5,o1,rfl,q20⟩:=qbf q19
 obtain ⟨rfl,q21⟩:=qaf q20
 exact qar (hs p0 p1 p2 p3 p4 p5) q21
def e141 {R:Type} (c:L130→Int→Int→Int→L66→Option (L130×Int×Int×Int×L66)):Ent R:=fun args objs k=>
 oCons args fun a0 l0=>oC a0 fun x0=>cPtr 0 x0 <| oNil l0 <| oBox 0 127 objs fun b0 o0=>cCons b0 fun u0_0 v0_0=>cList 130 ty130 u0_0 fun p0=>cCons v0_0 fun u0_1 v0_1=>cInt .i64 u0_1 fun p1=>cCons v0_1 fun u0_2 v0_2=>cOwn 1002 u0_2 <| cCons v0_2 fun u0_3 v0_3=>cInt .i64 u0_3 fun p2=>cCons v0_3 fun u0_4 v0_4=>cInt .i64 u0_4 fun p3=>cNil v0_4 <| oRow 1002 66 ty66 o0 fun p4 o1=>oNilO o1 <| ob (c p0 p1 p2 p3 p4) fun y=>k (.tup []) [(0,.box 127 [.list 130 ty130 y.1,.int .i64 y.2.1,.own 1002,.int .i64 y.2.2.1,.int .i64 y.2.2.2.1]),(1002,.row 66 ty66 y.2.2.2.2)]
abbrev Sp141 (c:L130→Int→Int→Int→L66→Option (L130×Int×Int×Int×L66)):Prop:=∀ (p0:L130) (p1:Int) (p2:Int) (p3:Int) (p4:L66) (y:L130×Int×Int×Int×L66),c p0 p1 p2 p3 p4=some y→Spec Tryz.prog gl0 141 [.c (.ptr 0 0)] [(0,.box 127 [.list 130 ty130 p0,.int .i64 p1,.own 1002,.int .i64 p2,.int .i64 p3]),(1002,.row 66 ty66 p4)] (.tup []) [(0,.box 127 [.list 130 ty130 y.1,.int .i64 y.2.1,.own 1002,.int .i64 y.2.2.1,.int .i64 y.2.2.2.1]),(1002,.row 66 ty66 y.2.2.2.2)]
theorem ek141 {R:Type} {c:L130→Int→Int→Int→L66→Option (L130×Int×Int×Int×L66)} (hs:Sp141 c):EOk 141 (e141 (R:=R) c):=fun args objs k r h=>by
 unfold e141 at h
 obtain ⟨a0,l0,rfl,q1⟩:=qaa h
 obtain ⟨x0,rfl,q2⟩:=qaj q1
 obtain ⟨rfl,q3⟩:=qa4 q2
 obtain ⟨rfl,q4⟩:=qag q3
 obtain ⟨b0,o0,rfl,q5⟩:=qa5 q4
 obtain ⟨u0_0,v0_0,rfl,q6⟩:=qad q5
 obtain ⟨p0,rfl,q7⟩:=qae q6
 obtain ⟨u0_1,v0_1,rfl,q8⟩:=qad q7
 obtain ⟨p1,rfl,q9⟩:=qal q8
 obtain ⟨u0_2,v0_2,rfl,q10⟩:=qad q9
 obtain ⟨rfl,q11⟩:=qbe q10
 obtain ⟨u0_3,v0_3,rfl,q12⟩:=qad q11
 obtain ⟨p2,rfl,q13⟩:=qal q12
 obtain ⟨u0_4,v0_4,rfl,q14⟩:=qad q13
 obtain ⟨p3,rfl,q15⟩:=qal q14
 obtain ⟨rfl,q16⟩:=qat q15
 obtain ⟨p4,o1,rfl,q17⟩:=qbf q16
 obtain ⟨rfl,q18⟩:=qaf q17
 exact qar (hs p0 p1 p2 p3 p4) q18
def X83:Aux:=⟨[(3,(rg 2 52))],[]⟩
inductive S83 where
 | l0 (v0_1:L130) (v0_2:Int) (v0_3:Int) (v0_4:Int) (v0_5:L66)
abbrev C141:Type:=L130→Int→Int→Int→L66→Option (L130×Int×Int×Int×L66)
abbrev C83:Type:=Int→L130→Int→Int→Int→L66→Option (L130×Int×Int×Int×L66)
abbrev C142:Type:=Int→L130→Int→Int→Int→L66→Option (Int×L130×Int×Int×Int×L66)
def T83 {R:Type} (B:Ops) (c141:C141) (c83:C83) (c142:C142) (p0:Int) (p1:L130) (p2:Int) (p3:Int) (p4:Int) (p5:L66) (again:S83→Option R) (k:(L130×Int×Int×Int×L66)→Option R):Option S83→Option R | none=>cond (Ops.lt B (4) p0) (ob (c141 p1 p2 p3 p4 p5) fun y0=>k ((y0.1,y0.2.1,(y0.2.2).1,(y0.2.2.2).1,(y0.2.2.2).2))) (ob (c83 (IntKind.wrap .i64 (p0+1)) p1 p2 p3 p4 p5) fun y0=>again (.l0 y0.1 y0.2.1 ((y0.2.2).1) ((y0.2.2.2).1) ((y0.2.2.2).2))) | some (.l0 v0_1 v0_2 v0_3 v0_4 v0_5)=>cond (Ops.eq B v0_3 (0)) (ob (c142 p0 v0_1 v0_2 v0_3 v0_4 v0_5) fun y0=>cond (Ops.eq B y0.1 (0)) (k ((y0.2.1,(y0.2.2).1,(y0.2.2.2).1,((y0.2.2.2).2).1,((y0.2.2.2).2).2))) (cond (Ops.eq B p0 (1)) (ob (c83 p0 y0.2.1 (IntKind.wrap .i64 ((y0.2.2).1+1)) ((y0.2.2.2).1) (((y0.2.2.2).2).1) (((y0.2.2.2).2).2)) fun y1=>cond (Ops.lim B (List.length ((y1.2.2.2).2)+List.length ((y0.1,mt (Ty.den ty150))::mt (Ty.den ty66))) (32)) (again (.l0 y1.1 y1.2.1 ((y1.2.2).1) ((y1.2.2.2).1) ((y1.2.2.2).2++(y0.1,mt (Ty.den ty150))::mt (Ty.den ty66)))) (none)) (cond (Ops.eq B p0 (4)) (ob (c83 p0 y0.2.1 (IntKind.wrap .i64 ((y0.2.2).1+1)) ((y0.2.2.2).1) (((y0.2.2.2).2).1) (((y0.2.2.2).2).2)) fun y1=>cond (Ops.lim B (List.length ((y1.2.2.2).2)+List.length ((y0.1,mt (Ty.den ty150))::mt (Ty.den ty66))) (32)) (again (.l0 y1.1 y1.2.1 ((y1.2.2).1) ((y1.2.2.2).1) ((y1.2.2.2).2++(y0.1,mt (Ty.den ty150))::mt (Ty.den ty66)))) (none)) (ob (c83 (IntKind.wrap .i64 (p0+1)) y0.2.1 (IntKind.wrap .i64 ((y0.2.2).1+1)) ((y0.2.2.2).1) (((y0.2.2.2).2).1) (((y0.2.2.2).2).2)) fun y1=>cond (Ops.lim B (List.length ((y1.2.2.2).2)+List.length ((y0.1,mt (Ty.den ty150))::mt (Ty.den ty66))) (32)) (again (.l0 y1.1 y1.2.1 ((y1.2.2).1) ((y1.2.2.2).1) ((y1.2.2.2).2++(y0.1,mt (Ty.den ty150))::mt (Ty.den ty66)))) (none))))) (k ((v0_1,v0_2,v0_3,v0_4,v0_5)))
def E83 (p0:Int) (p1:L130) (p2:Int) (p3:Int) (p4:Int) (p5:L66):S83→List AV×Objs
 | .l0 v0_1 v0_2 v0_3 v0_4 v0_5=>(mk 54 [(0,.c (.ptr 0 0)),(1,.c (.int .i64 p0))],[(0,.box 127 [.list 130 ty130 v0_1,.int .i64 v0_2,.own 1002,.int .i64 v0_3,.int .i64 v0_4]),(1002,.row 66 ty66 v0_5)])
def I83:S83→Nat
 | .l0 _ _ _ _ _=>0
theorem eq83 {R:Type} (B:Ops) (c141:C141) (c83:C83) (c142:C142) (p0:Int) (p1:L130) (p2:Int) (p3:Int) (p4:Int) (p5:L66) (k:AV→Objs→Option R) (n:Nat):afun tau B gl0 X83 (ent 141 (e141 c141) (ent 83 (e83 c83) (ent 142 (e142 c142) (gnil)))) ow Tryz.f83 [.c (.ptr 0 0),.c (.int .i64 p0)] [(0,.box 127 [.list 130 ty130 p1,.int .i64 p2,.own 1002,.int .i64 p3,.int .i64 p4]),(1002,.row 66 ty66 p5)] k n=T83 B c141 c83 c142 p0 p1 p2 p3 p4 p5 (fun s=>aloop tau B gl0 X83 (ent 141 (e141 c141) (ent 83 (e83 c83) (ent 142 (e142 c142) (gnil)))) ow [0] Tryz.f83 k (I83 s) (E83 p0 p1 p2 p3 p4 p5 s) n) (fun y=>k (.tup []) [(0,.box 127 [.list 130 ty130 y.1,.int .i64 y.2.1,.own 1002,.int .i64 y.2.2.1,.int .i64 y.2.2.2.1]),(1002,.row 66 ty66 y.2.2.2.2)]) none:=by kernel_rfl
theorem el83 {R:Type} (B:Ops) (c141:C141) (c83:C83) (c142:C142) (p0:Int) (p1:L130) (p2:Int) (p3:Int) (p4:Int) (p5:L66) (k:AV→Objs→Option R) (n:Nat):∀ s,aloop tau B gl0 X83 (ent 141 (e141 c141) (ent 83 (e83 c83) (ent 142 (e142 c142) (gnil)))) ow [0] Tryz.f83 k (I83 s) (E83 p0 p1 p2 p3 p4 p5 s) (n+1)=T83 B c141 c83 c142 p0 p1 p2 p3 p4 p5 (fun s=>aloop tau B gl0 X83 (ent 141 (e141 c141) (ent 83 (e83 c83) (ent 142 (e142 c142) (gnil)))) ow [0] Tryz.f83 k (I83 s) (E83 p0 p1 p2 p3 p4 p5 s) n) (fun y=>k (.tup []) [(0,.box 127 [.list 130 ty130 y.1,.int .i64 y.2.1,.own 1002,.int .i64 y.2.2.1,.int .i64 y.2.2.2.1]),(1002,.row 66 ty66 y.2.2.2.2)]) (some s)
 | .l0 v0_1 v0_2 v0_3 v0_4 v0_5=>by kernel_rfl
theorem nt83 {R R':Type} (B:Ops) (c141:C141) (c83:C83) (c142:C142) (p0:Int) (p1:L130) (p2:Int) (p3:Int) (p4:Int) (p5:L66) (again:S83→Option R) (again':S83→Option R') (k0:(L130×Int×Int×Int×L66)→Option R') (k:R'→Option R) (h:∀ s,again s=ob (again' s) k):∀ s,T83 B c141 c83 c142 p0 p1 p2 p3 p4 p5 again (fun y=>ob (k0 y) k) s=ob (T83 B c141 c83 c142 p0 p1 p2 p3 p4 p5 again' k0 s) k
 | none=>by unfold T83;repeat' first | exact rfl | exact h _ | apply qac | (apply qah;intro)
 | some (.l0 v0_1 v0_2 v0_3 v0_4 v0_5)=>by unfold T83;repeat' first | exact rfl | exact h _ | apply qac | (apply qah;intro)
def R83 (c141:C141) (c83:C83) (c142:C142) (p0:Int) (p1:L130) (p2:Int) (p3:Int) (p4:Int) (p5:L66):Nat→S83→Option (L130×Int×Int×Int×L66)
 | 0,_=>none
 | n+1,s=>T83 Ops.std c141 c83 c142 p0 p1 p2 p3 p4 p5 (R83 c141 c83 c142 p0 p1 p2 p3 p4 p5 n) some (some s)
theorem rr83 {R:Type} (c141:C141) (c83:C83) (c142:C142) (p0:Int) (p1:L130) (p2:Int) (p3:Int) (p4:Int) (p5:L66) (k:AV→Objs→Option R):∀ (n:Nat) (s:S83),aloop tau Ops.std gl0 X83 (ent 141 (e141 c141) (ent 83 (e83 c83) (ent 142 (e142 c142) (gnil)))) ow [0] Tryz.f83 k (I83 s) (E83 p0 p1 p2 p3 p4 p5 s) n=ob (R83 c141 c83 c142 p0 p1 p2 p3 p4 p5 n s) (fun y=>k (.tup []) [(0,.box 127 [.list 130 ty130 y.1,.int .i64 y.2.1,.own 1002,.int .i64 y.2.2.1,.int .i64 y.2.2.2.1]),(1002,.row 66 ty66 y.2.2.2.2)])
 | 0,s=>by cases s<;>rfl
 | n+1,s=>by rw [el83];exact nt83 Ops.std c141 c83 c142 p0 p1 p2 p3 p4 p5 _ _ some (fun y=>k (.tup []) [(0,.box 127 [.list 130 ty130 y.1,.int .i64 y.2.1,.own 1002,.int .i64 y.2.2.1,.int .i64 y.2.2.2.1]),(1002,.row 66 ty66 y.2.2.2.2)]) (rr83 c141 c83 c142 p0 p1 p2 p3 p4 p5 k n) (some s)
def F83 (c141:C141) (c83:C83) (c142:C142) (p0:Int) (p1:L130) (p2:Int) (p3:Int) (p4:Int) (p5:L66):Option (L130×Int×Int×Int×L66):=T83 Ops.std c141 c83 c142 p0 p1 p2 p3 p4 p5 (R83 c141 c83 c142 p0 p1 p2 p3 p4 p5 1000000) some none
theorem fo83 {R:Type} (c141:C141) (c83:C83) (c142:C142) (p0:Int) (p1:L130) (p2:Int) (p3:Int) (p4:Int) (p5:L66) (k:AV→Objs→Option R):afun tau Ops.std gl0 X83 (ent 141 (e141 c141) (ent 83 (e83 c83) (ent 142 (e142 c142) (gnil)))) ow Tryz.f83 [.c (.ptr 0 0),.c (.int .i64 p0)] [(0,.box 127 [.list 130 ty130 p1,.int .i64 p2,.own 1002,.int .i64 p3,.int .i64 p4]),(1002,.row 66 ty66 p5)] k 1000000=ob (F83 c141 c83 c142 p0 p1 p2 p3 p4 p5) (fun y=>k (.tup []) [(0,.box 127 [.list 130 ty130 y.1,.int .i64 y.2.1,.own 1002,.int .i64 y.2.2.1,.int .i64 y.2.2.2.1]),(1002,.row 66 ty66 y.2.2.2.2)]):=by rw [eq83];exact nt83 Ops.std c141 c83 c142 p0 p1 p2 p3 p4 p5 _ _ some (fun y=>k (.tup []) [(0,.box 127 [.list 130 ty130 y.1,.int .i64 y.2.1,.own 1002,.int .i64 y.2.2.1,.int .i64 y.2.2.2.1]),(1002,.row 66 ty66 y.2.2.2.2)]) (rr83 c141 c83 c142 p0 p1 p2 p3 p4 p5 k 1000000) none
theorem sf83 {c141:C141} {c83:C83} {c142:C142} (h141:Sp141 c141) (h83:Sp83 c83) (h142:Sp142 c142):Sp83 (F83 c141 c83 c142):=fun p0 p1 p2 p3 p4 p5 y hy=>by
 refine qap (G:=ent 141 (e141 c141) (ent 83 (e83 c83) (ent 142 (e142 c142) (gnil)))) (qai (ek141 h141) (qai (ek83 h83) (qai (ek142 h142) (qao)))) 1000000 (fn:=Tryz.f83) (by kernel_rfl) (by kernel_rfl) (X:=X83) (by kernel_rfl) ?_
 rw [fo83,hy]
 rfl
def X141:Aux:=⟨[(1000011,([1]++rg 4 194)),(1000021,(rg 1 197)),(1000024,(rg 1 197)),(1000028,([1,2,3]++rg 5 193))],[(1,.lin (rg 0 12)),(28,.lin (rg 0 17))]⟩
inductive S141 where
 | l1011 (v1011_0:Int) (v1011_1:L130) (v1011_2:Int) (v1011_3:Int) (v1011_4:Int) (v1011_5:Int) (v1011_6:LB) (v1011_7:Int) (v1011_8:Int) (v1011_9:L66)
 | l1021 (v1021_0:L130) (v1021_1:Int) (v1021_2:Int) (v1021_3:Int) (v1021_4:L66)
 | l1024 (v1024_0:L130) (v1024_1:Int) (v1024_2:Int) (v1024_3:Int) (v1024_4:L66)
 | l1028 (v1028_0:Int) (v1028_1:L130) (v1028_2:Int) (v1028_3:Int) (v1028_4:Int) (v1028_5:L66)
abbrev C176:Type:=LB→L130→Int→Int→Int→L66→Option (L130×Int×Int×Int×L66)
def T141 {R:Type} (B:Ops) (c175:C175) (c141:C141) (c83:C83) (c176:C176) (c177:C177) (c84:C84) (p0:L130) (p1:Int) (p2:Int) (p3:Int) (p4:L66) (again:S141→Option R) (k:(L130×Int×Int×Int×L66)→Option R):Option S141→Option R | none=>cond (!Ops.eq B p2 (0)) (k ((p0,p1,p2,p3,p4))) (cond (Ops.inb B p1 (List.length p0)) (ob (c175 ([33]:LB) p0 p1 p2 p3 p4) fun y0=>cond y0.1 (again (.l1011 4 y0.2.1 ((y0.2.2).1) ((y0.2.2.2).1) (((y0.2.2.2).2).1) ((List.getD p0 (Int.toNat p1) (Ty.dflt ty130)).1) (((List.getD p0 (Int.toNat p1) (Ty.dflt ty130)).2).1) ((((List.getD p0 (Int.toNat p1) (Ty.dflt ty130)).2).2).1) ((((List.getD p0 (Int.toNat p1) (Ty.dflt ty130)).2).2).2) (((y0.2.2.2).2).2))) (cond (Ops.eq B ((List.getD p0 (Int.toNat p1) (Ty.dflt ty130)).1) (3)) (cond (((List.getD p0 (Int.toNat p1) (Ty.dflt ty130)).2).1 == ([88]:LB)) (again (.l1011 8 y0.2.1 ((y0.2.2).1) ((y0.2.2.2).1) (((y0.2.2.2).2).1) ((List.getD p0 (Int.toNat p1) (Ty.dflt ty130)).1) (((List.getD p0 (Int.toNat p1) (Ty.dflt ty130)).2).1) ((((List.getD p0 (Int.toNat p1) (Ty.dflt ty130)).2).2).1) ((((List.getD p0 (Int.toNat p1) (Ty.dflt ty130)).2).2).2) (((y0.2.2.2).2).2))) (cond (Ops.eq B ((List.getD p0 (Int.toNat p1) (Ty.dflt ty130)).1) (3)) (cond (((List.getD p0 (Int.toNat p1) (Ty.dflt ty130)).2).1 == ([70]:LB)) (again (.l1011 11 y0.2.1 ((y0.2.2).1) ((y0.2.2.2).1) (((y0.2.2.2).2).1) ((List.getD p0 (Int.toNat p1) (Ty.dflt ty130)).1) (((List.getD p0 (Int.toNat p1) (Ty.dflt ty130)).2).1) ((((List.getD p0 (Int.toNat p1) (Ty.dflt ty130)).2).2).1) ((((List.getD p0 (Int.toNat p1) (Ty.dflt ty130)).2).2).2) (((y0.2.2.2).2).2))) (cond (Ops.eq B ((List.getD p0 (Int.toNat p1) (Ty.dflt ty130)).1) (3)) (cond (((List.getD p0 (Int.toNat p1) (Ty.dflt ty130)).2).1 == ([71]:LB)) (again (.l1011 12 y0.2.1 ((y0.2.2).1) ((y0.2.2.2).1) (((y0.2.2.2).2).1) ((List.getD p0 (Int.toNat p1) (Ty.dflt ty130)).1) (((List.getD p0 (Int.toNat p1) (Ty.dflt ty130)).2).1) ((((List.getD p0 (Int.toNat p1) (Ty.dflt ty130)).2).2).1) ((((List.getD p0 (Int.toNat p1) (Ty.dflt ty130)).2).2).2) (((y0.2.2.2).2).2))) (again (.l1011 0 y0.2.1 ((y0.2.2).1) ((y0.2.2.2).1) (((y0.2.2.2).2).1) ((List.getD p0 (Int.toNat p1) (Ty.dflt ty130)).1) (((List.getD p0 (Int.toNat p1) (Ty.dflt ty130)).2).1) ((((List.getD p0 (Int.toNat p1) (Ty.dflt ty130)).2).2).1) ((((List.getD p0 (Int.toNat p1) (Ty.dflt ty130)).2).2).2) (((y0.2.2.2).2).2)))) (again (.l1011 0 y0.2.1 ((y0.2.2).1) ((y0.2.2.2).1) (((y0.2.2.2).2).1) ((List.getD p0 (Int.toNat p1) (Ty.dflt ty130)).1) (((List.getD p0 (Int.toNat p1) (Ty.dflt ty130)).2).1) ((((List.getD p0 (Int.toNat p1) (Ty.dflt ty130)).2).2).1) ((((List.getD p0 (Int.toNat p1) (Ty.dflt ty130)).2).2).2) (((y0.2.2.2).2).2))))) (cond (Ops.eq B ((List.getD p0 (Int.toNat p1) (Ty.dflt ty130)).1) (3)) (cond (((List.getD p0 (Int.toNat p1) (Ty.dflt ty130)).2).1 == ([71]:LB)) (again (.l1011 12 y0.2.1 ((y0.2.2).1) ((y0.2.2.2).1) (((y0.2.2.2).2).1) ((List.getD p0 (Int.toNat p1) (Ty.dflt ty130)).1) (((List.getD p0 (Int.toNat p1) (Ty.dflt ty130)).2).1) ((((List.getD p0 (Int.toNat p1) (Ty.dflt ty130)).2).2).1) ((((List.getD p0 (Int.toNat p1) (Ty.dflt ty130)).2).2).2) (((y0.2.2.2).2).2))) (again (.l1011 0 y0.2.1 ((y0.2.2).1) ((y0.2.2.2).1) (((y0.2.2.2).2).1) ((List.getD p0 (Int.toNat p1) (Ty.dflt ty130)).1) (((List.getD p0 (Int.toNat p1) (Ty.dflt ty130)).2).1) ((((List.getD p0 (Int.toNat p1) (Ty.dflt ty130)).2).2).1) ((((List.getD p0 (Int.toNat p1) (Ty.dflt ty130)).2).2).2) (((y0.2.2.2).2).2)))) (again (.l1011 0 y0.2.1 ((y0.2.2).1) ((y0.2.2.2).1) (((y0.2.2.2).2).1) ((List.getD p0 (Int.toNat p1) (Ty.dflt ty130)).1) (((List.getD p0 (Int.toNat p1) (Ty.dflt ty130)).2).1) ((((List.getD p0 (Int.toNat p1) (Ty.dflt ty130)).2).2).1) ((((List.getD p0 (Int.toNat p1) (Ty.dflt ty130)).2).2).2) (((y0.2.2.2).2).2)))))) (cond (Ops.eq B ((List.getD p0 (Int.toNat p1) (Ty.dflt ty130)).1) (3)) (cond (((List.getD p0 (Int.toNat p1) (Ty.dflt ty130)).2).1 == ([70]:LB)) (again (.l1011 11 y0.2.1 ((y0.2.2).1) ((y0.2.2.2).1) (((y0.2.2.2).2).1) ((List.getD p0 (Int.toNat p1) (Ty.dflt ty130)).1) (((List.getD p0 (Int.toNat p1) (Ty.dflt ty130)).2).1) ((((List.getD p0 (Int.toNat p1) (Ty.dflt ty130)).2).2).1) ((((List.getD p0 (Int.toNat p1) (Ty.dflt ty130)).2).2).2) (((y0.2.2.2).2).2))) (cond (Ops.eq B ((List.getD p0 (Int.toNat p1) (Ty.dflt ty130)).1) (3)) (cond (((List.getD p0 (Int.toNat p1) (Ty.dflt ty130)).2).1 == ([71]:LB)) (again (.l1011 12 y0.2.1 ((y0.2.2).1) ((y0.2.2.2).1) (((y0.2.2.2).2).1) ((List.getD p0 (Int.toNat p1) (Ty.dflt ty130)).1) (((List.getD p0 (Int.toNat p1) (Ty.dflt ty130)).2).1) ((((List.getD p0 (Int.toNat p1) (Ty.dflt ty130)).2).2).1) ((((List.getD p0 (Int.toNat p1) (Ty.dflt ty130)).2).2).2) (((y0.2.2.2).2).2))) (again (.l1011 0 y0.2.1 ((y0.2.2).1) ((y0.2.2.2).1) (((y0.2.2.2).2).1) ((List.getD p0 (Int.toNat p1) (Ty.dflt ty130)).1) (((List.getD p0 (Int.toNat p1) (Ty.dflt ty130)).2).1) ((((List.getD p0 (Int.toNat p1) (Ty.dflt ty130)).2).2).1) ((((List.getD p0 (Int.toNat p1) (Ty.dflt ty130)).2).2).2) (((y0.2.2.2).2).2)))) (again (.l1011 0 y0.2.1 ((y0.2.2).1) ((y0.2.2.2).1) (((y0.2.2.2).2).1) ((List.getD p0 (Int.toNat p1) (Ty.dflt ty130)).1) (((List.getD p0 (Int.toNat p1) (Ty.dflt ty130)).2).1) ((((List.getD p0 (Int.toNat p1) (Ty.dflt ty130)).2).2).1) ((((List.getD p0 (Int.toNat p1) (Ty.dflt ty130)).2).2).2) (((y0.2.2.2).2).2))))) (cond (Ops.eq B ((List.getD p0 (Int.toNat p1) (Ty.dflt ty130)).1) (3)) (cond (((List.getD p0 (Int.toNat p1) (Ty.dflt ty130)).2).1 == ([71]:LB)) (again (.l1011 12 y0.2.1 ((y0.2.2).1) ((y0.2.2.2).1) (((y0.2.2.2).2).1) ((List.getD p0 (Int.toNat p1) (Ty.dflt ty130)).1) (((List.getD p0 (Int.toNat p1) (Ty.dflt ty130)).2).1) ((((List.getD p0 (Int.toNat p1) (Ty.dflt ty130)).2).2).1) ((((List.getD p0 (Int.toNat p1) (Ty.dflt ty130)).2).2).2) (((y0.2.2.2).2).2))) (again (.l1011 0 y0.2.1 ((y0.2.2).1) ((y0.2.2.2).1) (((y0.2.2.2).2).1) ((List.getD p0 (Int.toNat p1) (Ty.dflt ty130)).1) (((List.getD p0 (Int.toNat p1) (Ty.dflt ty130)).2).1) ((((List.getD p0 (Int.toNat p1) (Ty.dflt ty130)).2).2).1) ((((List.getD p0 (Int.toNat p1) (Ty.dflt ty130)).2).2).2) (((y0.2.2.2).2).2)))) (again (.l1011 0 y0.2.1 ((y0.2.2).1) ((y0.2.2.2).1) (((y0.2.2.2).2).1) ((List.getD p0 (Int.toNat p1) (Ty.dflt ty130)).1) (((List.getD p0 (Int.toNat p1) (Ty.dflt ty130)).2).1) ((((List.getD p0 (Int.toNat p1) (Ty.dflt ty130)).2).2).1) ((((List.getD p0 (Int.toNat p1) (Ty.dflt ty130)).2).2).2) (((y0.2.2.2).2).2))))))) (none)) | some (.l1011 v1011_0 v1011_1 v1011_2 v1011_3 v1011_4 v1011_5 v1011_6 v1011_7 v1011_8 v1011_9)=>cond (!Ops.eq B v1011_0 (0)) (ob (c141 v1011_1 (IntKind.wrap .i64 (v1011_2+1)) v1011_3 v1011_4 v1011_9) fun y0=>cond (Ops.lim B (List.length ((y0.2.2.2).2)+List.length ((v1011_0,mt (Ty.den ty150))::mt (Ty.den ty66))) (32)) (k ((y0.1,y0.2.1,(y0.2.2).1,(y0.2.2.2).1,(y0.2.2.2).2++(v1011_0,mt (Ty.den ty150))::mt (Ty.den ty66)))) (none)) (cond (Ops.eq B v1011_5 (2)) (cond (v1011_6 == ([116,114,117,101]:LB)) (cond (Ops.lim B (List.length v1011_9+List.length ((1,mt (Ty.den ty150))::mt (Ty.den ty66))) (32)) (k ((v1011_1,IntKind.wrap .i64 (v1011_2+1),v1011_3,v1011_4,v1011_9++(1,mt (Ty.den ty150))::mt (Ty.den ty66)))) (none)) (cond (Ops.eq B v1011_5 (2)) (cond (v1011_6 == ([102,97,108,115,101]:LB)) (again (.l1021 v1011_1 (IntKind.wrap .i64 (v1011_2+1)) v1011_3 v1011_4 v1011_9)) (ob (c175 ([40]:LB) v1011_1 v1011_2 v1011_3 v1011_4 v1011_9) fun y0=>cond y0.1 (again (.l1024 y0.2.1 (IntKind.wrap .i64 ((y0.2.2).1+1)) ((y0.2.2.2).1) (((y0.2.2.2).2).1) (((y0.2.2.2).2).2))) (ob (c175 ([91]:LB) y0.2.1 ((y0.2.2).1) ((y0.2.2.2).1) (((y0.2.2.2).2).1) (((y0.2.2.2).2).2)) fun y1=>cond y1.1 (again (.l1028 ((y1.2.2).1) y1.2.1 ((y1.2.2).1) ((y1.2.2.2).1) (((y1.2.2.2).2).1) (((y1.2.2.2).2).2))) (ob (c84 (2) ((y1.2.2).1) y1.2.1 ((y1.2.2).1) ((y1.2.2.2).1) (((y1.2.2.2).2).1) (((y1.2.2.2).2).2)) fun y2=>k ((y2.1,y2.2.1,(y2.2.2).1,(y2.2.2.2).1,(y2.2.2.2).2)))))) (ob (c175 ([40]:LB) v1011_1 v1011_2 v1011_3 v1011_4 v1011_9) fun y0=>cond y0.1 (again (.l1024 y0.2.1 (IntKind.wrap .i64 ((y0.2.2).1+1)) ((y0.2.2.2).1) (((y0.2.2.2).2).1) (((y0.2.2.2).2).2))) (ob (c175 ([91]:LB) y0.2.1 ((y0.2.2).1) ((y0.2.2.2).1) (((y0.2.2.2).2).1) (((y0.2.2.2).2).2)) fun y1=>cond y1.1 (again (.l1028 ((y1.2.2).1) y1.2.1 ((y1.2.2).1) ((y1.2.2.2).1) (((y1.2.2.2).2).1) (((y1.2.2.2).2).2))) (ob (c84 (2) ((y1.2.2).1) y1.2.1 ((y1.2.2).1) ((y1.2.2.2).1) (((y1.2.2.2).2).1) (((y1.2.2.2).2).2)) fun y2=>k ((y2.1,y2.2.1,(y2.2.2).1,(y2.2.2.2).1,(y2.2.2.2).2))))))) (cond (Ops.eq B v1011_5 (2)) (cond (v1011_6 == ([102,97,108,115,101]:LB)) (again (.l1021 v1011_1 (IntKind.wrap .i64 (v1011_2+1)) v1011_3 v1011_4 v1011_9)) (ob (c175 ([40]:LB) v1011_1 v1011_2 v1011_3 v1011_4 v1011_9) fun y0=>cond y0.1 (again (.l1024 y0.2.1 (IntKind.wrap .i64 ((y0.2.2).1+1)) ((y0.2.2.2).1) (((y0.2.2.2).2).1) (((y0.2.2.2).2).2))) (ob (c175 ([91]:LB) y0.2.1 ((y0.2.2).1) ((y0.2.2.2).1) (((y0.2.2.2).2).1) (((y0.2.2.2).2).2)) fun y1=>cond y1.1 (again (.l1028 ((y1.2.2).1) y1.2.1 ((y1.2.2).1) ((y1.2.2.2).1) (((y1.2.2.2).2).1) (((y1.2.2.2).2).2))) (ob (c84 (2) ((y1.2.2).1) y1.2.1 ((y1.2.2).1) ((y1.2.2.2).1) (((y1.2.2.2).2).1) (((y1.2.2.2).2).2)) fun y2=>k ((y2.1,y2.2.1,(y2.2.2).1,(y2.2.2.2).1,(y2.2.2.2).2)))))) (ob (c175 ([40]:LB) v1011_1 v1011_2 v1011_3 v1011_4 v1011_9) fun y0=>cond y0.1 (again (.l1024 y0.2.1 (IntKind.wrap .i64 ((y0.2.2).1+1)) ((y0.2.2.2).1) (((y0.2.2.2).2).1) (((y0.2.2.2).2).2))) (ob (c175 ([91]:LB) y0.2.1 ((y0.2.2).1) ((y0.2.2.2).1) (((y0.2.2.2).2).1) (((y0.2.2.2).2).2)) fun y1=>cond y1.1 (again (.l1028 ((y1.2.2).1) y1.2.1 ((y1.2.2).1) ((y1.2.2.2).1) (((y1.2.2.2).2).1) (((y1.2.2.2).2).2))) (ob (c84 (2) ((y1.2.2).1) y1.2.1 ((y1.2.2).1) ((y1.2.2.2).1) (((y1.2.2.2).2).1) (((y1.2.2.2).2).2)) fun y2=>k ((y2.1,y2.2.1,(y2.2.2).1,(y2.2.2.2).1,(y2.2.2.2).2))))))) | some (.l1021 v1021_0 v1021_1 v1021_2 v1021_3 v1021_4)=>cond (Ops.lim B (List.length v1021_4+List.length ((2,mt (Ty.den ty150))::mt (Ty.den ty66))) (32)) (k ((v1021_0,v1021_1,v1021_2,v1021_3,v1021_4++(2,mt (Ty.den ty150))::mt (Ty.den ty66)))) (none) | some (.l1024 v1024_0 v1024_1 v1024_2 v1024_3 v1024_4)=>ob (c83 (1) v1024_0 v1024_1 v1024_2 v1024_3 v1024_4) fun y0=>ob (c176 ([41]:LB) y0.1 y0.2.1 ((y0.2.2).1) ((y0.2.2.2).1) ((y0.2.2.2).2)) fun y1=>k ((y1.1,y1.2.1,(y1.2.2).1,(y1.2.2.2).1,(y1.2.2.2).2)) | some (.l1028 v1028_0 v1028_1 v1028_2 v1028_3 v1028_4 v1028_5)=>ob (c177 v1028_1 (IntKind.wrap .i64 (v1028_2+1))) fun y0=>cond (Ops.eq B y0.2.1 (13)) (ob (c84 y0.2.1 v1028_0 v1028_1 v1028_2 v1028_3 v1028_4 v1028_5) fun y1=>k ((y1.1,y1.2.1,(y1.2.2).1,(y1.2.2.2).1,(y1.2.2.2).2))) (cond (Ops.eq B y0.2.1 (2)) (ob (c84 y0.2.1 y0.1 v1028_1 v1028_2 v1028_3 v1028_4 v1028_5) fun y1=>k ((y1.1,y1.2.1,(y1.2.2).1,(y1.2.2.2).1,(y1.2.2.2).2))) (cond (Ops.lim B (List.length v1028_5+List.length ((3,y0.2.2)::mt (Ty.den ty66))) (32)) (ob (c176 ([93]:LB) v1028_1 y0.1 v1028_3 v1028_4 (v1028_5++(3,y0.2.2)::mt (Ty.den ty66))) fun y1=>k ((y1.1,y1.2.1,(y1.2.2).1,(y1.2.2.2).1,(y1.2.2.2).2))) (none)))
def E141 (p0:L130) (p1:Int) (p2:Int) (p3:Int) (p4:L66):S141→List AV×Objs
 | .l1011 v1011_0 v1011_1 v1011_2 v1011_3 v1011_4 v1011_5 v1011_6 v1011_7 v1011_8 v1011_9=>(mk 198 [(0,.c (.ptr 0 0)),(2,.c (.ptr 2 0)),(3,.c (.int .i64 v1011_0))],[(0,.box 127 [.list 130 ty130 v1011_1,.int .i64 v1011_2,.own 1002,.int .i64 v1011_3,.int .i64 v1011_4]),(2,.box 130 [.int .i64 v1011_5,.str v1011_6,.int .i64 v1011_7,.int .i64 v1011_8]),(1002,.row 66 ty66 v1011_9)])
 | .l1021 v1021_0 v1021_1 v1021_2 v1021_3 v1021_4=>(mk 198 [(0,.c (.ptr 0 0))],[(0,.box 127 [.list 130 ty130 v1021_0,.int .i64 v1021_1,.own 1002,.int .i64 v1021_2,.int .i64 v1021_3]),(1002,.row 66 ty66 v1021_4)])
 | .l1024 v1024_0 v1024_1 v1024_2 v1024_3 v1024_4=>(mk 198 [(0,.c (.ptr 0 0))],[(0,.box 127 [.list 130 ty130 v1024_0,.int .i64 v1024_1,.own 1002,.int .i64 v1024_2,.int .i64 v1024_3]),(1002,.row 66 ty66 v1024_4)])
 | .l1028 v1028_0 v1028_1 v1028_2 v1028_3 v1028_4 v1028_5=>(mk 198 [(0,.c (.ptr 0 0)),(4,.c (.int .i64 v1028_0))],[(0,.box 127 [.list 130 ty130 v1028_1,.int .i64 v1028_2,.own 1002,.int .i64 v1028_3,.int .i64 v1028_4]),(1002,.row 66 ty66 v1028_5)])
def I141:S141→Nat
 | .l1011 _ _ _ _ _ _ _ _ _ _=>1011
 | .l1021 _ _ _ _ _=>1021
 | .l1024 _ _ _ _ _=>1024
 | .l1028 _ _ _ _ _ _=>1028
theorem eq141 {R:Type} (B:Ops) (c175:C175) (c141:C141) (c83:C83) (c176:C176) (c177:C177) (c84:C84) (p0:L130) (p1:Int) (p2:Int) (p3:Int) (p4:L66) (k:AV→Objs→Option R) (n:Nat):afun tau B gl0 X141 (ent 175 (e175 c175) (ent 141 (e141 c141) (ent 83 (e83 c83) (ent 176 (e176 c176) (ent 177 (e177 c177) (ent 84 (e84 c84) (gnil))))))) ow Tryz.f141 [.c (.ptr 0 0)] [(0,.box 127 [.list 130 ty130 p0,.int .i64 p1,.own 1002,.int .i64 p2,.int .i64 p3]),(1002,.row 66 ty66 p4)] k n=T141 B c175 c141 c83 c176 c177 c84 p0 p1 p2 p3 p4 (fun s=>aloop tau B gl0 X141 (ent 175 (e175 c175) (ent 141 (e141 c141) (ent 83 (e83 c83) (ent 176 (e176 c176) (ent 177 (e177 c177) (ent 84 (e84 c84) (gnil))))))) ow [0] Tryz.f141 k (I141 s) (E141 p0 p1 p2 p3 p4 s) n) (fun y=>k (.tup []) [(0,.box 127 [.list 130 ty130 y.1,.int .i64 y.2.1,.own 1002,.int .i64 y.2.2.1,.int .i64 y.2.2.2.1]),(1002,.row 66 ty66 y.2.2.2.2)]) none:=by kernel_rfl
theorem el141 {R:Type} (B:Ops) (c175:C175) (c141:C141) (c83:C83) (c176:C176) (c177:C177) (c84:C84) (p0:L130) (p1:Int) (p2:Int) (p3:Int) (p4:L66) (k:AV→Objs→Option R) (n:Nat):∀ s,aloop tau B gl0 X141 (ent 175 (e175 c175) (ent 141 (e141 c141) (ent 83 (e83 c83) (ent 176 (e176 c176) (ent 177 (e177 c177) (ent 84 (e84 c84) (gnil))))))) ow [0] Tryz.f141 k (I141 s) (E141 p0 p1 p2 p3 p4 s) (n+1)=T141 B c175 c141 c83 c176 c177 c84 p0 p1 p2 p3 p4 (fun s=>aloop tau B gl0 X141 (ent 175 (e175 c175) (ent 141 (e141 c141) (ent 83 (e83 c83) (ent 176 (e176 c176) (ent 177 (e177 c177) (ent 84 (e84 c84) (gnil))))))) ow [0] Tryz.f141 k (I141 s) (E141 p0 p1 p2 p3 p4 s) n) (fun y=>k (.tup []) [(0,.box 127 [.list 130 ty130 y.1,.int .i64 y.2.1,.own 1002,.int .i64 y.2.2.1,.int .i64 y.2.2.2.1]),(1002,.row 66 ty66 y.2.2.2.2)]) (some s)
 | .l1011 v1011_0 v1011_1 v1011_2 v1011_3 v1011_4 v1011_5 v1011_6 v1011_7 v1011_8 v1011_9=>by kernel_rfl
 | .l1021 v1021_0 v1021_1 v1021_2 v1021_3 v1021_4=>by kernel_rfl
 | .l1024 v1024_0 v1024_1 v1024_2 v1024_3 v1024_4=>by kernel_rfl
 | .l1028 v1028_0 v1028_1 v1028_2 v1028_3 v1028_4 v1028_5=>by kernel_rfl
theorem nt141 {R R':Type} (B:Ops) (c175:C175) (c141:C141) (c83:C83) (c176:C176) (c177:C177) (c84:C84) (p0:L130) (p1:Int) (p2:Int) (p3:Int) (p4:L66) (again:S141→Option R) (again':S141→Option R') (k0:(L130×Int×Int×Int×L66)→Option R') (k:R'→Option R) (h:∀ s,again s=ob (again' s) k):∀ s,T141 B c175 c141 c83 c176 c177 c84 p0 p1 p2 p3 p4 again (fun y=>ob (k0 y) k) s=ob (T141 B c175 c141 c83 c176 c177 c84 p0 p1 p2 p3 p4 again' k0 s) k
 | none=>by unfold T141;repeat' first | exact rfl | exact h _ | apply qac | (apply qah;intro)
 | some (.l1011 v1011_0 v1011_1 v1011_2 v1011_3 v1011_4 v1011_5 v1011_6 v1011_7 v1011_8 v1011_9)=>by unfold T141;repeat' first | exact rfl | exact h _ | apply qac | (apply qah;intro)
 | some (.l1021 v1021_0 v1021_1 v1021_2 v1021_3 v1021_4)=>by unfold T141;repeat' first | exact rfl | exact h _ | apply qac | (apply qah;intro)
 | some (.l1024 v1024_0 v1024_1 v1024_2 v1024_3 v1024_4)=>by unfold T141;repeat' first | exact rfl | exact h _ | apply qac | (apply qah;intro)
 | some (.l1028 v1028_0 v1028_1 v1028_2 v1028_3 v1028_4 v1028_5)=>by unfold T141;repeat' first | exact rfl | exact h _ | apply qac | (apply qah;intro)
def R141 (c175:C175) (c141:C141) (c83:C83) (c176:C176) (c177:C177) (c84:C84) (p0:L130) (p1:Int) (p2:Int) (p3:Int) (p4:L66):Nat→S141→Option (L130×Int×Int×Int×L66)
 | 0,_=>none
 | n+1,s=>T141 Ops.std c175 c141 c83 c176 c177 c84 p0 p1 p2 p3 p4 (R141 c175 c141 c83 c176 c177 c84 p0 p1 p2 p3 p4 n) some (some s)
theorem rr141 {R:Type} (c175:C175) (c141:C141) (c83:C83) (c176:C176) (c177:C177) (c84:C84) (p0:L130) (p1:Int) (p2:Int) (p3:Int) (p4:L66) (k:AV→Objs→Option R):∀ (n:Nat) (s:S141),aloop tau Ops.std gl0 X141 (ent 175 (e175 c175) (ent 141 (e141 c141) (ent 83 (e83 c83) (ent 176 (e176 c176) (ent 177 (e177 c177) (ent 84 (e84 c84) (gnil))))))) ow [0] Tryz.f141 k (I141 s) (E141 p0 p1 p2 p3 p4 s) n=ob (R141 c175 c141 c83 c176 c177 c84 p0 p1 p2 p3 p4 n s) (fun y=>k (.tup []) [(0,.box 127 [.list 130 ty130 y.1,.int .i64 y.2.1,.own 1002,.int .i64 y.2.2.1,.int .i64 y.2.2.2.1]),(1002,.row 66 ty66 y.2.2.2.2)])
 | 0,s=>by cases s<;>rfl
 | n+1,s=>by rw [el141];exact nt141 Ops.std c175 c141 c83 c176 c177 c84 p0 p1 p2 p3 p4 _ _ some (fun y=>k (.tup []) [(0,.box 127 [.list 130 ty130 y.1,.int .i64 y.2.1,.own 1002,.int .i64 y.2.2.1,.int .i64 y.2.2.2.1]),(1002,.row 66 ty66 y.2.2.2.2)]) (rr141 c175 c141 c83 c176 c177 c84 p0 p1 p2 p3 p4 k n) (some s)
def F141 (c175:C175) (c141:C141) (c83:C83) (c176:C176) (c177:C177) (c84:C84) (p0:L130) (p1:Int) (p2:Int) (p3:Int) (p4:L66):Option (L130×Int×Int×Int×L66):=T141 Ops.std c175 c141 c83 c176 c177 c84 p0 p1 p2 p3 p4 (R141 c175 c141 c83 c176 c177 c84 p0 p1 p2 p3 p4 1000000) some none
theorem fo141 {R:Type} (c175:C175) (c141:C141) (c83:C83) (c176:C176) (c177:C177) (c84:C84) (p0:L130) (p1:Int) (p2:Int) (p3:Int) (p4:L66) (k:AV→Objs→Option R):afun tau Ops.std gl0 X141 (ent 175 (e175 c175) (ent 141 (e141 c141) (ent 83 (e83 c83) (ent 176 (e176 c176) (ent 177 (e177 c177) (ent 84 (e84 c84) (gnil))))))) ow Tryz.f141 [.c (.ptr 0 0)] [(0,.box 127 [.list 130 ty130 p0,.int .i64 p1,.own 1002,.int .i64 p2,.int .i64 p3]),(1002,.row 66 ty66 p4)] k 1000000=ob (F141 c175 c141 c83 c176 c177 c84 p0 p1 p2 p3 p4) (fun y=>k (.tup []) [(0,.box 127 [.list 130 ty130 y.1,.int .i64 y.2.1,.own 1002,.int .i64 y.2.2.1,.int .i64 y.2.2.2.1]),(1002,.row 66 ty66 y.2.2.2.2)]):=by rw [eq141];exact nt141 Ops.std c175 c141 c83 c176 c177 c84 p0 p1 p2 p3 p4 _ _ some (fun y=>k (.tup []) [(0,.box 127 [.list 130 ty130 y.1,.int .i64 y.2.1,.own 1002,.int .i64 y.2.2.1,.int .i64 y.2.2.2.1]),(1002,.row 66 ty66 y.2.2.2.2)]) (rr141 c175 c141 c83 c176 c177 c84 p0 p1 p2 p3 p4 k 1000000) none
theorem sf141 {c175:C175} {c141:C141} {c83:C83} {c176:C176} {c177:C177} {c84:C84} (h175:Sp175 c175) (h141:Sp141 c141) (h83:Sp83 c83) (h176:Sp176 c176) (h177:Sp177 c177) (h84:Sp84 c84):Sp141 (F141 c175 c141 c83 c176 c177 c84):=fun p0 p1 p2 p3 p4 y hy=>by
 refine qap (G:=ent 175 (e175 c175) (ent 141 (e141 c141) (ent 83 (e83 c83) (ent 176 (e176 c176) (ent 177 (e177 c177) (ent 84 (e84 c84) (gnil))))))) (qai (ek175 h175) (qai (ek141 h141) (qai (ek83 h83) (qai (ek176 h176) (qai (ek177 h177) (qai (ek84 h84) (qao))))))) 1000000 (fn:=Tryz.f141) (by kernel_rfl) (by kernel_rfl) (X:=X141) (by kernel_rfl) ?_
 rw [fo141,hy]
 rfl
noncomputable def Rec83:Nat→(Int→L130→Int→Int→Int→L66→Option (L130×Int×Int×Int×L66))×(L130→Int→Int→Int→L66→Option (L130×Int×Int×Int×L66))
 | 0=>(fun _ _ _ _ _ _=>none,fun _ _ _ _ _=>none)
 | d+1=>(F83 (Rec83 d).2 (Rec83 d).1 M142,F141 M175 (Rec83 d).2 (Rec83 d).1 M176 M177 M84)
theorem rec83:∀ d,Sp83 (Rec83 d).1∧Sp141 (Rec83 d).2
 | 0=>⟨(fun p0 p1 p2 p3 p4 p5 y (h:(none:Option (L130×Int×Int×Int×L66))=some y)=>by cases h),(fun p0 p1 p2 p3 p4 y (h:(none:Option (L130×Int×Int×Int×L66))=some y)=>by cases h)⟩
 | d+1=>⟨sf83 (rec83 d).2 (rec83 d).1 sm142,sf141 sm175 (rec83 d).2 (rec83 d).1 sm176 sm177 sm84⟩
noncomputable def M83:Int→L130→Int→Int→Int→L66→Option (L130×Int×Int×Int×L66):=(Rec83 1000000).1
theorem sm83:Sp83 M83:=(rec83 1000000).1
def X45:Aux:=⟨[],[(9,.lin (rg 0 15))]⟩
def T45 {R:Type} (B:Ops) (c82:C82) (c83:C83) (c84:C84) (p0:LB) (k:(Int×Int×L66)→Option R):Option R:=ob (c82 p0) fun y0=>cond (!Ops.eq B y0.1 (0)) (k ((y0.1,y0.2.1,mt (Ty.den ty66)))) (ob (c83 (1) y0.2.2 (0) (0) (0) (mt (Ty.den ty66))) fun y1=>cond (Ops.eq B ((y1.2.2).1) (0)) (cond (Ops.inb B y1.2.1 (List.length y0.2.2)) (cond (!Ops.eq B ((List.getD y0.2.2 (Int.toNat y1.2.1) (Ty.dflt ty130)).1) (5)) (ob (c84 (2) y1.2.1 y1.1 y1.2.1 ((y1.2.2).1) ((y1.2.2.2).1) ((y1.2.2.2).2)) fun y2=>cond (!Ops.eq B ((y2.2.2).1) (0)) (cond (Ops.inb B ((y2.2.2.2).1) (List.length y0.2.2)) (k (((y2.2.2).1,(((List.getD y0.2.2 (Int.toNat y2.2.2.2.1) (Ty.dflt ty130)).2).2).2,mt (Ty.den ty66)))) (none)) (cond (Ops.lt B (24) (Nat.cast (List.length ((y2.2.2.2).2)))) (k ((13,0,mt (Ty.den ty66)))) (k ((0,0,(y2.2.2.2).2))))) (cond (!Ops.eq B ((y1.2.2).1) (0)) (cond (Ops.inb B ((y1.2.2.2).1) (List.length y0.2.2)) (k (((y1.2.2).1,(((List.getD y0.2.2 (Int.toNat y1.2.2.2.1) (Ty.dflt ty130)).2).2).2,mt (Ty.den ty66)))) (none)) (cond (Ops.lt B (24) (Nat.cast (List.length ((y1.2.2.2).2)))) (k ((13,0,mt (Ty.den ty66)))) (k ((0,0,(y1.2.2.2).2)))))) (none)) (cond (!Ops.eq B ((y1.2.2).1) (0)) (cond (Ops.inb B ((y1.2.2.2).1) (List.length y0.2.2)) (k (((y1.2.2).1,(((List.getD y0.2.2 (Int.toNat y1.2.2.2.1) (Ty.dflt ty130)).2).2).2,mt (Ty.den ty66)))) (none)) (cond (Ops.lt B (24) (Nat.cast (List.length ((y1.2.2.2).2)))) (k ((13,0,mt (Ty.den ty66)))) (k ((0,0,(y1.2.2.2).2))))))
theorem eq45 {R:Type} (B:Ops) (c82:C82) (c83:C83) (c84:C84) (p0:LB) (k:AV→Objs→Option R) (n:Nat):afun tau B gl0 X45 (ent 82 (e82 c82) (ent 83 (e83 c83) (ent 84 (e84 c84) (gnil)))) ow Tryz.f45 [.c (.str p0)] [] k n=T45 B c82 c83 c84 p0 (fun y=>k (.tup [(false,[.own 501000]),(false,[.int .i64 y.1]),(false,[.int .i64 y.2.1])]) [(501000,.row 66 ty66 y.2.2)]):=by kernel_rfl
theorem nt45 {R R':Type} (B:Ops) (c82:C82) (c83:C83) (c84:C84) (p0:LB) (k0:(Int×Int×L66)→Option R') (k:R'→Option R):T45 B c82 c83 c84 p0 (fun y=>ob (k0 y) k)=ob (T45 B c82 c83 c84 p0 k0) k:=by
 unfold T45
 repeat' first | exact rfl | apply qac | (apply qah;intro)
def F45 (c82:C82) (c83:C83) (c84:C84) (p0:LB):Option (Int×Int×L66):=T45 Ops.std c82 c83 c84 p0 some
theorem fo45 {R:Type} (c82:C82) (c83:C83) (c84:C84) (p0:LB) (k:AV→Objs→Option R) (n:Nat):afun tau Ops.std gl0 X45 (ent 82 (e82 c82) (ent 83 (e83 c83) (ent 84 (e84 c84) (gnil)))) ow Tryz.f45 [.c (.str p0)] [] k n=ob (F45 c82 c83 c84 p0) (fun y=>k (.tup [(false,[.own 501000]),(false,[.int .i64 y.1]),(false,[.int .i64 y.2.1])]) [(501000,.row 66 ty66 y.2.2)]):=by rw [eq45];exact nt45 Ops.std c82 c83 c84 p0 some (fun y=>k (.tup [(false,[.own 501000]),(false,[.int .i64 y.1]),(false,[.int .i64 y.2.1])]) [(501000,.row 66 ty66 y.2.2)])
def e45 {R:Type} (c:LB→Option (Int×Int×L66)):Ent R:=fun args objs k=>
 oCons args fun a0 l0=>oC a0 fun x0=>cStr x0 fun p0=>oNil l0 <| oNilO objs <| ob (c p0) fun y=>k (.tup [(false,[.own 501000]),(false,[.int .i64 y.1]),(false,[.int .i64 y.2.1])]) [(501000,.row 66 ty66 y.2.2)]
abbrev Sp45 (c:LB→Option (Int×Int×L66)):Prop:=∀ (p0:LB) (y:Int×Int×L66),c p0=some y→Spec Tryz.prog gl0 45 [.c (.str p0)] [] (.tup [(false,[.own 501000]),(false,[.int .i64 y.1]),(false,[.int .i64 y.2.1])]) [(501000,.row 66 ty66 y.2.2)]
theorem ek45 {R:Type} {c:LB→Option (Int×Int×L66)} (hs:Sp45 c):EOk 45 (e45 (R:=R) c):=fun args objs k r h=>by
 unfold e45 at h
 obtain ⟨a0,l0,rfl,q1⟩:=qaa h
 obtain ⟨x0,rfl,q2⟩:=qaj q1
 obtain ⟨p0,rfl,q3⟩:=qav q2
 obtain ⟨rfl,q4⟩:=qag q3
 obtain ⟨rfl,q5⟩:=qaf q4
 exact qar (hs p0) q5
theorem sf45 {c82:C82} {c83:C83} {c84:C84} (h82:Sp82 c82) (h83:Sp83 c83) (h84:Sp84 c84):Sp45 (F45 c82 c83 c84):=fun p0 y hy=>by
 refine qap (G:=ent 82 (e82 c82) (ent 83 (e83 c83) (ent 84 (e84 c84) (gnil)))) (qai (ek82 h82) (qai (ek83 h83) (qai (ek84 h84) (qao)))) 1000000 (fn:=Tryz.f45) (by kernel_rfl) (by kernel_rfl) (X:=X45) (by kernel_rfl) ?_
 rw [fo45,hy]
 rfl
noncomputable def M45:LB→Option (Int×Int×L66):=F45 M82 M83 M84
theorem sm45:Sp45 M45:=sf45 sm82 sm83 sm84
def X14:Aux:=⟨[],[]⟩
abbrev C45:Type:=LB→Option (Int×Int×L66)
def T14 {R:Type} (B:Ops) (c45:C45) (p0:LB) (k:(L66)→Option R):Option R:=ob (c45 p0) fun y0=>k y0.2.2
theorem eq14 {R:Type} (B:Ops) (c45:C45) (p0:LB) (k:AV→Objs→Option R) (n:Nat):afun tau B gl0 X14 (ent 45 (e45 c45) (gnil)) ow Tryz.f14 [.c (.str p0)] [] k n=T14 B c45 p0 (fun y=>k (.c (.own 500)) [(500,.row 66 ty66 y)]):=by kernel_rfl
theorem nt14 {R R':Type} (B:Ops) (c45:C45) (p0:LB) (k0:(L66)→Option R') (k:R'→Option R):T14 B c45 p0 (fun y=>ob (k0 y) k)=ob (T14 B c45 p0 k0) k:=by
 unfold T14
 repeat' first | exact rfl | apply qac | (apply qah;intro)
def F14 (c45:C45) (p0:LB):Option (L66):=T14 Ops.std c45 p0 some
theorem fo14 {R:Type} (c45:C45) (p0:LB) (k:AV→Objs→Option R) (n:Nat):afun tau Ops.std gl0 X14 (ent 45 (e45 c45) (gnil)) ow Tryz.f14 [.c (.str p0)] [] k n=ob (F14 c45 p0) (fun y=>k (.c (.own 500)) [(500,.row 66 ty66 y)]):=by rw [eq14];exact nt14 Ops.std c45 p0 some (fun y=>k (.c (.own 500)) [(500,.row 66 ty66 y)])
def e14 {R:Type} (c:LB→Option (L66)):Ent R:=fun args objs k=>
 oCons args fun a0 l0=>oC a0 fun x0=>cStr x0 fun p0=>oNil l0 <| oNilO objs <| ob (c p0) fun y=>k (.c (.own 500)) [(500,.row 66 ty66 y)]
abbrev Sp14 (c:LB→Option (L66)):Prop:=∀ (p0:LB) (y:L66),c p0=some y→Spec Tryz.prog gl0 14 [.c (.str p0)] [] (.c (.own 500)) [(500,.row 66 ty66 y)]
theorem ek14 {R:Type} {c:LB→Option (L66)} (hs:Sp14 c):EOk 14 (e14 (R:=R) c):=fun args objs k r h=>by
 unfold e14 at h
 obtain ⟨a0,l0,rfl,q1⟩:=qaa h
 obtain ⟨x0,rfl,q2⟩:=qaj q1
 obtain ⟨p0,rfl,q3⟩:=qav q2
 obtain ⟨rfl,q4⟩:=qag q3
 obtain ⟨rfl,q5⟩:=qaf q4
 exact qar (hs p0) q5
theorem sf14 {c45:C45} (h45:Sp45 c45):Sp14 (F14 c45):=fun p0 y hy=>by
 refine qap (G:=ent 45 (e45 c45) (gnil)) (qai (ek45 h45) (qao)) 1000000 (fn:=Tryz.f14) (by kernel_rfl) (by kernel_rfl) (X:=X14) (by kernel_rfl) ?_
 rw [fo14,hy]
 rfl
noncomputable def M14:LB→Option (L66):=F14 M45
theorem sm14:Sp14 M14:=sf14 sm45
def X55:Aux:=⟨[],[]⟩
def T55 {R:Type} (B:Ops) (p0:L66) (p1:Int) (k:(Bool)→Option R):Option R:=cond (Ops.eq B (Nat.cast (List.length p0)) (1)) (cond (Ops.inb B (0) (List.length p0)) (k (Ops.eq B ((List.getD p0 (Int.toNat (0)) (Ty.dflt ty66)).1) p1)) (none)) (k false)
theorem eq55 {R:Type} (B:Ops) (p0:L66) (p1:Int) (k:AV→Objs→Option R) (n:Nat):afun tau B gl0 X55 (gnil) ow Tryz.f55 [.c (.list 66 ty66 p0),.c (.int .i64 p1)] [] k n=T55 B p0 p1 (fun y=>k (.c (.bool y)) []):=by kernel_rfl
theorem nt55 {R R':Type} (B:Ops) (p0:L66) (p1:Int) (k0:(Bool)→Option R') (k:R'→Option R):T55 B p0 p1 (fun y=>ob (k0 y) k)=ob (T55 B p0 p1 k0) k:=by
 unfold T55
 repeat' first | exact rfl | apply qac | (apply qah;intro)
def F55 (p0:L66) (p1:Int):Option (Bool):=T55 Ops.std p0 p1 some
theorem fo55 {R:Type} (p0:L66) (p1:Int) (k:AV→Objs→Option R) (n:Nat):afun tau Ops.std gl0 X55 (gnil) ow Tryz.f55 [.c (.list 66 ty66 p0),.c (.int .i64 p1)] [] k n=ob (F55 p0 p1) (fun y=>k (.c (.bool y)) []):=by rw [eq55];exact nt55 Ops.std p0 p1 some (fun y=>k (.c (.bool y)) [])
def e55 {R:Type} (c:L66→Int→Option (Bool)):Ent R:=fun args objs k=>
 oCons args fun a0 l0=>oC a0 fun x0=>cList 66 ty66 x0 fun p0=>oCons l0 fun a1 l1=>oC a1 fun x1=>cInt .i64 x1 fun p1=>oNil l1 <| oNilO objs <| ob (c p0 p1) fun y=>k (.c (.bool y)) []
abbrev Sp55 (c:L66→Int→Option (Bool)):Prop:=∀ (p0:L66) (p1:Int) (y:Bool),c p0 p1=some y→Spec Tryz.prog gl0 55 [.c (.list 66 ty66 p0),.c (.int .i64 p1)] [] (.c (.bool y)) []
theorem ek55 {R:Type} {c:L66→Int→Option (Bool)} (hs:Sp55 c):EOk 55 (e55 (R:=R) c):=fun args objs k r h=>by
 unfold e55 at h
 obtain ⟨a0,l0,rfl,q1⟩:=qaa h
 obtain ⟨x0,rfl,q2⟩:=qaj q1
 obtain ⟨p0,rfl,q3⟩:=qae q2
 obtain ⟨a1,l1,rfl,q4⟩:=qaa q3
 obtain ⟨x1,rfl,q5⟩:=qaj q4
 obtain ⟨p1,rfl,q6⟩:=qal q5
 obtain ⟨rfl,q7⟩:=qag q6
 obtain ⟨rfl,q8⟩:=qaf q7
 exact qar (hs p0 p1) q8
theorem sf55:Sp55 (F55):=fun p0 p1 y hy=>by
 refine qap (G:=gnil) (qao) 1000000 (fn:=Tryz.f55) (by kernel_rfl) (by kernel_rfl) (X:=X55) (by kernel_rfl) ?_
 rw [fo55,hy]
 rfl
noncomputable def M55:L66→Int→Option (Bool):=F55
theorem sm55:Sp55 M55:=sf55
def X184:Aux:=⟨[(4,(rg 2 10++rg 14 12))],[(6,.lin [0,1,2,3,4,5,6,7,8])]⟩
inductive S184 where
 | l0 (v0_2:Int) (v0_3:Int)
def T184 {R:Type} (B:Ops) (p0:L150) (p1:L150) (again:S184→Option R) (k:(Bool)→Option R):Option S184→Option R | none=>cond (!Ops.eq B (Nat.cast (List.length p0)) (Nat.cast (List.length p1))) (k false) (again (.l0 (Nat.cast (List.length p0)) 0)) | some (.l0 v0_2 v0_3)=>cond (Ops.lt B v0_3 v0_2) (cond (Ops.inb B v0_3 (List.length p0)) (cond (Ops.inb B v0_3 (List.length p1)) (cond (!(Ops.eq B ((List.getD p0 (Int.toNat v0_3) (Ty.dflt ty150)).1) ((List.getD p1 (Int.toNat v0_3) (Ty.dflt ty150)).1) && (Ops.eq B (((List.getD p0 (Int.toNat v0_3) (Ty.dflt ty150)).2).1) (((List.getD p1 (Int.toNat v0_3) (Ty.dflt ty150)).2).1) && ((((List.getD p0 (Int.toNat v0_3) (Ty.dflt ty150)).2).2).1 == (((List.getD p1 (Int.toNat v0_3) (Ty.dflt ty150)).2).2).1 && ((((List.getD p0 (Int.toNat v0_3) (Ty.dflt ty150)).2).2).2 == (((List.getD p1 (Int.toNat v0_3) (Ty.dflt ty150)).2).2).2 && true))))) (k false) (again (.l0 v0_2 (IntKind.wrap .i64 (v0_3+1))))) (none)) (none)) (k true)
def E184 (p0:L150) (p1:L150):S184→List AV×Objs
 | .l0 v0_2 v0_3=>(mk 26 [(0,.c (.list 150 ty150 p0)),(1,.c (.list 150 ty150 p1)),(12,.c (.int .i64 v0_2)),(13,.c (.int .i64 v0_3))],[])
def I184:S184→Nat
 | .l0 _ _=>0
theorem eq184 {R:Type} (B:Ops) (p0:L150) (p1:L150) (k:AV→Objs→Option R) (n:Nat):afun tau B gl0 X184 (gnil) ow Tryz.f184 [.c (.list 150 ty150 p0),.c (.list 150 ty150 p1)] [] k n=T184 B p0 p1 (fun s=>aloop tau B gl0 X184 (gnil) ow [] Tryz.f184 k (I184 s) (E184 p0 p1 s) n) (fun y=>k (.c (.bool y)) []) none:=by kernel_rfl
theorem el184 {R:Type} (B:Ops) (p0:L150) (p1:L150) (k:AV→Objs→Option R) (n:Nat):∀ s,aloop tau B gl0 X184 (gnil) ow [] Tryz.f184 k (I184 s) (E184 p0 p1 s) (n+1)=T184 B p0 p1 (fun s=>aloop tau B gl0 X184 (gnil) ow [] Tryz.f184 k (I184 s) (E184 p0 p1 s) n) (fun y=>k (.c (.bool y)) []) (some s)
 | .l0 v0_2 v0_3=>by kernel_rfl
theorem nt184 {R R':Type} (B:Ops) (p0:L150) (p1:L150) (again:S184→Option R) (again':S184→Option R') (k0:(Bool)→Option R') (k:R'→Option R) (h:∀ s,again s=ob (again' s) k):∀ s,T184 B p0 p1 again (fun y=>ob (k0 y) k) s=ob (T184 B p0 p1 again' k0 s) k
 | none=>by unfold T184;repeat' first | exact rfl | exact h _ | apply qac | (apply qah;intro)
 | some (.l0 v0_2 v0_3)=>by unfold T184;repeat' first | exact rfl | exact h _ | apply qac | (apply qah;intro)
def R184 (p0:L150) (p1:L150):Nat→S184→Option (Bool)
 | 0,_=>none
 | n+1,s=>T184 Ops.std p0 p1 (R184 p0 p1 n) some (some s)
theorem rr184 {R:Type} (p0:L150) (p1:L150) (k:AV→Objs→Option R):∀ (n:Nat) (s:S184),aloop tau Ops.std gl0 X184 (gnil) ow [] Tryz.f184 k (I184 s) (E184 p0 p1 s) n=ob (R184 p0 p1 n s) (fun y=>k (.c (.bool y)) [])
 | 0,s=>by cases s<;>rfl
 | n+1,s=>by rw [el184];exact nt184 Ops.std p0 p1 _ _ some (fun y=>k (.c (.bool y)) []) (rr184 p0 p1 k n) (some s)
def F184 (p0:L150) (p1:L150):Option (Bool):=T184 Ops.std p0 p1 (R184 p0 p1 1000000) some none
theorem fo184 {R:Type} (p0:L150) (p1:L150) (k:AV→Objs→Option R):afun tau Ops.std gl0 X184 (gnil) ow Tryz.f184 [.c (.list 150 ty150 p0),.c (.list 150 ty150 p1)] [] k 1000000=ob (F184 p0 p1) (fun y=>k (.c (.bool y)) []):=by rw [eq184];exact nt184 Ops.std p0 p1 _ _ some (fun y=>k (.c (.bool y)) []) (rr184 p0 p1 k 1000000) none
def e184 {R:Type} (c:L150→L150→Option (Bool)):Ent R:=fun args objs k=>
 oCons args fun a0 l0=>oC a0 fun x0=>cList 150 ty150 x0 fun p0=>oCons l0 fun a1 l1=>oC a1 fun x1=>cList 150 ty150 x1 fun p1=>oNil l1 <| oNilO objs <| ob (c p0 p1) fun y=>k (.c (.bool y)) []
abbrev Sp184 (c:L150→L150→Option (Bool)):Prop:=∀ (p0:L150) (p1:L150) (y:Bool),c p0 p1=some y→Spec Tryz.prog gl0 184 [.c (.list 150 ty150 p0),.c (.list 150 ty150 p1)] [] (.c (.bool y)) []
theorem ek184 {R:Type} {c:L150→L150→Option (Bool)} (hs:Sp184 c):EOk 184 (e184 (R:=R) c):=fun args objs k r h=>by
 unfold e184 at h
 obtain ⟨a0,l0,rfl,q1⟩:=qaa h
 obtain ⟨x0,rfl,q2⟩:=qaj q1
 obtain ⟨p0,rfl,q3⟩:=qae q2
 obtain ⟨a1,l1,rfl,q4⟩:=qaa q3
 obtain ⟨x1,rfl,q5⟩:=qaj q4
 obtain ⟨p1,rfl,q6⟩:=qae q5
 obtain ⟨rfl,q7⟩:=qag q6
 obtain ⟨rfl,q8⟩:=qaf q7
 exact qar (hs p0 p1) q8
theorem sf184:Sp184 (F184):=fun p0 p1 y hy=>by
 refine qap (G:=gnil) (qao) 1000000 (fn:=Tryz.f184) (by kernel_rfl) (by kernel_rfl) (X:=X184) (by kernel_rfl) ?_
 rw [fo184,hy]
 rfl
noncomputable def M184:L150→L150→Option (Bool):=F184
theorem sm184:Sp184 M184:=sf184
def X159:Aux:=⟨[],[]⟩
abbrev C184:Type:=L150→L150→Option (Bool)
def T159 {R:Type} (B:Ops) (c184:C184) (p0:L150) (p1:L150) (k:(Bool)→Option R):Option R:=ob (c184 p0 p1) fun y0=>k y0
theorem eq159 {R:Type} (B:Ops) (c184:C184) (p0:L150) (p1:L150) (k:AV→Objs→Option R) (n:Nat):afun tau B gl0 X159 (ent 184 (e184 c184) (gnil)) ow Tryz.f159 [.c (.list 150 ty150 p0),.c (.list 150 ty150 p1)] [] k n=T159 B c184 p0 p1 (fun y=>k (.c (.bool y)) []):=by kernel_rfl
theorem nt159 {R R':Type} (B:Ops) (c184:C184) (p0:L150) (p1:L150) (k0:(Bool)→Option R') (k:R'→Option R):T159 B c184 p0 p1 (fun y=>ob (k0 y) k)=ob (T159 B c184 p0 p1 k0) k:=by
 unfold T159
 repeat' first | exact rfl | apply qac | (apply qah;intro)
def F159 (c184:C184) (p0:L150) (p1:L150):Option (Bool):=T159 Ops.std c184 p0 p1 some
theorem fo159 {R:Type} (c184:C184) (p0:L150) (p1:L150) (k:AV→Objs→Option R) (n:Nat):afun tau Ops.std gl0 X159 (ent 184 (e184 c184) (gnil)) ow Tryz.f159 [.c (.list 150 ty150 p0),.c (.list 150 ty150 p1)] [] k n=ob (F159 c184 p0 p1) (fun y=>k (.c (.bool y)) []):=by rw [eq159];exact nt159 Ops.std c184 p0 p1 some (fun y=>k (.c (.bool y)) [])
def e159 {R:Type} (c:L150→L150→Option (Bool)):Ent R:=fun args objs k=>
 oCons args fun a0 l0=>oC a0 fun x0=>cList 150 ty150 x0 fun p0=>oCons l0 fun a1 l1=>oC a1 fun x1=>cList 150 ty150 x1 fun p1=>oNil l1 <| oNilO objs <| ob (c p0 p1) fun y=>k (.c (.bool y)) []
abbrev Sp159 (c:L150→L150→Option (Bool)):Prop:=∀ (p0:L150) (p1:L150) (y:Bool),c p0 p1=some y→Spec Tryz.prog gl0 159 [.c (.list 150 ty150 p0),.c (.list 150 ty150 p1)] [] (.c (.bool y)) []
theorem ek159 {R:Type} {c:L150→L150→Option (Bool)} (hs:Sp159 c):EOk 159 (e159 (R:=R) c):=fun args objs k r h=>by
 unfold e159 at h
 obtain ⟨a0,l0,rfl,q1⟩:=qaa h
 obtain ⟨x0,rfl,q2⟩:=qaj q1
 obtain ⟨p0,rfl,q3⟩:=qae q2
 obtain ⟨a1,l1,rfl,q4⟩:=qaa q3
 obtain ⟨x1,rfl,q5⟩:=qaj q4
 obtain ⟨p1,rfl,q6⟩:=qae q5
 obtain ⟨rfl,q7⟩:=qag q6
 obtain ⟨rfl,q8⟩:=qaf q7
 exact qar (hs p0 p1) q8
theorem sf159 {c184:C184} (h184:Sp184 c184):Sp159 (F159 c184):=fun p0 p1 y hy=>by
 refine qap (G:=ent 184 (e184 c184) (gnil)) (qai (ek184 h184) (qao)) 1000000 (fn:=Tryz.f159) (by kernel_rfl) (by kernel_rfl) (X:=X159) (by kernel_rfl) ?_
 rw [fo159,hy]
 rfl
noncomputable def M159:L150→L150→Option (Bool):=F159 M184
theorem sm159:Sp159 M159:=sf159 sm184
def X158:Aux:=⟨[],[]⟩
abbrev C159:Type:=L150→L150→Option (Bool)
def T158 {R:Type} (B:Ops) (c159:C159) (p0:Int) (p1:L150) (p2:Int) (p3:L150) (k:(Bool)→Option R):Option R:=cond (Ops.eq B p0 p2) (ob (c159 p1 p3) fun y0=>k y0) (k false)
theorem eq158 {R:Type} (B:Ops) (c159:C159) (p0:Int) (p1:L150) (p2:Int) (p3:L150) (k:AV→Objs→Option R) (n:Nat):afun tau B gl0 X158 (ent 159 (e159 c159) (gnil)) ow Tryz.f158 [.agg [.int .i64 p0,.list 150 ty150 p1],.agg [.int .i64 p2,.list 150 ty150 p3]] [] k n=T158 B c159 p0 p1 p2 p3 (fun y=>k (.c (.bool y)) []):=by kernel_rfl
theorem nt158 {R R':Type} (B:Ops) (c159:C159) (p0:Int) (p1:L150) (p2:Int) (p3:L150) (k0:(Bool)→Option R') (k:R'→Option R):T158 B c159 p0 p1 p2 p3 (fun y=>ob (k0 y) k)=ob (T158 B c159 p0 p1 p2 p3 k0) k:=by
 unfold T158
 repeat' first | exact rfl | apply qac | (apply qah;intro)
def F158 (c159:C159) (p0:Int) (p1:L150) (p2:Int) (p3:L150):Option (Bool):=T158 Ops.std c159 p0 p1 p2 p3 some
theorem fo158 {R:Type} (c159:C159) (p0:Int) (p1:L150) (p2:Int) (p3:L150) (k:AV→Objs→Option R) (n:Nat):afun tau Ops.std gl0 X158 (ent 159 (e159 c159) (gnil)) ow Tryz.f158 [.agg [.int .i64 p0,.list 150 ty150 p1],.agg [.int .i64 p2,.list 150 ty150 p3]] [] k n=ob (F158 c159 p0 p1 p2 p3) (fun y=>k (.c (.bool y)) []):=by rw [eq158];exact nt158 Ops.std c159 p0 p1 p2 p3 some (fun y=>k (.c (.bool y)) [])
def e158 {R:Type} (c:Int→L150→Int→L150→Option (Bool)):Ent R:=fun args objs k=>
 oCons args fun a0 l0=>oAgg a0 fun x0=>cCons x0 fun z0_0 w0_0=>cInt .i64 z0_0 fun p0=>cCons w0_0 fun z0_1 w0_1=>cList 150 ty150 z0_1 fun p1=>cNil w0_1 <| oCons l0 fun a1 l1=>oAgg a1 fun x1=>cCons x1 fun z1_0 w1_0=>cInt .i64 z1_0 fun p2=>cCons w1_0 fun z1_1 w1_1=>cList 150 ty150 z1_1 fun p3=>cNil w1_1 <| oNil l1 <| oNilO objs <| ob (c p0 p1 p2 p3) fun y=>k (.c (.bool y)) []
abbrev Sp158 (c:Int→L150→Int→L150→Option (Bool)):Prop:=∀ (p0:Int) (p1:L150) (p2:Int) (p3:L150) (y:Bool),c p0 p1 p2 p3=some y→Spec Tryz.prog gl0 158 [.agg [.int .i64 p0,.list 150 ty150 p1],.agg [.int .i64 p2,.list 150 ty150 p3]] [] (.c (.bool y)) []
theorem ek158 {R:Type} {c:Int→L150→Int→L150→Option (Bool)} (hs:Sp158 c):EOk 158 (e158 (R:=R) c):=fun args objs k r h=>by
 unfold e158 at h
 obtain ⟨a0,l0,rfl,q1⟩:=qaa h
 obtain ⟨x0,rfl,q2⟩:=qax q1
 obtain ⟨z0_0,w0_0,rfl,q3⟩:=qad q2
 obtain ⟨p0,rfl,q4⟩:=qal q3
 obtain ⟨z0_1,w0_1,rfl,q5⟩:=qad q4
 obtain ⟨p1,rfl,q6⟩:=qae q5
 obtain ⟨rfl,q7⟩:=qat q6
 obtain ⟨a1,l1,rfl,q8⟩:=qaa q7
 obtain ⟨x1,rfl,q9⟩:=qax q8
 obtain ⟨z1_0,w1_0,rfl,q10⟩:=qad q9
 obtain ⟨p2,rfl,q11⟩:=qal q10
 obtain ⟨z1_1,w1_1,rfl,q12⟩:=qad q11
 obtain ⟨p3,rfl,q13⟩:=qae q12
 obtain ⟨rfl,q14⟩:=qat q13
 obtain ⟨rfl,q15⟩:=qag q14
 obtain ⟨rfl,q16⟩:=qaf q15
 exact qar (hs p0 p1 p2 p3) q16
theorem sf158 {c159:C159} (h159:Sp159 c159):Sp158 (F158 c159):=fun p0 p1 p2 p3 y hy=>by
 refine qap (G:=ent 159 (e159 c159) (gnil)) (qai (ek159 h159) (qao)) 1000000 (fn:=Tryz.f158) (by kernel_rfl) (by kernel_rfl) (X:=X158) (by kernel_rfl) ?_
 rw [fo158,hy]
 rfl
noncomputable def M158:Int→L150→Int→L150→Option (Bool):=F158 M159
theorem sm158:Sp158 M158:=sf158 sm159
end Go.Proofs.YtccnmhdgghjgoaaGreatDoor.Av
