/- Twins of functions,printed by gen.py. Conditions: none. -/
import Derived.Test.YtccnmhdgghjgoaaGreatDoorRm4
import Derived.KernelRfl
set_option linter.unusedSimpArgs false
set_option linter.unusedVariables false
set_option maxRecDepth 100000
set_option maxHeartbeats 8000000
namespace Go.Proofs.YtccnmhdgghjgoaaGreatDoor.Av
open Go
def X30:Aux:=⟨[(3,([0,3]++rg 7 65)),(7,([0,3,6]++rg 8 64))],[(5,.lin (rg 0 18)),(9,.lin (rg 0 33))]⟩
inductive S30 where
 | l0 (v0_1:Int) (v0_7:L3)
 | l1 (v1_1:Int) (v1_7:L3) (v1_8:L3)
def T30 {R:Type} (B:Ops) (c29:C29) (p0:L94) (p1:L98) (p2:L103) (p3:Int) (again:S30→Option R) (k:(L3×L3)→Option R):Option S30→Option R | none=>again (.l0 0 (mt (Ty.den (Ty.int .i64)))) | some (.l0 v0_1 v0_7)=>cond (Ops.lt B v0_1 (Nat.cast (List.length p1))) (cond (Ops.eq B (IntKind.wrap .i64 (1+v0_1)) (0)) (none) (cond (Ops.inb B v0_1 (List.length p1)) (ob (c29 (IntKind.wrap .i64 (Int.tdiv p3 (IntKind.wrap .i64 (1+v0_1)))) (Nat.cast (List.length ((List.getD p1 (Int.toNat v0_1) (Ty.dflt ty98)).2)))) fun y0=>cond (Ops.lim B (List.length v0_7+List.length (y0::mt (Ty.den (Ty.int .i64)))) (8)) (again (.l0 (IntKind.wrap .i64 (v0_1+1)) (v0_7++y0::mt (Ty.den (Ty.int .i64))))) (none)) (none))) (again (.l1 0 v0_7 ((mt (Ty.den (Ty.int .i64)))))) | some (.l1 v1_1 v1_7 v1_8)=>cond (Ops.lt B v1_1 (Nat.cast (List.length p0))) (cond (Ops.inb B v1_1 (List.length p0)) (cond (Ops.eq B (IntKind.wrap .i64 (3+IntKind.wrap .i64 (4*v1_1))) (0)) (none) (cond (Ops.inb B v1_1 (List.length p0)) (cond (Ops.inb B v1_1 (List.length p0)) (ob (c29 (IntKind.wrap .i64 (Int.tdiv p3 (IntKind.wrap .i64 (3+IntKind.wrap .i64 (4*v1_1))))) (IntKind.wrap .i64 (IntKind.wrap .i64 ((((List.getD p0 (Int.toNat v1_1) (Ty.dflt ty94)).2).2).1-((List.getD p0 (Int.toNat v1_1) (Ty.dflt ty94)).2).1)+1))) fun y0=>cond (Ops.lim B (List.length v1_8+List.length (IntKind.wrap .i64 (((List.getD p0 (Int.toNat v1_1) (Ty.dflt ty94)).2).1+y0)::mt (Ty.den (Ty.int .i64)))) (8)) (again (.l1 (IntKind.wrap .i64 (v1_1+1)) v1_7 (v1_8++IntKind.wrap .i64 (((List.getD p0 (Int.toNat v1_1) (Ty.dflt ty94)).2).1+y0)::mt (Ty.den (Ty.int .i64))))) (none)) (none)) (none))) (none)) (k ((v1_7,v1_8)))
def E30 (p0:L94) (p1:L98) (p2:L103) (p3:Int):S30→List AV×Objs
 | .l0 v0_1 v0_7=>(mk 72 [(1,.c (.int .i64 p3)),(2,.c (.ptr 2 0)),(4,.c (.ptr 4 0)),(5,.c (.ptr 5 0)),(6,.c (.int .i64 v0_1))],[(2,.box 31 [.list 94 ty94 p0,.list 98 ty98 p1,.list 103 ty103 p2]),(4,.box 57 [.own 5000,.own 5001]),(5,.box 57 [.own 6000,.own 6001]),(5000,.row 3 ty3 (mt (Ty.den (Ty.int .i64)))),(5001,.row 3 ty3 (mt (Ty.den (Ty.int .i64)))),(6000,.row 3 ty3 v0_7),(6001,.row 3 ty3 (mt (Ty.den (Ty.int .i64))))])
 | .l1 v1_1 v1_7 v1_8=>(mk 72 [(1,.c (.int .i64 p3)),(2,.c (.ptr 2 0)),(4,.c (.ptr 4 0)),(5,.c (.ptr 5 0)),(7,.c (.int .i64 v1_1))],[(2,.box 31 [.list 94 ty94 p0,.list 98 ty98 p1,.list 103 ty103 p2]),(4,.box 57 [.own 5000,.own 5001]),(5,.box 57 [.own 6000,.own 6001]),(5000,.row 3 ty3 (mt (Ty.den (Ty.int .i64)))),(5001,.row 3 ty3 (mt (Ty.den (Ty.int .i64)))),(6000,.row 3 ty3 v1_7),(6001,.row 3 ty3 v1_8)])
def I30:S30→Nat
 | .l0 _ _=>0
 | .l1 _ _ _=>1
theorem eq30 {R:Type} (B:Ops) (c29:C29) (p0:L94) (p1:L98) (p2:L103) (p3:Int) (k:AV→Objs→Option R) (n:Nat):afun tau B gl0 X30 (ent 29 (e29 c29) (gnil)) ow Tryz.f30 [.agg [.list 94 ty94 p0,.list 98 ty98 p1,.list 103 ty103 p2],.c (.int .i64 p3)] [] k n=T30 B c29 p0 p1 p2 p3 (fun s=>aloop tau B gl0 X30 (ent 29 (e29 c29) (gnil)) ow [] Tryz.f30 k (I30 s) (E30 p0 p1 p2 p3 s) n) (fun y=>k (.agg [.list 3 ty3 y.1,.list 3 ty3 y.2]) []) none:=by kernel_rfl
theorem el30 {R:Type} (B:Ops) (c29:C29) (p0:L94) (p1:L98) (p2:L103) (p3:Int) (k:AV→Objs→Option R) (n:Nat):∀ s,aloop tau B gl0 X30 (ent 29 (e29 c29) (gnil)) ow [] Tryz.f30 k (I30 s) (E30 p0 p1 p2 p3 s) (n+1)=T30 B c29 p0 p1 p2 p3 (fun s=>aloop tau B gl0 X30 (ent 29 (e29 c29) (gnil)) ow [] Tryz.f30 k (I30 s) (E30 p0 p1 p2 p3 s) n) (fun y=>k (.agg [.list 3 ty3 y.1,.list 3 ty3 y.2]) []) (some s)
 | .l0 v0_1 v0_7=>by kernel_rfl
 | .l1 v1_1 v1_7 v1_8=>by kernel_rfl
theorem nt30 {R R':Type} (B:Ops) (c29:C29) (p0:L94) (p1:L98) (p2:L103) (p3:Int) (again:S30→Option R) (again':S30→Option R') (k0:(L3×L3)→Option R') (k:R'→Option R) (h:∀ s,again s=ob (again' s) k):∀ s,T30 B c29 p0 p1 p2 p3 again (fun y=>ob (k0 y) k) s=ob (T30 B c29 p0 p1 p2 p3 again' k0 s) k
 | none=>by unfold T30;repeat' first | exact rfl | exact h _ | apply qac | (apply qah;intro)
 | some (.l0 v0_1 v0_7)=>by unfold T30;repeat' first | exact rfl | exact h _ | apply qac | (apply qah;intro)
 | some (.l1 v1_1 v1_7 v1_8)=>by unfold T30;repeat' first | exact rfl | exact h _ | apply qac | (apply qah;intro)
def R30 (c29:C29) (p0:L94) (p1:L98) (p2:L103) (p3:Int):Nat→S30→Option (L3×L3)
 | 0,_=>none
 | n+1,s=>T30 Ops.std c29 p0 p1 p2 p3 (R30 c29 p0 p1 p2 p3 n) some (some s)
theorem rr30 {R:Type} (c29:C29) (p0:L94) (p1:L98) (p2:L103) (p3:Int) (k:AV→Objs→Option R):∀ (n:Nat) (s:S30),aloop tau Ops.std gl0 X30 (ent 29 (e29 c29) (gnil)) ow [] Tryz.f30 k (I30 s) (E30 p0 p1 p2 p3 s) n=ob (R30 c29 p0 p1 p2 p3 n s) (fun y=>k (.agg [.list 3 ty3 y.1,.list 3 ty3 y.2]) [])
 | 0,s=>by cases s<;>rfl
 | n+1,s=>by rw [el30];exact nt30 Ops.std c29 p0 p1 p2 p3 _ _ some (fun y=>k (.agg [.list 3 ty3 y.1,.list 3 ty3 y.2]) []) (rr30 c29 p0 p1 p2 p3 k n) (some s)
def F30 (c29:C29) (p0:L94) (p1:L98) (p2:L103) (p3:Int):Option (L3×L3):=T30 Ops.std c29 p0 p1 p2 p3 (R30 c29 p0 p1 p2 p3 1000000) some none
theorem fo30 {R:Type} (c29:C29) (p0:L94) (p1:L98) (p2:L103) (p3:Int) (k:AV→Objs→Option R):afun tau Ops.std gl0 X30 (ent 29 (e29 c29) (gnil)) ow Tryz.f30 [.agg [.list 94 ty94 p0,.list 98 ty98 p1,.list 103 ty103 p2],.c (.int .i64 p3)] [] k 1000000=ob (F30 c29 p0 p1 p2 p3) (fun y=>k (.agg [.list 3 ty3 y.1,.list 3 ty3 y.2]) []):=by rw [eq30];exact nt30 Ops.std c29 p0 p1 p2 p3 _ _ some (fun y=>k (.agg [.list 3 ty3 y.1,.list 3 ty3 y.2]) []) (rr30 c29 p0 p1 p2 p3 k 1000000) none
def e30 {R:Type} (c:L94→L98→L103→Int→Option (L3×L3)):Ent R:=fun args objs k=>
 oCons args fun a0 l0=>oAgg a0 fun x0=>cCons x0 fun z0_0 w0_0=>cList 94 ty94 z0_0 fun p0=>cCons w0_0 fun z0_1 w0_1=>cList 98 ty98 z0_1 fun p1=>cCons w0_1 fun z0_2 w0_2=>cList 103 ty103 z0_2 fun p2=>cNil w0_2 <| oCons l0 fun a1 l1=>oC a1 fun x1=>cInt .i64 x1 fun p3=>oNil l1 <| oNilO objs <| ob (c p0 p1 p2 p3) fun y=>k (.agg [.list 3 ty3 y.1,.list 3 ty3 y.2]) []
abbrev Sp30 (c:L94→L98→L103→Int→Option (L3×L3)):Prop:=∀ (p0:L94) (p1:L98) (p2:L103) (p3:Int) (y:L3×L3),c p0 p1 p2 p3=some y→Spec Tryz.prog gl0 30 [.agg [.list 94 ty94 p0,.list 98 ty98 p1,.list 103 ty103 p2],.c (.int .i64 p3)] [] (.agg [.list 3 ty3 y.1,.list 3 ty3 y.2]) []
theorem ek30 {R:Type} {c:L94→L98→L103→Int→Option (L3×L3)} (hs:Sp30 c):EOk 30 (e30 (R:=R) c):=fun args objs k r h=>by
 unfold e30 at h
 obtain ⟨a0,l0,rfl,q1⟩:=qaa h
 obtain ⟨x0,rfl,q2⟩:=qax q1
 obtain ⟨z0_0,w0_0,rfl,q3⟩:=qad q2
 obtain ⟨p0,rfl,q4⟩:=qae q3
 obtain ⟨z0_1,w0_1,rfl,q5⟩:=qad q4
 obtain ⟨p1,rfl,q6⟩:=qae q5
 obtain ⟨z0_2,w0_2,rfl,q7⟩:=qad q6
 obtain ⟨p2,rfl,q8⟩:=qae q7
 obtain ⟨rfl,q9⟩:=qat q8
 obtain ⟨a1,l1,rfl,q10⟩:=qaa q9
 obtain ⟨x1,rfl,q11⟩:=qaj q10
 obtain ⟨p3,rfl,q12⟩:=qal q11
 obtain ⟨rfl,q13⟩:=qag q12
 obtain ⟨rfl,q14⟩:=qaf q13
 exact qar (hs p0 p1 p2 p3) q14
theorem sf30 {c29:C29} (h29:Sp29 c29):Sp30 (F30 c29):=fun p0 p1 p2 p3 y hy=>by
 refine qap (G:=ent 29 (e29 c29) (gnil)) (qai (ek29 h29) (qao)) 1000000 (fn:=Tryz.f30) (by kernel_rfl) (by kernel_rfl) (X:=X30) (by kernel_rfl) ?_
 rw [fo30,hy]
 rfl
noncomputable def M30:L94→L98→L103→Int→Option (L3×L3):=F30 M29
theorem sm30:Sp30 M30:=sf30 sm29
def X20:Aux:=⟨[(3,([0,4,5]++rg 9 55)),(7,([0,1,4,5,8]++rg 10 54))],[(5,.lin (rg 0 13)),(9,.lin (rg 0 13))]⟩
inductive S20 where
 | l0 (v0_2:Int) (v0_8:L68)
 | l1 (v1_1:Int) (v1_7:L68) (v1_8:L68)
abbrev C30:Type:=L94→L98→L103→Int→Option (L3×L3)
def T20 {R:Type} (B:Ops) (c30:C30) (p0:L94) (p1:L98) (p2:L103) (p3:L3) (p4:L3) (again:S20→Option R) (k:(L68×L68)→Option R):Option S20→Option R | none=>again (.l0 0 (mt (Ty.den ty68))) | some (.l0 v0_2 v0_8)=>cond (Ops.lt B v0_2 (Nat.cast (List.length p3))) (cond (Ops.lt B v0_2 (6)) (cond (Ops.inb B v0_2 (List.length p3)) (ob (c30 p0 p1 p2 (List.getD p3 (Int.toNat v0_2) (Ty.dflt ty3))) fun y0=>cond (Ops.lim B (List.length v0_8+List.length (((y0.1,y0.2),mt (Ty.den (Ty.int .i64)))::mt (Ty.den ty68))) (72)) (again (.l0 (IntKind.wrap .i64 (v0_2+1)) (v0_8++((y0.1,y0.2),mt (Ty.den (Ty.int .i64)))::mt (Ty.den ty68)))) (none)) (none)) (again (.l1 0 v0_8 ((mt (Ty.den ty68)))))) (again (.l1 0 v0_8 ((mt (Ty.den ty68))))) | some (.l1 v1_1 v1_7 v1_8)=>cond (Ops.lt B v1_1 (Nat.cast (List.length p4))) (cond (Ops.lt B v1_1 (6)) (cond (Ops.inb B v1_1 (List.length p4)) (ob (c30 p0 p1 p2 (List.getD p4 (Int.toNat v1_1) (Ty.dflt ty3))) fun y0=>cond (Ops.lim B (List.length v1_8+List.length (((y0.1,y0.2),mt (Ty.den (Ty.int .i64)))::mt (Ty.den ty68))) (72)) (again (.l1 (IntKind.wrap .i64 (v1_1+1)) v1_7 (v1_8++((y0.1,y0.2),mt (Ty.den (Ty.int .i64)))::mt (Ty.den ty68)))) (none)) (none)) (cond (Ops.eq B (Nat.cast (List.length v1_8)) (0)) (ob (c30 p0 p1 p2 (0)) fun y0=>k ((v1_7,((y0.1,y0.2),mt (Ty.den (Ty.int .i64)))::mt (Ty.den ty68)))) (k ((v1_7,v1_8))))) (cond (Ops.eq B (Nat.cast (List.length v1_8)) (0)) (ob (c30 p0 p1 p2 (0)) fun y0=>k ((v1_7,((y0.1,y0.2),mt (Ty.den (Ty.int .i64)))::mt (Ty.den ty68)))) (k ((v1_7,v1_8))))
def E20 (p0:L94) (p1:L98) (p2:L103) (p3:L3) (p4:L3):S20→List AV×Objs
 | .l0 v0_2 v0_8=>(mk 64 [(1,.c (.list 3 ty3 p3)),(2,.c (.list 3 ty3 p4)),(3,.c (.ptr 3 0)),(6,.c (.ptr 6 0)),(7,.c (.ptr 7 0)),(8,.c (.int .i64 v0_2))],[(3,.box 31 [.list 94 ty94 p0,.list 98 ty98 p1,.list 103 ty103 p2]),(6,.box 41 [.own 7000,.own 7001]),(7,.box 41 [.own 8000,.own 8001]),(7000,.row 68 ty68 (mt (Ty.den ty68))),(7001,.row 68 ty68 (mt (Ty.den ty68))),(8000,.row 68 ty68 v0_8),(8001,.row 68 ty68 (mt (Ty.den ty68)))])
 | .l1 v1_1 v1_7 v1_8=>(mk 64 [(2,.c (.list 3 ty3 p4)),(3,.c (.ptr 3 0)),(6,.c (.ptr 6 0)),(7,.c (.ptr 7 0)),(9,.c (.int .i64 v1_1))],[(3,.box 31 [.list 94 ty94 p0,.list 98 ty98 p1,.list 103 ty103 p2]),(6,.box 41 [.own 7000,.own 7001]),(7,.box 41 [.own 8000,.own 8001]),(7000,.row 68 ty68 (mt (Ty.den ty68))),(7001,.row 68 ty68 (mt (Ty.den ty68))),(8000,.row 68 ty68 v1_7),(8001,.row 68 ty68 v1_8)])
def I20:S20→Nat
 | .l0 _ _=>0
 | .l1 _ _ _=>1
theorem eq20 {R:Type} (B:Ops) (c30:C30) (p0:L94) (p1:L98) (p2:L103) (p3:L3) (p4:L3) (k:AV→Objs→Option R) (n:Nat):afun tau B gl0 X20 (ent 30 (e30 c30) (gnil)) ow Tryz.f20 [.agg [.list 94 ty94 p0,.list 98 ty98 p1,.list 103 ty103 p2],.c (.list 3 ty3 p3),.c (.list 3 ty3 p4)] [] k n=T20 B c30 p0 p1 p2 p3 p4 (fun s=>aloop tau B gl0 X20 (ent 30 (e30 c30) (gnil)) ow [] Tryz.f20 k (I20 s) (E20 p0 p1 p2 p3 p4 s) n) (fun y=>k (.agg [.list 68 ty68 y.1,.list 68 ty68 y.2]) []) none:=by kernel_rfl
theorem el20 {R:Type} (B:Ops) (c30:C30) (p0:L94) (p1:L98) (p2:L103) (p3:L3) (p4:L3) (k:AV→Objs→Option R) (n:Nat):∀ s,aloop tau B gl0 X20 (ent 30 (e30 c30) (gnil)) ow [] Tryz.f20 k (I20 s) (E20 p0 p1 p2 p3 p4 s) (n+1)=T20 B c30 p0 p1 p2 p3 p4 (fun s=>aloop tau B gl0 X20 (ent 30 (e30 c30) (gnil)) ow [] Tryz.f20 k (I20 s) (E20 p0 p1 p2 p3 p4 s) n) (fun y=>k (.agg [.list 68 ty68 y.1,.list 68 ty68 y.2]) []) (some s)
 | .l0 v0_2 v0_8=>by kernel_rfl
 | .l1 v1_1 v1_7 v1_8=>by kernel_rfl
theorem nt20 {R R':Type} (B:Ops) (c30:C30) (p0:L94) (p1:L98) (p2:L103) (p3:L3) (p4:L3) (again:S20→Option R) (again':S20→Option R') (k0:(L68×L68)→Option R') (k:R'→Option R) (h:∀ s,again s=ob (again' s) k):∀ s,T20 B c30 p0 p1 p2 p3 p4 again (fun y=>ob (k0 y) k) s=ob (T20 B c30 p0 p1 p2 p3 p4 again' k0 s) k
 | none=>by unfold T20;repeat' first | exact rfl | exact h _ | apply qac | (apply qah;intro)
 | some (.l0 v0_2 v0_8)=>by unfold T20;repeat' first | exact rfl | exact h _ | apply qac | (apply qah;intro)
 | some (.l1 v1_1 v1_7 v1_8)=>by unfold T20;repeat' first | exact rfl | exact h _ | apply qac | (apply qah;intro)
def R20 (c30:C30) (p0:L94) (p1:L98) (p2:L103) (p3:L3) (p4:L3):Nat→S20→Option (L68×L68)
 | 0,_=>none
 | n+1,s=>T20 Ops.std c30 p0 p1 p2 p3 p4 (R20 c30 p0 p1 p2 p3 p4 n) some (some s)
theorem rr20 {R:Type} (c30:C30) (p0:L94) (p1:L98) (p2:L103) (p3:L3) (p4:L3) (k:AV→Objs→Option R):∀ (n:Nat) (s:S20),aloop tau Ops.std gl0 X20 (ent 30 (e30 c30) (gnil)) ow [] Tryz.f20 k (I20 s) (E20 p0 p1 p2 p3 p4 s) n=ob (R20 c30 p0 p1 p2 p3 p4 n s) (fun y=>k (.agg [.list 68 ty68 y.1,.list 68 ty68 y.2]) [])
 | 0,s=>by cases s<;>rfl
 | n+1,s=>by rw [el20];exact nt20 Ops.std c30 p0 p1 p2 p3 p4 _ _ some (fun y=>k (.agg [.list 68 ty68 y.1,.list 68 ty68 y.2]) []) (rr20 c30 p0 p1 p2 p3 p4 k n) (some s)
def F20 (c30:C30) (p0:L94) (p1:L98) (p2:L103) (p3:L3) (p4:L3):Option (L68×L68):=T20 Ops.std c30 p0 p1 p2 p3 p4 (R20 c30 p0 p1 p2 p3 p4 1000000) some none
theorem fo20 {R:Type} (c30:C30) (p0:L94) (p1:L98) (p2:L103) (p3:L3) (p4:L3) (k:AV→Objs→Option R):afun tau Ops.std gl0 X20 (ent 30 (e30 c30) (gnil)) ow Tryz.f20 [.agg [.list 94 ty94 p0,.list 98 ty98 p1,.list 103 ty103 p2],.c (.list 3 ty3 p3),.c (.list 3 ty3 p4)] [] k 1000000=ob (F20 c30 p0 p1 p2 p3 p4) (fun y=>k (.agg [.list 68 ty68 y.1,.list 68 ty68 y.2]) []):=by rw [eq20];exact nt20 Ops.std c30 p0 p1 p2 p3 p4 _ _ some (fun y=>k (.agg [.list 68 ty68 y.1,.list 68 ty68 y.2]) []) (rr20 c30 p0 p1 p2 p3 p4 k 1000000) none
def e20 {R:Type} (c:L94→L98→L103→L3→L3→Option (L68×L68)):Ent R:=fun args objs k=>
 oCons args fun a0 l0=>oAgg a0 fun x0=>cCons x0 fun z0_0 w0_0=>cList 94 ty94 z0_0 fun p0=>cCons w0_0 fun z0_1 w0_1=>cList 98 ty98 z0_1 fun p1=>cCons w0_1 fun z0_2 w0_2=>cList 103 ty103 z0_2 fun p2=>cNil w0_2 <| oCons l0 fun a1 l1=>oC a1 fun x1=>cList 3 ty3 x1 fun p3=>oCons l1 fun a2 l2=>oC a2 fun x2=>cList 3 ty3 x2 fun p4=>oNil l2 <| oNilO objs <| ob (c p0 p1 p2 p3 p4) fun y=>k (.agg [.list 68 ty68 y.1,.list 68 ty68 y.2]) []
abbrev Sp20 (c:L94→L98→L103→L3→L3→Option (L68×L68)):Prop:=∀ (p0:L94) (p1:L98) (p2:L103) (p3:L3) (p4:L3) (y:L68×L68),c p0 p1 p2 p3 p4=some y→Spec Tryz.prog gl0 20 [.agg [.list 94 ty94 p0,.list 98 ty98 p1,.list 103 ty103 p2],.c (.list 3 ty3 p3),.c (.list 3 ty3 p4)] [] (.agg [.list 68 ty68 y.1,.list 68 ty68 y.2]) []
theorem ek20 {R:Type} {c:L94→L98→L103→L3→L3→Option (L68×L68)} (hs:Sp20 c):EOk 20 (e20 (R:=R) c):=fun args objs k r h=>by
 unfold e20 at h
 obtain ⟨a0,l0,rfl,q1⟩:=qaa h
 obtain ⟨x0,rfl,q2⟩:=qax q1
 obtain ⟨z0_0,w0_0,rfl,q3⟩:=qad q2
 obtain ⟨p0,rfl,q4⟩:=qae q3
 obtain ⟨z0_1,w0_1,rfl,q5⟩:=qad q4
 obtain ⟨p1,rfl,q6⟩:=qae q5
 obtain ⟨z0_2,w0_2,rfl,q7⟩:=qad q6
 obtain ⟨p2,rfl,q8⟩:=qae q7
 obtain ⟨rfl,q9⟩:=qat q8
 obtain ⟨a1,l1,rfl,q10⟩:=qaa q9
 obtain ⟨x1,rfl,q11⟩:=qaj q10
 obtain ⟨p3,rfl,q12⟩:=qae q11
 obtain ⟨a2,l2,rfl,q13⟩:=qaa q12
 obtain ⟨x2,rfl,q14⟩:=qaj q13
 obtain ⟨p4,rfl,q15⟩:=qae q14
 obtain ⟨rfl,q16⟩:=qag q15
 obtain ⟨rfl,q17⟩:=qaf q16
 exact qar (hs p0 p1 p2 p3 p4) q17
theorem sf20 {c30:C30} (h30:Sp30 c30):Sp20 (F20 c30):=fun p0 p1 p2 p3 p4 y hy=>by
 refine qap (G:=ent 30 (e30 c30) (gnil)) (qai (ek30 h30) (qao)) 1000000 (fn:=Tryz.f20) (by kernel_rfl) (by kernel_rfl) (X:=X20) (by kernel_rfl) ?_
 rw [fo20,hy]
 rfl
noncomputable def M20:L94→L98→L103→L3→L3→Option (L68×L68):=F20 M30
theorem sm20:Sp20 M20:=sf20 sm30
def X139:Aux:=⟨[(4,([0,1,4]++rg 6 78)),(9,([0,1,4,5]++rg 7 77))],[(6,.lin (rg 0 21)),(11,.lin (rg 0 26))]⟩
inductive S139 where
 | l0 (v0_0:Int)
 | l1 (v1_0:Int)
def T139 {R:Type} (B:Ops) (p0:L94) (p1:L98) (p2:L103) (p3:L3) (p4:L3) (again:S139→Option R) (k:(Bool)→Option R):Option S139→Option R | none=>cond (!Ops.eq B (Nat.cast (List.length p3)) (Nat.cast (List.length p1))) (k false) (cond (!Ops.eq B (Nat.cast (List.length p4)) (Nat.cast (List.length p0))) (k false) (again (.l0 0))) | some (.l0 v0_0)=>cond (Ops.lt B v0_0 (Nat.cast (List.length p3))) (cond (Ops.inb B v0_0 (List.length p3)) (cond (Ops.lt B (List.getD p3 (Int.toNat v0_0) (Ty.dflt ty3)) (0)) (k false) (cond (Ops.inb B v0_0 (List.length p3)) (cond (Ops.inb B v0_0 (List.length p1)) (cond (Ops.le B (Nat.cast (List.length ((List.getD p1 (Int.toNat v0_0) (Ty.dflt ty98)).2))) (List.getD p3 (Int.toNat v0_0) (Ty.dflt ty3))) (k false) (again (.l0 (IntKind.wrap .i64 (v0_0+1))))) (none)) (none))) (none)) (again (.l1 0)) | some (.l1 v1_0)=>cond (Ops.lt B v1_0 (Nat.cast (List.length p4))) (cond (Ops.inb B v1_0 (List.length p4)) (cond (Ops.inb B v1_0 (List.length p0)) (cond (Ops.lt B (List.getD p4 (Int.toNat v1_0) (Ty.dflt ty3)) (((List.getD p0 (Int.toNat v1_0) (Ty.dflt ty94)).2).1)) (k false) (cond (Ops.inb B v1_0 (List.length p4)) (cond (Ops.inb B v1_0 (List.length p0)) (cond (Ops.lt B ((((List.getD p0 (Int.toNat v1_0) (Ty.dflt ty94)).2).2).1) (List.getD p4 (Int.toNat v1_0) (Ty.dflt ty3))) (k false) (again (.l1 (IntKind.wrap .i64 (v1_0+1))))) (none)) (none))) (none)) (none)) (k true)
def E139 (p0:L94) (p1:L98) (p2:L103) (p3:L3) (p4:L3):S139→List AV×Objs
 | .l0 v0_0=>(mk 84 [(2,.c (.ptr 2 0)),(3,.c (.ptr 3 0)),(5,.c (.int .i64 v0_0))],[(2,.box 31 [.list 94 ty94 p0,.list 98 ty98 p1,.list 103 ty103 p2]),(3,.box 57 [.list 3 ty3 p3,.list 3 ty3 p4])])
 | .l1 v1_0=>(mk 84 [(2,.c (.ptr 2 0)),(3,.c (.ptr 3 0)),(6,.c (.int .i64 v1_0))],[(2,.box 31 [.list 94 ty94 p0,.list 98 ty98 p1,.list 103 ty103 p2]),(3,.box 57 [.list 3 ty3 p3,.list 3 ty3 p4])])
def I139:S139→Nat
 | .l0 _=>0
 | .l1 _=>1
theorem eq139 {R:Type} (B:Ops) (p0:L94) (p1:L98) (p2:L103) (p3:L3) (p4:L3) (k:AV→Objs→Option R) (n:Nat):afun tau B gl0 X139 (gnil) ow Tryz.f139 [.agg [.list 94 ty94 p0,.list 98 ty98 p1,.list 103 ty103 p2],.agg [.list 3 ty3 p3,.list 3 ty3 p4]] [] k n=T139 B p0 p1 p2 p3 p4 (fun s=>aloop tau B gl0 X139 (gnil) ow [] Tryz.f139 k (I139 s) (E139 p0 p1 p2 p3 p4 s) n) (fun y=>k (.c (.bool y)) []) none:=by kernel_rfl
theorem el139 {R:Type} (B:Ops) (p0:L94) (p1:L98) (p2:L103) (p3:L3) (p4:L3) (k:AV→Objs→Option R) (n:Nat):∀ s,aloop tau B gl0 X139 (gnil) ow [] Tryz.f139 k (I139 s) (E139 p0 p1 p2 p3 p4 s) (n+1)=T139 B p0 p1 p2 p3 p4 (fun s=>aloop tau B gl0 X139 (gnil) ow [] Tryz.f139 k (I139 s) (E139 p0 p1 p2 p3 p4 s) n) (fun y=>k (.c (.bool y)) []) (some s)
 | .l0 v0_0=>by kernel_rfl
 | .l1 v1_0=>by kernel_rfl
theorem nt139 {R R':Type} (B:Ops) (p0:L94) (p1:L98) (p2:L103) (p3:L3) (p4:L3) (again:S139→Option R) (again':S139→Option R') (k0:(Bool)→Option R') (k:R'→Option R) (h:∀ s,again s=ob (again' s) k):∀ s,T139 B p0 p1 p2 p3 p4 again (fun y=>ob (k0 y) k) s=ob (T139 B p0 p1 p2 p3 p4 again' k0 s) k
 | none=>by unfold T139;repeat' first | exact rfl | exact h _ | apply qac | (apply qah;intro)
 | some (.l0 v0_0)=>by unfold T139;repeat' first | exact rfl | exact h _ | apply qac | (apply qah;intro)
 | some (.l1 v1_0)=>by unfold T139;repeat' first | exact rfl | exact h _ | apply qac | (apply qah;intro)
def R139 (p0:L94) (p1:L98) (p2:L103) (p3:L3) (p4:L3):Nat→S139→Option (Bool)
 | 0,_=>none
 | n+1,s=>T139 Ops.std p0 p1 p2 p3 p4 (R139 p0 p1 p2 p3 p4 n) some (some s)
theorem rr139 {R:Type} (p0:L94) (p1:L98) (p2:L103) (p3:L3) (p4:L3) (k:AV→Objs→Option R):∀ (n:Nat) (s:S139),aloop tau Ops.std gl0 X139 (gnil) ow [] Tryz.f139 k (I139 s) (E139 p0 p1 p2 p3 p4 s) n=ob (R139 p0 p1 p2 p3 p4 n s) (fun y=>k (.c (.bool y)) [])
 | 0,s=>by cases s<;>rfl
 | n+1,s=>by rw [el139];exact nt139 Ops.std p0 p1 p2 p3 p4 _ _ some (fun y=>k (.c (.bool y)) []) (rr139 p0 p1 p2 p3 p4 k n) (some s)
def F139 (p0:L94) (p1:L98) (p2:L103) (p3:L3) (p4:L3):Option (Bool):=T139 Ops.std p0 p1 p2 p3 p4 (R139 p0 p1 p2 p3 p4 1000000) some none
theorem fo139 {R:Type} (p0:L94) (p1:L98) (p2:L103) (p3:L3) (p4:L3) (k:AV→Objs→Option R):afun tau Ops.std gl0 X139 (gnil) ow Tryz.f139 [.agg [.list 94 ty94 p0,.list 98 ty98 p1,.list 103 ty103 p2],.agg [.list 3 ty3 p3,.list 3 ty3 p4]] [] k 1000000=ob (F139 p0 p1 p2 p3 p4) (fun y=>k (.c (.bool y)) []):=by rw [eq139];exact nt139 Ops.std p0 p1 p2 p3 p4 _ _ some (fun y=>k (.c (.bool y)) []) (rr139 p0 p1 p2 p3 p4 k 1000000) none
def e139 {R:Type} (c:L94→L98→L103→L3→L3→Option (Bool)):Ent R:=fun args objs k=>
 oCons args fun a0 l0=>oAgg a0 fun x0=>cCons x0 fun z0_0 w0_0=>cList 94 ty94 z0_0 fun p0=>cCons w0_0 fun z0_1 w0_1=>cList 98 ty98 z0_1 fun p1=>cCons w0_1 fun z0_2 w0_2=>cList 103 ty103 z0_2 fun p2=>cNil w0_2 <| oCons l0 fun a1 l1=>oAgg a1 fun x1=>cCons x1 fun z1_0 w1_0=>cList 3 ty3 z1_0 fun p3=>cCons w1_0 fun z1_1 w1_1=>cList 3 ty3 z1_1 fun p4=>cNil w1_1 <| oNil l1 <| oNilO objs <| ob (c p0 p1 p2 p3 p4) fun y=>k (.c (.bool y)) []
abbrev Sp139 (c:L94→L98→L103→L3→L3→Option (Bool)):Prop:=∀ (p0:L94) (p1:L98) (p2:L103) (p3:L3) (p4:L3) (y:Bool),c p0 p1 p2 p3 p4=some y→Spec Tryz.prog gl0 139 [.agg [.list 94 ty94 p0,.list 98 ty98 p1,.list 103 ty103 p2],.agg [.list 3 ty3 p3,.list 3 ty3 p4]] [] (.c (.bool y)) []
theorem ek139 {R:Type} {c:L94→L98→L103→L3→L3→Option (Bool)} (hs:Sp139 c):EOk 139 (e139 (R:=R) c):=fun args objs k r h=>by
 unfold e139 at h
 obtain ⟨a0,l0,rfl,q1⟩:=qaa h
 obtain ⟨x0,rfl,q2⟩:=qax q1
 obtain ⟨z0_0,w0_0,rfl,q3⟩:=qad q2
 obtain ⟨p0,rfl,q4⟩:=qae q3
 obtain ⟨z0_1,w0_1,rfl,q5⟩:=qad q4
 obtain ⟨p1,rfl,q6⟩:=qae q5
 obtain ⟨z0_2,w0_2,rfl,q7⟩:=qad q6
 obtain ⟨p2,rfl,q8⟩:=qae q7
 obtain ⟨rfl,q9⟩:=qat q8
 obtain ⟨a1,l1,rfl,q10⟩:=qaa q9
 obtain ⟨x1,rfl,q11⟩:=qax q10
 obtain ⟨z1_0,w1_0,rfl,q12⟩:=qad q11
 obtain ⟨p3,rfl,q13⟩:=qae q12
 obtain ⟨z1_1,w1_1,rfl,q14⟩:=qad q13
 obtain ⟨p4,rfl,q15⟩:=qae q14
 obtain ⟨rfl,q16⟩:=qat q15
 obtain ⟨rfl,q17⟩:=qag q16
 obtain ⟨rfl,q18⟩:=qaf q17
 exact qar (hs p0 p1 p2 p3 p4) q18
theorem sf139:Sp139 (F139):=fun p0 p1 p2 p3 p4 y hy=>by
 refine qap (G:=gnil) (qao) 1000000 (fn:=Tryz.f139) (by kernel_rfl) (by kernel_rfl) (X:=X139) (by kernel_rfl) ?_
 rw [fo139,hy]
 rfl
noncomputable def M139:L94→L98→L103→L3→L3→Option (Bool):=F139
theorem sm139:Sp139 M139:=sf139
def X81:Aux:=⟨[],[]⟩
abbrev C18:Type:=L94→L98→L103→Option (Bool)
abbrev C139:Type:=L94→L98→L103→L3→L3→Option (Bool)
def T81 {R:Type} (B:Ops) (c18:C18) (c139:C139) (p0:L94) (p1:L98) (p2:L103) (p3:L3) (p4:L3) (k:(Bool)→Option R):Option R:=ob (c18 p0 p1 p2) fun y0=>cond (!y0) (k false) (ob (c139 p0 p1 p2 p3 p4) fun y1=>k y1)
theorem eq81 {R:Type} (B:Ops) (c18:C18) (c139:C139) (p0:L94) (p1:L98) (p2:L103) (p3:L3) (p4:L3) (k:AV→Objs→Option R) (n:Nat):afun tau B gl0 X81 (ent 18 (e18 c18) (ent 139 (e139 c139) (gnil))) ow Tryz.f81 [.agg [.list 94 ty94 p0,.list 98 ty98 p1,.list 103 ty103 p2],.agg [.list 3 ty3 p3,.list 3 ty3 p4]] [] k n=T81 B c18 c139 p0 p1 p2 p3 p4 (fun y=>k (.c (.bool y)) []):=by kernel_rfl
theorem nt81 {R R':Type} (B:Ops) (c18:C18) (c139:C139) (p0:L94) (p1:L98) (p2:L103) (p3:L3) (p4:L3) (k0:(Bool)→Option R') (k:R'→Option R):T81 B c18 c139 p0 p1 p2 p3 p4 (fun y=>ob (k0 y) k)=ob (T81 B c18 c139 p0 p1 p2 p3 p4 k0) k:=by
 unfold T81
 repeat' first | exact rfl | apply qac | (apply qah;intro)
def F81 (c18:C18) (c139:C139) (p0:L94) (p1:L98) (p2:L103) (p3:L3) (p4:L3):Option (Bool):=T81 Ops.std c18 c139 p0 p1 p2 p3 p4 some
theorem fo81 {R:Type} (c18:C18) (c139:C139) (p0:L94) (p1:L98) (p2:L103) (p3:L3) (p4:L3) (k:AV→Objs→Option R) (n:Nat):afun tau Ops.std gl0 X81 (ent 18 (e18 c18) (ent 139 (e139 c139) (gnil))) ow Tryz.f81 [.agg [.list 94 ty94 p0,.list 98 ty98 p1,.list 103 ty103 p2],.agg [.list 3 ty3 p3,.list 3 ty3 p4]] [] k n=ob (F81 c18 c139 p0 p1 p2 p3 p4) (fun y=>k (.c (.bool y)) []):=by rw [eq81];exact nt81 Ops.std c18 c139 p0 p1 p2 p3 p4 some (fun y=>k (.c (.bool y)) [])
def e81 {R:Type} (c:L94→L98→L103→L3→L3→Option (Bool)):Ent R:=fun args objs k=>
 oCons args fun a0 l0=>oAgg a0 fun x0=>cCons x0 fun z0_0 w0_0=>cList 94 ty94 z0_0 fun p0=>cCons w0_0 fun z0_1 w0_1=>cList 98 ty98 z0_1 fun p1=>cCons w0_1 fun z0_2 w0_2=>cList 103 ty103 z0_2 fun p2=>cNil w0_2 <| oCons l0 fun a1 l1=>oAgg a1 fun x1=>cCons x1 fun z1_0 w1_0=>cList 3 ty3 z1_0 fun p3=>cCons w1_0 fun z1_1 w1_1=>cList 3 ty3 z1_1 fun p4=>cNil w1_1 <| oNil l1 <| oNilO objs <| ob (c p0 p1 p2 p3 p4) fun y=>k (.c (.bool y)) []
abbrev Sp81 (c:L94→L98→L103→L3→L3→Option (Bool)):Prop:=∀ (p0:L94) (p1:L98) (p2:L103) (p3:L3) (p4:L3) (y:Bool),c p0 p1 p2 p3 p4=some y→Spec Tryz.prog gl0 81 [.agg [.list 94 ty94 p0,.list 98 ty98 p1,.list 103 ty103 p2],.agg [.list 3 ty3 p3,.list 3 ty3 p4]] [] (.c (.bool y)) []
theorem ek81 {R:Type} {c:L94→L98→L103→L3→L3→Option (Bool)} (hs:Sp81 c):EOk 81 (e81 (R:=R) c):=fun args objs k r h=>by
 unfold e81 at h
 obtain ⟨a0,l0,rfl,q1⟩:=qaa h
 obtain ⟨x0,rfl,q2⟩:=qax q1
 obtain ⟨z0_0,w0_0,rfl,q3⟩:=qad q2
 obtain ⟨p0,rfl,q4⟩:=qae q3
 obtain ⟨z0_1,w0_1,rfl,q5⟩:=qad q4
 obtain ⟨p1,rfl,q6⟩:=qae q5
 obtain ⟨z0_2,w0_2,rfl,q7⟩:=qad q6
 obtain ⟨p2,rfl,q8⟩:=qae q7
 obtain ⟨rfl,q9⟩:=qat q8
 obtain ⟨a1,l1,rfl,q10⟩:=qaa q9
 obtain ⟨x1,rfl,q11⟩:=qax q10
 obtain ⟨z1_0,w1_0,rfl,q12⟩:=qad q11
 obtain ⟨p3,rfl,q13⟩:=qae q12
 obtain ⟨z1_1,w1_1,rfl,q14⟩:=qad q13
 obtain ⟨p4,rfl,q15⟩:=qae q14
 obtain ⟨rfl,q16⟩:=qat q15
 obtain ⟨rfl,q17⟩:=qag q16
 obtain ⟨rfl,q18⟩:=qaf q17
 exact qar (hs p0 p1 p2 p3 p4) q18
theorem sf81 {c18:C18} {c139:C139} (h18:Sp18 c18) (h139:Sp139 c139):Sp81 (F81 c18 c139):=fun p0 p1 p2 p3 p4 y hy=>by
 refine qap (G:=ent 18 (e18 c18) (ent 139 (e139 c139) (gnil))) (qai (ek18 h18) (qai (ek139 h139) (qao))) 1000000 (fn:=Tryz.f81) (by kernel_rfl) (by kernel_rfl) (X:=X81) (by kernel_rfl) ?_
 rw [fo81,hy]
 rfl
noncomputable def M81:L94→L98→L103→L3→L3→Option (Bool):=F81 M18 M139
theorem sm81:Sp81 M81:=sf81 sm18 sm139
def X42:Aux:=⟨[(4,([0,1,4]++rg 6 37))],[(6,.lin [0,1,2,3,4,5,6])]⟩
inductive S42 where
 | l0 (v0_0:Int)
abbrev C65:Type:=L68→L68→Int→Option (L3×L3×L3)
abbrev C81:Type:=L94→L98→L103→L3→L3→Option (Bool)
def T42 {R:Type} (B:Ops) (c18:C18) (c65:C65) (c81:C81) (p0:L94) (p1:L98) (p2:L103) (p3:L68) (p4:L68) (again:S42→Option R) (k:(Bool)→Option R):Option S42→Option R | none=>ob (c18 p0 p1 p2) fun y0=>cond (!y0) (k false) (cond (Ops.lt B (Nat.cast (List.length p4)) (1)) (k false) (cond (Ops.lt B (2000) (IntKind.wrap .i64 (Nat.cast (List.length p3)+Nat.cast (List.length p4)))) (k false) (again (.l0 0)))) | some (.l0 v0_0)=>cond (Ops.lt B v0_0 (IntKind.wrap .i64 (Nat.cast (List.length p3)+Nat.cast (List.length p4)))) (ob (c65 p3 p4 v0_0) fun y0=>ob (c81 p0 p1 p2 y0.1 y0.2.1) fun y1=>cond (!y1) (k false) (again (.l0 (IntKind.wrap .i64 (v0_0+1))))) (k true)
def E42 (p0:L94) (p1:L98) (p2:L103) (p3:L68) (p4:L68):S42→List AV×Objs
 | .l0 v0_0=>(mk 43 [(2,.c (.ptr 2 0)),(3,.c (.ptr 3 0)),(5,.c (.int .i64 v0_0))],[(2,.box 31 [.list 94 ty94 p0,.list 98 ty98 p1,.list 103 ty103 p2]),(3,.box 41 [.list 68 ty68 p3,.list 68 ty68 p4])])
def I42:S42→Nat
 | .l0 _=>0
theorem eq42 {R:Type} (B:Ops) (c18:C18) (c65:C65) (c81:C81) (p0:L94) (p1:L98) (p2:L103) (p3:L68) (p4:L68) (k:AV→Objs→Option R) (n:Nat):afun tau B gl0 X42 (ent 18 (e18 c18) (ent 65 (e65 c65) (ent 81 (e81 c81) (gnil)))) ow Tryz.f42 [.agg [.list 94 ty94 p0,.list 98 ty98 p1,.list 103 ty103 p2],.agg [.list 68 ty68 p3,.list 68 ty68 p4]] [] k n=T42 B c18 c65 c81 p0 p1 p2 p3 p4 (fun s=>aloop tau B gl0 X42 (ent 18 (e18 c18) (ent 65 (e65 c65) (ent 81 (e81 c81) (gnil)))) ow [] Tryz.f42 k (I42 s) (E42 p0 p1 p2 p3 p4 s) n) (fun y=>k (.c (.bool y)) []) none:=by kernel_rfl
theorem el42 {R:Type} (B:Ops) (c18:C18) (c65:C65) (c81:C81) (p0:L94) (p1:L98) (p2:L103) (p3:L68) (p4:L68) (k:AV→Objs→Option R) (n:Nat):∀ s,aloop tau B gl0 X42 (ent 18 (e18 c18) (ent 65 (e65 c65) (ent 81 (e81 c81) (gnil)))) ow [] Tryz.f42 k (I42 s) (E42 p0 p1 p2 p3 p4 s) (n+1)=T42 B c18 c65 c81 p0 p1 p2 p3 p4 (fun s=>aloop tau B gl0 X42 (ent 18 (e18 c18) (ent 65 (e65 c65) (ent 81 (e81 c81) (gnil)))) ow [] Tryz.f42 k (I42 s) (E42 p0 p1 p2 p3 p4 s) n) (fun y=>k (.c (.bool y)) []) (some s)
 | .l0 v0_0=>by kernel_rfl
theorem nt42 {R R':Type} (B:Ops) (c18:C18) (c65:C65) (c81:C81) (p0:L94) (p1:L98) (p2:L103) (p3:L68) (p4:L68) (again:S42→Option R) (again':S42→Option R') (k0:(Bool)→Option R') (k:R'→Option R) (h:∀ s,again s=ob (again' s) k):∀ s,T42 B c18 c65 c81 p0 p1 p2 p3 p4 again (fun y=>ob (k0 y) k) s=ob (T42 B c18 c65 c81 p0 p1 p2 p3 p4 again' k0 s) k
 | none=>by unfold T42;repeat' first | exact rfl | exact h _ | apply qac | (apply qah;intro)
 | some (.l0 v0_0)=>by unfold T42;repeat' first | exact rfl | exact h _ | apply qac | (apply qah;intro)
def R42 (c18:C18) (c65:C65) (c81:C81) (p0:L94) (p1:L98) (p2:L103) (p3:L68) (p4:L68):Nat→S42→Option (Bool)
 | 0,_=>none
 | n+1,s=>T42 Ops.std c18 c65 c81 p0 p1 p2 p3 p4 (R42 c18 c65 c81 p0 p1 p2 p3 p4 n) some (some s)
theorem rr42 {R:Type} (c18:C18) (c65:C65) (c81:C81) (p0:L94) (p1:L98) (p2:L103) (p3:L68) (p4:L68) (k:AV→Objs→Option R):∀ (n:Nat) (s:S42),aloop tau Ops.std gl0 X42 (ent 18 (e18 c18) (ent 65 (e65 c65) (ent 81 (e81 c81) (gnil)))) ow [] Tryz.f42 k (I42 s) (E42 p0 p1 p2 p3 p4 s) n=ob (R42 c18 c65 c81 p0 p1 p2 p3 p4 n s) (fun y=>k (.c (.bool y)) [])
 | 0,s=>by cases s<;>rfl
 | n+1,s=>by rw [el42];exact nt42 Ops.std c18 c65 c81 p0 p1 p2 p3 p4 _ _ some (fun y=>k (.c (.bool y)) []) (rr42 c18 c65 c81 p0 p1 p2 p3 p4 k n) (some s)
def F42 (c18:C18) (c65:C65) (c81:C81) (p0:L94) (p1:L98) (p2:L103) (p3:L68) (p4:L68):Option (Bool):=T42 Ops.std c18 c65 c81 p0 p1 p2 p3 p4 (R42 c18 c65 c81 p0 p1 p2 p3 p4 1000000) some none
theorem fo42 {R:Type} (c18:C18) (c65:C65) (c81:C81) (p0:L94) (p1:L98) (p2:L103) (p3:L68) (p4:L68) (k:AV→Objs→Option R):afun tau Ops.std gl0 X42 (ent 18 (e18 c18) (ent 65 (e65 c65) (ent 81 (e81 c81) (gnil)))) ow Tryz.f42 [.agg [.list 94 ty94 p0,.list 98 ty98 p1,.list 103 ty103 p2],.agg [.list 68 ty68 p3,.list 68 ty68 p4]] [] k 1000000=ob (F42 c18 c65 c81 p0 p1 p2 p3 p4) (fun y=>k (.c (.bool y)) []):=by rw [eq42];exact nt42 Ops.std c18 c65 c81 p0 p1 p2 p3 p4 _ _ some (fun y=>k (.c (.bool y)) []) (rr42 c18 c65 c81 p0 p1 p2 p3 p4 k 1000000) none
def e42 {R:Type} (c:L94→L98→L103→L68→L68→Option (Bool)):Ent R:=fun args objs k=>
 oCons args fun a0 l0=>oAgg a0 fun x0=>cCons x0 fun z0_0 w0_0=>cList 94 ty94 z0_0 fun p0=>cCons w0_0 fun z0_1 w0_1=>cList 98 ty98 z0_1 fun p1=>cCons w0_1 fun z0_2 w0_2=>cList 103 ty103 z0_2 fun p2=>cNil w0_2 <| oCons l0 fun a1 l1=>oAgg a1 fun x1=>cCons x1 fun z1_0 w1_0=>cList 68 ty68 z1_0 fun p3=>cCons w1_0 fun z1_1 w1_1=>cList 68 ty68 z1_1 fun p4=>cNil w1_1 <| oNil l1 <| oNilO objs <| ob (c p0 p1 p2 p3 p4) fun y=>k (.c (.bool y)) []
abbrev Sp42 (c:L94→L98→L103→L68→L68→Option (Bool)):Prop:=∀ (p0:L94) (p1:L98) (p2:L103) (p3:L68) (p4:L68) (y:Bool),c p0 p1 p2 p3 p4=some y→Spec Tryz.prog gl0 42 [.agg [.list 94 ty94 p0,.list 98 ty98 p1,.list 103 ty103 p2],.agg [.list 68 ty68 p3,.list 68 ty68 p4]] [] (.c (.bool y)) []
theorem ek42 {R:Type} {c:L94→L98→L103→L68→L68→Option (Bool)} (hs:Sp42 c):EOk 42 (e42 (R:=R) c):=fun args objs k r h=>by
 unfold e42 at h
 obtain ⟨a0,l0,rfl,q1⟩:=qaa h
 obtain ⟨x0,rfl,q2⟩:=qax q1
 obtain ⟨z0_0,w0_0,rfl,q3⟩:=qad q2
 obtain ⟨p0,rfl,q4⟩:=qae q3
 obtain ⟨z0_1,w0_1,rfl,q5⟩:=qad q4
 obtain ⟨p1,rfl,q6⟩:=qae q5
 obtain ⟨z0_2,w0_2,rfl,q7⟩:=qad q6
 obtain ⟨p2,rfl,q8⟩:=qae q7
 obtain ⟨rfl,q9⟩:=qat q8
 obtain ⟨a1,l1,rfl,q10⟩:=qaa q9
 obtain ⟨x1,rfl,q11⟩:=qax q10
 obtain ⟨z1_0,w1_0,rfl,q12⟩:=qad q11
 obtain ⟨p3,rfl,q13⟩:=qae q12
 obtain ⟨z1_1,w1_1,rfl,q14⟩:=qad q13
 obtain ⟨p4,rfl,q15⟩:=qae q14
 obtain ⟨rfl,q16⟩:=qat q15
 obtain ⟨rfl,q17⟩:=qag q16
 obtain ⟨rfl,q18⟩:=qaf q17
 exact qar (hs p0 p1 p2 p3 p4) q18
theorem sf42 {c18:C18} {c65:C65} {c81:C81} (h18:Sp18 c18) (h65:Sp65 c65) (h81:Sp81 c81):Sp42 (F42 c18 c65 c81):=fun p0 p1 p2 p3 p4 y hy=>by
 refine qap (G:=ent 18 (e18 c18) (ent 65 (e65 c65) (ent 81 (e81 c81) (gnil)))) (qai (ek18 h18) (qai (ek65 h65) (qai (ek81 h81) (qao)))) 1000000 (fn:=Tryz.f42) (by kernel_rfl) (by kernel_rfl) (X:=X42) (by kernel_rfl) ?_
 rw [fo42,hy]
 rfl
noncomputable def M42:L94→L98→L103→L68→L68→Option (Bool):=F42 M18 M65 M81
theorem sm42:Sp42 M42:=sf42 sm18 sm65 sm81
def X111:Aux:=⟨[],[]⟩
def T111 {R:Type} (B:Ops) (p0:Int) (k:(Int)→Option R):Option R:=k (bif true then bif Ops.lt B (-99999) (bif false then bif Ops.lt B (99999) p0 then p0 else 99999 else bif Ops.lt B p0 (99999) then p0 else 99999) then bif false then bif Ops.lt B (99999) p0 then p0 else 99999 else bif Ops.lt B p0 (99999) then p0 else 99999 else -99999 else bif Ops.lt B (bif false then bif Ops.lt B (99999) p0 then p0 else 99999 else bif Ops.lt B p0 (99999) then p0 else 99999) (-99999) then bif false then bif Ops.lt B (99999) p0 then p0 else 99999 else bif Ops.lt B p0 (99999) then p0 else 99999 else -99999)
theorem eq111 {R:Type} (B:Ops) (p0:Int) (k:AV→Objs→Option R) (n:Nat):afun tau B gl0 X111 (gnil) ow Tryz.f111 [.c (.int .i64 p0)] [] k n=T111 B p0 (fun y=>k (.c (.int .i64 y)) []):=by kernel_rfl
theorem nt111 {R R':Type} (B:Ops) (p0:Int) (k0:(Int)→Option R') (k:R'→Option R):T111 B p0 (fun y=>ob (k0 y) k)=ob (T111 B p0 k0) k:=by
 unfold T111
 repeat' first | exact rfl | apply qac | (apply qah;intro)
def F111 (p0:Int):Option (Int):=T111 Ops.std p0 some
theorem fo111 {R:Type} (p0:Int) (k:AV→Objs→Option R) (n:Nat):afun tau Ops.std gl0 X111 (gnil) ow Tryz.f111 [.c (.int .i64 p0)] [] k n=ob (F111 p0) (fun y=>k (.c (.int .i64 y)) []):=by rw [eq111];exact nt111 Ops.std p0 some (fun y=>k (.c (.int .i64 y)) [])
def e111 {R:Type} (c:Int→Option (Int)):Ent R:=fun args objs k=>
 oCons args fun a0 l0=>oC a0 fun x0=>cInt .i64 x0 fun p0=>oNil l0 <| oNilO objs <| ob (c p0) fun y=>k (.c (.int .i64 y)) []
abbrev Sp111 (c:Int→Option (Int)):Prop:=∀ (p0:Int) (y:Int),c p0=some y→Spec Tryz.prog gl0 111 [.c (.int .i64 p0)] [] (.c (.int .i64 y)) []
theorem ek111 {R:Type} {c:Int→Option (Int)} (hs:Sp111 c):EOk 111 (e111 (R:=R) c):=fun args objs k r h=>by
 unfold e111 at h
 obtain ⟨a0,l0,rfl,q1⟩:=qaa h
 obtain ⟨x0,rfl,q2⟩:=qaj q1
 obtain ⟨p0,rfl,q3⟩:=qal q2
 obtain ⟨rfl,q4⟩:=qag q3
 obtain ⟨rfl,q5⟩:=qaf q4
 exact qar (hs p0) q5
theorem sf111:Sp111 (F111):=fun p0 y hy=>by
 refine qap (G:=gnil) (qao) 1000000 (fn:=Tryz.f111) (by kernel_rfl) (by kernel_rfl) (X:=X111) (by kernel_rfl) ?_
 rw [fo111,hy]
 rfl
noncomputable def M111:Int→Option (Int):=F111
theorem sm111:Sp111 M111:=sf111
def X112:Aux:=⟨[],[]⟩
def T112 {R:Type} (B:Ops) (p0:Bool) (k:(Int)→Option R):Option R:=cond (p0) (k 1) (k 0)
theorem eq112 {R:Type} (B:Ops) (p0:Bool) (k:AV→Objs→Option R) (n:Nat):afun tau B gl0 X112 (gnil) ow Tryz.f112 [.c (.bool p0)] [] k n=T112 B p0 (fun y=>k (.c (.int .i64 y)) []):=by kernel_rfl
theorem nt112 {R R':Type} (B:Ops) (p0:Bool) (k0:(Int)→Option R') (k:R'→Option R):T112 B p0 (fun y=>ob (k0 y) k)=ob (T112 B p0 k0) k:=by
 unfold T112
 repeat' first | exact rfl | apply qac | (apply qah;intro)
def F112 (p0:Bool):Option (Int):=T112 Ops.std p0 some
theorem fo112 {R:Type} (p0:Bool) (k:AV→Objs→Option R) (n:Nat):afun tau Ops.std gl0 X112 (gnil) ow Tryz.f112 [.c (.bool p0)] [] k n=ob (F112 p0) (fun y=>k (.c (.int .i64 y)) []):=by rw [eq112];exact nt112 Ops.std p0 some (fun y=>k (.c (.int .i64 y)) [])
def e112 {R:Type} (c:Bool→Option (Int)):Ent R:=fun args objs k=>
 oCons args fun a0 l0=>oC a0 fun x0=>cBool x0 fun p0=>oNil l0 <| oNilO objs <| ob (c p0) fun y=>k (.c (.int .i64 y)) []
abbrev Sp112 (c:Bool→Option (Int)):Prop:=∀ (p0:Bool) (y:Int),c p0=some y→Spec Tryz.prog gl0 112 [.c (.bool p0)] [] (.c (.int .i64 y)) []
theorem ek112 {R:Type} {c:Bool→Option (Int)} (hs:Sp112 c):EOk 112 (e112 (R:=R) c):=fun args objs k r h=>by
 unfold e112 at h
 obtain ⟨a0,l0,rfl,q1⟩:=qaa h
 obtain ⟨x0,rfl,q2⟩:=qaj q1
 obtain ⟨p0,rfl,q3⟩:=qc4 q2
 obtain ⟨rfl,q4⟩:=qag q3
 obtain ⟨rfl,q5⟩:=qaf q4
 exact qar (hs p0) q5
theorem sf112:Sp112 (F112):=fun p0 y hy=>by
 refine qap (G:=gnil) (qao) 1000000 (fn:=Tryz.f112) (by kernel_rfl) (by kernel_rfl) (X:=X112) (by kernel_rfl) ?_
 rw [fo112,hy]
 rfl
noncomputable def M112:Bool→Option (Int):=F112
theorem sm112:Sp112 M112:=sf112
def X113:Aux:=⟨[],[]⟩
abbrev C111:Type:=Int→Option (Int)
abbrev C112:Type:=Bool→Option (Int)
def T113 {R:Type} (B:Ops) (c111:C111) (c112:C112) (p0:Int) (p1:Int) (p2:Int) (k:(Int)→Option R):Option R:=cond (Ops.eq B p0 (6)) (ob (c111 (IntKind.wrap .i64 (p1*p2))) fun y0=>k y0) (cond (Ops.eq B p0 (7)) (ob (c111 (IntKind.wrap .i64 (p1+p2))) fun y0=>k y0) (cond (Ops.eq B p0 (8)) (ob (c111 (IntKind.wrap .i64 (p1-p2))) fun y0=>k y0) (cond (Ops.eq B p0 (9)) (ob (c112 (Ops.lt B p1 p2)) fun y0=>k y0) (cond (Ops.eq B p0 (10)) (ob (c112 (Ops.le B p1 p2)) fun y0=>k y0) (cond (Ops.eq B p0 (11)) (ob (c112 (Ops.lt B p2 p1)) fun y0=>k y0) (cond (Ops.eq B p0 (12)) (ob (c112 (Ops.le B p2 p1)) fun y0=>k y0) (cond (Ops.eq B p0 (13)) (ob (c112 (Ops.eq B p1 p2)) fun y0=>k y0) (cond (Ops.eq B p0 (14)) (ob (c112 !Ops.eq B p1 p2) fun y0=>k y0) (cond (Ops.eq B p0 (15)) (cond (!Ops.eq B p1 (0)) (ob (c112 !Ops.eq B p2 (0)) fun y0=>k y0) (ob (c112 false) fun y0=>k y0)) (cond (!Ops.eq B p1 (0)) (ob (c112 true) fun y0=>k y0) (ob (c112 !Ops.eq B p2 (0)) fun y0=>k y0)))))))))))
theorem eq113 {R:Type} (B:Ops) (c111:C111) (c112:C112) (p0:Int) (p1:Int) (p2:Int) (k:AV→Objs→Option R) (n:Nat):afun tau B gl0 X113 (ent 111 (e111 c111) (ent 112 (e112 c112) (gnil))) ow Tryz.f113 [.c (.int .i64 p0),.c (.int .i64 p1),.c (.int .i64 p2)] [] k n=T113 B c111 c112 p0 p1 p2 (fun y=>k (.c (.int .i64 y)) []):=by kernel_rfl
theorem nt113 {R R':Type} (B:Ops) (c111:C111) (c112:C112) (p0:Int) (p1:Int) (p2:Int) (k0:(Int)→Option R') (k:R'→Option R):T113 B c111 c112 p0 p1 p2 (fun y=>ob (k0 y) k)=ob (T113 B c111 c112 p0 p1 p2 k0) k:=by
 unfold T113
 repeat' first | exact rfl | apply qac | (apply qah;intro)
def F113 (c111:C111) (c112:C112) (p0:Int) (p1:Int) (p2:Int):Option (Int):=T113 Ops.std c111 c112 p0 p1 p2 some
theorem fo113 {R:Type} (c111:C111) (c112:C112) (p0:Int) (p1:Int) (p2:Int) (k:AV→Objs→Option R) (n:Nat):afun tau Ops.std gl0 X113 (ent 111 (e111 c111) (ent 112 (e112 c112) (gnil))) ow Tryz.f113 [.c (.int .i64 p0),.c (.int .i64 p1),.c (.int .i64 p2)] [] k n=ob (F113 c111 c112 p0 p1 p2) (fun y=>k (.c (.int .i64 y)) []):=by rw [eq113];exact nt113 Ops.std c111 c112 p0 p1 p2 some (fun y=>k (.c (.int .i64 y)) [])
def e113 {R:Type} (c:Int→Int→Int→Option (Int)):Ent R:=fun args objs k=>
 oCons args fun a0 l0=>oC a0 fun x0=>cInt .i64 x0 fun p0=>oCons l0 fun a1 l1=>oC a1 fun x1=>cInt .i64 x1 fun p1=>oCons l1 fun a2 l2=>oC a2 fun x2=>cInt .i64 x2 fun p2=>oNil l2 <| oNilO objs <| ob (c p0 p1 p2) fun y=>k (.c (.int .i64 y)) []
abbrev Sp113 (c:Int→Int→Int→Option (Int)):Prop:=∀ (p0:Int) (p1:Int) (p2:Int) (y:Int),c p0 p1 p2=some y→Spec Tryz.prog gl0 113 [.c (.int .i64 p0),.c (.int .i64 p1),.c (.int .i64 p2)] [] (.c (.int .i64 y)) []
theorem ek113 {R:Type} {c:Int→Int→Int→Option (Int)} (hs:Sp113 c):EOk 113 (e113 (R:=R) c):=fun args objs k r h=>by
 unfold e113 at h
 obtain ⟨a0,l0,rfl,q1⟩:=qaa h
 obtain ⟨x0,rfl,q2⟩:=qaj q1
 obtain ⟨p0,rfl,q3⟩:=qal q2
 obtain ⟨a1,l1,rfl,q4⟩:=qaa q3
 obtain ⟨x1,rfl,q5⟩:=qaj q4
 obtain ⟨p1,rfl,q6⟩:=qal q5
 obtain ⟨a2,l2,rfl,q7⟩:=qaa q6
 obtain ⟨x2,rfl,q8⟩:=qaj q7
 obtain ⟨p2,rfl,q9⟩:=qal q8
 obtain ⟨rfl,q10⟩:=qag q9
 obtain ⟨rfl,q11⟩:=qaf q10
 exact qar (hs p0 p1 p2) q11
theorem sf113 {c111:C111} {c112:C112} (h111:Sp111 c111) (h112:Sp112 c112):Sp113 (F113 c111 c112):=fun p0 p1 p2 y hy=>by
 refine qap (G:=ent 111 (e111 c111) (ent 112 (e112 c112) (gnil))) (qai (ek111 h111) (qai (ek112 h112) (qao))) 1000000 (fn:=Tryz.f113) (by kernel_rfl) (by kernel_rfl) (X:=X113) (by kernel_rfl) ?_
 rw [fo113,hy]
 rfl
noncomputable def M113:Int→Int→Int→Option (Int):=F113 M111 M112
theorem sm113:Sp113 M113:=sf113 sm111 sm112
def X64:Aux:=⟨[(5,([0,1,5,6]++rg 9 148))],[(16,.lin (rg 0 13)),(19,.lin (rg 0 16)),(23,.lin (rg 0 16)),(27,.lin (rg 0 16)),(12,.lin (rg 0 22))]⟩
inductive S64 where
 | l0 (v0_1:Int) (v0_7:L3)
abbrev C113:Type:=Int→Int→Int→Option (Int)
def T64 {R:Type} (B:Ops) (c62:C62) (c109:C109) (c111:C111) (c105:C105) (c108:C108) (c112:C112) (c113:C113) (p0:L94) (p1:L98) (p2:L103) (p3:L3) (p4:L3) (p5:L150) (again:S64→Option R) (k:(Int)→Option R):Option S64→Option R | none=>ob (c62 p0 p1 p2 p5) fun y0=>cond (!y0) (k 0) (cond (!Ops.eq B (Nat.cast (List.length p3)) (Nat.cast (List.length p1))) (k 0) (cond (!Ops.eq B (Nat.cast (List.length p4)) (Nat.cast (List.length p0))) (k 0) (again (.l0 0 (mt (Ty.den (Ty.int .i64))))))) | some (.l0 v0_1 v0_7)=>cond (Ops.lt B v0_1 (Nat.cast (List.length p5))) (cond (Ops.inb B v0_1 (List.length p5)) (cond (Ops.eq B ((List.getD p5 (Int.toNat v0_1) (Ty.dflt ty150)).1) (1)) (cond (Ops.lim B (List.length v0_7+List.length (((List.getD p5 (Int.toNat v0_1) (Ty.dflt ty150)).2).1::mt (Ty.den (Ty.int .i64)))) (8)) (again (.l0 (IntKind.wrap .i64 (v0_1+1)) (v0_7++((List.getD p5 (Int.toNat v0_1) (Ty.dflt ty150)).2).1::mt (Ty.den (Ty.int .i64))))) (none)) (cond (Ops.eq B ((List.getD p5 (Int.toNat v0_1) (Ty.dflt ty150)).1) (2)) (ob (c109 p0 p1 p2 ((((List.getD p5 (Int.toNat v0_1) (Ty.dflt ty150)).2).2).1)) fun y0=>cond (Ops.inb B y0 (List.length p4)) (ob (c111 (List.getD p4 (Int.toNat y0) (Ty.dflt ty3))) fun y1=>cond (Ops.lim B (List.length v0_7+List.length (y1::mt (Ty.den (Ty.int .i64)))) (8)) (again (.l0 (IntKind.wrap .i64 (v0_1+1)) (v0_7++y1::mt (Ty.den (Ty.int .i64))))) (none)) (none)) (cond (Ops.eq B ((List.getD p5 (Int.toNat v0_1) (Ty.dflt ty150)).1) (3)) (ob (c105 p0 p1 p2 ((((List.getD p5 (Int.toNat v0_1) (Ty.dflt ty150)).2).2).1)) fun y0=>cond (Ops.inb B y0 (List.length p3)) (ob (c108 p0 p1 p2 y0 ((((List.getD p5 (Int.toNat v0_1) (Ty.dflt ty150)).2).2).2)) fun y1=>ob (c112 (Ops.eq B (List.getD p3 (Int.toNat y0) (Ty.dflt ty3)) y1)) fun y2=>cond (Ops.lim B (List.length v0_7+List.length (y2::mt (Ty.den (Ty.int .i64)))) (8)) (again (.l0 (IntKind.wrap .i64 (v0_1+1)) (v0_7++y2::mt (Ty.den (Ty.int .i64))))) (none)) (none)) (cond (Ops.eq B ((List.getD p5 (Int.toNat v0_1) (Ty.dflt ty150)).1) (4)) (cond (Ops.lt B (Nat.cast (List.length v0_7)) (1)) (k 0) (cond (Ops.eq B (IntKind.wrap .i64 (Nat.cast (List.length v0_7)-1)) (IntKind.wrap .i64 (Nat.cast (List.length v0_7)-1))) (cond (Ops.inb B (IntKind.wrap .i64 (Nat.cast (List.length v0_7)-1)) (List.length v0_7+1)) (cond (Ops.inb B (IntKind.wrap .i64 (Nat.cast (List.length v0_7)-1)) (List.length v0_7)) (ob (c112 (Ops.eq B (List.getD v0_7 (Int.toNat (IntKind.wrap .i64 (Nat.cast (List.length v0_7)-1))) (Ty.dflt ty3)) (0))) fun y0=>cond (Ops.lt B (0) (Nat.cast (List.length (y0::mt (Ty.den (Ty.int .i64)))))) (cond (Ops.lim B (List.length (List.take (Int.toNat (IntKind.wrap .i64 (Nat.cast (List.length v0_7)-1))) v0_7)+List.length (y0::mt (Ty.den (Ty.int .i64)))) (8)) (again (.l0 (IntKind.wrap .i64 (v0_1+1)) (List.take (Int.toNat (IntKind.wrap .i64 (Nat.cast (List.length v0_7)-1))) v0_7++y0::mt (Ty.den (Ty.int .i64))))) (none)) (none)) (none)) (none)) (none))) (cond (Ops.eq B ((List.getD p5 (Int.toNat v0_1) (Ty.dflt ty150)).1) (5)) (cond (Ops.lt B (Nat.cast (List.length v0_7)) (1)) (k 0) (cond (Ops.eq B (IntKind.wrap .i64 (Nat.cast (List.length v0_7)-1)) (IntKind.wrap .i64 (Nat.cast (List.length v0_7)-1))) (cond (Ops.inb B (IntKind.wrap .i64 (Nat.cast (List.length v0_7)-1)) (List.length v0_7+1)) (cond (Ops.inb B (IntKind.wrap .i64 (Nat.cast (List.length v0_7)-1)) (List.length v0_7)) (ob (c111 (IntKind.wrap .i64 (0-List.getD v0_7 (Int.toNat (IntKind.wrap .i64 (Nat.cast (List.length v0_7)-1))) (Ty.dflt ty3)))) fun y0=>cond (Ops.lt B (0) (Nat.cast (List.length (y0::mt (Ty.den (Ty.int .i64)))))) (cond (Ops.lim B (List.length (List.take (Int.toNat (IntKind.wrap .i64 (Nat.cast (List.length v0_7)-1))) v0_7)+List.length (y0::mt (Ty.den (Ty.int .i64)))) (8)) (again (.l0 (IntKind.wrap .i64 (v0_1+1)) (List.take (Int.toNat (IntKind.wrap .i64 (Nat.cast (List.length v0_7)-1))) v0_7++y0::mt (Ty.den (Ty.int .i64))))) (none)) (none)) (none)) (none)) (none))) (cond (Ops.lt B (Nat.cast (List.length v0_7)) (2)) (k 0) (cond (Ops.eq B (IntKind.wrap .i64 (Nat.cast (List.length v0_7)-2)) (IntKind.wrap .i64 (Nat.cast (List.length v0_7)-2))) (cond (Ops.inb B (IntKind.wrap .i64 (Nat.cast (List.length v0_7)-2)) (List.length v0_7+1)) (cond (Ops.inb B (IntKind.wrap .i64 (Nat.cast (List.length v0_7)-2)) (List.length v0_7)) (cond (Ops.inb B (IntKind.wrap .i64 (Nat.cast (List.length v0_7)-1)) (List.length v0_7)) (ob (c113 ((List.getD p5 (Int.toNat v0_1) (Ty.dflt ty150)).1) (List.getD v0_7 (Int.toNat (IntKind.wrap .i64 (Nat.cast (List.length v0_7)-2))) (Ty.dflt ty3)) (List.getD v0_7 (Int.toNat (IntKind.wrap .i64 (Nat.cast (List.length v0_7)-1))) (Ty.dflt ty3))) fun y0=>cond (Ops.lt B (0) (Nat.cast (List.length (y0::mt (Ty.den (Ty.int .i64)))))) (cond (Ops.lim B (List.length (List.take (Int.toNat (IntKind.wrap .i64 (Nat.cast (List.length v0_7)-2))) v0_7)+List.length (y0::mt (Ty.den (Ty.int .i64)))) (8)) (again (.l0 (IntKind.wrap .i64 (v0_1+1)) (List.take (Int.toNat (IntKind.wrap .i64 (Nat.cast (List.length v0_7)-2))) v0_7++y0::mt (Ty.den (Ty.int .i64))))) (none)) (none)) (none)) (none)) (none)) (none)))))))) (none)) (cond (Ops.eq B (Nat.cast (List.length v0_7)) (0)) (k 0) (cond (Ops.inb B (0) (List.length v0_7)) (k (List.getD v0_7 (Int.toNat (0)) (Ty.dflt ty3))) (none)))
def E64 (p0:L94) (p1:L98) (p2:L103) (p3:L3) (p4:L3) (p5:L150):S64→List AV×Objs
 | .l0 v0_1 v0_7=>(mk 157 [(2,.c (.list 150 ty150 p5)),(3,.c (.ptr 3 0)),(4,.c (.ptr 4 0)),(7,.c (.own 7)),(8,.c (.int .i64 v0_1))],[(3,.box 31 [.list 94 ty94 p0,.list 98 ty98 p1,.list 103 ty103 p2]),(4,.box 57 [.list 3 ty3 p3,.list 3 ty3 p4]),(7,.row 3 ty3 v0_7)])
def I64:S64→Nat
 | .l0 _ _=>0
theorem eq64 {R:Type} (B:Ops) (c62:C62) (c109:C109) (c111:C111) (c105:C105) (c108:C108) (c112:C112) (c113:C113) (p0:L94) (p1:L98) (p2:L103) (p3:L3) (p4:L3) (p5:L150) (k:AV→Objs→Option R) (n:Nat):afun tau B gl0 X64 (ent 62 (e62 c62) (ent 109 (e109 c109) (ent 111 (e111 c111) (ent 105 (e105 c105) (ent 108 (e108 c108) (ent 112 (e112 c112) (ent 113 (e113 c113) (gnil)))))))) ow Tryz.f64 [.agg [.list 94 ty94 p0,.list 98 ty98 p1,.list 103 ty103 p2],.agg [.list 3 ty3 p3,.list 3 ty3 p4],.c (.list 150 ty150 p5)] [] k n=T64 B c62 c109 c111 c105 c108 c112 c113 p0 p1 p2 p3 p4 p5 (fun s=>aloop tau B gl0 X64 (ent 62 (e62 c62) (ent 109 (e109 c109) (ent 111 (e111 c111) (ent 105 (e105 c105) (ent 108 (e108 c108) (ent 112 (e112 c112) (ent 113 (e113 c113) (gnil)))))))) ow [] Tryz.f64 k (I64 s) (E64 p0 p1 p2 p3 p4 p5 s) n) (fun y=>k (.c (.int .i64 y)) []) none:=by kernel_rfl
theorem el64 {R:Type} (B:Ops) (c62:C62) (c109:C109) (c111:C111) (c105:C105) (c108:C108) (c112:C112) (c113:C113) (p0:L94) (p1:L98) (p2:L103) (p3:L3) (p4:L3) (p5:L150) (k:AV→Objs→Option R) (n:Nat):∀ s,aloop tau B gl0 X64 (ent 62 (e62 c62) (ent 109 (e109 c109) (ent 111 (e111 c111) (ent 105 (e105 c105) (ent 108 (e108 c108) (ent 112 (e112 c112) (ent 113 (e113 c113) (gnil)))))))) ow [] Tryz.f64 k (I64 s) (E64 p0 p1 p2 p3 p4 p5 s) (n+1)=T64 B c62 c109 c111 c105 c108 c112 c113 p0 p1 p2 p3 p4 p5 (fun s=>aloop tau B gl0 X64 (ent 62 (e62 c62) (ent 109 (e109 c109) (ent 111 (e111 c111) (ent 105 (e105 c105) (ent 108 (e108 c108) (ent 112 (e112 c112) (ent 113 (e113 c113) (gnil)))))))) ow [] Tryz.f64 k (I64 s) (E64 p0 p1 p2 p3 p4 p5 s) n) (fun y=>k (.c (.int .i64 y)) []) (some s)
 | .l0 v0_1 v0_7=>by kernel_rfl
theorem nt64 {R R':Type} (B:Ops) (c62:C62) (c109:C109) (c111:C111) (c105:C105) (c108:C108) (c112:C112) (c113:C113) (p0:L94) (p1:L98) (p2:L103) (p3:L3) (p4:L3) (p5:L150) (again:S64→Option R) (again':S64→Option R') (k0:(Int)→Option R') (k:R'→Option R) (h:∀ s,again s=ob (again' s) k):∀ s,T64 B c62 c109 c111 c105 c108 c112 c113 p0 p1 p2 p3 p4 p5 again (fun y=>ob (k0 y) k) s=ob (T64 B c62 c109 c111 c105 c108 c112 c113 p0 p1 p2 p3 p4 p5 again' k0 s) k
 | none=>by unfold T64;repeat' first | exact rfl | exact h _ | apply qac | (apply qah;intro)
 | some (.l0 v0_1 v0_7)=>by unfold T64;repeat' first | exact rfl | exact h _ | apply qac | (apply qah;intro)
def R64 (c62:C62) (c109:C109) (c111:C111) (c105:C105) (c108:C108) (c112:C112) (c113:C113) (p0:L94) (p1:L98) (p2:L103) (p3:L3) (p4:L3) (p5:L150):Nat→S64→Option (Int)
 | 0,_=>none
 | n+1,s=>T64 Ops.std c62 c109 c111 c105 c108 c112 c113 p0 p1 p2 p3 p4 p5 (R64 c62 c109 c111 c105 c108 c112 c113 p0 p1 p2 p3 p4 p5 n) some (some s)
theorem rr64 {R:Type} (c62:C62) (c109:C109) (c111:C111) (c105:C105) (c108:C108) (c112:C112) (c113:C113) (p0:L94) (p1:L98) (p2:L103) (p3:L3) (p4:L3) (p5:L150) (k:AV→Objs→Option R):∀ (n:Nat) (s:S64),aloop tau Ops.std gl0 X64 (ent 62 (e62 c62) (ent 109 (e109 c109) (ent 111 (e111 c111) (ent 105 (e105 c105) (ent 108 (e108 c108) (ent 112 (e112 c112) (ent 113 (e113 c113) (gnil)))))))) ow [] Tryz.f64 k (I64 s) (E64 p0 p1 p2 p3 p4 p5 s) n=ob (R64 c62 c109 c111 c105 c108 c112 c113 p0 p1 p2 p3 p4 p5 n s) (fun y=>k (.c (.int .i64 y)) [])
 | 0,s=>by cases s<;>rfl
 | n+1,s=>by rw [el64];exact nt64 Ops.std c62 c109 c111 c105 c108 c112 c113 p0 p1 p2 p3 p4 p5 _ _ some (fun y=>k (.c (.int .i64 y)) []) (rr64 c62 c109 c111 c105 c108 c112 c113 p0 p1 p2 p3 p4 p5 k n) (some s)
def F64 (c62:C62) (c109:C109) (c111:C111) (c105:C105) (c108:C108) (c112:C112) (c113:C113) (p0:L94) (p1:L98) (p2:L103) (p3:L3) (p4:L3) (p5:L150):Option (Int):=T64 Ops.std c62 c109 c111 c105 c108 c112 c113 p0 p1 p2 p3 p4 p5 (R64 c62 c109 c111 c105 c108 c112 c113 p0 p1 p2 p3 p4 p5 1000000) some none
theorem fo64 {R:Type} (c62:C62) (c109:C109) (c111:C111) (c105:C105) (c108:C108) (c112:C112) (c113:C113) (p0:L94) (p1:L98) (p2:L103) (p3:L3) (p4:L3) (p5:L150) (k:AV→Objs→Option R):afun tau Ops.std gl0 X64 (ent 62 (e62 c62) (ent 109 (e109 c109) (ent 111 (e111 c111) (ent 105 (e105 c105) (ent 108 (e108 c108) (ent 112 (e112 c112) (ent 113 (e113 c113) (gnil)))))))) ow Tryz.f64 [.agg [.list 94 ty94 p0,.list 98 ty98 p1,.list 103 ty103 p2],.agg [.list 3 ty3 p3,.list 3 ty3 p4],.c (.list 150 ty150 p5)] [] k 1000000=ob (F64 c62 c109 c111 c105 c108 c112 c113 p0 p1 p2 p3 p4 p5) (fun y=>k (.c (.int .i64 y)) []):=by rw [eq64];exact nt64 Ops.std c62 c109 c111 c105 c108 c112 c113 p0 p1 p2 p3 p4 p5 _ _ some (fun y=>k (.c (.int .i64 y)) []) (rr64 c62 c109 c111 c105 c108 c112 c113 p0 p1 p2 p3 p4 p5 k 1000000) none
def e64 {R:Type} (c:L94→L98→L103→L3→L3→L150→Option (Int)):Ent R:=fun args objs k=>
 oCons args fun a0 l0=>oAgg a0 fun x0=>cCons x0 fun z0_0 w0_0=>cList 94 ty94 z0_0 fun p0=>cCons w0_0 fun z0_1 w0_1=>cList 98 ty98 z0_1 fun p1=>cCons w0_1 fun z0_2 w0_2=>cList 103 ty103 z0_2 fun p2=>cNil w0_2 <| oCons l0 fun a1 l1=>oAgg a1 fun x1=>cCons x1 fun z1_0 w1_0=>cList 3 ty3 z1_0 fun p3=>cCons w1_0 fun z1_1 w1_1=>cList 3 ty3 z1_1 fun p4=>cNil w1_1 <| oCons l1 fun a2 l2=>oC a2 fun x2=>cList 150 ty150 x2 fun p5=>oNil l2 <| oNilO objs <| ob (c p0 p1 p2 p3 p4 p5) fun y=>k (.c (.int .i64 y)) []
abbrev Sp64 (c:L94→L98→L103→L3→L3→L150→Option (Int)):Prop:=∀ (p0:L94) (p1:L98) (p2:L103) (p3:L3) (p4:L3) (p5:L150) (y:Int),c p0 p1 p2 p3 p4 p5=some y→Spec Tryz.prog gl0 64 [.agg [.list 94 ty94 p0,.list 98 ty98 p1,.list 103 ty103 p2],.agg [.list 3 ty3 p3,.list 3 ty3 p4],.c (.list 150 ty150 p5)] [] (.c (.int .i64 y)) []
theorem ek64 {R:Type} {c:L94→L98→L103→L3→L3→L150→Option (Int)} (hs:Sp64 c):EOk 64 (e64 (R:=R) c):=fun args objs k r h=>by
 unfold e64 at h
 obtain ⟨a0,l0,rfl,q1⟩:=qaa h
 obtain ⟨x0,rfl,q2⟩:=qax q1
 obtain ⟨z0_0,w0_0,rfl,q3⟩:=qad q2
 obtain ⟨p0,rfl,q4⟩:=qae q3
 obtain ⟨z0_1,w0_1,rfl,q5⟩:=qad q4
 obtain ⟨p1,rfl,q6⟩:=qae q5
 obtain ⟨z0_2,w0_2,rfl,q7⟩:=qad q6
 obtain ⟨p2,rfl,q8⟩:=qae q7
 obtain ⟨rfl,q9⟩:=qat q8
 obtain ⟨a1,l1,rfl,q10⟩:=qaa q9
 obtain ⟨x1,rfl,q11⟩:=qax q10
 obtain ⟨z1_0,w1_0,rfl,q12⟩:=qad q11
 obtain ⟨p3,rfl,q13⟩:=qae q12
 obtain ⟨z1_1,w1_1,rfl,q14⟩:=qad q13
 obtain ⟨p4,rfl,q15⟩:=qae q14
 obtain ⟨rfl,q16⟩:=qat q15
 obtain ⟨a2,l2,rfl,q17⟩:=qaa q16
 obtain ⟨x2,rfl,q18⟩:=qaj q17
 obtain ⟨p5,rfl,q19⟩:=qae q18
 obtain ⟨rfl,q20⟩:=qag q19
 obtain ⟨rfl,q21⟩:=qaf q20
 exact qar (hs p0 p1 p2 p3 p4 p5) q21
theorem sf64 {c62:C62} {c109:C109} {c111:C111} {c105:C105} {c108:C108} {c112:C112} {c113:C113} (h62:Sp62 c62) (h109:Sp109 c109) (h111:Sp111 c111) (h105:Sp105 c105) (h108:Sp108 c108) (h112:Sp112 c112) (h113:Sp113 c113):Sp64 (F64 c62 c109 c111 c105 c108 c112 c113):=fun p0 p1 p2 p3 p4 p5 y hy=>by
 refine qap (G:=ent 62 (e62 c62) (ent 109 (e109 c109) (ent 111 (e111 c111) (ent 105 (e105 c105) (ent 108 (e108 c108) (ent 112 (e112 c112) (ent 113 (e113 c113) (gnil)))))))) (qai (ek62 h62) (qai (ek109 h109) (qai (ek111 h111) (qai (ek105 h105) (qai (ek108 h108) (qai (ek112 h112) (qai (ek113 h113) (qao)))))))) 1000000 (fn:=Tryz.f64) (by kernel_rfl) (by kernel_rfl) (X:=X64) (by kernel_rfl) ?_
 rw [fo64,hy]
 rfl
noncomputable def M64:L94→L98→L103→L3→L3→L150→Option (Int):=F64 M62 M109 M111 M105 M108 M112 M113
theorem sm64:Sp64 M64:=sf64 sm62 sm109 sm111 sm105 sm108 sm112 sm113
def X21:Aux:=⟨[(7,([0,2,4,6]++rg 11 129)),(12,([0,2,4,6]++rg 13 127))],[(14,.lin ([0,1,2,3,4,7,8,9,10,11,5,6,12,13,14,15])),(21,.lin (rg 0 16))]⟩
inductive S21 where
 | l0 (v0_1:Int) (v0_2:Int) (v0_8:L22) (v0_9:L47)
 | l1 (v1_1:Int) (v1_2:Int) (v1_3:Int) (v1_9:L22) (v1_10:L47) (v1_11:L4)
abbrev C19:Type:=L94→L98→L103→L66→Option (Bool)
abbrev C42:Type:=L94→L98→L103→L68→L68→Option (Bool)
abbrev C64:Type:=L94→L98→L103→L3→L3→L150→Option (Int)
abbrev C66:Type:=Int→L4→L4→Int→Int→Option (L4)
def T21 {R:Type} (B:Ops) (c19:C19) (c42:C42) (c37:C37) (c65:C65) (c64:C64) (c66:C66) (p0:L94) (p1:L98) (p2:L103) (p3:L66) (p4:L68) (p5:L68) (again:S21→Option R) (k:(L47)→Option R):Option S21→Option R | none=>ob (c19 p0 p1 p2 p3) fun y0=>cond (!y0) (k (mt (Ty.den ty47))) (ob (c42 p0 p1 p2 p4 p5) fun y1=>cond (!y1) (k (mt (Ty.den ty47))) (ob (c37 p3) fun y2=>again (.l0 (IntKind.wrap .i64 (Nat.cast (List.length p4)+Nat.cast (List.length p5))) 0 y2 (mt (Ty.den ty47))))) | some (.l0 v0_1 v0_2 v0_8 v0_9)=>cond (Ops.lt B v0_2 (Nat.cast (List.length p3))) (cond (Ops.inb B v0_2 (List.length p3)) (cond (Ops.eq B ((List.getD p3 (Int.toNat v0_2) (Ty.dflt ty66)).1) (3)) (cond (bif Ops.eq B v0_1 v0_1 then bif Ops.le B (0) v0_1 then Ops.lim B (Int.toNat v0_1) (1) else false else false) (again (.l1 v0_1 v0_2 0 v0_8 v0_9 (List.replicate (Int.toNat v0_1) (Ty.dflt Ty.bool)))) (none)) (cond (Ops.inb B v0_2 (List.length v0_8)) (cond (Ops.lt B (0) (Nat.cast (List.length (List.getD v0_8 (Int.toNat v0_2) (Ty.dflt ty22))))) (cond (Ops.inb B v0_2 (List.length v0_8)) (cond (Ops.inb B (0) (List.length (List.getD v0_8 (Int.toNat v0_2) (Ty.dflt ty22)))) (cond (Ops.lt B (List.getD (List.getD v0_8 (Int.toNat v0_2) (Ty.dflt ty22)) (Int.toNat (0)) (Ty.dflt (Ty.int .i64))) (Nat.cast (List.length v0_9))) (cond (Ops.inb B v0_2 (List.length v0_8)) (cond (Ops.inb B (0) (List.length (List.getD v0_8 (Int.toNat v0_2) (Ty.dflt ty22)))) (cond (Ops.inb B (List.getD (List.getD v0_8 (Int.toNat v0_2) (Ty.dflt ty22)) (Int.toNat (0)) (Ty.dflt (Ty.int .i64))) (List.length v0_9)) (cond (Ops.inb B v0_2 (List.length v0_8)) (cond (Ops.lt B (1) (Nat.cast (List.length (List.getD v0_8 (Int.toNat v0_2) (Ty.dflt ty22))))) (cond (Ops.inb B v0_2 (List.length v0_8)) (cond (Ops.inb B (1) (List.length (List.getD v0_8 (Int.toNat v0_2) (Ty.dflt ty22)))) (cond (Ops.lt B (List.getD (List.getD v0_8 (Int.toNat v0_2) (Ty.dflt ty22)) (Int.toNat (1)) (Ty.dflt (Ty.int .i64))) (Nat.cast (List.length v0_9))) (cond (Ops.inb B v0_2 (List.length v0_8)) (cond (Ops.inb B (1) (List.length (List.getD v0_8 (Int.toNat v0_2) (Ty.dflt ty22)))) (cond (Ops.inb B (List.getD (List.getD v0_8 (Int.toNat v0_2) (Ty.dflt ty22)) (Int.toNat (1)) (Ty.dflt (Ty.int .i64))) (List.length v0_9)) (cond (Ops.inb B v0_2 (List.length p3)) (ob (c66 ((List.getD p3 (Int.toNat v0_2) (Ty.dflt ty66)).1) (List.getD v0_9 (Int.toNat (List.getD (List.getD v0_8 (Int.toNat v0_2) (Ty.dflt ty22)) (Int.toNat (0)) (Ty.dflt (Ty.int .i64)))) (Ty.dflt ty47)) (List.getD v0_9 (Int.toNat (List.getD (List.getD v0_8 (Int.toNat v0_2) (Ty.dflt ty22)) (Int.toNat (1)) (Ty.dflt (Ty.int .i64)))) (Ty.dflt ty47)) v0_1 (Nat.cast (List.length p4))) fun y0=>cond (Ops.lim B (List.length v0_9+List.length (y0::mt (Ty.den ty47))) (24)) (again (.l0 v0_1 (IntKind.wrap .i64 (v0_2+1)) v0_8 (v0_9++y0::mt (Ty.den ty47)))) (none)) (none)) (none)) (none)) (none)) (cond (Ops.inb B v0_2 (List.length p3)) (ob (c66 ((List.getD p3 (Int.toNat v0_2) (Ty.dflt ty66)).1) (List.getD v0_9 (Int.toNat (List.getD (List.getD v0_8 (Int.toNat v0_2) (Ty.dflt ty22)) (Int.toNat (0)) (Ty.dflt (Ty.int .i64)))) (Ty.dflt ty47)) (mt (Ty.den Ty.bool)) v0_1 (Nat.cast (List.length p4))) fun y0=>cond (Ops.lim B (List.length v0_9+List.length (y0::mt (Ty.den ty47))) (24)) (again (.l0 v0_1 (IntKind.wrap .i64 (v0_2+1)) v0_8 (v0_9++y0::mt (Ty.den ty47)))) (none)) (none))) (none)) (none)) (cond (Ops.inb B v0_2 (List.length p3)) (ob (c66 ((List.getD p3 (Int.toNat v0_2) (Ty.dflt ty66)).1) (List.getD v0_9 (Int.toNat (List.getD (List.getD v0_8 (Int.toNat v0_2) (Ty.dflt ty22)) (Int.toNat (0)) (Ty.dflt (Ty.int .i64)))) (Ty.dflt ty47)) (mt (Ty.den Ty.bool)) v0_1 (Nat.cast (List.length p4))) fun y0=>cond (Ops.lim B (List.length v0_9+List.length (y0::mt (Ty.den ty47))) (24)) (again (.l0 v0_1 (IntKind.wrap .i64 (v0_2+1)) v0_8 (v0_9++y0::mt (Ty.den ty47)))) (none)) (none))) (none)) (none)) (none)) (none)) (cond (Ops.inb B v0_2 (List.length v0_8)) (cond (Ops.lt B (1) (Nat.cast (List.length (List.getD v0_8 (Int.toNat v0_2) (Ty.dflt ty22))))) (cond (Ops.inb B v0_2 (List.length v0_8)) (cond (Ops.inb B (1) (List.length (List.getD v0_8 (Int.toNat v0_2) (Ty.dflt ty22)))) (cond (Ops.lt B (List.getD (List.getD v0_8 (Int.toNat v0_2) (Ty.dflt ty22)) (Int.toNat (1)) (Ty.dflt (Ty.int .i64))) (Nat.cast (List.length v0_9))) (cond (Ops.inb B v0_2 (List.length v0_8)) (cond (Ops.inb B (1) (List.length (List.getD v0_8 (Int.toNat v0_2) (Ty.dflt ty22)))) (cond (Ops.inb B (List.getD (List.getD v0_8 (Int.toNat v0_2) (Ty.dflt ty22)) (Int.toNat (1)) (Ty.dflt (Ty.int .i64))) (List.length v0_9)) (cond (Ops.inb B v0_2 (List.length p3)) (ob (c66 ((List.getD p3 (Int.toNat v0_2) (Ty.dflt ty66)).1) (mt (Ty.den Ty.bool)) (List.getD v0_9 (Int.toNat (List.getD (List.getD v0_8 (Int.toNat v0_2) (Ty.dflt ty22)) (Int.toNat (1)) (Ty.dflt (Ty.int .i64)))) (Ty.dflt ty47)) v0_1 (Nat.cast (List.length p4))) fun y0=>cond (Ops.lim B (List.length v0_9+List.length (y0::mt (Ty.den ty47))) (24)) (again (.l0 v0_1 (IntKind.wrap .i64 (v0_2+1)) v0_8 (v0_9++y0::mt (Ty.den ty47)))) (none)) (none)) (none)) (none)) (none)) (cond (Ops.inb B v0_2 (List.length p3)) (ob (c66 ((List.getD p3 (Int.toNat v0_2) (Ty.dflt ty66)).1) (mt (Ty.den Ty.bool)) (mt (Ty.den Ty.bool)) v0_1 (Nat.cast (List.length p4))) fun y0=>cond (Ops.lim B (List.length v0_9+List.length (y0::mt (Ty.den ty47))) (24)) (again (.l0 v0_1 (IntKind.wrap .i64 (v0_2+1)) v0_8 (v0_9++y0::mt (Ty.den ty47)))) (none)) (none))) (none)) (none)) (cond (Ops.inb B v0_2 (List.length p3)) (ob (c66 ((List.getD p3 (Int.toNat v0_2) (Ty.dflt ty66)).1) (mt (Ty.den Ty.bool)) (mt (Ty.den Ty.bool)) v0_1 (Nat.cast (List.length p4))) fun y0=>cond (Ops.lim B (List.length v0_9+List.length (y0::mt (Ty.den ty47))) (24)) (again (.l0 v0_1 (IntKind.wrap .i64 (v0_2+1)) v0_8 (v0_9++y0::mt (Ty.den ty47)))) (none)) (none))) (none))) (none)) (none)) (cond (Ops.inb B v0_2 (List.length v0_8)) (cond (Ops.lt B (1) (Nat.cast (List.length (List.getD v0_8 (Int.toNat v0_2) (Ty.dflt ty22))))) (cond (Ops.inb B v0_2 (List.length v0_8)) (cond (Ops.inb B (1) (List.length (List.getD v0_8 (Int.toNat v0_2) (Ty.dflt ty22)))) (cond (Ops.lt B (List.getD (List.getD v0_8 (Int.toNat v0_2) (Ty.dflt ty22)) (Int.toNat (1)) (Ty.dflt (Ty.int .i64))) (Nat.cast (List.length v0_9))) (cond (Ops.inb B v0_2 (List.length v0_8)) (cond (Ops.inb B (1) (List.length (List.getD v0_8 (Int.toNat v0_2) (Ty.dflt ty22)))) (cond (Ops.inb B (List.getD (List.getD v0_8 (Int.toNat v0_2) (Ty.dflt ty22)) (Int.toNat (1)) (Ty.dflt (Ty.int .i64))) (List.length v0_9)) (cond (Ops.inb B v0_2 (List.length p3)) (ob (c66 ((List.getD p3 (Int.toNat v0_2) (Ty.dflt ty66)).1) (mt (Ty.den Ty.bool)) (List.getD v0_9 (Int.toNat (List.getD (List.getD v0_8 (Int.toNat v0_2) (Ty.dflt ty22)) (Int.toNat (1)) (Ty.dflt (Ty.int .i64)))) (Ty.dflt ty47)) v0_1 (Nat.cast (List.length p4))) fun y0=>cond (Ops.lim B (List.length v0_9+List.length (y0::mt (Ty.den ty47))) (24)) (again (.l0 v0_1 (IntKind.wrap .i64 (v0_2+1)) v0_8 (v0_9++y0::mt (Ty.den ty47)))) (none)) (none)) (none)) (none)) (none)) (cond (Ops.inb B v0_2 (List.length p3)) (ob (c66 ((List.getD p3 (Int.toNat v0_2) (Ty.dflt ty66)).1) (mt (Ty.den Ty.bool)) (mt (Ty.den Ty.bool)) v0_1 (Nat.cast (List.length p4))) fun y0=>cond (Ops.lim B (List.length v0_9+List.length (y0::mt (Ty.den ty47))) (24)) (again (.l0 v0_1 (IntKind.wrap .i64 (v0_2+1)) v0_8 (v0_9++y0::mt (Ty.den ty47)))) (none)) (none))) (none)) (none)) (cond (Ops.inb B v0_2 (List.length p3)) (ob (c66 ((List.getD p3 (Int.toNat v0_2) (Ty.dflt ty66)).1) (mt (Ty.den Ty.bool)) (mt (Ty.den Ty.bool)) v0_1 (Nat.cast (List.length p4))) fun y0=>cond (Ops.lim B (List.length v0_9+List.length (y0::mt (Ty.den ty47))) (24)) (again (.l0 v0_1 (IntKind.wrap .i64 (v0_2+1)) v0_8 (v0_9++y0::mt (Ty.den ty47)))) (none)) (none))) (none))) (none))) (none)) (k v0_9) | some (.l1 v1_1 v1_2 v1_3 v1_9 v1_10 v1_11)=>cond (Ops.lt B v1_3 v1_1) (cond (Ops.inb B v1_2 (List.length p3)) (ob (c65 p4 p5 v1_3) fun y0=>ob (c64 p0 p1 p2 y0.1 y0.2.1 ((List.getD p3 (Int.toNat v1_2) (Ty.dflt ty66)).2)) fun y1=>cond (Ops.inb B v1_3 (List.length v1_11)) (again (.l1 v1_1 v1_2 (IntKind.wrap .i64 (v1_3+1)) v1_9 v1_10 (List.set v1_11 (Int.toNat v1_3) !Ops.eq B y1 (0)))) (none)) (none)) (cond (Ops.lim B (List.length v1_10+List.length (v1_11::mt (Ty.den ty47))) (24)) (again (.l0 v1_1 (IntKind.wrap .i64 (v1_2+1)) v1_9 (v1_10++v1_11::mt (Ty.den ty47)))) (none))
def E21 (p0:L94) (p1:L98) (p2:L103) (p3:L66) (p4:L68) (p5:L68):S21→List AV×Objs
 | .l0 v0_1 v0_2 v0_8 v0_9=>(mk 140 [(1,.c (.list 66 ty66 p3)),(3,.c (.ptr 3 0)),(5,.c (.ptr 5 0)),(7,.c (.int .i64 v0_1)),(8,.c (.own 8)),(9,.c (.own 9)),(10,.c (.int .i64 v0_2))],[(3,.box 31 [.list 94 ty94 p0,.list 98 ty98 p1,.list 103 ty103 p2]),(5,.box 41 [.list 68 ty68 p4,.list 68 ty68 p5]),(8,.row 22 ty22 v0_8),(9,.row 47 ty47 v0_9)])
 | .l1 v1_1 v1_2 v1_3 v1_9 v1_10 v1_11=>(mk 140 [(1,.c (.list 66 ty66 p3)),(3,.c (.ptr 3 0)),(5,.c (.ptr 5 0)),(7,.c (.int .i64 v1_1)),(8,.c (.own 8)),(9,.c (.own 9)),(10,.c (.int .i64 v1_2)),(11,.c (.own 11)),(12,.c (.int .i64 v1_3))],[(3,.box 31 [.list 94 ty94 p0,.list 98 ty98 p1,.list 103 ty103 p2]),(5,.box 41 [.list 68 ty68 p4,.list 68 ty68 p5]),(8,.row 22 ty22 v1_9),(9,.row 47 ty47 v1_10),(11,.row 4 ty4 v1_11)])
def I21:S21→Nat
 | .l0 _ _ _ _=>0
 | .l1 _ _ _ _ _ _=>1
theorem eq21 {R:Type} (B:Ops) (c19:C19) (c42:C42) (c37:C37) (c65:C65) (c64:C64) (c66:C66) (p0:L94) (p1:L98) (p2:L103) (p3:L66) (p4:L68) (p5:L68) (k:AV→Objs→Option R) (n:Nat):afun tau B gl0 X21 (ent 19 (e19 c19) (ent 42 (e42 c42) (ent 37 (e37 c37) (ent 65 (e65 c65) (ent 64 (e64 c64) (ent 66 (e66 c66) (gnil))))))) ow Tryz.f21 [.agg [.list 94 ty94 p0,.list 98 ty98 p1,.list 103 ty103 p2],.c (.list 66 ty66 p3),.agg [.list 68 ty68 p4,.list 68 ty68 p5]] [] k n=T21 B c19 c42 c37 c65 c64 c66 p0 p1 p2 p3 p4 p5 (fun s=>aloop tau B gl0 X21 (ent 19 (e19 c19) (ent 42 (e42 c42) (ent 37 (e37 c37) (ent 65 (e65 c65) (ent 64 (e64 c64) (ent 66 (e66 c66) (gnil))))))) ow [] Tryz.f21 k (I21 s) (E21 p0 p1 p2 p3 p4 p5 s) n) (fun y=>k (.c (.own 500)) [(500,.row 47 ty47 y)]) none:=by kernel_rfl
theorem el21 {R:Type} (B:Ops) (c19:C19) (c42:C42) (c37:C37) (c65:C65) (c64:C64) (c66:C66) (p0:L94) (p1:L98) (p2:L103) (p3:L66) (p4:L68) (p5:L68) (k:AV→Objs→Option R) (n:Nat):∀ s,aloop tau B gl0 X21 (ent 19 (e19 c19) (ent 42 (e42 c42) (ent 37 (e37 c37) (ent 65 (e65 c65) (ent 64 (e64 c64) (ent 66 (e66 c66) (gnil))))))) ow [] Tryz.f21 k (I21 s) (E21 p0 p1 p2 p3 p4 p5 s) (n+1)=T21 B c19 c42 c37 c65 c64 c66 p0 p1 p2 p3 p4 p5 (fun s=>aloop tau B gl0 X21 (ent 19 (e19 c19) (ent 42 (e42 c42) (ent 37 (e37 c37) (ent 65 (e65 c65) (ent 64 (e64 c64) (ent 66 (e66 c66) (gnil))))))) ow [] Tryz.f21 k (I21 s) (E21 p0 p1 p2 p3 p4 p5 s) n) (fun y=>k (.c (.own 500)) [(500,.row 47 ty47 y)]) (some s)
 | .l0 v0_1 v0_2 v0_8 v0_9=>by kernel_rfl
 | .l1 v1_1 v1_2 v1_3 v1_9 v1_10 v1_11=>by kernel_rfl
theorem nt21 {R R':Type} (B:Ops) (c19:C19) (c42:C42) (c37:C37) (c65:C65) (c64:C64) (c66:C66) (p0:L94) (p1:L98) (p2:L103) (p3:L66) (p4:L68) (p5:L68) (again:S21→Option R) (again':S21→Option R') (k0:(L47)→Option R') (k:R'→Option R) (h:∀ s,again s=ob (again' s) k):∀ s,T21 B c19 c42 c37 c65 c64 c66 p0 p1 p2 p3 p4 p5 again (fun y=>ob (k0 y) k) s=ob (T21 B c19 c42 c37 c65 c64 c66 p0 p1 p2 p3 p4 p5 again' k0 s) k
 | none=>by unfold T21;repeat' first | exact rfl | exact h _ | apply qac | (apply qah;intro)
 | some (.l0 v0_1 v0_2 v0_8 v0_9)=>by unfold T21;repeat' first | exact rfl | exact h _ | apply qac | (apply qah;intro)
 | some (.l1 v1_1 v1_2 v1_3 v1_9 v1_10 v1_11)=>by unfold T21;repeat' first | exact rfl | exact h _ | apply qac | (apply qah;intro)
def R21 (c19:C19) (c42:C42) (c37:C37) (c65:C65) (c64:C64) (c66:C66) (p0:L94) (p1:L98) (p2:L103) (p3:L66) (p4:L68) (p5:L68):Nat→S21→Option (L47)
 | 0,_=>none
 | n+1,s=>T21 Ops.std c19 c42 c37 c65 c64 c66 p0 p1 p2 p3 p4 p5 (R21 c19 c42 c37 c65 c64 c66 p0 p1 p2 p3 p4 p5 n) some (some s)
theorem rr21 {R:Type} (c19:C19) (c42:C42) (c37:C37) (c65:C65) (c64:C64) (c66:C66) (p0:L94) (p1:L98) (p2:L103) (p3:L66) (p4:L68) (p5:L68) (k:AV→Objs→Option R):∀ (n:Nat) (s:S21),aloop tau Ops.std gl0 X21 (ent 19 (e19 c19) (ent 42 (e42 c42) (ent 37 (e37 c37) (ent 65 (e65 c65) (ent 64 (e64 c64) (ent 66 (e66 c66) (gnil))))))) ow [] Tryz.f21 k (I21 s) (E21 p0 p1 p2 p3 p4 p5 s) n=ob (R21 c19 c42 c37 c65 c64 c66 p0 p1 p2 p3 p4 p5 n s) (fun y=>k (.c (.own 500)) [(500,.row 47 ty47 y)])
 | 0,s=>by cases s<;>rfl
 | n+1,s=>by rw [el21];exact nt21 Ops.std c19 c42 c37 c65 c64 c66 p0 p1 p2 p3 p4 p5 _ _ some (fun y=>k (.c (.own 500)) [(500,.row 47 ty47 y)]) (rr21 c19 c42 c37 c65 c64 c66 p0 p1 p2 p3 p4 p5 k n) (some s)
def F21 (c19:C19) (c42:C42) (c37:C37) (c65:C65) (c64:C64) (c66:C66) (p0:L94) (p1:L98) (p2:L103) (p3:L66) (p4:L68) (p5:L68):Option (L47):=T21 Ops.std c19 c42 c37 c65 c64 c66 p0 p1 p2 p3 p4 p5 (R21 c19 c42 c37 c65 c64 c66 p0 p1 p2 p3 p4 p5 1000000) some none
theorem fo21 {R:Type} (c19:C19) (c42:C42) (c37:C37) (c65:C65) (c64:C64) (c66:C66) (p0:L94) (p1:L98) (p2:L103) (p3:L66) (p4:L68) (p5:L68) (k:AV→Objs→Option R):afun tau Ops.std gl0 X21 (ent 19 (e19 c19) (ent 42 (e42 c42) (ent 37 (e37 c37) (ent 65 (e65 c65) (ent 64 (e64 c64) (ent 66 (e66 c66) (gnil))))))) ow Tryz.f21 [.agg [.list 94 ty94 p0,.list 98 ty98 p1,.list 103 ty103 p2],.c (.list 66 ty66 p3),.agg [.list 68 ty68 p4,.list 68 ty68 p5]] [] k 1000000=ob (F21 c19 c42 c37 c65 c64 c66 p0 p1 p2 p3 p4 p5) (fun y=>k (.c (.own 500)) [(500,.row 47 ty47 y)]):=by rw [eq21];exact nt21 Ops.std c19 c42 c37 c65 c64 c66 p0 p1 p2 p3 p4 p5 _ _ some (fun y=>k (.c (.own 500)) [(500,.row 47 ty47 y)]) (rr21 c19 c42 c37 c65 c64 c66 p0 p1 p2 p3 p4 p5 k 1000000) none
def e21 {R:Type} (c:L94→L98→L103→L66→L68→L68→Option (L47)):Ent R:=fun args objs k=>
 oCons args fun a0 l0=>oAgg a0 fun x0=>cCons x0 fun z0_0 w0_0=>cList 94 ty94 z0_0 fun p0=>cCons w0_0 fun z0_1 w0_1=>cList 98 ty98 z0_1 fun p1=>cCons w0_1 fun z0_2 w0_2=>cList 103 ty103 z0_2 fun p2=>cNil w0_2 <| oCons l0 fun a1 l1=>oC a1 fun x1=>cList 66 ty66 x1 fun p3=>oCons l1 fun a2 l2=>oAgg a2 fun x2=>cCons x2 fun z2_0 w2_0=>cList 68 ty68 z2_0 fun p4=>cCons w2_0 fun z2_1 w2_1=>cList 68 ty68 z2_1 fun p5=>cNil w2_1 <| oNil l2 <| oNilO objs <| ob (c p0 p1 p2 p3 p4 p5) fun y=>k (.c (.own 500)) [(500,.row 47 ty47 y)]
abbrev Sp21 (c:L94→L98→L103→L66→L68→L68→Option (L47)):Prop:=∀ (p0:L94) (p1:L98) (p2:L103) (p3:L66) (p4:L68) (p5:L68) (y:L47),c p0 p1 p2 p3 p4 p5=some y→Spec Tryz.prog gl0 21 [.agg [.list 94 ty94 p0,.list 98 ty98 p1,.list 103 ty103 p2],.c (.list 66 ty66 p3),.agg [.list 68 ty68 p4,.list 68 ty68 p5]] [] (.c (.own 500)) [(500,.row 47 ty47 y)]
theorem ek21 {R:Type} {c:L94→L98→L103→L66→L68→L68→Option (L47)} (hs:Sp21 c):EOk 21 (e21 (R:=R) c):=fun args objs k r h=>by
 unfold e21 at h
 obtain ⟨a0,l0,rfl,q1⟩:=qaa h
 obtain ⟨x0,rfl,q2⟩:=qax q1
 obtain ⟨z0_0,w0_0,rfl,q3⟩:=qad q2
 obtain ⟨p0,rfl,q4⟩:=qae q3
 obtain ⟨z0_1,w0_1,rfl,q5⟩:=qad q4
 obtain ⟨p1,rfl,q6⟩:=qae q5
 obtain ⟨z0_2,w0_2,rfl,q7⟩:=qad q6
 obtain ⟨p2,rfl,q8⟩:=qae q7
 obtain ⟨rfl,q9⟩:=qat q8
 obtain ⟨a1,l1,rfl,q10⟩:=qaa q9
 obtain ⟨x1,rfl,q11⟩:=qaj q10
 obtain ⟨p3,rfl,q12⟩:=qae q11
 obtain ⟨a2,l2,rfl,q13⟩:=qaa q12
 obtain ⟨x2,rfl,q14⟩:=qax q13
 obtain ⟨z2_0,w2_0,rfl,q15⟩:=qad q14
 obtain ⟨p4,rfl,q16⟩:=qae q15
 obtain ⟨z2_1,w2_1,rfl,q17⟩:=qad q16
 obtain ⟨p5,rfl,q18⟩:=qae q17
 obtain ⟨rfl,q19⟩:=qat q18
 obtain ⟨rfl,q20⟩:=qag q19
 obtain ⟨rfl,q21⟩:=qaf q20
 exact qar (hs p0 p1 p2 p3 p4 p5) q21
theorem sf21 {c19:C19} {c42:C42} {c37:C37} {c65:C65} {c64:C64} {c66:C66} (h19:Sp19 c19) (h42:Sp42 c42) (h37:Sp37 c37) (h65:Sp65 c65) (h64:Sp64 c64) (h66:Sp66 c66):Sp21 (F21 c19 c42 c37 c65 c64 c66):=fun p0 p1 p2 p3 p4 p5 y hy=>by
 refine qap (G:=ent 19 (e19 c19) (ent 42 (e42 c42) (ent 37 (e37 c37) (ent 65 (e65 c65) (ent 64 (e64 c64) (ent 66 (e66 c66) (gnil))))))) (qai (ek19 h19) (qai (ek42 h42) (qai (ek37 h37) (qai (ek65 h65) (qai (ek64 h64) (qai (ek66 h66) (qao))))))) 1000000 (fn:=Tryz.f21) (by kernel_rfl) (by kernel_rfl) (X:=X21) (by kernel_rfl) ?_
 rw [fo21,hy]
 rfl
noncomputable def M21:L94→L98→L103→L66→L68→L68→Option (L47):=F21 M19 M42 M37 M65 M64 M66
theorem sm21:Sp21 M21:=sf21 sm19 sm42 sm37 sm65 sm64 sm66
def X22:Aux:=⟨[(5,([1,2]++rg 5 33))],[]⟩
inductive S22 where
 | l0 (v0_1:Int) (v0_2:L22)
def T22 {R:Type} (B:Ops) (c63:C63) (c37:C37) (p0:L66) (again:S22→Option R) (k:(Bool)→Option R):Option S22→Option R | none=>ob (c63 p0) fun y0=>cond (!y0) (k false) (ob (c37 p0) fun y1=>again (.l0 0 y1)) | some (.l0 v0_1 v0_2)=>cond (Ops.lt B v0_1 (Nat.cast (List.length p0))) (cond (Ops.inb B v0_1 (List.length p0)) (cond (Ops.eq B ((List.getD p0 (Int.toNat v0_1) (Ty.dflt ty66)).1) (7)) (k false) (cond (Ops.eq B ((List.getD p0 (Int.toNat v0_1) (Ty.dflt ty66)).1) (11)) (k false) (cond (Ops.eq B ((List.getD p0 (Int.toNat v0_1) (Ty.dflt ty66)).1) (12)) (k false) (cond (Ops.eq B ((List.getD p0 (Int.toNat v0_1) (Ty.dflt ty66)).1) (4)) (cond (Ops.inb B v0_1 (List.length v0_2)) (cond (Ops.inb B (0) (List.length (List.getD v0_2 (Int.toNat v0_1) (Ty.dflt ty22)))) (cond (Ops.inb B (List.getD (List.getD v0_2 (Int.toNat v0_1) (Ty.dflt ty22)) (Int.toNat (0)) (Ty.dflt (Ty.int .i64))) (List.length p0)) (cond (!Ops.eq B ((List.getD p0 (Int.toNat (List.getD (List.getD v0_2 (Int.toNat v0_1) (Ty.dflt ty22)) (Int.toNat (0)) (Ty.dflt (Ty.int .i64)))) (Ty.dflt ty66)).1) (3)) (k false) (again (.l0 (IntKind.wrap .i64 (v0_1+1)) v0_2))) (none)) (none)) (none)) (again (.l0 (IntKind.wrap .i64 (v0_1+1)) v0_2)))))) (none)) (k true)
def E22 (p0:L66):S22→List AV×Objs
 | .l0 v0_1 v0_2=>(mk 38 [(0,.c (.list 66 ty66 p0)),(3,.c (.own 3)),(4,.c (.int .i64 v0_1))],[(3,.row 22 ty22 v0_2)])
def I22:S22→Nat
 | .l0 _ _=>0
theorem eq22 {R:Type} (B:Ops) (c63:C63) (c37:C37) (p0:L66) (k:AV→Objs→Option R) (n:Nat):afun tau B gl0 X22 (ent 63 (e63 c63) (ent 37 (e37 c37) (gnil))) ow Tryz.f22 [.c (.list 66 ty66 p0)] [] k n=T22 B c63 c37 p0 (fun s=>aloop tau B gl0 X22 (ent 63 (e63 c63) (ent 37 (e37 c37) (gnil))) ow [] Tryz.f22 k (I22 s) (E22 p0 s) n) (fun y=>k (.c (.bool y)) []) none:=by kernel_rfl
theorem el22 {R:Type} (B:Ops) (c63:C63) (c37:C37) (p0:L66) (k:AV→Objs→Option R) (n:Nat):∀ s,aloop tau B gl0 X22 (ent 63 (e63 c63) (ent 37 (e37 c37) (gnil))) ow [] Tryz.f22 k (I22 s) (E22 p0 s) (n+1)=T22 B c63 c37 p0 (fun s=>aloop tau B gl0 X22 (ent 63 (e63 c63) (ent 37 (e37 c37) (gnil))) ow [] Tryz.f22 k (I22 s) (E22 p0 s) n) (fun y=>k (.c (.bool y)) []) (some s)
 | .l0 v0_1 v0_2=>by kernel_rfl
theorem nt22 {R R':Type} (B:Ops) (c63:C63) (c37:C37) (p0:L66) (again:S22→Option R) (again':S22→Option R') (k0:(Bool)→Option R') (k:R'→Option R) (h:∀ s,again s=ob (again' s) k):∀ s,T22 B c63 c37 p0 again (fun y=>ob (k0 y) k) s=ob (T22 B c63 c37 p0 again' k0 s) k
 | none=>by unfold T22;repeat' first | exact rfl | exact h _ | apply qac | (apply qah;intro)
 | some (.l0 v0_1 v0_2)=>by unfold T22;repeat' first | exact rfl | exact h _ | apply qac | (apply qah;intro)
def R22 (c63:C63) (c37:C37) (p0:L66):Nat→S22→Option (Bool)
 | 0,_=>none
 | n+1,s=>T22 Ops.std c63 c37 p0 (R22 c63 c37 p0 n) some (some s)
theorem rr22 {R:Type} (c63:C63) (c37:C37) (p0:L66) (k:AV→Objs→Option R):∀ (n:Nat) (s:S22),aloop tau Ops.std gl0 X22 (ent 63 (e63 c63) (ent 37 (e37 c37) (gnil))) ow [] Tryz.f22 k (I22 s) (E22 p0 s) n=ob (R22 c63 c37 p0 n s) (fun y=>k (.c (.bool y)) [])
 | 0,s=>by cases s<;>rfl
 | n+1,s=>by rw [el22];exact nt22 Ops.std c63 c37 p0 _ _ some (fun y=>k (.c (.bool y)) []) (rr22 c63 c37 p0 k n) (some s)
def F22 (c63:C63) (c37:C37) (p0:L66):Option (Bool):=T22 Ops.std c63 c37 p0 (R22 c63 c37 p0 1000000) some none
theorem fo22 {R:Type} (c63:C63) (c37:C37) (p0:L66) (k:AV→Objs→Option R):afun tau Ops.std gl0 X22 (ent 63 (e63 c63) (ent 37 (e37 c37) (gnil))) ow Tryz.f22 [.c (.list 66 ty66 p0)] [] k 1000000=ob (F22 c63 c37 p0) (fun y=>k (.c (.bool y)) []):=by rw [eq22];exact nt22 Ops.std c63 c37 p0 _ _ some (fun y=>k (.c (.bool y)) []) (rr22 c63 c37 p0 k 1000000) none
def e22 {R:Type} (c:L66→Option (Bool)):Ent R:=fun args objs k=>
 oCons args fun a0 l0=>oC a0 fun x0=>cList 66 ty66 x0 fun p0=>oNil l0 <| oNilO objs <| ob (c p0) fun y=>k (.c (.bool y)) []
abbrev Sp22 (c:L66→Option (Bool)):Prop:=∀ (p0:L66) (y:Bool),c p0=some y→Spec Tryz.prog gl0 22 [.c (.list 66 ty66 p0)] [] (.c (.bool y)) []
theorem ek22 {R:Type} {c:L66→Option (Bool)} (hs:Sp22 c):EOk 22 (e22 (R:=R) c):=fun args objs k r h=>by
 unfold e22 at h
 obtain ⟨a0,l0,rfl,q1⟩:=qaa h
 obtain ⟨x0,rfl,q2⟩:=qaj q1
 obtain ⟨p0,rfl,q3⟩:=qae q2
 obtain ⟨rfl,q4⟩:=qag q3
 obtain ⟨rfl,q5⟩:=qaf q4
 exact qar (hs p0) q5
theorem sf22 {c63:C63} {c37:C37} (h63:Sp63 c63) (h37:Sp37 c37):Sp22 (F22 c63 c37):=fun p0 y hy=>by
 refine qap (G:=ent 63 (e63 c63) (ent 37 (e37 c37) (gnil))) (qai (ek63 h63) (qai (ek37 h37) (qao))) 1000000 (fn:=Tryz.f22) (by kernel_rfl) (by kernel_rfl) (X:=X22) (by kernel_rfl) ?_
 rw [fo22,hy]
 rfl
noncomputable def M22:L66→Option (Bool):=F22 M63 M37
theorem sm22:Sp22 M22:=sf22 sm63 sm37
def X23:Aux:=⟨[(3,([1,2]++rg 5 33))],[]⟩
inductive S23 where
 | l0 (v0_1:Int) (v0_2:L3)
def T23 {R:Type} (B:Ops) (p0:L66) (again:S23→Option R) (k:(L3)→Option R):Option S23→Option R | none=>again (.l0 0 (mt (Ty.den (Ty.int .i64)))) | some (.l0 v0_1 v0_2)=>cond (Ops.lt B v0_1 (Nat.cast (List.length p0))) (cond (Ops.inb B v0_1 (List.length p0)) (cond (Ops.eq B ((List.getD p0 (Int.toNat v0_1) (Ty.dflt ty66)).1) (8)) (cond (Ops.lim B (List.length v0_2+List.length (v0_1::mt (Ty.den (Ty.int .i64)))) (8)) (again (.l0 (IntKind.wrap .i64 (v0_1+1)) (v0_2++v0_1::mt (Ty.den (Ty.int .i64))))) (none)) (cond (Ops.inb B v0_1 (List.length p0)) (cond (Ops.eq B ((List.getD p0 (Int.toNat v0_1) (Ty.dflt ty66)).1) (9)) (cond (Ops.lim B (List.length v0_2+List.length (v0_1::mt (Ty.den (Ty.int .i64)))) (8)) (again (.l0 (IntKind.wrap .i64 (v0_1+1)) (v0_2++v0_1::mt (Ty.den (Ty.int .i64))))) (none)) (cond (Ops.inb B v0_1 (List.length p0)) (cond (Ops.eq B ((List.getD p0 (Int.toNat v0_1) (Ty.dflt ty66)).1) (10)) (cond (Ops.lim B (List.length v0_2+List.length (v0_1::mt (Ty.den (Ty.int .i64)))) (8)) (again (.l0 (IntKind.wrap .i64 (v0_1+1)) (v0_2++v0_1::mt (Ty.den (Ty.int .i64))))) (none)) (again (.l0 (IntKind.wrap .i64 (v0_1+1)) v0_2))) (none))) (none))) (none)) (k v0_2)
def E23 (p0:L66):S23→List AV×Objs
 | .l0 v0_1 v0_2=>(mk 38 [(0,.c (.list 66 ty66 p0)),(3,.c (.own 3)),(4,.c (.int .i64 v0_1))],[(3,.row 3 ty3 v0_2)])
def I23:S23→Nat
 | .l0 _ _=>0
theorem eq23 {R:Type} (B:Ops) (p0:L66) (k:AV→Objs→Option R) (n:Nat):afun tau B gl0 X23 (gnil) ow Tryz.f23 [.c (.list 66 ty66 p0)] [] k n=T23 B p0 (fun s=>aloop tau B gl0 X23 (gnil) ow [] Tryz.f23 k (I23 s) (E23 p0 s) n) (fun y=>k (.c (.own 500)) [(500,.row 3 ty3 y)]) none:=by kernel_rfl
theorem el23 {R:Type} (B:Ops) (p0:L66) (k:AV→Objs→Option R) (n:Nat):∀ s,aloop tau B gl0 X23 (gnil) ow [] Tryz.f23 k (I23 s) (E23 p0 s) (n+1)=T23 B p0 (fun s=>aloop tau B gl0 X23 (gnil) ow [] Tryz.f23 k (I23 s) (E23 p0 s) n) (fun y=>k (.c (.own 500)) [(500,.row 3 ty3 y)]) (some s)
 | .l0 v0_1 v0_2=>by kernel_rfl
theorem nt23 {R R':Type} (B:Ops) (p0:L66) (again:S23→Option R) (again':S23→Option R') (k0:(L3)→Option R') (k:R'→Option R) (h:∀ s,again s=ob (again' s) k):∀ s,T23 B p0 again (fun y=>ob (k0 y) k) s=ob (T23 B p0 again' k0 s) k
 | none=>by unfold T23;repeat' first | exact rfl | exact h _ | apply qac | (apply qah;intro)
 | some (.l0 v0_1 v0_2)=>by unfold T23;repeat' first | exact rfl | exact h _ | apply qac | (apply qah;intro)
def R23 (p0:L66):Nat→S23→Option (L3)
 | 0,_=>none
 | n+1,s=>T23 Ops.std p0 (R23 p0 n) some (some s)
theorem rr23 {R:Type} (p0:L66) (k:AV→Objs→Option R):∀ (n:Nat) (s:S23),aloop tau Ops.std gl0 X23 (gnil) ow [] Tryz.f23 k (I23 s) (E23 p0 s) n=ob (R23 p0 n s) (fun y=>k (.c (.own 500)) [(500,.row 3 ty3 y)])
 | 0,s=>by cases s<;>rfl
 | n+1,s=>by rw [el23];exact nt23 Ops.std p0 _ _ some (fun y=>k (.c (.own 500)) [(500,.row 3 ty3 y)]) (rr23 p0 k n) (some s)
def F23 (p0:L66):Option (L3):=T23 Ops.std p0 (R23 p0 1000000) some none
theorem fo23 {R:Type} (p0:L66) (k:AV→Objs→Option R):afun tau Ops.std gl0 X23 (gnil) ow Tryz.f23 [.c (.list 66 ty66 p0)] [] k 1000000=ob (F23 p0) (fun y=>k (.c (.own 500)) [(500,.row 3 ty3 y)]):=by rw [eq23];exact nt23 Ops.std p0 _ _ some (fun y=>k (.c (.own 500)) [(500,.row 3 ty3 y)]) (rr23 p0 k 1000000) none
def e23 {R:Type} (c:L66→Option (L3)):Ent R:=fun args objs k=>
 oCons args fun a0 l0=>oC a0 fun x0=>cList 66 ty66 x0 fun p0=>oNil l0 <| oNilO objs <| ob (c p0) fun y=>k (.c (.own 500)) [(500,.row 3 ty3 y)]
abbrev Sp23 (c:L66→Option (L3)):Prop:=∀ (p0:L66) (y:L3),c p0=some y→Spec Tryz.prog gl0 23 [.c (.list 66 ty66 p0)] [] (.c (.own 500)) [(500,.row 3 ty3 y)]
theorem ek23 {R:Type} {c:L66→Option (L3)} (hs:Sp23 c):EOk 23 (e23 (R:=R) c):=fun args objs k r h=>by
 unfold e23 at h
 obtain ⟨a0,l0,rfl,q1⟩:=qaa h
 obtain ⟨x0,rfl,q2⟩:=qaj q1
 obtain ⟨p0,rfl,q3⟩:=qae q2
 obtain ⟨rfl,q4⟩:=qag q3
 obtain ⟨rfl,q5⟩:=qaf q4
 exact qar (hs p0) q5
theorem sf23:Sp23 (F23):=fun p0 y hy=>by
 refine qap (G:=gnil) (qao) 1000000 (fn:=Tryz.f23) (by kernel_rfl) (by kernel_rfl) (X:=X23) (by kernel_rfl) ?_
 rw [fo23,hy]
 rfl
noncomputable def M23:L66→Option (L3):=F23
theorem sm23:Sp23 M23:=sf23
def X47:Aux:=⟨[(7,([0,1,3,4]++rg 9 101)),(2000000,[])],[(24,.lin (rg 0 12))]⟩
inductive S47 where
 | l0 (v0_0:Int) (v0_1:Int) (v0_2:L9) (v0_6:L94) (v0_7:L98) (v0_8:L103)
abbrev C88:Type:=L9→Option (LB×Int×Int×Int×Bool)
abbrev C89:Type:=LB→Option (Int×LB×LB×LB×LB×L150×L157×Bool)
def T47 {R:Type} (B:Ops) (c86:C86) (c87:C87) (c88:C88) (c90:C90) (c89:C89) (c18:C18) (p0:LB) (again:S47→Option R) (k:(L94×L98×L103×Int×Int)→Option R):Option S47→Option R | none=>cond (Ops.lt B (60000) (Nat.cast (List.length p0))) (k ((mt (Ty.den ty94),mt (Ty.den ty98),mt (Ty.den ty103),14,0))) (ob (c86 p0 (10)) fun y0=>again (.l0 0 0 y0 (mt (Ty.den ty94)) (mt (Ty.den ty98)) (mt (Ty.den ty103)))) | some (.l0 v0_0 v0_1 v0_2 v0_6 v0_7 v0_8)=>cond (Ops.lt B v0_1 (Nat.cast (List.length v0_2))) (cond (Ops.inb B v0_1 (List.length v0_2)) (cond (List.getD v0_2 (Int.toNat v0_1) (Ty.dflt ty9) == mt UInt8) (again (.l0 v0_0 (IntKind.wrap .i64 (v0_1+1)) v0_2 v0_6 v0_7 v0_8)) (cond (Ops.inb B v0_1 (List.length v0_2)) (ob (c87 (List.getD v0_2 (Int.toNat v0_1) (Ty.dflt ty9))) fun y0=>cond (Ops.lt B (0) (Nat.cast (List.length y0))) (cond (Ops.inb B (0) (List.length y0)) (cond (List.getD y0 (Int.toNat (0)) (Ty.dflt ty9) == ([118,97,114]:LB)) (cond (Ops.inb B (1) (List.length y0+1)) (ob (c88 (List.drop (Int.toNat (1)) (List.take (List.length y0) y0))) fun y1=>cond (Ops.lim B (List.length v0_6+List.length ((y1.1,y1.2.1,(y1.2.2).1,(y1.2.2.2).1)::mt (Ty.den ty94))) (40)) (cond (!(y1.2.2.2).2) (k ((mt (Ty.den ty94),mt (Ty.den ty98),mt (Ty.den ty103),2,IntKind.wrap .i64 (v0_1+1)))) (cond (Ops.lt B (1) v0_0) (k ((mt (Ty.den ty94),mt (Ty.den ty98),mt (Ty.den ty103),2,IntKind.wrap .i64 (v0_1+1)))) (again (.l0 1 (IntKind.wrap .i64 (v0_1+1)) v0_2 (v0_6++(y1.1,y1.2.1,(y1.2.2).1,(y1.2.2.2).1)::mt (Ty.den ty94)) v0_7 v0_8)))) (none)) (none)) (cond (List.getD y0 (Int.toNat (0)) (Ty.dflt ty9) == ([112,114,111,99]:LB)) (cond (Ops.lt B (1) (Nat.cast (List.length y0))) (cond (Ops.inb B (1) (List.length y0)) (cond (Ops.inb B (2) (List.length y0+1)) (cond (Ops.lim B (List.length v0_7+List.length ((List.getD y0 (Int.toNat (1)) (Ty.dflt ty9),List.drop (Int.toNat (2)) (List.take (List.length y0) y0))::mt (Ty.den ty98))) (40)) (cond (!Ops.lt B (1) (Nat.cast (List.length y0))) (k ((mt (Ty.den ty94),mt (Ty.den ty98),mt (Ty.den ty103),2,IntKind.wrap .i64 (v0_1+1)))) (cond (Ops.lt B (2) v0_0) (k ((mt (Ty.den ty94),mt (Ty.den ty98),mt (Ty.den ty103),2,IntKind.wrap .i64 (v0_1+1)))) (again (.l0 2 (IntKind.wrap .i64 (v0_1+1)) v0_2 v0_6 (v0_7++(List.getD y0 (Int.toNat (1)) (Ty.dflt ty9),List.drop (Int.toNat (2)) (List.take (List.length y0) y0))::mt (Ty.den ty98)) v0_8)))) (none)) (none)) (none)) (cond (!Ops.lt B (1) (Nat.cast (List.length y0))) (k ((mt (Ty.den ty94),mt (Ty.den ty98),mt (Ty.den ty103),2,IntKind.wrap .i64 (v0_1+1)))) (cond (Ops.lt B (2) v0_0) (k ((mt (Ty.den ty94),mt (Ty.den ty98),mt (Ty.den ty103),2,IntKind.wrap .i64 (v0_1+1)))) (again (.l0 2 (IntKind.wrap .i64 (v0_1+1)) v0_2 v0_6 v0_7 v0_8))))) (cond (List.getD y0 (Int.toNat (0)) (Ty.dflt ty9) == ([116,114,97,110,115]:LB)) (cond (Ops.inb B v0_1 (List.length v0_2)) (ob (c90 (List.getD v0_2 (Int.toNat v0_1) (Ty.dflt ty9)) (1)) fun y1=>ob (c89 y1) fun y2=>cond (Ops.lim B (List.length v0_8+List.length ((y2.1,y2.2.1,(y2.2.2).1,(y2.2.2.2).1,((y2.2.2.2).2).1,((y2.2.2.2.2).2).1,(((y2.2.2.2.2).2).2).1)::mt (Ty.den ty103))) (120)) (cond (!(((y2.2.2.2.2).2).2).2) (k ((mt (Ty.den ty94),mt (Ty.den ty98),mt (Ty.den ty103),2,IntKind.wrap .i64 (v0_1+1)))) (cond (Ops.lt B (3) v0_0) (k ((mt (Ty.den ty94),mt (Ty.den ty98),mt (Ty.den ty103),2,IntKind.wrap .i64 (v0_1+1)))) (again (.l0 3 (IntKind.wrap .i64 (v0_1+1)) v0_2 v0_6 v0_7 (v0_8++(y2.1,y2.2.1,(y2.2.2).1,(y2.2.2.2).1,((y2.2.2.2).2).1,((y2.2.2.2.2).2).1,(((y2.2.2.2.2).2).2).1)::mt (Ty.den ty103)))))) (none)) (none)) (k ((mt (Ty.den ty94),mt (Ty.den ty98),mt (Ty.den ty103),2,IntKind.wrap .i64 (v0_1+1))))))) (none)) (k ((mt (Ty.den ty94),mt (Ty.den ty98),mt (Ty.den ty103),2,IntKind.wrap .i64 (v0_1+1))))) (none))) (none)) (ob (c18 v0_6 v0_7 v0_8) fun y0=>cond (!y0) (k ((mt (Ty.den ty94),mt (Ty.den ty98),mt (Ty.den ty103),2,0))) (k ((v0_6,v0_7,v0_8,0,0))))
def E47 (p0:LB):S47→List AV×Objs
 | .l0 v0_0 v0_1 v0_2 v0_6 v0_7 v0_8=>(mk 110 [(2,.c (.ptr 2 0)),(5,.c (.ptr 5 0)),(6,.c (.int .i64 v0_0)),(7,.c (.own 7)),(8,.c (.int .i64 v0_1))],[(2,.box 31 [.own 3000,.own 3001,.own 3002]),(5,.box 31 [.own 6000,.own 6001,.own 6002]),(7,.row 9 ty9 v0_2),(3000,.row 94 ty94 (mt (Ty.den ty94))),(3001,.row 98 ty98 (mt (Ty.den ty98))),(3002,.row 103 ty103 (mt (Ty.den ty103))),(6000,.row 94 ty94 v0_6),(6001,.row 98 ty98 v0_7),(6002,.row 103 ty103 v0_8)])
def I47:S47→Nat
 | .l0 _ _ _ _ _ _=>0
theorem eq47 {R:Type} (B:Ops) (c86:C86) (c87:C87) (c88:C88) (c90:C90) (c89:C89) (c18:C18) (p0:LB) (k:AV→Objs→Option R) (n:Nat):afun tau B gl0 X47 (ent 86 (e86 c86) (ent 87 (e87 c87) (ent 88 (e88 c88) (ent 90 (e90 c90) (ent 89 (e89 c89) (ent 18 (e18 c18) (gnil))))))) ow Tryz.f47 [.c (.str p0)] [] k n=T47 B c86 c87 c88 c90 c89 c18 p0 (fun s=>aloop tau B gl0 X47 (ent 86 (e86 c86) (ent 87 (e87 c87) (ent 88 (e88 c88) (ent 90 (e90 c90) (ent 89 (e89 c89) (ent 18 (e18 c18) (gnil))))))) ow [] Tryz.f47 k (I47 s) (E47 p0 s) n) (fun y=>k (.tup [(true,[.list 94 ty94 y.1,.list 98 ty98 y.2.1,.list 103 ty103 y.2.2.1]),(false,[.int .i64 y.2.2.2.1]),(false,[.int .i64 y.2.2.2.2])]) []) none:=by kernel_rfl
theorem el47 {R:Type} (B:Ops) (c86:C86) (c87:C87) (c88:C88) (c90:C90) (c89:C89) (c18:C18) (p0:LB) (k:AV→Objs→Option R) (n:Nat):∀ s,aloop tau B gl0 X47 (ent 86 (e86 c86) (ent 87 (e87 c87) (ent 88 (e88 c88) (ent 90 (e90 c90) (ent 89 (e89 c89) (ent 18 (e18 c18) (gnil))))))) ow [] Tryz.f47 k (I47 s) (E47 p0 s) (n+1)=T47 B c86 c87 c88 c90 c89 c18 p0 (fun s=>aloop tau B gl0 X47 (ent 86 (e86 c86) (ent 87 (e87 c87) (ent 88 (e88 c88) (ent 90 (e90 c90) (ent 89 (e89 c89) (ent 18 (e18 c18) (gnil))))))) ow [] Tryz.f47 k (I47 s) (E47 p0 s) n) (fun y=>k (.tup [(true,[.list 94 ty94 y.1,.list 98 ty98 y.2.1,.list 103 ty103 y.2.2.1]),(false,[.int .i64 y.2.2.2.1]),(false,[.int .i64 y.2.2.2.2])]) []) (some s)
 | .l0 v0_0 v0_1 v0_2 v0_6 v0_7 v0_8=>by kernel_rfl
theorem nt47 {R R':Type} (B:Ops) (c86:C86) (c87:C87) (c88:C88) (c90:C90) (c89:C89) (c18:C18) (p0:LB) (again:S47→Option R) (again':S47→Option R') (k0:(L94×L98×L103×Int×Int)→Option R') (k:R'→Option R) (h:∀ s,again s=ob (again' s) k):∀ s,T47 B c86 c87 c88 c90 c89 c18 p0 again (fun y=>ob (k0 y) k) s=ob (T47 B c86 c87 c88 c90 c89 c18 p0 again' k0 s) k
 | none=>by unfold T47;repeat' first | exact rfl | exact h _ | apply qac | (apply qah;intro)
 | some (.l0 v0_0 v0_1 v0_2 v0_6 v0_7 v0_8)=>by unfold T47;repeat' first | exact rfl | exact h _ | apply qac | (apply qah;intro)
def R47 (c86:C86) (c87:C87) (c88:C88) (c90:C90) (c89:C89) (c18:C18) (p0:LB):Nat→S47→Option (L94×L98×L103×Int×Int)
 | 0,_=>none
 | n+1,s=>T47 Ops.std c86 c87 c88 c90 c89 c18 p0 (R47 c86 c87 c88 c90 c89 c18 p0 n) some (some s)
theorem rr47 {R:Type} (c86:C86) (c87:C87) (c88:C88) (c90:C90) (c89:C89) (c18:C18) (p0:LB) (k:AV→Objs→Option R):∀ (n:Nat) (s:S47),aloop tau Ops.std gl0 X47 (ent 86 (e86 c86) (ent 87 (e87 c87) (ent 88 (e88 c88) (ent 90 (e90 c90) (ent 89 (e89 c89) (ent 18 (e18 c18) (gnil))))))) ow [] Tryz.f47 k (I47 s) (E47 p0 s) n=ob (R47 c86 c87 c88 c90 c89 c18 p0 n s) (fun y=>k (.tup [(true,[.list 94 ty94 y.1,.list 98 ty98 y.2.1,.list 103 ty103 y.2.2.1]),(false,[.int .i64 y.2.2.2.1]),(false,[.int .i64 y.2.2.2.2])]) [])
 | 0,s=>by cases s<;>rfl
 | n+1,s=>by rw [el47];exact nt47 Ops.std c86 c87 c88 c90 c89 c18 p0 _ _ some (fun y=>k (.tup [(true,[.list 94 ty94 y.1,.list 98 ty98 y.2.1,.list 103 ty103 y.2.2.1]),(false,[.int .i64 y.2.2.2.1]),(false,[.int .i64 y.2.2.2.2])]) []) (rr47 c86 c87 c88 c90 c89 c18 p0 k n) (some s)
def F47 (c86:C86) (c87:C87) (c88:C88) (c90:C90) (c89:C89) (c18:C18) (p0:LB):Option (L94×L98×L103×Int×Int):=T47 Ops.std c86 c87 c88 c90 c89 c18 p0 (R47 c86 c87 c88 c90 c89 c18 p0 1000000) some none
theorem fo47 {R:Type} (c86:C86) (c87:C87) (c88:C88) (c90:C90) (c89:C89) (c18:C18) (p0:LB) (k:AV→Objs→Option R):afun tau Ops.std gl0 X47 (ent 86 (e86 c86) (ent 87 (e87 c87) (ent 88 (e88 c88) (ent 90 (e90 c90) (ent 89 (e89 c89) (ent 18 (e18 c18) (gnil))))))) ow Tryz.f47 [.c (.str p0)] [] k 1000000=ob (F47 c86 c87 c88 c90 c89 c18 p0) (fun y=>k (.tup [(true,[.list 94 ty94 y.1,.list 98 ty98 y.2.1,.list 103 ty103 y.2.2.1]),(false,[.int .i64 y.2.2.2.1]),(false,[.int .i64 y.2.2.2.2])]) []):=by rw [eq47];exact nt47 Ops.std c86 c87 c88 c90 c89 c18 p0 _ _ some (fun y=>k (.tup [(true,[.list 94 ty94 y.1,.list 98 ty98 y.2.1,.list 103 ty103 y.2.2.1]),(false,[.int .i64 y.2.2.2.1]),(false,[.int .i64 y.2.2.2.2])]) []) (rr47 c86 c87 c88 c90 c89 c18 p0 k 1000000) none
def e47 {R:Type} (c:LB→Option (L94×L98×L103×Int×Int)):Ent R:=fun args objs k=>
 oCons args fun a0 l0=>oC a0 fun x0=>cStr x0 fun p0=>oNil l0 <| oNilO objs <| ob (c p0) fun y=>k (.tup [(true,[.list 94 ty94 y.1,.list 98 ty98 y.2.1,.list 103 ty103 y.2.2.1]),(false,[.int .i64 y.2.2.2.1]),(false,[.int .i64 y.2.2.2.2])]) []
abbrev Sp47 (c:LB→Option (L94×L98×L103×Int×Int)):Prop:=∀ (p0:LB) (y:L94×L98×L103×Int×Int),c p0=some y→Spec Tryz.prog gl0 47 [.c (.str p0)] [] (.tup [(true,[.list 94 ty94 y.1,.list 98 ty98 y.2.1,.list 103 ty103 y.2.2.1]),(false,[.int .i64 y.2.2.2.1]),(false,[.int .i64 y.2.2.2.2])]) []
theorem ek47 {R:Type} {c:LB→Option (L94×L98×L103×Int×Int)} (hs:Sp47 c):EOk 47 (e47 (R:=R) c):=fun args objs k r h=>by
 unfold e47 at h
 obtain ⟨a0,l0,rfl,q1⟩:=qaa h
 obtain ⟨x0,rfl,q2⟩:=qaj q1
 obtain ⟨p0,rfl,q3⟩:=qav q2
 obtain ⟨rfl,q4⟩:=qag q3
 obtain ⟨rfl,q5⟩:=qaf q4
 exact qar (hs p0) q5
theorem sf47 {c86:C86} {c87:C87} {c88:C88} {c90:C90} {c89:C89} {c18:C18} (h86:Sp86 c86) (h87:Sp87 c87) (h88:Sp88 c88) (h90:Sp90 c90) (h89:Sp89 c89) (h18:Sp18 c18):Sp47 (F47 c86 c87 c88 c90 c89 c18):=fun p0 y hy=>by
 refine qap (G:=ent 86 (e86 c86) (ent 87 (e87 c87) (ent 88 (e88 c88) (ent 90 (e90 c90) (ent 89 (e89 c89) (ent 18 (e18 c18) (gnil))))))) (qai (ek86 h86) (qai (ek87 h87) (qai (ek88 h88) (qai (ek90 h90) (qai (ek89 h89) (qai (ek18 h18) (qao))))))) 1000000 (fn:=Tryz.f47) (by kernel_rfl) (by kernel_rfl) (X:=X47) (by kernel_rfl) ?_
 rw [fo47,hy]
 rfl
noncomputable def M47:LB→Option (L94×L98×L103×Int×Int):=F47 M86 M87 M88 M90 M89 M18
theorem sm47:Sp47 M47:=sf47 sm86 sm87 sm88 sm90 sm89 sm18
def X12:Aux:=⟨[],[]⟩
abbrev C48:Type:=Int→Int→L22→Option (LB)
abbrev C47:Type:=LB→Option (L94×L98×L103×Int×Int)
def T12 {R:Type} (B:Ops) (c48:C48) (c47:C47) (p0:Int) (p1:Int) (p2:L22) (k:(L94×L98×L103)→Option R):Option R:=ob (c48 p0 p1 p2) fun y0=>ob (c47 y0) fun y1=>k ((y1.1,y1.2.1,(y1.2.2).1))
theorem eq12 {R:Type} (B:Ops) (c48:C48) (c47:C47) (p0:Int) (p1:Int) (p2:L22) (k:AV→Objs→Option R) (n:Nat):afun tau B gl0 X12 (ent 48 (e48 c48) (ent 47 (e47 c47) (gnil))) ow Tryz.f12 [.agg [.int .i64 p0,.int .i64 p1,.list 22 ty22 p2]] [] k n=T12 B c48 c47 p0 p1 p2 (fun y=>k (.agg [.list 94 ty94 y.1,.list 98 ty98 y.2.1,.list 103 ty103 y.2.2]) []):=by kernel_rfl
theorem nt12 {R R':Type} (B:Ops) (c48:C48) (c47:C47) (p0:Int) (p1:Int) (p2:L22) (k0:(L94×L98×L103)→Option R') (k:R'→Option R):T12 B c48 c47 p0 p1 p2 (fun y=>ob (k0 y) k)=ob (T12 B c48 c47 p0 p1 p2 k0) k:=by
 unfold T12
 repeat' first | exact rfl | apply qac | (apply qah;intro)
def F12 (c48:C48) (c47:C47) (p0:Int) (p1:Int) (p2:L22):Option (L94×L98×L103):=T12 Ops.std c48 c47 p0 p1 p2 some
theorem fo12 {R:Type} (c48:C48) (c47:C47) (p0:Int) (p1:Int) (p2:L22) (k:AV→Objs→Option R) (n:Nat):afun tau Ops.std gl0 X12 (ent 48 (e48 c48) (ent 47 (e47 c47) (gnil))) ow Tryz.f12 [.agg [.int .i64 p0,.int .i64 p1,.list 22 ty22 p2]] [] k n=ob (F12 c48 c47 p0 p1 p2) (fun y=>k (.agg [.list 94 ty94 y.1,.list 98 ty98 y.2.1,.list 103 ty103 y.2.2]) []):=by rw [eq12];exact nt12 Ops.std c48 c47 p0 p1 p2 some (fun y=>k (.agg [.list 94 ty94 y.1,.list 98 ty98 y.2.1,.list 103 ty103 y.2.2]) [])
def e12 {R:Type} (c:Int→Int→L22→Option (L94×L98×L103)):Ent R:=fun args objs k=>
 oCons args fun a0 l0=>oAgg a0 fun x0=>cCons x0 fun z0_0 w0_0=>cInt .i64 z0_0 fun p0=>cCons w0_0 fun z0_1 w0_1=>cInt .i64 z0_1 fun p1=>cCons w0_1 fun z0_2 w0_2=>cList 22 ty22 z0_2 fun p2=>cNil w0_2 <| oNil l0 <| oNilO objs <| ob (c p0 p1 p2) fun y=>k (.agg [.list 94 ty94 y.1,.list 98 ty98 y.2.1,.list 103 ty103 y.2.2]) []
abbrev Sp12 (c:Int→Int→L22→Option (L94×L98×L103)):Prop:=∀ (p0:Int) (p1:Int) (p2:L22) (y:L94×L98×L103),c p0 p1 p2=some y→Spec Tryz.prog gl0 12 [.agg [.int .i64 p0,.int .i64 p1,.list 22 ty22 p2]] [] (.agg [.list 94 ty94 y.1,.list 98 ty98 y.2.1,.list 103 ty103 y.2.2]) []
theorem ek12 {R:Type} {c:Int→Int→L22→Option (L94×L98×L103)} (hs:Sp12 c):EOk 12 (e12 (R:=R) c):=fun args objs k r h=>by
 unfold e12 at h
 obtain ⟨a0,l0,rfl,q1⟩:=qaa h
 obtain ⟨x0,rfl,q2⟩:=qax q1
 obtain ⟨z0_0,w0_0,rfl,q3⟩:=qad q2
 obtain ⟨p0,rfl,q4⟩:=qal q3
 obtain ⟨z0_1,w0_1,rfl,q5⟩:=qad q4
 obtain ⟨p1,rfl,q6⟩:=qal q5
 obtain ⟨z0_2,w0_2,rfl,q7⟩:=qad q6
 obtain ⟨p2,rfl,q8⟩:=qae q7
 obtain ⟨rfl,q9⟩:=qat q8
 obtain ⟨rfl,q10⟩:=qag q9
 obtain ⟨rfl,q11⟩:=qaf q10
 exact qar (hs p0 p1 p2) q11
theorem sf12 {c48:C48} {c47:C47} (h48:Sp48 c48) (h47:Sp47 c47):Sp12 (F12 c48 c47):=fun p0 p1 p2 y hy=>by
 refine qap (G:=ent 48 (e48 c48) (ent 47 (e47 c47) (gnil))) (qai (ek48 h48) (qai (ek47 h47) (qao))) 1000000 (fn:=Tryz.f12) (by kernel_rfl) (by kernel_rfl) (X:=X12) (by kernel_rfl) ?_
 rw [fo12,hy]
 rfl
noncomputable def M12:Int→Int→L22→Option (L94×L98×L103):=F12 M48 M47
theorem sm12:Sp12 M12:=sf12 sm48 sm47
def X3:Aux:=⟨[(16,(rg 0 15++rg 17 82++rg 101 22)),(1000010,([0,1,2,5,6,7,8,9,10]++rg 14 109)),(1000015,(rg 0 15++rg 17 106))],[(18,.lin (rg 0 19))]⟩
inductive S3 where
 | l0 (v0_0:Int) (v0_1:Int) (v0_2:L47) (v0_3:L47)
 | l1010 (v1010_2:L66) (v1010_3:L94) (v1010_4:L98) (v1010_5:L103) (v1010_6:L66)
 | l1015 (v1015_0:L47) (v1015_1:L47)
abbrev C11:Type:=Option (Bool)
abbrev C12:Type:=Int→Int→L22→Option (L94×L98×L103)
abbrev C15:Type:=L3→Option (LB)
abbrev C13:Type:=L66→Option (L66)
abbrev C16:Type:=L66→Option (L66)
abbrev C20:Type:=L94→L98→L103→L3→L3→Option (L68×L68)
abbrev C21:Type:=L94→L98→L103→L66→L68→L68→Option (L47)
abbrev C22:Type:=L66→Option (Bool)
abbrev C23:Type:=L66→Option (L3)
def T3 {R:Type} (B:Ops) (c11:C11) (c12:C12) (c15:C15) (c14:C14) (c13:C13) (c16:C16) (c17:C17) (c18:C18) (c19:C19) (c20:C20) (c21:C21) (c22:C22) (c23:C23) (p0:L3) (p1:Bool) (p2:Int) (p3:Int) (p4:L22) (p5:L3) (p6:L3) (again:S3→Option R) (k:(Bool)→Option R):Option S3→Option R | none=>ob (c11) fun y0=>cond (!y0) (k false) (ob (c12 p2 p3 p4) fun y1=>ob (c15 p0) fun y2=>ob (c14 y2) fun y3=>ob (c13 y3) fun y4=>cond (p1) (ob (c15 p0) fun y5=>ob (c14 y5) fun y6=>ob (c16 y6) fun y7=>ob (c17 y7) fun y8=>ob (c11) fun y9=>cond (!y9) (ob (c11) fun y10=>k y10) (cond (Ops.eq B (Nat.cast (List.length y7)) (0)) (ob (c11) fun y10=>k y10) (ob (c18 y1.1 y1.2.1 y1.2.2) fun y10=>cond (!y10) (ob (c11) fun y11=>k y11) (ob (c19 y1.1 y1.2.1 y1.2.2 y7) fun y11=>cond (!y11) (ob (c11) fun y12=>k y12) (again (.l1010 y7 y1.1 y1.2.1 y1.2.2 y8)))))) (ob (c17 y4) fun y5=>ob (c11) fun y6=>cond (!y6) (ob (c11) fun y7=>k y7) (cond (Ops.eq B (Nat.cast (List.length y4)) (0)) (ob (c11) fun y7=>k y7) (ob (c18 y1.1 y1.2.1 y1.2.2) fun y7=>cond (!y7) (ob (c11) fun y8=>k y8) (ob (c19 y1.1 y1.2.1 y1.2.2 y4) fun y8=>cond (!y8) (ob (c11) fun y9=>k y9) (again (.l1010 y4 y1.1 y1.2.1 y1.2.2 y5))))))) | some (.l0 v0_0 v0_1 v0_2 v0_3)=>cond (Ops.lt B v0_1 v0_0) (cond (Ops.inb B (IntKind.wrap .i64 (Nat.cast (List.length v0_2)-1)) (List.length v0_2)) (cond (Ops.inb B v0_1 (List.length (List.getD v0_2 (Int.toNat (IntKind.wrap .i64 (Nat.cast (List.length v0_2)-1))) (Ty.dflt ty47)))) (cond (Ops.inb B (IntKind.wrap .i64 (Nat.cast (List.length v0_3)-1)) (List.length v0_3)) (cond (Ops.inb B v0_1 (List.length (List.getD v0_3 (Int.toNat (IntKind.wrap .i64 (Nat.cast (List.length v0_3)-1))) (Ty.dflt ty47)))) (cond (!List.getD (List.getD v0_2 (Int.toNat (IntKind.wrap .i64 (Nat.cast (List.length v0_2)-1))) (Ty.dflt ty47)) (Int.toNat v0_1) (Ty.dflt Ty.bool) == List.getD (List.getD v0_3 (Int.toNat (IntKind.wrap .i64 (Nat.cast (List.length v0_3)-1))) (Ty.dflt ty47)) (Int.toNat v0_1) (Ty.dflt Ty.bool)) (k false) (again (.l0 v0_0 (IntKind.wrap .i64 (v0_1+1)) v0_2 v0_3))) (none)) (none)) (none)) (none)) (k true) | some (.l1010 v1010_2 v1010_3 v1010_4 v1010_5 v1010_6)=>ob (c20 v1010_3 v1010_4 v1010_5 p5 p6) fun y0=>ob (c21 v1010_3 v1010_4 v1010_5 v1010_2 y0.1 y0.2) fun y1=>ob (c21 v1010_3 v1010_4 v1010_5 v1010_6 y0.1 y0.2) fun y2=>ob (c22 v1010_6) fun y3=>cond (!y3) (k false) (cond (Ops.lt B (Nat.cast (List.length v1010_2)) (Nat.cast (List.length v1010_6))) (k false) (ob (c23 v1010_6) fun y4=>ob (c23 v1010_2) fun y5=>cond (Ops.lt B (Nat.cast (List.length y5)) (Nat.cast (List.length y4))) (k false) (cond (Ops.eq B (Nat.cast (List.length y1)) (0)) (k false) (cond (Ops.eq B (Nat.cast (List.length y2)) (0)) (k false) (again (.l1015 y1 y2)))))) | some (.l1015 v1015_0 v1015_1)=>cond (Ops.inb B (IntKind.wrap .i64 (Nat.cast (List.length v1015_0)-1)) (List.length v1015_0)) (again (.l0 (Nat.cast (List.length (List.getD v1015_0 (Int.toNat (IntKind.wrap .i64 (Nat.cast (List.length v1015_0)-1))) (Ty.dflt ty47)))) 0 v1015_0 v1015_1)) (none)
def E3 (p0:L3) (p1:Bool) (p2:Int) (p3:Int) (p4:L22) (p5:L3) (p6:L3):S3→List AV×Objs
 | .l0 v0_0 v0_1 v0_2 v0_3=>(mk 123 [(15,.c (.own 15)),(16,.c (.own 16)),(99,.c (.int .i64 v0_0)),(100,.c (.int .i64 v0_1))],[(15,.row 47 ty47 v0_2),(16,.row 47 ty47 v0_3)])
 | .l1010 v1010_2 v1010_3 v1010_4 v1010_5 v1010_6=>(mk 123 [(3,.c (.list 3 ty3 p5)),(4,.c (.list 3 ty3 p6)),(11,.c (.ptr 11 0)),(12,.c (.list 66 ty66 v1010_2)),(13,.c (.own 13))],[(11,.box 31 [.list 94 ty94 v1010_3,.list 98 ty98 v1010_4,.list 103 ty103 v1010_5]),(13,.row 66 ty66 v1010_6)])
 | .l1015 v1015_0 v1015_1=>(mk 123 [(15,.c (.own 15)),(16,.c (.own 16))],[(15,.row 47 ty47 v1015_0),(16,.row 47 ty47 v1015_1)])
def I3:S3→Nat
 | .l0 _ _ _ _=>0
 | .l1010 _ _ _ _ _=>1010
 | .l1015 _ _=>1015
theorem eq3 {R:Type} (B:Ops) (c11:C11) (c12:C12) (c15:C15) (c14:C14) (c13:C13) (c16:C16) (c17:C17) (c18:C18) (c19:C19) (c20:C20) (c21:C21) (c22:C22) (c23:C23) (p0:L3) (p1:Bool) (p2:Int) (p3:Int) (p4:L22) (p5:L3) (p6:L3) (k:AV→Objs→Option R) (n:Nat):afun tau B gl0 X3 (ent 11 (e11 c11) (ent 12 (e12 c12) (ent 15 (e15 c15) (ent 14 (e14 c14) (ent 13 (e13 c13) (ent 16 (e16 c16) (ent 17 (e17 c17) (ent 18 (e18 c18) (ent 19 (e19 c19) (ent 20 (e20 c20) (ent 21 (e21 c21) (ent 22 (e22 c22) (ent 23 (e23 c23) (gnil)))))))))))))) ow Tryz.f3 [.c (.list 3 ty3 p0),.c (.bool p1),.agg [.int .i64 p2,.int .i64 p3,.list 22 ty22 p4],.c (.list 3 ty3 p5),.c (.list 3 ty3 p6)] [] k n=T3 B c11 c12 c15 c14 c13 c16 c17 c18 c19 c20 c21 c22 c23 p0 p1 p2 p3 p4 p5 p6 (fun s=>aloop tau B gl0 X3 (ent 11 (e11 c11) (ent 12 (e12 c12) (ent 15 (e15 c15) (ent 14 (e14 c14) (ent 13 (e13 c13) (ent 16 (e16 c16) (ent 17 (e17 c17) (ent 18 (e18 c18) (ent 19 (e19 c19) (ent 20 (e20 c20) (ent 21 (e21 c21) (ent 22 (e22 c22) (ent 23 (e23 c23) (gnil)))))))))))))) ow [] Tryz.f3 k (I3 s) (E3 p0 p1 p2 p3 p4 p5 p6 s) n) (fun y=>k (.c (.bool y)) []) none:=by kernel_rfl
theorem el3 {R:Type} (B:Ops) (c11:C11) (c12:C12) (c15:C15) (c14:C14) (c13:C13) (c16:C16) (c17:C17) (c18:C18) (c19:C19) (c20:C20) (c21:C21) (c22:C22) (c23:C23) (p0:L3) (p1:Bool) (p2:Int) (p3:Int) (p4:L22) (p5:L3) (p6:L3) (k:AV→Objs→Option R) (n:Nat):∀ s,aloop tau B gl0 X3 (ent 11 (e11 c11) (ent 12 (e12 c12) (ent 15 (e15 c15) (ent 14 (e14 c14) (ent 13 (e13 c13) (ent 16 (e16 c16) (ent 17 (e17 c17) (ent 18 (e18 c18) (ent 19 (e19 c19) (ent 20 (e20 c20) (ent 21 (e21 c21) (ent 22 (e22 c22) (ent 23 (e23 c23) (gnil)))))))))))))) ow [] Tryz.f3 k (I3 s) (E3 p0 p1 p2 p3 p4 p5 p6 s) (n+1)=T3 B c11 c12 c15 c14 c13 c16 c17 c18 c19 c20 c21 c22 c23 p0 p1 p2 p3 p4 p5 p6 (fun s=>aloop tau B gl0 X3 (ent 11 (e11 c11) (ent 12 (e12 c12) (ent 15 (e15 c15) (ent 14 (e14 c14) (ent 13 (e13 c13) (ent 16 (e16 c16) (ent 17 (e17 c17) (ent 18 (e18 c18) (ent 19 (e19 c19) (ent 20 (e20 c20) (ent 21 (e21 c21) (ent 22 (e22 c22) (ent 23 (e23 c23) (gnil)))))))))))))) ow [] Tryz.f3 k (I3 s) (E3 p0 p1 p2 p3 p4 p5 p6 s) n) (fun y=>k (.c (.bool y)) []) (some s)
 | .l0 v0_0 v0_1 v0_2 v0_3=>by kernel_rfl
 | .l1010 v1010_2 v1010_3 v1010_4 v1010_5 v1010_6=>by kernel_rfl
 | .l1015 v1015_0 v1015_1=>by kernel_rfl
theorem nt3 {R R':Type} (B:Ops) (c11:C11) (c12:C12) (c15:C15) (c14:C14) (c13:C13) (c16:C16) (c17:C17) (c18:C18) (c19:C19) (c20:C20) (c21:C21) (c22:C22) (c23:C23) (p0:L3) (p1:Bool) (p2:Int) (p3:Int) (p4:L22) (p5:L3) (p6:L3) (again:S3→Option R) (again':S3→Option R') (k0:(Bool)→Option R') (k:R'→Option R) (h:∀ s,again s=ob (again' s) k):∀ s,T3 B c11 c12 c15 c14 c13 c16 c17 c18 c19 c20 c21 c22 c23 p0 p1 p2 p3 p4 p5 p6 again (fun y=>ob (k0 y) k) s=ob (T3 B c11 c12 c15 c14 c13 c16 c17 c18 c19 c20 c21 c22 c23 p0 p1 p2 p3 p4 p5 p6 again' k0 s) k
 | none=>by unfold T3;repeat' first | exact rfl | exact h _ | apply qac | (apply qah;intro)
 | some (.l0 v0_0 v0_1 v0_2 v0_3)=>by unfold T3;repeat' first | exact rfl | exact h _ | apply qac | (apply qah;intro)
 | some (.l1010 v1010_2 v1010_3 v1010_4 v1010_5 v1010_6)=>by unfold T3;repeat' first | exact rfl | exact h _ | apply qac | (apply qah;intro)
 | some (.l1015 v1015_0 v1015_1)=>by unfold T3;repeat' first | exact rfl | exact h _ | apply qac | (apply qah;intro)
def R3 (c11:C11) (c12:C12) (c15:C15) (c14:C14) (c13:C13) (c16:C16) (c17:C17) (c18:C18) (c19:C19) (c20:C20) (c21:C21) (c22:C22) (c23:C23) (p0:L3) (p1:Bool) (p2:Int) (p3:Int) (p4:L22) (p5:L3) (p6:L3):Nat→S3→Option (Bool)
 | 0,_=>none
 | n+1,s=>T3 Ops.std c11 c12 c15 c14 c13 c16 c17 c18 c19 c20 c21 c22 c23 p0 p1 p2 p3 p4 p5 p6 (R3 c11 c12 c15 c14 c13 c16 c17 c18 c19 c20 c21 c22 c23 p0 p1 p2 p3 p4 p5 p6 n) some (some s)
theorem rr3 {R:Type} (c11:C11) (c12:C12) (c15:C15) (c14:C14) (c13:C13) (c16:C16) (c17:C17) (c18:C18) (c19:C19) (c20:C20) (c21:C21) (c22:C22) (c23:C23) (p0:L3) (p1:Bool) (p2:Int) (p3:Int) (p4:L22) (p5:L3) (p6:L3) (k:AV→Objs→Option R):∀ (n:Nat) (s:S3),aloop tau Ops.std gl0 X3 (ent 11 (e11 c11) (ent 12 (e12 c12) (ent 15 (e15 c15) (ent 14 (e14 c14) (ent 13 (e13 c13) (ent 16 (e16 c16) (ent 17 (e17 c17) (ent 18 (e18 c18) (ent 19 (e19 c19) (ent 20 (e20 c20) (ent 21 (e21 c21) (ent 22 (e22 c22) (ent 23 (e23 c23) (gnil)))))))))))))) ow [] Tryz.f3 k (I3 s) (E3 p0 p1 p2 p3 p4 p5 p6 s) n=ob (R3 c11 c12 c15 c14 c13 c16 c17 c18 c19 c20 c21 c22 c23 p0 p1 p2 p3 p4 p5 p6 n s) (fun y=>k (.c (.bool y)) [])
 | 0,s=>by cases s<;>rfl
 | n+1,s=>by rw [el3];exact nt3 Ops.std c11 c12 c15 c14 c13 c16 c17 c18 c19 c20 c21 c22 c23 p0 p1 p2 p3 p4 p5 p6 _ _ some (fun y=>k (.c (.bool y)) []) (rr3 c11 c12 c15 c14 c13 c16 c17 c18 c19 c20 c21 c22 c23 p0 p1 p2 p3 p4 p5 p6 k n) (some s)
def F3 (c11:C11) (c12:C12) (c15:C15) (c14:C14) (c13:C13) (c16:C16) (c17:C17) (c18:C18) (c19:C19) (c20:C20) (c21:C21) (c22:C22) (c23:C23) (p0:L3) (p1:Bool) (p2:Int) (p3:Int) (p4:L22) (p5:L3) (p6:L3):Option (Bool):=T3 Ops.std c11 c12 c15 c14 c13 c16 c17 c18 c19 c20 c21 c22 c23 p0 p1 p2 p3 p4 p5 p6 (R3 c11 c12 c15 c14 c13 c16 c17 c18 c19 c20 c21 c22 c23 p0 p1 p2 p3 p4 p5 p6 1000000) some none
theorem fo3 {R:Type} (c11:C11) (c12:C12) (c15:C15) (c14:C14) (c13:C13) (c16:C16) (c17:C17) (c18:C18) (c19:C19) (c20:C20) (c21:C21) (c22:C22) (c23:C23) (p0:L3) (p1:Bool) (p2:Int) (p3:Int) (p4:L22) (p5:L3) (p6:L3) (k:AV→Objs→Option R):afun tau Ops.std gl0 X3 (ent 11 (e11 c11) (ent 12 (e12 c12) (ent 15 (e15 c15) (ent 14 (e14 c14) (ent 13 (e13 c13) (ent 16 (e16 c16) (ent 17 (e17 c17) (ent 18 (e18 c18) (ent 19 (e19 c19) (ent 20 (e20 c20) (ent 21 (e21 c21) (ent 22 (e22 c22) (ent 23 (e23 c23) (gnil)))))))))))))) ow Tryz.f3 [.c (.list 3 ty3 p0),.c (.bool p1),.agg [.int .i64 p2,.int .i64 p3,.list 22 ty22 p4],.c (.list 3 ty3 p5),.c (.list 3 ty3 p6)] [] k 1000000=ob (F3 c11 c12 c15 c14 c13 c16 c17 c18 c19 c20 c21 c22 c23 p0 p1 p2 p3 p4 p5 p6) (fun y=>k (.c (.bool y)) []):=by rw [eq3];exact nt3 Ops.std c11 c12 c15 c14 c13 c16 c17 c18 c19 c20 c21 c22 c23 p0 p1 p2 p3 p4 p5 p6 _ _ some (fun y=>k (.c (.bool y)) []) (rr3 c11 c12 c15 c14 c13 c16 c17 c18 c19 c20 c21 c22 c23 p0 p1 p2 p3 p4 p5 p6 k 1000000) none
def e3 {R:Type} (c:L3→Bool→Int→Int→L22→L3→L3→Option (Bool)):Ent R:=fun args objs k=>
 oCons args fun a0 l0=>oC a0 fun x0=>cList 3 ty3 x0 fun p0=>oCons l0 fun a1 l1=>oC a1 fun x1=>cBool x1 fun p1=>oCons l1 fun a2 l2=>oAgg a2 fun x2=>cCons x2 fun z2_0 w2_0=>cInt .i64 z2_0 fun p2=>cCons w2_0 fun z2_1 w2_1=>cInt .i64 z2_1 fun p3=>cCons w2_1 fun z2_2 w2_2=>cList 22 ty22 z2_2 fun p4=>cNil w2_2 <| oCons l2 fun a3 l3=>oC a3 fun x3=>cList 3 ty3 x3 fun p5=>oCons l3 fun a4 l4=>oC a4 fun x4=>cList 3 ty3 x4 fun p6=>oNil l4 <| oNilO objs <| ob (c p0 p1 p2 p3 p4 p5 p6) fun y=>k (.c (.bool y)) []
abbrev Sp3 (c:L3→Bool→Int→Int→L22→L3→L3→Option (Bool)):Prop:=∀ (p0:L3) (p1:Bool) (p2:Int) (p3:Int) (p4:L22) (p5:L3) (p6:L3) (y:Bool),c p0 p1 p2 p3 p4 p5 p6=some y→Spec Tryz.prog gl0 3 [.c (.list 3 ty3 p0),.c (.bool p1),.agg [.int .i64 p2,.int .i64 p3,.list 22 ty22 p4],.c (.list 3 ty3 p5),.c (.list 3 ty3 p6)] [] (.c (.bool y)) []
theorem sf3 {c11:C11} {c12:C12} {c15:C15} {c14:C14} {c13:C13} {c16:C16} {c17:C17} {c18:C18} {c19:C19} {c20:C20} {c21:C21} {c22:C22} {c23:C23} (h11:Sp11 c11) (h12:Sp12 c12) (h15:Sp15 c15) (h14:Sp14 c14) (h13:Sp13 c13) (h16:Sp16 c16) (h17:Sp17 c17) (h18:Sp18 c18) (h19:Sp19 c19) (h20:Sp20 c20) (h21:Sp21 c21) (h22:Sp22 c22) (h23:Sp23 c23):Sp3 (F3 c11 c12 c15 c14 c13 c16 c17 c18 c19 c20 c21 c22 c23):=fun p0 p1 p2 p3 p4 p5 p6 y hy=>by
 refine qap (G:=ent 11 (e11 c11) (ent 12 (e12 c12) (ent 15 (e15 c15) (ent 14 (e14 c14) (ent 13 (e13 c13) (ent 16 (e16 c16) (ent 17 (e17 c17) (ent 18 (e18 c18) (ent 19 (e19 c19) (ent 20 (e20 c20) (ent 21 (e21 c21) (ent 22 (e22 c22) (ent 23 (e23 c23) (gnil)))))))))))))) (qai (ek11 h11) (qai (ek12 h12) (qai (ek15 h15) (qai (ek14 h14) (qai (ek13 h13) (qai (ek16 h16) (qai (ek17 h17) (qai (ek18 h18) (qai (ek19 h19) (qai (ek20 h20) (qai (ek21 h21) (qai (ek22 h22) (qai (ek23 h23) (qao)))))))))))))) 1000000 (fn:=Tryz.f3) (by kernel_rfl) (by kernel_rfl) (X:=X3) (by kernel_rfl) ?_
 rw [fo3,hy]
 rfl
noncomputable def M3:L3→Bool→Int→Int→L22→L3→L3→Option (Bool):=F3 M11 M12 M15 M14 M13 M16 M17 M18 M19 M20 M21 M22 M23
theorem sm3:Sp3 M3:=sf3 sm11 sm12 sm15 sm14 sm13 sm16 sm17 sm18 sm19 sm20 sm21 sm22 sm23
end Go.Proofs.YtccnmhdgghjgoaaGreatDoor.Av
