/- Twins of functions,printed by gen.py. Conditions: none. -/
import Derived.Test.YtccnmhdgghjgoaaGreatDoorRm1
import Derived.KernelRfl
set_option linter.unusedSimpArgs false
set_option linter.unusedVariables false
set_option maxRecDepth 100000
set_option maxHeartbeats 8000000
namespace Go.Proofs.YtccnmhdgghjgoaaGreatDoor.Av
open Go
def X82:Aux:=⟨[(5,([1,2,3,4]++rg 7 144)),(17,([1,2,3,4]++rg 9 142)),(25,([1,2,3,4]++rg 9 142)),(1000020,([1,2,3,4]++rg 9 142)),(1000026,([1,2,3,4]++rg 9 142)),(1000027,([1,2,3,4]++rg 9 142)),(1000031,([1,2,3,4,7]++rg 9 142)),(1000010,([1,2,3,4,7]++rg 9 142)),(1000032,([1,2,3,4]++rg 9 142))],[(19,.lin (rg 0 13))]⟩
inductive S82 where
 | l0 (v0_1:Int) (v0_2:L130)
 | l1 (v1_1:Int) (v1_2:Int) (v1_3:L130) (v1_6:Int) (v1_7:Int)
 | l2 (v2_1:Int) (v2_2:Int) (v2_3:L130) (v2_7:Int)
 | l1010 (v1010_1:Int) (v1010_2:L130) (v1010_6:Int)
 | l1020 (v1020_1:Int) (v1020_2:Int) (v1020_3:L130) (v1020_6:Int) (v1020_7:Int)
 | l1026 (v1026_1:Int) (v1026_2:Int) (v1026_3:L130) (v1026_7:Int)
 | l1027 (v1027_1:Int) (v1027_2:Int) (v1027_3:L130) (v1027_7:Int)
 | l1031 (v1031_1:Int) (v1031_2:L130) (v1031_6:Int)
 | l1032 (v1032_1:Int) (v1032_2:Int) (v1032_3:L130) (v1032_4:Int) (v1032_6:Int) (v1032_7:Int)
abbrev C140:Type:=LB→Option (LB)
def T82 {R:Type} (B:Ops) (c104:C104) (c103:C103) (c140:C140) (p0:LB) (again:S82→Option R) (k:(Int×Int×L130)→Option R):Option S82→Option R | none=>cond (Ops.lt B (60000) (Nat.cast (List.length p0))) (k ((14,0,mt (Ty.den ty130)))) (again (.l0 0 (mt (Ty.den ty130)))) | some (.l0 v0_1 v0_2)=>cond (Ops.lt B v0_1 (Nat.cast (List.length p0))) (cond (Ops.inb B v0_1 (List.length p0)) (cond (Ops.eq B (Nat.cast (UInt8.toNat (List.getD p0 (Int.toNat v0_1) (0)))) (32)) (again (.l0 (IntKind.wrap .i64 (v0_1+1)) v0_2)) (cond (Ops.eq B (Nat.cast (UInt8.toNat (List.getD p0 (Int.toNat v0_1) (0)))) (9)) (again (.l0 (IntKind.wrap .i64 (v0_1+1)) v0_2)) (cond (Ops.eq B (Nat.cast (UInt8.toNat (List.getD p0 (Int.toNat v0_1) (0)))) (10)) (again (.l0 (IntKind.wrap .i64 (v0_1+1)) v0_2)) (ob (c104 (Nat.cast (UInt8.toNat (List.getD p0 (Int.toNat v0_1) (0))))) fun y0=>cond (y0) (again (.l1 v0_1 0 v0_2 0 v0_1)) (ob (c103 (Nat.cast (UInt8.toNat (List.getD p0 (Int.toNat v0_1) (0))))) fun y1=>cond (y1) (again (.l2 v0_1 0 v0_2 v0_1)) (cond (Ops.eq B (Nat.cast (UInt8.toNat (List.getD p0 (Int.toNat v0_1) (0)))) (88)) (again (.l1031 v0_1 v0_2 v0_1)) (cond (Ops.eq B (Nat.cast (UInt8.toNat (List.getD p0 (Int.toNat v0_1) (0)))) (70)) (again (.l1031 v0_1 v0_2 v0_1)) (cond (Ops.eq B (Nat.cast (UInt8.toNat (List.getD p0 (Int.toNat v0_1) (0)))) (71)) (again (.l1031 v0_1 v0_2 v0_1)) (cond (Ops.eq B (Nat.cast (UInt8.toNat (List.getD p0 (Int.toNat v0_1) (0)))) (85)) (again (.l1031 v0_1 v0_2 v0_1)) (cond (Ops.eq B (Nat.cast (UInt8.toNat (List.getD p0 (Int.toNat v0_1) (0)))) (82)) (again (.l1031 v0_1 v0_2 v0_1)) (again (.l1010 v0_1 v0_2 v0_1)))))))))))) (none)) (cond (Ops.lim B (List.length v0_2+List.length ((5,mt UInt8,0,v0_1)::mt (Ty.den ty130))) (40)) (k ((0,0,v0_2++(5,mt UInt8,0,v0_1)::mt (Ty.den ty130)))) (none)) | some (.l1 v1_1 v1_2 v1_3 v1_6 v1_7)=>cond (Ops.lt B (IntKind.wrap .i64 (v1_1+v1_2)) (Nat.cast (List.length p0))) (cond (Ops.inb B (IntKind.wrap .i64 (v1_1+v1_2)) (List.length p0)) (ob (c104 (Nat.cast (UInt8.toNat (List.getD p0 (Int.toNat (IntKind.wrap .i64 (v1_1+v1_2))) (0))))) fun y0=>cond (y0) (cond (Ops.lt B v1_2 (3)) (cond (Ops.inb B (IntKind.wrap .i64 (v1_1+v1_2)) (List.length p0)) (again (.l1020 v1_1 v1_2 v1_3 (IntKind.wrap .i64 (IntKind.wrap .i64 (10*v1_6)+IntKind.wrap .i64 (IntKind.wrap IntKind.u8 (Nat.cast (UInt8.toNat (List.getD p0 (Int.toNat (IntKind.wrap .i64 (v1_1+v1_2))) (0)))-48)))) v1_7)) (none)) (again (.l1020 v1_1 v1_2 v1_3 v1_6 v1_7))) (cond (Ops.lt B (3) v1_2) (k ((2,v1_1,mt (Ty.den ty130)))) (again (.l1032 v1_1 v1_2 v1_3 1 v1_6 v1_7)))) (none)) (cond (Ops.lt B (3) v1_2) (k ((2,v1_1,mt (Ty.den ty130)))) (again (.l1032 v1_1 v1_2 v1_3 1 v1_6 v1_7))) | some (.l2 v2_1 v2_2 v2_3 v2_7)=>cond (Ops.lt B (IntKind.wrap .i64 (v2_1+v2_2)) (Nat.cast (List.length p0))) (cond (Ops.inb B (IntKind.wrap .i64 (v2_1+v2_2)) (List.length p0)) (ob (c103 (Nat.cast (UInt8.toNat (List.getD p0 (Int.toNat (IntKind.wrap .i64 (v2_1+v2_2))) (0))))) fun y0=>cond (y0) (again (.l1026 v2_1 v2_2 v2_3 v2_7)) (cond (Ops.inb B (IntKind.wrap .i64 (v2_1+v2_2)) (List.length p0)) (ob (c104 (Nat.cast (UInt8.toNat (List.getD p0 (Int.toNat (IntKind.wrap .i64 (v2_1+v2_2))) (0))))) fun y1=>cond (y1) (again (.l1026 v2_1 v2_2 v2_3 v2_7)) (again (.l1027 v2_1 v2_2 v2_3 v2_7))) (none))) (none)) (again (.l1027 v2_1 v2_2 v2_3 v2_7)) | some (.l1010 v1010_1 v1010_2 v1010_6)=>cond (Ops.inb B v1010_1 (List.length p0+1)) (ob (c140 (List.drop (Int.toNat v1010_1) (List.take (List.length p0) p0))) fun y0=>cond (Ops.eq B (Nat.cast (List.length y0)) (0)) (k ((2,v1010_1,mt (Ty.den ty130)))) (again (.l1032 v1010_1 (Nat.cast (List.length y0)) v1010_2 4 0 v1010_6))) (none) | some (.l1020 v1020_1 v1020_2 v1020_3 v1020_6 v1020_7)=>again (.l1 v1020_1 (IntKind.wrap .i64 (v1020_2+1)) v1020_3 v1020_6 v1020_7) | some (.l1026 v1026_1 v1026_2 v1026_3 v1026_7)=>again (.l2 v1026_1 (IntKind.wrap .i64 (v1026_2+1)) v1026_3 v1026_7) | some (.l1027 v1027_1 v1027_2 v1027_3 v1027_7)=>cond (Ops.lt B (8) v1027_2) (k ((2,v1027_1,mt (Ty.den ty130)))) (again (.l1032 v1027_1 v1027_2 v1027_3 2 0 v1027_7)) | some (.l1031 v1031_1 v1031_2 v1031_6)=>again (.l1032 v1031_1 1 v1031_2 3 0 v1031_6) | some (.l1032 v1032_1 v1032_2 v1032_3 v1032_4 v1032_6 v1032_7)=>cond (Ops.inb B (IntKind.wrap .i64 (v1032_1+v1032_2)) (List.length p0+1)) (cond (bif Ops.le B (0) v1032_1 then Ops.le B v1032_1 (IntKind.wrap .i64 (v1032_1+v1032_2)) else false) (cond (Ops.lim B (List.length v1032_3+List.length ((v1032_4,List.drop (Int.toNat v1032_1) (List.take (Int.toNat (IntKind.wrap .i64 (v1032_1+v1032_2))) p0),v1032_6,v1032_7)::mt (Ty.den ty130))) (40)) (again (.l0 (IntKind.wrap .i64 (v1032_1+v1032_2)) (v1032_3++(v1032_4,List.drop (Int.toNat v1032_1) (List.take (Int.toNat (IntKind.wrap .i64 (v1032_1+v1032_2))) p0),v1032_6,v1032_7)::mt (Ty.den ty130)))) (none)) (none)) (none)
def E82 (p0:LB):S82→List AV×Objs
 | .l0 v0_1 v0_2=>(mk 151 [(0,.c (.str p0)),(5,.c (.own 5)),(6,.c (.int .i64 v0_1))],[(5,.row 130 ty130 v0_2)])
 | .l1 v1_1 v1_2 v1_3 v1_6 v1_7=>(mk 151 [(0,.c (.str p0)),(5,.c (.own 5)),(6,.c (.int .i64 v1_1)),(7,.c (.int .i64 v1_2)),(8,.c (.ptr 8 0))],[(5,.row 130 ty130 v1_3),(8,.box 130 [.int .i64 1,.str (mt UInt8),.int .i64 v1_6,.int .i64 v1_7])])
 | .l2 v2_1 v2_2 v2_3 v2_7=>(mk 151 [(0,.c (.str p0)),(5,.c (.own 5)),(6,.c (.int .i64 v2_1)),(7,.c (.int .i64 v2_2)),(8,.c (.ptr 8 0))],[(5,.row 130 ty130 v2_3),(8,.box 130 [.int .i64 2,.str (mt UInt8),.int .i64 0,.int .i64 v2_7])])
 | .l1010 v1010_1 v1010_2 v1010_6=>(mk 151 [(0,.c (.str p0)),(5,.c (.own 5)),(6,.c (.int .i64 v1010_1)),(8,.c (.ptr 8 0))],[(5,.row 130 ty130 v1010_2),(8,.box 130 [.int .i64 4,.str (mt UInt8),.int .i64 0,.int .i64 v1010_6])])
 | .l1020 v1020_1 v1020_2 v1020_3 v1020_6 v1020_7=>(mk 151 [(0,.c (.str p0)),(5,.c (.own 5)),(6,.c (.int .i64 v1020_1)),(7,.c (.int .i64 v1020_2)),(8,.c (.ptr 8 0))],[(5,.row 130 ty130 v1020_3),(8,.box 130 [.int .i64 1,.str (mt UInt8),.int .i64 v1020_6,.int .i64 v1020_7])])
 | .l1026 v1026_1 v1026_2 v1026_3 v1026_7=>(mk 151 [(0,.c (.str p0)),(5,.c (.own 5)),(6,.c (.int .i64 v1026_1)),(7,.c (.int .i64 v1026_2)),(8,.c (.ptr 8 0))],[(5,.row 130 ty130 v1026_3),(8,.box 130 [.int .i64 2,.str (mt UInt8),.int .i64 0,.int .i64 v1026_7])])
 | .l1027 v1027_1 v1027_2 v1027_3 v1027_7=>(mk 151 [(0,.c (.str p0)),(5,.c (.own 5)),(6,.c (.int .i64 v1027_1)),(7,.c (.int .i64 v1027_2)),(8,.c (.ptr 8 0))],[(5,.row 130 ty130 v1027_3),(8,.box 130 [.int .i64 2,.str (mt UInt8),.int .i64 0,.int .i64 v1027_7])])
 | .l1031 v1031_1 v1031_2 v1031_6=>(mk 151 [(0,.c (.str p0)),(5,.c (.own 5)),(6,.c (.int .i64 v1031_1)),(8,.c (.ptr 8 0))],[(5,.row 130 ty130 v1031_2),(8,.box 130 [.int .i64 3,.str (mt UInt8),.int .i64 0,.int .i64 v1031_6])])
 | .l1032 v1032_1 v1032_2 v1032_3 v1032_4 v1032_6 v1032_7=>(mk 151 [(0,.c (.str p0)),(5,.c (.own 5)),(6,.c (.int .i64 v1032_1)),(7,.c (.int .i64 v1032_2)),(8,.c (.ptr 8 0))],[(5,.row 130 ty130 v1032_3),(8,.box 130 [.int .i64 v1032_4,.str (mt UInt8),.int .i64 v1032_6,.int .i64 v1032_7])])
def I82:S82→Nat
 | .l0 _ _=>0
 | .l1 _ _ _ _ _=>1
 | .l2 _ _ _ _=>2
 | .l1010 _ _ _=>1010
 | .l1020 _ _ _ _ _=>1020
 | .l1026 _ _ _ _=>1026
 | .l1027 _ _ _ _=>1027
 | .l1031 _ _ _=>1031
 | .l1032 _ _ _ _ _ _=>1032
theorem eq82 {R:Type} (B:Ops) (c104:C104) (c103:C103) (c140:C140) (p0:LB) (k:AV→Objs→Option R) (n:Nat):afun tau B gl0 X82 (ent 104 (e104 c104) (ent 103 (e103 c103) (ent 140 (e140 c140) (gnil)))) ow Tryz.f82 [.c (.str p0)] [] k n=T82 B c104 c103 c140 p0 (fun s=>aloop tau B gl0 X82 (ent 104 (e104 c104) (ent 103 (e103 c103) (ent 140 (e140 c140) (gnil)))) ow [] Tryz.f82 k (I82 s) (E82 p0 s) n) (fun y=>k (.tup [(false,[.own 501000]),(false,[.int .i64 y.1]),(false,[.int .i64 y.2.1])]) [(501000,.row 130 ty130 y.2.2)]) none:=by kernel_rfl
theorem el82 {R:Type} (B:Ops) (c104:C104) (c103:C103) (c140:C140) (p0:LB) (k:AV→Objs→Option R) (n:Nat):∀ s,aloop tau B gl0 X82 (ent 104 (e104 c104) (ent 103 (e103 c103) (ent 140 (e140 c140) (gnil)))) ow [] Tryz.f82 k (I82 s) (E82 p0 s) (n+1)=T82 B c104 c103 c140 p0 (fun s=>aloop tau B gl0 X82 (ent 104 (e104 c104) (ent 103 (e103 c103) (ent 140 (e140 c140) (gnil)))) ow [] Tryz.f82 k (I82 s) (E82 p0 s) n) (fun y=>k (.tup [(false,[.own 501000]),(false,[.int .i64 y.1]),(false,[.int .i64 y.2.1])]) [(501000,.row 130 ty130 y.2.2)]) (some s)
 | .l0 v0_1 v0_2=>by kernel_rfl
 | .l1 v1_1 v1_2 v1_3 v1_6 v1_7=>by kernel_rfl
 | .l2 v2_1 v2_2 v2_3 v2_7=>by kernel_rfl
 | .l1010 v1010_1 v1010_2 v1010_6=>by kernel_rfl
 | .l1020 v1020_1 v1020_2 v1020_3 v1020_6 v1020_7=>by kernel_rfl
 | .l1026 v1026_1 v1026_2 v1026_3 v1026_7=>by kernel_rfl
 | .l1027 v1027_1 v1027_2 v1027_3 v1027_7=>by kernel_rfl
 | .l1031 v1031_1 v1031_2 v1031_6=>by kernel_rfl
 | .l1032 v1032_1 v1032_2 v1032_3 v1032_4 v1032_6 v1032_7=>by kernel_rfl
theorem nt82 {R R':Type} (B:Ops) (c104:C104) (c103:C103) (c140:C140) (p0:LB) (again:S82→Option R) (again':S82→Option R') (k0:(Int×Int×L130)→Option R') (k:R'→Option R) (h:∀ s,again s=ob (again' s) k):∀ s,T82 B c104 c103 c140 p0 again (fun y=>ob (k0 y) k) s=ob (T82 B c104 c103 c140 p0 again' k0 s) k
 | none=>by unfold T82;repeat' first | exact rfl | exact h _ | apply qac | (apply qah;intro)
 | some (.l0 v0_1 v0_2)=>by unfold T82;repeat' first | exact rfl | exact h _ | apply qac | (apply qah;intro)
 | some (.l1 v1_1 v1_2 v1_3 v1_6 v1_7)=>by unfold T82;repeat' first | exact rfl | exact h _ | apply qac | (apply qah;intro)
 | some (.l2 v2_1 v2_2 v2_3 v2_7)=>by unfold T82;repeat' first | exact rfl | exact h _ | apply qac | (apply qah;intro)
 | some (.l1010 v1010_1 v1010_2 v1010_6)=>by unfold T82;repeat' first | exact rfl | exact h _ | apply qac | (apply qah;intro)
 | some (.l1020 v1020_1 v1020_2 v1020_3 v1020_6 v1020_7)=>by unfold T82;repeat' first | exact rfl | exact h _ | apply qac | (apply qah;intro)
 | some (.l1026 v1026_1 v1026_2 v1026_3 v1026_7)=>by unfold T82;repeat' first | exact rfl | exact h _ | apply qac | (apply qah;intro)
 | some (.l1027 v1027_1 v1027_2 v1027_3 v1027_7)=>by unfold T82;repeat' first | exact rfl | exact h _ | apply qac | (apply qah;intro)
 | some (.l1031 v1031_1 v1031_2 v1031_6)=>by unfold T82;repeat' first | exact rfl | exact h _ | apply qac | (apply qah;intro)
 | some (.l1032 v1032_1 v1032_2 v1032_3 v1032_4 v1032_6 v1032_7)=>by unfold T82;repeat' first | exact rfl | exact h _ | apply qac | (apply qah;intro)
def R82 (c104:C104) (c103:C103) (c140:C140) (p0:LB):Nat→S82→Option (Int×Int×L130)
 | 0,_=>none
 | n+1,s=>T82 Ops.std c104 c103 c140 p0 (R82 c104 c103 c140 p0 n) some (some s)
theorem rr82 {R:Type} (c104:C104) (c103:C103) (c140:C140) (p0:LB) (k:AV→Objs→Option R):∀ (n:Nat) (s:S82),aloop tau Ops.std gl0 X82 (ent 104 (e104 c104) (ent 103 (e103 c103) (ent 140 (e140 c140) (gnil)))) ow [] Tryz.f82 k (I82 s) (E82 p0 s) n=ob (R82 c104 c103 c140 p0 n s) (fun y=>k (.tup [(false,[.own 501000]),(false,[.int .i64 y.1]),(false,[.int .i64 y.2.1])]) [(501000,.row 130 ty130 y.2.2)])
 | 0,s=>by cases s<;>rfl
 | n+1,s=>by rw [el82];exact nt82 Ops.std c104 c103 c140 p0 _ _ some (fun y=>k (.tup [(false,[.own 501000]),(false,[.int .i64 y.1]),(false,[.int .i64 y.2.1])]) [(501000,.row 130 ty130 y.2.2)]) (rr82 c104 c103 c140 p0 k n) (some s)
def F82 (c104:C104) (c103:C103) (c140:C140) (p0:LB):Option (Int×Int×L130):=T82 Ops.std c104 c103 c140 p0 (R82 c104 c103 c140 p0 1000000) some none
theorem fo82 {R:Type} (c104:C104) (c103:C103) (c140:C140) (p0:LB) (k:AV→Objs→Option R):afun tau Ops.std gl0 X82 (ent 104 (e104 c104) (ent 103 (e103 c103) (ent 140 (e140 c140) (gnil)))) ow Tryz.f82 [.c (.str p0)] [] k 1000000=ob (F82 c104 c103 c140 p0) (fun y=>k (.tup [(false,[.own 501000]),(false,[.int .i64 y.1]),(false,[.int .i64 y.2.1])]) [(501000,.row 130 ty130 y.2.2)]):=by rw [eq82];exact nt82 Ops.std c104 c103 c140 p0 _ _ some (fun y=>k (.tup [(false,[.own 501000]),(false,[.int .i64 y.1]),(false,[.int .i64 y.2.1])]) [(501000,.row 130 ty130 y.2.2)]) (rr82 c104 c103 c140 p0 k 1000000) none
def e82 {R:Type} (c:LB→Option (Int×Int×L130)):Ent R:=fun args objs k=>
 oCons args fun a0 l0=>oC a0 fun x0=>cStr x0 fun p0=>oNil l0 <| oNilO objs <| ob (c p0) fun y=>k (.tup [(false,[.own 501000]),(false,[.int .i64 y.1]),(false,[.int .i64 y.2.1])]) [(501000,.row 130 ty130 y.2.2)]
abbrev Sp82 (c:LB→Option (Int×Int×L130)):Prop:=∀ (p0:LB) (y:Int×Int×L130),c p0=some y→Spec Tryz.prog gl0 82 [.c (.str p0)] [] (.tup [(false,[.own 501000]),(false,[.int .i64 y.1]),(false,[.int .i64 y.2.1])]) [(501000,.row 130 ty130 y.2.2)]
theorem ek82 {R:Type} {c:LB→Option (Int×Int×L130)} (hs:Sp82 c):EOk 82 (e82 (R:=R) c):=fun args objs k r h=>by
 unfold e82 at h
 obtain ⟨a0,l0,rfl,q1⟩:=qaa h
 obtain ⟨x0,rfl,q2⟩:=qaj q1
 obtain ⟨p0,rfl,q3⟩:=qav q2
 obtain ⟨rfl,q4⟩:=qag q3
 obtain ⟨rfl,q5⟩:=qaf q4
 exact qar (hs p0) q5
theorem sf82 {c104:C104} {c103:C103} {c140:C140} (h104:Sp104 c104) (h103:Sp103 c103) (h140:Sp140 c140):Sp82 (F82 c104 c103 c140):=fun p0 y hy=>by
 refine qap (G:=ent 104 (e104 c104) (ent 103 (e103 c103) (ent 140 (e140 c140) (gnil)))) (qai (ek104 h104) (qai (ek103 h103) (qai (ek140 h140) (qao)))) 1000000 (fn:=Tryz.f82) (by kernel_rfl) (by kernel_rfl) (X:=X82) (by kernel_rfl) ?_
 rw [fo82,hy]
 rfl
noncomputable def M82:LB→Option (Int×Int×L130):=F82 M104 M103 M140
theorem sm82:Sp82 M82:=sf82 sm104 sm103 sm140
def X193:Aux:=⟨[],[(1,.lin (rg 0 28))]⟩
def T193 {R:Type} (B:Ops) (p0:LB) (p1:L130) (p2:Int) (p3:Int) (p4:L150) (k:(Bool×L130×Int×Int×L150)→Option R):Option R:=cond (Ops.inb B p2 (List.length p1)) (cond (Ops.eq B ((List.getD p1 (Int.toNat p2) (Ty.dflt ty130)).1) (4)) (cond (Ops.inb B p2 (List.length p1)) (k ((((List.getD p1 (Int.toNat p2) (Ty.dflt ty130)).2).1 == p0,p1,p2,p3,p4))) (none)) (k ((false,p1,p2,p3,p4)))) (none)
theorem eq193 {R:Type} (B:Ops) (p0:LB) (p1:L130) (p2:Int) (p3:Int) (p4:L150) (k:AV→Objs→Option R) (n:Nat):afun tau B gl0 X193 (gnil) ow Tryz.f193 [.c (.ptr 0 0),.c (.str p0)] [(0,.box 221 [.list 130 ty130 p1,.int .i64 p2,.own 1002,.int .i64 p3]),(1002,.row 150 ty150 p4)] k n=T193 B p0 p1 p2 p3 p4 (fun y=>k (.c (.bool y.1)) [(0,.box 221 [.list 130 ty130 y.2.1,.int .i64 y.2.2.1,.own 1002,.int .i64 y.2.2.2.1]),(1002,.row 150 ty150 y.2.2.2.2)]):=by kernel_rfl
theorem nt193 {R R':Type} (B:Ops) (p0:LB) (p1:L130) (p2:Int) (p3:Int) (p4:L150) (k0:(Bool×L130×Int×Int×L150)→Option R') (k:R'→Option R):T193 B p0 p1 p2 p3 p4 (fun y=>ob (k0 y) k)=ob (T193 B p0 p1 p2 p3 p4 k0) k:=by
 unfold T193
 repeat' first | exact rfl | apply qac | (apply qah;intro)
def F193 (p0:LB) (p1:L130) (p2:Int) (p3:Int) (p4:L150):Option (Bool×L130×Int×Int×L150):=T193 Ops.std p0 p1 p2 p3 p4 some
theorem fo193 {R:Type} (p0:LB) (p1:L130) (p2:Int) (p3:Int) (p4:L150) (k:AV→Objs→Option R) (n:Nat):afun tau Ops.std gl0 X193 (gnil) ow Tryz.f193 [.c (.ptr 0 0),.c (.str p0)] [(0,.box 221 [.list 130 ty130 p1,.int .i64 p2,.own 1002,.int .i64 p3]),(1002,.row 150 ty150 p4)] k n=ob (F193 p0 p1 p2 p3 p4) (fun y=>k (.c (.bool y.1)) [(0,.box 221 [.list 130 ty130 y.2.1,.int .i64 y.2.2.1,.own 1002,.int .i64 y.2.2.2.1]),(1002,.row 150 ty150 y.2.2.2.2)]):=by rw [eq193];exact nt193 Ops.std p0 p1 p2 p3 p4 some (fun y=>k (.c (.bool y.1)) [(0,.box 221 [.list 130 ty130 y.2.1,.int .i64 y.2.2.1,.own 1002,.int .i64 y.2.2.2.1]),(1002,.row 150 ty150 y.2.2.2.2)])
def e193 {R:Type} (c:LB→L130→Int→Int→L150→Option (Bool×L130×Int×Int×L150)):Ent R:=fun args objs k=>
 oCons args fun a0 l0=>oC a0 fun x0=>cPtr 0 x0 <| oCons l0 fun a1 l1=>oC a1 fun x1=>cStr x1 fun p0=>oNil l1 <| oBox 0 221 objs fun b0 o0=>cCons b0 fun u0_0 v0_0=>cList 130 ty130 u0_0 fun p1=>cCons v0_0 fun u0_1 v0_1=>cInt .i64 u0_1 fun p2=>cCons v0_1 fun u0_2 v0_2=>cOwn 1002 u0_2 <| cCons v0_2 fun u0_3 v0_3=>cInt .i64 u0_3 fun p3=>cNil v0_3 <| oRow 1002 150 ty150 o0 fun p4 o1=>oNilO o1 <| ob (c p0 p1 p2 p3 p4) fun y=>k (.c (.bool y.1)) [(0,.box 221 [.list 130 ty130 y.2.1,.int .i64 y.2.2.1,.own 1002,.int .i64 y.2.2.2.1]),(1002,.row 150 ty150 y.2.2.2.2)]
abbrev Sp193 (c:LB→L130→Int→Int→L150→Option (Bool×L130×Int×Int×L150)):Prop:=∀ (p0:LB) (p1:L130) (p2:Int) (p3:Int) (p4:L150) (y:Bool×L130×Int×Int×L150),c p0 p1 p2 p3 p4=some y→Spec Tryz.prog gl0 193 [.c (.ptr 0 0),.c (.str p0)] [(0,.box 221 [.list 130 ty130 p1,.int .i64 p2,.own 1002,.int .i64 p3]),(1002,.row 150 ty150 p4)] (.c (.bool y.1)) [(0,.box 221 [.list 130 ty130 y.2.1,.int .i64 y.2.2.1,.own 1002,.int .i64 y.2.2.2.1]),(1002,.row 150 ty150 y.2.2.2.2)]
theorem ek193 {R:Type} {c:LB→L130→Int→Int→L150→Option (Bool×L130×Int×Int×L150)} (hs:Sp193 c):EOk 193 (e193 (R:=R) c):=fun args objs k r h=>by
 unfold e193 at h
 obtain ⟨a0,l0,rfl,q1⟩:=qaa h
 obtain ⟨x0,rfl,q2⟩:=qaj q1
 obtain ⟨rfl,q3⟩:=qa4 q2
 obtain ⟨a1,l1,rfl,q4⟩:=qaa q3
 obtain ⟨x1,rfl,q5⟩:=qaj q4
 obtain ⟨p0,rfl,q6⟩:=qav q5
 obtain ⟨rfl,q7⟩:=qag q6
 obtain ⟨b0,o0,rfl,q8⟩:=qa5 q7
 obtain ⟨u0_0,v0_0,rfl,q9⟩:=qad q8
 obtain ⟨p1,rfl,q10⟩:=qae q9
 obtain ⟨u0_1,v0_1,rfl,q11⟩:=qad q10
 obtain ⟨p2,rfl,q12⟩:=qal q11
 obtain ⟨u0_2,v0_2,rfl,q13⟩:=qad q12
 obtain ⟨rfl,q14⟩:=qbe q13
 obtain ⟨u0_3,v0_3,rfl,q15⟩:=qad q14
 obtain ⟨p3,rfl,q16⟩:=qal q15
 obtain ⟨rfl,q17⟩:=qat q16
 obtain ⟨p4,o1,rfl,q18⟩:=qbf q17
 obtain ⟨rfl,q19⟩:=qaf q18
 exact qar (hs p0 p1 p2 p3 p4) q19
theorem sf193:Sp193 (F193):=fun p0 p1 p2 p3 p4 y hy=>by
 refine qap (G:=gnil) (qao) 1000000 (fn:=Tryz.f193) (by kernel_rfl) (by kernel_rfl) (X:=X193) (by kernel_rfl) ?_
 rw [fo193,hy]
 rfl
noncomputable def M193:LB→L130→Int→Int→L150→Option (Bool×L130×Int×Int×L150):=F193
theorem sm193:Sp193 M193:=sf193
def X194:Aux:=⟨[],[]⟩
def T194 {R:Type} (B:Ops) (p0:L130) (p1:Int) (p2:Int) (p3:L150) (k:(L130×Int×Int×L150)→Option R):Option R:=cond (Ops.lt B p2 (0)) (k ((p0,p1,p1,p3))) (k ((p0,p1,p2,p3)))
theorem eq194 {R:Type} (B:Ops) (p0:L130) (p1:Int) (p2:Int) (p3:L150) (k:AV→Objs→Option R) (n:Nat):afun tau B gl0 X194 (gnil) ow Tryz.f194 [.c (.ptr 0 0)] [(0,.box 221 [.list 130 ty130 p0,.int .i64 p1,.own 1002,.int .i64 p2]),(1002,.row 150 ty150 p3)] k n=T194 B p0 p1 p2 p3 (fun y=>k (.tup []) [(0,.box 221 [.list 130 ty130 y.1,.int .i64 y.2.1,.own 1002,.int .i64 y.2.2.1]),(1002,.row 150 ty150 y.2.2.2)]):=by kernel_rfl
theorem nt194 {R R':Type} (B:Ops) (p0:L130) (p1:Int) (p2:Int) (p3:L150) (k0:(L130×Int×Int×L150)→Option R') (k:R'→Option R):T194 B p0 p1 p2 p3 (fun y=>ob (k0 y) k)=ob (T194 B p0 p1 p2 p3 k0) k:=by
 unfold T194
 repeat' first | exact rfl | apply qac | (apply qah;intro)
def F194 (p0:L130) (p1:Int) (p2:Int) (p3:L150):Option (L130×Int×Int×L150):=T194 Ops.std p0 p1 p2 p3 some
theorem fo194 {R:Type} (p0:L130) (p1:Int) (p2:Int) (p3:L150) (k:AV→Objs→Option R) (n:Nat):afun tau Ops.std gl0 X194 (gnil) ow Tryz.f194 [.c (.ptr 0 0)] [(0,.box 221 [.list 130 ty130 p0,.int .i64 p1,.own 1002,.int .i64 p2]),(1002,.row 150 ty150 p3)] k n=ob (F194 p0 p1 p2 p3) (fun y=>k (.tup []) [(0,.box 221 [.list 130 ty130 y.1,.int .i64 y.2.1,.own 1002,.int .i64 y.2.2.1]),(1002,.row 150 ty150 y.2.2.2)]):=by rw [eq194];exact nt194 Ops.std p0 p1 p2 p3 some (fun y=>k (.tup []) [(0,.box 221 [.list 130 ty130 y.1,.int .i64 y.2.1,.own 1002,.int .i64 y.2.2.1]),(1002,.row 150 ty150 y.2.2.2)])
def e194 {R:Type} (c:L130→Int→Int→L150→Option (L130×Int×Int×L150)):Ent R:=fun args objs k=>
 oCons args fun a0 l0=>oC a0 fun x0=>cPtr 0 x0 <| oNil l0 <| oBox 0 221 objs fun b0 o0=>cCons b0 fun u0_0 v0_0=>cList 130 ty130 u0_0 fun p0=>cCons v0_0 fun u0_1 v0_1=>cInt .i64 u0_1 fun p1=>cCons v0_1 fun u0_2 v0_2=>cOwn 1002 u0_2 <| cCons v0_2 fun u0_3 v0_3=>cInt .i64 u0_3 fun p2=>cNil v0_3 <| oRow 1002 150 ty150 o0 fun p3 o1=>oNilO o1 <| ob (c p0 p1 p2 p3) fun y=>k (.tup []) [(0,.box 221 [.list 130 ty130 y.1,.int .i64 y.2.1,.own 1002,.int .i64 y.2.2.1]),(1002,.row 150 ty150 y.2.2.2)]
abbrev Sp194 (c:L130→Int→Int→L150→Option (L130×Int×Int×L150)):Prop:=∀ (p0:L130) (p1:Int) (p2:Int) (p3:L150) (y:L130×Int×Int×L150),c p0 p1 p2 p3=some y→Spec Tryz.prog gl0 194 [.c (.ptr 0 0)] [(0,.box 221 [.list 130 ty130 p0,.int .i64 p1,.own 1002,.int .i64 p2]),(1002,.row 150 ty150 p3)] (.tup []) [(0,.box 221 [.list 130 ty130 y.1,.int .i64 y.2.1,.own 1002,.int .i64 y.2.2.1]),(1002,.row 150 ty150 y.2.2.2)]
theorem ek194 {R:Type} {c:L130→Int→Int→L150→Option (L130×Int×Int×L150)} (hs:Sp194 c):EOk 194 (e194 (R:=R) c):=fun args objs k r h=>by
 unfold e194 at h
 obtain ⟨a0,l0,rfl,q1⟩:=qaa h
 obtain ⟨x0,rfl,q2⟩:=qaj q1
 obtain ⟨rfl,q3⟩:=qa4 q2
 obtain ⟨rfl,q4⟩:=qag q3
 obtain ⟨b0,o0,rfl,q5⟩:=qa5 q4
 obtain ⟨u0_0,v0_0,rfl,q6⟩:=qad q5
 obtain ⟨p0,rfl,q7⟩:=qae q6
 obtain ⟨u0_1,v0_1,rfl,q8⟩:=qad q7
 obtain ⟨p1,rfl,q9⟩:=qal q8
 obtain ⟨u0_2,v0_2,rfl,q10⟩:=qad q9
 obtain ⟨rfl,q11⟩:=qbe q10
 obtain ⟨u0_3,v0_3,rfl,q12⟩:=qad q11
 obtain ⟨p2,rfl,q13⟩:=qal q12
 obtain ⟨rfl,q14⟩:=qat q13
 obtain ⟨p3,o1,rfl,q15⟩:=qbf q14
 obtain ⟨rfl,q16⟩:=qaf q15
 exact qar (hs p0 p1 p2 p3) q16
theorem sf194:Sp194 (F194):=fun p0 p1 p2 p3 y hy=>by
 refine qap (G:=gnil) (qao) 1000000 (fn:=Tryz.f194) (by kernel_rfl) (by kernel_rfl) (X:=X194) (by kernel_rfl) ?_
 rw [fo194,hy]
 rfl
noncomputable def M194:L130→Int→Int→L150→Option (L130×Int×Int×L150):=F194
theorem sm194:Sp194 M194:=sf194
def X178:Aux:=⟨[],[]⟩
def T178 {R:Type} (B:Ops) (p0:Int) (k:(Int)→Option R):Option R:=cond (Ops.eq B p0 (16)) (k 1) (cond (Ops.eq B p0 (15)) (k 2) (cond (Ops.eq B p0 (9)) (k 3) (cond (Ops.eq B p0 (10)) (k 3) (cond (Ops.eq B p0 (11)) (k 3) (cond (Ops.eq B p0 (12)) (k 3) (cond (Ops.eq B p0 (13)) (k 3) (cond (Ops.eq B p0 (14)) (k 3) (cond (Ops.eq B p0 (7)) (k 4) (cond (Ops.eq B p0 (8)) (k 4) (cond (Ops.eq B p0 (6)) (k 5) (cond (Ops.eq B p0 (4)) (k 6) (cond (Ops.eq B p0 (5)) (k 6) (k 7)))))))))))))
theorem eq178 {R:Type} (B:Ops) (p0:Int) (k:AV→Objs→Option R) (n:Nat):afun tau B gl0 X178 (gnil) ow Tryz.f178 [.c (.int .i64 p0)] [] k n=T178 B p0 (fun y=>k (.c (.int .i64 y)) []):=by kernel_rfl
theorem nt178 {R R':Type} (B:Ops) (p0:Int) (k0:(Int)→Option R') (k:R'→Option R):T178 B p0 (fun y=>ob (k0 y) k)=ob (T178 B p0 k0) k:=by
 unfold T178
 repeat' first | exact rfl | apply qac | (apply qah;intro)
def F178 (p0:Int):Option (Int):=T178 Ops.std p0 some
theorem fo178 {R:Type} (p0:Int) (k:AV→Objs→Option R) (n:Nat):afun tau Ops.std gl0 X178 (gnil) ow Tryz.f178 [.c (.int .i64 p0)] [] k n=ob (F178 p0) (fun y=>k (.c (.int .i64 y)) []):=by rw [eq178];exact nt178 Ops.std p0 some (fun y=>k (.c (.int .i64 y)) [])
def e178 {R:Type} (c:Int→Option (Int)):Ent R:=fun args objs k=>
 oCons args fun a0 l0=>oC a0 fun x0=>cInt .i64 x0 fun p0=>oNil l0 <| oNilO objs <| ob (c p0) fun y=>k (.c (.int .i64 y)) []
abbrev Sp178 (c:Int→Option (Int)):Prop:=∀ (p0:Int) (y:Int),c p0=some y→Spec Tryz.prog gl0 178 [.c (.int .i64 p0)] [] (.c (.int .i64 y)) []
theorem ek178 {R:Type} {c:Int→Option (Int)} (hs:Sp178 c):EOk 178 (e178 (R:=R) c):=fun args objs k r h=>by
 unfold e178 at h
 obtain ⟨a0,l0,rfl,q1⟩:=qaa h
 obtain ⟨x0,rfl,q2⟩:=qaj q1
 obtain ⟨p0,rfl,q3⟩:=qal q2
 obtain ⟨rfl,q4⟩:=qag q3
 obtain ⟨rfl,q5⟩:=qaf q4
 exact qar (hs p0) q5
theorem sf178:Sp178 (F178):=fun p0 y hy=>by
 refine qap (G:=gnil) (qao) 1000000 (fn:=Tryz.f178) (by kernel_rfl) (by kernel_rfl) (X:=X178) (by kernel_rfl) ?_
 rw [fo178,hy]
 rfl
noncomputable def M178:Int→Option (Int):=F178
theorem sm178:Sp178 M178:=sf178
def X191:Aux:=⟨[(5,([0,3,4]++rg 7 21))],[(7,.lin ([0,1,2,3,4,5,6,7,9,8,10,11]))]⟩
inductive S191 where
 | l0 (v0_1:Int)
abbrev C178:Type:=Int→Option (Int)
def T191 {R:Type} (B:Ops) (c178:C178) (p0:Int) (p1:LB) (p2:Int) (p3:Int) (p4:Int) (again:S191→Option R) (k:(Int)→Option R):Option S191→Option R | none=>cond (!Ops.eq B p0 (4)) (k 0) (again (.l0 6)) | some (.l0 v0_1)=>cond (Ops.le B v0_1 (16)) (cond (Ops.inb B v0_1 (17)) (cond (List.getD ((mt UInt8)::(mt UInt8)::(mt UInt8)::(mt UInt8)::(mt UInt8)::(mt UInt8)::([42]:LB)::([43]:LB)::([45]:LB)::([60]:LB)::([60,61]:LB)::([62]:LB)::([62,61]:LB)::([61,61]:LB)::([33,61]:LB)::([38,38]:LB)::([124,124]:LB)::mt LB) (Int.toNat v0_1) (mt UInt8) == p1) (ob (c178 v0_1) fun y0=>cond (Ops.eq B y0 p4) (k v0_1) (again (.l0 (IntKind.wrap .i64 (v0_1+1))))) (again (.l0 (IntKind.wrap .i64 (v0_1+1))))) (none)) (k 0)
def E191 (p0:Int) (p1:LB) (p2:Int) (p3:Int) (p4:Int):S191→List AV×Objs
 | .l0 v0_1=>(mk 28 [(1,.c (.int .i64 p4)),(2,.c (.ptr 2 0)),(5,.c (.ptr 5 0)),(6,.c (.int .i64 v0_1))],[(2,.box 130 [.int .i64 p0,.str p1,.int .i64 p2,.int .i64 p3]),(5,.box 208 [.str (mt UInt8),.str (mt UInt8),.str (mt UInt8),.str (mt UInt8),.str (mt UInt8),.str (mt UInt8),.str ([42]:LB),.str ([43]:LB),.str ([45]:LB),.str ([60]:LB),.str ([60,61]:LB),.str ([62]:LB),.str ([62,61]:LB),.str ([61,61]:LB),.str ([33,61]:LB),.str ([38,38]:LB),.str ([124,124]:LB)])])
def I191:S191→Nat
 | .l0 _=>0
theorem eq191 {R:Type} (B:Ops) (c178:C178) (p0:Int) (p1:LB) (p2:Int) (p3:Int) (p4:Int) (k:AV→Objs→Option R) (n:Nat):afun tau B gl0 X191 (ent 178 (e178 c178) (gnil)) ow Tryz.f191 [.agg [.int .i64 p0,.str p1,.int .i64 p2,.int .i64 p3],.c (.int .i64 p4)] [] k n=T191 B c178 p0 p1 p2 p3 p4 (fun s=>aloop tau B gl0 X191 (ent 178 (e178 c178) (gnil)) ow [] Tryz.f191 k (I191 s) (E191 p0 p1 p2 p3 p4 s) n) (fun y=>k (.c (.int .i64 y)) []) none:=by kernel_rfl
theorem el191 {R:Type} (B:Ops) (c178:C178) (p0:Int) (p1:LB) (p2:Int) (p3:Int) (p4:Int) (k:AV→Objs→Option R) (n:Nat):∀ s,aloop tau B gl0 X191 (ent 178 (e178 c178) (gnil)) ow [] Tryz.f191 k (I191 s) (E191 p0 p1 p2 p3 p4 s) (n+1)=T191 B c178 p0 p1 p2 p3 p4 (fun s=>aloop tau B gl0 X191 (ent 178 (e178 c178) (gnil)) ow [] Tryz.f191 k (I191 s) (E191 p0 p1 p2 p3 p4 s) n) (fun y=>k (.c (.int .i64 y)) []) (some s)
 | .l0 v0_1=>by kernel_rfl
theorem nt191 {R R':Type} (B:Ops) (c178:C178) (p0:Int) (p1:LB) (p2:Int) (p3:Int) (p4:Int) (again:S191→Option R) (again':S191→Option R') (k0:(Int)→Option R') (k:R'→Option R) (h:∀ s,again s=ob (again' s) k):∀ s,T191 B c178 p0 p1 p2 p3 p4 again (fun y=>ob (k0 y) k) s=ob (T191 B c178 p0 p1 p2 p3 p4 again' k0 s) k
 | none=>by unfold T191;repeat' first | exact rfl | exact h _ | apply qac | (apply qah;intro)
 | some (.l0 v0_1)=>by unfold T191;repeat' first | exact rfl | exact h _ | apply qac | (apply qah;intro)
def R191 (c178:C178) (p0:Int) (p1:LB) (p2:Int) (p3:Int) (p4:Int):Nat→S191→Option (Int)
 | 0,_=>none
 | n+1,s=>T191 Ops.std c178 p0 p1 p2 p3 p4 (R191 c178 p0 p1 p2 p3 p4 n) some (some s)
theorem rr191 {R:Type} (c178:C178) (p0:Int) (p1:LB) (p2:Int) (p3:Int) (p4:Int) (k:AV→Objs→Option R):∀ (n:Nat) (s:S191),aloop tau Ops.std gl0 X191 (ent 178 (e178 c178) (gnil)) ow [] Tryz.f191 k (I191 s) (E191 p0 p1 p2 p3 p4 s) n=ob (R191 c178 p0 p1 p2 p3 p4 n s) (fun y=>k (.c (.int .i64 y)) [])
 | 0,s=>by cases s<;>rfl
 | n+1,s=>by rw [el191];exact nt191 Ops.std c178 p0 p1 p2 p3 p4 _ _ some (fun y=>k (.c (.int .i64 y)) []) (rr191 c178 p0 p1 p2 p3 p4 k n) (some s)
def F191 (c178:C178) (p0:Int) (p1:LB) (p2:Int) (p3:Int) (p4:Int):Option (Int):=T191 Ops.std c178 p0 p1 p2 p3 p4 (R191 c178 p0 p1 p2 p3 p4 1000000) some none
theorem fo191 {R:Type} (c178:C178) (p0:Int) (p1:LB) (p2:Int) (p3:Int) (p4:Int) (k:AV→Objs→Option R):afun tau Ops.std gl0 X191 (ent 178 (e178 c178) (gnil)) ow Tryz.f191 [.agg [.int .i64 p0,.str p1,.int .i64 p2,.int .i64 p3],.c (.int .i64 p4)] [] k 1000000=ob (F191 c178 p0 p1 p2 p3 p4) (fun y=>k (.c (.int .i64 y)) []):=by rw [eq191];exact nt191 Ops.std c178 p0 p1 p2 p3 p4 _ _ some (fun y=>k (.c (.int .i64 y)) []) (rr191 c178 p0 p1 p2 p3 p4 k 1000000) none
def e191 {R:Type} (c:Int→LB→Int→Int→Int→Option (Int)):Ent R:=fun args objs k=>
 oCons args fun a0 l0=>oAgg a0 fun x0=>cCons x0 fun z0_0 w0_0=>cInt .i64 z0_0 fun p0=>cCons w0_0 fun z0_1 w0_1=>cStr z0_1 fun p1=>cCons w0_1 fun z0_2 w0_2=>cInt .i64 z0_2 fun p2=>cCons w0_2 fun z0_3 w0_3=>cInt .i64 z0_3 fun p3=>cNil w0_3 <| oCons l0 fun a1 l1=>oC a1 fun x1=>cInt .i64 x1 fun p4=>oNil l1 <| oNilO objs <| ob (c p0 p1 p2 p3 p4) fun y=>k (.c (.int .i64 y)) []
abbrev Sp191 (c:Int→LB→Int→Int→Int→Option (Int)):Prop:=∀ (p0:Int) (p1:LB) (p2:Int) (p3:Int) (p4:Int) (y:Int),c p0 p1 p2 p3 p4=some y→Spec Tryz.prog gl0 191 [.agg [.int .i64 p0,.str p1,.int .i64 p2,.int .i64 p3],.c (.int .i64 p4)] [] (.c (.int .i64 y)) []
theorem ek191 {R:Type} {c:Int→LB→Int→Int→Int→Option (Int)} (hs:Sp191 c):EOk 191 (e191 (R:=R) c):=fun args objs k r h=>by
 unfold e191 at h
 obtain ⟨a0,l0,rfl,q1⟩:=qaa h
 obtain ⟨x0,rfl,q2⟩:=qax q1
 obtain ⟨z0_0,w0_0,rfl,q3⟩:=qad q2
 obtain ⟨p0,rfl,q4⟩:=qal q3
 obtain ⟨z0_1,w0_1,rfl,q5⟩:=qad q4
 obtain ⟨p1,rfl,q6⟩:=qav q5
 obtain ⟨z0_2,w0_2,rfl,q7⟩:=qad q6
 obtain ⟨p2,rfl,q8⟩:=qal q7
 obtain ⟨z0_3,w0_3,rfl,q9⟩:=qad q8
 obtain ⟨p3,rfl,q10⟩:=qal q9
 obtain ⟨rfl,q11⟩:=qat q10
 obtain ⟨a1,l1,rfl,q12⟩:=qaa q11
 obtain ⟨x1,rfl,q13⟩:=qaj q12
 obtain ⟨p4,rfl,q14⟩:=qal q13
 obtain ⟨rfl,q15⟩:=qag q14
 obtain ⟨rfl,q16⟩:=qaf q15
 exact qar (hs p0 p1 p2 p3 p4) q16
theorem sf191 {c178:C178} (h178:Sp178 c178):Sp191 (F191 c178):=fun p0 p1 p2 p3 p4 y hy=>by
 refine qap (G:=ent 178 (e178 c178) (gnil)) (qai (ek178 h178) (qao)) 1000000 (fn:=Tryz.f191) (by kernel_rfl) (by kernel_rfl) (X:=X191) (by kernel_rfl) ?_
 rw [fo191,hy]
 rfl
noncomputable def M191:Int→LB→Int→Int→Int→Option (Int):=F191 M178
theorem sm191:Sp191 M191:=sf191 sm178
def e186 {R:Type} (c:Int→L130→Int→Int→L150→Option (L130×Int×Int×L150)):Ent R:=fun args objs k=>
 oCons args fun a0 l0=>oC a0 fun x0=>cPtr 0 x0 <| oCons l0 fun a1 l1=>oC a1 fun x1=>cInt .i64 x1 fun p0=>oNil l1 <| oBox 0 221 objs fun b0 o0=>cCons b0 fun u0_0 v0_0=>cList 130 ty130 u0_0 fun p1=>cCons v0_0 fun u0_1 v0_1=>cInt .i64 u0_1 fun p2=>cCons v0_1 fun u0_2 v0_2=>cOwn 1002 u0_2 <| cCons v0_2 fun u0_3 v0_3=>cInt .i64 u0_3 fun p3=>cNil v0_3 <| oRow 1002 150 ty150 o0 fun p4 o1=>oNilO o1 <| ob (c p0 p1 p2 p3 p4) fun y=>k (.tup []) [(0,.box 221 [.list 130 ty130 y.1,.int .i64 y.2.1,.own 1002,.int .i64 y.2.2.1]),(1002,.row 150 ty150 y.2.2.2)]
abbrev Sp186 (c:Int→L130→Int→Int→L150→Option (L130×Int×Int×L150)):Prop:=∀ (p0:Int) (p1:L130) (p2:Int) (p3:Int) (p4:L150) (y:L130×Int×Int×L150),c p0 p1 p2 p3 p4=some y→Spec Tryz.prog gl0 186 [.c (.ptr 0 0),.c (.int .i64 p0)] [(0,.box 221 [.list 130 ty130 p1,.int .i64 p2,.own 1002,.int .i64 p3]),(1002,.row 150 ty150 p4)] (.tup []) [(0,.box 221 [.list 130 ty130 y.1,.int .i64 y.2.1,.own 1002,.int .i64 y.2.2.1]),(1002,.row 150 ty150 y.2.2.2)]
theorem ek186 {R:Type} {c:Int→L130→Int→Int→L150→Option (L130×Int×Int×L150)} (hs:Sp186 c):EOk 186 (e186 (R:=R) c):=fun args objs k r h=>by
 unfold e186 at h
 obtain ⟨a0,l0,rfl,q1⟩:=qaa h
 obtain ⟨x0,rfl,q2⟩:=qaj q1
 obtain ⟨rfl,q3⟩:=qa4 q2
 obtain ⟨a1,l1,rfl,q4⟩:=qaa q3
 obtain ⟨x1,rfl,q5⟩:=qaj q4
 obtain ⟨p0,rfl,q6⟩:=qal q5
 obtain ⟨rfl,q7⟩:=qag q6
 obtain ⟨b0,o0,rfl,q8⟩:=qa5 q7
 obtain ⟨u0_0,v0_0,rfl,q9⟩:=qad q8
 obtain ⟨p1,rfl,q10⟩:=qae q9
 obtain ⟨u0_1,v0_1,rfl,q11⟩:=qad q10
 obtain ⟨p2,rfl,q12⟩:=qal q11
 obtain ⟨u0_2,v0_2,rfl,q13⟩:=qad q12
 obtain ⟨rfl,q14⟩:=qbe q13
 obtain ⟨u0_3,v0_3,rfl,q15⟩:=qad q14
 obtain ⟨p3,rfl,q16⟩:=qal q15
 obtain ⟨rfl,q17⟩:=qat q16
 obtain ⟨p4,o1,rfl,q18⟩:=qbf q17
 obtain ⟨rfl,q19⟩:=qaf q18
 exact qar (hs p0 p1 p2 p3 p4) q19
def e190 {R:Type} (c:L130→Int→Int→L150→Option (L130×Int×Int×L150)):Ent R:=fun args objs k=>
 oCons args fun a0 l0=>oC a0 fun x0=>cPtr 0 x0 <| oNil l0 <| oBox 0 221 objs fun b0 o0=>cCons b0 fun u0_0 v0_0=>cList 130 ty130 u0_0 fun p0=>cCons v0_0 fun u0_1 v0_1=>cInt .i64 u0_1 fun p1=>cCons v0_1 fun u0_2 v0_2=>cOwn 1002 u0_2 <| cCons v0_2 fun u0_3 v0_3=>cInt .i64 u0_3 fun p2=>cNil v0_3 <| oRow 1002 150 ty150 o0 fun p3 o1=>oNilO o1 <| ob (c p0 p1 p2 p3) fun y=>k (.tup []) [(0,.box 221 [.list 130 ty130 y.1,.int .i64 y.2.1,.own 1002,.int .i64 y.2.2.1]),(1002,.row 150 ty150 y.2.2.2)]
abbrev Sp190 (c:L130→Int→Int→L150→Option (L130×Int×Int×L150)):Prop:=∀ (p0:L130) (p1:Int) (p2:Int) (p3:L150) (y:L130×Int×Int×L150),c p0 p1 p2 p3=some y→Spec Tryz.prog gl0 190 [.c (.ptr 0 0)] [(0,.box 221 [.list 130 ty130 p0,.int .i64 p1,.own 1002,.int .i64 p2]),(1002,.row 150 ty150 p3)] (.tup []) [(0,.box 221 [.list 130 ty130 y.1,.int .i64 y.2.1,.own 1002,.int .i64 y.2.2.1]),(1002,.row 150 ty150 y.2.2.2)]
theorem ek190 {R:Type} {c:L130→Int→Int→L150→Option (L130×Int×Int×L150)} (hs:Sp190 c):EOk 190 (e190 (R:=R) c):=fun args objs k r h=>by
 unfold e190 at h
 obtain ⟨a0,l0,rfl,q1⟩:=qaa h
 obtain ⟨x0,rfl,q2⟩:=qaj q1
 obtain ⟨rfl,q3⟩:=qa4 q2
 obtain ⟨rfl,q4⟩:=qag q3
 obtain ⟨b0,o0,rfl,q5⟩:=qa5 q4
 obtain ⟨u0_0,v0_0,rfl,q6⟩:=qad q5
 obtain ⟨p0,rfl,q7⟩:=qae q6
 obtain ⟨u0_1,v0_1,rfl,q8⟩:=qad q7
 obtain ⟨p1,rfl,q9⟩:=qal q8
 obtain ⟨u0_2,v0_2,rfl,q10⟩:=qad q9
 obtain ⟨rfl,q11⟩:=qbe q10
 obtain ⟨u0_3,v0_3,rfl,q12⟩:=qad q11
 obtain ⟨p2,rfl,q13⟩:=qal q12
 obtain ⟨rfl,q14⟩:=qat q13
 obtain ⟨p3,o1,rfl,q15⟩:=qbf q14
 obtain ⟨rfl,q16⟩:=qaf q15
 exact qar (hs p0 p1 p2 p3) q16
def X186:Aux:=⟨[(3,(rg 2 54))],[(4,.lin (rg 0 13))]⟩
inductive S186 where
 | l0 (v0_1:L130) (v0_2:Int) (v0_3:Int) (v0_4:L150)
abbrev C190:Type:=L130→Int→Int→L150→Option (L130×Int×Int×L150)
abbrev C186:Type:=Int→L130→Int→Int→L150→Option (L130×Int×Int×L150)
abbrev C191:Type:=Int→LB→Int→Int→Int→Option (Int)
def T186 {R:Type} (B:Ops) (c190:C190) (c186:C186) (c191:C191) (p0:Int) (p1:L130) (p2:Int) (p3:Int) (p4:L150) (again:S186→Option R) (k:(L130×Int×Int×L150)→Option R):Option S186→Option R | none=>cond (Ops.lt B (5) p0) (ob (c190 p1 p2 p3 p4) fun y0=>k ((y0.1,y0.2.1,(y0.2.2).1,(y0.2.2).2))) (ob (c186 (IntKind.wrap .i64 (p0+1)) p1 p2 p3 p4) fun y0=>again (.l0 y0.1 y0.2.1 ((y0.2.2).1) ((y0.2.2).2))) | some (.l0 v0_1 v0_2 v0_3 v0_4)=>cond (Ops.lt B v0_3 (0)) (cond (Ops.inb B v0_2 (List.length v0_1)) (ob (c191 ((List.getD v0_1 (Int.toNat v0_2) (Ty.dflt ty130)).1) (((List.getD v0_1 (Int.toNat v0_2) (Ty.dflt ty130)).2).1) ((((List.getD v0_1 (Int.toNat v0_2) (Ty.dflt ty130)).2).2).1) ((((List.getD v0_1 (Int.toNat v0_2) (Ty.dflt ty130)).2).2).2) p0) fun y0=>cond (Ops.eq B y0 (0)) (k ((v0_1,v0_2,v0_3,v0_4))) (ob (c186 (IntKind.wrap .i64 (p0+1)) v0_1 (IntKind.wrap .i64 (v0_2+1)) v0_3 v0_4) fun y1=>cond (Ops.lim B (List.length ((y1.2.2).2)+List.length ((y0,0,mt UInt8,mt UInt8)::mt (Ty.den ty150))) (48)) (cond (Ops.eq B p0 (3)) (k ((y1.1,y1.2.1,(y1.2.2).1,(y1.2.2).2++(y0,0,mt UInt8,mt UInt8)::mt (Ty.den ty150)))) (again (.l0 y1.1 y1.2.1 ((y1.2.2).1) ((y1.2.2).2++(y0,0,mt UInt8,mt UInt8)::mt (Ty.den ty150))))) (none))) (none)) (k ((v0_1,v0_2,v0_3,v0_4)))
def E186 (p0:Int) (p1:L130) (p2:Int) (p3:Int) (p4:L150):S186→List AV×Objs
 | .l0 v0_1 v0_2 v0_3 v0_4=>(mk 56 [(0,.c (.ptr 0 0)),(1,.c (.int .i64 p0))],[(0,.box 221 [.list 130 ty130 v0_1,.int .i64 v0_2,.own 1002,.int .i64 v0_3]),(1002,.row 150 ty150 v0_4)])
def I186:S186→Nat
 | .l0 _ _ _ _=>0
theorem eq186 {R:Type} (B:Ops) (c190:C190) (c186:C186) (c191:C191) (p0:Int) (p1:L130) (p2:Int) (p3:Int) (p4:L150) (k:AV→Objs→Option R) (n:Nat):afun tau B gl0 X186 (ent 190 (e190 c190) (ent 186 (e186 c186) (ent 191 (e191 c191) (gnil)))) ow Tryz.f186 [.c (.ptr 0 0),.c (.int .i64 p0)] [(0,.box 221 [.list 130 ty130 p1,.int .i64 p2,.own 1002,.int .i64 p3]),(1002,.row 150 ty150 p4)] k n=T186 B c190 c186 c191 p0 p1 p2 p3 p4 (fun s=>aloop tau B gl0 X186 (ent 190 (e190 c190) (ent 186 (e186 c186) (ent 191 (e191 c191) (gnil)))) ow [0] Tryz.f186 k (I186 s) (E186 p0 p1 p2 p3 p4 s) n) (fun y=>k (.tup []) [(0,.box 221 [.list 130 ty130 y.1,.int .i64 y.2.1,.own 1002,.int .i64 y.2.2.1]),(1002,.row 150 ty150 y.2.2.2)]) none:=by kernel_rfl
theorem el186 {R:Type} (B:Ops) (c190:C190) (c186:C186) (c191:C191) (p0:Int) (p1:L130) (p2:Int) (p3:Int) (p4:L150) (k:AV→Objs→Option R) (n:Nat):∀ s,aloop tau B gl0 X186 (ent 190 (e190 c190) (ent 186 (e186 c186) (ent 191 (e191 c191) (gnil)))) ow [0] Tryz.f186 k (I186 s) (E186 p0 p1 p2 p3 p4 s) (n+1)=T186 B c190 c186 c191 p0 p1 p2 p3 p4 (fun s=>aloop tau B gl0 X186 (ent 190 (e190 c190) (ent 186 (e186 c186) (ent 191 (e191 c191) (gnil)))) ow [0] Tryz.f186 k (I186 s) (E186 p0 p1 p2 p3 p4 s) n) (fun y=>k (.tup []) [(0,.box 221 [.list 130 ty130 y.1,.int .i64 y.2.1,.own 1002,.int .i64 y.2.2.1]),(1002,.row 150 ty150 y.2.2.2)]) (some s)
 | .l0 v0_1 v0_2 v0_3 v0_4=>by kernel_rfl
theorem nt186 {R R':Type} (B:Ops) (c190:C190) (c186:C186) (c191:C191) (p0:Int) (p1:L130) (p2:Int) (p3:Int) (p4:L150) (again:S186→Option R) (again':S186→Option R') (k0:(L130×Int×Int×L150)→Option R') (k:R'→Option R) (h:∀ s,again s=ob (again' s) k):∀ s,T186 B c190 c186 c191 p0 p1 p2 p3 p4 again (fun y=>ob (k0 y) k) s=ob (T186 B c190 c186 c191 p0 p1 p2 p3 p4 again' k0 s) k
 | none=>by unfold T186;repeat' first | exact rfl | exact h _ | apply qac | (apply qah;intro)
 | some (.l0 v0_1 v0_2 v0_3 v0_4)=>by unfold T186;repeat' first | exact rfl | exact h _ | apply qac | (apply qah;intro)
def R186 (c190:C190) (c186:C186) (c191:C191) (p0:Int) (p1:L130) (p2:Int) (p3:Int) (p4:L150):Nat→S186→Option (L130×Int×Int×L150)
 | 0,_=>none
 | n+1,s=>T186 Ops.std c190 c186 c191 p0 p1 p2 p3 p4 (R186 c190 c186 c191 p0 p1 p2 p3 p4 n) some (some s)
theorem rr186 {R:Type} (c190:C190) (c186:C186) (c191:C191) (p0:Int) (p1:L130) (p2:Int) (p3:Int) (p4:L150) (k:AV→Objs→Option R):∀ (n:Nat) (s:S186),aloop tau Ops.std gl0 X186 (ent 190 (e190 c190) (ent 186 (e186 c186) (ent 191 (e191 c191) (gnil)))) ow [0] Tryz.f186 k (I186 s) (E186 p0 p1 p2 p3 p4 s) n=ob (R186 c190 c186 c191 p0 p1 p2 p3 p4 n s) (fun y=>k (.tup []) [(0,.box 221 [.list 130 ty130 y.1,.int .i64 y.2.1,.own 1002,.int .i64 y.2.2.1]),(1002,.row 150 ty150 y.2.2.2)])
 | 0,s=>by cases s<;>rfl
 | n+1,s=>by rw [el186];exact nt186 Ops.std c190 c186 c191 p0 p1 p2 p3 p4 _ _ some (fun y=>k (.tup []) [(0,.box 221 [.list 130 ty130 y.1,.int .i64 y.2.1,.own 1002,.int .i64 y.2.2.1]),(1002,.row 150 ty150 y.2.2.2)]) (rr186 c190 c186 c191 p0 p1 p2 p3 p4 k n) (some s)
def F186 (c190:C190) (c186:C186) (c191:C191) (p0:Int) (p1:L130) (p2:Int) (p3:Int) (p4:L150):Option (L130×Int×Int×L150):=T186 Ops.std c190 c186 c191 p0 p1 p2 p3 p4 (R186 c190 c186 c191 p0 p1 p2 p3 p4 1000000) some none
theorem fo186 {R:Type} (c190:C190) (c186:C186) (c191:C191) (p0:Int) (p1:L130) (p2:Int) (p3:Int) (p4:L150) (k:AV→Objs→Option R):afun tau Ops.std gl0 X186 (ent 190 (e190 c190) (ent 186 (e186 c186) (ent 191 (e191 c191) (gnil)))) ow Tryz.f186 [.c (.ptr 0 0),.c (.int .i64 p0)] [(0,.box 221 [.list 130 ty130 p1,.int .i64 p2,.own 1002,.int .i64 p3]),(1002,.row 150 ty150 p4)] k 1000000=ob (F186 c190 c186 c191 p0 p1 p2 p3 p4) (fun y=>k (.tup []) [(0,.box 221 [.list 130 ty130 y.1,.int .i64 y.2.1,.own 1002,.int .i64 y.2.2.1]),(1002,.row 150 ty150 y.2.2.2)]):=by rw [eq186];exact nt186 Ops.std c190 c186 c191 p0 p1 p2 p3 p4 _ _ some (fun y=>k (.tup []) [(0,.box 221 [.list 130 ty130 y.1,.int .i64 y.2.1,.own 1002,.int .i64 y.2.2.1]),(1002,.row 150 ty150 y.2.2.2)]) (rr186 c190 c186 c191 p0 p1 p2 p3 p4 k 1000000) none
theorem sf186 {c190:C190} {c186:C186} {c191:C191} (h190:Sp190 c190) (h186:Sp186 c186) (h191:Sp191 c191):Sp186 (F186 c190 c186 c191):=fun p0 p1 p2 p3 p4 y hy=>by
 refine qap (G:=ent 190 (e190 c190) (ent 186 (e186 c186) (ent 191 (e191 c191) (gnil)))) (qai (ek190 h190) (qai (ek186 h186) (qai (ek191 h191) (qao)))) 1000000 (fn:=Tryz.f186) (by kernel_rfl) (by kernel_rfl) (X:=X186) (by kernel_rfl) ?_
 rw [fo186,hy]
 rfl
def X190:Aux:=⟨[(1000006,([1]++rg 3 167))],[(10,.lin (rg 0 12)),(14,.lin (rg 0 13)),(20,.lin (rg 0 12)),(23,.lin (rg 0 13)),(25,.lin (rg 0 11))]⟩
inductive S190 where
 | l1006 (v1006_0:Int) (v1006_1:L130) (v1006_2:Int) (v1006_3:Int) (v1006_4:L150)
abbrev C193:Type:=LB→L130→Int→Int→L150→Option (Bool×L130×Int×Int×L150)
abbrev C194:Type:=L130→Int→Int→L150→Option (L130×Int×Int×L150)
def T190 {R:Type} (B:Ops) (c193:C193) (c190:C190) (c194:C194) (c186:C186) (p0:L130) (p1:Int) (p2:Int) (p3:L150) (again:S190→Option R) (k:(L130×Int×Int×L150)→Option R):Option S190→Option R | none=>cond (Ops.le B (0) p2) (k ((p0,p1,p2,p3))) (ob (c193 ([33]:LB) p0 p1 p2 p3) fun y0=>cond y0.1 (again (.l1006 4 y0.2.1 ((y0.2.2).1) ((y0.2.2.2).1) ((y0.2.2.2).2))) (ob (c193 ([45]:LB) y0.2.1 ((y0.2.2).1) ((y0.2.2.2).1) ((y0.2.2.2).2)) fun y1=>cond y1.1 (again (.l1006 5 y1.2.1 ((y1.2.2).1) ((y1.2.2.2).1) ((y1.2.2.2).2))) (again (.l1006 0 y1.2.1 ((y1.2.2).1) ((y1.2.2.2).1) ((y1.2.2.2).2))))) | some (.l1006 v1006_0 v1006_1 v1006_2 v1006_3 v1006_4)=>cond (!Ops.eq B v1006_0 (0)) (ob (c190 v1006_1 (IntKind.wrap .i64 (v1006_2+1)) v1006_3 v1006_4) fun y0=>cond (Ops.lim B (List.length ((y0.2.2).2)+List.length ((v1006_0,0,mt UInt8,mt UInt8)::mt (Ty.den ty150))) (48)) (k ((y0.1,y0.2.1,(y0.2.2).1,(y0.2.2).2++(v1006_0,0,mt UInt8,mt UInt8)::mt (Ty.den ty150)))) (none)) (cond (Ops.inb B v1006_2 (List.length v1006_1)) (cond (Ops.eq B ((List.getD v1006_1 (Int.toNat v1006_2) (Ty.dflt ty130)).1) (1)) (cond (Ops.lim B (List.length v1006_4+List.length ((1,(((List.getD v1006_1 (Int.toNat v1006_2) (Ty.dflt ty130)).2).2).1,mt UInt8,mt UInt8)::mt (Ty.den ty150))) (48)) (k ((v1006_1,IntKind.wrap .i64 (v1006_2+1),v1006_3,v1006_4++(1,(((List.getD v1006_1 (Int.toNat v1006_2) (Ty.dflt ty130)).2).2).1,mt UInt8,mt UInt8)::mt (Ty.den ty150)))) (none)) (cond (Ops.eq B ((List.getD v1006_1 (Int.toNat v1006_2) (Ty.dflt ty130)).1) (2)) (ob (c193 ([64]:LB) v1006_1 (IntKind.wrap .i64 (v1006_2+1)) v1006_3 v1006_4) fun y0=>cond y0.1 (cond (Ops.inb B (IntKind.wrap .i64 ((y0.2.2).1+1)) (List.length y0.2.1)) (cond (!Ops.eq B ((List.getD y0.2.1 (Int.toNat (IntKind.wrap .i64 (y0.2.2.1+1))) (Ty.dflt ty130)).1) (2)) (ob (c194 y0.2.1 (IntKind.wrap .i64 ((y0.2.2).1+1)) ((y0.2.2.2).1) ((y0.2.2.2).2)) fun y1=>k ((y1.1,y1.2.1,(y1.2.2).1,(y1.2.2).2))) (cond (Ops.inb B (IntKind.wrap .i64 ((y0.2.2).1+1)) (List.length y0.2.1)) (cond (Ops.lim B (List.length ((y0.2.2.2).2)+List.length ((3,0,((List.getD v1006_1 (Int.toNat v1006_2) (Ty.dflt ty130)).2).1,((List.getD y0.2.1 (Int.toNat (IntKind.wrap .i64 (y0.2.2.1+1))) (Ty.dflt ty130)).2).1)::mt (Ty.den ty150))) (48)) (k ((y0.2.1,IntKind.wrap .i64 (IntKind.wrap .i64 ((y0.2.2).1+1)+1),(y0.2.2.2).1,(y0.2.2.2).2++(3,0,((List.getD v1006_1 (Int.toNat v1006_2) (Ty.dflt ty130)).2).1,((List.getD y0.2.1 (Int.toNat (IntKind.wrap .i64 (y0.2.2.1+1))) (Ty.dflt ty130)).2).1)::mt (Ty.den ty150)))) (none)) (none))) (none)) (cond (Ops.lim B (List.length ((y0.2.2.2).2)+List.length ((2,0,((List.getD v1006_1 (Int.toNat v1006_2) (Ty.dflt ty130)).2).1,mt UInt8)::mt (Ty.den ty150))) (48)) (k ((y0.2.1,(y0.2.2).1,(y0.2.2.2).1,(y0.2.2.2).2++(2,0,((List.getD v1006_1 (Int.toNat v1006_2) (Ty.dflt ty130)).2).1,mt UInt8)::mt (Ty.den ty150)))) (none))) (ob (c193 ([40]:LB) v1006_1 v1006_2 v1006_3 v1006_4) fun y0=>cond y0.1 (ob (c186 (1) y0.2.1 (IntKind.wrap .i64 ((y0.2.2).1+1)) ((y0.2.2.2).1) ((y0.2.2.2).2)) fun y1=>cond (Ops.le B (0) ((y1.2.2).1)) (k ((y1.1,y1.2.1,(y1.2.2).1,(y1.2.2).2))) (ob (c193 ([41]:LB) y1.1 y1.2.1 ((y1.2.2).1) ((y1.2.2).2)) fun y2=>cond (!y2.1) (ob (c194 y2.2.1 ((y2.2.2).1) ((y2.2.2.2).1) ((y2.2.2.2).2)) fun y3=>k ((y3.1,y3.2.1,(y3.2.2).1,(y3.2.2).2))) (k ((y2.2.1,IntKind.wrap .i64 ((y2.2.2).1+1),(y2.2.2.2).1,(y2.2.2.2).2))))) (ob (c194 y0.2.1 ((y0.2.2).1) ((y0.2.2.2).1) ((y0.2.2.2).2)) fun y1=>k ((y1.1,y1.2.1,(y1.2.2).1,(y1.2.2).2)))))) (none))
def E190 (p0:L130) (p1:Int) (p2:Int) (p3:L150):S190→List AV×Objs
 | .l1006 v1006_0 v1006_1 v1006_2 v1006_3 v1006_4=>(mk 170 [(0,.c (.ptr 0 0)),(2,.c (.int .i64 v1006_0))],[(0,.box 221 [.list 130 ty130 v1006_1,.int .i64 v1006_2,.own 1002,.int .i64 v1006_3]),(1002,.row 150 ty150 v1006_4)])
def I190:S190→Nat
 | .l1006 _ _ _ _ _=>1006
theorem eq190 {R:Type} (B:Ops) (c193:C193) (c190:C190) (c194:C194) (c186:C186) (p0:L130) (p1:Int) (p2:Int) (p3:L150) (k:AV→Objs→Option R) (n:Nat):afun tau B gl0 X190 (ent 193 (e193 c193) (ent 190 (e190 c190) (ent 194 (e194 c194) (ent 186 (e186 c186) (gnil))))) ow Tryz.f190 [.c (.ptr 0 0)] [(0,.box 221 [.list 130 ty130 p0,.int .i64 p1,.own 1002,.int .i64 p2]),(1002,.row 150 ty150 p3)] k n=T190 B c193 c190 c194 c186 p0 p1 p2 p3 (fun s=>aloop tau B gl0 X190 (ent 193 (e193 c193) (ent 190 (e190 c190) (ent 194 (e194 c194) (ent 186 (e186 c186) (gnil))))) ow [0] Tryz.f190 k (I190 s) (E190 p0 p1 p2 p3 s) n) (fun y=>k (.tup []) [(0,.box 221 [.list 130 ty130 y.1,.int .i64 y.2.1,.own 1002,.int .i64 y.2.2.1]),(1002,.row 150 ty150 y.2.2.2)]) none:=by kernel_rfl
theorem el190 {R:Type} (B:Ops) (c193:C193) (c190:C190) (c194:C194) (c186:C186) (p0:L130) (p1:Int) (p2:Int) (p3:L150) (k:AV→Objs→Option R) (n:Nat):∀ s,aloop tau B gl0 X190 (ent 193 (e193 c193) (ent 190 (e190 c190) (ent 194 (e194 c194) (ent 186 (e186 c186) (gnil))))) ow [0] Tryz.f190 k (I190 s) (E190 p0 p1 p2 p3 s) (n+1)=T190 B c193 c190 c194 c186 p0 p1 p2 p3 (fun s=>aloop tau B gl0 X190 (ent 193 (e193 c193) (ent 190 (e190 c190) (ent 194 (e194 c194) (ent 186 (e186 c186) (gnil))))) ow [0] Tryz.f190 k (I190 s) (E190 p0 p1 p2 p3 s) n) (fun y=>k (.tup []) [(0,.box 221 [.list 130 ty130 y.1,.int .i64 y.2.1,.own 1002,.int .i64 y.2.2.1]),(1002,.row 150 ty150 y.2.2.2)]) (some s)
 | .l1006 v1006_0 v1006_1 v1006_2 v1006_3 v1006_4=>by kernel_rfl
theorem nt190 {R R':Type} (B:Ops) (c193:C193) (c190:C190) (c194:C194) (c186:C186) (p0:L130) (p1:Int) (p2:Int) (p3:L150) (again:S190→Option R) (again':S190→Option R') (k0:(L130×Int×Int×L150)→Option R') (k:R'→Option R) (h:∀ s,again s=ob (again' s) k):∀ s,T190 B c193 c190 c194 c186 p0 p1 p2 p3 again (fun y=>ob (k0 y) k) s=ob (T190 B c193 c190 c194 c186 p0 p1 p2 p3 again' k0 s) k
 | none=>by unfold T190;repeat' first | exact rfl | exact h _ | apply qac | (apply qah;intro)
 | some (.l1006 v1006_0 v1006_1 v1006_2 v1006_3 v1006_4)=>by unfold T190;repeat' first | exact rfl | exact h _ | apply qac | (apply qah;intro)
def R190 (c193:C193) (c190:C190) (c194:C194) (c186:C186) (p0:L130) (p1:Int) (p2:Int) (p3:L150):Nat→S190→Option (L130×Int×Int×L150)
 | 0,_=>none
 | n+1,s=>T190 Ops.std c193 c190 c194 c186 p0 p1 p2 p3 (R190 c193 c190 c194 c186 p0 p1 p2 p3 n) some (some s)
theorem rr190 {R:Type} (c193:C193) (c190:C190) (c194:C194) (c186:C186) (p0:L130) (p1:Int) (p2:Int) (p3:L150) (k:AV→Objs→Option R):∀ (n:Nat) (s:S190),aloop tau Ops.std gl0 X190 (ent 193 (e193 c193) (ent 190 (e190 c190) (ent 194 (e194 c194) (ent 186 (e186 c186) (gnil))))) ow [0] Tryz.f190 k (I190 s) (E190 p0 p1 p2 p3 s) n=ob (R190 c193 c190 c194 c186 p0 p1 p2 p3 n s) (fun y=>k (.tup []) [(0,.box 221 [.list 130 ty130 y.1,.int .i64 y.2.1,.own 1002,.int .i64 y.2.2.1]),(1002,.row 150 ty150 y.2.2.2)])
 | 0,s=>by cases s<;>rfl
 | n+1,s=>by rw [el190];exact nt190 Ops.std c193 c190 c194 c186 p0 p1 p2 p3 _ _ some (fun y=>k (.tup []) [(0,.box 221 [.list 130 ty130 y.1,.int .i64 y.2.1,.own 1002,.int .i64 y.2.2.1]),(1002,.row 150 ty150 y.2.2.2)]) (rr190 c193 c190 c194 c186 p0 p1 p2 p3 k n) (some s)
def F190 (c193:C193) (c190:C190) (c194:C194) (c186:C186) (p0:L130) (p1:Int) (p2:Int) (p3:L150):Option (L130×Int×Int×L150):=T190 Ops.std c193 c190 c194 c186 p0 p1 p2 p3 (R190 c193 c190 c194 c186 p0 p1 p2 p3 1000000) some none
theorem fo190 {R:Type} (c193:C193) (c190:C190) (c194:C194) (c186:C186) (p0:L130) (p1:Int) (p2:Int) (p3:L150) (k:AV→Objs→Option R):afun tau Ops.std gl0 X190 (ent 193 (e193 c193) (ent 190 (e190 c190) (ent 194 (e194 c194) (ent 186 (e186 c186) (gnil))))) ow Tryz.f190 [.c (.ptr 0 0)] [(0,.box 221 [.list 130 ty130 p0,.int .i64 p1,.own 1002,.int .i64 p2]),(1002,.row 150 ty150 p3)] k 1000000=ob (F190 c193 c190 c194 c186 p0 p1 p2 p3) (fun y=>k (.tup []) [(0,.box 221 [.list 130 ty130 y.1,.int .i64 y.2.1,.own 1002,.int .i64 y.2.2.1]),(1002,.row 150 ty150 y.2.2.2)]):=by rw [eq190];exact nt190 Ops.std c193 c190 c194 c186 p0 p1 p2 p3 _ _ some (fun y=>k (.tup []) [(0,.box 221 [.list 130 ty130 y.1,.int .i64 y.2.1,.own 1002,.int .i64 y.2.2.1]),(1002,.row 150 ty150 y.2.2.2)]) (rr190 c193 c190 c194 c186 p0 p1 p2 p3 k 1000000) none
theorem sf190 {c193:C193} {c190:C190} {c194:C194} {c186:C186} (h193:Sp193 c193) (h190:Sp190 c190) (h194:Sp194 c194) (h186:Sp186 c186):Sp190 (F190 c193 c190 c194 c186):=fun p0 p1 p2 p3 y hy=>by
 refine qap (G:=ent 193 (e193 c193) (ent 190 (e190 c190) (ent 194 (e194 c194) (ent 186 (e186 c186) (gnil))))) (qai (ek193 h193) (qai (ek190 h190) (qai (ek194 h194) (qai (ek186 h186) (qao))))) 1000000 (fn:=Tryz.f190) (by kernel_rfl) (by kernel_rfl) (X:=X190) (by kernel_rfl) ?_
 rw [fo190,hy]
 rfl
noncomputable def Rec186:Nat→(Int→L130→Int→Int→L150→Option (L130×Int×Int×L150))×(L130→Int→Int→L150→Option (L130×Int×Int×L150))
 | 0=>(fun _ _ _ _ _=>none,fun _ _ _ _=>none)
 | d+1=>(F186 (Rec186 d).2 (Rec186 d).1 M191,F190 M193 (Rec186 d).2 M194 (Rec186 d).1)
theorem rec186:∀ d,Sp186 (Rec186 d).1∧Sp190 (Rec186 d).2
 | 0=>⟨(fun p0 p1 p2 p3 p4 y (h:(none:Option (L130×Int×Int×L150))=some y)=>by cases h),(fun p0 p1 p2 p3 y (h:(none:Option (L130×Int×Int×L150))=some y)=>by cases h)⟩
 | d+1=>⟨sf186 (rec186 d).2 (rec186 d).1 sm191,sf190 sm193 (rec186 d).2 sm194 (rec186 d).1⟩
noncomputable def M186:Int→L130→Int→Int→L150→Option (L130×Int×Int×L150):=(Rec186 1000000).1
theorem sm186:Sp186 M186:=(rec186 1000000).1
def X177:Aux:=⟨[],[(4,.lin [0,1,2,3,4,5,6]),(7,.lin (rg 0 11))]⟩
def T177 {R:Type} (B:Ops) (c186:C186) (p0:L130) (p1:Int) (k:(Int×Int×L150)→Option R):Option R:=ob (c186 (1) p0 p1 (-1) (mt (Ty.den ty150))) fun y0=>cond (Ops.le B (0) ((y0.2.2).1)) (k (((y0.2.2).1,2,mt (Ty.den ty150)))) (cond (Ops.lt B (30) (Nat.cast (List.length ((y0.2.2).2)))) (k ((p1,13,mt (Ty.den ty150)))) (k ((y0.2.1,0,(y0.2.2).2))))
theorem eq177 {R:Type} (B:Ops) (c186:C186) (p0:L130) (p1:Int) (k:AV→Objs→Option R) (n:Nat):afun tau B gl0 X177 (ent 186 (e186 c186) (gnil)) ow Tryz.f177 [.c (.list 130 ty130 p0),.c (.int .i64 p1)] [] k n=T177 B c186 p0 p1 (fun y=>k (.tup [(false,[.own 501000]),(false,[.int .i64 y.1]),(false,[.int .i64 y.2.1])]) [(501000,.row 150 ty150 y.2.2)]):=by kernel_rfl
theorem nt177 {R R':Type} (B:Ops) (c186:C186) (p0:L130) (p1:Int) (k0:(Int×Int×L150)→Option R') (k:R'→Option R):T177 B c186 p0 p1 (fun y=>ob (k0 y) k)=ob (T177 B c186 p0 p1 k0) k:=by
 unfold T177
 repeat' first | exact rfl | apply qac | (apply qah;intro)
def F177 (c186:C186) (p0:L130) (p1:Int):Option (Int×Int×L150):=T177 Ops.std c186 p0 p1 some
theorem fo177 {R:Type} (c186:C186) (p0:L130) (p1:Int) (k:AV→Objs→Option R) (n:Nat):afun tau Ops.std gl0 X177 (ent 186 (e186 c186) (gnil)) ow Tryz.f177 [.c (.list 130 ty130 p0),.c (.int .i64 p1)] [] k n=ob (F177 c186 p0 p1) (fun y=>k (.tup [(false,[.own 501000]),(false,[.int .i64 y.1]),(false,[.int .i64 y.2.1])]) [(501000,.row 150 ty150 y.2.2)]):=by rw [eq177];exact nt177 Ops.std c186 p0 p1 some (fun y=>k (.tup [(false,[.own 501000]),(false,[.int .i64 y.1]),(false,[.int .i64 y.2.1])]) [(501000,.row 150 ty150 y.2.2)])
def e177 {R:Type} (c:L130→Int→Option (Int×Int×L150)):Ent R:=fun args objs k=>
 oCons args fun a0 l0=>oC a0 fun x0=>cList 130 ty130 x0 fun p0=>oCons l0 fun a1 l1=>oC a1 fun x1=>cInt .i64 x1 fun p1=>oNil l1 <| oNilO objs <| ob (c p0 p1) fun y=>k (.tup [(false,[.own 501000]),(false,[.int .i64 y.1]),(false,[.int .i64 y.2.1])]) [(501000,.row 150 ty150 y.2.2)]
abbrev Sp177 (c:L130→Int→Option (Int×Int×L150)):Prop:=∀ (p0:L130) (p1:Int) (y:Int×Int×L150),c p0 p1=some y→Spec Tryz.prog gl0 177 [.c (.list 130 ty130 p0),.c (.int .i64 p1)] [] (.tup [(false,[.own 501000]),(false,[.int .i64 y.1]),(false,[.int .i64 y.2.1])]) [(501000,.row 150 ty150 y.2.2)]
theorem ek177 {R:Type} {c:L130→Int→Option (Int×Int×L150)} (hs:Sp177 c):EOk 177 (e177 (R:=R) c):=fun args objs k r h=>by
 unfold e177 at h
 obtain ⟨a0,l0,rfl,q1⟩:=qaa h
 obtain ⟨x0,rfl,q2⟩:=qaj q1
 obtain ⟨p0,rfl,q3⟩:=qae q2
 obtain ⟨a1,l1,rfl,q4⟩:=qaa q3
 obtain ⟨x1,rfl,q5⟩:=qaj q4
 obtain ⟨p1,rfl,q6⟩:=qal q5
 obtain ⟨rfl,q7⟩:=qag q6
 obtain ⟨rfl,q8⟩:=qaf q7
 exact qar (hs p0 p1) q8
theorem sf177 {c186:C186} (h186:Sp186 c186):Sp177 (F177 c186):=fun p0 p1 y hy=>by
 refine qap (G:=ent 186 (e186 c186) (gnil)) (qai (ek186 h186) (qao)) 1000000 (fn:=Tryz.f177) (by kernel_rfl) (by kernel_rfl) (X:=X177) (by kernel_rfl) ?_
 rw [fo177,hy]
 rfl
noncomputable def M177:L130→Int→Option (Int×Int×L150):=F177 M186
theorem sm177:Sp177 M177:=sf177 sm186
def X148:Aux:=⟨[],[(6,.lin [0,1,2,3,4,5,6,7,8]),(8,.lin [0,1,2,3,4,5,6,7])]⟩
abbrev C82:Type:=LB→Option (Int×Int×L130)
abbrev C177:Type:=L130→Int→Option (Int×Int×L150)
def T148 {R:Type} (B:Ops) (c82:C82) (c177:C177) (p0:LB) (k:(Int×Int×L150)→Option R):Option R:=ob (c82 p0) fun y0=>cond (!Ops.eq B y0.1 (0)) (k ((y0.1,y0.2.1,mt (Ty.den ty150)))) (ob (c177 y0.2.2 (0)) fun y1=>cond (!Ops.eq B y1.2.1 (0)) (cond (Ops.inb B y1.1 (List.length y0.2.2)) (k ((y1.2.1,(((List.getD y0.2.2 (Int.toNat y1.1) (Ty.dflt ty130)).2).2).2,mt (Ty.den ty150)))) (none)) (cond (Ops.inb B y1.1 (List.length y0.2.2)) (cond (!Ops.eq B ((List.getD y0.2.2 (Int.toNat y1.1) (Ty.dflt ty130)).1) (5)) (cond (Ops.inb B y1.1 (List.length y0.2.2)) (k ((2,(((List.getD y0.2.2 (Int.toNat y1.1) (Ty.dflt ty130)).2).2).2,mt (Ty.den ty150)))) (none)) (k ((0,0,y1.2.2)))) (none)))
theorem eq148 {R:Type} (B:Ops) (c82:C82) (c177:C177) (p0:LB) (k:AV→Objs→Option R) (n:Nat):afun tau B gl0 X148 (ent 82 (e82 c82) (ent 177 (e177 c177) (gnil))) ow Tryz.f148 [.c (.str p0)] [] k n=T148 B c82 c177 p0 (fun y=>k (.tup [(false,[.own 501000]),(false,[.int .i64 y.1]),(false,[.int .i64 y.2.1])]) [(501000,.row 150 ty150 y.2.2)]):=by kernel_rfl
theorem nt148 {R R':Type} (B:Ops) (c82:C82) (c177:C177) (p0:LB) (k0:(Int×Int×L150)→Option R') (k:R'→Option R):T148 B c82 c177 p0 (fun y=>ob (k0 y) k)=ob (T148 B c82 c177 p0 k0) k:=by
 unfold T148
 repeat' first | exact rfl | apply qac | (apply qah;intro)
def F148 (c82:C82) (c177:C177) (p0:LB):Option (Int×Int×L150):=T148 Ops.std c82 c177 p0 some
theorem fo148 {R:Type} (c82:C82) (c177:C177) (p0:LB) (k:AV→Objs→Option R) (n:Nat):afun tau Ops.std gl0 X148 (ent 82 (e82 c82) (ent 177 (e177 c177) (gnil))) ow Tryz.f148 [.c (.str p0)] [] k n=ob (F148 c82 c177 p0) (fun y=>k (.tup [(false,[.own 501000]),(false,[.int .i64 y.1]),(false,[.int .i64 y.2.1])]) [(501000,.row 150 ty150 y.2.2)]):=by rw [eq148];exact nt148 Ops.std c82 c177 p0 some (fun y=>k (.tup [(false,[.own 501000]),(false,[.int .i64 y.1]),(false,[.int .i64 y.2.1])]) [(501000,.row 150 ty150 y.2.2)])
def e148 {R:Type} (c:LB→Option (Int×Int×L150)):Ent R:=fun args objs k=>
 oCons args fun a0 l0=>oC a0 fun x0=>cStr x0 fun p0=>oNil l0 <| oNilO objs <| ob (c p0) fun y=>k (.tup [(false,[.own 501000]),(false,[.int .i64 y.1]),(false,[.int .i64 y.2.1])]) [(501000,.row 150 ty150 y.2.2)]
abbrev Sp148 (c:LB→Option (Int×Int×L150)):Prop:=∀ (p0:LB) (y:Int×Int×L150),c p0=some y→Spec Tryz.prog gl0 148 [.c (.str p0)] [] (.tup [(false,[.own 501000]),(false,[.int .i64 y.1]),(false,[.int .i64 y.2.1])]) [(501000,.row 150 ty150 y.2.2)]
theorem ek148 {R:Type} {c:LB→Option (Int×Int×L150)} (hs:Sp148 c):EOk 148 (e148 (R:=R) c):=fun args objs k r h=>by
 unfold e148 at h
 obtain ⟨a0,l0,rfl,q1⟩:=qaa h
 obtain ⟨x0,rfl,q2⟩:=qaj q1
 obtain ⟨p0,rfl,q3⟩:=qav q2
 obtain ⟨rfl,q4⟩:=qag q3
 obtain ⟨rfl,q5⟩:=qaf q4
 exact qar (hs p0) q5
theorem sf148 {c82:C82} {c177:C177} (h82:Sp82 c82) (h177:Sp177 c177):Sp148 (F148 c82 c177):=fun p0 y hy=>by
 refine qap (G:=ent 82 (e82 c82) (ent 177 (e177 c177) (gnil))) (qai (ek82 h82) (qai (ek177 h177) (qao))) 1000000 (fn:=Tryz.f148) (by kernel_rfl) (by kernel_rfl) (X:=X148) (by kernel_rfl) ?_
 rw [fo148,hy]
 rfl
noncomputable def M148:LB→Option (Int×Int×L150):=F148 M82 M177
theorem sm148:Sp148 M148:=sf148 sm82 sm177
def X149:Aux:=⟨[(3,([1,2,3]++rg 6 74))],[]⟩
inductive S149 where
 | l0 (v0_1:Int) (v0_2:L157)
def T149 {R:Type} (B:Ops) (c82:C82) (c177:C177) (p0:L9) (again:S149→Option R) (k:(Bool×L157)→Option R):Option S149→Option R | none=>again (.l0 0 (mt (Ty.den ty157))) | some (.l0 v0_1 v0_2)=>cond (Ops.lt B v0_1 (Nat.cast (List.length p0))) (cond (Ops.inb B v0_1 (List.length p0)) (ob (c82 (List.getD p0 (Int.toNat v0_1) (Ty.dflt ty9))) fun y0=>cond (!Ops.eq B y0.1 (0)) (k ((false,mt (Ty.den ty157)))) (cond (Ops.lt B (Nat.cast (List.length y0.2.2)) (3)) (k ((false,mt (Ty.den ty157)))) (cond (Ops.inb B (0) (List.length y0.2.2)) (cond (!Ops.eq B ((List.getD y0.2.2 (Int.toNat (0)) (Ty.dflt ty130)).1) (2)) (k ((false,mt (Ty.den ty157)))) (cond (Ops.inb B (1) (List.length y0.2.2)) (cond (!Ops.eq B ((List.getD y0.2.2 (Int.toNat (1)) (Ty.dflt ty130)).1) (4)) (k ((false,mt (Ty.den ty157)))) (cond (Ops.inb B (1) (List.length y0.2.2)) (cond (!((List.getD y0.2.2 (Int.toNat (1)) (Ty.dflt ty130)).2).1 == ([61]:LB)) (k ((false,mt (Ty.den ty157)))) (ob (c177 y0.2.2 (2)) fun y1=>cond (!Ops.eq B y1.2.1 (0)) (k ((false,mt (Ty.den ty157)))) (cond (Ops.inb B y1.1 (List.length y0.2.2)) (cond (!Ops.eq B ((List.getD y0.2.2 (Int.toNat y1.1) (Ty.dflt ty130)).1) (5)) (k ((false,mt (Ty.den ty157)))) (cond (Ops.inb B (0) (List.length y0.2.2)) (cond (Ops.lim B (List.length v0_2+List.length ((((List.getD y0.2.2 (Int.toNat (0)) (Ty.dflt ty130)).2).1,y1.2.2)::mt (Ty.den ty157))) (40)) (again (.l0 (IntKind.wrap .i64 (v0_1+1)) (v0_2++(((List.getD y0.2.2 (Int.toNat (0)) (Ty.dflt ty130)).2).1,y1.2.2)::mt (Ty.den ty157)))) (none)) (none))) (none)))) (none))) (none))) (none)))) (none)) (k ((true,v0_2)))
def E149 (p0:L9):S149→List AV×Objs
 | .l0 v0_1 v0_2=>(mk 80 [(0,.c (.list 9 ty9 p0)),(4,.c (.own 4)),(5,.c (.int .i64 v0_1))],[(4,.row 157 ty157 v0_2)])
def I149:S149→Nat
 | .l0 _ _=>0
theorem eq149 {R:Type} (B:Ops) (c82:C82) (c177:C177) (p0:L9) (k:AV→Objs→Option R) (n:Nat):afun tau B gl0 X149 (ent 82 (e82 c82) (ent 177 (e177 c177) (gnil))) ow Tryz.f149 [.c (.list 9 ty9 p0)] [] k n=T149 B c82 c177 p0 (fun s=>aloop tau B gl0 X149 (ent 82 (e82 c82) (ent 177 (e177 c177) (gnil))) ow [] Tryz.f149 k (I149 s) (E149 p0 s) n) (fun y=>k (.tup [(false,[.own 501000]),(false,[.bool y.1])]) [(501000,.row 157 ty157 y.2)]) none:=by kernel_rfl
theorem el149 {R:Type} (B:Ops) (c82:C82) (c177:C177) (p0:L9) (k:AV→Objs→Option R) (n:Nat):∀ s,aloop tau B gl0 X149 (ent 82 (e82 c82) (ent 177 (e177 c177) (gnil))) ow [] Tryz.f149 k (I149 s) (E149 p0 s) (n+1)=T149 B c82 c177 p0 (fun s=>aloop tau B gl0 X149 (ent 82 (e82 c82) (ent 177 (e177 c177) (gnil))) ow [] Tryz.f149 k (I149 s) (E149 p0 s) n) (fun y=>k (.tup [(false,[.own 501000]),(false,[.bool y.1])]) [(501000,.row 157 ty157 y.2)]) (some s)
 | .l0 v0_1 v0_2=>by kernel_rfl
theorem nt149 {R R':Type} (B:Ops) (c82:C82) (c177:C177) (p0:L9) (again:S149→Option R) (again':S149→Option R') (k0:(Bool×L157)→Option R') (k:R'→Option R) (h:∀ s,again s=ob (again' s) k):∀ s,T149 B c82 c177 p0 again (fun y=>ob (k0 y) k) s=ob (T149 B c82 c177 p0 again' k0 s) k
 | none=>by unfold T149;repeat' first | exact rfl | exact h _ | apply qac | (apply qah;intro)
 | some (.l0 v0_1 v0_2)=>by unfold T149;repeat' first | exact rfl | exact h _ | apply qac | (apply qah;intro)
def R149 (c82:C82) (c177:C177) (p0:L9):Nat→S149→Option (Bool×L157)
 | 0,_=>none
 | n+1,s=>T149 Ops.std c82 c177 p0 (R149 c82 c177 p0 n) some (some s)
theorem rr149 {R:Type} (c82:C82) (c177:C177) (p0:L9) (k:AV→Objs→Option R):∀ (n:Nat) (s:S149),aloop tau Ops.std gl0 X149 (ent 82 (e82 c82) (ent 177 (e177 c177) (gnil))) ow [] Tryz.f149 k (I149 s) (E149 p0 s) n=ob (R149 c82 c177 p0 n s) (fun y=>k (.tup [(false,[.own 501000]),(false,[.bool y.1])]) [(501000,.row 157 ty157 y.2)])
 | 0,s=>by cases s<;>rfl
 | n+1,s=>by rw [el149];exact nt149 Ops.std c82 c177 p0 _ _ some (fun y=>k (.tup [(false,[.own 501000]),(false,[.bool y.1])]) [(501000,.row 157 ty157 y.2)]) (rr149 c82 c177 p0 k n) (some s)
def F149 (c82:C82) (c177:C177) (p0:L9):Option (Bool×L157):=T149 Ops.std c82 c177 p0 (R149 c82 c177 p0 1000000) some none
theorem fo149 {R:Type} (c82:C82) (c177:C177) (p0:L9) (k:AV→Objs→Option R):afun tau Ops.std gl0 X149 (ent 82 (e82 c82) (ent 177 (e177 c177) (gnil))) ow Tryz.f149 [.c (.list 9 ty9 p0)] [] k 1000000=ob (F149 c82 c177 p0) (fun y=>k (.tup [(false,[.own 501000]),(false,[.bool y.1])]) [(501000,.row 157 ty157 y.2)]):=by rw [eq149];exact nt149 Ops.std c82 c177 p0 _ _ some (fun y=>k (.tup [(false,[.own 501000]),(false,[.bool y.1])]) [(501000,.row 157 ty157 y.2)]) (rr149 c82 c177 p0 k 1000000) none
def e149 {R:Type} (c:L9→Option (Bool×L157)):Ent R:=fun args objs k=>
 oCons args fun a0 l0=>oC a0 fun x0=>cList 9 ty9 x0 fun p0=>oNil l0 <| oNilO objs <| ob (c p0) fun y=>k (.tup [(false,[.own 501000]),(false,[.bool y.1])]) [(501000,.row 157 ty157 y.2)]
abbrev Sp149 (c:L9→Option (Bool×L157)):Prop:=∀ (p0:L9) (y:Bool×L157),c p0=some y→Spec Tryz.prog gl0 149 [.c (.list 9 ty9 p0)] [] (.tup [(false,[.own 501000]),(false,[.bool y.1])]) [(501000,.row 157 ty157 y.2)]
theorem ek149 {R:Type} {c:L9→Option (Bool×L157)} (hs:Sp149 c):EOk 149 (e149 (R:=R) c):=fun args objs k r h=>by
 unfold e149 at h
 obtain ⟨a0,l0,rfl,q1⟩:=qaa h
 obtain ⟨x0,rfl,q2⟩:=qaj q1
 obtain ⟨p0,rfl,q3⟩:=qae q2
 obtain ⟨rfl,q4⟩:=qag q3
 obtain ⟨rfl,q5⟩:=qaf q4
 exact qar (hs p0) q5
theorem sf149 {c82:C82} {c177:C177} (h82:Sp82 c82) (h177:Sp177 c177):Sp149 (F149 c82 c177):=fun p0 y hy=>by
 refine qap (G:=ent 82 (e82 c82) (ent 177 (e177 c177) (gnil))) (qai (ek82 h82) (qai (ek177 h177) (qao))) 1000000 (fn:=Tryz.f149) (by kernel_rfl) (by kernel_rfl) (X:=X149) (by kernel_rfl) ?_
 rw [fo149,hy]
 rfl
noncomputable def M149:L9→Option (Bool×L157):=F149 M82 M177
theorem sm149:Sp149 M149:=sf149 sm82 sm177
def X107:Aux:=⟨[],[]⟩
def T107 {R:Type} (B:Ops) (p0:Int) (k:(Bool)→Option R):Option R:=cond (Ops.le B (1) p0) (k (Ops.le B p0 (999))) (k false)
theorem eq107 {R:Type} (B:Ops) (p0:Int) (k:AV→Objs→Option R) (n:Nat):afun tau B gl0 X107 (gnil) ow Tryz.f107 [.c (.int .i64 p0)] [] k n=T107 B p0 (fun y=>k (.c (.bool y)) []):=by kernel_rfl
theorem nt107 {R R':Type} (B:Ops) (p0:Int) (k0:(Bool)→Option R') (k:R'→Option R):T107 B p0 (fun y=>ob (k0 y) k)=ob (T107 B p0 k0) k:=by
 unfold T107
 repeat' first | exact rfl | apply qac | (apply qah;intro)
def F107 (p0:Int):Option (Bool):=T107 Ops.std p0 some
theorem fo107 {R:Type} (p0:Int) (k:AV→Objs→Option R) (n:Nat):afun tau Ops.std gl0 X107 (gnil) ow Tryz.f107 [.c (.int .i64 p0)] [] k n=ob (F107 p0) (fun y=>k (.c (.bool y)) []):=by rw [eq107];exact nt107 Ops.std p0 some (fun y=>k (.c (.bool y)) [])
def e107 {R:Type} (c:Int→Option (Bool)):Ent R:=fun args objs k=>
 oCons args fun a0 l0=>oC a0 fun x0=>cInt .i64 x0 fun p0=>oNil l0 <| oNilO objs <| ob (c p0) fun y=>k (.c (.bool y)) []
abbrev Sp107 (c:Int→Option (Bool)):Prop:=∀ (p0:Int) (y:Bool),c p0=some y→Spec Tryz.prog gl0 107 [.c (.int .i64 p0)] [] (.c (.bool y)) []
theorem ek107 {R:Type} {c:Int→Option (Bool)} (hs:Sp107 c):EOk 107 (e107 (R:=R) c):=fun args objs k r h=>by
 unfold e107 at h
 obtain ⟨a0,l0,rfl,q1⟩:=qaa h
 obtain ⟨x0,rfl,q2⟩:=qaj q1
 obtain ⟨p0,rfl,q3⟩:=qal q2
 obtain ⟨rfl,q4⟩:=qag q3
 obtain ⟨rfl,q5⟩:=qaf q4
 exact qar (hs p0) q5
theorem sf107:Sp107 (F107):=fun p0 y hy=>by
 refine qap (G:=gnil) (qao) 1000000 (fn:=Tryz.f107) (by kernel_rfl) (by kernel_rfl) (X:=X107) (by kernel_rfl) ?_
 rw [fo107,hy]
 rfl
noncomputable def M107:Int→Option (Bool):=F107
theorem sm107:Sp107 M107:=sf107
def X161:Aux:=⟨[],[]⟩
def T161 {R:Type} (B:Ops) (p0:Int) (k:(Int)→Option R):Option R:=cond (Ops.le B (1) p0) (cond (Ops.le B p0 (3)) (k 0) (cond (Ops.eq B p0 (4)) (k 1) (cond (Ops.eq B p0 (5)) (k 1) (cond (Ops.le B (6) p0) (cond (Ops.le B p0 (16)) (k 2) (k (-1))) (k (-1)))))) (cond (Ops.eq B p0 (4)) (k 1) (cond (Ops.eq B p0 (5)) (k 1) (cond (Ops.le B (6) p0) (cond (Ops.le B p0 (16)) (k 2) (k (-1))) (k (-1)))))
theorem eq161 {R:Type} (B:Ops) (p0:Int) (k:AV→Objs→Option R) (n:Nat):afun tau B gl0 X161 (gnil) ow Tryz.f161 [.c (.int .i64 p0)] [] k n=T161 B p0 (fun y=>k (.c (.int .i64 y)) []):=by kernel_rfl
theorem nt161 {R R':Type} (B:Ops) (p0:Int) (k0:(Int)→Option R') (k:R'→Option R):T161 B p0 (fun y=>ob (k0 y) k)=ob (T161 B p0 k0) k:=by
 unfold T161
 repeat' first | exact rfl | apply qac | (apply qah;intro)
def F161 (p0:Int):Option (Int):=T161 Ops.std p0 some
theorem fo161 {R:Type} (p0:Int) (k:AV→Objs→Option R) (n:Nat):afun tau Ops.std gl0 X161 (gnil) ow Tryz.f161 [.c (.int .i64 p0)] [] k n=ob (F161 p0) (fun y=>k (.c (.int .i64 y)) []):=by rw [eq161];exact nt161 Ops.std p0 some (fun y=>k (.c (.int .i64 y)) [])
def e161 {R:Type} (c:Int→Option (Int)):Ent R:=fun args objs k=>
 oCons args fun a0 l0=>oC a0 fun x0=>cInt .i64 x0 fun p0=>oNil l0 <| oNilO objs <| ob (c p0) fun y=>k (.c (.int .i64 y)) []
abbrev Sp161 (c:Int→Option (Int)):Prop:=∀ (p0:Int) (y:Int),c p0=some y→Spec Tryz.prog gl0 161 [.c (.int .i64 p0)] [] (.c (.int .i64 y)) []
theorem ek161 {R:Type} {c:Int→Option (Int)} (hs:Sp161 c):EOk 161 (e161 (R:=R) c):=fun args objs k r h=>by
 unfold e161 at h
 obtain ⟨a0,l0,rfl,q1⟩:=qaa h
 obtain ⟨x0,rfl,q2⟩:=qaj q1
 obtain ⟨p0,rfl,q3⟩:=qal q2
 obtain ⟨rfl,q4⟩:=qag q3
 obtain ⟨rfl,q5⟩:=qaf q4
 exact qar (hs p0) q5
theorem sf161:Sp161 (F161):=fun p0 y hy=>by
 refine qap (G:=gnil) (qao) 1000000 (fn:=Tryz.f161) (by kernel_rfl) (by kernel_rfl) (X:=X161) (by kernel_rfl) ?_
 rw [fo161,hy]
 rfl
noncomputable def M161:Int→Option (Int):=F161
theorem sm161:Sp161 M161:=sf161
def X110:Aux:=⟨[(3,([1,2]++rg 5 99)),(1000016,([1,2]++rg 8 96)),(1000018,([1,2,5]++rg 7 97))],[]⟩
inductive S110 where
 | l0 (v0_1:Int) (v0_2:Int)
 | l1016 (v1016_1:Int) (v1016_2:Int) (v1016_3:Int) (v1016_4:Int) (v1016_5:Int) (v1016_6:LB) (v1016_7:LB) (v1016_8:Int) (v1016_9:Int) (v1016_10:LB) (v1016_11:LB)
 | l1018 (v1018_1:Int) (v1018_2:Int) (v1018_3:Int)
abbrev C161:Type:=Int→Option (Int)
def T110 {R:Type} (B:Ops) (c161:C161) (c58:C58) (p0:L150) (again:S110→Option R) (k:(Bool)→Option R):Option S110→Option R | none=>again (.l0 0 0) | some (.l0 v0_1 v0_2)=>cond (Ops.lt B v0_2 (Nat.cast (List.length p0))) (cond (Ops.inb B v0_2 (List.length p0)) (ob (c161 ((List.getD p0 (Int.toNat v0_2) (Ty.dflt ty150)).1)) fun y0=>cond (Ops.eq B ((List.getD p0 (Int.toNat v0_2) (Ty.dflt ty150)).1) (1)) (again (.l1016 v0_1 v0_2 y0 ((List.getD p0 (Int.toNat v0_2) (Ty.dflt ty150)).1) (((List.getD p0 (Int.toNat v0_2) (Ty.dflt ty150)).2).1) ((((List.getD p0 (Int.toNat v0_2) (Ty.dflt ty150)).2).2).1) ((((List.getD p0 (Int.toNat v0_2) (Ty.dflt ty150)).2).2).2) ((List.getD p0 (Int.toNat v0_2) (Ty.dflt ty150)).1) (((List.getD p0 (Int.toNat v0_2) (Ty.dflt ty150)).2).1) (mt UInt8) (mt UInt8))) (cond (Ops.eq B ((List.getD p0 (Int.toNat v0_2) (Ty.dflt ty150)).1) (2)) (again (.l1016 v0_1 v0_2 y0 ((List.getD p0 (Int.toNat v0_2) (Ty.dflt ty150)).1) (((List.getD p0 (Int.toNat v0_2) (Ty.dflt ty150)).2).1) ((((List.getD p0 (Int.toNat v0_2) (Ty.dflt ty150)).2).2).1) ((((List.getD p0 (Int.toNat v0_2) (Ty.dflt ty150)).2).2).2) ((List.getD p0 (Int.toNat v0_2) (Ty.dflt ty150)).1) 0 ((((List.getD p0 (Int.toNat v0_2) (Ty.dflt ty150)).2).2).1) (mt UInt8))) (cond (Ops.eq B ((List.getD p0 (Int.toNat v0_2) (Ty.dflt ty150)).1) (3)) (again (.l1016 v0_1 v0_2 y0 ((List.getD p0 (Int.toNat v0_2) (Ty.dflt ty150)).1) (((List.getD p0 (Int.toNat v0_2) (Ty.dflt ty150)).2).1) ((((List.getD p0 (Int.toNat v0_2) (Ty.dflt ty150)).2).2).1) ((((List.getD p0 (Int.toNat v0_2) (Ty.dflt ty150)).2).2).2) ((List.getD p0 (Int.toNat v0_2) (Ty.dflt ty150)).1) 0 ((((List.getD p0 (Int.toNat v0_2) (Ty.dflt ty150)).2).2).1) ((((List.getD p0 (Int.toNat v0_2) (Ty.dflt ty150)).2).2).2))) (again (.l1016 v0_1 v0_2 y0 ((List.getD p0 (Int.toNat v0_2) (Ty.dflt ty150)).1) (((List.getD p0 (Int.toNat v0_2) (Ty.dflt ty150)).2).1) ((((List.getD p0 (Int.toNat v0_2) (Ty.dflt ty150)).2).2).1) ((((List.getD p0 (Int.toNat v0_2) (Ty.dflt ty150)).2).2).2) ((List.getD p0 (Int.toNat v0_2) (Ty.dflt ty150)).1) 0 (mt UInt8) (mt UInt8)))))) (none)) (cond (Ops.eq B v0_1 (1)) (k (Ops.le B (Nat.cast (List.length p0)) (30))) (k false)) | some (.l1016 v1016_1 v1016_2 v1016_3 v1016_4 v1016_5 v1016_6 v1016_7 v1016_8 v1016_9 v1016_10 v1016_11)=>cond (Ops.lt B v1016_3 (0)) (k false) (cond (Ops.lt B v1016_1 v1016_3) (k false) (cond (!(Ops.eq B v1016_4 v1016_8 && (Ops.eq B v1016_5 v1016_9 && (v1016_6 == v1016_10 && (v1016_7 == v1016_11 && true))))) (k false) (cond (Ops.lt B v1016_5 (0)) (k false) (cond (Ops.lt B (999) v1016_5) (k false) (cond (Ops.eq B v1016_4 (2)) (ob (c58 v1016_6) fun y0=>cond (!y0) (k false) (cond (Ops.eq B v1016_4 (3)) (ob (c58 v1016_7) fun y1=>cond (!y1) (k false) (again (.l1018 v1016_1 v1016_2 v1016_3))) (again (.l1018 v1016_1 v1016_2 v1016_3)))) (cond (Ops.eq B v1016_4 (3)) (ob (c58 v1016_6) fun y0=>cond (!y0) (k false) (cond (Ops.eq B v1016_4 (3)) (ob (c58 v1016_7) fun y1=>cond (!y1) (k false) (again (.l1018 v1016_1 v1016_2 v1016_3))) (again (.l1018 v1016_1 v1016_2 v1016_3)))) (cond (Ops.eq B v1016_4 (3)) (ob (c58 v1016_7) fun y0=>cond (!y0) (k false) (again (.l1018 v1016_1 v1016_2 v1016_3))) (again (.l1018 v1016_1 v1016_2 v1016_3))))))))) | some (.l1018 v1018_1 v1018_2 v1018_3)=>again (.l0 (IntKind.wrap .i64 (IntKind.wrap .i64 (v1018_1-v1018_3)+1)) (IntKind.wrap .i64 (v1018_2+1)))
def E110 (p0:L150):S110→List AV×Objs
 | .l0 v0_1 v0_2=>(mk 104 [(0,.c (.list 150 ty150 p0)),(3,.c (.int .i64 v0_1)),(4,.c (.int .i64 v0_2))],[])
 | .l1016 v1016_1 v1016_2 v1016_3 v1016_4 v1016_5 v1016_6 v1016_7 v1016_8 v1016_9 v1016_10 v1016_11=>(mk 104 [(0,.c (.list 150 ty150 p0)),(3,.c (.int .i64 v1016_1)),(4,.c (.int .i64 v1016_2)),(5,.c (.ptr 5 0)),(6,.c (.int .i64 v1016_3)),(7,.c (.ptr 7 0))],[(5,.box 150 [.int .i64 v1016_4,.int .i64 v1016_5,.str v1016_6,.str v1016_7]),(7,.box 150 [.int .i64 v1016_8,.int .i64 v1016_9,.str v1016_10,.str v1016_11])])
 | .l1018 v1018_1 v1018_2 v1018_3=>(mk 104 [(0,.c (.list 150 ty150 p0)),(3,.c (.int .i64 v1018_1)),(4,.c (.int .i64 v1018_2)),(6,.c (.int .i64 v1018_3))],[])
def I110:S110→Nat
 | .l0 _ _=>0
 | .l1016 _ _ _ _ _ _ _ _ _ _ _=>1016
 | .l1018 _ _ _=>1018
theorem eq110 {R:Type} (B:Ops) (c161:C161) (c58:C58) (p0:L150) (k:AV→Objs→Option R) (n:Nat):afun tau B gl0 X110 (ent 161 (e161 c161) (ent 58 (e58 c58) (gnil))) ow Tryz.f110 [.c (.list 150 ty150 p0)] [] k n=T110 B c161 c58 p0 (fun s=>aloop tau B gl0 X110 (ent 161 (e161 c161) (ent 58 (e58 c58) (gnil))) ow [] Tryz.f110 k (I110 s) (E110 p0 s) n) (fun y=>k (.c (.bool y)) []) none:=by kernel_rfl
theorem el110 {R:Type} (B:Ops) (c161:C161) (c58:C58) (p0:L150) (k:AV→Objs→Option R) (n:Nat):∀ s,aloop tau B gl0 X110 (ent 161 (e161 c161) (ent 58 (e58 c58) (gnil))) ow [] Tryz.f110 k (I110 s) (E110 p0 s) (n+1)=T110 B c161 c58 p0 (fun s=>aloop tau B gl0 X110 (ent 161 (e161 c161) (ent 58 (e58 c58) (gnil))) ow [] Tryz.f110 k (I110 s) (E110 p0 s) n) (fun y=>k (.c (.bool y)) []) (some s)
 | .l0 v0_1 v0_2=>by kernel_rfl
 | .l1016 v1016_1 v1016_2 v1016_3 v1016_4 v1016_5 v1016_6 v1016_7 v1016_8 v1016_9 v1016_10 v1016_11=>by kernel_rfl
 | .l1018 v1018_1 v1018_2 v1018_3=>by kernel_rfl
theorem nt110 {R R':Type} (B:Ops) (c161:C161) (c58:C58) (p0:L150) (again:S110→Option R) (again':S110→Option R') (k0:(Bool)→Option R') (k:R'→Option R) (h:∀ s,again s=ob (again' s) k):∀ s,T110 B c161 c58 p0 again (fun y=>ob (k0 y) k) s=ob (T110 B c161 c58 p0 again' k0 s) k
 | none=>by unfold T110;repeat' first | exact rfl | exact h _ | apply qac | (apply qah;intro)
 | some (.l0 v0_1 v0_2)=>by unfold T110;repeat' first | exact rfl | exact h _ | apply qac | (apply qah;intro)
 | some (.l1016 v1016_1 v1016_2 v1016_3 v1016_4 v1016_5 v1016_6 v1016_7 v1016_8 v1016_9 v1016_10 v1016_11)=>by unfold T110;repeat' first | exact rfl | exact h _ | apply qac | (apply qah;intro)
 | some (.l1018 v1018_1 v1018_2 v1018_3)=>by unfold T110;repeat' first | exact rfl | exact h _ | apply qac | (apply qah;intro)
def R110 (c161:C161) (c58:C58) (p0:L150):Nat→S110→Option (Bool)
 | 0,_=>none
 | n+1,s=>T110 Ops.std c161 c58 p0 (R110 c161 c58 p0 n) some (some s)
theorem rr110 {R:Type} (c161:C161) (c58:C58) (p0:L150) (k:AV→Objs→Option R):∀ (n:Nat) (s:S110),aloop tau Ops.std gl0 X110 (ent 161 (e161 c161) (ent 58 (e58 c58) (gnil))) ow [] Tryz.f110 k (I110 s) (E110 p0 s) n=ob (R110 c161 c58 p0 n s) (fun y=>k (.c (.bool y)) [])
 | 0,s=>by cases s<;>rfl
 | n+1,s=>by rw [el110];exact nt110 Ops.std c161 c58 p0 _ _ some (fun y=>k (.c (.bool y)) []) (rr110 c161 c58 p0 k n) (some s)
def F110 (c161:C161) (c58:C58) (p0:L150):Option (Bool):=T110 Ops.std c161 c58 p0 (R110 c161 c58 p0 1000000) some none
theorem fo110 {R:Type} (c161:C161) (c58:C58) (p0:L150) (k:AV→Objs→Option R):afun tau Ops.std gl0 X110 (ent 161 (e161 c161) (ent 58 (e58 c58) (gnil))) ow Tryz.f110 [.c (.list 150 ty150 p0)] [] k 1000000=ob (F110 c161 c58 p0) (fun y=>k (.c (.bool y)) []):=by rw [eq110];exact nt110 Ops.std c161 c58 p0 _ _ some (fun y=>k (.c (.bool y)) []) (rr110 c161 c58 p0 k 1000000) none
def e110 {R:Type} (c:L150→Option (Bool)):Ent R:=fun args objs k=>
 oCons args fun a0 l0=>oC a0 fun x0=>cList 150 ty150 x0 fun p0=>oNil l0 <| oNilO objs <| ob (c p0) fun y=>k (.c (.bool y)) []
abbrev Sp110 (c:L150→Option (Bool)):Prop:=∀ (p0:L150) (y:Bool),c p0=some y→Spec Tryz.prog gl0 110 [.c (.list 150 ty150 p0)] [] (.c (.bool y)) []
theorem ek110 {R:Type} {c:L150→Option (Bool)} (hs:Sp110 c):EOk 110 (e110 (R:=R) c):=fun args objs k r h=>by
 unfold e110 at h
 obtain ⟨a0,l0,rfl,q1⟩:=qaa h
 obtain ⟨x0,rfl,q2⟩:=qaj q1
 obtain ⟨p0,rfl,q3⟩:=qae q2
 obtain ⟨rfl,q4⟩:=qag q3
 obtain ⟨rfl,q5⟩:=qaf q4
 exact qar (hs p0) q5
theorem sf110 {c161:C161} {c58:C58} (h161:Sp161 c161) (h58:Sp58 c58):Sp110 (F110 c161 c58):=fun p0 y hy=>by
 refine qap (G:=ent 161 (e161 c161) (ent 58 (e58 c58) (gnil))) (qai (ek161 h161) (qai (ek58 h58) (qao))) 1000000 (fn:=Tryz.f110) (by kernel_rfl) (by kernel_rfl) (X:=X110) (by kernel_rfl) ?_
 rw [fo110,hy]
 rfl
noncomputable def M110:L150→Option (Bool):=F110 M161 M58
theorem sm110:Sp110 M110:=sf110 sm161 sm58
def X180:Aux:=⟨[(2,([1,2]++rg 4 25))],[]⟩
inductive S180 where
 | l0 (v0_1:Int)
abbrev C110:Type:=L150→Option (Bool)
def T180 {R:Type} (B:Ops) (c58:C58) (c110:C110) (p0:L157) (again:S180→Option R) (k:(Bool)→Option R):Option S180→Option R | none=>again (.l0 0) | some (.l0 v0_1)=>cond (Ops.lt B v0_1 (Nat.cast (List.length p0))) (cond (Ops.inb B v0_1 (List.length p0)) (ob (c58 ((List.getD p0 (Int.toNat v0_1) (Ty.dflt ty157)).1)) fun y0=>cond (!y0) (k false) (cond (Ops.inb B v0_1 (List.length p0)) (ob (c110 ((List.getD p0 (Int.toNat v0_1) (Ty.dflt ty157)).2)) fun y1=>cond (!y1) (k false) (again (.l0 (IntKind.wrap .i64 (v0_1+1))))) (none))) (none)) (k (Ops.le B (Nat.cast (List.length p0)) (3)))
def E180 (p0:L157):S180→List AV×Objs
 | .l0 v0_1=>(mk 29 [(0,.c (.list 157 ty157 p0)),(3,.c (.int .i64 v0_1))],[])
def I180:S180→Nat
 | .l0 _=>0
theorem eq180 {R:Type} (B:Ops) (c58:C58) (c110:C110) (p0:L157) (k:AV→Objs→Option R) (n:Nat):afun tau B gl0 X180 (ent 58 (e58 c58) (ent 110 (e110 c110) (gnil))) ow Tryz.f180 [.c (.list 157 ty157 p0)] [] k n=T180 B c58 c110 p0 (fun s=>aloop tau B gl0 X180 (ent 58 (e58 c58) (ent 110 (e110 c110) (gnil))) ow [] Tryz.f180 k (I180 s) (E180 p0 s) n) (fun y=>k (.c (.bool y)) []) none:=by kernel_rfl
theorem el180 {R:Type} (B:Ops) (c58:C58) (c110:C110) (p0:L157) (k:AV→Objs→Option R) (n:Nat):∀ s,aloop tau B gl0 X180 (ent 58 (e58 c58) (ent 110 (e110 c110) (gnil))) ow [] Tryz.f180 k (I180 s) (E180 p0 s) (n+1)=T180 B c58 c110 p0 (fun s=>aloop tau B gl0 X180 (ent 58 (e58 c58) (ent 110 (e110 c110) (gnil))) ow [] Tryz.f180 k (I180 s) (E180 p0 s) n) (fun y=>k (.c (.bool y)) []) (some s)
 | .l0 v0_1=>by kernel_rfl
theorem nt180 {R R':Type} (B:Ops) (c58:C58) (c110:C110) (p0:L157) (again:S180→Option R) (again':S180→Option R') (k0:(Bool)→Option R') (k:R'→Option R) (h:∀ s,again s=ob (again' s) k):∀ s,T180 B c58 c110 p0 again (fun y=>ob (k0 y) k) s=ob (T180 B c58 c110 p0 again' k0 s) k
 | none=>by unfold T180;repeat' first | exact rfl | exact h _ | apply qac | (apply qah;intro)
 | some (.l0 v0_1)=>by unfold T180;repeat' first | exact rfl | exact h _ | apply qac | (apply qah;intro)
def R180 (c58:C58) (c110:C110) (p0:L157):Nat→S180→Option (Bool)
 | 0,_=>none
 | n+1,s=>T180 Ops.std c58 c110 p0 (R180 c58 c110 p0 n) some (some s)
theorem rr180 {R:Type} (c58:C58) (c110:C110) (p0:L157) (k:AV→Objs→Option R):∀ (n:Nat) (s:S180),aloop tau Ops.std gl0 X180 (ent 58 (e58 c58) (ent 110 (e110 c110) (gnil))) ow [] Tryz.f180 k (I180 s) (E180 p0 s) n=ob (R180 c58 c110 p0 n s) (fun y=>k (.c (.bool y)) [])
 | 0,s=>by cases s<;>rfl
 | n+1,s=>by rw [el180];exact nt180 Ops.std c58 c110 p0 _ _ some (fun y=>k (.c (.bool y)) []) (rr180 c58 c110 p0 k n) (some s)
def F180 (c58:C58) (c110:C110) (p0:L157):Option (Bool):=T180 Ops.std c58 c110 p0 (R180 c58 c110 p0 1000000) some none
theorem fo180 {R:Type} (c58:C58) (c110:C110) (p0:L157) (k:AV→Objs→Option R):afun tau Ops.std gl0 X180 (ent 58 (e58 c58) (ent 110 (e110 c110) (gnil))) ow Tryz.f180 [.c (.list 157 ty157 p0)] [] k 1000000=ob (F180 c58 c110 p0) (fun y=>k (.c (.bool y)) []):=by rw [eq180];exact nt180 Ops.std c58 c110 p0 _ _ some (fun y=>k (.c (.bool y)) []) (rr180 c58 c110 p0 k 1000000) none
def e180 {R:Type} (c:L157→Option (Bool)):Ent R:=fun args objs k=>
 oCons args fun a0 l0=>oC a0 fun x0=>cList 157 ty157 x0 fun p0=>oNil l0 <| oNilO objs <| ob (c p0) fun y=>k (.c (.bool y)) []
abbrev Sp180 (c:L157→Option (Bool)):Prop:=∀ (p0:L157) (y:Bool),c p0=some y→Spec Tryz.prog gl0 180 [.c (.list 157 ty157 p0)] [] (.c (.bool y)) []
theorem ek180 {R:Type} {c:L157→Option (Bool)} (hs:Sp180 c):EOk 180 (e180 (R:=R) c):=fun args objs k r h=>by
 unfold e180 at h
 obtain ⟨a0,l0,rfl,q1⟩:=qaa h
 obtain ⟨x0,rfl,q2⟩:=qaj q1
 obtain ⟨p0,rfl,q3⟩:=qae q2
 obtain ⟨rfl,q4⟩:=qag q3
 obtain ⟨rfl,q5⟩:=qaf q4
 exact qar (hs p0) q5
theorem sf180 {c58:C58} {c110:C110} (h58:Sp58 c58) (h110:Sp110 c110):Sp180 (F180 c58 c110):=fun p0 y hy=>by
 refine qap (G:=ent 58 (e58 c58) (ent 110 (e110 c110) (gnil))) (qai (ek58 h58) (qai (ek110 h110) (qao))) 1000000 (fn:=Tryz.f180) (by kernel_rfl) (by kernel_rfl) (X:=X180) (by kernel_rfl) ?_
 rw [fo180,hy]
 rfl
noncomputable def M180:L157→Option (Bool):=F180 M58 M110
theorem sm180:Sp180 M180:=sf180 sm58 sm110
def X179:Aux:=⟨[],[]⟩
def T179 {R:Type} (B:Ops) (p0:LB) (p1:Int) (p2:Int) (k:(LB)→Option R):Option R:=cond (Ops.lt B p1 p2) (cond (Ops.lim B (1+List.length p0) (1)) (cond (Ops.lim B (List.length (([40]:LB)++p0)+1) (1)) (k (([40]:LB)++p0++([41]:LB))) (none)) (none)) (k p0)
theorem eq179 {R:Type} (B:Ops) (p0:LB) (p1:Int) (p2:Int) (k:AV→Objs→Option R) (n:Nat):afun tau B gl0 X179 (gnil) ow Tryz.f179 [.agg [.str p0,.int .i64 p1],.c (.int .i64 p2)] [] k n=T179 B p0 p1 p2 (fun y=>k (.c (.str y)) []):=by kernel_rfl
theorem nt179 {R R':Type} (B:Ops) (p0:LB) (p1:Int) (p2:Int) (k0:(LB)→Option R') (k:R'→Option R):T179 B p0 p1 p2 (fun y=>ob (k0 y) k)=ob (T179 B p0 p1 p2 k0) k:=by
 unfold T179
 repeat' first | exact rfl | apply qac | (apply qah;intro)
def F179 (p0:LB) (p1:Int) (p2:Int):Option (LB):=T179 Ops.std p0 p1 p2 some
theorem fo179 {R:Type} (p0:LB) (p1:Int) (p2:Int) (k:AV→Objs→Option R) (n:Nat):afun tau Ops.std gl0 X179 (gnil) ow Tryz.f179 [.agg [.str p0,.int .i64 p1],.c (.int .i64 p2)] [] k n=ob (F179 p0 p1 p2) (fun y=>k (.c (.str y)) []):=by rw [eq179];exact nt179 Ops.std p0 p1 p2 some (fun y=>k (.c (.str y)) [])
def e179 {R:Type} (c:LB→Int→Int→Option (LB)):Ent R:=fun args objs k=>
 oCons args fun a0 l0=>oAgg a0 fun x0=>cCons x0 fun z0_0 w0_0=>cStr z0_0 fun p0=>cCons w0_0 fun z0_1 w0_1=>cInt .i64 z0_1 fun p1=>cNil w0_1 <| oCons l0 fun a1 l1=>oC a1 fun x1=>cInt .i64 x1 fun p2=>oNil l1 <| oNilO objs <| ob (c p0 p1 p2) fun y=>k (.c (.str y)) []
abbrev Sp179 (c:LB→Int→Int→Option (LB)):Prop:=∀ (p0:LB) (p1:Int) (p2:Int) (y:LB),c p0 p1 p2=some y→Spec Tryz.prog gl0 179 [.agg [.str p0,.int .i64 p1],.c (.int .i64 p2)] [] (.c (.str y)) []
theorem ek179 {R:Type} {c:LB→Int→Int→Option (LB)} (hs:Sp179 c):EOk 179 (e179 (R:=R) c):=fun args objs k r h=>by
 unfold e179 at h
 obtain ⟨a0,l0,rfl,q1⟩:=qaa h
 obtain ⟨x0,rfl,q2⟩:=qax q1
 obtain ⟨z0_0,w0_0,rfl,q3⟩:=qad q2
 obtain ⟨p0,rfl,q4⟩:=qav q3
 obtain ⟨z0_1,w0_1,rfl,q5⟩:=qad q4
 obtain ⟨p1,rfl,q6⟩:=qal q5
 obtain ⟨rfl,q7⟩:=qat q6
 obtain ⟨a1,l1,rfl,q8⟩:=qaa q7
 obtain ⟨x1,rfl,q9⟩:=qaj q8
 obtain ⟨p2,rfl,q10⟩:=qal q9
 obtain ⟨rfl,q11⟩:=qag q10
 obtain ⟨rfl,q12⟩:=qaf q11
 exact qar (hs p0 p1 p2) q12
theorem sf179:Sp179 (F179):=fun p0 p1 p2 y hy=>by
 refine qap (G:=gnil) (qao) 1000000 (fn:=Tryz.f179) (by kernel_rfl) (by kernel_rfl) (X:=X179) (by kernel_rfl) ?_
 rw [fo179,hy]
 rfl
noncomputable def M179:LB→Int→Int→Option (LB):=F179
theorem sm179:Sp179 M179:=sf179
def X145:Aux:=⟨[(6,([1,2]++rg 6 120))],[(31,.lin (rg 0 14)),(32,.lin [0,1,2,3,4,5,6,7]),(18,.lin ([0,1,2,3,4,5,7,8,9,10,12,13,14,15,16,17,18,6,11,19,20,21,22])),(19,.lin [0,1,2,3,4,5,6,7])]⟩
inductive S145 where
 | l0 (v0_1:Int) (v0_2:L210)
abbrev C179:Type:=LB→Int→Int→Option (LB)
def T145 {R:Type} (B:Ops) (c110:C110) (c178:C178) (c161:C161) (c151:C151) (c179:C179) (p0:L150) (again:S145→Option R) (k:(LB)→Option R):Option S145→Option R | none=>ob (c110 p0) fun y0=>cond (!y0) (k (mt UInt8)) (again (.l0 0 (mt (Ty.den ty176)))) | some (.l0 v0_1 v0_2)=>cond (Ops.lt B v0_1 (Nat.cast (List.length p0))) (cond (Ops.inb B v0_1 (List.length p0)) (ob (c178 ((List.getD p0 (Int.toNat v0_1) (Ty.dflt ty150)).1)) fun y0=>ob (c161 ((List.getD p0 (Int.toNat v0_1) (Ty.dflt ty150)).1)) fun y1=>cond (Ops.eq B y1 (0)) (cond (Ops.eq B ((List.getD p0 (Int.toNat v0_1) (Ty.dflt ty150)).1) (1)) (ob (c151 (((List.getD p0 (Int.toNat v0_1) (Ty.dflt ty150)).2).1)) fun y2=>cond (Ops.lim B (List.length v0_2+List.length ((y2,y0)::mt (Ty.den ty176))) (24)) (again (.l0 (IntKind.wrap .i64 (v0_1+1)) (v0_2++(y2,y0)::mt (Ty.den ty176)))) (none)) (cond (Ops.eq B ((List.getD p0 (Int.toNat v0_1) (Ty.dflt ty150)).1) (2)) (cond (Ops.lim B (List.length v0_2+List.length (((((List.getD p0 (Int.toNat v0_1) (Ty.dflt ty150)).2).2).1,y0)::mt (Ty.den ty176))) (24)) (again (.l0 (IntKind.wrap .i64 (v0_1+1)) (v0_2++((((List.getD p0 (Int.toNat v0_1) (Ty.dflt ty150)).2).2).1,y0)::mt (Ty.den ty176)))) (none)) (cond (Ops.lim B (List.length ((((List.getD p0 (Int.toNat v0_1) (Ty.dflt ty150)).2).2).1)+1) (1)) (cond (Ops.lim B (List.length ((((List.getD p0 (Int.toNat v0_1) (Ty.dflt ty150)).2).2).1++([64]:LB))+List.length ((((List.getD p0 (Int.toNat v0_1) (Ty.dflt ty150)).2).2).2)) (1)) (cond (Ops.lim B (List.length v0_2+List.length (((((List.getD p0 (Int.toNat v0_1) (Ty.dflt ty150)).2).2).1++([64]:LB)++(((List.getD p0 (Int.toNat v0_1) (Ty.dflt ty150)).2).2).2,y0)::mt (Ty.den ty176))) (24)) (again (.l0 (IntKind.wrap .i64 (v0_1+1)) (v0_2++((((List.getD p0 (Int.toNat v0_1) (Ty.dflt ty150)).2).2).1++([64]:LB)++(((List.getD p0 (Int.toNat v0_1) (Ty.dflt ty150)).2).2).2,y0)::mt (Ty.den ty176)))) (none)) (none)) (none)))) (cond (Ops.eq B y1 (1)) (cond (Ops.lt B (Nat.cast (List.length v0_2)) (1)) (k (mt UInt8)) (cond (Ops.inb B ((List.getD p0 (Int.toNat v0_1) (Ty.dflt ty150)).1) (17)) (cond (Ops.inb B (IntKind.wrap .i64 (Nat.cast (List.length v0_2)-1)) (List.length v0_2)) (ob (c179 ((List.getD v0_2 (Int.toNat (IntKind.wrap .i64 (Nat.cast (List.length v0_2)-1))) (Ty.dflt ty210)).1) ((List.getD v0_2 (Int.toNat (IntKind.wrap .i64 (Nat.cast (List.length v0_2)-1))) (Ty.dflt ty210)).2) y0) fun y2=>cond (Ops.lim B (List.length (List.getD ((mt UInt8)::(mt UInt8)::(mt UInt8)::(mt UInt8)::([33]:LB)::([45]:LB)::([42]:LB)::([43]:LB)::([45]:LB)::([60]:LB)::([60,61]:LB)::([62]:LB)::([62,61]:LB)::([61,61]:LB)::([33,61]:LB)::([38,38]:LB)::([124,124]:LB)::mt LB) (Int.toNat ((List.getD p0 (Int.toNat v0_1) (Ty.dflt ty150)).1)) (mt UInt8))+List.length y2) (1)) (cond (Ops.inb B (IntKind.wrap .i64 (Nat.cast (List.length v0_2)-1)) (List.length v0_2+1)) (cond (Ops.lim B (List.length (List.take (Int.toNat (IntKind.wrap .i64 (Nat.cast (List.length v0_2)-1))) v0_2)+List.length ((List.getD ((mt UInt8)::(mt UInt8)::(mt UInt8)::(mt UInt8)::([33]:LB)::([45]:LB)::([42]:LB)::([43]:LB)::([45]:LB)::([60]:LB)::([60,61]:LB)::([62]:LB)::([62,61]:LB)::([61,61]:LB)::([33,61]:LB)::([38,38]:LB)::([124,124]:LB)::mt LB) (Int.toNat ((List.getD p0 (Int.toNat v0_1) (Ty.dflt ty150)).1)) (mt UInt8)++y2,y0)::mt (Ty.den ty176))) (24)) (again (.l0 (IntKind.wrap .i64 (v0_1+1)) (List.take (Int.toNat (IntKind.wrap .i64 (Nat.cast (List.length v0_2)-1))) v0_2++(List.getD ((mt UInt8)::(mt UInt8)::(mt UInt8)::(mt UInt8)::([33]:LB)::([45]:LB)::([42]:LB)::([43]:LB)::([45]:LB)::([60]:LB)::([60,61]:LB)::([62]:LB)::([62,61]:LB)::([61,61]:LB)::([33,61]:LB)::([38,38]:LB)::([124,124]:LB)::mt LB) (Int.toNat ((List.getD p0 (Int.toNat v0_1) (Ty.dflt ty150)).1)) (mt UInt8)++y2,y0)::mt (Ty.den ty176)))) (none)) (none)) (none)) (none)) (none))) (cond (Ops.lt B (Nat.cast (List.length v0_2)) (2)) (k (mt UInt8)) (cond (Ops.eq B y0 (3)) (cond (Ops.inb B (IntKind.wrap .i64 (Nat.cast (List.length v0_2)-2)) (List.length v0_2)) (cond (Ops.inb B ((List.getD p0 (Int.toNat v0_1) (Ty.dflt ty150)).1) (17)) (cond (Ops.inb B (IntKind.wrap .i64 (Nat.cast (List.length v0_2)-1)) (List.length v0_2)) (ob (c179 ((List.getD v0_2 (Int.toNat (IntKind.wrap .i64 (Nat.cast (List.length v0_2)-2))) (Ty.dflt ty210)).1) ((List.getD v0_2 (Int.toNat (IntKind.wrap .i64 (Nat.cast (List.length v0_2)-2))) (Ty.dflt ty210)).2) (4)) fun y2=>cond (Ops.lim B (List.length y2+List.length (List.getD ((mt UInt8)::(mt UInt8)::(mt UInt8)::(mt UInt8)::([33]:LB)::([45]:LB)::([42]:LB)::([43]:LB)::([45]:LB)::([60]:LB)::([60,61]:LB)::([62]:LB)::([62,61]:LB)::([61,61]:LB)::([33,61]:LB)::([38,38]:LB)::([124,124]:LB)::mt LB) (Int.toNat ((List.getD p0 (Int.toNat v0_1) (Ty.dflt ty150)).1)) (mt UInt8))) (1)) (ob (c179 ((List.getD v0_2 (Int.toNat (IntKind.wrap .i64 (Nat.cast (List.length v0_2)-1))) (Ty.dflt ty210)).1) ((List.getD v0_2 (Int.toNat (IntKind.wrap .i64 (Nat.cast (List.length v0_2)-1))) (Ty.dflt ty210)).2) (IntKind.wrap .i64 (y0+1))) fun y3=>cond (Ops.lim B (List.length (y2++List.getD ((mt UInt8)::(mt UInt8)::(mt UInt8)::(mt UInt8)::([33]:LB)::([45]:LB)::([42]:LB)::([43]:LB)::([45]:LB)::([60]:LB)::([60,61]:LB)::([62]:LB)::([62,61]:LB)::([61,61]:LB)::([33,61]:LB)::([38,38]:LB)::([124,124]:LB)::mt LB) (Int.toNat ((List.getD p0 (Int.toNat v0_1) (Ty.dflt ty150)).1)) (mt UInt8))+List.length y3) (1)) (cond (Ops.inb B (IntKind.wrap .i64 (Nat.cast (List.length v0_2)-2)) (List.length v0_2+1)) (cond (Ops.lim B (List.length (List.take (Int.toNat (IntKind.wrap .i64 (Nat.cast (List.length v0_2)-2))) v0_2)+List.length ((y2++List.getD ((mt UInt8)::(mt UInt8)::(mt UInt8)::(mt UInt8)::([33]:LB)::([45]:LB)::([42]:LB)::([43]:LB)::([45]:LB)::([60]:LB)::([60,61]:LB)::([62]:LB)::([62,61]:LB)::([61,61]:LB)::([33,61]:LB)::([38,38]:LB)::([124,124]:LB)::mt LB) (Int.toNat ((List.getD p0 (Int.toNat v0_1) (Ty.dflt ty150)).1)) (mt UInt8)++y3,y0)::mt (Ty.den ty176))) (24)) (again (.l0 (IntKind.wrap .i64 (v0_1+1)) (List.take (Int.toNat (IntKind.wrap .i64 (Nat.cast (List.length v0_2)-2))) v0_2++(y2++List.getD ((mt UInt8)::(mt UInt8)::(mt UInt8)::(mt UInt8)::([33]:LB)::([45]:LB)::([42]:LB)::([43]:LB)::([45]:LB)::([60]:LB)::([60,61]:LB)::([62]:LB)::([62,61]:LB)::([61,61]:LB)::([33,61]:LB)::([38,38]:LB)::([124,124]:LB)::mt LB) (Int.toNat ((List.getD p0 (Int.toNat v0_1) (Ty.dflt ty150)).1)) (mt UInt8)++y3,y0)::mt (Ty.den ty176)))) (none)) (none)) (none)) (none)) (none)) (none)) (none)) (cond (Ops.inb B (IntKind.wrap .i64 (Nat.cast (List.length v0_2)-2)) (List.length v0_2)) (cond (Ops.inb B ((List.getD p0 (Int.toNat v0_1) (Ty.dflt ty150)).1) (17)) (cond (Ops.inb B (IntKind.wrap .i64 (Nat.cast (List.length v0_2)-1)) (List.length v0_2)) (ob (c179 ((List.getD v0_2 (Int.toNat (IntKind.wrap .i64 (Nat.cast (List.length v0_2)-2))) (Ty.dflt ty210)).1) ((List.getD v0_2 (Int.toNat (IntKind.wrap .i64 (Nat.cast (List.length v0_2)-2))) (Ty.dflt ty210)).2) y0) fun y2=>cond (Ops.lim B (List.length y2+List.length (List.getD ((mt UInt8)::(mt UInt8)::(mt UInt8)::(mt UInt8)::([33]:LB)::([45]:LB)::([42]:LB)::([43]:LB)::([45]:LB)::([60]:LB)::([60,61]:LB)::([62]:LB)::([62,61]:LB)::([61,61]:LB)::([33,61]:LB)::([38,38]:LB)::([124,124]:LB)::mt LB) (Int.toNat ((List.getD p0 (Int.toNat v0_1) (Ty.dflt ty150)).1)) (mt UInt8))) (1)) (ob (c179 ((List.getD v0_2 (Int.toNat (IntKind.wrap .i64 (Nat.cast (List.length v0_2)-1))) (Ty.dflt ty210)).1) ((List.getD v0_2 (Int.toNat (IntKind.wrap .i64 (Nat.cast (List.length v0_2)-1))) (Ty.dflt ty210)).2) (IntKind.wrap .i64 (y0+1))) fun y3=>cond (Ops.lim B (List.length (y2++List.getD ((mt UInt8)::(mt UInt8)::(mt UInt8)::(mt UInt8)::([33]:LB)::([45]:LB)::([42]:LB)::([43]:LB)::([45]:LB)::([60]:LB)::([60,61]:LB)::([62]:LB)::([62,61]:LB)::([61,61]:LB)::([33,61]:LB)::([38,38]:LB)::([124,124]:LB)::mt LB) (Int.toNat ((List.getD p0 (Int.toNat v0_1) (Ty.dflt ty150)).1)) (mt UInt8))+List.length y3) (1)) (cond (Ops.inb B (IntKind.wrap .i64 (Nat.cast (List.length v0_2)-2)) (List.length v0_2+1)) (cond (Ops.lim B (List.length (List.take (Int.toNat (IntKind.wrap .i64 (Nat.cast (List.length v0_2)-2))) v0_2)+List.length ((y2++List.getD ((mt UInt8)::(mt UInt8)::(mt UInt8)::(mt UInt8)::([33]:LB)::([45]:LB)::([42]:LB)::([43]:LB)::([45]:LB)::([60]:LB)::([60,61]:LB)::([62]:LB)::([62,61]:LB)::([61,61]:LB)::([33,61]:LB)::([38,38]:LB)::([124,124]:LB)::mt LB) (Int.toNat ((List.getD p0 (Int.toNat v0_1) (Ty.dflt ty150)).1)) (mt UInt8)++y3,y0)::mt (Ty.den ty176))) (24)) (again (.l0 (IntKind.wrap .i64 (v0_1+1)) (List.take (Int.toNat (IntKind.wrap .i64 (Nat.cast (List.length v0_2)-2))) v0_2++(y2++List.getD ((mt UInt8)::(mt UInt8)::(mt UInt8)::(mt UInt8)::([33]:LB)::([45]:LB)::([42]:LB)::([43]:LB)::([45]:LB)::([60]:LB)::([60,61]:LB)::([62]:LB)::([62,61]:LB)::([61,61]:LB)::([33,61]:LB)::([38,38]:LB)::([124,124]:LB)::mt LB) (Int.toNat ((List.getD p0 (Int.toNat v0_1) (Ty.dflt ty150)).1)) (mt UInt8)++y3,y0)::mt (Ty.den ty176)))) (none)) (none)) (none)) (none)) (none)) (none)) (none)))))) (none)) (cond (Ops.eq B (Nat.cast (List.length v0_2)) (0)) (k (mt UInt8)) (cond (Ops.inb B (0) (List.length v0_2)) (k ((List.getD v0_2 (Int.toNat (0)) (Ty.dflt ty210)).1)) (none)))
def E145 (p0:L150):S145→List AV×Objs
 | .l0 v0_1 v0_2=>(mk 126 [(0,.c (.list 150 ty150 p0)),(3,.c (.own 3)),(4,.c (.ptr 4 0)),(5,.c (.int .i64 v0_1))],[(3,.row 210 ty210 v0_2),(4,.box 208 [.str (mt UInt8),.str (mt UInt8),.str (mt UInt8),.str (mt UInt8),.str ([33]:LB),.str ([45]:LB),.str ([42]:LB),.str ([43]:LB),.str ([45]:LB),.str ([60]:LB),.str ([60,61]:LB),.str ([62]:LB),.str ([62,61]:LB),.str ([61,61]:LB),.str ([33,61]:LB),.str ([38,38]:LB),.str ([124,124]:LB)])])
def I145:S145→Nat
 | .l0 _ _=>0
theorem eq145 {R:Type} (B:Ops) (c110:C110) (c178:C178) (c161:C161) (c151:C151) (c179:C179) (p0:L150) (k:AV→Objs→Option R) (n:Nat):afun tau B gl0 X145 (ent 110 (e110 c110) (ent 178 (e178 c178) (ent 161 (e161 c161) (ent 151 (e151 c151) (ent 179 (e179 c179) (gnil)))))) ow Tryz.f145 [.c (.list 150 ty150 p0)] [] k n=T145 B c110 c178 c161 c151 c179 p0 (fun s=>aloop tau B gl0 X145 (ent 110 (e110 c110) (ent 178 (e178 c178) (ent 161 (e161 c161) (ent 151 (e151 c151) (ent 179 (e179 c179) (gnil)))))) ow [] Tryz.f145 k (I145 s) (E145 p0 s) n) (fun y=>k (.c (.str y)) []) none:=by kernel_rfl
theorem el145 {R:Type} (B:Ops) (c110:C110) (c178:C178) (c161:C161) (c151:C151) (c179:C179) (p0:L150) (k:AV→Objs→Option R) (n:Nat):∀ s,aloop tau B gl0 X145 (ent 110 (e110 c110) (ent 178 (e178 c178) (ent 161 (e161 c161) (ent 151 (e151 c151) (ent 179 (e179 c179) (gnil)))))) ow [] Tryz.f145 k (I145 s) (E145 p0 s) (n+1)=T145 B c110 c178 c161 c151 c179 p0 (fun s=>aloop tau B gl0 X145 (ent 110 (e110 c110) (ent 178 (e178 c178) (ent 161 (e161 c161) (ent 151 (e151 c151) (ent 179 (e179 c179) (gnil)))))) ow [] Tryz.f145 k (I145 s) (E145 p0 s) n) (fun y=>k (.c (.str y)) []) (some s)
 | .l0 v0_1 v0_2=>by kernel_rfl
theorem nt145 {R R':Type} (B:Ops) (c110:C110) (c178:C178) (c161:C161) (c151:C151) (c179:C179) (p0:L150) (again:S145→Option R) (again':S145→Option R') (k0:(LB)→Option R') (k:R'→Option R) (h:∀ s,again s=ob (again' s) k):∀ s,T145 B c110 c178 c161 c151 c179 p0 again (fun y=>ob (k0 y) k) s=ob (T145 B c110 c178 c161 c151 c179 p0 again' k0 s) k
 | none=>by unfold T145;repeat' first | exact rfl | exact h _ | apply qac | (apply qah;intro)
 | some (.l0 v0_1 v0_2)=>by unfold T145;repeat' first | exact rfl | exact h _ | apply qac | (apply qah;intro)
def R145 (c110:C110) (c178:C178) (c161:C161) (c151:C151) (c179:C179) (p0:L150):Nat→S145→Option (LB)
 | 0,_=>none
 | n+1,s=>T145 Ops.std c110 c178 c161 c151 c179 p0 (R145 c110 c178 c161 c151 c179 p0 n) some (some s)
theorem rr145 {R:Type} (c110:C110) (c178:C178) (c161:C161) (c151:C151) (c179:C179) (p0:L150) (k:AV→Objs→Option R):∀ (n:Nat) (s:S145),aloop tau Ops.std gl0 X145 (ent 110 (e110 c110) (ent 178 (e178 c178) (ent 161 (e161 c161) (ent 151 (e151 c151) (ent 179 (e179 c179) (gnil)))))) ow [] Tryz.f145 k (I145 s) (E145 p0 s) n=ob (R145 c110 c178 c161 c151 c179 p0 n s) (fun y=>k (.c (.str y)) [])
 | 0,s=>by cases s<;>rfl
 | n+1,s=>by rw [el145];exact nt145 Ops.std c110 c178 c161 c151 c179 p0 _ _ some (fun y=>k (.c (.str y)) []) (rr145 c110 c178 c161 c151 c179 p0 k n) (some s)
def F145 (c110:C110) (c178:C178) (c161:C161) (c151:C151) (c179:C179) (p0:L150):Option (LB):=T145 Ops.std c110 c178 c161 c151 c179 p0 (R145 c110 c178 c161 c151 c179 p0 1000000) some none
theorem fo145 {R:Type} (c110:C110) (c178:C178) (c161:C161) (c151:C151) (c179:C179) (p0:L150) (k:AV→Objs→Option R):afun tau Ops.std gl0 X145 (ent 110 (e110 c110) (ent 178 (e178 c178) (ent 161 (e161 c161) (ent 151 (e151 c151) (ent 179 (e179 c179) (gnil)))))) ow Tryz.f145 [.c (.list 150 ty150 p0)] [] k 1000000=ob (F145 c110 c178 c161 c151 c179 p0) (fun y=>k (.c (.str y)) []):=by rw [eq145];exact nt145 Ops.std c110 c178 c161 c151 c179 p0 _ _ some (fun y=>k (.c (.str y)) []) (rr145 c110 c178 c161 c151 c179 p0 k 1000000) none
def e145 {R:Type} (c:L150→Option (LB)):Ent R:=fun args objs k=>
 oCons args fun a0 l0=>oC a0 fun x0=>cList 150 ty150 x0 fun p0=>oNil l0 <| oNilO objs <| ob (c p0) fun y=>k (.c (.str y)) []
abbrev Sp145 (c:L150→Option (LB)):Prop:=∀ (p0:L150) (y:LB),c p0=some y→Spec Tryz.prog gl0 145 [.c (.list 150 ty150 p0)] [] (.c (.str y)) []
theorem ek145 {R:Type} {c:L150→Option (LB)} (hs:Sp145 c):EOk 145 (e145 (R:=R) c):=fun args objs k r h=>by
 unfold e145 at h
 obtain ⟨a0,l0,rfl,q1⟩:=qaa h
 obtain ⟨x0,rfl,q2⟩:=qaj q1
 obtain ⟨p0,rfl,q3⟩:=qae q2
 obtain ⟨rfl,q4⟩:=qag q3
 obtain ⟨rfl,q5⟩:=qaf q4
 exact qar (hs p0) q5
theorem sf145 {c110:C110} {c178:C178} {c161:C161} {c151:C151} {c179:C179} (h110:Sp110 c110) (h178:Sp178 c178) (h161:Sp161 c161) (h151:Sp151 c151) (h179:Sp179 c179):Sp145 (F145 c110 c178 c161 c151 c179):=fun p0 y hy=>by
 refine qap (G:=ent 110 (e110 c110) (ent 178 (e178 c178) (ent 161 (e161 c161) (ent 151 (e151 c151) (ent 179 (e179 c179) (gnil)))))) (qai (ek110 h110) (qai (ek178 h178) (qai (ek161 h161) (qai (ek151 h151) (qai (ek179 h179) (qao)))))) 1000000 (fn:=Tryz.f145) (by kernel_rfl) (by kernel_rfl) (X:=X145) (by kernel_rfl) ?_
 rw [fo145,hy]
 rfl
noncomputable def M145:L150→Option (LB):=F145 M110 M178 M161 M151 M179
theorem sm145:Sp145 M145:=sf145 sm110 sm178 sm161 sm151 sm179
def X181:Aux:=⟨[(3,([1,2]++rg 5 23))],[(5,.lin (rg 0 17))]⟩
inductive S181 where
 | l0 (v0_1:LB) (v0_2:Int)
abbrev C145:Type:=L150→Option (LB)
def T181 {R:Type} (B:Ops) (c145:C145) (p0:L157) (again:S181→Option R) (k:(LB)→Option R):Option S181→Option R | none=>again (.l0 (mt UInt8) 0) | some (.l0 v0_1 v0_2)=>cond (Ops.lt B v0_2 (Nat.cast (List.length p0))) (cond (Ops.lim B (List.length v0_1+3) (1)) (cond (Ops.inb B v0_2 (List.length p0)) (cond (Ops.lim B (List.length (v0_1++([32,59,32]:LB))+List.length ((List.getD p0 (Int.toNat v0_2) (Ty.dflt ty157)).1)) (1)) (cond (Ops.lim B (List.length (v0_1++([32,59,32]:LB)++(List.getD p0 (Int.toNat v0_2) (Ty.dflt ty157)).1)+3) (1)) (cond (Ops.inb B v0_2 (List.length p0)) (ob (c145 ((List.getD p0 (Int.toNat v0_2) (Ty.dflt ty157)).2)) fun y0=>cond (Ops.lim B (List.length (v0_1++([32,59,32]:LB)++(List.getD p0 (Int.toNat v0_2) (Ty.dflt ty157)).1++([32,61,32]:LB))+List.length y0) (1)) (again (.l0 (v0_1++([32,59,32]:LB)++(List.getD p0 (Int.toNat v0_2) (Ty.dflt ty157)).1++([32,61,32]:LB)++y0) (IntKind.wrap .i64 (v0_2+1)))) (none)) (none)) (none)) (none)) (none)) (none)) (k v0_1)
def E181 (p0:L157):S181→List AV×Objs
 | .l0 v0_1 v0_2=>(mk 28 [(0,.c (.list 157 ty157 p0)),(3,.c (.str v0_1)),(4,.c (.int .i64 v0_2))],[])
def I181:S181→Nat
 | .l0 _ _=>0
theorem eq181 {R:Type} (B:Ops) (c145:C145) (p0:L157) (k:AV→Objs→Option R) (n:Nat):afun tau B gl0 X181 (ent 145 (e145 c145) (gnil)) ow Tryz.f181 [.c (.list 157 ty157 p0)] [] k n=T181 B c145 p0 (fun s=>aloop tau B gl0 X181 (ent 145 (e145 c145) (gnil)) ow [] Tryz.f181 k (I181 s) (E181 p0 s) n) (fun y=>k (.c (.str y)) []) none:=by kernel_rfl
theorem el181 {R:Type} (B:Ops) (c145:C145) (p0:L157) (k:AV→Objs→Option R) (n:Nat):∀ s,aloop tau B gl0 X181 (ent 145 (e145 c145) (gnil)) ow [] Tryz.f181 k (I181 s) (E181 p0 s) (n+1)=T181 B c145 p0 (fun s=>aloop tau B gl0 X181 (ent 145 (e145 c145) (gnil)) ow [] Tryz.f181 k (I181 s) (E181 p0 s) n) (fun y=>k (.c (.str y)) []) (some s)
 | .l0 v0_1 v0_2=>by kernel_rfl
theorem nt181 {R R':Type} (B:Ops) (c145:C145) (p0:L157) (again:S181→Option R) (again':S181→Option R') (k0:(LB)→Option R') (k:R'→Option R) (h:∀ s,again s=ob (again' s) k):∀ s,T181 B c145 p0 again (fun y=>ob (k0 y) k) s=ob (T181 B c145 p0 again' k0 s) k
 | none=>by unfold T181;repeat' first | exact rfl | exact h _ | apply qac | (apply qah;intro)
 | some (.l0 v0_1 v0_2)=>by unfold T181;repeat' first | exact rfl | exact h _ | apply qac | (apply qah;intro)
def R181 (c145:C145) (p0:L157):Nat→S181→Option (LB)
 | 0,_=>none
 | n+1,s=>T181 Ops.std c145 p0 (R181 c145 p0 n) some (some s)
theorem rr181 {R:Type} (c145:C145) (p0:L157) (k:AV→Objs→Option R):∀ (n:Nat) (s:S181),aloop tau Ops.std gl0 X181 (ent 145 (e145 c145) (gnil)) ow [] Tryz.f181 k (I181 s) (E181 p0 s) n=ob (R181 c145 p0 n s) (fun y=>k (.c (.str y)) [])
 | 0,s=>by cases s<;>rfl
 | n+1,s=>by rw [el181];exact nt181 Ops.std c145 p0 _ _ some (fun y=>k (.c (.str y)) []) (rr181 c145 p0 k n) (some s)
def F181 (c145:C145) (p0:L157):Option (LB):=T181 Ops.std c145 p0 (R181 c145 p0 1000000) some none
theorem fo181 {R:Type} (c145:C145) (p0:L157) (k:AV→Objs→Option R):afun tau Ops.std gl0 X181 (ent 145 (e145 c145) (gnil)) ow Tryz.f181 [.c (.list 157 ty157 p0)] [] k 1000000=ob (F181 c145 p0) (fun y=>k (.c (.str y)) []):=by rw [eq181];exact nt181 Ops.std c145 p0 _ _ some (fun y=>k (.c (.str y)) []) (rr181 c145 p0 k 1000000) none
def e181 {R:Type} (c:L157→Option (LB)):Ent R:=fun args objs k=>
 oCons args fun a0 l0=>oC a0 fun x0=>cList 157 ty157 x0 fun p0=>oNil l0 <| oNilO objs <| ob (c p0) fun y=>k (.c (.str y)) []
abbrev Sp181 (c:L157→Option (LB)):Prop:=∀ (p0:L157) (y:LB),c p0=some y→Spec Tryz.prog gl0 181 [.c (.list 157 ty157 p0)] [] (.c (.str y)) []
theorem ek181 {R:Type} {c:L157→Option (LB)} (hs:Sp181 c):EOk 181 (e181 (R:=R) c):=fun args objs k r h=>by
 unfold e181 at h
 obtain ⟨a0,l0,rfl,q1⟩:=qaa h
 obtain ⟨x0,rfl,q2⟩:=qaj q1
 obtain ⟨p0,rfl,q3⟩:=qae q2
 obtain ⟨rfl,q4⟩:=qag q3
 obtain ⟨rfl,q5⟩:=qaf q4
 exact qar (hs p0) q5
theorem sf181 {c145:C145} (h145:Sp145 c145):Sp181 (F181 c145):=fun p0 y hy=>by
 refine qap (G:=ent 145 (e145 c145) (gnil)) (qai (ek145 h145) (qao)) 1000000 (fn:=Tryz.f181) (by kernel_rfl) (by kernel_rfl) (X:=X181) (by kernel_rfl) ?_
 rw [fo181,hy]
 rfl
noncomputable def M181:L157→Option (LB):=F181 M145
theorem sm181:Sp181 M181:=sf181 sm145
def X150:Aux:=⟨[],[(7,.lin ([0,1,4,5,8,9,12,13,16,19,20,23,24,2,3,6,7,10,11,14,15,17,18,21,22,25,26,27]))]⟩
abbrev C106:Type:=LB→Option (LB×Bool)
abbrev C107:Type:=Int→Option (Bool)
abbrev C180:Type:=L157→Option (Bool)
abbrev C181:Type:=L157→Option (LB)
def T150 {R:Type} (B:Ops) (c106:C106) (c107:C107) (c58:C58) (c110:C110) (c180:C180) (c151:C151) (c145:C145) (c181:C181) (p0:Int) (p1:LB) (p2:LB) (p3:LB) (p4:LB) (p5:L150) (p6:L157) (k:(LB)→Option R):Option R:=ob (c106 p4) fun y0=>ob (c107 p0) fun y1=>cond (!y1) (k (mt UInt8)) (cond (!y0.2) (k (mt UInt8)) (ob (c58 p1) fun y2=>cond (!y2) (k (mt UInt8)) (ob (c58 p2) fun y3=>cond (!y3) (k (mt UInt8)) (ob (c58 p3) fun y4=>cond (!y4) (k (mt UInt8)) (ob (c110 p5) fun y5=>cond (!y5) (k (mt UInt8)) (ob (c180 p6) fun y6=>cond (!y6) (k (mt UInt8)) (cond (p4 == mt UInt8) (ob (c151 p0) fun y7=>cond (Ops.lim B (List.length y7+1) (1)) (cond (Ops.lim B (List.length (y7++([32]:LB))+List.length p1) (1)) (cond (Ops.lim B (List.length (y7++([32]:LB)++p1)+1) (1)) (cond (Ops.lim B (List.length (y7++([32]:LB)++p1++([32]:LB))+List.length p2) (1)) (cond (Ops.lim B (List.length (y7++([32]:LB)++p1++([32]:LB)++p2)+1) (1)) (cond (Ops.lim B (List.length (y7++([32]:LB)++p1++([32]:LB)++p2++([32]:LB))+List.length p3) (1)) (cond (Ops.lim B (List.length (y7++([32]:LB)++p1++([32]:LB)++p2++([32]:LB)++p3)+1) (1)) (cond (Ops.lim B (List.length (y7++([32]:LB)++p1++([32]:LB)++p2++([32]:LB)++p3++([32]:LB))+1) (1)) (cond (Ops.lim B (List.length (y7++([32]:LB)++p1++([32]:LB)++p2++([32]:LB)++p3++([32]:LB)++([45]:LB))+1) (1)) (ob (c145 p5) fun y8=>cond (Ops.lim B (List.length (y7++([32]:LB)++p1++([32]:LB)++p2++([32]:LB)++p3++([32]:LB)++([45]:LB)++([32]:LB))+List.length y8) (1)) (ob (c181 p6) fun y9=>cond (Ops.lim B (List.length (y7++([32]:LB)++p1++([32]:LB)++p2++([32]:LB)++p3++([32]:LB)++([45]:LB)++([32]:LB)++y8)+List.length y9) (1)) (k (y7++([32]:LB)++p1++([32]:LB)++p2++([32]:LB)++p3++([32]:LB)++([45]:LB)++([32]:LB)++y8++y9)) (none)) (none)) (none)) (none)) (none)) (none)) (none)) (none)) (none)) (none)) (none)) (ob (c151 p0) fun y7=>cond (Ops.lim B (List.length y7+1) (1)) (cond (Ops.lim B (List.length (y7++([32]:LB))+List.length p1) (1)) (cond (Ops.lim B (List.length (y7++([32]:LB)++p1)+1) (1)) (cond (Ops.lim B (List.length (y7++([32]:LB)++p1++([32]:LB))+List.length p2) (1)) (cond (Ops.lim B (List.length (y7++([32]:LB)++p1++([32]:LB)++p2)+1) (1)) (cond (Ops.lim B (List.length (y7++([32]:LB)++p1++([32]:LB)++p2++([32]:LB))+List.length p3) (1)) (cond (Ops.lim B (List.length (y7++([32]:LB)++p1++([32]:LB)++p2++([32]:LB)++p3)+1) (1)) (cond (Ops.lim B (List.length (y7++([32]:LB)++p1++([32]:LB)++p2++([32]:LB)++p3++([32]:LB))+List.length p4) (1)) (cond (Ops.lim B (List.length (y7++([32]:LB)++p1++([32]:LB)++p2++([32]:LB)++p3++([32]:LB)++p4)+1) (1)) (ob (c145 p5) fun y8=>cond (Ops.lim B (List.length (y7++([32]:LB)++p1++([32]:LB)++p2++([32]:LB)++p3++([32]:LB)++p4++([32]:LB))+List.length y8) (1)) (ob (c181 p6) fun y9=>cond (Ops.lim B (List.length (y7++([32]:LB)++p1++([32]:LB)++p2++([32]:LB)++p3++([32]:LB)++p4++([32]:LB)++y8)+List.length y9) (1)) (k (y7++([32]:LB)++p1++([32]:LB)++p2++([32]:LB)++p3++([32]:LB)++p4++([32]:LB)++y8++y9)) (none)) (none)) (none)) (none)) (none)) (none)) (none)) (none)) (none)) (none)) (none)))))))))
theorem eq150 {R:Type} (B:Ops) (c106:C106) (c107:C107) (c58:C58) (c110:C110) (c180:C180) (c151:C151) (c145:C145) (c181:C181) (p0:Int) (p1:LB) (p2:LB) (p3:LB) (p4:LB) (p5:L150) (p6:L157) (k:AV→Objs→Option R) (n:Nat):afun tau B gl0 X150 (ent 106 (e106 c106) (ent 107 (e107 c107) (ent 58 (e58 c58) (ent 110 (e110 c110) (ent 180 (e180 c180) (ent 151 (e151 c151) (ent 145 (e145 c145) (ent 181 (e181 c181) (gnil))))))))) ow Tryz.f150 [.agg [.int .i64 p0,.str p1,.str p2,.str p3,.str p4,.list 150 ty150 p5,.list 157 ty157 p6]] [] k n=T150 B c106 c107 c58 c110 c180 c151 c145 c181 p0 p1 p2 p3 p4 p5 p6 (fun y=>k (.c (.str y)) []):=by kernel_rfl
theorem nt150 {R R':Type} (B:Ops) (c106:C106) (c107:C107) (c58:C58) (c110:C110) (c180:C180) (c151:C151) (c145:C145) (c181:C181) (p0:Int) (p1:LB) (p2:LB) (p3:LB) (p4:LB) (p5:L150) (p6:L157) (k0:(LB)→Option R') (k:R'→Option R):T150 B c106 c107 c58 c110 c180 c151 c145 c181 p0 p1 p2 p3 p4 p5 p6 (fun y=>ob (k0 y) k)=ob (T150 B c106 c107 c58 c110 c180 c151 c145 c181 p0 p1 p2 p3 p4 p5 p6 k0) k:=by
 unfold T150
 repeat' first | exact rfl | apply qac | (apply qah;intro)
def F150 (c106:C106) (c107:C107) (c58:C58) (c110:C110) (c180:C180) (c151:C151) (c145:C145) (c181:C181) (p0:Int) (p1:LB) (p2:LB) (p3:LB) (p4:LB) (p5:L150) (p6:L157):Option (LB):=T150 Ops.std c106 c107 c58 c110 c180 c151 c145 c181 p0 p1 p2 p3 p4 p5 p6 some
theorem fo150 {R:Type} (c106:C106) (c107:C107) (c58:C58) (c110:C110) (c180:C180) (c151:C151) (c145:C145) (c181:C181) (p0:Int) (p1:LB) (p2:LB) (p3:LB) (p4:LB) (p5:L150) (p6:L157) (k:AV→Objs→Option R) (n:Nat):afun tau Ops.std gl0 X150 (ent 106 (e106 c106) (ent 107 (e107 c107) (ent 58 (e58 c58) (ent 110 (e110 c110) (ent 180 (e180 c180) (ent 151 (e151 c151) (ent 145 (e145 c145) (ent 181 (e181 c181) (gnil))))))))) ow Tryz.f150 [.agg [.int .i64 p0,.str p1,.str p2,.str p3,.str p4,.list 150 ty150 p5,.list 157 ty157 p6]] [] k n=ob (F150 c106 c107 c58 c110 c180 c151 c145 c181 p0 p1 p2 p3 p4 p5 p6) (fun y=>k (.c (.str y)) []):=by rw [eq150];exact nt150 Ops.std c106 c107 c58 c110 c180 c151 c145 c181 p0 p1 p2 p3 p4 p5 p6 some (fun y=>k (.c (.str y)) [])
def e150 {R:Type} (c:Int→LB→LB→LB→LB→L150→L157→Option (LB)):Ent R:=fun args objs k=>
 oCons args fun a0 l0=>oAgg a0 fun x0=>cCons x0 fun z0_0 w0_0=>cInt .i64 z0_0 fun p0=>cCons w0_0 fun z0_1 w0_1=>cStr z0_1 fun p1=>cCons w0_1 fun z0_2 w0_2=>cStr z0_2 fun p2=>cCons w0_2 fun z0_3 w0_3=>cStr z0_3 fun p3=>cCons w0_3 fun z0_4 w0_4=>cStr z0_4 fun p4=>cCons w0_4 fun z0_5 w0_5=>cList 150 ty150 z0_5 fun p5=>cCons w0_5 fun z0_6 w0_6=>cList 157 ty157 z0_6 fun p6=>cNil w0_6 <| oNil l0 <| oNilO objs <| ob (c p0 p1 p2 p3 p4 p5 p6) fun y=>k (.c (.str y)) []
abbrev Sp150 (c:Int→LB→LB→LB→LB→L150→L157→Option (LB)):Prop:=∀ (p0:Int) (p1:LB) (p2:LB) (p3:LB) (p4:LB) (p5:L150) (p6:L157) (y:LB),c p0 p1 p2 p3 p4 p5 p6=some y→Spec Tryz.prog gl0 150 [.agg [.int .i64 p0,.str p1,.str p2,.str p3,.str p4,.list 150 ty150 p5,.list 157 ty157 p6]] [] (.c (.str y)) []
theorem ek150 {R:Type} {c:Int→LB→LB→LB→LB→L150→L157→Option (LB)} (hs:Sp150 c):EOk 150 (e150 (R:=R) c):=fun args objs k r h=>by
 unfold e150 at h
 obtain ⟨a0,l0,rfl,q1⟩:=qaa h
 obtain ⟨x0,rfl,q2⟩:=qax q1
 obtain ⟨z0_0,w0_0,rfl,q3⟩:=qad q2
 obtain ⟨p0,rfl,q4⟩:=qal q3
 obtain ⟨z0_1,w0_1,rfl,q5⟩:=qad q4
 obtain ⟨p1,rfl,q6⟩:=qav q5
 obtain ⟨z0_2,w0_2,rfl,q7⟩:=qad q6
 obtain ⟨p2,rfl,q8⟩:=qav q7
 obtain ⟨z0_3,w0_3,rfl,q9⟩:=qad q8
 obtain ⟨p3,rfl,q10⟩:=qav q9
 obtain ⟨z0_4,w0_4,rfl,q11⟩:=qad q10
 obtain ⟨p4,rfl,q12⟩:=qav q11
 obtain ⟨z0_5,w0_5,rfl,q13⟩:=qad q12
 obtain ⟨p5,rfl,q14⟩:=qae q13
 obtain ⟨z0_6,w0_6,rfl,q15⟩:=qad q14
 obtain ⟨p6,rfl,q16⟩:=qae q15
 obtain ⟨rfl,q17⟩:=qat q16
 obtain ⟨rfl,q18⟩:=qag q17
 obtain ⟨rfl,q19⟩:=qaf q18
 exact qar (hs p0 p1 p2 p3 p4 p5 p6) q19
theorem sf150 {c106:C106} {c107:C107} {c58:C58} {c110:C110} {c180:C180} {c151:C151} {c145:C145} {c181:C181} (h106:Sp106 c106) (h107:Sp107 c107) (h58:Sp58 c58) (h110:Sp110 c110) (h180:Sp180 c180) (h151:Sp151 c151) (h145:Sp145 c145) (h181:Sp181 c181):Sp150 (F150 c106 c107 c58 c110 c180 c151 c145 c181):=fun p0 p1 p2 p3 p4 p5 p6 y hy=>by
 refine qap (G:=ent 106 (e106 c106) (ent 107 (e107 c107) (ent 58 (e58 c58) (ent 110 (e110 c110) (ent 180 (e180 c180) (ent 151 (e151 c151) (ent 145 (e145 c145) (ent 181 (e181 c181) (gnil))))))))) (qai (ek106 h106) (qai (ek107 h107) (qai (ek58 h58) (qai (ek110 h110) (qai (ek180 h180) (qai (ek151 h151) (qai (ek145 h145) (qai (ek181 h181) (qao))))))))) 1000000 (fn:=Tryz.f150) (by kernel_rfl) (by kernel_rfl) (X:=X150) (by kernel_rfl) ?_
 rw [fo150,hy]
 rfl
noncomputable def M150:Int→LB→LB→LB→LB→L150→L157→Option (LB):=F150 M106 M107 M58 M110 M180 M151 M145 M181
theorem sm150:Sp150 M150:=sf150 sm106 sm107 sm58 sm110 sm180 sm151 sm145 sm181
def X59:Aux:=⟨[],[]⟩
def T59 {R:Type} (B:Ops) (p0:Int) (k:(Bool)→Option R):Option R:=cond (Ops.le B (-999) p0) (k (Ops.le B p0 (999))) (k false)
theorem eq59 {R:Type} (B:Ops) (p0:Int) (k:AV→Objs→Option R) (n:Nat):afun tau B gl0 X59 (gnil) ow Tryz.f59 [.c (.int .i64 p0)] [] k n=T59 B p0 (fun y=>k (.c (.bool y)) []):=by kernel_rfl
theorem nt59 {R R':Type} (B:Ops) (p0:Int) (k0:(Bool)→Option R') (k:R'→Option R):T59 B p0 (fun y=>ob (k0 y) k)=ob (T59 B p0 k0) k:=by
 unfold T59
 repeat' first | exact rfl | apply qac | (apply qah;intro)
def F59 (p0:Int):Option (Bool):=T59 Ops.std p0 some
theorem fo59 {R:Type} (p0:Int) (k:AV→Objs→Option R) (n:Nat):afun tau Ops.std gl0 X59 (gnil) ow Tryz.f59 [.c (.int .i64 p0)] [] k n=ob (F59 p0) (fun y=>k (.c (.bool y)) []):=by rw [eq59];exact nt59 Ops.std p0 some (fun y=>k (.c (.bool y)) [])
def e59 {R:Type} (c:Int→Option (Bool)):Ent R:=fun args objs k=>
 oCons args fun a0 l0=>oC a0 fun x0=>cInt .i64 x0 fun p0=>oNil l0 <| oNilO objs <| ob (c p0) fun y=>k (.c (.bool y)) []
abbrev Sp59 (c:Int→Option (Bool)):Prop:=∀ (p0:Int) (y:Bool),c p0=some y→Spec Tryz.prog gl0 59 [.c (.int .i64 p0)] [] (.c (.bool y)) []
theorem ek59 {R:Type} {c:Int→Option (Bool)} (hs:Sp59 c):EOk 59 (e59 (R:=R) c):=fun args objs k r h=>by
 unfold e59 at h
 obtain ⟨a0,l0,rfl,q1⟩:=qaa h
 obtain ⟨x0,rfl,q2⟩:=qaj q1
 obtain ⟨p0,rfl,q3⟩:=qal q2
 obtain ⟨rfl,q4⟩:=qag q3
 obtain ⟨rfl,q5⟩:=qaf q4
 exact qar (hs p0) q5
theorem sf59:Sp59 (F59):=fun p0 y hy=>by
 refine qap (G:=gnil) (qao) 1000000 (fn:=Tryz.f59) (by kernel_rfl) (by kernel_rfl) (X:=X59) (by kernel_rfl) ?_
 rw [fo59,hy]
 rfl
noncomputable def M59:Int→Option (Bool):=F59
theorem sm59:Sp59 M59:=sf59
def X60:Aux:=⟨[(2,([1,2]++rg 4 21)),(5,([1,2]++rg 5 20))],[(7,.lin [0,1,2,3,4,5,6,7,8])]⟩
inductive S60 where
 | l0 (v0_1:Int)
 | l1 (v1_1:Int) (v1_2:Int)
def T60 {R:Type} (B:Ops) (p0:L9) (again:S60→Option R) (k:(Bool)→Option R):Option S60→Option R | none=>again (.l0 0) | some (.l0 v0_1)=>cond (Ops.lt B v0_1 (Nat.cast (List.length p0))) (again (.l1 v0_1 0)) (k false) | some (.l1 v1_1 v1_2)=>cond (Ops.lt B v1_2 v1_1) (cond (Ops.inb B v1_1 (List.length p0)) (cond (Ops.inb B v1_2 (List.length p0)) (cond (List.getD p0 (Int.toNat v1_1) (Ty.dflt ty9) == List.getD p0 (Int.toNat v1_2) (Ty.dflt ty9)) (k true) (again (.l1 v1_1 (IntKind.wrap .i64 (v1_2+1))))) (none)) (none)) (again (.l0 (IntKind.wrap .i64 (v1_1+1))))
def E60 (p0:L9):S60→List AV×Objs
 | .l0 v0_1=>(mk 25 [(0,.c (.list 9 ty9 p0)),(3,.c (.int .i64 v0_1))],[])
 | .l1 v1_1 v1_2=>(mk 25 [(0,.c (.list 9 ty9 p0)),(3,.c (.int .i64 v1_1)),(4,.c (.int .i64 v1_2))],[])
def I60:S60→Nat
 | .l0 _=>0
 | .l1 _ _=>1
theorem eq60 {R:Type} (B:Ops) (p0:L9) (k:AV→Objs→Option R) (n:Nat):afun tau B gl0 X60 (gnil) ow Tryz.f60 [.c (.list 9 ty9 p0)] [] k n=T60 B p0 (fun s=>aloop tau B gl0 X60 (gnil) ow [] Tryz.f60 k (I60 s) (E60 p0 s) n) (fun y=>k (.c (.bool y)) []) none:=by kernel_rfl
theorem el60 {R:Type} (B:Ops) (p0:L9) (k:AV→Objs→Option R) (n:Nat):∀ s,aloop tau B gl0 X60 (gnil) ow [] Tryz.f60 k (I60 s) (E60 p0 s) (n+1)=T60 B p0 (fun s=>aloop tau B gl0 X60 (gnil) ow [] Tryz.f60 k (I60 s) (E60 p0 s) n) (fun y=>k (.c (.bool y)) []) (some s)
 | .l0 v0_1=>by kernel_rfl
 | .l1 v1_1 v1_2=>by kernel_rfl
theorem nt60 {R R':Type} (B:Ops) (p0:L9) (again:S60→Option R) (again':S60→Option R') (k0:(Bool)→Option R') (k:R'→Option R) (h:∀ s,again s=ob (again' s) k):∀ s,T60 B p0 again (fun y=>ob (k0 y) k) s=ob (T60 B p0 again' k0 s) k
 | none=>by unfold T60;repeat' first | exact rfl | exact h _ | apply qac | (apply qah;intro)
 | some (.l0 v0_1)=>by unfold T60;repeat' first | exact rfl | exact h _ | apply qac | (apply qah;intro)
 | some (.l1 v1_1 v1_2)=>by unfold T60;repeat' first | exact rfl | exact h _ | apply qac | (apply qah;intro)
def R60 (p0:L9):Nat→S60→Option (Bool)
 | 0,_=>none
 | n+1,s=>T60 Ops.std p0 (R60 p0 n) some (some s)
theorem rr60 {R:Type} (p0:L9) (k:AV→Objs→Option R):∀ (n:Nat) (s:S60),aloop tau Ops.std gl0 X60 (gnil) ow [] Tryz.f60 k (I60 s) (E60 p0 s) n=ob (R60 p0 n s) (fun y=>k (.c (.bool y)) [])
 | 0,s=>by cases s<;>rfl
 | n+1,s=>by rw [el60];exact nt60 Ops.std p0 _ _ some (fun y=>k (.c (.bool y)) []) (rr60 p0 k n) (some s)
def F60 (p0:L9):Option (Bool):=T60 Ops.std p0 (R60 p0 1000000) some none
theorem fo60 {R:Type} (p0:L9) (k:AV→Objs→Option R):afun tau Ops.std gl0 X60 (gnil) ow Tryz.f60 [.c (.list 9 ty9 p0)] [] k 1000000=ob (F60 p0) (fun y=>k (.c (.bool y)) []):=by rw [eq60];exact nt60 Ops.std p0 _ _ some (fun y=>k (.c (.bool y)) []) (rr60 p0 k 1000000) none
def e60 {R:Type} (c:L9→Option (Bool)):Ent R:=fun args objs k=>
 oCons args fun a0 l0=>oC a0 fun x0=>cList 9 ty9 x0 fun p0=>oNil l0 <| oNilO objs <| ob (c p0) fun y=>k (.c (.bool y)) []
abbrev Sp60 (c:L9→Option (Bool)):Prop:=∀ (p0:L9) (y:Bool),c p0=some y→Spec Tryz.prog gl0 60 [.c (.list 9 ty9 p0)] [] (.c (.bool y)) []
theorem ek60 {R:Type} {c:L9→Option (Bool)} (hs:Sp60 c):EOk 60 (e60 (R:=R) c):=fun args objs k r h=>by
 unfold e60 at h
 obtain ⟨a0,l0,rfl,q1⟩:=qaa h
 obtain ⟨x0,rfl,q2⟩:=qaj q1
 obtain ⟨p0,rfl,q3⟩:=qae q2
 obtain ⟨rfl,q4⟩:=qag q3
 obtain ⟨rfl,q5⟩:=qaf q4
 exact qar (hs p0) q5
theorem sf60:Sp60 (F60):=fun p0 y hy=>by
 refine qap (G:=gnil) (qao) 1000000 (fn:=Tryz.f60) (by kernel_rfl) (by kernel_rfl) (X:=X60) (by kernel_rfl) ?_
 rw [fo60,hy]
 rfl
noncomputable def M60:L9→Option (Bool):=F60
theorem sm60:Sp60 M60:=sf60
def X105:Aux:=⟨[(2,([0,3,4]++rg 6 16))],[]⟩
inductive S105 where
 | l0 (v0_1:Int)
def T105 {R:Type} (B:Ops) (p0:L94) (p1:L98) (p2:L103) (p3:LB) (again:S105→Option R) (k:(Int)→Option R):Option S105→Option R | none=>again (.l0 0) | some (.l0 v0_1)=>cond (Ops.lt B v0_1 (Nat.cast (List.length p1))) (cond (Ops.inb B v0_1 (List.length p1)) (cond ((List.getD p1 (Int.toNat v0_1) (Ty.dflt ty98)).1 == p3) (k v0_1) (again (.l0 (IntKind.wrap .i64 (v0_1+1))))) (none)) (k (-1))
def E105 (p0:L94) (p1:L98) (p2:L103) (p3:LB):S105→List AV×Objs
 | .l0 v0_1=>(mk 22 [(1,.c (.str p3)),(2,.c (.ptr 2 0)),(5,.c (.int .i64 v0_1))],[(2,.box 31 [.list 94 ty94 p0,.list 98 ty98 p1,.list 103 ty103 p2])])
def I105:S105→Nat
 | .l0 _=>0
theorem eq105 {R:Type} (B:Ops) (p0:L94) (p1:L98) (p2:L103) (p3:LB) (k:AV→Objs→Option R) (n:Nat):afun tau B gl0 X105 (gnil) ow Tryz.f105 [.agg [.list 94 ty94 p0,.list 98 ty98 p1,.list 103 ty103 p2],.c (.str p3)] [] k n=T105 B p0 p1 p2 p3 (fun s=>aloop tau B gl0 X105 (gnil) ow [] Tryz.f105 k (I105 s) (E105 p0 p1 p2 p3 s) n) (fun y=>k (.c (.int .i64 y)) []) none:=by kernel_rfl
theorem el105 {R:Type} (B:Ops) (p0:L94) (p1:L98) (p2:L103) (p3:LB) (k:AV→Objs→Option R) (n:Nat):∀ s,aloop tau B gl0 X105 (gnil) ow [] Tryz.f105 k (I105 s) (E105 p0 p1 p2 p3 s) (n+1)=T105 B p0 p1 p2 p3 (fun s=>aloop tau B gl0 X105 (gnil) ow [] Tryz.f105 k (I105 s) (E105 p0 p1 p2 p3 s) n) (fun y=>k (.c (.int .i64 y)) []) (some s)
 | .l0 v0_1=>by kernel_rfl
theorem nt105 {R R':Type} (B:Ops) (p0:L94) (p1:L98) (p2:L103) (p3:LB) (again:S105→Option R) (again':S105→Option R') (k0:(Int)→Option R') (k:R'→Option R) (h:∀ s,again s=ob (again' s) k):∀ s,T105 B p0 p1 p2 p3 again (fun y=>ob (k0 y) k) s=ob (T105 B p0 p1 p2 p3 again' k0 s) k
 | none=>by unfold T105;repeat' first | exact rfl | exact h _ | apply qac | (apply qah;intro)
 | some (.l0 v0_1)=>by unfold T105;repeat' first | exact rfl | exact h _ | apply qac | (apply qah;intro)
def R105 (p0:L94) (p1:L98) (p2:L103) (p3:LB):Nat→S105→Option (Int)
 | 0,_=>none
 | n+1,s=>T105 Ops.std p0 p1 p2 p3 (R105 p0 p1 p2 p3 n) some (some s)
theorem rr105 {R:Type} (p0:L94) (p1:L98) (p2:L103) (p3:LB) (k:AV→Objs→Option R):∀ (n:Nat) (s:S105),aloop tau Ops.std gl0 X105 (gnil) ow [] Tryz.f105 k (I105 s) (E105 p0 p1 p2 p3 s) n=ob (R105 p0 p1 p2 p3 n s) (fun y=>k (.c (.int .i64 y)) [])
 | 0,s=>by cases s<;>rfl
 | n+1,s=>by rw [el105];exact nt105 Ops.std p0 p1 p2 p3 _ _ some (fun y=>k (.c (.int .i64 y)) []) (rr105 p0 p1 p2 p3 k n) (some s)
def F105 (p0:L94) (p1:L98) (p2:L103) (p3:LB):Option (Int):=T105 Ops.std p0 p1 p2 p3 (R105 p0 p1 p2 p3 1000000) some none
theorem fo105 {R:Type} (p0:L94) (p1:L98) (p2:L103) (p3:LB) (k:AV→Objs→Option R):afun tau Ops.std gl0 X105 (gnil) ow Tryz.f105 [.agg [.list 94 ty94 p0,.list 98 ty98 p1,.list 103 ty103 p2],.c (.str p3)] [] k 1000000=ob (F105 p0 p1 p2 p3) (fun y=>k (.c (.int .i64 y)) []):=by rw [eq105];exact nt105 Ops.std p0 p1 p2 p3 _ _ some (fun y=>k (.c (.int .i64 y)) []) (rr105 p0 p1 p2 p3 k 1000000) none
def e105 {R:Type} (c:L94→L98→L103→LB→Option (Int)):Ent R:=fun args objs k=>
 oCons args fun a0 l0=>oAgg a0 fun x0=>cCons x0 fun z0_0 w0_0=>cList 94 ty94 z0_0 fun p0=>cCons w0_0 fun z0_1 w0_1=>cList 98 ty98 z0_1 fun p1=>cCons w0_1 fun z0_2 w0_2=>cList 103 ty103 z0_2 fun p2=>cNil w0_2 <| oCons l0 fun a1 l1=>oC a1 fun x1=>cStr x1 fun p3=>oNil l1 <| oNilO objs <| ob (c p0 p1 p2 p3) fun y=>k (.c (.int .i64 y)) []
abbrev Sp105 (c:L94→L98→L103→LB→Option (Int)):Prop:=∀ (p0:L94) (p1:L98) (p2:L103) (p3:LB) (y:Int),c p0 p1 p2 p3=some y→Spec Tryz.prog gl0 105 [.agg [.list 94 ty94 p0,.list 98 ty98 p1,.list 103 ty103 p2],.c (.str p3)] [] (.c (.int .i64 y)) []
theorem ek105 {R:Type} {c:L94→L98→L103→LB→Option (Int)} (hs:Sp105 c):EOk 105 (e105 (R:=R) c):=fun args objs k r h=>by
 unfold e105 at h
 obtain ⟨a0,l0,rfl,q1⟩:=qaa h
 obtain ⟨x0,rfl,q2⟩:=qax q1
 obtain ⟨z0_0,w0_0,rfl,q3⟩:=qad q2
 obtain ⟨p0,rfl,q4⟩:=qae q3
 obtain ⟨z0_1,w0_1,rfl,q5⟩:=qad q4
 obtain ⟨p1,rfl,q6⟩:=qae q5
 obtain ⟨z0_2,w0_2,rfl,q7⟩:=qad q6
 obtain ⟨p2,rfl,q8⟩:=qae q7
 obtain ⟨rfl,q9⟩:=qat q8
 obtain ⟨a1,l1,rfl,q10⟩:=qaa q9
 obtain ⟨x1,rfl,q11⟩:=qaj q10
 obtain ⟨p3,rfl,q12⟩:=qav q11
 obtain ⟨rfl,q13⟩:=qag q12
 obtain ⟨rfl,q14⟩:=qaf q13
 exact qar (hs p0 p1 p2 p3) q14
theorem sf105:Sp105 (F105):=fun p0 p1 p2 p3 y hy=>by
 refine qap (G:=gnil) (qao) 1000000 (fn:=Tryz.f105) (by kernel_rfl) (by kernel_rfl) (X:=X105) (by kernel_rfl) ?_
 rw [fo105,hy]
 rfl
noncomputable def M105:L94→L98→L103→LB→Option (Int):=F105
theorem sm105:Sp105 M105:=sf105
def X108:Aux:=⟨[(4,([0,4,5,6]++rg 8 25))],[]⟩
inductive S108 where
 | l0 (v0_2:Int)
def T108 {R:Type} (B:Ops) (p0:L94) (p1:L98) (p2:L103) (p3:Int) (p4:LB) (again:S108→Option R) (k:(Int)→Option R):Option S108→Option R | none=>cond (Ops.lt B p3 (0)) (k (-1)) (again (.l0 0)) | some (.l0 v0_2)=>cond (Ops.inb B p3 (List.length p1)) (cond (Ops.lt B v0_2 (Nat.cast (List.length ((List.getD p1 (Int.toNat p3) (Ty.dflt ty98)).2)))) (cond (Ops.inb B p3 (List.length p1)) (cond (Ops.inb B v0_2 (List.length ((List.getD p1 (Int.toNat p3) (Ty.dflt ty98)).2))) (cond (List.getD ((List.getD p1 (Int.toNat p3) (Ty.dflt ty98)).2) (Int.toNat v0_2) (Ty.dflt Ty.str) == p4) (k v0_2) (again (.l0 (IntKind.wrap .i64 (v0_2+1))))) (none)) (none)) (k (-1))) (none)
def E108 (p0:L94) (p1:L98) (p2:L103) (p3:Int) (p4:LB):S108→List AV×Objs
 | .l0 v0_2=>(mk 33 [(1,.c (.int .i64 p3)),(2,.c (.str p4)),(3,.c (.ptr 3 0)),(7,.c (.int .i64 v0_2))],[(3,.box 31 [.list 94 ty94 p0,.list 98 ty98 p1,.list 103 ty103 p2])])
def I108:S108→Nat
 | .l0 _=>0
theorem eq108 {R:Type} (B:Ops) (p0:L94) (p1:L98) (p2:L103) (p3:Int) (p4:LB) (k:AV→Objs→Option R) (n:Nat):afun tau B gl0 X108 (gnil) ow Tryz.f108 [.agg [.list 94 ty94 p0,.list 98 ty98 p1,.list 103 ty103 p2],.c (.int .i64 p3),.c (.str p4)] [] k n=T108 B p0 p1 p2 p3 p4 (fun s=>aloop tau B gl0 X108 (gnil) ow [] Tryz.f108 k (I108 s) (E108 p0 p1 p2 p3 p4 s) n) (fun y=>k (.c (.int .i64 y)) []) none:=by kernel_rfl
theorem el108 {R:Type} (B:Ops) (p0:L94) (p1:L98) (p2:L103) (p3:Int) (p4:LB) (k:AV→Objs→Option R) (n:Nat):∀ s,aloop tau B gl0 X108 (gnil) ow [] Tryz.f108 k (I108 s) (E108 p0 p1 p2 p3 p4 s) (n+1)=T108 B p0 p1 p2 p3 p4 (fun s=>aloop tau B gl0 X108 (gnil) ow [] Tryz.f108 k (I108 s) (E108 p0 p1 p2 p3 p4 s) n) (fun y=>k (.c (.int .i64 y)) []) (some s)
 | .l0 v0_2=>by kernel_rfl
theorem nt108 {R R':Type} (B:Ops) (p0:L94) (p1:L98) (p2:L103) (p3:Int) (p4:LB) (again:S108→Option R) (again':S108→Option R') (k0:(Int)→Option R') (k:R'→Option R) (h:∀ s,again s=ob (again' s) k):∀ s,T108 B p0 p1 p2 p3 p4 again (fun y=>ob (k0 y) k) s=ob (T108 B p0 p1 p2 p3 p4 again' k0 s) k
 | none=>by unfold T108;repeat' first | exact rfl | exact h _ | apply qac | (apply qah;intro)
 | some (.l0 v0_2)=>by unfold T108;repeat' first | exact rfl | exact h _ | apply qac | (apply qah;intro)
def R108 (p0:L94) (p1:L98) (p2:L103) (p3:Int) (p4:LB):Nat→S108→Option (Int)
 | 0,_=>none
 | n+1,s=>T108 Ops.std p0 p1 p2 p3 p4 (R108 p0 p1 p2 p3 p4 n) some (some s)
theorem rr108 {R:Type} (p0:L94) (p1:L98) (p2:L103) (p3:Int) (p4:LB) (k:AV→Objs→Option R):∀ (n:Nat) (s:S108),aloop tau Ops.std gl0 X108 (gnil) ow [] Tryz.f108 k (I108 s) (E108 p0 p1 p2 p3 p4 s) n=ob (R108 p0 p1 p2 p3 p4 n s) (fun y=>k (.c (.int .i64 y)) [])
 | 0,s=>by cases s<;>rfl
 | n+1,s=>by rw [el108];exact nt108 Ops.std p0 p1 p2 p3 p4 _ _ some (fun y=>k (.c (.int .i64 y)) []) (rr108 p0 p1 p2 p3 p4 k n) (some s)
def F108 (p0:L94) (p1:L98) (p2:L103) (p3:Int) (p4:LB):Option (Int):=T108 Ops.std p0 p1 p2 p3 p4 (R108 p0 p1 p2 p3 p4 1000000) some none
theorem fo108 {R:Type} (p0:L94) (p1:L98) (p2:L103) (p3:Int) (p4:LB) (k:AV→Objs→Option R):afun tau Ops.std gl0 X108 (gnil) ow Tryz.f108 [.agg [.list 94 ty94 p0,.list 98 ty98 p1,.list 103 ty103 p2],.c (.int .i64 p3),.c (.str p4)] [] k 1000000=ob (F108 p0 p1 p2 p3 p4) (fun y=>k (.c (.int .i64 y)) []):=by rw [eq108];exact nt108 Ops.std p0 p1 p2 p3 p4 _ _ some (fun y=>k (.c (.int .i64 y)) []) (rr108 p0 p1 p2 p3 p4 k 1000000) none
def e108 {R:Type} (c:L94→L98→L103→Int→LB→Option (Int)):Ent R:=fun args objs k=>
 oCons args fun a0 l0=>oAgg a0 fun x0=>cCons x0 fun z0_0 w0_0=>cList 94 ty94 z0_0 fun p0=>cCons w0_0 fun z0_1 w0_1=>cList 98 ty98 z0_1 fun p1=>cCons w0_1 fun z0_2 w0_2=>cList 103 ty103 z0_2 fun p2=>cNil w0_2 <| oCons l0 fun a1 l1=>oC a1 fun x1=>cInt .i64 x1 fun p3=>oCons l1 fun a2 l2=>oC a2 fun x2=>cStr x2 fun p4=>oNil l2 <| oNilO objs <| ob (c p0 p1 p2 p3 p4) fun y=>k (.c (.int .i64 y)) []
abbrev Sp108 (c:L94→L98→L103→Int→LB→Option (Int)):Prop:=∀ (p0:L94) (p1:L98) (p2:L103) (p3:Int) (p4:LB) (y:Int),c p0 p1 p2 p3 p4=some y→Spec Tryz.prog gl0 108 [.agg [.list 94 ty94 p0,.list 98 ty98 p1,.list 103 ty103 p2],.c (.int .i64 p3),.c (.str p4)] [] (.c (.int .i64 y)) []
theorem ek108 {R:Type} {c:L94→L98→L103→Int→LB→Option (Int)} (hs:Sp108 c):EOk 108 (e108 (R:=R) c):=fun args objs k r h=>by
 unfold e108 at h
 obtain ⟨a0,l0,rfl,q1⟩:=qaa h
 obtain ⟨x0,rfl,q2⟩:=qax q1
 obtain ⟨z0_0,w0_0,rfl,q3⟩:=qad q2
 obtain ⟨p0,rfl,q4⟩:=qae q3
 obtain ⟨z0_1,w0_1,rfl,q5⟩:=qad q4
 obtain ⟨p1,rfl,q6⟩:=qae q5
 obtain ⟨z0_2,w0_2,rfl,q7⟩:=qad q6
 obtain ⟨p2,rfl,q8⟩:=qae q7
 obtain ⟨rfl,q9⟩:=qat q8
 obtain ⟨a1,l1,rfl,q10⟩:=qaa q9
 obtain ⟨x1,rfl,q11⟩:=qaj q10
 obtain ⟨p3,rfl,q12⟩:=qal q11
 obtain ⟨a2,l2,rfl,q13⟩:=qaa q12
 obtain ⟨x2,rfl,q14⟩:=qaj q13
 obtain ⟨p4,rfl,q15⟩:=qav q14
 obtain ⟨rfl,q16⟩:=qag q15
 obtain ⟨rfl,q17⟩:=qaf q16
 exact qar (hs p0 p1 p2 p3 p4) q17
theorem sf108:Sp108 (F108):=fun p0 p1 p2 p3 p4 y hy=>by
 refine qap (G:=gnil) (qao) 1000000 (fn:=Tryz.f108) (by kernel_rfl) (by kernel_rfl) (X:=X108) (by kernel_rfl) ?_
 rw [fo108,hy]
 rfl
noncomputable def M108:L94→L98→L103→Int→LB→Option (Int):=F108
theorem sm108:Sp108 M108:=sf108
def X109:Aux:=⟨[(2,([0,3,4]++rg 6 16))],[]⟩
inductive S109 where
 | l0 (v0_1:Int)
def T109 {R:Type} (B:Ops) (p0:L94) (p1:L98) (p2:L103) (p3:LB) (again:S109→Option R) (k:(Int)→Option R):Option S109→Option R | none=>again (.l0 0) | some (.l0 v0_1)=>cond (Ops.lt B v0_1 (Nat.cast (List.length p0))) (cond (Ops.inb B v0_1 (List.length p0)) (cond ((List.getD p0 (Int.toNat v0_1) (Ty.dflt ty94)).1 == p3) (k v0_1) (again (.l0 (IntKind.wrap .i64 (v0_1+1))))) (none)) (k (-1))
def E109 (p0:L94) (p1:L98) (p2:L103) (p3:LB):S109→List AV×Objs
 | .l0 v0_1=>(mk 22 [(1,.c (.str p3)),(2,.c (.ptr 2 0)),(5,.c (.int .i64 v0_1))],[(2,.box 31 [.list 94 ty94 p0,.list 98 ty98 p1,.list 103 ty103 p2])])
def I109:S109→Nat
 | .l0 _=>0
theorem eq109 {R:Type} (B:Ops) (p0:L94) (p1:L98) (p2:L103) (p3:LB) (k:AV→Objs→Option R) (n:Nat):afun tau B gl0 X109 (gnil) ow Tryz.f109 [.agg [.list 94 ty94 p0,.list 98 ty98 p1,.list 103 ty103 p2],.c (.str p3)] [] k n=T109 B p0 p1 p2 p3 (fun s=>aloop tau B gl0 X109 (gnil) ow [] Tryz.f109 k (I109 s) (E109 p0 p1 p2 p3 s) n) (fun y=>k (.c (.int .i64 y)) []) none:=by kernel_rfl
theorem el109 {R:Type} (B:Ops) (p0:L94) (p1:L98) (p2:L103) (p3:LB) (k:AV→Objs→Option R) (n:Nat):∀ s,aloop tau B gl0 X109 (gnil) ow [] Tryz.f109 k (I109 s) (E109 p0 p1 p2 p3 s) (n+1)=T109 B p0 p1 p2 p3 (fun s=>aloop tau B gl0 X109 (gnil) ow [] Tryz.f109 k (I109 s) (E109 p0 p1 p2 p3 s) n) (fun y=>k (.c (.int .i64 y)) []) (some s)
 | .l0 v0_1=>by kernel_rfl
theorem nt109 {R R':Type} (B:Ops) (p0:L94) (p1:L98) (p2:L103) (p3:LB) (again:S109→Option R) (again':S109→Option R') (k0:(Int)→Option R') (k:R'→Option R) (h:∀ s,again s=ob (again' s) k):∀ s,T109 B p0 p1 p2 p3 again (fun y=>ob (k0 y) k) s=ob (T109 B p0 p1 p2 p3 again' k0 s) k
 | none=>by unfold T109;repeat' first | exact rfl | exact h _ | apply qac | (apply qah;intro)
 | some (.l0 v0_1)=>by unfold T109;repeat' first | exact rfl | exact h _ | apply qac | (apply qah;intro)
def R109 (p0:L94) (p1:L98) (p2:L103) (p3:LB):Nat→S109→Option (Int)
 | 0,_=>none
 | n+1,s=>T109 Ops.std p0 p1 p2 p3 (R109 p0 p1 p2 p3 n) some (some s)
theorem rr109 {R:Type} (p0:L94) (p1:L98) (p2:L103) (p3:LB) (k:AV→Objs→Option R):∀ (n:Nat) (s:S109),aloop tau Ops.std gl0 X109 (gnil) ow [] Tryz.f109 k (I109 s) (E109 p0 p1 p2 p3 s) n=ob (R109 p0 p1 p2 p3 n s) (fun y=>k (.c (.int .i64 y)) [])
 | 0,s=>by cases s<;>rfl
 | n+1,s=>by rw [el109];exact nt109 Ops.std p0 p1 p2 p3 _ _ some (fun y=>k (.c (.int .i64 y)) []) (rr109 p0 p1 p2 p3 k n) (some s)
def F109 (p0:L94) (p1:L98) (p2:L103) (p3:LB):Option (Int):=T109 Ops.std p0 p1 p2 p3 (R109 p0 p1 p2 p3 1000000) some none
theorem fo109 {R:Type} (p0:L94) (p1:L98) (p2:L103) (p3:LB) (k:AV→Objs→Option R):afun tau Ops.std gl0 X109 (gnil) ow Tryz.f109 [.agg [.list 94 ty94 p0,.list 98 ty98 p1,.list 103 ty103 p2],.c (.str p3)] [] k 1000000=ob (F109 p0 p1 p2 p3) (fun y=>k (.c (.int .i64 y)) []):=by rw [eq109];exact nt109 Ops.std p0 p1 p2 p3 _ _ some (fun y=>k (.c (.int .i64 y)) []) (rr109 p0 p1 p2 p3 k 1000000) none
def e109 {R:Type} (c:L94→L98→L103→LB→Option (Int)):Ent R:=fun args objs k=>
 oCons args fun a0 l0=>oAgg a0 fun x0=>cCons x0 fun z0_0 w0_0=>cList 94 ty94 z0_0 fun p0=>cCons w0_0 fun z0_1 w0_1=>cList 98 ty98 z0_1 fun p1=>cCons w0_1 fun z0_2 w0_2=>cList 103 ty103 z0_2 fun p2=>cNil w0_2 <| oCons l0 fun a1 l1=>oC a1 fun x1=>cStr x1 fun p3=>oNil l1 <| oNilO objs <| ob (c p0 p1 p2 p3) fun y=>k (.c (.int .i64 y)) []
abbrev Sp109 (c:L94→L98→L103→LB→Option (Int)):Prop:=∀ (p0:L94) (p1:L98) (p2:L103) (p3:LB) (y:Int),c p0 p1 p2 p3=some y→Spec Tryz.prog gl0 109 [.agg [.list 94 ty94 p0,.list 98 ty98 p1,.list 103 ty103 p2],.c (.str p3)] [] (.c (.int .i64 y)) []
theorem ek109 {R:Type} {c:L94→L98→L103→LB→Option (Int)} (hs:Sp109 c):EOk 109 (e109 (R:=R) c):=fun args objs k r h=>by
 unfold e109 at h
 obtain ⟨a0,l0,rfl,q1⟩:=qaa h
 obtain ⟨x0,rfl,q2⟩:=qax q1
 obtain ⟨z0_0,w0_0,rfl,q3⟩:=qad q2
 obtain ⟨p0,rfl,q4⟩:=qae q3
 obtain ⟨z0_1,w0_1,rfl,q5⟩:=qad q4
 obtain ⟨p1,rfl,q6⟩:=qae q5
 obtain ⟨z0_2,w0_2,rfl,q7⟩:=qad q6
 obtain ⟨p2,rfl,q8⟩:=qae q7
 obtain ⟨rfl,q9⟩:=qat q8
 obtain ⟨a1,l1,rfl,q10⟩:=qaa q9
 obtain ⟨x1,rfl,q11⟩:=qaj q10
 obtain ⟨p3,rfl,q12⟩:=qav q11
 obtain ⟨rfl,q13⟩:=qag q12
 obtain ⟨rfl,q14⟩:=qaf q13
 exact qar (hs p0 p1 p2 p3) q14
theorem sf109:Sp109 (F109):=fun p0 p1 p2 p3 y hy=>by
 refine qap (G:=gnil) (qao) 1000000 (fn:=Tryz.f109) (by kernel_rfl) (by kernel_rfl) (X:=X109) (by kernel_rfl) ?_
 rw [fo109,hy]
 rfl
noncomputable def M109:L94→L98→L103→LB→Option (Int):=F109
theorem sm109:Sp109 M109:=sf109
def X62:Aux:=⟨[(2,([0,3,4]++rg 6 49))],[(4,.lin (rg 0 31++[32,33,34,35,36,31,37,38,39,40]))]⟩
inductive S62 where
 | l0 (v0_1:Int)
abbrev C109:Type:=L94→L98→L103→LB→Option (Int)
abbrev C105:Type:=L94→L98→L103→LB→Option (Int)
abbrev C108:Type:=L94→L98→L103→Int→LB→Option (Int)
def T62 {R:Type} (B:Ops) (c109:C109) (c105:C105) (c108:C108) (c110:C110) (p0:L94) (p1:L98) (p2:L103) (p3:L150) (again:S62→Option R) (k:(Bool)→Option R):Option S62→Option R | none=>again (.l0 0) | some (.l0 v0_1)=>cond (Ops.lt B v0_1 (Nat.cast (List.length p3))) (cond (Ops.inb B v0_1 (List.length p3)) (cond (Ops.eq B ((List.getD p3 (Int.toNat v0_1) (Ty.dflt ty150)).1) (2)) (cond (Ops.inb B v0_1 (List.length p3)) (ob (c109 p0 p1 p2 ((((List.getD p3 (Int.toNat v0_1) (Ty.dflt ty150)).2).2).1)) fun y0=>cond (Ops.lt B y0 (0)) (k false) (cond (Ops.inb B v0_1 (List.length p3)) (cond (Ops.eq B ((List.getD p3 (Int.toNat v0_1) (Ty.dflt ty150)).1) (3)) (cond (Ops.inb B v0_1 (List.length p3)) (cond (Ops.inb B v0_1 (List.length p3)) (ob (c105 p0 p1 p2 ((((List.getD p3 (Int.toNat v0_1) (Ty.dflt ty150)).2).2).1)) fun y1=>ob (c108 p0 p1 p2 y1 ((((List.getD p3 (Int.toNat v0_1) (Ty.dflt ty150)).2).2).2)) fun y2=>cond (Ops.lt B y2 (0)) (k false) (again (.l0 (IntKind.wrap .i64 (v0_1+1))))) (none)) (none)) (again (.l0 (IntKind.wrap .i64 (v0_1+1))))) (none))) (none)) (cond (Ops.inb B v0_1 (List.length p3)) (cond (Ops.eq B ((List.getD p3 (Int.toNat v0_1) (Ty.dflt ty150)).1) (3)) (cond (Ops.inb B v0_1 (List.length p3)) (cond (Ops.inb B v0_1 (List.length p3)) (ob (c105 p0 p1 p2 ((((List.getD p3 (Int.toNat v0_1) (Ty.dflt ty150)).2).2).1)) fun y0=>ob (c108 p0 p1 p2 y0 ((((List.getD p3 (Int.toNat v0_1) (Ty.dflt ty150)).2).2).2)) fun y1=>cond (Ops.lt B y1 (0)) (k false) (again (.l0 (IntKind.wrap .i64 (v0_1+1))))) (none)) (none)) (again (.l0 (IntKind.wrap .i64 (v0_1+1))))) (none))) (none)) (ob (c110 p3) fun y0=>k y0)
def E62 (p0:L94) (p1:L98) (p2:L103) (p3:L150):S62→List AV×Objs
 | .l0 v0_1=>(mk 55 [(1,.c (.list 150 ty150 p3)),(2,.c (.ptr 2 0)),(5,.c (.int .i64 v0_1))],[(2,.box 31 [.list 94 ty94 p0,.list 98 ty98 p1,.list 103 ty103 p2])])
def I62:S62→Nat
 | .l0 _=>0
theorem eq62 {R:Type} (B:Ops) (c109:C109) (c105:C105) (c108:C108) (c110:C110) (p0:L94) (p1:L98) (p2:L103) (p3:L150) (k:AV→Objs→Option R) (n:Nat):afun tau B gl0 X62 (ent 109 (e109 c109) (ent 105 (e105 c105) (ent 108 (e108 c108) (ent 110 (e110 c110) (gnil))))) ow Tryz.f62 [.agg [.list 94 ty94 p0,.list 98 ty98 p1,.list 103 ty103 p2],.c (.list 150 ty150 p3)] [] k n=T62 B c109 c105 c108 c110 p0 p1 p2 p3 (fun s=>aloop tau B gl0 X62 (ent 109 (e109 c109) (ent 105 (e105 c105) (ent 108 (e108 c108) (ent 110 (e110 c110) (gnil))))) ow [] Tryz.f62 k (I62 s) (E62 p0 p1 p2 p3 s) n) (fun y=>k (.c (.bool y)) []) none:=by kernel_rfl
theorem el62 {R:Type} (B:Ops) (c109:C109) (c105:C105) (c108:C108) (c110:C110) (p0:L94) (p1:L98) (p2:L103) (p3:L150) (k:AV→Objs→Option R) (n:Nat):∀ s,aloop tau B gl0 X62 (ent 109 (e109 c109) (ent 105 (e105 c105) (ent 108 (e108 c108) (ent 110 (e110 c110) (gnil))))) ow [] Tryz.f62 k (I62 s) (E62 p0 p1 p2 p3 s) (n+1)=T62 B c109 c105 c108 c110 p0 p1 p2 p3 (fun s=>aloop tau B gl0 X62 (ent 109 (e109 c109) (ent 105 (e105 c105) (ent 108 (e108 c108) (ent 110 (e110 c110) (gnil))))) ow [] Tryz.f62 k (I62 s) (E62 p0 p1 p2 p3 s) n) (fun y=>k (.c (.bool y)) []) (some s)
 | .l0 v0_1=>by kernel_rfl
theorem nt62 {R R':Type} (B:Ops) (c109:C109) (c105:C105) (c108:C108) (c110:C110) (p0:L94) (p1:L98) (p2:L103) (p3:L150) (again:S62→Option R) (again':S62→Option R') (k0:(Bool)→Option R') (k:R'→Option R) (h:∀ s,again s=ob (again' s) k):∀ s,T62 B c109 c105 c108 c110 p0 p1 p2 p3 again (fun y=>ob (k0 y) k) s=ob (T62 B c109 c105 c108 c110 p0 p1 p2 p3 again' k0 s) k
 | none=>by unfold T62;repeat' first | exact rfl | exact h _ | apply qac | (apply qah;intro)
 | some (.l0 v0_1)=>by unfold T62;repeat' first | exact rfl | exact h _ | apply qac | (apply qah;intro)
def R62 (c109:C109) (c105:C105) (c108:C108) (c110:C110) (p0:L94) (p1:L98) (p2:L103) (p3:L150):Nat→S62→Option (Bool)
 | 0,_=>none
 | n+1,s=>T62 Ops.std c109 c105 c108 c110 p0 p1 p2 p3 (R62 c109 c105 c108 c110 p0 p1 p2 p3 n) some (some s)
theorem rr62 {R:Type} (c109:C109) (c105:C105) (c108:C108) (c110:C110) (p0:L94) (p1:L98) (p2:L103) (p3:L150) (k:AV→Objs→Option R):∀ (n:Nat) (s:S62),aloop tau Ops.std gl0 X62 (ent 109 (e109 c109) (ent 105 (e105 c105) (ent 108 (e108 c108) (ent 110 (e110 c110) (gnil))))) ow [] Tryz.f62 k (I62 s) (E62 p0 p1 p2 p3 s) n=ob (R62 c109 c105 c108 c110 p0 p1 p2 p3 n s) (fun y=>k (.c (.bool y)) [])
 | 0,s=>by cases s<;>rfl
 | n+1,s=>by rw [el62];exact nt62 Ops.std c109 c105 c108 c110 p0 p1 p2 p3 _ _ some (fun y=>k (.c (.bool y)) []) (rr62 c109 c105 c108 c110 p0 p1 p2 p3 k n) (some s)
def F62 (c109:C109) (c105:C105) (c108:C108) (c110:C110) (p0:L94) (p1:L98) (p2:L103) (p3:L150):Option (Bool):=T62 Ops.std c109 c105 c108 c110 p0 p1 p2 p3 (R62 c109 c105 c108 c110 p0 p1 p2 p3 1000000) some none
theorem fo62 {R:Type} (c109:C109) (c105:C105) (c108:C108) (c110:C110) (p0:L94) (p1:L98) (p2:L103) (p3:L150) (k:AV→Objs→Option R):afun tau Ops.std gl0 X62 (ent 109 (e109 c109) (ent 105 (e105 c105) (ent 108 (e108 c108) (ent 110 (e110 c110) (gnil))))) ow Tryz.f62 [.agg [.list 94 ty94 p0,.list 98 ty98 p1,.list 103 ty103 p2],.c (.list 150 ty150 p3)] [] k 1000000=ob (F62 c109 c105 c108 c110 p0 p1 p2 p3) (fun y=>k (.c (.bool y)) []):=by rw [eq62];exact nt62 Ops.std c109 c105 c108 c110 p0 p1 p2 p3 _ _ some (fun y=>k (.c (.bool y)) []) (rr62 c109 c105 c108 c110 p0 p1 p2 p3 k 1000000) none
def e62 {R:Type} (c:L94→L98→L103→L150→Option (Bool)):Ent R:=fun args objs k=>
 oCons args fun a0 l0=>oAgg a0 fun x0=>cCons x0 fun z0_0 w0_0=>cList 94 ty94 z0_0 fun p0=>cCons w0_0 fun z0_1 w0_1=>cList 98 ty98 z0_1 fun p1=>cCons w0_1 fun z0_2 w0_2=>cList 103 ty103 z0_2 fun p2=>cNil w0_2 <| oCons l0 fun a1 l1=>oC a1 fun x1=>cList 150 ty150 x1 fun p3=>oNil l1 <| oNilO objs <| ob (c p0 p1 p2 p3) fun y=>k (.c (.bool y)) []
abbrev Sp62 (c:L94→L98→L103→L150→Option (Bool)):Prop:=∀ (p0:L94) (p1:L98) (p2:L103) (p3:L150) (y:Bool),c p0 p1 p2 p3=some y→Spec Tryz.prog gl0 62 [.agg [.list 94 ty94 p0,.list 98 ty98 p1,.list 103 ty103 p2],.c (.list 150 ty150 p3)] [] (.c (.bool y)) []
theorem ek62 {R:Type} {c:L94→L98→L103→L150→Option (Bool)} (hs:Sp62 c):EOk 62 (e62 (R:=R) c):=fun args objs k r h=>by
 unfold e62 at h
 obtain ⟨a0,l0,rfl,q1⟩:=qaa h
 obtain ⟨x0,rfl,q2⟩:=qax q1
 obtain ⟨z0_0,w0_0,rfl,q3⟩:=qad q2
 obtain ⟨p0,rfl,q4⟩:=qae q3
 obtain ⟨z0_1,w0_1,rfl,q5⟩:=qad q4
 obtain ⟨p1,rfl,q6⟩:=qae q5
 obtain ⟨z0_2,w0_2,rfl,q7⟩:=qad q6
 obtain ⟨p2,rfl,q8⟩:=qae q7
 obtain ⟨rfl,q9⟩:=qat q8
 obtain ⟨a1,l1,rfl,q10⟩:=qaa q9
 obtain ⟨x1,rfl,q11⟩:=qaj q10
 obtain ⟨p3,rfl,q12⟩:=qae q11
 obtain ⟨rfl,q13⟩:=qag q12
 obtain ⟨rfl,q14⟩:=qaf q13
 exact qar (hs p0 p1 p2 p3) q14
theorem sf62 {c109:C109} {c105:C105} {c108:C108} {c110:C110} (h109:Sp109 c109) (h105:Sp105 c105) (h108:Sp108 c108) (h110:Sp110 c110):Sp62 (F62 c109 c105 c108 c110):=fun p0 p1 p2 p3 y hy=>by
 refine qap (G:=ent 109 (e109 c109) (ent 105 (e105 c105) (ent 108 (e108 c108) (ent 110 (e110 c110) (gnil))))) (qai (ek109 h109) (qai (ek105 h105) (qai (ek108 h108) (qai (ek110 h110) (qao))))) 1000000 (fn:=Tryz.f62) (by kernel_rfl) (by kernel_rfl) (X:=X62) (by kernel_rfl) ?_
 rw [fo62,hy]
 rfl
noncomputable def M62:L94→L98→L103→L150→Option (Bool):=F62 M109 M105 M108 M110
theorem sm62:Sp62 M62:=sf62 sm109 sm105 sm108 sm110
def X61:Aux:=⟨[(6,([0,1,4,5,6,7]++rg 9 74))],[(8,.lin (rg 0 20))]⟩
inductive S61 where
 | l0 (v0_0:Int)
abbrev C62:Type:=L94→L98→L103→L150→Option (Bool)
def T61 {R:Type} (B:Ops) (c105:C105) (c106:C106) (c107:C107) (c108:C108) (c62:C62) (c109:C109) (p0:L94) (p1:L98) (p2:L103) (p3:Int) (p4:LB) (p5:LB) (p6:LB) (p7:LB) (p8:L150) (p9:L157) (again:S61→Option R) (k:(Bool)→Option R):Option S61→Option R | none=>ob (c105 p0 p1 p2 p4) fun y0=>ob (c106 p7) fun y1=>ob (c107 p3) fun y2=>cond (!y2) (k false) (cond (!y1.2) (k false) (ob (c108 p0 p1 p2 y0 p5) fun y3=>cond (Ops.lt B y3 (0)) (k false) (ob (c108 p0 p1 p2 y0 p6) fun y4=>cond (Ops.lt B y4 (0)) (k false) (ob (c62 p0 p1 p2 p8) fun y5=>cond (!y5) (k false) (cond (Ops.lt B (3) (Nat.cast (List.length p9))) (k false) (again (.l0 0))))))) | some (.l0 v0_0)=>cond (Ops.lt B v0_0 (Nat.cast (List.length p9))) (cond (Ops.inb B v0_0 (List.length p9)) (ob (c109 p0 p1 p2 ((List.getD p9 (Int.toNat v0_0) (Ty.dflt ty157)).1)) fun y0=>cond (Ops.lt B y0 (0)) (k false) (cond (Ops.inb B v0_0 (List.length p9)) (ob (c62 p0 p1 p2 ((List.getD p9 (Int.toNat v0_0) (Ty.dflt ty157)).2)) fun y1=>cond (!y1) (k false) (again (.l0 (IntKind.wrap .i64 (v0_0+1))))) (none))) (none)) (k true)
def E61 (p0:L94) (p1:L98) (p2:L103) (p3:Int) (p4:LB) (p5:LB) (p6:LB) (p7:LB) (p8:L150) (p9:L157):S61→List AV×Objs
 | .l0 v0_0=>(mk 83 [(2,.c (.ptr 2 0)),(3,.c (.ptr 3 0)),(8,.c (.int .i64 v0_0))],[(2,.box 31 [.list 94 ty94 p0,.list 98 ty98 p1,.list 103 ty103 p2]),(3,.box 103 [.int .i64 p3,.str p4,.str p5,.str p6,.str p7,.list 150 ty150 p8,.list 157 ty157 p9])])
def I61:S61→Nat
 | .l0 _=>0
theorem eq61 {R:Type} (B:Ops) (c105:C105) (c106:C106) (c107:C107) (c108:C108) (c62:C62) (c109:C109) (p0:L94) (p1:L98) (p2:L103) (p3:Int) (p4:LB) (p5:LB) (p6:LB) (p7:LB) (p8:L150) (p9:L157) (k:AV→Objs→Option R) (n:Nat):afun tau B gl0 X61 (ent 105 (e105 c105) (ent 106 (e106 c106) (ent 107 (e107 c107) (ent 108 (e108 c108) (ent 62 (e62 c62) (ent 109 (e109 c109) (gnil))))))) ow Tryz.f61 [.agg [.list 94 ty94 p0,.list 98 ty98 p1,.list 103 ty103 p2],.agg [.int .i64 p3,.str p4,.str p5,.str p6,.str p7,.list 150 ty150 p8,.list 157 ty157 p9]] [] k n=T61 B c105 c106 c107 c108 c62 c109 p0 p1 p2 p3 p4 p5 p6 p7 p8 p9 (fun s=>aloop tau B gl0 X61 (ent 105 (e105 c105) (ent 106 (e106 c106) (ent 107 (e107 c107) (ent 108 (e108 c108) (ent 62 (e62 c62) (ent 109 (e109 c109) (gnil))))))) ow [] Tryz.f61 k (I61 s) (E61 p0 p1 p2 p3 p4 p5 p6 p7 p8 p9 s) n) (fun y=>k (.c (.bool y)) []) none:=by kernel_rfl
theorem el61 {R:Type} (B:Ops) (c105:C105) (c106:C106) (c107:C107) (c108:C108) (c62:C62) (c109:C109) (p0:L94) (p1:L98) (p2:L103) (p3:Int) (p4:LB) (p5:LB) (p6:LB) (p7:LB) (p8:L150) (p9:L157) (k:AV→Objs→Option R) (n:Nat):∀ s,aloop tau B gl0 X61 (ent 105 (e105 c105) (ent 106 (e106 c106) (ent 107 (e107 c107) (ent 108 (e108 c108) (ent 62 (e62 c62) (ent 109 (e109 c109) (gnil))))))) ow [] Tryz.f61 k (I61 s) (E61 p0 p1 p2 p3 p4 p5 p6 p7 p8 p9 s) (n+1)=T61 B c105 c106 c107 c108 c62 c109 p0 p1 p2 p3 p4 p5 p6 p7 p8 p9 (fun s=>aloop tau B gl0 X61 (ent 105 (e105 c105) (ent 106 (e106 c106) (ent 107 (e107 c107) (ent 108 (e108 c108) (ent 62 (e62 c62) (ent 109 (e109 c109) (gnil))))))) ow [] Tryz.f61 k (I61 s) (E61 p0 p1 p2 p3 p4 p5 p6 p7 p8 p9 s) n) (fun y=>k (.c (.bool y)) []) (some s)
 | .l0 v0_0=>by kernel_rfl
theorem nt61 {R R':Type} (B:Ops) (c105:C105) (c106:C106) (c107:C107) (c108:C108) (c62:C62) (c109:C109) (p0:L94) (p1:L98) (p2:L103) (p3:Int) (p4:LB) (p5:LB) (p6:LB) (p7:LB) (p8:L150) (p9:L157) (again:S61→Option R) (again':S61→Option R') (k0:(Bool)→Option R') (k:R'→Option R) (h:∀ s,again s=ob (again' s) k):∀ s,T61 B c105 c106 c107 c108 c62 c109 p0 p1 p2 p3 p4 p5 p6 p7 p8 p9 again (fun y=>ob (k0 y) k) s=ob (T61 B c105 c106 c107 c108 c62 c109 p0 p1 p2 p3 p4 p5 p6 p7 p8 p9 again' k0 s) k
 | none=>by unfold T61;repeat' first | exact rfl | exact h _ | apply qac | (apply qah;intro)
 | some (.l0 v0_0)=>by unfold T61;repeat' first | exact rfl | exact h _ | apply qac | (apply qah;intro)
def R61 (c105:C105) (c106:C106) (c107:C107) (c108:C108) (c62:C62) (c109:C109) (p0:L94) (p1:L98) (p2:L103) (p3:Int) (p4:LB) (p5:LB) (p6:LB) (p7:LB) (p8:L150) (p9:L157):Nat→S61→Option (Bool)
 | 0,_=>none
 | n+1,s=>T61 Ops.std c105 c106 c107 c108 c62 c109 p0 p1 p2 p3 p4 p5 p6 p7 p8 p9 (R61 c105 c106 c107 c108 c62 c109 p0 p1 p2 p3 p4 p5 p6 p7 p8 p9 n) some (some s)
theorem rr61 {R:Type} (c105:C105) (c106:C106) (c107:C107) (c108:C108) (c62:C62) (c109:C109) (p0:L94) (p1:L98) (p2:L103) (p3:Int) (p4:LB) (p5:LB) (p6:LB) (p7:LB) (p8:L150) (p9:L157) (k:AV→Objs→Option R):∀ (n:Nat) (s:S61),aloop tau Ops.std gl0 X61 (ent 105 (e105 c105) (ent 106 (e106 c106) (ent 107 (e107 c107) (ent 108 (e108 c108) (ent 62 (e62 c62) (ent 109 (e109 c109) (gnil))))))) ow [] Tryz.f61 k (I61 s) (E61 p0 p1 p2 p3 p4 p5 p6 p7 p8 p9 s) n=ob (R61 c105 c106 c107 c108 c62 c109 p0 p1 p2 p3 p4 p5 p6 p7 p8 p9 n s) (fun y=>k (.c (.bool y)) [])
 | 0,s=>by cases s<;>rfl
 | n+1,s=>by rw [el61];exact nt61 Ops.std c105 c106 c107 c108 c62 c109 p0 p1 p2 p3 p4 p5 p6 p7 p8 p9 _ _ some (fun y=>k (.c (.bool y)) []) (rr61 c105 c106 c107 c108 c62 c109 p0 p1 p2 p3 p4 p5 p6 p7 p8 p9 k n) (some s)
def F61 (c105:C105) (c106:C106) (c107:C107) (c108:C108) (c62:C62) (c109:C109) (p0:L94) (p1:L98) (p2:L103) (p3:Int) (p4:LB) (p5:LB) (p6:LB) (p7:LB) (p8:L150) (p9:L157):Option (Bool):=T61 Ops.std c105 c106 c107 c108 c62 c109 p0 p1 p2 p3 p4 p5 p6 p7 p8 p9 (R61 c105 c106 c107 c108 c62 c109 p0 p1 p2 p3 p4 p5 p6 p7 p8 p9 1000000) some none
theorem fo61 {R:Type} (c105:C105) (c106:C106) (c107:C107) (c108:C108) (c62:C62) (c109:C109) (p0:L94) (p1:L98) (p2:L103) (p3:Int) (p4:LB) (p5:LB) (p6:LB) (p7:LB) (p8:L150) (p9:L157) (k:AV→Objs→Option R):afun tau Ops.std gl0 X61 (ent 105 (e105 c105) (ent 106 (e106 c106) (ent 107 (e107 c107) (ent 108 (e108 c108) (ent 62 (e62 c62) (ent 109 (e109 c109) (gnil))))))) ow Tryz.f61 [.agg [.list 94 ty94 p0,.list 98 ty98 p1,.list 103 ty103 p2],.agg [.int .i64 p3,.str p4,.str p5,.str p6,.str p7,.list 150 ty150 p8,.list 157 ty157 p9]] [] k 1000000=ob (F61 c105 c106 c107 c108 c62 c109 p0 p1 p2 p3 p4 p5 p6 p7 p8 p9) (fun y=>k (.c (.bool y)) []):=by rw [eq61];exact nt61 Ops.std c105 c106 c107 c108 c62 c109 p0 p1 p2 p3 p4 p5 p6 p7 p8 p9 _ _ some (fun y=>k (.c (.bool y)) []) (rr61 c105 c106 c107 c108 c62 c109 p0 p1 p2 p3 p4 p5 p6 p7 p8 p9 k 1000000) none
def e61 {R:Type} (c:L94→L98→L103→Int→LB→LB→LB→LB→L150→L157→Option (Bool)):Ent R:=fun args objs k=>
 oCons args fun a0 l0=>oAgg a0 fun x0=>cCons x0 fun z0_0 w0_0=>cList 94 ty94 z0_0 fun p0=>cCons w0_0 fun z0_1 w0_1=>cList 98 ty98 z0_1 fun p1=>cCons w0_1 fun z0_2 w0_2=>cList 103 ty103 z0_2 fun p2=>cNil w0_2 <| oCons l0 fun a1 l1=>oAgg a1 fun x1=>cCons x1 fun z1_0 w1_0=>cInt .i64 z1_0 fun p3=>cCons w1_0 fun z1_1 w1_1=>cStr z1_1 fun p4=>cCons w1_1 fun z1_2 w1_2=>cStr z1_2 fun p5=>cCons w1_2 fun z1_3 w1_3=>cStr z1_3 fun p6=>cCons w1_3 fun z1_4 w1_4=>cStr z1_4 fun p7=>cCons w1_4 fun z1_5 w1_5=>cList 150 ty150 z1_5 fun p8=>cCons w1_5 fun z1_6 w1_6=>cList 157 ty157 z1_6 fun p9=>cNil w1_6 <| oNil l1 <| oNilO objs <| ob (c p0 p1 p2 p3 p4 p5 p6 p7 p8 p9) fun y=>k (.c (.bool y)) []
abbrev Sp61 (c:L94→L98→L103→Int→LB→LB→LB→LB→L150→L157→Option (Bool)):Prop:=∀ (p0:L94) (p1:L98) (p2:L103) (p3:Int) (p4:LB) (p5:LB) (p6:LB) (p7:LB) (p8:L150) (p9:L157) (y:Bool),c p0 p1 p2 p3 p4 p5 p6 p7 p8 p9=some y→Spec Tryz.prog gl0 61 [.agg [.list 94 ty94 p0,.list 98 ty98 p1,.list 103 ty103 p2],.agg [.int .i64 p3,.str p4,.str p5,.str p6,.str p7,.list 150 ty150 p8,.list 157 ty157 p9]] [] (.c (.bool y)) []
theorem ek61 {R:Type} {c:L94→L98→L103→Int→LB→LB→LB→LB→L150→L157→Option (Bool)} (hs:Sp61 c):EOk 61 (e61 (R:=R) c):=fun args objs k r h=>by
 unfold e61 at h
 obtain ⟨a0,l0,rfl,q1⟩:=qaa h
 obtain ⟨x0,rfl,q2⟩:=qax q1
 obtain ⟨z0_0,w0_0,rfl,q3⟩:=qad q2
 obtain ⟨p0,rfl,q4⟩:=qae q3
 obtain ⟨z0_1,w0_1,rfl,q5⟩:=qad q4
 obtain ⟨p1,rfl,q6⟩:=qae q5
 obtain ⟨z0_2,w0_2,rfl,q7⟩:=qad q6
 obtain ⟨p2,rfl,q8⟩:=qae q7
 obtain ⟨rfl,q9⟩:=qat q8
 obtain ⟨a1,l1,rfl,q10⟩:=qaa q9
 obtain ⟨x1,rfl,q11⟩:=qax q10
 obtain ⟨z1_0,w1_0,rfl,q12⟩:=qad q11
 obtain ⟨p3,rfl,q13⟩:=qal q12
 obtain ⟨z1_1,w1_1,rfl,q14⟩:=qad q13
 obtain ⟨p4,rfl,q15⟩:=qav q14
 obtain ⟨z1_2,w1_2,rfl,q16⟩:=qad q15
 obtain ⟨p5,rfl,q17⟩:=qav q16
 obtain ⟨z1_3,w1_3,rfl,q18⟩:=qad q17
 obtain ⟨p6,rfl,q19⟩:=qav q18
 obtain ⟨z1_4,w1_4,rfl,q20⟩:=qad q19
 obtain ⟨p7,rfl,q21⟩:=qav q20
 obtain ⟨z1_5,w1_5,rfl,q22⟩:=qad q21
 obtain ⟨p8,rfl,q23⟩:=qae q22
 obtain ⟨z1_6,w1_6,rfl,q24⟩:=qad q23
 obtain ⟨p9,rfl,q25⟩:=qae q24
 obtain ⟨rfl,q26⟩:=qat q25
 obtain ⟨rfl,q27⟩:=qag q26
 obtain ⟨rfl,q28⟩:=qaf q27
 exact qar (hs p0 p1 p2 p3 p4 p5 p6 p7 p8 p9) q28
theorem sf61 {c105:C105} {c106:C106} {c107:C107} {c108:C108} {c62:C62} {c109:C109} (h105:Sp105 c105) (h106:Sp106 c106) (h107:Sp107 c107) (h108:Sp108 c108) (h62:Sp62 c62) (h109:Sp109 c109):Sp61 (F61 c105 c106 c107 c108 c62 c109):=fun p0 p1 p2 p3 p4 p5 p6 p7 p8 p9 y hy=>by
 refine qap (G:=ent 105 (e105 c105) (ent 106 (e106 c106) (ent 107 (e107 c107) (ent 108 (e108 c108) (ent 62 (e62 c62) (ent 109 (e109 c109) (gnil))))))) (qai (ek105 h105) (qai (ek106 h106) (qai (ek107 h107) (qai (ek108 h108) (qai (ek62 h62) (qai (ek109 h109) (qao))))))) 1000000 (fn:=Tryz.f61) (by kernel_rfl) (by kernel_rfl) (X:=X61) (by kernel_rfl) ?_
 rw [fo61,hy]
 rfl
noncomputable def M61:L94→L98→L103→Int→LB→LB→LB→LB→L150→L157→Option (Bool):=F61 M105 M106 M107 M108 M62 M109
theorem sm61:Sp61 M61:=sf61 sm105 sm106 sm107 sm108 sm62 sm109
end Go.Proofs.YtccnmhdgghjgoaaGreatDoor.Av
