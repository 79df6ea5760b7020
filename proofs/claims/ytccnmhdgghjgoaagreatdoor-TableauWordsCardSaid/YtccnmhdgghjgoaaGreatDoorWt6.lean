/- Twins of functions,printed by gen.py. Conditions: none. -/
import Derived.Test.YtccnmhdgghjgoaaGreatDoorWt5
import Derived.KernelRfl
set_option linter.unusedSimpArgs false
set_option linter.unusedVariables false
set_option maxRecDepth 100000
set_option maxHeartbeats 8000000
namespace Go.Proofs.YtccnmhdgghjgoaaGreatDoor.Av
open Go
def X113:Aux:=⟨[],[]⟩
abbrev C111:Type:=Int→Option (Int)
abbrev C112:Type:=Bool→Option (Int)
def T113 {R:Type} (B:Ops) (c111:C111) (c112:C112) (p0:Int) (p1:Int) (p2:Int) (k:(Int)→Option R):Option R:=cond (B.eq p0 (6)) (ob (c111 (IntKind.wrap .i64 (p1*p2))) fun y0=>k y0) (cond (B.eq p0 (7)) (ob (c111 (IntKind.wrap .i64 (p1+p2))) fun y0=>k y0) (cond (B.eq p0 (8)) (ob (c111 (IntKind.wrap .i64 (p1-p2))) fun y0=>k y0) (cond (B.eq p0 (9)) (ob (c112 (B.lt p1 p2)) fun y0=>k y0) (cond (B.eq p0 (10)) (ob (c112 (B.le p1 p2)) fun y0=>k y0) (cond (B.eq p0 (11)) (ob (c112 (B.lt p2 p1)) fun y0=>k y0) (cond (B.eq p0 (12)) (ob (c112 (B.le p2 p1)) fun y0=>k y0) (cond (B.eq p0 (13)) (ob (c112 (B.eq p1 p2)) fun y0=>k y0) (cond (B.eq p0 (14)) (ob (c112 !B.eq p1 p2) fun y0=>k y0) (cond (B.eq p0 (15)) (cond (!B.eq p1 (0)) (ob (c112 !B.eq p2 (0)) fun y0=>k y0) (ob (c112 false) fun y0=>k y0)) (cond (!B.eq p1 (0)) (ob (c112 true) fun y0=>k y0) (ob (c112 !B.eq p2 (0)) fun y0=>k y0)))))))))))
theorem eq113 {R:Type} (B:Ops) (c111:C111) (c112:C112) (p0:Int) (p1:Int) (p2:Int) (k:AV→Objs→Option R) (n:Nat):afun tau B gl0 X113 (ent 111 (e111 c111) (ent 112 (e112 c112) gnil)) ow Tryz.f113 [.c (.int .i64 p0),.c (.int .i64 p1),.c (.int .i64 p2)] [] k n=T113 B c111 c112 p0 p1 p2 (K1 k):=by kernel_rfl
theorem nt113 {R R':Type} (B:Ops) (c111:C111) (c112:C112) (p0:Int) (p1:Int) (p2:Int) (k0:(Int)→Option R') (k:R'→Option R):T113 B c111 c112 p0 p1 p2 (fun y=>ob (k0 y) k)=ob (T113 B c111 c112 p0 p1 p2 k0) k:=by
 unfold T113
 repeat' first | exact rfl | apply qaf | (apply qao;intro)
def F113 (c111:C111) (c112:C112) (p0:Int) (p1:Int) (p2:Int):Option (Int):=T113 Ops.std c111 c112 p0 p1 p2 some
def e113 {R:Type} (c:Int→Int→Int→Option (Int)):Ent R:=fun args objs k=>
 oI args .i64 fun p0 l0=>oI l0 .i64 fun p1 l1=>oI l1 .i64 fun p2 l2=>oE l2 objs <| ob (c p0 p1 p2) (K1 k)
abbrev Sp113 (c:Int→Int→Int→Option (Int)):Prop:=∀ (p0:Int) (p1:Int) (p2:Int) (y:Int),c p0 p1 p2=some y→Spec Tryz.prog gl0 113 [.c (.int .i64 p0),.c (.int .i64 p1),.c (.int .i64 p2)] [] (.c (.int .i64 y)) []
theorem ek113 {R:Type} {c:Int→Int→Int→Option (Int)} (hs:Sp113 c):EOk 113 (e113 (R:=R) c):=fun args objs k r h=>by
 unfold e113 at h
 obtain ⟨p0,l0,rfl,q3⟩:=qau h
 obtain ⟨p1,l1,rfl,q6⟩:=qau q3
 obtain ⟨p2,l2,rfl,q9⟩:=qau q6
 obtain ⟨rfl,rfl,q11⟩:=qan q9
 exact qap (hs p0 p1 p2) q11
theorem sf113 {c111:C111} {c112:C112} (h111:Sp111 c111) (h112:Sp112 c112):Sp113 (F113 c111 c112):=fun p0 p1 p2 y hy=>by
 refine qak (qae (ek111 h111) (qae (ek112 h112) qaj)) 1000000 (fn:=Tryz.f113) (by kernel_rfl) (by kernel_rfl) (X:=X113) (by kernel_rfl) ?_
 rw [eq113]
 exact (nt113 Ops.std c111 c112 p0 p1 p2 some (K1 k0)).trans (by show ob (F113 c111 c112 p0 p1 p2) _=_;rw [hy];rfl)
noncomputable def M113:Int→Int→Int→Option (Int):=F113 M111 M112
theorem sm113:Sp113 M113:=sf113 sm111 sm112
def X64:Aux:=⟨[(5,([0,1,5,6]++rg 9 148))],[(16,.lin (rg 0 13)),(19,.lin (rg 0 16)),(23,.lin (rg 0 16)),(27,.lin (rg 0 16)),(12,.lin (rg 0 22))]⟩
inductive S64 where
 | l0 (v1:Int) (v7:L3)
abbrev C113:Type:=Int→Int→Int→Option (Int)
def T64 {R:Type} (B:Ops) (c62:C62) (c109:C109) (c111:C111) (c105:C105) (c108:C108) (c112:C112) (c113:C113) (p0:L94) (p1:L98) (p2:L103) (p3:L3) (p4:L3) (p5:L150) (again:S64→Option R) (k:(Int)→Option R):Option S64→Option R | none=>ob (c62 p0 p1 p2 p5) fun y0=>cond (!y0) (k 0) (cond (!B.eq (↑p3.length) (↑p1.length)) (k 0) (cond (!B.eq (↑p4.length) (↑p0.length)) (k 0) (again (.l0 0 (mt (Ty.den (Ty.int .i64))))))) | some (.l0 v1 v7)=>cond (B.lt v1 (↑p5.length)) (cond (B.inb v1 p5.length) (cond (B.eq ((p5.getD v1.toNat ty150.dflt).1) (1)) (cond (B.lim (List.length v7+List.length (((p5.getD v1.toNat ty150.dflt).2).1::mt (Ty.den (Ty.int .i64)))) (8)) (again (.l0 (IntKind.wrap .i64 (v1+1)) (v7++((p5.getD v1.toNat ty150.dflt).2).1::mt (Ty.den (Ty.int .i64))))) none) (cond (B.eq ((p5.getD v1.toNat ty150.dflt).1) (2)) (ob (c109 p0 p1 p2 ((((p5.getD v1.toNat ty150.dflt).2).2).1)) fun y0=>cond (B.inb y0 p4.length) (ob (c111 (p4.getD y0.toNat ty3.dflt)) fun y1=>cond (B.lim (List.length v7+List.length (y1::mt (Ty.den (Ty.int .i64)))) (8)) (again (.l0 (IntKind.wrap .i64 (v1+1)) (v7++y1::mt (Ty.den (Ty.int .i64))))) none) none) (cond (B.eq ((p5.getD v1.toNat ty150.dflt).1) (3)) (ob (c105 p0 p1 p2 ((((p5.getD v1.toNat ty150.dflt).2).2).1)) fun y0=>cond (B.inb y0 p3.length) (ob (c108 p0 p1 p2 y0 ((((p5.getD v1.toNat ty150.dflt).2).2).2)) fun y1=>ob (c112 (B.eq (p3.getD y0.toNat ty3.dflt) y1)) fun y2=>cond (B.lim (List.length v7+List.length (y2::mt (Ty.den (Ty.int .i64)))) (8)) (again (.l0 (IntKind.wrap .i64 (v1+1)) (v7++y2::mt (Ty.den (Ty.int .i64))))) none) none) (cond (B.eq ((p5.getD v1.toNat ty150.dflt).1) (4)) (cond (B.lt (↑v7.length) (1)) (k 0) (cond (B.eq (IntKind.wrap .i64 (Nat.cast v7.length-1)) (IntKind.wrap .i64 (Nat.cast v7.length-1))) (cond (B.inb (IntKind.wrap .i64 (Nat.cast v7.length-1)) (List.length v7+1)) (cond (B.inb (IntKind.wrap .i64 (Nat.cast v7.length-1)) v7.length) (ob (c112 (B.eq (v7.getD (Int.toNat (IntKind.wrap .i64 (Nat.cast v7.length-1))) ty3.dflt) (0))) fun y0=>cond (B.lt (0) (Nat.cast (List.length (y0::mt (Ty.den (Ty.int .i64)))))) (cond (B.lim (List.length (List.take (Int.toNat (IntKind.wrap .i64 (Nat.cast v7.length-1))) v7)+List.length (y0::mt (Ty.den (Ty.int .i64)))) (8)) (again (.l0 (IntKind.wrap .i64 (v1+1)) (List.take (Int.toNat (IntKind.wrap .i64 (Nat.cast v7.length-1))) v7++y0::mt (Ty.den (Ty.int .i64))))) none) none) none) none) none)) (cond (B.eq ((p5.getD v1.toNat ty150.dflt).1) (5)) (cond (B.lt (↑v7.length) (1)) (k 0) (cond (B.eq (IntKind.wrap .i64 (Nat.cast v7.length-1)) (IntKind.wrap .i64 (Nat.cast v7.length-1))) (cond (B.inb (IntKind.wrap .i64 (Nat.cast v7.length-1)) (List.length v7+1)) (cond (B.inb (IntKind.wrap .i64 (Nat.cast v7.length-1)) v7.length) (ob (c111 (IntKind.wrap .i64 (0-v7.getD (Int.toNat (IntKind.wrap .i64 (Nat.cast v7.length-1))) ty3.dflt))) fun y0=>cond (B.lt (0) (Nat.cast (List.length (y0::mt (Ty.den (Ty.int .i64)))))) (cond (B.lim (List.length (List.take (Int.toNat (IntKind.wrap .i64 (Nat.cast v7.length-1))) v7)+List.length (y0::mt (Ty.den (Ty.int .i64)))) (8)) (again (.l0 (IntKind.wrap .i64 (v1+1)) (List.take (Int.toNat (IntKind.wrap .i64 (Nat.cast v7.length-1))) v7++y0::mt (Ty.den (Ty.int .i64))))) none) none) none) none) none)) (cond (B.lt (↑v7.length) (2)) (k 0) (cond (B.eq (IntKind.wrap .i64 (Nat.cast v7.length-2)) (IntKind.wrap .i64 (Nat.cast v7.length-2))) (cond (B.inb (IntKind.wrap .i64 (Nat.cast v7.length-2)) (List.length v7+1)) (cond (B.inb (IntKind.wrap .i64 (Nat.cast v7.length-2)) v7.length) (cond (B.inb (IntKind.wrap .i64 (Nat.cast v7.length-1)) v7.length) (ob (c113 ((p5.getD v1.toNat ty150.dflt).1) (v7.getD (Int.toNat (IntKind.wrap .i64 (Nat.cast v7.length-2))) ty3.dflt) (v7.getD (Int.toNat (IntKind.wrap .i64 (Nat.cast v7.length-1))) ty3.dflt)) fun y0=>cond (B.lt (0) (Nat.cast (List.length (y0::mt (Ty.den (Ty.int .i64)))))) (cond (B.lim (List.length (List.take (Int.toNat (IntKind.wrap .i64 (Nat.cast v7.length-2))) v7)+List.length (y0::mt (Ty.den (Ty.int .i64)))) (8)) (again (.l0 (IntKind.wrap .i64 (v1+1)) (List.take (Int.toNat (IntKind.wrap .i64 (Nat.cast v7.length-2))) v7++y0::mt (Ty.den (Ty.int .i64))))) none) none) none) none) none) none))))))) none) (cond (B.eq (↑v7.length) (0)) (k 0) (cond (B.inb (0) v7.length) (k (v7.getD (Int.toNat (0)) ty3.dflt)) none))
def E64 (p0:L94) (p1:L98) (p2:L103) (p3:L3) (p4:L3) (p5:L150):S64→List AV×Objs
 | .l0 v1 v7=>(mk 157 [(2,.c (.list 150 ty150 p5)),(3,.c (.ptr 3 0)),(4,.c (.ptr 4 0)),(7,.c (.own 7)),(8,.c (.int .i64 v1))],[(3,.box 31 [.list 94 ty94 p0,.list 98 ty98 p1,.list 103 ty103 p2]),(4,.box 57 [.list 3 ty3 p3,.list 3 ty3 p4]),(7,.row 3 ty3 v7)])
def I64:S64→Nat
 | .l0 _ _=>0
theorem eq64 {R:Type} (B:Ops) (c62:C62) (c109:C109) (c111:C111) (c105:C105) (c108:C108) (c112:C112) (c113:C113) (p0:L94) (p1:L98) (p2:L103) (p3:L3) (p4:L3) (p5:L150) (k:AV→Objs→Option R) (n:Nat):afun tau B gl0 X64 (ent 62 (e62 c62) (ent 109 (e109 c109) (ent 111 (e111 c111) (ent 105 (e105 c105) (ent 108 (e108 c108) (ent 112 (e112 c112) (ent 113 (e113 c113) gnil))))))) ow Tryz.f64 [.agg [.list 94 ty94 p0,.list 98 ty98 p1,.list 103 ty103 p2],.agg [.list 3 ty3 p3,.list 3 ty3 p4],.c (.list 150 ty150 p5)] [] k n=T64 B c62 c109 c111 c105 c108 c112 c113 p0 p1 p2 p3 p4 p5 (fun s=>aloop tau B gl0 X64 (ent 62 (e62 c62) (ent 109 (e109 c109) (ent 111 (e111 c111) (ent 105 (e105 c105) (ent 108 (e108 c108) (ent 112 (e112 c112) (ent 113 (e113 c113) gnil))))))) ow [] Tryz.f64 k (I64 s) (E64 p0 p1 p2 p3 p4 p5 s) n) (K1 k) none:=by kernel_rfl
theorem el64 {R:Type} (B:Ops) (c62:C62) (c109:C109) (c111:C111) (c105:C105) (c108:C108) (c112:C112) (c113:C113) (p0:L94) (p1:L98) (p2:L103) (p3:L3) (p4:L3) (p5:L150) (k:AV→Objs→Option R) (n:Nat):∀ s,aloop tau B gl0 X64 (ent 62 (e62 c62) (ent 109 (e109 c109) (ent 111 (e111 c111) (ent 105 (e105 c105) (ent 108 (e108 c108) (ent 112 (e112 c112) (ent 113 (e113 c113) gnil))))))) ow [] Tryz.f64 k (I64 s) (E64 p0 p1 p2 p3 p4 p5 s) (n+1)=T64 B c62 c109 c111 c105 c108 c112 c113 p0 p1 p2 p3 p4 p5 (fun s=>aloop tau B gl0 X64 (ent 62 (e62 c62) (ent 109 (e109 c109) (ent 111 (e111 c111) (ent 105 (e105 c105) (ent 108 (e108 c108) (ent 112 (e112 c112) (ent 113 (e113 c113) gnil))))))) ow [] Tryz.f64 k (I64 s) (E64 p0 p1 p2 p3 p4 p5 s) n) (K1 k) (some s):=by
 intro s
 cases s<;>kernel_rfl
theorem nt64 {R R':Type} (B:Ops) (c62:C62) (c109:C109) (c111:C111) (c105:C105) (c108:C108) (c112:C112) (c113:C113) (p0:L94) (p1:L98) (p2:L103) (p3:L3) (p4:L3) (p5:L150) (again:S64→Option R) (again':S64→Option R') (k0:(Int)→Option R') (k:R'→Option R) (h:∀ s,again s=ob (again' s) k):∀ s,T64 B c62 c109 c111 c105 c108 c112 c113 p0 p1 p2 p3 p4 p5 again (fun y=>ob (k0 y) k) s=ob (T64 B c62 c109 c111 c105 c108 c112 c113 p0 p1 p2 p3 p4 p5 again' k0 s) k:=by
 rintro (_ | x)
 all_goals try cases x
 all_goals (unfold T64;repeat' first | exact rfl | exact h _ | apply qaf | (apply qao;intro))
def R64 (c62:C62) (c109:C109) (c111:C111) (c105:C105) (c108:C108) (c112:C112) (c113:C113) (p0:L94) (p1:L98) (p2:L103) (p3:L3) (p4:L3) (p5:L150):Nat→S64→Option (Int)
 | 0,_=>none
 | n+1,s=>T64 Ops.std c62 c109 c111 c105 c108 c112 c113 p0 p1 p2 p3 p4 p5 (R64 c62 c109 c111 c105 c108 c112 c113 p0 p1 p2 p3 p4 p5 n) some (some s)
theorem rr64 {R:Type} (c62:C62) (c109:C109) (c111:C111) (c105:C105) (c108:C108) (c112:C112) (c113:C113) (p0:L94) (p1:L98) (p2:L103) (p3:L3) (p4:L3) (p5:L150) (k:AV→Objs→Option R):∀ (n:Nat) (s:S64),aloop tau Ops.std gl0 X64 (ent 62 (e62 c62) (ent 109 (e109 c109) (ent 111 (e111 c111) (ent 105 (e105 c105) (ent 108 (e108 c108) (ent 112 (e112 c112) (ent 113 (e113 c113) gnil))))))) ow [] Tryz.f64 k (I64 s) (E64 p0 p1 p2 p3 p4 p5 s) n=ob (R64 c62 c109 c111 c105 c108 c112 c113 p0 p1 p2 p3 p4 p5 n s) (K1 k)
 | 0,s=>by cases s<;>rfl
 | n+1,s=>by rw [el64];exact nt64 Ops.std c62 c109 c111 c105 c108 c112 c113 p0 p1 p2 p3 p4 p5 _ _ some (K1 k) (rr64 c62 c109 c111 c105 c108 c112 c113 p0 p1 p2 p3 p4 p5 k n) (some s)
def F64 (c62:C62) (c109:C109) (c111:C111) (c105:C105) (c108:C108) (c112:C112) (c113:C113) (p0:L94) (p1:L98) (p2:L103) (p3:L3) (p4:L3) (p5:L150):Option (Int):=T64 Ops.std c62 c109 c111 c105 c108 c112 c113 p0 p1 p2 p3 p4 p5 (R64 c62 c109 c111 c105 c108 c112 c113 p0 p1 p2 p3 p4 p5 1000000) some none
def e64 {R:Type} (c:L94→L98→L103→L3→L3→L150→Option (Int)):Ent R:=fun args objs k=>
 oCons args fun a0 l0=>oAgg a0 fun x0=>cCons x0 fun z0_0 w0_0=>cList 94 ty94 z0_0 fun p0=>cCons w0_0 fun z0_1 w0_1=>cList 98 ty98 z0_1 fun p1=>cCons w0_1 fun z0_2 w0_2=>cList 103 ty103 z0_2 fun p2=>cNil w0_2 <| oCons l0 fun a1 l1=>oAgg a1 fun x1=>cCons x1 fun z1_0 w1_0=>cList 3 ty3 z1_0 fun p3=>cCons w1_0 fun z1_1 w1_1=>cList 3 ty3 z1_1 fun p4=>cNil w1_1 <| oL l1 150 ty150 fun p5 l2=>oE l2 objs <| ob (c p0 p1 p2 p3 p4 p5) (K1 k)
abbrev Sp64 (c:L94→L98→L103→L3→L3→L150→Option (Int)):Prop:=∀ (p0:L94) (p1:L98) (p2:L103) (p3:L3) (p4:L3) (p5:L150) (y:Int),c p0 p1 p2 p3 p4 p5=some y→Spec Tryz.prog gl0 64 [.agg [.list 94 ty94 p0,.list 98 ty98 p1,.list 103 ty103 p2],.agg [.list 3 ty3 p3,.list 3 ty3 p4],.c (.list 150 ty150 p5)] [] (.c (.int .i64 y)) []
theorem ek64 {R:Type} {c:L94→L98→L103→L3→L3→L150→Option (Int)} (hs:Sp64 c):EOk 64 (e64 (R:=R) c):=fun args objs k r h=>by
 unfold e64 at h
 obtain ⟨a0,l0,rfl,q1⟩:=qai h
 obtain ⟨x0,rfl,q2⟩:=qas q1
 obtain ⟨z0_0,w0_0,rfl,q3⟩:=qaa q2
 obtain ⟨p0,rfl,q4⟩:=qac q3
 obtain ⟨z0_1,w0_1,rfl,q5⟩:=qaa q4
 obtain ⟨p1,rfl,q6⟩:=qac q5
 obtain ⟨z0_2,w0_2,rfl,q7⟩:=qaa q6
 obtain ⟨p2,rfl,q8⟩:=qac q7
 obtain ⟨rfl,q9⟩:=qam q8
 obtain ⟨a1,l1,rfl,q10⟩:=qai q9
 obtain ⟨x1,rfl,q11⟩:=qas q10
 obtain ⟨z1_0,w1_0,rfl,q12⟩:=qaa q11
 obtain ⟨p3,rfl,q13⟩:=qac q12
 obtain ⟨z1_1,w1_1,rfl,q14⟩:=qaa q13
 obtain ⟨p4,rfl,q15⟩:=qac q14
 obtain ⟨rfl,q16⟩:=qam q15
 obtain ⟨p5,l2,rfl,q19⟩:=qaw q16
 obtain ⟨rfl,rfl,q21⟩:=qan q19
 exact qap (hs p0 p1 p2 p3 p4 p5) q21
theorem sf64 {c62:C62} {c109:C109} {c111:C111} {c105:C105} {c108:C108} {c112:C112} {c113:C113} (h62:Sp62 c62) (h109:Sp109 c109) (h111:Sp111 c111) (h105:Sp105 c105) (h108:Sp108 c108) (h112:Sp112 c112) (h113:Sp113 c113):Sp64 (F64 c62 c109 c111 c105 c108 c112 c113):=fun p0 p1 p2 p3 p4 p5 y hy=>by
 refine qak (qae (ek62 h62) (qae (ek109 h109) (qae (ek111 h111) (qae (ek105 h105) (qae (ek108 h108) (qae (ek112 h112) (qae (ek113 h113) qaj))))))) 1000000 (fn:=Tryz.f64) (by kernel_rfl) (by kernel_rfl) (X:=X64) (by kernel_rfl) ?_
 rw [eq64]
 exact (nt64 Ops.std c62 c109 c111 c105 c108 c112 c113 p0 p1 p2 p3 p4 p5 _ _ some (K1 k0) (rr64 c62 c109 c111 c105 c108 c112 c113 p0 p1 p2 p3 p4 p5 k0 1000000) none).trans (by show ob (F64 c62 c109 c111 c105 c108 c112 c113 p0 p1 p2 p3 p4 p5) _=_;rw [hy];rfl)
noncomputable def M64:L94→L98→L103→L3→L3→L150→Option (Int):=F64 M62 M109 M111 M105 M108 M112 M113
theorem sm64:Sp64 M64:=sf64 sm62 sm109 sm111 sm105 sm108 sm112 sm113
def X21:Aux:=⟨[(7,([0,2,4,6]++rg 11 129)),(12,([0,2,4,6]++rg 13 127))],[(14,.lin ([0,1,2,3,4,7,8,9,10,11,5,6,12,13,14,15])),(21,.lin (rg 0 16))]⟩
inductive S21 where
 | l0 (v1:Int) (v2:Int) (v8:L22) (v9:L47)
 | l1 (v1:Int) (v2:Int) (v3:Int) (v9:L22) (v10:L47) (v11:L4)
abbrev C19:Type:=L94→L98→L103→L66→Option (Bool)
abbrev C42:Type:=L94→L98→L103→L68→L68→Option (Bool)
abbrev C64:Type:=L94→L98→L103→L3→L3→L150→Option (Int)
abbrev C66:Type:=Int→L4→L4→Int→Int→Option (L4)
def T21 {R:Type} (B:Ops) (c19:C19) (c42:C42) (c37:C37) (c65:C65) (c64:C64) (c66:C66) (p0:L94) (p1:L98) (p2:L103) (p3:L66) (p4:L68) (p5:L68) (again:S21→Option R) (k:(L47)→Option R):Option S21→Option R | none=>ob (c19 p0 p1 p2 p3) fun y0=>cond (!y0) (k (mt (Ty.den ty47))) (ob (c42 p0 p1 p2 p4 p5) fun y1=>cond (!y1) (k (mt (Ty.den ty47))) (ob (c37 p3) fun y2=>again (.l0 (IntKind.wrap .i64 (Nat.cast p4.length+Nat.cast p5.length)) 0 y2 (mt (Ty.den ty47))))) | some (.l0 v1 v2 v8 v9)=>cond (B.lt v2 (↑p3.length)) (cond (B.inb v2 p3.length) (cond (B.eq ((p3.getD v2.toNat ty66.dflt).1) (3)) (cond (bif B.eq v1 v1 then bif B.le (0) v1 then B.lim v1.toNat (1) else false else false) (again (.l1 v1 v2 0 v8 v9 (List.replicate v1.toNat (Ty.dflt Ty.bool)))) none) (cond (B.inb v2 v8.length) (cond (B.lt (0) (Nat.cast (List.length (v8.getD v2.toNat ty22.dflt)))) (cond (B.inb v2 v8.length) (cond (B.inb (0) (List.length (v8.getD v2.toNat ty22.dflt))) (cond (B.lt (List.getD (v8.getD v2.toNat ty22.dflt) (Int.toNat (0)) (Ty.dflt (Ty.int .i64))) (↑v9.length)) (cond (B.inb v2 v8.length) (cond (B.inb (0) (List.length (v8.getD v2.toNat ty22.dflt))) (cond (B.inb (List.getD (v8.getD v2.toNat ty22.dflt) (Int.toNat (0)) (Ty.dflt (Ty.int .i64))) v9.length) (cond (B.inb v2 v8.length) (cond (B.lt (1) (Nat.cast (List.length (v8.getD v2.toNat ty22.dflt)))) (cond (B.inb v2 v8.length) (cond (B.inb (1) (List.length (v8.getD v2.toNat ty22.dflt))) (cond (B.lt (List.getD (v8.getD v2.toNat ty22.dflt) (Int.toNat (1)) (Ty.dflt (Ty.int .i64))) (↑v9.length)) (cond (B.inb v2 v8.length) (cond (B.inb (1) (List.length (v8.getD v2.toNat ty22.dflt))) (cond (B.inb (List.getD (v8.getD v2.toNat ty22.dflt) (Int.toNat (1)) (Ty.dflt (Ty.int .i64))) v9.length) (cond (B.inb v2 p3.length) (ob (c66 ((p3.getD v2.toNat ty66.dflt).1) (v9.getD (Int.toNat (List.getD (v8.getD v2.toNat ty22.dflt) (Int.toNat (0)) (Ty.dflt (Ty.int .i64)))) ty47.dflt) (v9.getD (Int.toNat (List.getD (v8.getD v2.toNat ty22.dflt) (Int.toNat (1)) (Ty.dflt (Ty.int .i64)))) ty47.dflt) v1 (↑p4.length)) fun y0=>cond (B.lim (List.length v9+List.length (y0::mt (Ty.den ty47))) (24)) (again (.l0 v1 (IntKind.wrap .i64 (v2+1)) v8 (v9++y0::mt (Ty.den ty47)))) none) none) none) none) none) (cond (B.inb v2 p3.length) (ob (c66 ((p3.getD v2.toNat ty66.dflt).1) (v9.getD (Int.toNat (List.getD (v8.getD v2.toNat ty22.dflt) (Int.toNat (0)) (Ty.dflt (Ty.int .i64)))) ty47.dflt) (mt (Ty.den Ty.bool)) v1 (↑p4.length)) fun y0=>cond (B.lim (List.length v9+List.length (y0::mt (Ty.den ty47))) (24)) (again (.l0 v1 (IntKind.wrap .i64 (v2+1)) v8 (v9++y0::mt (Ty.den ty47)))) none) none)) none) none) (cond (B.inb v2 p3.length) (ob (c66 ((p3.getD v2.toNat ty66.dflt).1) (v9.getD (Int.toNat (List.getD (v8.getD v2.toNat ty22.dflt) (Int.toNat (0)) (Ty.dflt (Ty.int .i64)))) ty47.dflt) (mt (Ty.den Ty.bool)) v1 (↑p4.length)) fun y0=>cond (B.lim (List.length v9+List.length (y0::mt (Ty.den ty47))) (24)) (again (.l0 v1 (IntKind.wrap .i64 (v2+1)) v8 (v9++y0::mt (Ty.den ty47)))) none) none)) none) none) none) none) (cond (B.inb v2 v8.length) (cond (B.lt (1) (Nat.cast (List.length (v8.getD v2.toNat ty22.dflt)))) (cond (B.inb v2 v8.length) (cond (B.inb (1) (List.length (v8.getD v2.toNat ty22.dflt))) (cond (B.lt (List.getD (v8.getD v2.toNat ty22.dflt) (Int.toNat (1)) (Ty.dflt (Ty.int .i64))) (↑v9.length)) (cond (B.inb v2 v8.length) (cond (B.inb (1) (List.length (v8.getD v2.toNat ty22.dflt))) (cond (B.inb (List.getD (v8.getD v2.toNat ty22.dflt) (Int.toNat (1)) (Ty.dflt (Ty.int .i64))) v9.length) (cond (B.inb v2 p3.length) (ob (c66 ((p3.getD v2.toNat ty66.dflt).1) (mt (Ty.den Ty.bool)) (v9.getD (Int.toNat (List.getD (v8.getD v2.toNat ty22.dflt) (Int.toNat (1)) (Ty.dflt (Ty.int .i64)))) ty47.dflt) v1 (↑p4.length)) fun y0=>cond (B.lim (List.length v9+List.length (y0::mt (Ty.den ty47))) (24)) (again (.l0 v1 (IntKind.wrap .i64 (v2+1)) v8 (v9++y0::mt (Ty.den ty47)))) none) none) none) none) none) (cond (B.inb v2 p3.length) (ob (c66 ((p3.getD v2.toNat ty66.dflt).1) (mt (Ty.den Ty.bool)) (mt (Ty.den Ty.bool)) v1 (↑p4.length)) fun y0=>cond (B.lim (List.length v9+List.length (y0::mt (Ty.den ty47))) (24)) (again (.l0 v1 (IntKind.wrap .i64 (v2+1)) v8 (v9++y0::mt (Ty.den ty47)))) none) none)) none) none) (cond (B.inb v2 p3.length) (ob (c66 ((p3.getD v2.toNat ty66.dflt).1) (mt (Ty.den Ty.bool)) (mt (Ty.den Ty.bool)) v1 (↑p4.length)) fun y0=>cond (B.lim (List.length v9+List.length (y0::mt (Ty.den ty47))) (24)) (again (.l0 v1 (IntKind.wrap .i64 (v2+1)) v8 (v9++y0::mt (Ty.den ty47)))) none) none)) none)) none) none) (cond (B.inb v2 v8.length) (cond (B.lt (1) (Nat.cast (List.length (v8.getD v2.toNat ty22.dflt)))) (cond (B.inb v2 v8.length) (cond (B.inb (1) (List.length (v8.getD v2.toNat ty22.dflt))) (cond (B.lt (List.getD (v8.getD v2.toNat ty22.dflt) (Int.toNat (1)) (Ty.dflt (Ty.int .i64))) (↑v9.length)) (cond (B.inb v2 v8.length) (cond (B.inb (1) (List.length (v8.getD v2.toNat ty22.dflt))) (cond (B.inb (List.getD (v8.getD v2.toNat ty22.dflt) (Int.toNat (1)) (Ty.dflt (Ty.int .i64))) v9.length) (cond (B.inb v2 p3.length) (ob (c66 ((p3.getD v2.toNat ty66.dflt).1) (mt (Ty.den Ty.bool)) (v9.getD (Int.toNat (List.getD (v8.getD v2.toNat ty22.dflt) (Int.toNat (1)) (Ty.dflt (Ty.int .i64)))) ty47.dflt) v1 (↑p4.length)) fun y0=>cond (B.lim (List.length v9+List.length (y0::mt (Ty.den ty47))) (24)) (again (.l0 v1 (IntKind.wrap .i64 (v2+1)) v8 (v9++y0::mt (Ty.den ty47)))) none) none) none) none) none) (cond (B.inb v2 p3.length) (ob (c66 ((p3.getD v2.toNat ty66.dflt).1) (mt (Ty.den Ty.bool)) (mt (Ty.den Ty.bool)) v1 (↑p4.length)) fun y0=>cond (B.lim (List.length v9+List.length (y0::mt (Ty.den ty47))) (24)) (again (.l0 v1 (IntKind.wrap .i64 (v2+1)) v8 (v9++y0::mt (Ty.den ty47)))) none) none)) none) none) (cond (B.inb v2 p3.length) (ob (c66 ((p3.getD v2.toNat ty66.dflt).1) (mt (Ty.den Ty.bool)) (mt (Ty.den Ty.bool)) v1 (↑p4.length)) fun y0=>cond (B.lim (List.length v9+List.length (y0::mt (Ty.den ty47))) (24)) (again (.l0 v1 (IntKind.wrap .i64 (v2+1)) v8 (v9++y0::mt (Ty.den ty47)))) none) none)) none)) none)) none) (k v9) | some (.l1 v1 v2 v3 v9 v10 v11)=>cond (B.lt v3 v1) (cond (B.inb v2 p3.length) (ob (c65 p4 p5 v3) fun y0=>ob (c64 p0 p1 p2 y0.1 y0.2.1 ((p3.getD v2.toNat ty66.dflt).2)) fun y1=>cond (B.inb v3 v11.length) (again (.l1 v1 v2 (IntKind.wrap .i64 (v3+1)) v9 v10 (List.set v11 v3.toNat !B.eq y1 (0)))) none) none) (cond (B.lim (List.length v10+List.length (v11::mt (Ty.den ty47))) (24)) (again (.l0 v1 (IntKind.wrap .i64 (v2+1)) v9 (v10++v11::mt (Ty.den ty47)))) none)
def E21 (p0:L94) (p1:L98) (p2:L103) (p3:L66) (p4:L68) (p5:L68):S21→List AV×Objs
 | .l0 v1 v2 v8 v9=>(mk 140 [(1,.c (.list 66 ty66 p3)),(3,.c (.ptr 3 0)),(5,.c (.ptr 5 0)),(7,.c (.int .i64 v1)),(8,.c (.own 8)),(9,.c (.own 9)),(10,.c (.int .i64 v2))],[(3,.box 31 [.list 94 ty94 p0,.list 98 ty98 p1,.list 103 ty103 p2]),(5,.box 41 [.list 68 ty68 p4,.list 68 ty68 p5]),(8,.row 22 ty22 v8),(9,.row 47 ty47 v9)])
 | .l1 v1 v2 v3 v9 v10 v11=>(mk 140 [(1,.c (.list 66 ty66 p3)),(3,.c (.ptr 3 0)),(5,.c (.ptr 5 0)),(7,.c (.int .i64 v1)),(8,.c (.own 8)),(9,.c (.own 9)),(10,.c (.int .i64 v2)),(11,.c (.own 11)),(12,.c (.int .i64 v3))],[(3,.box 31 [.list 94 ty94 p0,.list 98 ty98 p1,.list 103 ty103 p2]),(5,.box 41 [.list 68 ty68 p4,.list 68 ty68 p5]),(8,.row 22 ty22 v9),(9,.row 47 ty47 v10),(11,.row 4 ty4 v11)])
def I21:S21→Nat
 | .l0 _ _ _ _=>0
 | .l1 _ _ _ _ _ _=>1
abbrev K33 {R:Type} (k:AV→Objs→Option R) (y:(L47)):Option R:=k (.c (.own 500)) [(500,.row 47 ty47 y)]
theorem eq21 {R:Type} (B:Ops) (c19:C19) (c42:C42) (c37:C37) (c65:C65) (c64:C64) (c66:C66) (p0:L94) (p1:L98) (p2:L103) (p3:L66) (p4:L68) (p5:L68) (k:AV→Objs→Option R) (n:Nat):afun tau B gl0 X21 (ent 19 (e19 c19) (ent 42 (e42 c42) (ent 37 (e37 c37) (ent 65 (e65 c65) (ent 64 (e64 c64) (ent 66 (e66 c66) gnil)))))) ow Tryz.f21 [.agg [.list 94 ty94 p0,.list 98 ty98 p1,.list 103 ty103 p2],.c (.list 66 ty66 p3),.agg [.list 68 ty68 p4,.list 68 ty68 p5]] [] k n=T21 B c19 c42 c37 c65 c64 c66 p0 p1 p2 p3 p4 p5 (fun s=>aloop tau B gl0 X21 (ent 19 (e19 c19) (ent 42 (e42 c42) (ent 37 (e37 c37) (ent 65 (e65 c65) (ent 64 (e64 c64) (ent 66 (e66 c66) gnil)))))) ow [] Tryz.f21 k (I21 s) (E21 p0 p1 p2 p3 p4 p5 s) n) (K33 k) none:=by kernel_rfl
theorem el21 {R:Type} (B:Ops) (c19:C19) (c42:C42) (c37:C37) (c65:C65) (c64:C64) (c66:C66) (p0:L94) (p1:L98) (p2:L103) (p3:L66) (p4:L68) (p5:L68) (k:AV→Objs→Option R) (n:Nat):∀ s,aloop tau B gl0 X21 (ent 19 (e19 c19) (ent 42 (e42 c42) (ent 37 (e37 c37) (ent 65 (e65 c65) (ent 64 (e64 c64) (ent 66 (e66 c66) gnil)))))) ow [] Tryz.f21 k (I21 s) (E21 p0 p1 p2 p3 p4 p5 s) (n+1)=T21 B c19 c42 c37 c65 c64 c66 p0 p1 p2 p3 p4 p5 (fun s=>aloop tau B gl0 X21 (ent 19 (e19 c19) (ent 42 (e42 c42) (ent 37 (e37 c37) (ent 65 (e65 c65) (ent 64 (e64 c64) (ent 66 (e66 c66) gnil)))))) ow [] Tryz.f21 k (I21 s) (E21 p0 p1 p2 p3 p4 p5 s) n) (K33 k) (some s):=by
 intro s
 cases s<;>kernel_rfl
theorem nt21 {R R':Type} (B:Ops) (c19:C19) (c42:C42) (c37:C37) (c65:C65) (c64:C64) (c66:C66) (p0:L94) (p1:L98) (p2:L103) (p3:L66) (p4:L68) (p5:L68) (again:S21→Option R) (again':S21→Option R') (k0:(L47)→Option R') (k:R'→Option R) (h:∀ s,again s=ob (again' s) k):∀ s,T21 B c19 c42 c37 c65 c64 c66 p0 p1 p2 p3 p4 p5 again (fun y=>ob (k0 y) k) s=ob (T21 B c19 c42 c37 c65 c64 c66 p0 p1 p2 p3 p4 p5 again' k0 s) k:=by
 rintro (_ | x)
 all_goals try cases x
 all_goals (unfold T21;repeat' first | exact rfl | exact h _ | apply qaf | (apply qao;intro))
def R21 (c19:C19) (c42:C42) (c37:C37) (c65:C65) (c64:C64) (c66:C66) (p0:L94) (p1:L98) (p2:L103) (p3:L66) (p4:L68) (p5:L68):Nat→S21→Option (L47)
 | 0,_=>none
 | n+1,s=>T21 Ops.std c19 c42 c37 c65 c64 c66 p0 p1 p2 p3 p4 p5 (R21 c19 c42 c37 c65 c64 c66 p0 p1 p2 p3 p4 p5 n) some (some s)
theorem rr21 {R:Type} (c19:C19) (c42:C42) (c37:C37) (c65:C65) (c64:C64) (c66:C66) (p0:L94) (p1:L98) (p2:L103) (p3:L66) (p4:L68) (p5:L68) (k:AV→Objs→Option R):∀ (n:Nat) (s:S21),aloop tau Ops.std gl0 X21 (ent 19 (e19 c19) (ent 42 (e42 c42) (ent 37 (e37 c37) (ent 65 (e65 c65) (ent 64 (e64 c64) (ent 66 (e66 c66) gnil)))))) ow [] Tryz.f21 k (I21 s) (E21 p0 p1 p2 p3 p4 p5 s) n=ob (R21 c19 c42 c37 c65 c64 c66 p0 p1 p2 p3 p4 p5 n s) (K33 k)
 | 0,s=>by cases s<;>rfl
 | n+1,s=>by rw [el21];exact nt21 Ops.std c19 c42 c37 c65 c64 c66 p0 p1 p2 p3 p4 p5 _ _ some (K33 k) (rr21 c19 c42 c37 c65 c64 c66 p0 p1 p2 p3 p4 p5 k n) (some s)
def F21 (c19:C19) (c42:C42) (c37:C37) (c65:C65) (c64:C64) (c66:C66) (p0:L94) (p1:L98) (p2:L103) (p3:L66) (p4:L68) (p5:L68):Option (L47):=T21 Ops.std c19 c42 c37 c65 c64 c66 p0 p1 p2 p3 p4 p5 (R21 c19 c42 c37 c65 c64 c66 p0 p1 p2 p3 p4 p5 1000000) some none
def e21 {R:Type} (c:L94→L98→L103→L66→L68→L68→Option (L47)):Ent R:=fun args objs k=>
 oCons args fun a0 l0=>oAgg a0 fun x0=>cCons x0 fun z0_0 w0_0=>cList 94 ty94 z0_0 fun p0=>cCons w0_0 fun z0_1 w0_1=>cList 98 ty98 z0_1 fun p1=>cCons w0_1 fun z0_2 w0_2=>cList 103 ty103 z0_2 fun p2=>cNil w0_2 <| oL l0 66 ty66 fun p3 l1=>oCons l1 fun a2 l2=>oAgg a2 fun x2=>cCons x2 fun z2_0 w2_0=>cList 68 ty68 z2_0 fun p4=>cCons w2_0 fun z2_1 w2_1=>cList 68 ty68 z2_1 fun p5=>cNil w2_1 <| oE l2 objs <| ob (c p0 p1 p2 p3 p4 p5) (K33 k)
abbrev Sp21 (c:L94→L98→L103→L66→L68→L68→Option (L47)):Prop:=∀ (p0:L94) (p1:L98) (p2:L103) (p3:L66) (p4:L68) (p5:L68) (y:L47),c p0 p1 p2 p3 p4 p5=some y→Spec Tryz.prog gl0 21 [.agg [.list 94 ty94 p0,.list 98 ty98 p1,.list 103 ty103 p2],.c (.list 66 ty66 p3),.agg [.list 68 ty68 p4,.list 68 ty68 p5]] [] (.c (.own 500)) [(500,.row 47 ty47 y)]
theorem ek21 {R:Type} {c:L94→L98→L103→L66→L68→L68→Option (L47)} (hs:Sp21 c):EOk 21 (e21 (R:=R) c):=fun args objs k r h=>by
 unfold e21 at h
 obtain ⟨a0,l0,rfl,q1⟩:=qai h
 obtain ⟨x0,rfl,q2⟩:=qas q1
 obtain ⟨z0_0,w0_0,rfl,q3⟩:=qaa q2
 obtain ⟨p0,rfl,q4⟩:=qac q3
 obtain ⟨z0_1,w0_1,rfl,q5⟩:=qaa q4
 obtain ⟨p1,rfl,q6⟩:=qac q5
 obtain ⟨z0_2,w0_2,rfl,q7⟩:=qaa q6
 obtain ⟨p2,rfl,q8⟩:=qac q7
 obtain ⟨rfl,q9⟩:=qam q8
 obtain ⟨p3,l1,rfl,q12⟩:=qaw q9
 obtain ⟨a2,l2,rfl,q13⟩:=qai q12
 obtain ⟨x2,rfl,q14⟩:=qas q13
 obtain ⟨z2_0,w2_0,rfl,q15⟩:=qaa q14
 obtain ⟨p4,rfl,q16⟩:=qac q15
 obtain ⟨z2_1,w2_1,rfl,q17⟩:=qaa q16
 obtain ⟨p5,rfl,q18⟩:=qac q17
 obtain ⟨rfl,q19⟩:=qam q18
 obtain ⟨rfl,rfl,q21⟩:=qan q19
 exact qap (hs p0 p1 p2 p3 p4 p5) q21
theorem sf21 {c19:C19} {c42:C42} {c37:C37} {c65:C65} {c64:C64} {c66:C66} (h19:Sp19 c19) (h42:Sp42 c42) (h37:Sp37 c37) (h65:Sp65 c65) (h64:Sp64 c64) (h66:Sp66 c66):Sp21 (F21 c19 c42 c37 c65 c64 c66):=fun p0 p1 p2 p3 p4 p5 y hy=>by
 refine qak (qae (ek19 h19) (qae (ek42 h42) (qae (ek37 h37) (qae (ek65 h65) (qae (ek64 h64) (qae (ek66 h66) qaj)))))) 1000000 (fn:=Tryz.f21) (by kernel_rfl) (by kernel_rfl) (X:=X21) (by kernel_rfl) ?_
 rw [eq21]
 exact (nt21 Ops.std c19 c42 c37 c65 c64 c66 p0 p1 p2 p3 p4 p5 _ _ some (K33 k0) (rr21 c19 c42 c37 c65 c64 c66 p0 p1 p2 p3 p4 p5 k0 1000000) none).trans (by show ob (F21 c19 c42 c37 c65 c64 c66 p0 p1 p2 p3 p4 p5) _=_;rw [hy];rfl)
noncomputable def M21:L94→L98→L103→L66→L68→L68→Option (L47):=F21 M19 M42 M37 M65 M64 M66
theorem sm21:Sp21 M21:=sf21 sm19 sm42 sm37 sm65 sm64 sm66
def X23:Aux:=⟨[(3,([1,2]++rg 5 33))],[]⟩
inductive S23 where
 | l0 (v1:Int) (v2:L3)
def T23 {R:Type} (B:Ops) (p0:L66) (again:S23→Option R) (k:(L3)→Option R):Option S23→Option R | none=>again (.l0 0 (mt (Ty.den (Ty.int .i64)))) | some (.l0 v1 v2)=>cond (B.lt v1 (↑p0.length)) (cond (B.inb v1 p0.length) (cond (B.eq ((p0.getD v1.toNat ty66.dflt).1) (8)) (cond (B.lim (List.length v2+List.length (v1::mt (Ty.den (Ty.int .i64)))) (8)) (again (.l0 (IntKind.wrap .i64 (v1+1)) (v2++v1::mt (Ty.den (Ty.int .i64))))) none) (cond (B.inb v1 p0.length) (cond (B.eq ((p0.getD v1.toNat ty66.dflt).1) (9)) (cond (B.lim (List.length v2+List.length (v1::mt (Ty.den (Ty.int .i64)))) (8)) (again (.l0 (IntKind.wrap .i64 (v1+1)) (v2++v1::mt (Ty.den (Ty.int .i64))))) none) (cond (B.inb v1 p0.length) (cond (B.eq ((p0.getD v1.toNat ty66.dflt).1) (10)) (cond (B.lim (List.length v2+List.length (v1::mt (Ty.den (Ty.int .i64)))) (8)) (again (.l0 (IntKind.wrap .i64 (v1+1)) (v2++v1::mt (Ty.den (Ty.int .i64))))) none) (again (.l0 (IntKind.wrap .i64 (v1+1)) v2))) none)) none)) none) (k v2)
def E23 (p0:L66):S23→List AV×Objs
 | .l0 v1 v2=>(mk 38 [(0,.c (.list 66 ty66 p0)),(3,.c (.own 3)),(4,.c (.int .i64 v1))],[(3,.row 3 ty3 v2)])
def I23:S23→Nat
 | .l0 _ _=>0
theorem eq23 {R:Type} (B:Ops) (p0:L66) (k:AV→Objs→Option R) (n:Nat):afun tau B gl0 X23 gnil ow Tryz.f23 [.c (.list 66 ty66 p0)] [] k n=T23 B p0 (fun s=>aloop tau B gl0 X23 gnil ow [] Tryz.f23 k (I23 s) (E23 p0 s) n) (K4 k) none:=by kernel_rfl
theorem el23 {R:Type} (B:Ops) (p0:L66) (k:AV→Objs→Option R) (n:Nat):∀ s,aloop tau B gl0 X23 gnil ow [] Tryz.f23 k (I23 s) (E23 p0 s) (n+1)=T23 B p0 (fun s=>aloop tau B gl0 X23 gnil ow [] Tryz.f23 k (I23 s) (E23 p0 s) n) (K4 k) (some s):=by
 intro s
 cases s<;>kernel_rfl
theorem nt23 {R R':Type} (B:Ops) (p0:L66) (again:S23→Option R) (again':S23→Option R') (k0:(L3)→Option R') (k:R'→Option R) (h:∀ s,again s=ob (again' s) k):∀ s,T23 B p0 again (fun y=>ob (k0 y) k) s=ob (T23 B p0 again' k0 s) k:=by
 rintro (_ | x)
 all_goals try cases x
 all_goals (unfold T23;repeat' first | exact rfl | exact h _ | apply qaf | (apply qao;intro))
def R23 (p0:L66):Nat→S23→Option (L3)
 | 0,_=>none
 | n+1,s=>T23 Ops.std p0 (R23 p0 n) some (some s)
theorem rr23 {R:Type} (p0:L66) (k:AV→Objs→Option R):∀ (n:Nat) (s:S23),aloop tau Ops.std gl0 X23 gnil ow [] Tryz.f23 k (I23 s) (E23 p0 s) n=ob (R23 p0 n s) (K4 k)
 | 0,s=>by cases s<;>rfl
 | n+1,s=>by rw [el23];exact nt23 Ops.std p0 _ _ some (K4 k) (rr23 p0 k n) (some s)
def F23 (p0:L66):Option (L3):=T23 Ops.std p0 (R23 p0 1000000) some none
def e23 {R:Type} (c:L66→Option (L3)):Ent R:=fun args objs k=>
 oL args 66 ty66 fun p0 l0=>oE l0 objs <| ob (c p0) (K4 k)
abbrev Sp23 (c:L66→Option (L3)):Prop:=∀ (p0:L66) (y:L3),c p0=some y→Spec Tryz.prog gl0 23 [.c (.list 66 ty66 p0)] [] (.c (.own 500)) [(500,.row 3 ty3 y)]
theorem ek23 {R:Type} {c:L66→Option (L3)} (hs:Sp23 c):EOk 23 (e23 (R:=R) c):=fun args objs k r h=>by
 unfold e23 at h
 obtain ⟨p0,l0,rfl,q3⟩:=qaw h
 obtain ⟨rfl,rfl,q5⟩:=qan q3
 exact qap (hs p0) q5
theorem sf23:Sp23 (F23):=fun p0 y hy=>by
 refine qak qaj 1000000 (fn:=Tryz.f23) (by kernel_rfl) (by kernel_rfl) (X:=X23) (by kernel_rfl) ?_
 rw [eq23]
 exact (nt23 Ops.std p0 _ _ some (K4 k0) (rr23 p0 k0 1000000) none).trans (by show ob (F23 p0) _=_;rw [hy];rfl)
noncomputable def M23:L66→Option (L3):=F23
theorem sm23:Sp23 M23:=sf23
def X25:Aux:=⟨[],[]⟩
abbrev C45:Type:=LB→Option (Int×Int×L66)
def T25 {R:Type} (B:Ops) (c45:C45) (p0:LB) (k:(L66)→Option R):Option R:=ob (c45 p0) fun y0=>k y0.2.2
theorem eq25 {R:Type} (B:Ops) (c45:C45) (p0:LB) (k:AV→Objs→Option R) (n:Nat):afun tau B gl0 X25 (ent 45 (e45 c45) gnil) ow Tryz.f25 [.c (.str p0)] [] k n=T25 B c45 p0 (K30 k):=by kernel_rfl
theorem nt25 {R R':Type} (B:Ops) (c45:C45) (p0:LB) (k0:(L66)→Option R') (k:R'→Option R):T25 B c45 p0 (fun y=>ob (k0 y) k)=ob (T25 B c45 p0 k0) k:=by
 unfold T25
 repeat' first | exact rfl | apply qaf | (apply qao;intro)
def F25 (c45:C45) (p0:LB):Option (L66):=T25 Ops.std c45 p0 some
def e25 {R:Type} (c:LB→Option (L66)):Ent R:=fun args objs k=>
 oS args fun p0 l0=>oE l0 objs <| ob (c p0) (K30 k)
abbrev Sp25 (c:LB→Option (L66)):Prop:=∀ (p0:LB) (y:L66),c p0=some y→Spec Tryz.prog gl0 25 [.c (.str p0)] [] (.c (.own 500)) [(500,.row 66 ty66 y)]
theorem ek25 {R:Type} {c:LB→Option (L66)} (hs:Sp25 c):EOk 25 (e25 (R:=R) c):=fun args objs k r h=>by
 unfold e25 at h
 obtain ⟨p0,l0,rfl,q3⟩:=qa9 h
 obtain ⟨rfl,rfl,q5⟩:=qan q3
 exact qap (hs p0) q5
theorem sf25 {c45:C45} (h45:Sp45 c45):Sp25 (F25 c45):=fun p0 y hy=>by
 refine qak (qae (ek45 h45) qaj) 1000000 (fn:=Tryz.f25) (by kernel_rfl) (by kernel_rfl) (X:=X25) (by kernel_rfl) ?_
 rw [eq25]
 exact (nt25 Ops.std c45 p0 some (K30 k0)).trans (by show ob (F25 c45 p0) _=_;rw [hy];rfl)
noncomputable def M25:LB→Option (L66):=F25 M45
theorem sm25:Sp25 M25:=sf25 sm45
def X26:Aux:=⟨[(5,([0,1,2,3,5,6,7,8,9]++rg 13 19))],[]⟩
inductive S26 where
 | l0 (v1:Int) (v2:Int) (v3:L3)
abbrev C51:Type:=L66→Option (Bool)
def T26 {R:Type} (B:Ops) (c51:C51) (p0:L66) (again:S26→Option R) (k:(Int×L3)→Option R):Option S26→Option R | none=>ob (c51 p0) fun y0=>cond (!y0) (k ((1,mt (Ty.den (Ty.int .i64))))) (again (.l0 (↑p0.length) 0 (mt (Ty.den (Ty.int .i64))))) | some (.l0 v1 v2 v3)=>cond (B.lt v2 v1) (cond (B.inb v2 p0.length) (cond (B.eq ((p0.getD v2.toNat ty66.dflt).1) (8)) (cond (B.lim (List.length v3+List.length (v2::mt (Ty.den (Ty.int .i64)))) (8)) (again (.l0 v1 (IntKind.wrap .i64 (v2+1)) (v3++v2::mt (Ty.den (Ty.int .i64))))) none) (cond (B.eq ((p0.getD v2.toNat ty66.dflt).1) (9)) (cond (B.lim (List.length v3+List.length (v2::mt (Ty.den (Ty.int .i64)))) (8)) (again (.l0 v1 (IntKind.wrap .i64 (v2+1)) (v3++v2::mt (Ty.den (Ty.int .i64))))) none) (cond (B.eq ((p0.getD v2.toNat ty66.dflt).1) (10)) (cond (B.lim (List.length v3+List.length (v2::mt (Ty.den (Ty.int .i64)))) (8)) (again (.l0 v1 (IntKind.wrap .i64 (v2+1)) (v3++v2::mt (Ty.den (Ty.int .i64))))) none) (again (.l0 v1 (IntKind.wrap .i64 (v2+1)) v3))))) none) (cond (B.lt (6) (↑v3.length)) (k ((13,mt (Ty.den (Ty.int .i64))))) (k ((0,v3))))
def E26 (p0:L66):S26→List AV×Objs
 | .l0 v1 v2 v3=>(mk 32 [(4,.c (.own 4)),(10,.c (.list 66 ty66 p0)),(11,.c (.int .i64 v1)),(12,.c (.int .i64 v2))],[(4,.row 3 ty3 v3)])
def I26:S26→Nat
 | .l0 _ _ _=>0
abbrev K34 {R:Type} (k:AV→Objs→Option R) (y:(Int×L3)):Option R:=k (.tup [(false,[.own 501000]),(false,[.int .i64 y.1])]) [(501000,.row 3 ty3 y.2)]
theorem eq26 {R:Type} (B:Ops) (c51:C51) (p0:L66) (k:AV→Objs→Option R) (n:Nat):afun tau B gl0 X26 (ent 51 (e51 c51) gnil) ow Tryz.f26 [.c (.list 66 ty66 p0)] [] k n=T26 B c51 p0 (fun s=>aloop tau B gl0 X26 (ent 51 (e51 c51) gnil) ow [] Tryz.f26 k (I26 s) (E26 p0 s) n) (K34 k) none:=by kernel_rfl
theorem el26 {R:Type} (B:Ops) (c51:C51) (p0:L66) (k:AV→Objs→Option R) (n:Nat):∀ s,aloop tau B gl0 X26 (ent 51 (e51 c51) gnil) ow [] Tryz.f26 k (I26 s) (E26 p0 s) (n+1)=T26 B c51 p0 (fun s=>aloop tau B gl0 X26 (ent 51 (e51 c51) gnil) ow [] Tryz.f26 k (I26 s) (E26 p0 s) n) (K34 k) (some s):=by
 intro s
 cases s<;>kernel_rfl
theorem nt26 {R R':Type} (B:Ops) (c51:C51) (p0:L66) (again:S26→Option R) (again':S26→Option R') (k0:(Int×L3)→Option R') (k:R'→Option R) (h:∀ s,again s=ob (again' s) k):∀ s,T26 B c51 p0 again (fun y=>ob (k0 y) k) s=ob (T26 B c51 p0 again' k0 s) k:=by
 rintro (_ | x)
 all_goals try cases x
 all_goals (unfold T26;repeat' first | exact rfl | exact h _ | apply qaf | (apply qao;intro))
def R26 (c51:C51) (p0:L66):Nat→S26→Option (Int×L3)
 | 0,_=>none
 | n+1,s=>T26 Ops.std c51 p0 (R26 c51 p0 n) some (some s)
theorem rr26 {R:Type} (c51:C51) (p0:L66) (k:AV→Objs→Option R):∀ (n:Nat) (s:S26),aloop tau Ops.std gl0 X26 (ent 51 (e51 c51) gnil) ow [] Tryz.f26 k (I26 s) (E26 p0 s) n=ob (R26 c51 p0 n s) (K34 k)
 | 0,s=>by cases s<;>rfl
 | n+1,s=>by rw [el26];exact nt26 Ops.std c51 p0 _ _ some (K34 k) (rr26 c51 p0 k n) (some s)
def F26 (c51:C51) (p0:L66):Option (Int×L3):=T26 Ops.std c51 p0 (R26 c51 p0 1000000) some none
def e26 {R:Type} (c:L66→Option (Int×L3)):Ent R:=fun args objs k=>
 oL args 66 ty66 fun p0 l0=>oE l0 objs <| ob (c p0) (K34 k)
abbrev Sp26 (c:L66→Option (Int×L3)):Prop:=∀ (p0:L66) (y:Int×L3),c p0=some y→Spec Tryz.prog gl0 26 [.c (.list 66 ty66 p0)] [] (.tup [(false,[.own 501000]),(false,[.int .i64 y.1])]) [(501000,.row 3 ty3 y.2)]
theorem ek26 {R:Type} {c:L66→Option (Int×L3)} (hs:Sp26 c):EOk 26 (e26 (R:=R) c):=fun args objs k r h=>by
 unfold e26 at h
 obtain ⟨p0,l0,rfl,q3⟩:=qaw h
 obtain ⟨rfl,rfl,q5⟩:=qan q3
 exact qap (hs p0) q5
theorem sf26 {c51:C51} (h51:Sp51 c51):Sp26 (F26 c51):=fun p0 y hy=>by
 refine qak (qae (ek51 h51) qaj) 1000000 (fn:=Tryz.f26) (by kernel_rfl) (by kernel_rfl) (X:=X26) (by kernel_rfl) ?_
 rw [eq26]
 exact (nt26 Ops.std c51 p0 _ _ some (K34 k0) (rr26 c51 p0 k0 1000000) none).trans (by show ob (F26 c51 p0) _=_;rw [hy];rfl)
noncomputable def M26:L66→Option (Int×L3):=F26 M51
theorem sm26:Sp26 M26:=sf26 sm51
def X27:Aux:=⟨[(4,([2,3,4]++rg 6 20))],[(6,.lin [0,1,2,3,4,5,6,7,8])]⟩
inductive S27 where
 | l0 (v2:Int)
def T27 {R:Type} (B:Ops) (p0:L3) (p1:L3) (again:S27→Option R) (k:(Bool)→Option R):Option S27→Option R | none=>cond (!B.eq (↑p0.length) (↑p1.length)) (k false) (again (.l0 0)) | some (.l0 v2)=>cond (B.lt v2 (↑p0.length)) (cond (B.inb v2 p0.length) (cond (B.inb v2 p1.length) (cond (!B.eq (p0.getD v2.toNat ty3.dflt) (p1.getD v2.toNat ty3.dflt)) (k false) (again (.l0 (IntKind.wrap .i64 (v2+1))))) none) none) (k true)
def E27 (p0:L3) (p1:L3):S27→List AV×Objs
 | .l0 v2=>(mk 26 [(0,.c (.list 3 ty3 p0)),(1,.c (.list 3 ty3 p1)),(5,.c (.int .i64 v2))],[])
def I27:S27→Nat
 | .l0 _=>0
theorem eq27 {R:Type} (B:Ops) (p0:L3) (p1:L3) (k:AV→Objs→Option R) (n:Nat):afun tau B gl0 X27 gnil ow Tryz.f27 [.c (.list 3 ty3 p0),.c (.list 3 ty3 p1)] [] k n=T27 B p0 p1 (fun s=>aloop tau B gl0 X27 gnil ow [] Tryz.f27 k (I27 s) (E27 p0 p1 s) n) (K2 k) none:=by kernel_rfl
theorem el27 {R:Type} (B:Ops) (p0:L3) (p1:L3) (k:AV→Objs→Option R) (n:Nat):∀ s,aloop tau B gl0 X27 gnil ow [] Tryz.f27 k (I27 s) (E27 p0 p1 s) (n+1)=T27 B p0 p1 (fun s=>aloop tau B gl0 X27 gnil ow [] Tryz.f27 k (I27 s) (E27 p0 p1 s) n) (K2 k) (some s):=by
 intro s
 cases s<;>kernel_rfl
theorem nt27 {R R':Type} (B:Ops) (p0:L3) (p1:L3) (again:S27→Option R) (again':S27→Option R') (k0:(Bool)→Option R') (k:R'→Option R) (h:∀ s,again s=ob (again' s) k):∀ s,T27 B p0 p1 again (fun y=>ob (k0 y) k) s=ob (T27 B p0 p1 again' k0 s) k:=by
 rintro (_ | x)
 all_goals try cases x
 all_goals (unfold T27;repeat' first | exact rfl | exact h _ | apply qaf | (apply qao;intro))
def R27 (p0:L3) (p1:L3):Nat→S27→Option (Bool)
 | 0,_=>none
 | n+1,s=>T27 Ops.std p0 p1 (R27 p0 p1 n) some (some s)
theorem rr27 {R:Type} (p0:L3) (p1:L3) (k:AV→Objs→Option R):∀ (n:Nat) (s:S27),aloop tau Ops.std gl0 X27 gnil ow [] Tryz.f27 k (I27 s) (E27 p0 p1 s) n=ob (R27 p0 p1 n s) (K2 k)
 | 0,s=>by cases s<;>rfl
 | n+1,s=>by rw [el27];exact nt27 Ops.std p0 p1 _ _ some (K2 k) (rr27 p0 p1 k n) (some s)
def F27 (p0:L3) (p1:L3):Option (Bool):=T27 Ops.std p0 p1 (R27 p0 p1 1000000) some none
def e27 {R:Type} (c:L3→L3→Option (Bool)):Ent R:=fun args objs k=>
 oL args 3 ty3 fun p0 l0=>oL l0 3 ty3 fun p1 l1=>oE l1 objs <| ob (c p0 p1) (K2 k)
abbrev Sp27 (c:L3→L3→Option (Bool)):Prop:=∀ (p0:L3) (p1:L3) (y:Bool),c p0 p1=some y→Spec Tryz.prog gl0 27 [.c (.list 3 ty3 p0),.c (.list 3 ty3 p1)] [] (.c (.bool y)) []
theorem ek27 {R:Type} {c:L3→L3→Option (Bool)} (hs:Sp27 c):EOk 27 (e27 (R:=R) c):=fun args objs k r h=>by
 unfold e27 at h
 obtain ⟨p0,l0,rfl,q3⟩:=qaw h
 obtain ⟨p1,l1,rfl,q6⟩:=qaw q3
 obtain ⟨rfl,rfl,q8⟩:=qan q6
 exact qap (hs p0 p1) q8
theorem sf27:Sp27 (F27):=fun p0 p1 y hy=>by
 refine qak qaj 1000000 (fn:=Tryz.f27) (by kernel_rfl) (by kernel_rfl) (X:=X27) (by kernel_rfl) ?_
 rw [eq27]
 exact (nt27 Ops.std p0 p1 _ _ some (K2 k0) (rr27 p0 p1 k0 1000000) none).trans (by show ob (F27 p0 p1) _=_;rw [hy];rfl)
noncomputable def M27:L3→L3→Option (Bool):=F27
theorem sm27:Sp27 M27:=sf27
def X24:Aux:=⟨[],[]⟩
abbrev C25:Type:=LB→Option (L66)
abbrev C26:Type:=L66→Option (Int×L3)
abbrev C27:Type:=L3→L3→Option (Bool)
def T24 {R:Type} (B:Ops) (c25:C25) (c26:C26) (c27:C27) (k:(Bool)→Option R):Option R:=ob (c25 ([88,32,91,120,61,61,49,93]:LB)) fun y0=>ob (c26 y0) fun y1=>cond (B.eq y1.1 (0)) (ob (c27 y1.2 (1::mt (Ty.den (Ty.int .i64)))) fun y2=>k y2) (k false)
theorem eq24 {R:Type} (B:Ops) (c25:C25) (c26:C26) (c27:C27) (k:AV→Objs→Option R) (n:Nat):afun tau B gl0 X24 (ent 25 (e25 c25) (ent 26 (e26 c26) (ent 27 (e27 c27) gnil))) ow Tryz.f24 [] [] k n=T24 B c25 c26 c27 (K2 k):=by kernel_rfl
theorem nt24 {R R':Type} (B:Ops) (c25:C25) (c26:C26) (c27:C27) (k0:(Bool)→Option R') (k:R'→Option R):T24 B c25 c26 c27 (fun y=>ob (k0 y) k)=ob (T24 B c25 c26 c27 k0) k:=by
 unfold T24
 repeat' first | exact rfl | apply qaf | (apply qao;intro)
def F24 (c25:C25) (c26:C26) (c27:C27):Option (Bool):=T24 Ops.std c25 c26 c27 some
def e24 {R:Type} (c:Option (Bool)):Ent R:=fun args objs k=>
 oNil args <| oNilO objs <| ob (c ) (K2 k)
abbrev Sp24 (c:Option (Bool)):Prop:=∀ (y:Bool),c=some y→Spec Tryz.prog gl0 24 [] [] (.c (.bool y)) []
theorem ek24 {R:Type} {c:Option (Bool)} (hs:Sp24 c):EOk 24 (e24 (R:=R) c):=fun args objs k r h=>by
 unfold e24 at h
 obtain ⟨rfl,rfl,q2⟩:=qan h
 exact qap (hs ) q2
theorem sf24 {c25:C25} {c26:C26} {c27:C27} (h25:Sp25 c25) (h26:Sp26 c26) (h27:Sp27 c27):Sp24 (F24 c25 c26 c27):=fun y hy=>by
 refine qak (qae (ek25 h25) (qae (ek26 h26) (qae (ek27 h27) qaj))) 1000000 (fn:=Tryz.f24) (by kernel_rfl) (by kernel_rfl) (X:=X24) (by kernel_rfl) ?_
 rw [eq24]
 exact (nt24 Ops.std c25 c26 c27 some (K2 k0)).trans (by show ob (F24 c25 c26 c27) _=_;rw [hy];rfl)
noncomputable def M24:Option (Bool):=F24 M25 M26 M27
theorem sm24:Sp24 M24:=sf24 sm25 sm26 sm27
def X28:Aux:=⟨[],[]⟩
abbrev C15:Type:=L3→Option (LB)
abbrev C13:Type:=L66→Option (L66)
abbrev C16:Type:=L66→Option (L66)
abbrev C23:Type:=L66→Option (L3)
def T28 {R:Type} (B:Ops) (c15:C15) (c25:C25) (c13:C13) (c16:C16) (c23:C23) (p0:L3) (p1:Bool) (k:(L66)→Option R):Option R:=ob (c15 p0) fun y0=>ob (c25 y0) fun y1=>ob (c13 y1) fun y2=>cond (p1) (ob (c15 p0) fun y3=>ob (c25 y3) fun y4=>ob (c16 y4) fun y5=>ob (c23 y5) fun y6=>cond (B.lt (6) (↑y6.length)) (k (mt (Ty.den ty66))) (k y5)) (ob (c23 y2) fun y3=>cond (B.lt (6) (↑y3.length)) (k (mt (Ty.den ty66))) (k y2))
theorem eq28 {R:Type} (B:Ops) (c15:C15) (c25:C25) (c13:C13) (c16:C16) (c23:C23) (p0:L3) (p1:Bool) (k:AV→Objs→Option R) (n:Nat):afun tau B gl0 X28 (ent 15 (e15 c15) (ent 25 (e25 c25) (ent 13 (e13 c13) (ent 16 (e16 c16) (ent 23 (e23 c23) gnil))))) ow Tryz.f28 [.c (.list 3 ty3 p0),.c (.bool p1)] [] k n=T28 B c15 c25 c13 c16 c23 p0 p1 (K30 k):=by kernel_rfl
theorem nt28 {R R':Type} (B:Ops) (c15:C15) (c25:C25) (c13:C13) (c16:C16) (c23:C23) (p0:L3) (p1:Bool) (k0:(L66)→Option R') (k:R'→Option R):T28 B c15 c25 c13 c16 c23 p0 p1 (fun y=>ob (k0 y) k)=ob (T28 B c15 c25 c13 c16 c23 p0 p1 k0) k:=by
 unfold T28
 repeat' first | exact rfl | apply qaf | (apply qao;intro)
def F28 (c15:C15) (c25:C25) (c13:C13) (c16:C16) (c23:C23) (p0:L3) (p1:Bool):Option (L66):=T28 Ops.std c15 c25 c13 c16 c23 p0 p1 some
def e28 {R:Type} (c:L3→Bool→Option (L66)):Ent R:=fun args objs k=>
 oL args 3 ty3 fun p0 l0=>oCons l0 fun a1 l1=>oC a1 fun x1=>cBool x1 fun p1=>oE l1 objs <| ob (c p0 p1) (K30 k)
abbrev Sp28 (c:L3→Bool→Option (L66)):Prop:=∀ (p0:L3) (p1:Bool) (y:L66),c p0 p1=some y→Spec Tryz.prog gl0 28 [.c (.list 3 ty3 p0),.c (.bool p1)] [] (.c (.own 500)) [(500,.row 66 ty66 y)]
theorem ek28 {R:Type} {c:L3→Bool→Option (L66)} (hs:Sp28 c):EOk 28 (e28 (R:=R) c):=fun args objs k r h=>by
 unfold e28 at h
 obtain ⟨p0,l0,rfl,q3⟩:=qaw h
 obtain ⟨a1,l1,rfl,q4⟩:=qai q3
 obtain ⟨x1,rfl,q5⟩:=qa6 q4
 obtain ⟨p1,rfl,q6⟩:=qbq q5
 obtain ⟨rfl,rfl,q8⟩:=qan q6
 exact qap (hs p0 p1) q8
theorem sf28 {c15:C15} {c25:C25} {c13:C13} {c16:C16} {c23:C23} (h15:Sp15 c15) (h25:Sp25 c25) (h13:Sp13 c13) (h16:Sp16 c16) (h23:Sp23 c23):Sp28 (F28 c15 c25 c13 c16 c23):=fun p0 p1 y hy=>by
 refine qak (qae (ek15 h15) (qae (ek25 h25) (qae (ek13 h13) (qae (ek16 h16) (qae (ek23 h23) qaj))))) 1000000 (fn:=Tryz.f28) (by kernel_rfl) (by kernel_rfl) (X:=X28) (by kernel_rfl) ?_
 rw [eq28]
 exact (nt28 Ops.std c15 c25 c13 c16 c23 p0 p1 some (K30 k0)).trans (by show ob (F28 c15 c25 c13 c16 c23 p0 p1) _=_;rw [hy];rfl)
noncomputable def M28:L3→Bool→Option (L66):=F28 M15 M25 M13 M16 M23
theorem sm28:Sp28 M28:=sf28 sm15 sm25 sm13 sm16 sm23
def X69:Aux:=⟨[],[]⟩
def T69 {R:Type} (B:Ops) (p0:Int) (p1:L150) (p2:L4) (p3:Bool) (p4:Bool) (k:(Bool)→Option R):Option R:=cond (B.eq p0 (1)) (k true) (cond (B.eq p0 (3)) (k p3) (cond (B.eq p0 (4)) (cond (B.inb (0) p2.length) (k (!p2.getD (Int.toNat (0)) ty4.dflt)) none) (cond (B.eq p0 (5)) (cond (B.inb (0) p2.length) (cond (p2.getD (Int.toNat (0)) ty4.dflt) (cond (B.inb (1) p2.length) (k (p2.getD (Int.toNat (1)) ty4.dflt)) none) (k false)) none) (cond (B.eq p0 (6)) (cond (B.inb (0) p2.length) (cond (p2.getD (Int.toNat (0)) ty4.dflt) (k true) (cond (B.inb (1) p2.length) (k (p2.getD (Int.toNat (1)) ty4.dflt)) none)) none) (cond (B.eq p0 (8)) (k p4) (cond (B.eq p0 (9)) (cond (B.inb (1) p2.length) (cond (p2.getD (Int.toNat (1)) ty4.dflt) (k true) (cond (B.inb (0) p2.length) (cond (p2.getD (Int.toNat (0)) ty4.dflt) (k p4) (k false)) none)) none) (cond (B.eq p0 (10)) (cond (B.inb (1) p2.length) (cond (p2.getD (Int.toNat (1)) ty4.dflt) (cond (B.inb (0) p2.length) (cond (p2.getD (Int.toNat (0)) ty4.dflt) (k true) (k p4)) none) (k false)) none) (k false))))))))
theorem eq69 {R:Type} (B:Ops) (p0:Int) (p1:L150) (p2:L4) (p3:Bool) (p4:Bool) (k:AV→Objs→Option R) (n:Nat):afun tau B gl0 X69 gnil ow Tryz.f69 [.agg [.int .i64 p0,.list 150 ty150 p1],.c (.list 4 ty4 p2),.c (.bool p3),.c (.bool p4)] [] k n=T69 B p0 p1 p2 p3 p4 (K2 k):=by kernel_rfl
theorem nt69 {R R':Type} (B:Ops) (p0:Int) (p1:L150) (p2:L4) (p3:Bool) (p4:Bool) (k0:(Bool)→Option R') (k:R'→Option R):T69 B p0 p1 p2 p3 p4 (fun y=>ob (k0 y) k)=ob (T69 B p0 p1 p2 p3 p4 k0) k:=by
 unfold T69
 repeat' first | exact rfl | apply qaf | (apply qao;intro)
def F69 (p0:Int) (p1:L150) (p2:L4) (p3:Bool) (p4:Bool):Option (Bool):=T69 Ops.std p0 p1 p2 p3 p4 some
def e69 {R:Type} (c:Int→L150→L4→Bool→Bool→Option (Bool)):Ent R:=fun args objs k=>
 oCons args fun a0 l0=>oAgg a0 fun x0=>cCons x0 fun z0_0 w0_0=>cInt .i64 z0_0 fun p0=>cCons w0_0 fun z0_1 w0_1=>cList 150 ty150 z0_1 fun p1=>cNil w0_1 <| oL l0 4 ty4 fun p2 l1=>oCons l1 fun a2 l2=>oC a2 fun x2=>cBool x2 fun p3=>oCons l2 fun a3 l3=>oC a3 fun x3=>cBool x3 fun p4=>oE l3 objs <| ob (c p0 p1 p2 p3 p4) (K2 k)
abbrev Sp69 (c:Int→L150→L4→Bool→Bool→Option (Bool)):Prop:=∀ (p0:Int) (p1:L150) (p2:L4) (p3:Bool) (p4:Bool) (y:Bool),c p0 p1 p2 p3 p4=some y→Spec Tryz.prog gl0 69 [.agg [.int .i64 p0,.list 150 ty150 p1],.c (.list 4 ty4 p2),.c (.bool p3),.c (.bool p4)] [] (.c (.bool y)) []
theorem ek69 {R:Type} {c:Int→L150→L4→Bool→Bool→Option (Bool)} (hs:Sp69 c):EOk 69 (e69 (R:=R) c):=fun args objs k r h=>by
 unfold e69 at h
 obtain ⟨a0,l0,rfl,q1⟩:=qai h
 obtain ⟨x0,rfl,q2⟩:=qas q1
 obtain ⟨z0_0,w0_0,rfl,q3⟩:=qaa q2
 obtain ⟨p0,rfl,q4⟩:=qar q3
 obtain ⟨z0_1,w0_1,rfl,q5⟩:=qaa q4
 obtain ⟨p1,rfl,q6⟩:=qac q5
 obtain ⟨rfl,q7⟩:=qam q6
 obtain ⟨p2,l1,rfl,q10⟩:=qaw q7
 obtain ⟨a2,l2,rfl,q11⟩:=qai q10
 obtain ⟨x2,rfl,q12⟩:=qa6 q11
 obtain ⟨p3,rfl,q13⟩:=qbq q12
 obtain ⟨a3,l3,rfl,q14⟩:=qai q13
 obtain ⟨x3,rfl,q15⟩:=qa6 q14
 obtain ⟨p4,rfl,q16⟩:=qbq q15
 obtain ⟨rfl,rfl,q18⟩:=qan q16
 exact qap (hs p0 p1 p2 p3 p4) q18
theorem sf69:Sp69 (F69):=fun p0 p1 p2 p3 p4 y hy=>by
 refine qak qaj 1000000 (fn:=Tryz.f69) (by kernel_rfl) (by kernel_rfl) (X:=X69) (by kernel_rfl) ?_
 rw [eq69]
 exact (nt69 Ops.std p0 p1 p2 p3 p4 some (K2 k0)).trans (by show ob (F69 p0 p1 p2 p3 p4) _=_;rw [hy];rfl)
noncomputable def M69:Int→L150→L4→Bool→Bool→Option (Bool):=F69
theorem sm69:Sp69 M69:=sf69
def X47:Aux:=⟨[(7,([0,1,3,4]++rg 9 101)),(2000000,[])],[(24,.lin (rg 0 12))]⟩
inductive S47 where
 | l0 (v0:Int) (v1:Int) (v2:L9) (v6:L94) (v7:L98) (v8:L103)
abbrev C88:Type:=L9→Option (LB×Int×Int×Int×Bool)
abbrev C89:Type:=LB→Option (Int×LB×LB×LB×LB×L150×L157×Bool)
def T47 {R:Type} (B:Ops) (c86:C86) (c87:C87) (c88:C88) (c90:C90) (c89:C89) (c18:C18) (p0:LB) (again:S47→Option R) (k:(L94×L98×L103×Int×Int)→Option R):Option S47→Option R | none=>cond (B.lt (60000) (↑p0.length)) (k ((mt (Ty.den ty94),mt (Ty.den ty98),mt (Ty.den ty103),14,0))) (ob (c86 p0 (10)) fun y0=>again (.l0 0 0 y0 (mt (Ty.den ty94)) (mt (Ty.den ty98)) (mt (Ty.den ty103)))) | some (.l0 v0 v1 v2 v6 v7 v8)=>cond (B.lt v1 (↑v2.length)) (cond (B.inb v1 v2.length) (cond (v2.getD v1.toNat ty9.dflt == mt UInt8) (again (.l0 v0 (IntKind.wrap .i64 (v1+1)) v2 v6 v7 v8)) (cond (B.inb v1 v2.length) (ob (c87 (v2.getD v1.toNat ty9.dflt)) fun y0=>cond (B.lt (0) (↑y0.length)) (cond (B.inb (0) y0.length) (cond (y0.getD (Int.toNat (0)) ty9.dflt == ([118,97,114]:LB)) (cond (B.inb (1) (List.length y0+1)) (ob (c88 (List.drop (Int.toNat (1)) (List.take y0.length y0))) fun y1=>cond (B.lim (List.length v6+List.length ((y1.1,y1.2.1,(y1.2.2).1,(y1.2.2.2).1)::mt (Ty.den ty94))) (40)) (cond (!(y1.2.2.2).2) (k ((mt (Ty.den ty94),mt (Ty.den ty98),mt (Ty.den ty103),2,IntKind.wrap .i64 (v1+1)))) (cond (B.lt (1) v0) (k ((mt (Ty.den ty94),mt (Ty.den ty98),mt (Ty.den ty103),2,IntKind.wrap .i64 (v1+1)))) (again (.l0 1 (IntKind.wrap .i64 (v1+1)) v2 (v6++(y1.1,y1.2.1,(y1.2.2).1,(y1.2.2.2).1)::mt (Ty.den ty94)) v7 v8)))) none) none) (cond (y0.getD (Int.toNat (0)) ty9.dflt == ([112,114,111,99]:LB)) (cond (B.lt (1) (↑y0.length)) (cond (B.inb (1) y0.length) (cond (B.inb (2) (List.length y0+1)) (cond (B.lim (List.length v7+List.length ((y0.getD (Int.toNat (1)) ty9.dflt,List.drop (Int.toNat (2)) (List.take y0.length y0))::mt (Ty.den ty98))) (40)) (cond (!B.lt (1) (↑y0.length)) (k ((mt (Ty.den ty94),mt (Ty.den ty98),mt (Ty.den ty103),2,IntKind.wrap .i64 (v1+1)))) (cond (B.lt (2) v0) (k ((mt (Ty.den ty94),mt (Ty.den ty98),mt (Ty.den ty103),2,IntKind.wrap .i64 (v1+1)))) (again (.l0 2 (IntKind.wrap .i64 (v1+1)) v2 v6 (v7++(y0.getD (Int.toNat (1)) ty9.dflt,List.drop (Int.toNat (2)) (List.take y0.length y0))::mt (Ty.den ty98)) v8)))) none) none) none) (cond (!B.lt (1) (↑y0.length)) (k ((mt (Ty.den ty94),mt (Ty.den ty98),mt (Ty.den ty103),2,IntKind.wrap .i64 (v1+1)))) (cond (B.lt (2) v0) (k ((mt (Ty.den ty94),mt (Ty.den ty98),mt (Ty.den ty103),2,IntKind.wrap .i64 (v1+1)))) (again (.l0 2 (IntKind.wrap .i64 (v1+1)) v2 v6 v7 v8))))) (cond (y0.getD (Int.toNat (0)) ty9.dflt == ([116,114,97,110,115]:LB)) (cond (B.inb v1 v2.length) (ob (c90 (v2.getD v1.toNat ty9.dflt) (1)) fun y1=>ob (c89 y1) fun y2=>cond (B.lim (List.length v8+List.length ((y2.1,y2.2.1,(y2.2.2).1,(y2.2.2.2).1,((y2.2.2.2).2).1,((y2.2.2.2.2).2).1,(((y2.2.2.2.2).2).2).1)::mt (Ty.den ty103))) (120)) (cond (!(((y2.2.2.2.2).2).2).2) (k ((mt (Ty.den ty94),mt (Ty.den ty98),mt (Ty.den ty103),2,IntKind.wrap .i64 (v1+1)))) (cond (B.lt (3) v0) (k ((mt (Ty.den ty94),mt (Ty.den ty98),mt (Ty.den ty103),2,IntKind.wrap .i64 (v1+1)))) (again (.l0 3 (IntKind.wrap .i64 (v1+1)) v2 v6 v7 (v8++(y2.1,y2.2.1,(y2.2.2).1,(y2.2.2.2).1,((y2.2.2.2).2).1,((y2.2.2.2.2).2).1,(((y2.2.2.2.2).2).2).1)::mt (Ty.den ty103)))))) none) none) (k ((mt (Ty.den ty94),mt (Ty.den ty98),mt (Ty.den ty103),2,IntKind.wrap .i64 (v1+1))))))) none) (k ((mt (Ty.den ty94),mt (Ty.den ty98),mt (Ty.den ty103),2,IntKind.wrap .i64 (v1+1))))) none)) none) (ob (c18 v6 v7 v8) fun y0=>cond (!y0) (k ((mt (Ty.den ty94),mt (Ty.den ty98),mt (Ty.den ty103),2,0))) (k ((v6,v7,v8,0,0))))
def E47 (p0:LB):S47→List AV×Objs
 | .l0 v0 v1 v2 v6 v7 v8=>(mk 110 [(2,.c (.ptr 2 0)),(5,.c (.ptr 5 0)),(6,.c (.int .i64 v0)),(7,.c (.own 7)),(8,.c (.int .i64 v1))],[(2,.box 31 [.own 3000,.own 3001,.own 3002]),(5,.box 31 [.own 6000,.own 6001,.own 6002]),(7,.row 9 ty9 v2),(3000,.row 94 ty94 (mt (Ty.den ty94))),(3001,.row 98 ty98 (mt (Ty.den ty98))),(3002,.row 103 ty103 (mt (Ty.den ty103))),(6000,.row 94 ty94 v6),(6001,.row 98 ty98 v7),(6002,.row 103 ty103 v8)])
def I47:S47→Nat
 | .l0 _ _ _ _ _ _=>0
abbrev K35 {R:Type} (k:AV→Objs→Option R) (y:(L94×L98×L103×Int×Int)):Option R:=k (.tup [(true,[.list 94 ty94 y.1,.list 98 ty98 y.2.1,.list 103 ty103 y.2.2.1]),(false,[.int .i64 y.2.2.2.1]),(false,[.int .i64 y.2.2.2.2])]) []
theorem eq47 {R:Type} (B:Ops) (c86:C86) (c87:C87) (c88:C88) (c90:C90) (c89:C89) (c18:C18) (p0:LB) (k:AV→Objs→Option R) (n:Nat):afun tau B gl0 X47 (ent 86 (e86 c86) (ent 87 (e87 c87) (ent 88 (e88 c88) (ent 90 (e90 c90) (ent 89 (e89 c89) (ent 18 (e18 c18) gnil)))))) ow Tryz.f47 [.c (.str p0)] [] k n=T47 B c86 c87 c88 c90 c89 c18 p0 (fun s=>aloop tau B gl0 X47 (ent 86 (e86 c86) (ent 87 (e87 c87) (ent 88 (e88 c88) (ent 90 (e90 c90) (ent 89 (e89 c89) (ent 18 (e18 c18) gnil)))))) ow [] Tryz.f47 k (I47 s) (E47 p0 s) n) (K35 k) none:=by kernel_rfl
theorem el47 {R:Type} (B:Ops) (c86:C86) (c87:C87) (c88:C88) (c90:C90) (c89:C89) (c18:C18) (p0:LB) (k:AV→Objs→Option R) (n:Nat):∀ s,aloop tau B gl0 X47 (ent 86 (e86 c86) (ent 87 (e87 c87) (ent 88 (e88 c88) (ent 90 (e90 c90) (ent 89 (e89 c89) (ent 18 (e18 c18) gnil)))))) ow [] Tryz.f47 k (I47 s) (E47 p0 s) (n+1)=T47 B c86 c87 c88 c90 c89 c18 p0 (fun s=>aloop tau B gl0 X47 (ent 86 (e86 c86) (ent 87 (e87 c87) (ent 88 (e88 c88) (ent 90 (e90 c90) (ent 89 (e89 c89) (ent 18 (e18 c18) gnil)))))) ow [] Tryz.f47 k (I47 s) (E47 p0 s) n) (K35 k) (some s):=by
 intro s
 cases s<;>kernel_rfl
theorem nt47 {R R':Type} (B:Ops) (c86:C86) (c87:C87) (c88:C88) (c90:C90) (c89:C89) (c18:C18) (p0:LB) (again:S47→Option R) (again':S47→Option R') (k0:(L94×L98×L103×Int×Int)→Option R') (k:R'→Option R) (h:∀ s,again s=ob (again' s) k):∀ s,T47 B c86 c87 c88 c90 c89 c18 p0 again (fun y=>ob (k0 y) k) s=ob (T47 B c86 c87 c88 c90 c89 c18 p0 again' k0 s) k:=by
 rintro (_ | x)
 all_goals try cases x
 all_goals (unfold T47;repeat' first | exact rfl | exact h _ | apply qaf | (apply qao;intro))
def R47 (c86:C86) (c87:C87) (c88:C88) (c90:C90) (c89:C89) (c18:C18) (p0:LB):Nat→S47→Option (L94×L98×L103×Int×Int)
 | 0,_=>none
 | n+1,s=>T47 Ops.std c86 c87 c88 c90 c89 c18 p0 (R47 c86 c87 c88 c90 c89 c18 p0 n) some (some s)
theorem rr47 {R:Type} (c86:C86) (c87:C87) (c88:C88) (c90:C90) (c89:C89) (c18:C18) (p0:LB) (k:AV→Objs→Option R):∀ (n:Nat) (s:S47),aloop tau Ops.std gl0 X47 (ent 86 (e86 c86) (ent 87 (e87 c87) (ent 88 (e88 c88) (ent 90 (e90 c90) (ent 89 (e89 c89) (ent 18 (e18 c18) gnil)))))) ow [] Tryz.f47 k (I47 s) (E47 p0 s) n=ob (R47 c86 c87 c88 c90 c89 c18 p0 n s) (K35 k)
 | 0,s=>by cases s<;>rfl
 | n+1,s=>by rw [el47];exact nt47 Ops.std c86 c87 c88 c90 c89 c18 p0 _ _ some (K35 k) (rr47 c86 c87 c88 c90 c89 c18 p0 k n) (some s)
def F47 (c86:C86) (c87:C87) (c88:C88) (c90:C90) (c89:C89) (c18:C18) (p0:LB):Option (L94×L98×L103×Int×Int):=T47 Ops.std c86 c87 c88 c90 c89 c18 p0 (R47 c86 c87 c88 c90 c89 c18 p0 1000000) some none
def e47 {R:Type} (c:LB→Option (L94×L98×L103×Int×Int)):Ent R:=fun args objs k=>
 oS args fun p0 l0=>oE l0 objs <| ob (c p0) (K35 k)
abbrev Sp47 (c:LB→Option (L94×L98×L103×Int×Int)):Prop:=∀ (p0:LB) (y:L94×L98×L103×Int×Int),c p0=some y→Spec Tryz.prog gl0 47 [.c (.str p0)] [] (.tup [(true,[.list 94 ty94 y.1,.list 98 ty98 y.2.1,.list 103 ty103 y.2.2.1]),(false,[.int .i64 y.2.2.2.1]),(false,[.int .i64 y.2.2.2.2])]) []
theorem ek47 {R:Type} {c:LB→Option (L94×L98×L103×Int×Int)} (hs:Sp47 c):EOk 47 (e47 (R:=R) c):=fun args objs k r h=>by
 unfold e47 at h
 obtain ⟨p0,l0,rfl,q3⟩:=qa9 h
 obtain ⟨rfl,rfl,q5⟩:=qan q3
 exact qap (hs p0) q5
theorem sf47 {c86:C86} {c87:C87} {c88:C88} {c90:C90} {c89:C89} {c18:C18} (h86:Sp86 c86) (h87:Sp87 c87) (h88:Sp88 c88) (h90:Sp90 c90) (h89:Sp89 c89) (h18:Sp18 c18):Sp47 (F47 c86 c87 c88 c90 c89 c18):=fun p0 y hy=>by
 refine qak (qae (ek86 h86) (qae (ek87 h87) (qae (ek88 h88) (qae (ek90 h90) (qae (ek89 h89) (qae (ek18 h18) qaj)))))) 1000000 (fn:=Tryz.f47) (by kernel_rfl) (by kernel_rfl) (X:=X47) (by kernel_rfl) ?_
 rw [eq47]
 exact (nt47 Ops.std c86 c87 c88 c90 c89 c18 p0 _ _ some (K35 k0) (rr47 c86 c87 c88 c90 c89 c18 p0 k0 1000000) none).trans (by show ob (F47 c86 c87 c88 c90 c89 c18 p0) _=_;rw [hy];rfl)
noncomputable def M47:LB→Option (L94×L98×L103×Int×Int):=F47 M86 M87 M88 M90 M89 M18
theorem sm47:Sp47 M47:=sf47 sm86 sm87 sm88 sm90 sm89 sm18
def X12:Aux:=⟨[],[]⟩
abbrev C48:Type:=Int→Int→L22→Option (LB)
abbrev C47:Type:=LB→Option (L94×L98×L103×Int×Int)
def T12 {R:Type} (B:Ops) (c48:C48) (c47:C47) (p0:Int) (p1:Int) (p2:L22) (k:(L94×L98×L103)→Option R):Option R:=ob (c48 p0 p1 p2) fun y0=>ob (c47 y0) fun y1=>k ((y1.1,y1.2.1,(y1.2.2).1))
abbrev K36 {R:Type} (k:AV→Objs→Option R) (y:(L94×L98×L103)):Option R:=k (.agg [.list 94 ty94 y.1,.list 98 ty98 y.2.1,.list 103 ty103 y.2.2]) []
theorem eq12 {R:Type} (B:Ops) (c48:C48) (c47:C47) (p0:Int) (p1:Int) (p2:L22) (k:AV→Objs→Option R) (n:Nat):afun tau B gl0 X12 (ent 48 (e48 c48) (ent 47 (e47 c47) gnil)) ow Tryz.f12 [.agg [.int .i64 p0,.int .i64 p1,.list 22 ty22 p2]] [] k n=T12 B c48 c47 p0 p1 p2 (K36 k):=by kernel_rfl
theorem nt12 {R R':Type} (B:Ops) (c48:C48) (c47:C47) (p0:Int) (p1:Int) (p2:L22) (k0:(L94×L98×L103)→Option R') (k:R'→Option R):T12 B c48 c47 p0 p1 p2 (fun y=>ob (k0 y) k)=ob (T12 B c48 c47 p0 p1 p2 k0) k:=by
 unfold T12
 repeat' first | exact rfl | apply qaf | (apply qao;intro)
def F12 (c48:C48) (c47:C47) (p0:Int) (p1:Int) (p2:L22):Option (L94×L98×L103):=T12 Ops.std c48 c47 p0 p1 p2 some
def e12 {R:Type} (c:Int→Int→L22→Option (L94×L98×L103)):Ent R:=fun args objs k=>
 oCons args fun a0 l0=>oAgg a0 fun x0=>cCons x0 fun z0_0 w0_0=>cInt .i64 z0_0 fun p0=>cCons w0_0 fun z0_1 w0_1=>cInt .i64 z0_1 fun p1=>cCons w0_1 fun z0_2 w0_2=>cList 22 ty22 z0_2 fun p2=>cNil w0_2 <| oE l0 objs <| ob (c p0 p1 p2) (K36 k)
abbrev Sp12 (c:Int→Int→L22→Option (L94×L98×L103)):Prop:=∀ (p0:Int) (p1:Int) (p2:L22) (y:L94×L98×L103),c p0 p1 p2=some y→Spec Tryz.prog gl0 12 [.agg [.int .i64 p0,.int .i64 p1,.list 22 ty22 p2]] [] (.agg [.list 94 ty94 y.1,.list 98 ty98 y.2.1,.list 103 ty103 y.2.2]) []
theorem ek12 {R:Type} {c:Int→Int→L22→Option (L94×L98×L103)} (hs:Sp12 c):EOk 12 (e12 (R:=R) c):=fun args objs k r h=>by
 unfold e12 at h
 obtain ⟨a0,l0,rfl,q1⟩:=qai h
 obtain ⟨x0,rfl,q2⟩:=qas q1
 obtain ⟨z0_0,w0_0,rfl,q3⟩:=qaa q2
 obtain ⟨p0,rfl,q4⟩:=qar q3
 obtain ⟨z0_1,w0_1,rfl,q5⟩:=qaa q4
 obtain ⟨p1,rfl,q6⟩:=qar q5
 obtain ⟨z0_2,w0_2,rfl,q7⟩:=qaa q6
 obtain ⟨p2,rfl,q8⟩:=qac q7
 obtain ⟨rfl,q9⟩:=qam q8
 obtain ⟨rfl,rfl,q11⟩:=qan q9
 exact qap (hs p0 p1 p2) q11
theorem sf12 {c48:C48} {c47:C47} (h48:Sp48 c48) (h47:Sp47 c47):Sp12 (F12 c48 c47):=fun p0 p1 p2 y hy=>by
 refine qak (qae (ek48 h48) (qae (ek47 h47) qaj)) 1000000 (fn:=Tryz.f12) (by kernel_rfl) (by kernel_rfl) (X:=X12) (by kernel_rfl) ?_
 rw [eq12]
 exact (nt12 Ops.std c48 c47 p0 p1 p2 some (K36 k0)).trans (by show ob (F12 c48 c47 p0 p1 p2) _=_;rw [hy];rfl)
noncomputable def M12:Int→Int→L22→Option (L94×L98×L103):=F12 M48 M47
theorem sm12:Sp12 M12:=sf12 sm48 sm47
def e3 {R:Type} (c:L3→Bool→Int→Int→L22→L3→L3→Option (Bool)):Ent R:=fun args objs k=>
 oL args 3 ty3 fun p0 l0=>oCons l0 fun a1 l1=>oC a1 fun x1=>cBool x1 fun p1=>oCons l1 fun a2 l2=>oAgg a2 fun x2=>cCons x2 fun z2_0 w2_0=>cInt .i64 z2_0 fun p2=>cCons w2_0 fun z2_1 w2_1=>cInt .i64 z2_1 fun p3=>cCons w2_1 fun z2_2 w2_2=>cList 22 ty22 z2_2 fun p4=>cNil w2_2 <| oL l2 3 ty3 fun p5 l3=>oL l3 3 ty3 fun p6 l4=>oE l4 objs <| ob (c p0 p1 p2 p3 p4 p5 p6) fun y=>k (.c (.bool y)) []
def X33:Aux:=⟨[(6,([3,4,5,6,7,8]++rg 10 30++rg 43 28))],[(11,.lin (rg 0 10))]⟩
inductive S33 where
 | l0 (v3:Int) (v4:Int) (v5:L22) (v6:L3)
def T33 {R:Type} (B:Ops) (c26:C26) (c52:C52) (p0:L66) (p1:Int) (p2:L4) (again:S33→Option R) (k:(Bool)→Option R):Option S33→Option R | none=>ob (c26 p0) fun y0=>cond (!B.eq y0.1 (0)) (k false) (cond (!B.eq (↑p2.length) (↑p0.length)) (k false) (cond (B.lt p1 (0)) (k false) (cond (B.lt (Nat.cast (List.length y0.2)) (0)) none (cond (B.lt (0) (bif false then shlI IntKind.i64 p1 (Nat.cast (List.length y0.2)) else shrI IntKind.i64 p1 (Nat.cast (List.length y0.2)))) (k false) (ob (c52 p0) fun y1=>again (.l0 (Nat.cast (List.length y0.2)) 0 y1 y0.2)))))) | some (.l0 v3 v4 v5 v6)=>cond (B.lt v4 v3) (cond (B.inb v4 v6.length) (cond (B.inb (v6.getD v4.toNat ty3.dflt) p0.length) (cond (B.eq ((p0.getD (Int.toNat (v6.getD v4.toNat ty3.dflt)) ty66.dflt).1) (8)) (cond (B.inb (v6.getD v4.toNat ty3.dflt) v5.length) (cond (B.inb (0) (List.length (v5.getD (Int.toNat (v6.getD v4.toNat ty3.dflt)) ty22.dflt))) (cond (B.inb (List.getD (v5.getD (Int.toNat (v6.getD v4.toNat ty3.dflt)) ty22.dflt) (Int.toNat (0)) (Ty.dflt (Ty.int .i64))) p2.length) (cond (B.lt v4 (0)) none (cond (!p2.getD (Int.toNat (List.getD (v5.getD (Int.toNat (v6.getD v4.toNat ty3.dflt)) ty22.dflt) (Int.toNat (0)) (Ty.dflt (Ty.int .i64)))) ty4.dflt == B.lt (0) (bitAnd IntKind.i64 (bif false then shlI IntKind.i64 p1 v4 else shrI IntKind.i64 p1 v4) (1))) (k false) (again (.l0 v3 (IntKind.wrap .i64 (v4+1)) v5 v6)))) none) none) none) (cond (B.inb (v6.getD v4.toNat ty3.dflt) p2.length) (cond (B.lt v4 (0)) none (cond (!p2.getD (Int.toNat (v6.getD v4.toNat ty3.dflt)) ty4.dflt == B.lt (0) (bitAnd IntKind.i64 (bif false then shlI IntKind.i64 p1 v4 else shrI IntKind.i64 p1 v4) (1))) (k false) (again (.l0 v3 (IntKind.wrap .i64 (v4+1)) v5 v6)))) none)) none) none) (k true)
def E33 (p0:L66) (p1:Int) (p2:L4):S33→List AV×Objs
 | .l0 v3 v4 v5 v6=>(mk 71 [(0,.c (.list 66 ty66 p0)),(1,.c (.int .i64 p1)),(2,.c (.list 4 ty4 p2)),(9,.c (.own 9)),(40,.c (.own 40)),(41,.c (.int .i64 v3)),(42,.c (.int .i64 v4))],[(9,.row 22 ty22 v5),(40,.row 3 ty3 v6)])
def I33:S33→Nat
 | .l0 _ _ _ _=>0
theorem eq33 {R:Type} (B:Ops) (c26:C26) (c52:C52) (p0:L66) (p1:Int) (p2:L4) (k:AV→Objs→Option R) (n:Nat):afun tau B gl0 X33 (ent 26 (e26 c26) (ent 52 (e52 c52) gnil)) ow Tryz.f33 [.c (.list 66 ty66 p0),.c (.int .i64 p1),.c (.list 4 ty4 p2)] [] k n=T33 B c26 c52 p0 p1 p2 (fun s=>aloop tau B gl0 X33 (ent 26 (e26 c26) (ent 52 (e52 c52) gnil)) ow [] Tryz.f33 k (I33 s) (E33 p0 p1 p2 s) n) (K2 k) none:=by kernel_rfl
theorem el33 {R:Type} (B:Ops) (c26:C26) (c52:C52) (p0:L66) (p1:Int) (p2:L4) (k:AV→Objs→Option R) (n:Nat):∀ s,aloop tau B gl0 X33 (ent 26 (e26 c26) (ent 52 (e52 c52) gnil)) ow [] Tryz.f33 k (I33 s) (E33 p0 p1 p2 s) (n+1)=T33 B c26 c52 p0 p1 p2 (fun s=>aloop tau B gl0 X33 (ent 26 (e26 c26) (ent 52 (e52 c52) gnil)) ow [] Tryz.f33 k (I33 s) (E33 p0 p1 p2 s) n) (K2 k) (some s):=by
 intro s
 cases s<;>kernel_rfl
theorem nt33 {R R':Type} (B:Ops) (c26:C26) (c52:C52) (p0:L66) (p1:Int) (p2:L4) (again:S33→Option R) (again':S33→Option R') (k0:(Bool)→Option R') (k:R'→Option R) (h:∀ s,again s=ob (again' s) k):∀ s,T33 B c26 c52 p0 p1 p2 again (fun y=>ob (k0 y) k) s=ob (T33 B c26 c52 p0 p1 p2 again' k0 s) k:=by
 rintro (_ | x)
 all_goals try cases x
 all_goals (unfold T33;repeat' first | exact rfl | exact h _ | apply qaf | (apply qao;intro))
def R33 (c26:C26) (c52:C52) (p0:L66) (p1:Int) (p2:L4):Nat→S33→Option (Bool)
 | 0,_=>none
 | n+1,s=>T33 Ops.std c26 c52 p0 p1 p2 (R33 c26 c52 p0 p1 p2 n) some (some s)
theorem rr33 {R:Type} (c26:C26) (c52:C52) (p0:L66) (p1:Int) (p2:L4) (k:AV→Objs→Option R):∀ (n:Nat) (s:S33),aloop tau Ops.std gl0 X33 (ent 26 (e26 c26) (ent 52 (e52 c52) gnil)) ow [] Tryz.f33 k (I33 s) (E33 p0 p1 p2 s) n=ob (R33 c26 c52 p0 p1 p2 n s) (K2 k)
 | 0,s=>by cases s<;>rfl
 | n+1,s=>by rw [el33];exact nt33 Ops.std c26 c52 p0 p1 p2 _ _ some (K2 k) (rr33 c26 c52 p0 p1 p2 k n) (some s)
def F33 (c26:C26) (c52:C52) (p0:L66) (p1:Int) (p2:L4):Option (Bool):=T33 Ops.std c26 c52 p0 p1 p2 (R33 c26 c52 p0 p1 p2 1000000) some none
def e33 {R:Type} (c:L66→Int→L4→Option (Bool)):Ent R:=fun args objs k=>
 oL args 66 ty66 fun p0 l0=>oI l0 .i64 fun p1 l1=>oL l1 4 ty4 fun p2 l2=>oE l2 objs <| ob (c p0 p1 p2) (K2 k)
abbrev Sp33 (c:L66→Int→L4→Option (Bool)):Prop:=∀ (p0:L66) (p1:Int) (p2:L4) (y:Bool),c p0 p1 p2=some y→Spec Tryz.prog gl0 33 [.c (.list 66 ty66 p0),.c (.int .i64 p1),.c (.list 4 ty4 p2)] [] (.c (.bool y)) []
theorem ek33 {R:Type} {c:L66→Int→L4→Option (Bool)} (hs:Sp33 c):EOk 33 (e33 (R:=R) c):=fun args objs k r h=>by
 unfold e33 at h
 obtain ⟨p0,l0,rfl,q3⟩:=qaw h
 obtain ⟨p1,l1,rfl,q6⟩:=qau q3
 obtain ⟨p2,l2,rfl,q9⟩:=qaw q6
 obtain ⟨rfl,rfl,q11⟩:=qan q9
 exact qap (hs p0 p1 p2) q11
theorem sf33 {c26:C26} {c52:C52} (h26:Sp26 c26) (h52:Sp52 c52):Sp33 (F33 c26 c52):=fun p0 p1 p2 y hy=>by
 refine qak (qae (ek26 h26) (qae (ek52 h52) qaj)) 1000000 (fn:=Tryz.f33) (by kernel_rfl) (by kernel_rfl) (X:=X33) (by kernel_rfl) ?_
 rw [eq33]
 exact (nt33 Ops.std c26 c52 p0 p1 p2 _ _ some (K2 k0) (rr33 c26 c52 p0 p1 p2 k0 1000000) none).trans (by show ob (F33 c26 c52 p0 p1 p2) _=_;rw [hy];rfl)
noncomputable def M33:L66→Int→L4→Option (Bool):=F33 M26 M52
theorem sm33:Sp33 M33:=sf33 sm26 sm52
end Go.Proofs.YtccnmhdgghjgoaaGreatDoor.Av
