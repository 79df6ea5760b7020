/- Twins of functions,printed by gen.py. Conditions: none. -/
import Derived.Test.YtfdlgmbbflmbgaaDoorWf4
import Derived.KernelRfl
set_option linter.unusedSimpArgs false
set_option linter.unusedVariables false
set_option maxRecDepth 100000
set_option maxHeartbeats 8000000
namespace Go.Proofs.YtfdlgmbbflmbgaaDoor.Av
open Go
def X21:Aux:=⟨[(7,([0,2,4,6]++rg 11 129)),(12,([0,2,4,6]++rg 13 127))],[(14,.lin ([0,1,2,3,4,7,8,9,10,11,5,6,12,13,14,15])),(21,.lin (rg 0 16))]⟩
inductive S21 where
 | l0 (v1:Int) (v2:Int) (v8:L22) (v9:L55)
 | l1 (v1:Int) (v2:Int) (v3:Int) (v9:L22) (v10:L55) (v11:L4)
abbrev C19:Type:=L82→L85→L91→L93→Option (Bool)
abbrev C50:Type:=L82→L85→L91→L100→L100→Option (Bool)
abbrev C52:Type:=L82→L85→L91→L3→L3→L140→Option (Int)
abbrev C54:Type:=Int→L4→L4→Int→Int→Option (L4)
def T21 {R:Type} (B:Ops) (c19:C19) (c50:C50) (c51:C51) (c53:C53) (c52:C52) (c54:C54) (p0:L82) (p1:L85) (p2:L91) (p3:L93) (p4:L100) (p5:L100) (again:S21→Option R) (k:(L55)→Option R):Option S21→Option R | none=>ob (c19 p0 p1 p2 p3) fun y0=>cond (!y0) (k (mt (Ty.den ty55))) (ob (c50 p0 p1 p2 p4 p5) fun y1=>cond (!y1) (k (mt (Ty.den ty55))) (ob (c51 p3) fun y2=>again (.l0 (IntKind.wrap .i64 (Nat.cast p4.length+Nat.cast p5.length)) 0 y2 (mt (Ty.den ty55))))) | some (.l0 v1 v2 v8 v9)=>cond (B.lt v2 (↑p3.length)) (cond (B.inb v2 p3.length) (cond (B.eq ((p3.getD v2.toNat ty93.dflt).1) (3)) (cond (bif B.eq v1 v1 then bif B.le (0) v1 then B.lim v1.toNat (1) else false else false) (again (.l1 v1 v2 0 v8 v9 (List.replicate v1.toNat (Ty.dflt Ty.bool)))) none) (cond (B.inb v2 v8.length) (cond (B.lt (0) (Nat.cast (List.length (v8.getD v2.toNat ty22.dflt)))) (cond (B.inb v2 v8.length) (cond (B.inb (0) (List.length (v8.getD v2.toNat ty22.dflt))) (cond (B.lt (List.getD (v8.getD v2.toNat ty22.dflt) (Int.toNat (0)) (Ty.dflt (Ty.int .i64))) (↑v9.length)) (cond (B.inb v2 v8.length) (cond (B.inb (0) (List.length (v8.getD v2.toNat ty22.dflt))) (cond (B.inb (List.getD (v8.getD v2.toNat ty22.dflt) (Int.toNat (0)) (Ty.dflt (Ty.int .i64))) v9.length) (cond (B.inb v2 v8.length) (cond (B.lt (1) (Nat.cast (List.length (v8.getD v2.toNat ty22.dflt)))) (cond (B.inb v2 v8.length) (cond (B.inb (1) (List.length (v8.getD v2.toNat ty22.dflt))) (cond (B.lt (List.getD (v8.getD v2.toNat ty22.dflt) (Int.toNat (1)) (Ty.dflt (Ty.int .i64))) (↑v9.length)) (cond (B.inb v2 v8.length) (cond (B.inb (1) (List.length (v8.getD v2.toNat ty22.dflt))) (cond (B.inb (List.getD (v8.getD v2.toNat ty22.dflt) (Int.toNat (1)) (Ty.dflt (Ty.int .i64))) v9.length) (cond (B.inb v2 p3.length) (ob (c54 ((p3.getD v2.toNat ty93.dflt).1) (v9.getD (Int.toNat (List.getD (v8.getD v2.toNat ty22.dflt) (Int.toNat (0)) (Ty.dflt (Ty.int .i64)))) ty55.dflt) (v9.getD (Int.toNat (List.getD (v8.getD v2.toNat ty22.dflt) (Int.toNat (1)) (Ty.dflt (Ty.int .i64)))) ty55.dflt) v1 (↑p4.length)) fun y0=>cond (B.lim (List.length v9+List.length (y0::mt (Ty.den ty55))) (24)) (again (.l0 v1 (IntKind.wrap .i64 (v2+1)) v8 (v9++y0::mt (Ty.den ty55)))) none) none) none) none) none) (cond (B.inb v2 p3.length) (ob (c54 ((p3.getD v2.toNat ty93.dflt).1) (v9.getD (Int.toNat (List.getD (v8.getD v2.toNat ty22.dflt) (Int.toNat (0)) (Ty.dflt (Ty.int .i64)))) ty55.dflt) (mt (Ty.den Ty.bool)) v1 (↑p4.length)) fun y0=>cond (B.lim (List.length v9+List.length (y0::mt (Ty.den ty55))) (24)) (again (.l0 v1 (IntKind.wrap .i64 (v2+1)) v8 (v9++y0::mt (Ty.den ty55)))) none) none)) none) none) (cond (B.inb v2 p3.length) (ob (c54 ((p3.getD v2.toNat ty93.dflt).1) (v9.getD (Int.toNat (List.getD (v8.getD v2.toNat ty22.dflt) (Int.toNat (0)) (Ty.dflt (Ty.int .i64)))) ty55.dflt) (mt (Ty.den Ty.bool)) v1 (↑p4.length)) fun y0=>cond (B.lim (List.length v9+List.length (y0::mt (Ty.den ty55))) (24)) (again (.l0 v1 (IntKind.wrap .i64 (v2+1)) v8 (v9++y0::mt (Ty.den ty55)))) none) none)) none) none) none) none) (cond (B.inb v2 v8.length) (cond (B.lt (1) (Nat.cast (List.length (v8.getD v2.toNat ty22.dflt)))) (cond (B.inb v2 v8.length) (cond (B.inb (1) (List.length (v8.getD v2.toNat ty22.dflt))) (cond (B.lt (List.getD (v8.getD v2.toNat ty22.dflt) (Int.toNat (1)) (Ty.dflt (Ty.int .i64))) (↑v9.length)) (cond (B.inb v2 v8.length) (cond (B.inb (1) (List.length (v8.getD v2.toNat ty22.dflt))) (cond (B.inb (List.getD (v8.getD v2.toNat ty22.dflt) (Int.toNat (1)) (Ty.dflt (Ty.int .i64))) v9.length) (cond (B.inb v2 p3.length) (ob (c54 ((p3.getD v2.toNat ty93.dflt).1) (mt (Ty.den Ty.bool)) (v9.getD (Int.toNat (List.getD (v8.getD v2.toNat ty22.dflt) (Int.toNat (1)) (Ty.dflt (Ty.int .i64)))) ty55.dflt) v1 (↑p4.length)) fun y0=>cond (B.lim (List.length v9+List.length (y0::mt (Ty.den ty55))) (24)) (again (.l0 v1 (IntKind.wrap .i64 (v2+1)) v8 (v9++y0::mt (Ty.den ty55)))) none) none) none) none) none) (cond (B.inb v2 p3.length) (ob (c54 ((p3.getD v2.toNat ty93.dflt).1) (mt (Ty.den Ty.bool)) (mt (Ty.den Ty.bool)) v1 (↑p4.length)) fun y0=>cond (B.lim (List.length v9+List.length (y0::mt (Ty.den ty55))) (24)) (again (.l0 v1 (IntKind.wrap .i64 (v2+1)) v8 (v9++y0::mt (Ty.den ty55)))) none) none)) none) none) (cond (B.inb v2 p3.length) (ob (c54 ((p3.getD v2.toNat ty93.dflt).1) (mt (Ty.den Ty.bool)) (mt (Ty.den Ty.bool)) v1 (↑p4.length)) fun y0=>cond (B.lim (List.length v9+List.length (y0::mt (Ty.den ty55))) (24)) (again (.l0 v1 (IntKind.wrap .i64 (v2+1)) v8 (v9++y0::mt (Ty.den ty55)))) none) none)) none)) none) none) (cond (B.inb v2 v8.length) (cond (B.lt (1) (Nat.cast (List.length (v8.getD v2.toNat ty22.dflt)))) (cond (B.inb v2 v8.length) (cond (B.inb (1) (List.length (v8.getD v2.toNat ty22.dflt))) (cond (B.lt (List.getD (v8.getD v2.toNat ty22.dflt) (Int.toNat (1)) (Ty.dflt (Ty.int .i64))) (↑v9.length)) (cond (B.inb v2 v8.length) (cond (B.inb (1) (List.length (v8.getD v2.toNat ty22.dflt))) (cond (B.inb (List.getD (v8.getD v2.toNat ty22.dflt) (Int.toNat (1)) (Ty.dflt (Ty.int .i64))) v9.length) (cond (B.inb v2 p3.length) (ob (c54 ((p3.getD v2.toNat ty93.dflt).1) (mt (Ty.den Ty.bool)) (v9.getD (Int.toNat (List.getD (v8.getD v2.toNat ty22.dflt) (Int.toNat (1)) (Ty.dflt (Ty.int .i64)))) ty55.dflt) v1 (↑p4.length)) fun y0=>cond (B.lim (List.length v9+List.length (y0::mt (Ty.den ty55))) (24)) (again (.l0 v1 (IntKind.wrap .i64 (v2+1)) v8 (v9++y0::mt (Ty.den ty55)))) none) none) none) none) none) (cond (B.inb v2 p3.length) (ob (c54 ((p3.getD v2.toNat ty93.dflt).1) (mt (Ty.den Ty.bool)) (mt (Ty.den Ty.bool)) v1 (↑p4.length)) fun y0=>cond (B.lim (List.length v9+List.length (y0::mt (Ty.den ty55))) (24)) (again (.l0 v1 (IntKind.wrap .i64 (v2+1)) v8 (v9++y0::mt (Ty.den ty55)))) none) none)) none) none) (cond (B.inb v2 p3.length) (ob (c54 ((p3.getD v2.toNat ty93.dflt).1) (mt (Ty.den Ty.bool)) (mt (Ty.den Ty.bool)) v1 (↑p4.length)) fun y0=>cond (B.lim (List.length v9+List.length (y0::mt (Ty.den ty55))) (24)) (again (.l0 v1 (IntKind.wrap .i64 (v2+1)) v8 (v9++y0::mt (Ty.den ty55)))) none) none)) none)) none)) none) (k v9) | some (.l1 v1 v2 v3 v9 v10 v11)=>cond (B.lt v3 v1) (cond (B.inb v2 p3.length) (ob (c53 p4 p5 v3) fun y0=>ob (c52 p0 p1 p2 y0.1 y0.2.1 ((p3.getD v2.toNat ty93.dflt).2)) fun y1=>cond (B.inb v3 v11.length) (again (.l1 v1 v2 (IntKind.wrap .i64 (v3+1)) v9 v10 (List.set v11 v3.toNat !B.eq y1 (0)))) none) none) (cond (B.lim (List.length v10+List.length (v11::mt (Ty.den ty55))) (24)) (again (.l0 v1 (IntKind.wrap .i64 (v2+1)) v9 (v10++v11::mt (Ty.den ty55)))) none)
def E21 (p0:L82) (p1:L85) (p2:L91) (p3:L93) (p4:L100) (p5:L100):S21→List AV×Objs
 | .l0 v1 v2 v8 v9=>(mk 140 [(1,.c (.list 93 ty93 p3)),(3,.c (.ptr 3 0)),(5,.c (.ptr 5 0)),(7,.c (.int .i64 v1)),(8,.c (.own 8)),(9,.c (.own 9)),(10,.c (.int .i64 v2))],[(3,.box 40 [.list 82 ty82 p0,.list 85 ty85 p1,.list 91 ty91 p2]),(5,.box 50 [.list 100 ty100 p4,.list 100 ty100 p5]),(8,.row 22 ty22 v8),(9,.row 55 ty55 v9)])
 | .l1 v1 v2 v3 v9 v10 v11=>(mk 140 [(1,.c (.list 93 ty93 p3)),(3,.c (.ptr 3 0)),(5,.c (.ptr 5 0)),(7,.c (.int .i64 v1)),(8,.c (.own 8)),(9,.c (.own 9)),(10,.c (.int .i64 v2)),(11,.c (.own 11)),(12,.c (.int .i64 v3))],[(3,.box 40 [.list 82 ty82 p0,.list 85 ty85 p1,.list 91 ty91 p2]),(5,.box 50 [.list 100 ty100 p4,.list 100 ty100 p5]),(8,.row 22 ty22 v9),(9,.row 55 ty55 v10),(11,.row 4 ty4 v11)])
def I21:S21→Nat
 | .l0 _ _ _ _=>0
 | .l1 _ _ _ _ _ _=>1
abbrev K29 {R:Type} (k:AV→Objs→Option R) (y:(L55)):Option R:=k (.c (.own 500)) [(500,.row 55 ty55 y)]
theorem eq21 {R:Type} (B:Ops) (c19:C19) (c50:C50) (c51:C51) (c53:C53) (c52:C52) (c54:C54) (p0:L82) (p1:L85) (p2:L91) (p3:L93) (p4:L100) (p5:L100) (k:AV→Objs→Option R) (n:Nat):afun tau B gl0 X21 (ent 19 (e19 c19) (ent 50 (e50 c50) (ent 51 (e51 c51) (ent 53 (e53 c53) (ent 52 (e52 c52) (ent 54 (e54 c54) gnil)))))) ow Tryd.f21 [.agg [.list 82 ty82 p0,.list 85 ty85 p1,.list 91 ty91 p2],.c (.list 93 ty93 p3),.agg [.list 100 ty100 p4,.list 100 ty100 p5]] [] k n=T21 B c19 c50 c51 c53 c52 c54 p0 p1 p2 p3 p4 p5 (fun s=>aloop tau B gl0 X21 (ent 19 (e19 c19) (ent 50 (e50 c50) (ent 51 (e51 c51) (ent 53 (e53 c53) (ent 52 (e52 c52) (ent 54 (e54 c54) gnil)))))) ow [] Tryd.f21 k (I21 s) (E21 p0 p1 p2 p3 p4 p5 s) n) (K29 k) none:=by kernel_rfl
theorem el21 {R:Type} (B:Ops) (c19:C19) (c50:C50) (c51:C51) (c53:C53) (c52:C52) (c54:C54) (p0:L82) (p1:L85) (p2:L91) (p3:L93) (p4:L100) (p5:L100) (k:AV→Objs→Option R) (n:Nat):∀ s,aloop tau B gl0 X21 (ent 19 (e19 c19) (ent 50 (e50 c50) (ent 51 (e51 c51) (ent 53 (e53 c53) (ent 52 (e52 c52) (ent 54 (e54 c54) gnil)))))) ow [] Tryd.f21 k (I21 s) (E21 p0 p1 p2 p3 p4 p5 s) (n+1)=T21 B c19 c50 c51 c53 c52 c54 p0 p1 p2 p3 p4 p5 (fun s=>aloop tau B gl0 X21 (ent 19 (e19 c19) (ent 50 (e50 c50) (ent 51 (e51 c51) (ent 53 (e53 c53) (ent 52 (e52 c52) (ent 54 (e54 c54) gnil)))))) ow [] Tryd.f21 k (I21 s) (E21 p0 p1 p2 p3 p4 p5 s) n) (K29 k) (some s):=by
 intro s
 cases s<;>kernel_rfl
theorem nt21 {R R':Type} (B:Ops) (c19:C19) (c50:C50) (c51:C51) (c53:C53) (c52:C52) (c54:C54) (p0:L82) (p1:L85) (p2:L91) (p3:L93) (p4:L100) (p5:L100) (again:S21→Option R) (again':S21→Option R') (k0:(L55)→Option R') (k:R'→Option R) (h:∀ s,again s=ob (again' s) k):∀ s,T21 B c19 c50 c51 c53 c52 c54 p0 p1 p2 p3 p4 p5 again (fun y=>ob (k0 y) k) s=ob (T21 B c19 c50 c51 c53 c52 c54 p0 p1 p2 p3 p4 p5 again' k0 s) k:=by
 rintro (_ | x)
 all_goals try cases x
 all_goals (unfold T21;repeat' first | exact rfl | exact h _ | apply qaf | (apply qao;intro))
def R21 (c19:C19) (c50:C50) (c51:C51) (c53:C53) (c52:C52) (c54:C54) (p0:L82) (p1:L85) (p2:L91) (p3:L93) (p4:L100) (p5:L100):Nat→S21→Option (L55)
 | 0,_=>none
 | n+1,s=>T21 Ops.std c19 c50 c51 c53 c52 c54 p0 p1 p2 p3 p4 p5 (R21 c19 c50 c51 c53 c52 c54 p0 p1 p2 p3 p4 p5 n) some (some s)
theorem rr21 {R:Type} (c19:C19) (c50:C50) (c51:C51) (c53:C53) (c52:C52) (c54:C54) (p0:L82) (p1:L85) (p2:L91) (p3:L93) (p4:L100) (p5:L100) (k:AV→Objs→Option R):∀ (n:Nat) (s:S21),aloop tau Ops.std gl0 X21 (ent 19 (e19 c19) (ent 50 (e50 c50) (ent 51 (e51 c51) (ent 53 (e53 c53) (ent 52 (e52 c52) (ent 54 (e54 c54) gnil)))))) ow [] Tryd.f21 k (I21 s) (E21 p0 p1 p2 p3 p4 p5 s) n=ob (R21 c19 c50 c51 c53 c52 c54 p0 p1 p2 p3 p4 p5 n s) (K29 k)
 | 0,s=>by cases s<;>rfl
 | n+1,s=>by rw [el21];exact nt21 Ops.std c19 c50 c51 c53 c52 c54 p0 p1 p2 p3 p4 p5 _ _ some (K29 k) (rr21 c19 c50 c51 c53 c52 c54 p0 p1 p2 p3 p4 p5 k n) (some s)
def F21 (c19:C19) (c50:C50) (c51:C51) (c53:C53) (c52:C52) (c54:C54) (p0:L82) (p1:L85) (p2:L91) (p3:L93) (p4:L100) (p5:L100):Option (L55):=T21 Ops.std c19 c50 c51 c53 c52 c54 p0 p1 p2 p3 p4 p5 (R21 c19 c50 c51 c53 c52 c54 p0 p1 p2 p3 p4 p5 1000000) some none
def e21 {R:Type} (c:L82→L85→L91→L93→L100→L100→Option (L55)):Ent R:=fun args objs k=>
 oCons args fun a0 l0=>oAgg a0 fun x0=>cCons x0 fun z0_0 w0_0=>cList 82 ty82 z0_0 fun p0=>cCons w0_0 fun z0_1 w0_1=>cList 85 ty85 z0_1 fun p1=>cCons w0_1 fun z0_2 w0_2=>cList 91 ty91 z0_2 fun p2=>cNil w0_2 <| oL l0 93 ty93 fun p3 l1=>oCons l1 fun a2 l2=>oAgg a2 fun x2=>cCons x2 fun z2_0 w2_0=>cList 100 ty100 z2_0 fun p4=>cCons w2_0 fun z2_1 w2_1=>cList 100 ty100 z2_1 fun p5=>cNil w2_1 <| oE l2 objs <| ob (c p0 p1 p2 p3 p4 p5) (K29 k)
abbrev Sp21 (c:L82→L85→L91→L93→L100→L100→Option (L55)):Prop:=∀ (p0:L82) (p1:L85) (p2:L91) (p3:L93) (p4:L100) (p5:L100) (y:L55),c p0 p1 p2 p3 p4 p5=some y→Spec Tryd.prog gl0 21 [.agg [.list 82 ty82 p0,.list 85 ty85 p1,.list 91 ty91 p2],.c (.list 93 ty93 p3),.agg [.list 100 ty100 p4,.list 100 ty100 p5]] [] (.c (.own 500)) [(500,.row 55 ty55 y)]
theorem ek21 {R:Type} {c:L82→L85→L91→L93→L100→L100→Option (L55)} (hs:Sp21 c):EOk 21 (e21 (R:=R) c):=fun args objs k r h=>by
 unfold e21 at h
 obtain ⟨a0,l0,rfl,q1⟩:=qal h
 obtain ⟨x0,rfl,q2⟩:=qav q1
 obtain ⟨z0_0,w0_0,rfl,q3⟩:=qab q2
 obtain ⟨p0,rfl,q4⟩:=qad q3
 obtain ⟨z0_1,w0_1,rfl,q5⟩:=qab q4
 obtain ⟨p1,rfl,q6⟩:=qad q5
 obtain ⟨z0_2,w0_2,rfl,q7⟩:=qab q6
 obtain ⟨p2,rfl,q8⟩:=qad q7
 obtain ⟨rfl,q9⟩:=qar q8
 obtain ⟨p3,l1,rfl,q12⟩:=qaw q9
 obtain ⟨a2,l2,rfl,q13⟩:=qal q12
 obtain ⟨x2,rfl,q14⟩:=qav q13
 obtain ⟨z2_0,w2_0,rfl,q15⟩:=qab q14
 obtain ⟨p4,rfl,q16⟩:=qad q15
 obtain ⟨z2_1,w2_1,rfl,q17⟩:=qab q16
 obtain ⟨p5,rfl,q18⟩:=qad q17
 obtain ⟨rfl,q19⟩:=qar q18
 obtain ⟨rfl,rfl,q21⟩:=qam q19
 exact qap (hs p0 p1 p2 p3 p4 p5) q21
theorem sf21 {c19:C19} {c50:C50} {c51:C51} {c53:C53} {c52:C52} {c54:C54} (h19:Sp19 c19) (h50:Sp50 c50) (h51:Sp51 c51) (h53:Sp53 c53) (h52:Sp52 c52) (h54:Sp54 c54):Sp21 (F21 c19 c50 c51 c53 c52 c54):=fun p0 p1 p2 p3 p4 p5 y hy=>by
 refine qaj (qae (ek19 h19) (qae (ek50 h50) (qae (ek51 h51) (qae (ek53 h53) (qae (ek52 h52) (qae (ek54 h54) qai)))))) 1000000 (fn:=Tryd.f21) (by kernel_rfl) (by kernel_rfl) (X:=X21) (by kernel_rfl) ?_
 rw [eq21]
 exact (nt21 Ops.std c19 c50 c51 c53 c52 c54 p0 p1 p2 p3 p4 p5 _ _ some (K29 k0) (rr21 c19 c50 c51 c53 c52 c54 p0 p1 p2 p3 p4 p5 k0 1000000) none).trans (by show ob (F21 c19 c50 c51 c53 c52 c54 p0 p1 p2 p3 p4 p5) _=_;rw [hy];rfl)
noncomputable def M21:L82→L85→L91→L93→L100→L100→Option (L55):=F21 M19 M50 M51 M53 M52 M54
theorem sm21:Sp21 M21:=sf21 sm19 sm50 sm51 sm53 sm52 sm54
def X23:Aux:=⟨[(6,([2,3,4]++rg 7 12++rg 22 40))],[]⟩
inductive S23 where
 | l0 (v2:Int) (v3:Int) (v4:L22) (v5:L4) (v6:L3)
def T23 {R:Type} (B:Ops) (c56:C56) (c22:C22) (p0:L93) (p1:L4) (again:S23→Option R) (k:(L4)→Option R):Option S23→Option R | none=>cond (!B.eq (↑p1.length) (↑p0.length)) (k (mt (Ty.den Ty.bool))) (ob (c56 p0) fun y0=>ob (c22 p0) fun y1=>again (.l0 (↑y1.length) 0 y0 (mt (Ty.den Ty.bool)) y1)) | some (.l0 v2 v3 v4 v5 v6)=>cond (B.lt v3 v2) (cond (B.inb v3 v6.length) (cond (B.inb (v6.getD v3.toNat ty3.dflt) v4.length) (cond (B.inb (1) (List.length (v4.getD (Int.toNat (v6.getD v3.toNat ty3.dflt)) ty22.dflt))) (cond (B.inb (List.getD (v4.getD (Int.toNat (v6.getD v3.toNat ty3.dflt)) ty22.dflt) (Int.toNat (1)) (Ty.dflt (Ty.int .i64))) p1.length) (cond (B.inb (v6.getD v3.toNat ty3.dflt) p1.length) (cond (!p1.getD (Int.toNat (v6.getD v3.toNat ty3.dflt)) ty4.dflt) (cond (B.inb (v6.getD v3.toNat ty3.dflt) p0.length) (cond (B.eq ((p0.getD (Int.toNat (v6.getD v3.toNat ty3.dflt)) ty93.dflt).1) (10)) (cond (B.inb (v6.getD v3.toNat ty3.dflt) p1.length) (cond (p1.getD (Int.toNat (v6.getD v3.toNat ty3.dflt)) ty4.dflt) (cond (B.lim (List.length v5+List.length (true::mt (Ty.den Ty.bool))) (1)) (again (.l0 v2 (IntKind.wrap .i64 (v3+1)) v4 (v5++true::mt (Ty.den Ty.bool)) v6)) none) (cond (B.lim (List.length v5+List.length ((!p1.getD (Int.toNat (List.getD (v4.getD (Int.toNat (v6.getD v3.toNat ty3.dflt)) ty22.dflt) (Int.toNat (1)) (Ty.dflt (Ty.int .i64)))) ty4.dflt)::mt (Ty.den Ty.bool))) (1)) (again (.l0 v2 (IntKind.wrap .i64 (v3+1)) v4 (v5++(!p1.getD (Int.toNat (List.getD (v4.getD (Int.toNat (v6.getD v3.toNat ty3.dflt)) ty22.dflt) (Int.toNat (1)) (Ty.dflt (Ty.int .i64)))) ty4.dflt)::mt (Ty.den Ty.bool)) v6)) none)) none) (cond (B.lim (List.length v5+List.length (true::mt (Ty.den Ty.bool))) (1)) (again (.l0 v2 (IntKind.wrap .i64 (v3+1)) v4 (v5++true::mt (Ty.den Ty.bool)) v6)) none)) none) (cond (B.inb (v6.getD v3.toNat ty3.dflt) p0.length) (cond (B.eq ((p0.getD (Int.toNat (v6.getD v3.toNat ty3.dflt)) ty93.dflt).1) (10)) (cond (B.inb (v6.getD v3.toNat ty3.dflt) p1.length) (cond (p1.getD (Int.toNat (v6.getD v3.toNat ty3.dflt)) ty4.dflt) (cond (B.lim (List.length v5+List.length (true::mt (Ty.den Ty.bool))) (1)) (again (.l0 v2 (IntKind.wrap .i64 (v3+1)) v4 (v5++true::mt (Ty.den Ty.bool)) v6)) none) (cond (B.lim (List.length v5+List.length ((!p1.getD (Int.toNat (List.getD (v4.getD (Int.toNat (v6.getD v3.toNat ty3.dflt)) ty22.dflt) (Int.toNat (1)) (Ty.dflt (Ty.int .i64)))) ty4.dflt)::mt (Ty.den Ty.bool))) (1)) (again (.l0 v2 (IntKind.wrap .i64 (v3+1)) v4 (v5++(!p1.getD (Int.toNat (List.getD (v4.getD (Int.toNat (v6.getD v3.toNat ty3.dflt)) ty22.dflt) (Int.toNat (1)) (Ty.dflt (Ty.int .i64)))) ty4.dflt)::mt (Ty.den Ty.bool)) v6)) none)) none) (cond (B.lim (List.length v5+List.length (p1.getD (Int.toNat (List.getD (v4.getD (Int.toNat (v6.getD v3.toNat ty3.dflt)) ty22.dflt) (Int.toNat (1)) (Ty.dflt (Ty.int .i64)))) ty4.dflt::mt (Ty.den Ty.bool))) (1)) (again (.l0 v2 (IntKind.wrap .i64 (v3+1)) v4 (v5++p1.getD (Int.toNat (List.getD (v4.getD (Int.toNat (v6.getD v3.toNat ty3.dflt)) ty22.dflt) (Int.toNat (1)) (Ty.dflt (Ty.int .i64)))) ty4.dflt::mt (Ty.den Ty.bool)) v6)) none)) none)) none) none) none) none) none) (k v5)
def E23 (p0:L93) (p1:L4):S23→List AV×Objs
 | .l0 v2 v3 v4 v5 v6=>(mk 62 [(0,.c (.list 93 ty93 p0)),(1,.c (.list 4 ty4 p1)),(5,.c (.own 5)),(6,.c (.own 6)),(19,.c (.own 19)),(20,.c (.int .i64 v2)),(21,.c (.int .i64 v3))],[(5,.row 22 ty22 v4),(6,.row 4 ty4 v5),(19,.row 3 ty3 v6)])
def I23:S23→Nat
 | .l0 _ _ _ _ _=>0
theorem eq23 {R:Type} (B:Ops) (c56:C56) (c22:C22) (p0:L93) (p1:L4) (k:AV→Objs→Option R) (n:Nat):afun tau B gl0 X23 (ent 56 (e56 c56) (ent 22 (e22 c22) gnil)) ow Tryd.f23 [.c (.list 93 ty93 p0),.c (.list 4 ty4 p1)] [] k n=T23 B c56 c22 p0 p1 (fun s=>aloop tau B gl0 X23 (ent 56 (e56 c56) (ent 22 (e22 c22) gnil)) ow [] Tryd.f23 k (I23 s) (E23 p0 p1 s) n) (K28 k) none:=by kernel_rfl
theorem el23 {R:Type} (B:Ops) (c56:C56) (c22:C22) (p0:L93) (p1:L4) (k:AV→Objs→Option R) (n:Nat):∀ s,aloop tau B gl0 X23 (ent 56 (e56 c56) (ent 22 (e22 c22) gnil)) ow [] Tryd.f23 k (I23 s) (E23 p0 p1 s) (n+1)=T23 B c56 c22 p0 p1 (fun s=>aloop tau B gl0 X23 (ent 56 (e56 c56) (ent 22 (e22 c22) gnil)) ow [] Tryd.f23 k (I23 s) (E23 p0 p1 s) n) (K28 k) (some s):=by
 intro s
 cases s<;>kernel_rfl
theorem nt23 {R R':Type} (B:Ops) (c56:C56) (c22:C22) (p0:L93) (p1:L4) (again:S23→Option R) (again':S23→Option R') (k0:(L4)→Option R') (k:R'→Option R) (h:∀ s,again s=ob (again' s) k):∀ s,T23 B c56 c22 p0 p1 again (fun y=>ob (k0 y) k) s=ob (T23 B c56 c22 p0 p1 again' k0 s) k:=by
 rintro (_ | x)
 all_goals try cases x
 all_goals (unfold T23;repeat' first | exact rfl | exact h _ | apply qaf | (apply qao;intro))
def R23 (c56:C56) (c22:C22) (p0:L93) (p1:L4):Nat→S23→Option (L4)
 | 0,_=>none
 | n+1,s=>T23 Ops.std c56 c22 p0 p1 (R23 c56 c22 p0 p1 n) some (some s)
theorem rr23 {R:Type} (c56:C56) (c22:C22) (p0:L93) (p1:L4) (k:AV→Objs→Option R):∀ (n:Nat) (s:S23),aloop tau Ops.std gl0 X23 (ent 56 (e56 c56) (ent 22 (e22 c22) gnil)) ow [] Tryd.f23 k (I23 s) (E23 p0 p1 s) n=ob (R23 c56 c22 p0 p1 n s) (K28 k)
 | 0,s=>by cases s<;>rfl
 | n+1,s=>by rw [el23];exact nt23 Ops.std c56 c22 p0 p1 _ _ some (K28 k) (rr23 c56 c22 p0 p1 k n) (some s)
def F23 (c56:C56) (c22:C22) (p0:L93) (p1:L4):Option (L4):=T23 Ops.std c56 c22 p0 p1 (R23 c56 c22 p0 p1 1000000) some none
def e23 {R:Type} (c:L93→L4→Option (L4)):Ent R:=fun args objs k=>
 oL args 93 ty93 fun p0 l0=>oL l0 4 ty4 fun p1 l1=>oE l1 objs <| ob (c p0 p1) (K28 k)
abbrev Sp23 (c:L93→L4→Option (L4)):Prop:=∀ (p0:L93) (p1:L4) (y:L4),c p0 p1=some y→Spec Tryd.prog gl0 23 [.c (.list 93 ty93 p0),.c (.list 4 ty4 p1)] [] (.c (.own 500)) [(500,.row 4 ty4 y)]
theorem ek23 {R:Type} {c:L93→L4→Option (L4)} (hs:Sp23 c):EOk 23 (e23 (R:=R) c):=fun args objs k r h=>by
 unfold e23 at h
 obtain ⟨p0,l0,rfl,q3⟩:=qaw h
 obtain ⟨p1,l1,rfl,q6⟩:=qaw q3
 obtain ⟨rfl,rfl,q8⟩:=qam q6
 exact qap (hs p0 p1) q8
theorem sf23 {c56:C56} {c22:C22} (h56:Sp56 c56) (h22:Sp22 c22):Sp23 (F23 c56 c22):=fun p0 p1 y hy=>by
 refine qaj (qae (ek56 h56) (qae (ek22 h22) qai)) 1000000 (fn:=Tryd.f23) (by kernel_rfl) (by kernel_rfl) (X:=X23) (by kernel_rfl) ?_
 rw [eq23]
 exact (nt23 Ops.std c56 c22 p0 p1 _ _ some (K28 k0) (rr23 c56 c22 p0 p1 k0 1000000) none).trans (by show ob (F23 c56 c22 p0 p1) _=_;rw [hy];rfl)
noncomputable def M23:L93→L4→Option (L4):=F23 M56 M22
theorem sm23:Sp23 M23:=sf23 sm56 sm22
def X24:Aux:=⟨[(3,([1,2]++rg 5 25))],[]⟩
inductive S24 where
 | l0 (v1:Int) (v2:L3)
def T24 {R:Type} (B:Ops) (p0:L93) (again:S24→Option R) (k:(L3)→Option R):Option S24→Option R | none=>again (.l0 0 (mt (Ty.den (Ty.int .i64)))) | some (.l0 v1 v2)=>cond (B.lt v1 (↑p0.length)) (cond (B.inb v1 p0.length) (cond (B.eq ((p0.getD v1.toNat ty93.dflt).1) (9)) (cond (B.lim (List.length v2+List.length (v1::mt (Ty.den (Ty.int .i64)))) (8)) (again (.l0 (IntKind.wrap .i64 (v1+1)) (v2++v1::mt (Ty.den (Ty.int .i64))))) none) (cond (B.inb v1 p0.length) (cond (B.eq ((p0.getD v1.toNat ty93.dflt).1) (10)) (cond (B.lim (List.length v2+List.length (v1::mt (Ty.den (Ty.int .i64)))) (8)) (again (.l0 (IntKind.wrap .i64 (v1+1)) (v2++v1::mt (Ty.den (Ty.int .i64))))) none) (again (.l0 (IntKind.wrap .i64 (v1+1)) v2))) none)) none) (k v2)
def E24 (p0:L93):S24→List AV×Objs
 | .l0 v1 v2=>(mk 30 [(0,.c (.list 93 ty93 p0)),(3,.c (.own 3)),(4,.c (.int .i64 v1))],[(3,.row 3 ty3 v2)])
def I24:S24→Nat
 | .l0 _ _=>0
theorem eq24 {R:Type} (B:Ops) (p0:L93) (k:AV→Objs→Option R) (n:Nat):afun tau B gl0 X24 gnil ow Tryd.f24 [.c (.list 93 ty93 p0)] [] k n=T24 B p0 (fun s=>aloop tau B gl0 X24 gnil ow [] Tryd.f24 k (I24 s) (E24 p0 s) n) (K16 k) none:=by kernel_rfl
theorem el24 {R:Type} (B:Ops) (p0:L93) (k:AV→Objs→Option R) (n:Nat):∀ s,aloop tau B gl0 X24 gnil ow [] Tryd.f24 k (I24 s) (E24 p0 s) (n+1)=T24 B p0 (fun s=>aloop tau B gl0 X24 gnil ow [] Tryd.f24 k (I24 s) (E24 p0 s) n) (K16 k) (some s):=by
 intro s
 cases s<;>kernel_rfl
theorem nt24 {R R':Type} (B:Ops) (p0:L93) (again:S24→Option R) (again':S24→Option R') (k0:(L3)→Option R') (k:R'→Option R) (h:∀ s,again s=ob (again' s) k):∀ s,T24 B p0 again (fun y=>ob (k0 y) k) s=ob (T24 B p0 again' k0 s) k:=by
 rintro (_ | x)
 all_goals try cases x
 all_goals (unfold T24;repeat' first | exact rfl | exact h _ | apply qaf | (apply qao;intro))
def R24 (p0:L93):Nat→S24→Option (L3)
 | 0,_=>none
 | n+1,s=>T24 Ops.std p0 (R24 p0 n) some (some s)
theorem rr24 {R:Type} (p0:L93) (k:AV→Objs→Option R):∀ (n:Nat) (s:S24),aloop tau Ops.std gl0 X24 gnil ow [] Tryd.f24 k (I24 s) (E24 p0 s) n=ob (R24 p0 n s) (K16 k)
 | 0,s=>by cases s<;>rfl
 | n+1,s=>by rw [el24];exact nt24 Ops.std p0 _ _ some (K16 k) (rr24 p0 k n) (some s)
def F24 (p0:L93):Option (L3):=T24 Ops.std p0 (R24 p0 1000000) some none
def e24 {R:Type} (c:L93→Option (L3)):Ent R:=fun args objs k=>
 oL args 93 ty93 fun p0 l0=>oE l0 objs <| ob (c p0) (K16 k)
abbrev Sp24 (c:L93→Option (L3)):Prop:=∀ (p0:L93) (y:L3),c p0=some y→Spec Tryd.prog gl0 24 [.c (.list 93 ty93 p0)] [] (.c (.own 500)) [(500,.row 3 ty3 y)]
theorem ek24 {R:Type} {c:L93→Option (L3)} (hs:Sp24 c):EOk 24 (e24 (R:=R) c):=fun args objs k r h=>by
 unfold e24 at h
 obtain ⟨p0,l0,rfl,q3⟩:=qaw h
 obtain ⟨rfl,rfl,q5⟩:=qam q3
 exact qap (hs p0) q5
theorem sf24:Sp24 (F24):=fun p0 y hy=>by
 refine qaj qai 1000000 (fn:=Tryd.f24) (by kernel_rfl) (by kernel_rfl) (X:=X24) (by kernel_rfl) ?_
 rw [eq24]
 exact (nt24 Ops.std p0 _ _ some (K16 k0) (rr24 p0 k0 1000000) none).trans (by show ob (F24 p0) _=_;rw [hy];rfl)
noncomputable def M24:L93→Option (L3):=F24
theorem sm24:Sp24 M24:=sf24
def X5:Aux:=⟨[(14,(rg 0 12++rg 18 122)),(18,(rg 0 12++rg 19 64++rg 85 55)),(26,(rg 0 12++[18,19]++rg 21 85++rg 108 32)),(31,(rg 0 12++[13,14]++rg 17 108++rg 127 13)),(1000009,([0,1,2,5,6,7,8,9,10]++rg 13 127))],[]⟩
inductive S5 where
 | l0 (v0:L93) (v1:Int) (v2:Int) (v3:L100) (v4:L100) (v5:L55) (v6:L4)
 | l1 (v0:L93) (v1:Int) (v2:Int) (v3:Int) (v4:Int) (v5:L100) (v6:L100) (v7:L55) (v8:L4) (v9:L4)
 | l2 (v0:L93) (v1:Int) (v2:Int) (v3:Int) (v4:Int) (v5:L100) (v6:L100) (v7:L55) (v8:L4) (v9:L4)
 | l3 (v0:L93) (v1:Int) (v2:Int) (v3:Int) (v4:L4)
 | l1009 (v2:L82) (v3:L85) (v4:L91) (v5:L93)
abbrev C12:Type:=Option (Bool)
abbrev C13:Type:=Int→Int→L22→Option (L82×L85×L91)
abbrev C16:Type:=L3→Option (LB)
abbrev C14:Type:=L93→Option (L93)
abbrev C17:Type:=L93→Option (L93)
abbrev C20:Type:=L82→L85→L91→L3→L3→Option (L100×L100)
abbrev C21:Type:=L82→L85→L91→L93→L100→L100→Option (L55)
abbrev C23:Type:=L93→L4→Option (L4)
abbrev C24:Type:=L93→Option (L3)
def T5 {R:Type} (B:Ops) (c12:C12) (c13:C13) (c16:C16) (c15:C15) (c14:C14) (c17:C17) (c18:C18) (c19:C19) (c20:C20) (c21:C21) (c22:C22) (c23:C23) (c24:C24) (p0:L3) (p1:Bool) (p2:Int) (p3:Int) (p4:L22) (p5:L3) (p6:L3) (again:S5→Option R) (k:(Bool)→Option R):Option S5→Option R | none=>ob (c12) fun y0=>cond (!y0) (k false) (ob (c13 p2 p3 p4) fun y1=>ob (c16 p0) fun y2=>ob (c15 y2) fun y3=>ob (c14 y3) fun y4=>cond (p1) (ob (c16 p0) fun y5=>ob (c15 y5) fun y6=>ob (c17 y6) fun y7=>ob (c12) fun y8=>cond (!y8) (ob (c12) fun y9=>k y9) (cond (B.eq (↑y7.length) (0)) (ob (c12) fun y9=>k y9) (ob (c18 y1.1 y1.2.1 y1.2.2) fun y9=>cond (!y9) (ob (c12) fun y10=>k y10) (ob (c19 y1.1 y1.2.1 y1.2.2 y7) fun y10=>cond (!y10) (ob (c12) fun y11=>k y11) (again (.l1009 y1.1 y1.2.1 y1.2.2 y7)))))) (ob (c12) fun y5=>cond (!y5) (ob (c12) fun y6=>k y6) (cond (B.eq (↑y4.length) (0)) (ob (c12) fun y6=>k y6) (ob (c18 y1.1 y1.2.1 y1.2.2) fun y6=>cond (!y6) (ob (c12) fun y7=>k y7) (ob (c19 y1.1 y1.2.1 y1.2.2 y4) fun y7=>cond (!y7) (ob (c12) fun y8=>k y8) (again (.l1009 y1.1 y1.2.1 y1.2.2 y4))))))) | some (.l0 v0 v1 v2 v3 v4 v5 v6)=>cond (B.lt v2 (IntKind.wrap .i64 (Nat.cast v3.length+Nat.cast v4.length))) (again (.l1 v0 v1 v2 (↑v5.length) 0 v3 v4 v5 v6 (mt (Ty.den Ty.bool)))) (again (.l3 v0 v1 (↑v6.length) 0 v6)) | some (.l1 v0 v1 v2 v3 v4 v5 v6 v7 v8 v9)=>cond (B.lt v4 v3) (cond (B.inb v4 v7.length) (cond (B.inb v2 (List.length (v7.getD v4.toNat ty55.dflt))) (cond (B.lim (List.length v9+List.length (List.getD (v7.getD v4.toNat ty55.dflt) v2.toNat (Ty.dflt Ty.bool)::mt (Ty.den Ty.bool))) (1)) (again (.l1 v0 v1 v2 v3 (IntKind.wrap .i64 (v4+1)) v5 v6 v7 v8 (v9++List.getD (v7.getD v4.toNat ty55.dflt) v2.toNat (Ty.dflt Ty.bool)::mt (Ty.den Ty.bool)))) none) none) none) (ob (c23 v0 v9) fun y0=>cond (!B.eq (↑y0.length) v1) (k false) (again (.l2 v0 v1 v2 (↑y0.length) 0 v5 v6 v7 v8 y0))) | some (.l2 v0 v1 v2 v3 v4 v5 v6 v7 v8 v9)=>cond (B.lt v4 v3) (cond (B.inb v4 v8.length) (cond (v8.getD v4.toNat ty4.dflt) (cond (B.inb v4 v8.length) (again (.l2 v0 v1 v2 v3 (IntKind.wrap .i64 (v4+1)) v5 v6 v7 (List.set v8 v4.toNat true) v9)) none) (cond (B.inb v4 v9.length) (cond (B.inb v4 v8.length) (again (.l2 v0 v1 v2 v3 (IntKind.wrap .i64 (v4+1)) v5 v6 v7 (List.set v8 v4.toNat (v9.getD v4.toNat ty4.dflt)) v9)) none) none)) none) (again (.l0 v0 v1 (IntKind.wrap .i64 (v2+1)) v5 v6 v7 v8)) | some (.l3 v0 v1 v2 v3 v4)=>cond (B.lt v3 v2) (cond (B.inb v3 v4.length) (cond (!v4.getD v3.toNat ty4.dflt) (k false) (again (.l3 v0 v1 v2 (IntKind.wrap .i64 (v3+1)) v4))) none) (ob (c24 v0) fun y0=>k (B.eq v1 (↑y0.length))) | some (.l1009 v2 v3 v4 v5)=>ob (c20 v2 v3 v4 p5 p6) fun y0=>ob (c21 v2 v3 v4 v5 y0.1 y0.2) fun y1=>ob (c22 v5) fun y2=>cond (bif B.eq (↑y2.length) (↑y2.length) then bif B.le (0) (↑y2.length) then B.lim (Int.toNat (↑y2.length)) (1) else false else false) (again (.l0 v5 (↑y2.length) (Nat.cast (List.length y0.1)) y0.1 y0.2 y1 (List.replicate (Int.toNat (↑y2.length)) (Ty.dflt Ty.bool)))) none
def E5 (p0:L3) (p1:Bool) (p2:Int) (p3:Int) (p4:L22) (p5:L3) (p6:L3):S5→List AV×Objs
 | .l0 v0 v1 v2 v3 v4 v5 v6=>(mk 140 [(12,.c (.list 93 ty93 v0)),(13,.c (.ptr 13 0)),(14,.c (.own 14)),(15,.c (.int .i64 v1)),(16,.c (.own 16)),(17,.c (.int .i64 v2))],[(13,.box 50 [.list 100 ty100 v3,.list 100 ty100 v4]),(14,.row 55 ty55 v5),(16,.row 4 ty4 v6)])
 | .l1 v0 v1 v2 v3 v4 v5 v6 v7 v8 v9=>(mk 140 [(12,.c (.list 93 ty93 v0)),(13,.c (.ptr 13 0)),(14,.c (.own 14)),(15,.c (.int .i64 v1)),(16,.c (.own 16)),(17,.c (.int .i64 v2)),(18,.c (.own 18)),(83,.c (.int .i64 v3)),(84,.c (.int .i64 v4))],[(13,.box 50 [.list 100 ty100 v5,.list 100 ty100 v6]),(14,.row 55 ty55 v7),(16,.row 4 ty4 v8),(18,.row 4 ty4 v9)])
 | .l2 v0 v1 v2 v3 v4 v5 v6 v7 v8 v9=>(mk 140 [(12,.c (.list 93 ty93 v0)),(13,.c (.ptr 13 0)),(14,.c (.own 14)),(15,.c (.int .i64 v1)),(16,.c (.own 16)),(17,.c (.int .i64 v2)),(20,.c (.own 20)),(106,.c (.int .i64 v3)),(107,.c (.int .i64 v4))],[(13,.box 50 [.list 100 ty100 v5,.list 100 ty100 v6]),(14,.row 55 ty55 v7),(16,.row 4 ty4 v8),(20,.row 4 ty4 v9)])
 | .l3 v0 v1 v2 v3 v4=>(mk 140 [(12,.c (.list 93 ty93 v0)),(15,.c (.int .i64 v1)),(16,.c (.own 16)),(125,.c (.int .i64 v2)),(126,.c (.int .i64 v3))],[(16,.row 4 ty4 v4)])
 | .l1009 v2 v3 v4 v5=>(mk 140 [(3,.c (.list 3 ty3 p5)),(4,.c (.list 3 ty3 p6)),(11,.c (.ptr 11 0)),(12,.c (.own 12))],[(11,.box 40 [.list 82 ty82 v2,.list 85 ty85 v3,.list 91 ty91 v4]),(12,.row 93 ty93 v5)])
def I5:S5→Nat
 | .l0 _ _ _ _ _ _ _=>0
 | .l1 _ _ _ _ _ _ _ _ _ _=>1
 | .l2 _ _ _ _ _ _ _ _ _ _=>2
 | .l3 _ _ _ _ _=>3
 | .l1009 _ _ _ _=>1009
theorem eq5 {R:Type} (B:Ops) (c12:C12) (c13:C13) (c16:C16) (c15:C15) (c14:C14) (c17:C17) (c18:C18) (c19:C19) (c20:C20) (c21:C21) (c22:C22) (c23:C23) (c24:C24) (p0:L3) (p1:Bool) (p2:Int) (p3:Int) (p4:L22) (p5:L3) (p6:L3) (k:AV→Objs→Option R) (n:Nat):afun tau B gl0 X5 (ent 12 (e12 c12) (ent 13 (e13 c13) (ent 16 (e16 c16) (ent 15 (e15 c15) (ent 14 (e14 c14) (ent 17 (e17 c17) (ent 18 (e18 c18) (ent 19 (e19 c19) (ent 20 (e20 c20) (ent 21 (e21 c21) (ent 22 (e22 c22) (ent 23 (e23 c23) (ent 24 (e24 c24) gnil))))))))))))) ow Tryd.f5 [.c (.list 3 ty3 p0),.c (.bool p1),.agg [.int .i64 p2,.int .i64 p3,.list 22 ty22 p4],.c (.list 3 ty3 p5),.c (.list 3 ty3 p6)] [] k n=T5 B c12 c13 c16 c15 c14 c17 c18 c19 c20 c21 c22 c23 c24 p0 p1 p2 p3 p4 p5 p6 (fun s=>aloop tau B gl0 X5 (ent 12 (e12 c12) (ent 13 (e13 c13) (ent 16 (e16 c16) (ent 15 (e15 c15) (ent 14 (e14 c14) (ent 17 (e17 c17) (ent 18 (e18 c18) (ent 19 (e19 c19) (ent 20 (e20 c20) (ent 21 (e21 c21) (ent 22 (e22 c22) (ent 23 (e23 c23) (ent 24 (e24 c24) gnil))))))))))))) ow [] Tryd.f5 k (I5 s) (E5 p0 p1 p2 p3 p4 p5 p6 s) n) (K1 k) none:=by kernel_rfl
theorem el5 {R:Type} (B:Ops) (c12:C12) (c13:C13) (c16:C16) (c15:C15) (c14:C14) (c17:C17) (c18:C18) (c19:C19) (c20:C20) (c21:C21) (c22:C22) (c23:C23) (c24:C24) (p0:L3) (p1:Bool) (p2:Int) (p3:Int) (p4:L22) (p5:L3) (p6:L3) (k:AV→Objs→Option R) (n:Nat):∀ s,aloop tau B gl0 X5 (ent 12 (e12 c12) (ent 13 (e13 c13) (ent 16 (e16 c16) (ent 15 (e15 c15) (ent 14 (e14 c14) (ent 17 (e17 c17) (ent 18 (e18 c18) (ent 19 (e19 c19) (ent 20 (e20 c20) (ent 21 (e21 c21) (ent 22 (e22 c22) (ent 23 (e23 c23) (ent 24 (e24 c24) gnil))))))))))))) ow [] Tryd.f5 k (I5 s) (E5 p0 p1 p2 p3 p4 p5 p6 s) (n+1)=T5 B c12 c13 c16 c15 c14 c17 c18 c19 c20 c21 c22 c23 c24 p0 p1 p2 p3 p4 p5 p6 (fun s=>aloop tau B gl0 X5 (ent 12 (e12 c12) (ent 13 (e13 c13) (ent 16 (e16 c16) (ent 15 (e15 c15) (ent 14 (e14 c14) (ent 17 (e17 c17) (ent 18 (e18 c18) (ent 19 (e19 c19) (ent 20 (e20 c20) (ent 21 (e21 c21) (ent 22 (e22 c22) (ent 23 (e23 c23) (ent 24 (e24 c24) gnil))))))))))))) ow [] Tryd.f5 k (I5 s) (E5 p0 p1 p2 p3 p4 p5 p6 s) n) (K1 k) (some s):=by
 intro s
 cases s<;>kernel_rfl
theorem nt5 {R R':Type} (B:Ops) (c12:C12) (c13:C13) (c16:C16) (c15:C15) (c14:C14) (c17:C17) (c18:C18) (c19:C19) (c20:C20) (c21:C21) (c22:C22) (c23:C23) (c24:C24) (p0:L3) (p1:Bool) (p2:Int) (p3:Int) (p4:L22) (p5:L3) (p6:L3) (again:S5→Option R) (again':S5→Option R') (k0:(Bool)→Option R') (k:R'→Option R) (h:∀ s,again s=ob (again' s) k):∀ s,T5 B c12 c13 c16 c15 c14 c17 c18 c19 c20 c21 c22 c23 c24 p0 p1 p2 p3 p4 p5 p6 again (fun y=>ob (k0 y) k) s=ob (T5 B c12 c13 c16 c15 c14 c17 c18 c19 c20 c21 c22 c23 c24 p0 p1 p2 p3 p4 p5 p6 again' k0 s) k:=by
 rintro (_ | x)
 all_goals try cases x
 all_goals (unfold T5;repeat' first | exact rfl | exact h _ | apply qaf | (apply qao;intro))
def R5 (c12:C12) (c13:C13) (c16:C16) (c15:C15) (c14:C14) (c17:C17) (c18:C18) (c19:C19) (c20:C20) (c21:C21) (c22:C22) (c23:C23) (c24:C24) (p0:L3) (p1:Bool) (p2:Int) (p3:Int) (p4:L22) (p5:L3) (p6:L3):Nat→S5→Option (Bool)
 | 0,_=>none
 | n+1,s=>T5 Ops.std c12 c13 c16 c15 c14 c17 c18 c19 c20 c21 c22 c23 c24 p0 p1 p2 p3 p4 p5 p6 (R5 c12 c13 c16 c15 c14 c17 c18 c19 c20 c21 c22 c23 c24 p0 p1 p2 p3 p4 p5 p6 n) some (some s)
theorem rr5 {R:Type} (c12:C12) (c13:C13) (c16:C16) (c15:C15) (c14:C14) (c17:C17) (c18:C18) (c19:C19) (c20:C20) (c21:C21) (c22:C22) (c23:C23) (c24:C24) (p0:L3) (p1:Bool) (p2:Int) (p3:Int) (p4:L22) (p5:L3) (p6:L3) (k:AV→Objs→Option R):∀ (n:Nat) (s:S5),aloop tau Ops.std gl0 X5 (ent 12 (e12 c12) (ent 13 (e13 c13) (ent 16 (e16 c16) (ent 15 (e15 c15) (ent 14 (e14 c14) (ent 17 (e17 c17) (ent 18 (e18 c18) (ent 19 (e19 c19) (ent 20 (e20 c20) (ent 21 (e21 c21) (ent 22 (e22 c22) (ent 23 (e23 c23) (ent 24 (e24 c24) gnil))))))))))))) ow [] Tryd.f5 k (I5 s) (E5 p0 p1 p2 p3 p4 p5 p6 s) n=ob (R5 c12 c13 c16 c15 c14 c17 c18 c19 c20 c21 c22 c23 c24 p0 p1 p2 p3 p4 p5 p6 n s) (K1 k)
 | 0,s=>by cases s<;>rfl
 | n+1,s=>by rw [el5];exact nt5 Ops.std c12 c13 c16 c15 c14 c17 c18 c19 c20 c21 c22 c23 c24 p0 p1 p2 p3 p4 p5 p6 _ _ some (K1 k) (rr5 c12 c13 c16 c15 c14 c17 c18 c19 c20 c21 c22 c23 c24 p0 p1 p2 p3 p4 p5 p6 k n) (some s)
def F5 (c12:C12) (c13:C13) (c16:C16) (c15:C15) (c14:C14) (c17:C17) (c18:C18) (c19:C19) (c20:C20) (c21:C21) (c22:C22) (c23:C23) (c24:C24) (p0:L3) (p1:Bool) (p2:Int) (p3:Int) (p4:L22) (p5:L3) (p6:L3):Option (Bool):=T5 Ops.std c12 c13 c16 c15 c14 c17 c18 c19 c20 c21 c22 c23 c24 p0 p1 p2 p3 p4 p5 p6 (R5 c12 c13 c16 c15 c14 c17 c18 c19 c20 c21 c22 c23 c24 p0 p1 p2 p3 p4 p5 p6 1000000) some none
def e5 {R:Type} (c:L3→Bool→Int→Int→L22→L3→L3→Option (Bool)):Ent R:=fun args objs k=>
 oL args 3 ty3 fun p0 l0=>oCons l0 fun a1 l1=>oC a1 fun x1=>cBool x1 fun p1=>oCons l1 fun a2 l2=>oAgg a2 fun x2=>cCons x2 fun z2_0 w2_0=>cInt .i64 z2_0 fun p2=>cCons w2_0 fun z2_1 w2_1=>cInt .i64 z2_1 fun p3=>cCons w2_1 fun z2_2 w2_2=>cList 22 ty22 z2_2 fun p4=>cNil w2_2 <| oL l2 3 ty3 fun p5 l3=>oL l3 3 ty3 fun p6 l4=>oE l4 objs <| ob (c p0 p1 p2 p3 p4 p5 p6) (K1 k)
abbrev Sp5 (c:L3→Bool→Int→Int→L22→L3→L3→Option (Bool)):Prop:=∀ (p0:L3) (p1:Bool) (p2:Int) (p3:Int) (p4:L22) (p5:L3) (p6:L3) (y:Bool),c p0 p1 p2 p3 p4 p5 p6=some y→Spec Tryd.prog gl0 5 [.c (.list 3 ty3 p0),.c (.bool p1),.agg [.int .i64 p2,.int .i64 p3,.list 22 ty22 p4],.c (.list 3 ty3 p5),.c (.list 3 ty3 p6)] [] (.c (.bool y)) []
theorem sf5 {c12:C12} {c13:C13} {c16:C16} {c15:C15} {c14:C14} {c17:C17} {c18:C18} {c19:C19} {c20:C20} {c21:C21} {c22:C22} {c23:C23} {c24:C24} (h12:Sp12 c12) (h13:Sp13 c13) (h16:Sp16 c16) (h15:Sp15 c15) (h14:Sp14 c14) (h17:Sp17 c17) (h18:Sp18 c18) (h19:Sp19 c19) (h20:Sp20 c20) (h21:Sp21 c21) (h22:Sp22 c22) (h23:Sp23 c23) (h24:Sp24 c24):Sp5 (F5 c12 c13 c16 c15 c14 c17 c18 c19 c20 c21 c22 c23 c24):=fun p0 p1 p2 p3 p4 p5 p6 y hy=>by
 refine qaj (qae (ek12 h12) (qae (ek13 h13) (qae (ek16 h16) (qae (ek15 h15) (qae (ek14 h14) (qae (ek17 h17) (qae (ek18 h18) (qae (ek19 h19) (qae (ek20 h20) (qae (ek21 h21) (qae (ek22 h22) (qae (ek23 h23) (qae (ek24 h24) qai))))))))))))) 1000000 (fn:=Tryd.f5) (by kernel_rfl) (by kernel_rfl) (X:=X5) (by kernel_rfl) ?_
 rw [eq5]
 exact (nt5 Ops.std c12 c13 c16 c15 c14 c17 c18 c19 c20 c21 c22 c23 c24 p0 p1 p2 p3 p4 p5 p6 _ _ some (K1 k0) (rr5 c12 c13 c16 c15 c14 c17 c18 c19 c20 c21 c22 c23 c24 p0 p1 p2 p3 p4 p5 p6 k0 1000000) none).trans (by show ob (F5 c12 c13 c16 c15 c14 c17 c18 c19 c20 c21 c22 c23 c24 p0 p1 p2 p3 p4 p5 p6) _=_;rw [hy];rfl)
noncomputable def M5:L3→Bool→Int→Int→L22→L3→L3→Option (Bool):=F5 M12 M13 M16 M15 M14 M17 M18 M19 M20 M21 M22 M23 M24
theorem sm5:Sp5 M5:=sf5 sm12 sm13 sm16 sm15 sm14 sm17 sm18 sm19 sm20 sm21 sm22 sm23 sm24
end Go.Proofs.YtfdlgmbbflmbgaaDoor.Av
