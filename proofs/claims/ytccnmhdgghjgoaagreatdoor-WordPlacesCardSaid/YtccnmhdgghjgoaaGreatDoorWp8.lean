/- Twins of functions,printed by gen.py. Conditions: none. -/
import Derived.Test.YtccnmhdgghjgoaaGreatDoorWp7
import Derived.KernelRfl
set_option linter.unusedSimpArgs false
set_option linter.unusedVariables false
set_option maxRecDepth 100000
set_option maxHeartbeats 8000000
namespace Go.Proofs.YtccnmhdgghjgoaaGreatDoor.Av
open Go
def X138:Aux:=⟨[(2,([2,3,4,5,6]++rg 9 10))],[]⟩
inductive S138 where
 | l0 (v1:Int) (v2:Int) (v3:L94) (v4:L98) (v5:L103)
abbrev C79:Type:=L3→L3→L3→L94→L98→L103→Option (Bool×L94×L98×L103)
def T138 {R:Type} (B:Ops) (c79:C79) (p0:L68) (p1:L94) (p2:L98) (p3:L103) (again:S138→Option R) (k:(Int×L94×L98×L103)→Option R):Option S138→Option R | none=>again (.l0 (↑p0.length) 0 p1 p2 p3) | some (.l0 v1 v2 v3 v4 v5)=>cond (B.lt v2 v1) (cond (B.inb v2 p0.length) (ob (c79 (((p0.getD v2.toNat ty68.dflt).1).1) (((p0.getD v2.toNat ty68.dflt).1).2) ((p0.getD v2.toNat ty68.dflt).2) v3 v4 v5) fun y0=>cond y0.1 (k ((v2,y0.2.1,(y0.2.2).1,(y0.2.2).2))) (again (.l0 v1 (IntKind.wrap .i64 (v2+1)) y0.2.1 ((y0.2.2).1) ((y0.2.2).2)))) none) (k ((-1,v3,v4,v5)))
def E138 (p0:L68) (p1:L94) (p2:L98) (p3:L103):S138→List AV×Objs
 | .l0 v1 v2 v3 v4 v5=>(mk 19 [(0,.c (.list 68 ty68 p0)),(1,.fn 79 [.ptr 2500 0]),(7,.c (.int .i64 v1)),(8,.c (.int .i64 v2))],[(2500,.box 31 [.list 94 ty94 v3,.list 98 ty98 v4,.list 103 ty103 v5])])
def I138:S138→Nat
 | .l0 _ _ _ _ _=>0
theorem eq138 {R:Type} (B:Ops) (c79:C79) (p0:L68) (p1:L94) (p2:L98) (p3:L103) (k:AV→Objs→Option R) (n:Nat):afun tau B gl0 X138 (ent 79 (e79 c79) gnil) ow Tryz.f138 [.c (.list 68 ty68 p0),.fn 79 [.ptr 2500 0]] [(2500,.box 31 [.list 94 ty94 p1,.list 98 ty98 p2,.list 103 ty103 p3])] k n=T138 B c79 p0 p1 p2 p3 (fun s=>aloop tau B gl0 X138 (ent 79 (e79 c79) gnil) ow [2500] Tryz.f138 k (I138 s) (E138 p0 p1 p2 p3 s) n) (K10 k) none:=by kernel_rfl
theorem el138 {R:Type} (B:Ops) (c79:C79) (p0:L68) (p1:L94) (p2:L98) (p3:L103) (k:AV→Objs→Option R) (n:Nat):∀ s,aloop tau B gl0 X138 (ent 79 (e79 c79) gnil) ow [2500] Tryz.f138 k (I138 s) (E138 p0 p1 p2 p3 s) (n+1)=T138 B c79 p0 p1 p2 p3 (fun s=>aloop tau B gl0 X138 (ent 79 (e79 c79) gnil) ow [2500] Tryz.f138 k (I138 s) (E138 p0 p1 p2 p3 s) n) (K10 k) (some s):=by
 intro s
 cases s<;>kernel_rfl
theorem nt138 {R R':Type} (B:Ops) (c79:C79) (p0:L68) (p1:L94) (p2:L98) (p3:L103) (again:S138→Option R) (again':S138→Option R') (k0:(Int×L94×L98×L103)→Option R') (k:R'→Option R) (h:∀ s,again s=ob (again' s) k):∀ s,T138 B c79 p0 p1 p2 p3 again (fun y=>ob (k0 y) k) s=ob (T138 B c79 p0 p1 p2 p3 again' k0 s) k:=by
 rintro (_ | x)
 all_goals try cases x
 all_goals (unfold T138;repeat' first | exact rfl | exact h _ | apply qaf | (apply qap;intro))
def R138 (c79:C79) (p0:L68) (p1:L94) (p2:L98) (p3:L103):Nat→S138→Option (Int×L94×L98×L103)
 | 0,_=>none
 | n+1,s=>T138 Ops.std c79 p0 p1 p2 p3 (R138 c79 p0 p1 p2 p3 n) some (some s)
theorem rr138 {R:Type} (c79:C79) (p0:L68) (p1:L94) (p2:L98) (p3:L103) (k:AV→Objs→Option R):∀ (n:Nat) (s:S138),aloop tau Ops.std gl0 X138 (ent 79 (e79 c79) gnil) ow [2500] Tryz.f138 k (I138 s) (E138 p0 p1 p2 p3 s) n=ob (R138 c79 p0 p1 p2 p3 n s) (K10 k)
 | 0,s=>by cases s<;>rfl
 | n+1,s=>by rw [el138];exact nt138 Ops.std c79 p0 p1 p2 p3 _ _ some (K10 k) (rr138 c79 p0 p1 p2 p3 k n) (some s)
def F138 (c79:C79) (p0:L68) (p1:L94) (p2:L98) (p3:L103):Option (Int×L94×L98×L103):=T138 Ops.std c79 p0 p1 p2 p3 (R138 c79 p0 p1 p2 p3 1000000) some none
def e138 {R:Type} (c:L68→L94→L98→L103→Option (Int×L94×L98×L103)):Ent R:=fun args objs k=>
 oL args 68 ty68 fun p0 l0=>oCons l0 fun a1 l1=>oFnC 79 a1 fun x1=>cCons x1 fun z1_0 w1_0=>cPtr 2500 z1_0 <| cNil w1_0 <| oNil l1 <| oBox 2500 31 objs fun b0 o0=>cCons b0 fun u0_0 v0=>cList 94 ty94 u0_0 fun p1=>cCons v0 fun u0_1 v1=>cList 98 ty98 u0_1 fun p2=>cCons v1 fun u0_2 v2=>cList 103 ty103 u0_2 fun p3=>cNil v2 <| oNilO o0 <| ob (c p0 p1 p2 p3) (K10 k)
abbrev Sp138 (c:L68→L94→L98→L103→Option (Int×L94×L98×L103)):Prop:=∀ (p0:L68) (p1:L94) (p2:L98) (p3:L103) (y:Int×L94×L98×L103),c p0 p1 p2 p3=some y→Spec Tryz.prog gl0 138 [.c (.list 68 ty68 p0),.fn 79 [.ptr 2500 0]] [(2500,.box 31 [.list 94 ty94 p1,.list 98 ty98 p2,.list 103 ty103 p3])] (.c (.int .i64 y.1)) [(2500,.box 31 [.list 94 ty94 y.2.1,.list 98 ty98 y.2.2.1,.list 103 ty103 y.2.2.2])]
theorem ek138 {R:Type} {c:L68→L94→L98→L103→Option (Int×L94×L98×L103)} (hs:Sp138 c):EOk 138 (e138 (R:=R) c):=fun args objs k r h=>by
 unfold e138 at h
 obtain ⟨p0,l0,rfl,q3⟩:=qa1 h
 obtain ⟨a1,l1,rfl,q4⟩:=qae q3
 obtain ⟨x1,rfl,q5⟩:=qbe q4
 obtain ⟨z1_0,w1_0,rfl,q6⟩:=qaa q5
 obtain ⟨rfl,q7⟩:=qau q6
 obtain ⟨rfl,q8⟩:=qah q7
 obtain ⟨rfl,q9⟩:=qaw q8
 obtain ⟨b0,o0,rfl,q10⟩:=qav q9
 obtain ⟨u0_0,v0,rfl,q11⟩:=qaa q10
 obtain ⟨p1,rfl,q12⟩:=qab q11
 obtain ⟨u0_1,v1,rfl,q13⟩:=qaa q12
 obtain ⟨p2,rfl,q14⟩:=qab q13
 obtain ⟨u0_2,v2,rfl,q15⟩:=qaa q14
 obtain ⟨p3,rfl,q16⟩:=qab q15
 obtain ⟨rfl,q17⟩:=qah q16
 obtain ⟨rfl,q18⟩:=qas q17
 exact qao (hs p0 p1 p2 p3) q18
theorem sf138 {c79:C79} (h79:Sp79 c79):Sp138 (F138 c79):=fun p0 p1 p2 p3 y hy=>by
 refine qam (qag (ek79 h79) qal) 1000000 (fn:=Tryz.f138) (by kernel_rfl) (by kernel_rfl) (X:=X138) (by kernel_rfl) ?_
 rw [eq138]
 exact (nt138 Ops.std c79 p0 p1 p2 p3 _ _ some (K10 k0) (rr138 c79 p0 p1 p2 p3 k0 1000000) none).trans (by show ob (F138 c79 p0 p1 p2 p3) _=_;rw [hy];rfl)
noncomputable def M138:L68→L94→L98→L103→Option (Int×L94×L98×L103):=F138 M79
theorem sm138:Sp138 M138:=sf138 sm79
def X78:Aux:=⟨[],[]⟩
abbrev C138:Type:=L68→L94→L98→L103→Option (Int×L94×L98×L103)
def T78 {R:Type} (B:Ops) (c138:C138) (c79:C79) (p0:L68) (p1:L94) (p2:L98) (p3:L103) (k:(Bool×L94×L98×L103)→Option R):Option R:=ob (c138 p0 p1 p2 p3) fun y0=>k ((B.le (0) y0.1,y0.2.1,(y0.2.2).1,(y0.2.2).2))
theorem eq78 {R:Type} (B:Ops) (c138:C138) (c79:C79) (p0:L68) (p1:L94) (p2:L98) (p3:L103) (k:AV→Objs→Option R) (n:Nat):afun tau B gl0 X78 (ent 138 (e138 c138) (ent 79 (e79 c79) gnil)) ow Tryz.f78 [.c (.list 68 ty68 p0),.fn 79 [.ptr 2500 0]] [(2500,.box 31 [.list 94 ty94 p1,.list 98 ty98 p2,.list 103 ty103 p3])] k n=T78 B c138 c79 p0 p1 p2 p3 (K11 k):=by kernel_rfl
theorem nt78 {R R':Type} (B:Ops) (c138:C138) (c79:C79) (p0:L68) (p1:L94) (p2:L98) (p3:L103) (k0:(Bool×L94×L98×L103)→Option R') (k:R'→Option R):T78 B c138 c79 p0 p1 p2 p3 (fun y=>ob (k0 y) k)=ob (T78 B c138 c79 p0 p1 p2 p3 k0) k:=by
 unfold T78
 repeat' first | exact rfl | apply qaf | (apply qap;intro)
def F78 (c138:C138) (c79:C79) (p0:L68) (p1:L94) (p2:L98) (p3:L103):Option (Bool×L94×L98×L103):=T78 Ops.std c138 c79 p0 p1 p2 p3 some
def e78 {R:Type} (c:L68→L94→L98→L103→Option (Bool×L94×L98×L103)):Ent R:=fun args objs k=>
 oL args 68 ty68 fun p0 l0=>oCons l0 fun a1 l1=>oFnC 79 a1 fun x1=>cCons x1 fun z1_0 w1_0=>cPtr 2500 z1_0 <| cNil w1_0 <| oNil l1 <| oBox 2500 31 objs fun b0 o0=>cCons b0 fun u0_0 v0=>cList 94 ty94 u0_0 fun p1=>cCons v0 fun u0_1 v1=>cList 98 ty98 u0_1 fun p2=>cCons v1 fun u0_2 v2=>cList 103 ty103 u0_2 fun p3=>cNil v2 <| oNilO o0 <| ob (c p0 p1 p2 p3) (K11 k)
abbrev Sp78 (c:L68→L94→L98→L103→Option (Bool×L94×L98×L103)):Prop:=∀ (p0:L68) (p1:L94) (p2:L98) (p3:L103) (y:Bool×L94×L98×L103),c p0 p1 p2 p3=some y→Spec Tryz.prog gl0 78 [.c (.list 68 ty68 p0),.fn 79 [.ptr 2500 0]] [(2500,.box 31 [.list 94 ty94 p1,.list 98 ty98 p2,.list 103 ty103 p3])] (.c (.bool y.1)) [(2500,.box 31 [.list 94 ty94 y.2.1,.list 98 ty98 y.2.2.1,.list 103 ty103 y.2.2.2])]
theorem ek78 {R:Type} {c:L68→L94→L98→L103→Option (Bool×L94×L98×L103)} (hs:Sp78 c):EOk 78 (e78 (R:=R) c):=fun args objs k r h=>by
 unfold e78 at h
 obtain ⟨p0,l0,rfl,q3⟩:=qa1 h
 obtain ⟨a1,l1,rfl,q4⟩:=qae q3
 obtain ⟨x1,rfl,q5⟩:=qbe q4
 obtain ⟨z1_0,w1_0,rfl,q6⟩:=qaa q5
 obtain ⟨rfl,q7⟩:=qau q6
 obtain ⟨rfl,q8⟩:=qah q7
 obtain ⟨rfl,q9⟩:=qaw q8
 obtain ⟨b0,o0,rfl,q10⟩:=qav q9
 obtain ⟨u0_0,v0,rfl,q11⟩:=qaa q10
 obtain ⟨p1,rfl,q12⟩:=qab q11
 obtain ⟨u0_1,v1,rfl,q13⟩:=qaa q12
 obtain ⟨p2,rfl,q14⟩:=qab q13
 obtain ⟨u0_2,v2,rfl,q15⟩:=qaa q14
 obtain ⟨p3,rfl,q16⟩:=qab q15
 obtain ⟨rfl,q17⟩:=qah q16
 obtain ⟨rfl,q18⟩:=qas q17
 exact qao (hs p0 p1 p2 p3) q18
theorem sf78 {c138:C138} {c79:C79} (h138:Sp138 c138) (h79:Sp79 c79):Sp78 (F78 c138 c79):=fun p0 p1 p2 p3 y hy=>by
 refine qam (qag (ek138 h138) (qag (ek79 h79) qal)) 1000000 (fn:=Tryz.f78) (by kernel_rfl) (by kernel_rfl) (X:=X78) (by kernel_rfl) ?_
 rw [eq78]
 exact (nt78 Ops.std c138 c79 p0 p1 p2 p3 some (K11 k0)).trans (by show ob (F78 c138 c79 p0 p1 p2 p3) _=_;rw [hy];rfl)
noncomputable def M78:L68→L94→L98→L103→Option (Bool×L94×L98×L103):=F78 M138 M79
theorem sm78:Sp78 M78:=sf78 sm138 sm79
def X41:Aux:=⟨[],[]⟩
abbrev C75:Type:=L39→Option (L68)
abbrev C78:Type:=L68→L94→L98→L103→Option (Bool×L94×L98×L103)
def T41 {R:Type} (B:Ops) (c77:C77) (c75:C75) (c79:C79) (c78:C78) (p0:L94) (p1:L98) (p2:L103) (p3:L68) (p4:L68) (k:(Bool)→Option R):Option R:=ob (c77 p0 p1 p2) fun y0=>cond (!y0) (k false) (cond (B.lt (↑p4.length) (1)) (k false) (cond (B.lt (2000) (IntKind.wrap .i64 (Nat.cast p3.length+Nat.cast p4.length))) (k false) (ob (c75 (p3::p4::mt (Ty.den ty39))) fun y1=>ob (c78 y1 p0 p1 p2) fun y2=>k (!y2.1))))
theorem eq41 {R:Type} (B:Ops) (c77:C77) (c75:C75) (c79:C79) (c78:C78) (p0:L94) (p1:L98) (p2:L103) (p3:L68) (p4:L68) (k:AV→Objs→Option R) (n:Nat):afun tau B gl0 X41 (ent 77 (e77 c77) (ent 75 (e75 c75) (ent 79 (e79 c79) (ent 78 (e78 c78) gnil)))) ow Tryz.f41 [.agg [.list 94 ty94 p0,.list 98 ty98 p1,.list 103 ty103 p2],.agg [.list 68 ty68 p3,.list 68 ty68 p4]] [] k n=T41 B c77 c75 c79 c78 p0 p1 p2 p3 p4 (K2 k):=by kernel_rfl
theorem nt41 {R R':Type} (B:Ops) (c77:C77) (c75:C75) (c79:C79) (c78:C78) (p0:L94) (p1:L98) (p2:L103) (p3:L68) (p4:L68) (k0:(Bool)→Option R') (k:R'→Option R):T41 B c77 c75 c79 c78 p0 p1 p2 p3 p4 (fun y=>ob (k0 y) k)=ob (T41 B c77 c75 c79 c78 p0 p1 p2 p3 p4 k0) k:=by
 unfold T41
 repeat' first | exact rfl | apply qaf | (apply qap;intro)
def F41 (c77:C77) (c75:C75) (c79:C79) (c78:C78) (p0:L94) (p1:L98) (p2:L103) (p3:L68) (p4:L68):Option (Bool):=T41 Ops.std c77 c75 c79 c78 p0 p1 p2 p3 p4 some
def e41 {R:Type} (c:L94→L98→L103→L68→L68→Option (Bool)):Ent R:=fun args objs k=>
 oCons args fun a0 l0=>oAgg a0 fun x0=>cCons x0 fun z0_0 w0_0=>cList 94 ty94 z0_0 fun p0=>cCons w0_0 fun z0_1 w0_1=>cList 98 ty98 z0_1 fun p1=>cCons w0_1 fun z0_2 w0_2=>cList 103 ty103 z0_2 fun p2=>cNil w0_2 <| oCons l0 fun a1 l1=>oAgg a1 fun x1=>cCons x1 fun z1_0 w1_0=>cList 68 ty68 z1_0 fun p3=>cCons w1_0 fun z1_1 w1_1=>cList 68 ty68 z1_1 fun p4=>cNil w1_1 <| oE l1 objs <| ob (c p0 p1 p2 p3 p4) (K2 k)
abbrev Sp41 (c:L94→L98→L103→L68→L68→Option (Bool)):Prop:=∀ (p0:L94) (p1:L98) (p2:L103) (p3:L68) (p4:L68) (y:Bool),c p0 p1 p2 p3 p4=some y→Spec Tryz.prog gl0 41 [.agg [.list 94 ty94 p0,.list 98 ty98 p1,.list 103 ty103 p2],.agg [.list 68 ty68 p3,.list 68 ty68 p4]] [] (.c (.bool y)) []
theorem ek41 {R:Type} {c:L94→L98→L103→L68→L68→Option (Bool)} (hs:Sp41 c):EOk 41 (e41 (R:=R) c):=fun args objs k r h=>by
 unfold e41 at h
 obtain ⟨a0,l0,rfl,q1⟩:=qae h
 obtain ⟨x0,rfl,q2⟩:=qar q1
 obtain ⟨z0_0,w0_0,rfl,q3⟩:=qaa q2
 obtain ⟨p0,rfl,q4⟩:=qab q3
 obtain ⟨z0_1,w0_1,rfl,q5⟩:=qaa q4
 obtain ⟨p1,rfl,q6⟩:=qab q5
 obtain ⟨z0_2,w0_2,rfl,q7⟩:=qaa q6
 obtain ⟨p2,rfl,q8⟩:=qab q7
 obtain ⟨rfl,q9⟩:=qah q8
 obtain ⟨a1,l1,rfl,q10⟩:=qae q9
 obtain ⟨x1,rfl,q11⟩:=qar q10
 obtain ⟨z1_0,w1_0,rfl,q12⟩:=qaa q11
 obtain ⟨p3,rfl,q13⟩:=qab q12
 obtain ⟨z1_1,w1_1,rfl,q14⟩:=qaa q13
 obtain ⟨p4,rfl,q15⟩:=qab q14
 obtain ⟨rfl,q16⟩:=qah q15
 obtain ⟨rfl,rfl,q18⟩:=qaq q16
 exact qao (hs p0 p1 p2 p3 p4) q18
theorem sf41 {c77:C77} {c75:C75} {c79:C79} {c78:C78} (h77:Sp77 c77) (h75:Sp75 c75) (h79:Sp79 c79) (h78:Sp78 c78):Sp41 (F41 c77 c75 c79 c78):=fun p0 p1 p2 p3 p4 y hy=>by
 refine qam (qag (ek77 h77) (qag (ek75 h75) (qag (ek79 h79) (qag (ek78 h78) qal)))) 1000000 (fn:=Tryz.f41) (by kernel_rfl) (by kernel_rfl) (X:=X41) (by kernel_rfl) ?_
 rw [eq41]
 exact (nt41 Ops.std c77 c75 c79 c78 p0 p1 p2 p3 p4 some (K2 k0)).trans (by show ob (F41 c77 c75 c79 c78 p0 p1 p2 p3 p4) _=_;rw [hy];rfl)
noncomputable def M41:L94→L98→L103→L68→L68→Option (Bool):=F41 M77 M75 M79 M78
theorem sm41:Sp41 M41:=sf41 sm77 sm75 sm79 sm78
def X40:Aux:=⟨[(6,([0,2,3,4,5,6]++rg 9 27++rg 39 30)),(10,([0,2,3,4,5,6,10]++rg 12 24++[39,40,41,42]++rg 46 23))],[(3,.seq [0,1,2,3,4,7,8,9] (.alt (.seq [5] (.alt (.lin [6,10,11,12]) (.lin [11,6,10,12]))) (.lin [11,5,6,10,12]))),(14,.lin (rg 0 11))]⟩
inductive S40 where
 | l0 (v1:Int) (v2:Int) (v6:Int) (v7:L47) (v8:L22) (v9:L68)
 | l1 (v1:Int) (v2:Int) (v3:Int) (v4:L3) (v5:Int) (v6:Int) (v10:Int) (v11:L47) (v12:L47) (v13:L22) (v14:L68)
abbrev C67:Type:=L94→L98→L103→L66→Option (Bool)
abbrev C41:Type:=L94→L98→L103→L68→L68→Option (Bool)
abbrev C52:Type:=L66→Option (L22)
abbrev C76:Type:=L94→L98→L103→L68→Int→Int→L150→L47→Option (L4)
def T40 {R:Type} (B:Ops) (c67:C67) (c41:C41) (c75:C75) (c52:C52) (c76:C76) (p0:L94) (p1:L98) (p2:L103) (p3:L66) (p4:L68) (p5:L68) (again:S40→Option R) (k:(L47)→Option R):Option S40→Option R | none=>ob (c67 p0 p1 p2 p3) fun y0=>cond (!y0) (k (mt (Ty.den ty47))) (ob (c41 p0 p1 p2 p4 p5) fun y1=>cond (!y1) (k (mt (Ty.den ty47))) (ob (c75 (p4::p5::mt (Ty.den ty39))) fun y2=>ob (c52 p3) fun y3=>again (.l0 (↑y3.length) 0 (↑p4.length) (mt (Ty.den ty47)) y3 y2))) | some (.l0 v1 v2 v6 v7 v8 v9)=>cond (B.lt v2 v1) (cond (B.inb v2 v8.length) (again (.l1 v2 v1 v2 (v8.getD v2.toNat ty22.dflt) (Nat.cast (List.length (v8.getD v2.toNat ty22.dflt))) 0 v6 v7 (mt (Ty.den ty47)) v8 v9)) none) (k v7) | some (.l1 v1 v2 v3 v4 v5 v6 v10 v11 v12 v13 v14)=>cond (B.lt v6 v5) (cond (B.inb v6 v4.length) (cond (B.inb (v4.getD v6.toNat ty3.dflt) v11.length) (cond (B.lim (List.length v12+List.length (v11.getD (Int.toNat (v4.getD v6.toNat ty3.dflt)) ty47.dflt::mt (Ty.den ty47))) (24)) (again (.l1 v1 v2 v3 v4 v5 (IntKind.wrap .i64 (v6+1)) v10 v11 (v12++v11.getD (Int.toNat (v4.getD v6.toNat ty3.dflt)) ty47.dflt::mt (Ty.den ty47)) v13 v14)) none) none) none) (cond (B.inb v1 p3.length) (ob (c76 p0 p1 p2 v14 v10 ((p3.getD v1.toNat ty66.dflt).1) ((p3.getD v1.toNat ty66.dflt).2) v12) fun y0=>cond (B.lim (List.length v11+List.length (y0::mt (Ty.den ty47))) (24)) (again (.l0 v2 (IntKind.wrap .i64 (v3+1)) v10 (v11++y0::mt (Ty.den ty47)) v13 v14)) none) none)
def E40 (p0:L94) (p1:L98) (p2:L103) (p3:L66) (p4:L68) (p5:L68):S40→List AV×Objs
 | .l0 v1 v2 v6 v7 v8 v9=>(mk 69 [(1,.c (.list 66 ty66 p3)),(7,.c (.ptr 7 0)),(8,.c (.own 8)),(36,.c (.own 36)),(37,.c (.int .i64 v1)),(38,.c (.int .i64 v2))],[(7,.box 117 [.list 94 ty94 p0,.list 98 ty98 p1,.list 103 ty103 p2,.own 8003,.int .i64 v6]),(8,.row 47 ty47 v7),(36,.row 22 ty22 v8),(8003,.row 68 ty68 v9)])
 | .l1 v1 v2 v3 v4 v5 v6 v10 v11 v12 v13 v14=>(mk 69 [(1,.c (.list 66 ty66 p3)),(7,.c (.ptr 7 0)),(8,.c (.own 8)),(9,.c (.int .i64 v1)),(11,.c (.own 11)),(36,.c (.own 36)),(37,.c (.int .i64 v2)),(38,.c (.int .i64 v3)),(43,.c (.list 3 ty3 v4)),(44,.c (.int .i64 v5)),(45,.c (.int .i64 v6))],[(7,.box 117 [.list 94 ty94 p0,.list 98 ty98 p1,.list 103 ty103 p2,.own 8003,.int .i64 v10]),(8,.row 47 ty47 v11),(11,.row 47 ty47 v12),(36,.row 22 ty22 v13),(8003,.row 68 ty68 v14)])
def I40:S40→Nat
 | .l0 _ _ _ _ _ _=>0
 | .l1 _ _ _ _ _ _ _ _ _ _ _=>1
noncomputable def Ta40 {R:Type} (B:Ops) (c67:C67) (c41:C41) (c75:C75) (c52:C52) (c76:C76) (p0:L94) (p1:L98) (p2:L103) (p3:L66) (p4:L68) (p5:L68) (again:S40→Option R) (k:(L47)→Option R):Option S40→Option R | none=>ob (c67 p0 p1 p2 p3) fun y0=>cond (!y0) (k (mt (Ty.den ty47))) (ob (c41 p0 p1 p2 p4 p5) fun y1=>cond (!y1) (k (mt (Ty.den ty47))) (agree (agree (ob (c75 (p4::p5::mt (Ty.den ty39))) fun y2=>ob (c52 p3) fun y3=>again (.l0 (Nat.cast (List.length y3)) 0 (Nat.cast (List.length p4)) (mt (Ty.den ty47)) y3 y2)) (ob (c75 (p4::p5::mt (Ty.den ty39))) fun y2=>ob (c52 p3) fun y3=>again (.l0 (Nat.cast (List.length y3)) 0 (Nat.cast (List.length p4)) (mt (Ty.den ty47)) y3 y2))) (ob (c75 (p4::p5::mt (Ty.den ty39))) fun y2=>ob (c52 p3) fun y3=>again (.l0 (Nat.cast (List.length y3)) 0 (Nat.cast (List.length p4)) (mt (Ty.den ty47)) y3 y2)))) | some (.l0 v1 v2 v6 v7 v8 v9)=>cond (Ops.lt B v2 v1) (cond (Ops.inb B v2 (List.length v8)) (again (.l1 v2 v1 v2 (List.getD v8 (Int.toNat v2) (Ty.dflt ty22)) (Nat.cast (List.length (List.getD v8 (Int.toNat v2) (Ty.dflt ty22)))) 0 v6 v7 (mt (Ty.den ty47)) v8 v9)) none) (k v7) | some (.l1 v1 v2 v3 v4 v5 v6 v10 v11 v12 v13 v14)=>cond (Ops.lt B v6 v5) (cond (Ops.inb B v6 (List.length v4)) (cond (Ops.inb B (List.getD v4 (Int.toNat v6) (Ty.dflt ty3)) (List.length v11)) (cond (Ops.lim B (List.length v12+List.length (List.getD v11 (Int.toNat (List.getD v4 (Int.toNat v6) (Ty.dflt ty3))) (Ty.dflt ty47)::mt (Ty.den ty47))) (24)) (again (.l1 v1 v2 v3 v4 v5 (IntKind.wrap .i64 (v6+1)) v10 v11 (v12++List.getD v11 (Int.toNat (List.getD v4 (Int.toNat v6) (Ty.dflt ty3))) (Ty.dflt ty47)::mt (Ty.den ty47)) v13 v14)) none) none) none) (cond (Ops.inb B v1 (List.length p3)) (ob (c76 p0 p1 p2 v14 v10 ((List.getD p3 (Int.toNat v1) (Ty.dflt ty66)).1) ((List.getD p3 (Int.toNat v1) (Ty.dflt ty66)).2) v12) fun y0=>cond (Ops.lim B (List.length v11+List.length (y0::mt (Ty.den ty47))) (24)) (again (.l0 v2 (IntKind.wrap .i64 (v3+1)) v10 (v11++y0::mt (Ty.den ty47)) v13 v14)) none) none)
theorem ta40 {R:Type} (B:Ops) (c67:C67) (c41:C41) (c75:C75) (c52:C52) (c76:C76) (p0:L94) (p1:L98) (p2:L103) (p3:L66) (p4:L68) (p5:L68) (again:S40→Option R) (k:(L47)→Option R):∀ s,Ta40 B c67 c41 c75 c52 c76 p0 p1 p2 p3 p4 p5 again k s=T40 B c67 c41 c75 c52 c76 p0 p1 p2 p3 p4 p5 again k s
 | none=>by unfold Ta40 T40;simp only [qdu]
 | some (.l0 v1 v2 v6 v7 v8 v9)=>by unfold Ta40 T40;simp only [qdu]
 | some (.l1 v1 v2 v3 v4 v5 v6 v10 v11 v12 v13 v14)=>by unfold Ta40 T40;simp only [qdu]
abbrev K44 {R:Type} (k:AV→Objs→Option R) (y:(L47)):Option R:=k (.c (.own 500)) [(500,.row 47 ty47 y)]
theorem eq40 {R:Type} (B:Ops) (c67:C67) (c41:C41) (c75:C75) (c52:C52) (c76:C76) (p0:L94) (p1:L98) (p2:L103) (p3:L66) (p4:L68) (p5:L68) (k:AV→Objs→Option R) (n:Nat):afun tau B gl0 X40 (ent 67 (e67 c67) (ent 41 (e41 c41) (ent 75 (e75 c75) (ent 52 (e52 c52) (ent 76 (e76 c76) gnil))))) ow Tryz.f40 [.agg [.list 94 ty94 p0,.list 98 ty98 p1,.list 103 ty103 p2],.c (.list 66 ty66 p3),.agg [.list 68 ty68 p4,.list 68 ty68 p5]] [] k n=T40 B c67 c41 c75 c52 c76 p0 p1 p2 p3 p4 p5 (fun s=>aloop tau B gl0 X40 (ent 67 (e67 c67) (ent 41 (e41 c41) (ent 75 (e75 c75) (ent 52 (e52 c52) (ent 76 (e76 c76) gnil))))) ow [] Tryz.f40 k (I40 s) (E40 p0 p1 p2 p3 p4 p5 s) n) (K44 k) none:=by rw [←ta40];kernel_rfl
theorem el40 {R:Type} (B:Ops) (c67:C67) (c41:C41) (c75:C75) (c52:C52) (c76:C76) (p0:L94) (p1:L98) (p2:L103) (p3:L66) (p4:L68) (p5:L68) (k:AV→Objs→Option R) (n:Nat):∀ s,aloop tau B gl0 X40 (ent 67 (e67 c67) (ent 41 (e41 c41) (ent 75 (e75 c75) (ent 52 (e52 c52) (ent 76 (e76 c76) gnil))))) ow [] Tryz.f40 k (I40 s) (E40 p0 p1 p2 p3 p4 p5 s) (n+1)=T40 B c67 c41 c75 c52 c76 p0 p1 p2 p3 p4 p5 (fun s=>aloop tau B gl0 X40 (ent 67 (e67 c67) (ent 41 (e41 c41) (ent 75 (e75 c75) (ent 52 (e52 c52) (ent 76 (e76 c76) gnil))))) ow [] Tryz.f40 k (I40 s) (E40 p0 p1 p2 p3 p4 p5 s) n) (K44 k) (some s)
 | .l0 v1 v2 v6 v7 v8 v9=>by rw [←ta40];kernel_rfl
 | .l1 v1 v2 v3 v4 v5 v6 v10 v11 v12 v13 v14=>by rw [←ta40];kernel_rfl
theorem nt40 {R R':Type} (B:Ops) (c67:C67) (c41:C41) (c75:C75) (c52:C52) (c76:C76) (p0:L94) (p1:L98) (p2:L103) (p3:L66) (p4:L68) (p5:L68) (again:S40→Option R) (again':S40→Option R') (k0:(L47)→Option R') (k:R'→Option R) (h:∀ s,again s=ob (again' s) k):∀ s,T40 B c67 c41 c75 c52 c76 p0 p1 p2 p3 p4 p5 again (fun y=>ob (k0 y) k) s=ob (T40 B c67 c41 c75 c52 c76 p0 p1 p2 p3 p4 p5 again' k0 s) k:=by
 rintro (_ | x)
 all_goals try cases x
 all_goals (unfold T40;repeat' first | exact rfl | exact h _ | apply qaf | (apply qap;intro))
def R40 (c67:C67) (c41:C41) (c75:C75) (c52:C52) (c76:C76) (p0:L94) (p1:L98) (p2:L103) (p3:L66) (p4:L68) (p5:L68):Nat→S40→Option (L47)
 | 0,_=>none
 | n+1,s=>T40 Ops.std c67 c41 c75 c52 c76 p0 p1 p2 p3 p4 p5 (R40 c67 c41 c75 c52 c76 p0 p1 p2 p3 p4 p5 n) some (some s)
theorem rr40 {R:Type} (c67:C67) (c41:C41) (c75:C75) (c52:C52) (c76:C76) (p0:L94) (p1:L98) (p2:L103) (p3:L66) (p4:L68) (p5:L68) (k:AV→Objs→Option R):∀ (n:Nat) (s:S40),aloop tau Ops.std gl0 X40 (ent 67 (e67 c67) (ent 41 (e41 c41) (ent 75 (e75 c75) (ent 52 (e52 c52) (ent 76 (e76 c76) gnil))))) ow [] Tryz.f40 k (I40 s) (E40 p0 p1 p2 p3 p4 p5 s) n=ob (R40 c67 c41 c75 c52 c76 p0 p1 p2 p3 p4 p5 n s) (K44 k)
 | 0,s=>by cases s<;>rfl
 | n+1,s=>by rw [el40];exact nt40 Ops.std c67 c41 c75 c52 c76 p0 p1 p2 p3 p4 p5 _ _ some (K44 k) (rr40 c67 c41 c75 c52 c76 p0 p1 p2 p3 p4 p5 k n) (some s)
def F40 (c67:C67) (c41:C41) (c75:C75) (c52:C52) (c76:C76) (p0:L94) (p1:L98) (p2:L103) (p3:L66) (p4:L68) (p5:L68):Option (L47):=T40 Ops.std c67 c41 c75 c52 c76 p0 p1 p2 p3 p4 p5 (R40 c67 c41 c75 c52 c76 p0 p1 p2 p3 p4 p5 1000000) some none
def e40 {R:Type} (c:L94→L98→L103→L66→L68→L68→Option (L47)):Ent R:=fun args objs k=>
 oCons args fun a0 l0=>oAgg a0 fun x0=>cCons x0 fun z0_0 w0_0=>cList 94 ty94 z0_0 fun p0=>cCons w0_0 fun z0_1 w0_1=>cList 98 ty98 z0_1 fun p1=>cCons w0_1 fun z0_2 w0_2=>cList 103 ty103 z0_2 fun p2=>cNil w0_2 <| oL l0 66 ty66 fun p3 l1=>oCons l1 fun a2 l2=>oAgg a2 fun x2=>cCons x2 fun z2_0 w2_0=>cList 68 ty68 z2_0 fun p4=>cCons w2_0 fun z2_1 w2_1=>cList 68 ty68 z2_1 fun p5=>cNil w2_1 <| oE l2 objs <| ob (c p0 p1 p2 p3 p4 p5) (K44 k)
abbrev Sp40 (c:L94→L98→L103→L66→L68→L68→Option (L47)):Prop:=∀ (p0:L94) (p1:L98) (p2:L103) (p3:L66) (p4:L68) (p5:L68) (y:L47),c p0 p1 p2 p3 p4 p5=some y→Spec Tryz.prog gl0 40 [.agg [.list 94 ty94 p0,.list 98 ty98 p1,.list 103 ty103 p2],.c (.list 66 ty66 p3),.agg [.list 68 ty68 p4,.list 68 ty68 p5]] [] (.c (.own 500)) [(500,.row 47 ty47 y)]
theorem ek40 {R:Type} {c:L94→L98→L103→L66→L68→L68→Option (L47)} (hs:Sp40 c):EOk 40 (e40 (R:=R) c):=fun args objs k r h=>by
 unfold e40 at h
 obtain ⟨a0,l0,rfl,q1⟩:=qae h
 obtain ⟨x0,rfl,q2⟩:=qar q1
 obtain ⟨z0_0,w0_0,rfl,q3⟩:=qaa q2
 obtain ⟨p0,rfl,q4⟩:=qab q3
 obtain ⟨z0_1,w0_1,rfl,q5⟩:=qaa q4
 obtain ⟨p1,rfl,q6⟩:=qab q5
 obtain ⟨z0_2,w0_2,rfl,q7⟩:=qaa q6
 obtain ⟨p2,rfl,q8⟩:=qab q7
 obtain ⟨rfl,q9⟩:=qah q8
 obtain ⟨p3,l1,rfl,q12⟩:=qa1 q9
 obtain ⟨a2,l2,rfl,q13⟩:=qae q12
 obtain ⟨x2,rfl,q14⟩:=qar q13
 obtain ⟨z2_0,w2_0,rfl,q15⟩:=qaa q14
 obtain ⟨p4,rfl,q16⟩:=qab q15
 obtain ⟨z2_1,w2_1,rfl,q17⟩:=qaa q16
 obtain ⟨p5,rfl,q18⟩:=qab q17
 obtain ⟨rfl,q19⟩:=qah q18
 obtain ⟨rfl,rfl,q21⟩:=qaq q19
 exact qao (hs p0 p1 p2 p3 p4 p5) q21
theorem sf40 {c67:C67} {c41:C41} {c75:C75} {c52:C52} {c76:C76} (h67:Sp67 c67) (h41:Sp41 c41) (h75:Sp75 c75) (h52:Sp52 c52) (h76:Sp76 c76):Sp40 (F40 c67 c41 c75 c52 c76):=fun p0 p1 p2 p3 p4 p5 y hy=>by
 refine qam (qag (ek67 h67) (qag (ek41 h41) (qag (ek75 h75) (qag (ek52 h52) (qag (ek76 h76) qal))))) 1000000 (fn:=Tryz.f40) (by kernel_rfl) (by kernel_rfl) (X:=X40) (by kernel_rfl) ?_
 rw [eq40]
 exact (nt40 Ops.std c67 c41 c75 c52 c76 p0 p1 p2 p3 p4 p5 _ _ some (K44 k0) (rr40 c67 c41 c75 c52 c76 p0 p1 p2 p3 p4 p5 k0 1000000) none).trans (by show ob (F40 c67 c41 c75 c52 c76 p0 p1 p2 p3 p4 p5) _=_;rw [hy];rfl)
noncomputable def M40:L94→L98→L103→L66→L68→L68→Option (L47):=F40 M67 M41 M75 M52 M76
theorem sm40:Sp40 M40:=sf40 sm67 sm41 sm75 sm52 sm76
def X43:Aux:=⟨[],[]⟩
abbrev C40:Type:=L94→L98→L103→L66→L68→L68→Option (L47)
def T43 {R:Type} (B:Ops) (c40:C40) (p0:L94) (p1:L98) (p2:L103) (p3:L66) (p4:L68) (p5:L68) (k:(Bool)→Option R):Option R:=ob (c40 p0 p1 p2 p3 p4 p5) fun y0=>cond (B.lt (0) (↑y0.length)) (cond (B.inb (IntKind.wrap .i64 (Nat.cast y0.length-1)) y0.length) (cond (B.inb (0) (List.length (y0.getD (Int.toNat (IntKind.wrap .i64 (Nat.cast y0.length-1))) ty47.dflt))) (k (List.getD (y0.getD (Int.toNat (IntKind.wrap .i64 (Nat.cast y0.length-1))) ty47.dflt) (Int.toNat (0)) (Ty.dflt Ty.bool))) none) none) (k false)
theorem eq43 {R:Type} (B:Ops) (c40:C40) (p0:L94) (p1:L98) (p2:L103) (p3:L66) (p4:L68) (p5:L68) (k:AV→Objs→Option R) (n:Nat):afun tau B gl0 X43 (ent 40 (e40 c40) gnil) ow Tryz.f43 [.agg [.list 94 ty94 p0,.list 98 ty98 p1,.list 103 ty103 p2],.c (.list 66 ty66 p3),.agg [.list 68 ty68 p4,.list 68 ty68 p5]] [] k n=T43 B c40 p0 p1 p2 p3 p4 p5 (K2 k):=by kernel_rfl
theorem nt43 {R R':Type} (B:Ops) (c40:C40) (p0:L94) (p1:L98) (p2:L103) (p3:L66) (p4:L68) (p5:L68) (k0:(Bool)→Option R') (k:R'→Option R):T43 B c40 p0 p1 p2 p3 p4 p5 (fun y=>ob (k0 y) k)=ob (T43 B c40 p0 p1 p2 p3 p4 p5 k0) k:=by
 unfold T43
 repeat' first | exact rfl | apply qaf | (apply qap;intro)
def F43 (c40:C40) (p0:L94) (p1:L98) (p2:L103) (p3:L66) (p4:L68) (p5:L68):Option (Bool):=T43 Ops.std c40 p0 p1 p2 p3 p4 p5 some
def e43 {R:Type} (c:L94→L98→L103→L66→L68→L68→Option (Bool)):Ent R:=fun args objs k=>
 oCons args fun a0 l0=>oAgg a0 fun x0=>cCons x0 fun z0_0 w0_0=>cList 94 ty94 z0_0 fun p0=>cCons w0_0 fun z0_1 w0_1=>cList 98 ty98 z0_1 fun p1=>cCons w0_1 fun z0_2 w0_2=>cList 103 ty103 z0_2 fun p2=>cNil w0_2 <| oL l0 66 ty66 fun p3 l1=>oCons l1 fun a2 l2=>oAgg a2 fun x2=>cCons x2 fun z2_0 w2_0=>cList 68 ty68 z2_0 fun p4=>cCons w2_0 fun z2_1 w2_1=>cList 68 ty68 z2_1 fun p5=>cNil w2_1 <| oE l2 objs <| ob (c p0 p1 p2 p3 p4 p5) (K2 k)
abbrev Sp43 (c:L94→L98→L103→L66→L68→L68→Option (Bool)):Prop:=∀ (p0:L94) (p1:L98) (p2:L103) (p3:L66) (p4:L68) (p5:L68) (y:Bool),c p0 p1 p2 p3 p4 p5=some y→Spec Tryz.prog gl0 43 [.agg [.list 94 ty94 p0,.list 98 ty98 p1,.list 103 ty103 p2],.c (.list 66 ty66 p3),.agg [.list 68 ty68 p4,.list 68 ty68 p5]] [] (.c (.bool y)) []
theorem ek43 {R:Type} {c:L94→L98→L103→L66→L68→L68→Option (Bool)} (hs:Sp43 c):EOk 43 (e43 (R:=R) c):=fun args objs k r h=>by
 unfold e43 at h
 obtain ⟨a0,l0,rfl,q1⟩:=qae h
 obtain ⟨x0,rfl,q2⟩:=qar q1
 obtain ⟨z0_0,w0_0,rfl,q3⟩:=qaa q2
 obtain ⟨p0,rfl,q4⟩:=qab q3
 obtain ⟨z0_1,w0_1,rfl,q5⟩:=qaa q4
 obtain ⟨p1,rfl,q6⟩:=qab q5
 obtain ⟨z0_2,w0_2,rfl,q7⟩:=qaa q6
 obtain ⟨p2,rfl,q8⟩:=qab q7
 obtain ⟨rfl,q9⟩:=qah q8
 obtain ⟨p3,l1,rfl,q12⟩:=qa1 q9
 obtain ⟨a2,l2,rfl,q13⟩:=qae q12
 obtain ⟨x2,rfl,q14⟩:=qar q13
 obtain ⟨z2_0,w2_0,rfl,q15⟩:=qaa q14
 obtain ⟨p4,rfl,q16⟩:=qab q15
 obtain ⟨z2_1,w2_1,rfl,q17⟩:=qaa q16
 obtain ⟨p5,rfl,q18⟩:=qab q17
 obtain ⟨rfl,q19⟩:=qah q18
 obtain ⟨rfl,rfl,q21⟩:=qaq q19
 exact qao (hs p0 p1 p2 p3 p4 p5) q21
theorem sf43 {c40:C40} (h40:Sp40 c40):Sp43 (F43 c40):=fun p0 p1 p2 p3 p4 p5 y hy=>by
 refine qam (qag (ek40 h40) qal) 1000000 (fn:=Tryz.f43) (by kernel_rfl) (by kernel_rfl) (X:=X43) (by kernel_rfl) ?_
 rw [eq43]
 exact (nt43 Ops.std c40 p0 p1 p2 p3 p4 p5 some (K2 k0)).trans (by show ob (F43 c40 p0 p1 p2 p3 p4 p5) _=_;rw [hy];rfl)
noncomputable def M43:L94→L98→L103→L66→L68→L68→Option (Bool):=F43 M40
theorem sm43:Sp43 M43:=sf43 sm40
def X74:Aux:=⟨[],[(2,.lin [0,1,3,2,4,5])]⟩
abbrev C123:Type:=L3→L3→Option (L94×L98×L103×L68×L68)
abbrev C39:Type:=LB→Option (L66)
abbrev C43:Type:=L94→L98→L103→L66→L68→L68→Option (Bool)
def T74 {R:Type} (B:Ops) (c123:C123) (c39:C39) (c43:C43) (p0:LB) (p1:L3) (p2:L3) (k:(Bool)→Option R):Option R:=ob (c123 p1 p2) fun y0=>ob (c39 p0) fun y1=>ob (c43 y0.1 y0.2.1 ((y0.2.2).1) y1 ((y0.2.2.2).1) ((y0.2.2.2).2)) fun y2=>k y2
theorem eq74 {R:Type} (B:Ops) (c123:C123) (c39:C39) (c43:C43) (p0:LB) (p1:L3) (p2:L3) (k:AV→Objs→Option R) (n:Nat):afun tau B gl0 X74 (ent 123 (e123 c123) (ent 39 (e39 c39) (ent 43 (e43 c43) gnil))) ow Tryz.f74 [.c (.str p0),.c (.list 3 ty3 p1),.c (.list 3 ty3 p2)] [] k n=T74 B c123 c39 c43 p0 p1 p2 (K2 k):=by kernel_rfl
theorem nt74 {R R':Type} (B:Ops) (c123:C123) (c39:C39) (c43:C43) (p0:LB) (p1:L3) (p2:L3) (k0:(Bool)→Option R') (k:R'→Option R):T74 B c123 c39 c43 p0 p1 p2 (fun y=>ob (k0 y) k)=ob (T74 B c123 c39 c43 p0 p1 p2 k0) k:=by
 unfold T74
 repeat' first | exact rfl | apply qaf | (apply qap;intro)
def F74 (c123:C123) (c39:C39) (c43:C43) (p0:LB) (p1:L3) (p2:L3):Option (Bool):=T74 Ops.std c123 c39 c43 p0 p1 p2 some
def e74 {R:Type} (c:LB→L3→L3→Option (Bool)):Ent R:=fun args objs k=>
 oS args fun p0 l0=>oL l0 3 ty3 fun p1 l1=>oL l1 3 ty3 fun p2 l2=>oE l2 objs <| ob (c p0 p1 p2) (K2 k)
abbrev Sp74 (c:LB→L3→L3→Option (Bool)):Prop:=∀ (p0:LB) (p1:L3) (p2:L3) (y:Bool),c p0 p1 p2=some y→Spec Tryz.prog gl0 74 [.c (.str p0),.c (.list 3 ty3 p1),.c (.list 3 ty3 p2)] [] (.c (.bool y)) []
theorem ek74 {R:Type} {c:LB→L3→L3→Option (Bool)} (hs:Sp74 c):EOk 74 (e74 (R:=R) c):=fun args objs k r h=>by
 unfold e74 at h
 obtain ⟨p0,l0,rfl,q3⟩:=qa7 h
 obtain ⟨p1,l1,rfl,q6⟩:=qa1 q3
 obtain ⟨p2,l2,rfl,q9⟩:=qa1 q6
 obtain ⟨rfl,rfl,q11⟩:=qaq q9
 exact qao (hs p0 p1 p2) q11
theorem sf74 {c123:C123} {c39:C39} {c43:C43} (h123:Sp123 c123) (h39:Sp39 c39) (h43:Sp43 c43):Sp74 (F74 c123 c39 c43):=fun p0 p1 p2 y hy=>by
 refine qam (qag (ek123 h123) (qag (ek39 h39) (qag (ek43 h43) qal))) 1000000 (fn:=Tryz.f74) (by kernel_rfl) (by kernel_rfl) (X:=X74) (by kernel_rfl) ?_
 rw [eq74]
 exact (nt74 Ops.std c123 c39 c43 p0 p1 p2 some (K2 k0)).trans (by show ob (F74 c123 c39 c43 p0 p1 p2) _=_;rw [hy];rfl)
noncomputable def M74:LB→L3→L3→Option (Bool):=F74 M123 M39 M43
theorem sm74:Sp74 M74:=sf74 sm123 sm39 sm43
def X38:Aux:=⟨[],[]⟩
abbrev C74:Type:=LB→L3→L3→Option (Bool)
def T38 {R:Type} (B:Ops) (c74:C74) (k:(Bool)→Option R):Option R:=ob (c74 ([71,32,70,32,91,120,61,61,49,93]:LB) (0::mt (Ty.den (Ty.int .i64))) (0::1::mt (Ty.den (Ty.int .i64)))) fun y0=>cond (y0) (ob (c74 ([70,32,71,32,91,120,61,61,49,93]:LB) (0::mt (Ty.den (Ty.int .i64))) (0::1::mt (Ty.den (Ty.int .i64)))) fun y1=>k (!y1)) (k false)
theorem eq38 {R:Type} (B:Ops) (c74:C74) (k:AV→Objs→Option R) (n:Nat):afun tau B gl0 X38 (ent 74 (e74 c74) gnil) ow Tryz.f38 [] [] k n=T38 B c74 (K2 k):=by kernel_rfl
theorem nt38 {R R':Type} (B:Ops) (c74:C74) (k0:(Bool)→Option R') (k:R'→Option R):T38 B c74 (fun y=>ob (k0 y) k)=ob (T38 B c74 k0) k:=by
 unfold T38
 repeat' first | exact rfl | apply qaf | (apply qap;intro)
def F38 (c74:C74):Option (Bool):=T38 Ops.std c74 some
def e38 {R:Type} (c:Option (Bool)):Ent R:=fun args objs k=>
 oNil args <| oNilO objs <| ob (c ) (K2 k)
abbrev Sp38 (c:Option (Bool)):Prop:=∀ (y:Bool),c=some y→Spec Tryz.prog gl0 38 [] [] (.c (.bool y)) []
theorem ek38 {R:Type} {c:Option (Bool)} (hs:Sp38 c):EOk 38 (e38 (R:=R) c):=fun args objs k r h=>by
 unfold e38 at h
 obtain ⟨rfl,rfl,q2⟩:=qaq h
 exact qao (hs ) q2
theorem sf38 {c74:C74} (h74:Sp74 c74):Sp38 (F38 c74):=fun y hy=>by
 refine qam (qag (ek74 h74) qal) 1000000 (fn:=Tryz.f38) (by kernel_rfl) (by kernel_rfl) (X:=X38) (by kernel_rfl) ?_
 rw [eq38]
 exact (nt38 Ops.std c74 some (K2 k0)).trans (by show ob (F38 c74) _=_;rw [hy];rfl)
noncomputable def M38:Option (Bool):=F38 M74
theorem sm38:Sp38 M38:=sf38 sm74
def X10:Aux:=⟨[(14,([0,1,2,3,4,5,6,7,8,12]++rg 16 100))],[(18,.lin [0,1,2,3,4,5,6,7]),(20,.lin ([1,2,3,4,6,7,8,9,0,5,10,11,12])),(21,.lin [0,1,2,4,5,6,7,3,8]),(23,.lin [0,1,2,4,5,6,3,7,8])]⟩
inductive S10 where
 | l0 (v0:L66) (v1:Int) (v2:L4) (v3:Int) (v4:L94) (v5:L98) (v6:L103) (v7:L68) (v8:L68)
abbrev C38:Type:=Option (Bool)
abbrev C12:Type:=Int→Int→L22→Option (L94×L98×L103)
abbrev C15:Type:=L3→Option (LB)
abbrev C20:Type:=L94→L98→L103→L3→L3→Option (L68×L68)
def T10 {R:Type} (B:Ops) (c38:C38) (c12:C12) (c15:C15) (c39:C39) (c20:C20) (c40:C40) (c43:C43) (p0:L3) (p1:Int) (p2:Int) (p3:L22) (p4:L3) (p5:L3) (again:S10→Option R) (k:(Bool)→Option R):Option S10→Option R | none=>ob (c38) fun y0=>cond (!y0) (k false) (ob (c12 p1 p2 p3) fun y1=>ob (c15 p0) fun y2=>ob (c39 y2) fun y3=>ob (c20 y1.1 y1.2.1 y1.2.2 p4 p5) fun y4=>ob (c40 y1.1 y1.2.1 y1.2.2 y3 y4.1 y4.2) fun y5=>ob (c38) fun y6=>cond (!y6) (ob (c38) fun y7=>k y7) (cond (B.eq (↑y5.length) (0)) (ob (c38) fun y7=>k y7) (cond (B.inb (IntKind.wrap .i64 (Nat.cast y5.length-1)) y5.length) (cond (!B.eq (Nat.cast (List.length (y5.getD (Int.toNat (IntKind.wrap .i64 (Nat.cast y5.length-1))) ty47.dflt))) (IntKind.wrap .i64 (Nat.cast (List.length y4.1)+Nat.cast (List.length y4.2)))) (k false) (cond (!B.eq (↑y5.length) (↑y3.length)) (k false) (again (.l0 y3 (IntKind.wrap .i64 (Nat.cast (List.length y4.1)+Nat.cast (List.length y4.2))) (y5.getD (Int.toNat (IntKind.wrap .i64 (Nat.cast y5.length-1))) ty47.dflt) 0 y1.1 y1.2.1 y1.2.2 y4.1 y4.2)))) none))) | some (.l0 v0 v1 v2 v3 v4 v5 v6 v7 v8)=>cond (B.lt v3 v1) (cond (B.lt v3 (↑v7.length)) (cond (B.inb v3 (List.length v7+1)) (cond (B.inb v3 v2.length) (ob (c43 v4 v5 v6 v0 (List.drop v3.toNat (List.take v7.length v7)) v8) fun y0=>cond (!y0 == v2.getD v3.toNat ty4.dflt) (k false) (again (.l0 v0 v1 v2 (IntKind.wrap .i64 (v3+1)) v4 v5 v6 v7 v8))) none) none) (cond (B.inb (IntKind.wrap .i64 (v3-Nat.cast v7.length)) (List.length v8+1)) (cond (B.inb (IntKind.wrap .i64 (v3-Nat.cast v7.length)) (List.length v8+1)) (cond (B.lim (List.length (mt (Ty.den ty68))+List.length (List.drop (Int.toNat (IntKind.wrap .i64 (v3-Nat.cast v7.length))) (List.take v8.length v8))) (72)) (cond (B.lim (List.length (mt (Ty.den ty68)++List.drop (Int.toNat (IntKind.wrap .i64 (v3-Nat.cast v7.length))) (List.take v8.length v8))+List.length (List.drop (0) (List.take (Int.toNat (IntKind.wrap .i64 (v3-Nat.cast v7.length))) v8))) (72)) (cond (B.inb v3 v2.length) (ob (c43 v4 v5 v6 v0 (mt (Ty.den ty68)) (mt (Ty.den ty68)++List.drop (Int.toNat (IntKind.wrap .i64 (v3-Nat.cast v7.length))) (List.take v8.length v8)++List.drop (0) (List.take (Int.toNat (IntKind.wrap .i64 (v3-Nat.cast v7.length))) v8))) fun y0=>cond (!y0 == v2.getD v3.toNat ty4.dflt) (k false) (again (.l0 v0 v1 v2 (IntKind.wrap .i64 (v3+1)) v4 v5 v6 v7 v8))) none) none) none) none) none)) (cond (B.inb (0) v2.length) (ob (c43 v4 v5 v6 v0 v7 v8) fun y0=>k (y0 == v2.getD (Int.toNat (0)) ty4.dflt)) none)
def E10 (p0:L3) (p1:Int) (p2:Int) (p3:L22) (p4:L3) (p5:L3):S10→List AV×Objs
 | .l0 v0 v1 v2 v3 v4 v5 v6 v7 v8=>(mk 116 [(9,.c (.ptr 9 0)),(10,.c (.list 66 ty66 v0)),(11,.c (.ptr 11 0)),(13,.c (.int .i64 v1)),(14,.c (.list 4 ty4 v2)),(15,.c (.int .i64 v3))],[(9,.box 31 [.list 94 ty94 v4,.list 98 ty98 v5,.list 103 ty103 v6]),(11,.box 41 [.list 68 ty68 v7,.list 68 ty68 v8])])
def I10:S10→Nat
 | .l0 _ _ _ _ _ _ _ _ _=>0
theorem eq10 {R:Type} (B:Ops) (c38:C38) (c12:C12) (c15:C15) (c39:C39) (c20:C20) (c40:C40) (c43:C43) (p0:L3) (p1:Int) (p2:Int) (p3:L22) (p4:L3) (p5:L3) (k:AV→Objs→Option R) (n:Nat):afun tau B gl0 X10 (ent 38 (e38 c38) (ent 12 (e12 c12) (ent 15 (e15 c15) (ent 39 (e39 c39) (ent 20 (e20 c20) (ent 40 (e40 c40) (ent 43 (e43 c43) gnil))))))) ow Tryz.f10 [.c (.list 3 ty3 p0),.agg [.int .i64 p1,.int .i64 p2,.list 22 ty22 p3],.c (.list 3 ty3 p4),.c (.list 3 ty3 p5)] [] k n=T10 B c38 c12 c15 c39 c20 c40 c43 p0 p1 p2 p3 p4 p5 (fun s=>aloop tau B gl0 X10 (ent 38 (e38 c38) (ent 12 (e12 c12) (ent 15 (e15 c15) (ent 39 (e39 c39) (ent 20 (e20 c20) (ent 40 (e40 c40) (ent 43 (e43 c43) gnil))))))) ow [] Tryz.f10 k (I10 s) (E10 p0 p1 p2 p3 p4 p5 s) n) (K2 k) none:=by kernel_rfl
theorem el10 {R:Type} (B:Ops) (c38:C38) (c12:C12) (c15:C15) (c39:C39) (c20:C20) (c40:C40) (c43:C43) (p0:L3) (p1:Int) (p2:Int) (p3:L22) (p4:L3) (p5:L3) (k:AV→Objs→Option R) (n:Nat):∀ s,aloop tau B gl0 X10 (ent 38 (e38 c38) (ent 12 (e12 c12) (ent 15 (e15 c15) (ent 39 (e39 c39) (ent 20 (e20 c20) (ent 40 (e40 c40) (ent 43 (e43 c43) gnil))))))) ow [] Tryz.f10 k (I10 s) (E10 p0 p1 p2 p3 p4 p5 s) (n+1)=T10 B c38 c12 c15 c39 c20 c40 c43 p0 p1 p2 p3 p4 p5 (fun s=>aloop tau B gl0 X10 (ent 38 (e38 c38) (ent 12 (e12 c12) (ent 15 (e15 c15) (ent 39 (e39 c39) (ent 20 (e20 c20) (ent 40 (e40 c40) (ent 43 (e43 c43) gnil))))))) ow [] Tryz.f10 k (I10 s) (E10 p0 p1 p2 p3 p4 p5 s) n) (K2 k) (some s):=by
 intro s
 cases s<;>kernel_rfl
theorem nt10 {R R':Type} (B:Ops) (c38:C38) (c12:C12) (c15:C15) (c39:C39) (c20:C20) (c40:C40) (c43:C43) (p0:L3) (p1:Int) (p2:Int) (p3:L22) (p4:L3) (p5:L3) (again:S10→Option R) (again':S10→Option R') (k0:(Bool)→Option R') (k:R'→Option R) (h:∀ s,again s=ob (again' s) k):∀ s,T10 B c38 c12 c15 c39 c20 c40 c43 p0 p1 p2 p3 p4 p5 again (fun y=>ob (k0 y) k) s=ob (T10 B c38 c12 c15 c39 c20 c40 c43 p0 p1 p2 p3 p4 p5 again' k0 s) k:=by
 rintro (_ | x)
 all_goals try cases x
 all_goals (unfold T10;repeat' first | exact rfl | exact h _ | apply qaf | (apply qap;intro))
def R10 (c38:C38) (c12:C12) (c15:C15) (c39:C39) (c20:C20) (c40:C40) (c43:C43) (p0:L3) (p1:Int) (p2:Int) (p3:L22) (p4:L3) (p5:L3):Nat→S10→Option (Bool)
 | 0,_=>none
 | n+1,s=>T10 Ops.std c38 c12 c15 c39 c20 c40 c43 p0 p1 p2 p3 p4 p5 (R10 c38 c12 c15 c39 c20 c40 c43 p0 p1 p2 p3 p4 p5 n) some (some s)
theorem rr10 {R:Type} (c38:C38) (c12:C12) (c15:C15) (c39:C39) (c20:C20) (c40:C40) (c43:C43) (p0:L3) (p1:Int) (p2:Int) (p3:L22) (p4:L3) (p5:L3) (k:AV→Objs→Option R):∀ (n:Nat) (s:S10),aloop tau Ops.std gl0 X10 (ent 38 (e38 c38) (ent 12 (e12 c12) (ent 15 (e15 c15) (ent 39 (e39 c39) (ent 20 (e20 c20) (ent 40 (e40 c40) (ent 43 (e43 c43) gnil))))))) ow [] Tryz.f10 k (I10 s) (E10 p0 p1 p2 p3 p4 p5 s) n=ob (R10 c38 c12 c15 c39 c20 c40 c43 p0 p1 p2 p3 p4 p5 n s) (K2 k)
 | 0,s=>by cases s<;>rfl
 | n+1,s=>by rw [el10];exact nt10 Ops.std c38 c12 c15 c39 c20 c40 c43 p0 p1 p2 p3 p4 p5 _ _ some (K2 k) (rr10 c38 c12 c15 c39 c20 c40 c43 p0 p1 p2 p3 p4 p5 k n) (some s)
def F10 (c38:C38) (c12:C12) (c15:C15) (c39:C39) (c20:C20) (c40:C40) (c43:C43) (p0:L3) (p1:Int) (p2:Int) (p3:L22) (p4:L3) (p5:L3):Option (Bool):=T10 Ops.std c38 c12 c15 c39 c20 c40 c43 p0 p1 p2 p3 p4 p5 (R10 c38 c12 c15 c39 c20 c40 c43 p0 p1 p2 p3 p4 p5 1000000) some none
abbrev Sp10 (c:L3→Int→Int→L22→L3→L3→Option (Bool)):Prop:=∀ (p0:L3) (p1:Int) (p2:Int) (p3:L22) (p4:L3) (p5:L3) (y:Bool),c p0 p1 p2 p3 p4 p5=some y→Spec Tryz.prog gl0 10 [.c (.list 3 ty3 p0),.agg [.int .i64 p1,.int .i64 p2,.list 22 ty22 p3],.c (.list 3 ty3 p4),.c (.list 3 ty3 p5)] [] (.c (.bool y)) []
theorem sf10 {c38:C38} {c12:C12} {c15:C15} {c39:C39} {c20:C20} {c40:C40} {c43:C43} (h38:Sp38 c38) (h12:Sp12 c12) (h15:Sp15 c15) (h39:Sp39 c39) (h20:Sp20 c20) (h40:Sp40 c40) (h43:Sp43 c43):Sp10 (F10 c38 c12 c15 c39 c20 c40 c43):=fun p0 p1 p2 p3 p4 p5 y hy=>by
 refine qam (qag (ek38 h38) (qag (ek12 h12) (qag (ek15 h15) (qag (ek39 h39) (qag (ek20 h20) (qag (ek40 h40) (qag (ek43 h43) qal))))))) 1000000 (fn:=Tryz.f10) (by kernel_rfl) (by kernel_rfl) (X:=X10) (by kernel_rfl) ?_
 rw [eq10]
 exact (nt10 Ops.std c38 c12 c15 c39 c20 c40 c43 p0 p1 p2 p3 p4 p5 _ _ some (K2 k0) (rr10 c38 c12 c15 c39 c20 c40 c43 p0 p1 p2 p3 p4 p5 k0 1000000) none).trans (by show ob (F10 c38 c12 c15 c39 c20 c40 c43 p0 p1 p2 p3 p4 p5) _=_;rw [hy];rfl)
noncomputable def M10:L3→Int→Int→L22→L3→L3→Option (Bool):=F10 M38 M12 M15 M39 M20 M40 M43
theorem sm10:Sp10 M10:=sf10 sm38 sm12 sm15 sm39 sm20 sm40 sm43
def e7 {R:Type} (c:L3→Int→Int→L22→L3→L3→Int→Option (Bool)):Ent R:=fun args objs k=>
 oL args 3 ty3 fun p0 l0=>oCons l0 fun a1 l1=>oAgg a1 fun x1=>cCons x1 fun z1_0 w1_0=>cInt .i64 z1_0 fun p1=>cCons w1_0 fun z1_1 w1_1=>cInt .i64 z1_1 fun p2=>cCons w1_1 fun z1_2 w1_2=>cList 22 ty22 z1_2 fun p3=>cNil w1_2 <| oL l1 3 ty3 fun p4 l2=>oL l2 3 ty3 fun p5 l3=>oI l3 .i64 fun p6 l4=>oE l4 objs <| ob (c p0 p1 p2 p3 p4 p5 p6) fun y=>k (.c (.bool y)) []
def e4 {R:Type} (c:L3→Bool→Int→Int→L22→Int→Int→Int→Int→Option (Bool)):Ent R:=fun args objs k=>
 oL args 3 ty3 fun p0 l0=>oCons l0 fun a1 l1=>oC a1 fun x1=>cBool x1 fun p1=>oCons l1 fun a2 l2=>oAgg a2 fun x2=>cCons x2 fun z2_0 w2_0=>cInt .i64 z2_0 fun p2=>cCons w2_0 fun z2_1 w2_1=>cInt .i64 z2_1 fun p3=>cCons w2_1 fun z2_2 w2_2=>cList 22 ty22 z2_2 fun p4=>cNil w2_2 <| oI l2 .i64 fun p5 l3=>oI l3 .i64 fun p6 l4=>oI l4 .i64 fun p7 l5=>oI l5 .i64 fun p8 l6=>oE l6 objs <| ob (c p0 p1 p2 p3 p4 p5 p6 p7 p8) fun y=>k (.c (.bool y)) []
end Go.Proofs.YtccnmhdgghjgoaaGreatDoor.Av
