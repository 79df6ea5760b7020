/- Twins of functions,printed by gen.py. Conditions: none. -/
import Derived.Test.YtfdlgmbbflmbgaaDoorWf2
import Derived.KernelRfl
set_option linter.unusedSimpArgs false
set_option linter.unusedVariables false
set_option maxRecDepth 100000
set_option maxHeartbeats 8000000
namespace Go.Proofs.YtfdlgmbbflmbgaaDoor.Av
open Go
def X90:Aux:=⟨[(6,([1,2,3,4,5,6,7]++rg 10 45))],[]⟩
inductive S90 where
 | l0 (v1:Int) (v2:Int)
abbrev C90:Type:=LB→Bool→Option (Int×Bool)
def T90 {R:Type} (B:Ops) (c90:C90) (c31:C31) (p0:LB) (p1:Bool) (again:S90→Option R) (k:(Int×Bool)→Option R):Option S90→Option R | none=>cond (p1) (cond (B.lt (1) (↑p0.length)) (cond (B.inb (0) p0.length) (cond (B.eq (Nat.cast (UInt8.toNat (p0.getD (Int.toNat (0)) (0)))) (45)) (cond (B.inb (1) (List.length p0+1)) (ob (c90 (List.drop (Int.toNat (1)) (List.take p0.length p0)) false) fun y0=>k ((IntKind.wrap .i64 (0-y0.1),y0.2))) none) (again (.l0 0 0))) none) (again (.l0 0 0))) (again (.l0 0 0)) | some (.l0 v1 v2)=>cond (B.lt v2 (↑p0.length)) (cond (B.inb v2 p0.length) (ob (c31 (Nat.cast (UInt8.toNat (p0.getD v2.toNat (0))))) fun y0=>cond (!y0) (k ((0,false))) (cond (B.inb v2 p0.length) (cond (B.lt (2) v2) (k ((0,false))) (again (.l0 (IntKind.wrap .i64 (IntKind.wrap .i64 (10*v1)+IntKind.wrap .i64 (IntKind.wrap IntKind.u8 (Nat.cast (UInt8.toNat (p0.getD v2.toNat (0)))-48)))) (IntKind.wrap .i64 (v2+1))))) none)) none) (k ((v1,B.lt (0) (↑p0.length))))
def E90 (p0:LB) (p1:Bool):S90→List AV×Objs
 | .l0 v1 v2=>(mk 55 [(0,.c (.str p0)),(8,.c (.int .i64 v1)),(9,.c (.int .i64 v2))],[])
def I90:S90→Nat
 | .l0 _ _=>0
theorem eq90 {R:Type} (B:Ops) (c90:C90) (c31:C31) (p0:LB) (p1:Bool) (k:AV→Objs→Option R) (n:Nat):afun tau B gl0 X90 (ent 90 (e90 c90) (ent 31 (e31 c31) gnil)) ow Tryd.f90 [.c (.str p0),.c (.bool p1)] [] k n=T90 B c90 c31 p0 p1 (fun s=>aloop tau B gl0 X90 (ent 90 (e90 c90) (ent 31 (e31 c31) gnil)) ow [] Tryd.f90 k (I90 s) (E90 p0 p1 s) n) (K7 k) none:=by kernel_rfl
theorem el90 {R:Type} (B:Ops) (c90:C90) (c31:C31) (p0:LB) (p1:Bool) (k:AV→Objs→Option R) (n:Nat):∀ s,aloop tau B gl0 X90 (ent 90 (e90 c90) (ent 31 (e31 c31) gnil)) ow [] Tryd.f90 k (I90 s) (E90 p0 p1 s) (n+1)=T90 B c90 c31 p0 p1 (fun s=>aloop tau B gl0 X90 (ent 90 (e90 c90) (ent 31 (e31 c31) gnil)) ow [] Tryd.f90 k (I90 s) (E90 p0 p1 s) n) (K7 k) (some s):=by
 intro s
 cases s<;>kernel_rfl
theorem nt90 {R R':Type} (B:Ops) (c90:C90) (c31:C31) (p0:LB) (p1:Bool) (again:S90→Option R) (again':S90→Option R') (k0:(Int×Bool)→Option R') (k:R'→Option R) (h:∀ s,again s=ob (again' s) k):∀ s,T90 B c90 c31 p0 p1 again (fun y=>ob (k0 y) k) s=ob (T90 B c90 c31 p0 p1 again' k0 s) k:=by
 rintro (_ | x)
 all_goals try cases x
 all_goals (unfold T90;repeat' first | exact rfl | exact h _ | apply qaf | (apply qao;intro))
def R90 (c90:C90) (c31:C31) (p0:LB) (p1:Bool):Nat→S90→Option (Int×Bool)
 | 0,_=>none
 | n+1,s=>T90 Ops.std c90 c31 p0 p1 (R90 c90 c31 p0 p1 n) some (some s)
theorem rr90 {R:Type} (c90:C90) (c31:C31) (p0:LB) (p1:Bool) (k:AV→Objs→Option R):∀ (n:Nat) (s:S90),aloop tau Ops.std gl0 X90 (ent 90 (e90 c90) (ent 31 (e31 c31) gnil)) ow [] Tryd.f90 k (I90 s) (E90 p0 p1 s) n=ob (R90 c90 c31 p0 p1 n s) (K7 k)
 | 0,s=>by cases s<;>rfl
 | n+1,s=>by rw [el90];exact nt90 Ops.std c90 c31 p0 p1 _ _ some (K7 k) (rr90 c90 c31 p0 p1 k n) (some s)
def F90 (c90:C90) (c31:C31) (p0:LB) (p1:Bool):Option (Int×Bool):=T90 Ops.std c90 c31 p0 p1 (R90 c90 c31 p0 p1 1000000) some none
theorem sf90 {c90:C90} {c31:C31} (h90:Sp90 c90) (h31:Sp31 c31):Sp90 (F90 c90 c31):=fun p0 p1 y hy=>by
 refine qaj (qae (ek90 h90) (qae (ek31 h31) qai)) 1000000 (fn:=Tryd.f90) (by kernel_rfl) (by kernel_rfl) (X:=X90) (by kernel_rfl) ?_
 rw [eq90]
 exact (nt90 Ops.std c90 c31 p0 p1 _ _ some (K7 k0) (rr90 c90 c31 p0 p1 k0 1000000) none).trans (by show ob (F90 c90 c31 p0 p1) _=_;rw [hy];rfl)
noncomputable def Rec90:Nat→(LB→Bool→Option (Int×Bool))
 | 0=>fun _ _=>none
 | d+1=>F90 (Rec90 d) M31
theorem rec90:∀ d,Sp90 (Rec90 d)
 | 0=>fun p0 p1 y (h:(none:Option (Int×Bool))=some y)=>by cases h
 | d+1=>sf90 (rec90 d) sm31
noncomputable def M90:LB→Bool→Option (Int×Bool):=(Rec90 1000000)
theorem sm90:Sp90 M90:=(rec90 1000000)
def X68:Aux:=⟨[],[]⟩
def T68 {R:Type} (B:Ops) (c90:C90) (p0:L9) (k:(LB×Int×Int×Int×Bool)→Option R):Option R:=cond (!B.eq (↑p0.length) (4)) (k ((mt UInt8,0,0,0,false))) (cond (B.inb (1) p0.length) (ob (c90 (p0.getD (Int.toNat (1)) ty9.dflt) true) fun y0=>cond (B.inb (2) p0.length) (ob (c90 (p0.getD (Int.toNat (2)) ty9.dflt) true) fun y1=>cond (B.inb (3) p0.length) (ob (c90 (p0.getD (Int.toNat (3)) ty9.dflt) true) fun y2=>cond (B.inb (0) p0.length) (cond y0.2 (cond y1.2 (k ((p0.getD (Int.toNat (0)) ty9.dflt,y0.1,y1.1,y2.1,y2.2))) (k ((p0.getD (Int.toNat (0)) ty9.dflt,y0.1,y1.1,y2.1,false)))) (k ((p0.getD (Int.toNat (0)) ty9.dflt,y0.1,y1.1,y2.1,false)))) none) none) none) none)
abbrev K19 {R:Type} (k:AV→Objs→Option R) (y:(LB×Int×Int×Int×Bool)):Option R:=k (.tup [(true,[.str y.1,.int .i64 y.2.1,.int .i64 y.2.2.1,.int .i64 y.2.2.2.1]),(false,[.bool y.2.2.2.2])]) []
theorem eq68 {R:Type} (B:Ops) (c90:C90) (p0:L9) (k:AV→Objs→Option R) (n:Nat):afun tau B gl0 X68 (ent 90 (e90 c90) gnil) ow Tryd.f68 [.c (.list 9 ty9 p0)] [] k n=T68 B c90 p0 (K19 k):=by kernel_rfl
theorem nt68 {R R':Type} (B:Ops) (c90:C90) (p0:L9) (k0:(LB×Int×Int×Int×Bool)→Option R') (k:R'→Option R):T68 B c90 p0 (fun y=>ob (k0 y) k)=ob (T68 B c90 p0 k0) k:=by
 unfold T68
 repeat' first | exact rfl | apply qaf | (apply qao;intro)
def F68 (c90:C90) (p0:L9):Option (LB×Int×Int×Int×Bool):=T68 Ops.std c90 p0 some
def e68 {R:Type} (c:L9→Option (LB×Int×Int×Int×Bool)):Ent R:=fun args objs k=>
 oL args 9 ty9 fun p0 l0=>oE l0 objs <| ob (c p0) (K19 k)
abbrev Sp68 (c:L9→Option (LB×Int×Int×Int×Bool)):Prop:=∀ (p0:L9) (y:LB×Int×Int×Int×Bool),c p0=some y→Spec Tryd.prog gl0 68 [.c (.list 9 ty9 p0)] [] (.tup [(true,[.str y.1,.int .i64 y.2.1,.int .i64 y.2.2.1,.int .i64 y.2.2.2.1]),(false,[.bool y.2.2.2.2])]) []
theorem ek68 {R:Type} {c:L9→Option (LB×Int×Int×Int×Bool)} (hs:Sp68 c):EOk 68 (e68 (R:=R) c):=fun args objs k r h=>by
 unfold e68 at h
 obtain ⟨p0,l0,rfl,q3⟩:=qaw h
 obtain ⟨rfl,rfl,q5⟩:=qam q3
 exact qap (hs p0) q5
theorem sf68 {c90:C90} (h90:Sp90 c90):Sp68 (F68 c90):=fun p0 y hy=>by
 refine qaj (qae (ek90 h90) qai) 1000000 (fn:=Tryd.f68) (by kernel_rfl) (by kernel_rfl) (X:=X68) (by kernel_rfl) ?_
 rw [eq68]
 exact (nt68 Ops.std c90 p0 some (K19 k0)).trans (by show ob (F68 c90 p0) _=_;rw [hy];rfl)
noncomputable def M68:L9→Option (LB×Int×Int×Int×Bool):=F68 M90
theorem sm68:Sp68 M68:=sf68 sm90
def X70:Aux:=⟨[(1,(rg 2 28)),(3,(rg 2 28)),(5,(rg 2 28))],[]⟩
inductive S70 where
 | l0 (v0:LB) (v1:Int)
 | l1 (v0:LB) (v1:Int)
 | l2 (v0:LB) (v1:Int)
def T70 {R:Type} (B:Ops) (p0:LB) (p1:Int) (again:S70→Option R) (k:(LB)→Option R):Option S70→Option R | none=>again (.l0 p0 p1) | some (.l0 v0 v1)=>cond (B.lt (0) v1) (again (.l1 v0 v1)) (k v0) | some (.l1 v0 v1)=>cond (B.lt (0) (↑v0.length)) (cond (B.inb (0) v0.length) (cond (B.eq (Nat.cast (UInt8.toNat (v0.getD (Int.toNat (0)) (0)))) (32)) (cond (B.inb (1) (List.length v0+1)) (again (.l1 (List.drop (Int.toNat (1)) (List.take v0.length v0)) v1)) none) (again (.l2 v0 v1))) none) (again (.l2 v0 v1)) | some (.l2 v0 v1)=>cond (B.lt (0) (↑v0.length)) (cond (B.inb (0) v0.length) (cond (!B.eq (Nat.cast (UInt8.toNat (v0.getD (Int.toNat (0)) (0)))) (32)) (cond (B.inb (1) (List.length v0+1)) (again (.l2 (List.drop (Int.toNat (1)) (List.take v0.length v0)) v1)) none) (again (.l0 v0 (IntKind.wrap .i64 (v1-1))))) none) (again (.l0 v0 (IntKind.wrap .i64 (v1-1))))
def E70 (p0:LB) (p1:Int):S70→List AV×Objs
 | .l0 v0 v1=>(mk 30 [(0,.c (.str v0)),(1,.c (.int .i64 v1))],[])
 | .l1 v0 v1=>(mk 30 [(0,.c (.str v0)),(1,.c (.int .i64 v1))],[])
 | .l2 v0 v1=>(mk 30 [(0,.c (.str v0)),(1,.c (.int .i64 v1))],[])
def I70:S70→Nat
 | .l0 _ _=>0
 | .l1 _ _=>1
 | .l2 _ _=>2
theorem eq70 {R:Type} (B:Ops) (p0:LB) (p1:Int) (k:AV→Objs→Option R) (n:Nat):afun tau B gl0 X70 gnil ow Tryd.f70 [.c (.str p0),.c (.int .i64 p1)] [] k n=T70 B p0 p1 (fun s=>aloop tau B gl0 X70 gnil ow [] Tryd.f70 k (I70 s) (E70 p0 p1 s) n) (K2 k) none:=by kernel_rfl
theorem el70 {R:Type} (B:Ops) (p0:LB) (p1:Int) (k:AV→Objs→Option R) (n:Nat):∀ s,aloop tau B gl0 X70 gnil ow [] Tryd.f70 k (I70 s) (E70 p0 p1 s) (n+1)=T70 B p0 p1 (fun s=>aloop tau B gl0 X70 gnil ow [] Tryd.f70 k (I70 s) (E70 p0 p1 s) n) (K2 k) (some s):=by
 intro s
 cases s<;>kernel_rfl
theorem nt70 {R R':Type} (B:Ops) (p0:LB) (p1:Int) (again:S70→Option R) (again':S70→Option R') (k0:(LB)→Option R') (k:R'→Option R) (h:∀ s,again s=ob (again' s) k):∀ s,T70 B p0 p1 again (fun y=>ob (k0 y) k) s=ob (T70 B p0 p1 again' k0 s) k:=by
 rintro (_ | x)
 all_goals try cases x
 all_goals (unfold T70;repeat' first | exact rfl | exact h _ | apply qaf | (apply qao;intro))
def R70 (p0:LB) (p1:Int):Nat→S70→Option (LB)
 | 0,_=>none
 | n+1,s=>T70 Ops.std p0 p1 (R70 p0 p1 n) some (some s)
theorem rr70 {R:Type} (p0:LB) (p1:Int) (k:AV→Objs→Option R):∀ (n:Nat) (s:S70),aloop tau Ops.std gl0 X70 gnil ow [] Tryd.f70 k (I70 s) (E70 p0 p1 s) n=ob (R70 p0 p1 n s) (K2 k)
 | 0,s=>by cases s<;>rfl
 | n+1,s=>by rw [el70];exact nt70 Ops.std p0 p1 _ _ some (K2 k) (rr70 p0 p1 k n) (some s)
def F70 (p0:LB) (p1:Int):Option (LB):=T70 Ops.std p0 p1 (R70 p0 p1 1000000) some none
def e70 {R:Type} (c:LB→Int→Option (LB)):Ent R:=fun args objs k=>
 oS args fun p0 l0=>oI l0 .i64 fun p1 l1=>oE l1 objs <| ob (c p0 p1) (K2 k)
abbrev Sp70 (c:LB→Int→Option (LB)):Prop:=∀ (p0:LB) (p1:Int) (y:LB),c p0 p1=some y→Spec Tryd.prog gl0 70 [.c (.str p0),.c (.int .i64 p1)] [] (.c (.str y)) []
theorem ek70 {R:Type} {c:LB→Int→Option (LB)} (hs:Sp70 c):EOk 70 (e70 (R:=R) c):=fun args objs k r h=>by
 unfold e70 at h
 obtain ⟨p0,l0,rfl,q3⟩:=qa8 h
 obtain ⟨p1,l1,rfl,q6⟩:=qau q3
 obtain ⟨rfl,rfl,q8⟩:=qam q6
 exact qap (hs p0 p1) q8
theorem sf70:Sp70 (F70):=fun p0 p1 y hy=>by
 refine qaj qai 1000000 (fn:=Tryd.f70) (by kernel_rfl) (by kernel_rfl) (X:=X70) (by kernel_rfl) ?_
 rw [eq70]
 exact (nt70 Ops.std p0 p1 _ _ some (K2 k0) (rr70 p0 p1 k0 1000000) none).trans (by show ob (F70 p0 p1) _=_;rw [hy];rfl)
noncomputable def M70:LB→Int→Option (LB):=F70
theorem sm70:Sp70 M70:=sf70
def X76:Aux:=⟨[],[]⟩
abbrev C11:Type:=LB→Option (Bool)
def T76 {R:Type} (B:Ops) (c11:C11) (p0:LB) (k:(LB×Bool)→Option R):Option R:=cond (p0 == mt UInt8) (k ((mt UInt8,true))) (cond (B.inb (IntKind.wrap .i64 (Nat.cast p0.length-1)) (List.length p0+1)) (cond (B.inb (IntKind.wrap .i64 (Nat.cast p0.length-1)) (List.length p0+1)) (ob (c11 (List.drop (0) (List.take (Int.toNat (IntKind.wrap .i64 (Nat.cast p0.length-1))) p0))) fun y0=>cond (y0) (cond (List.drop (Int.toNat (IntKind.wrap .i64 (Nat.cast p0.length-1))) (List.take p0.length p0) == ([33]:LB)) (k ((List.drop (0) (List.take (Int.toNat (IntKind.wrap .i64 (Nat.cast p0.length-1))) p0),true))) (k ((List.drop (0) (List.take (Int.toNat (IntKind.wrap .i64 (Nat.cast p0.length-1))) p0),List.drop (Int.toNat (IntKind.wrap .i64 (Nat.cast p0.length-1))) (List.take p0.length p0) == ([63]:LB))))) (k ((List.drop (0) (List.take (Int.toNat (IntKind.wrap .i64 (Nat.cast p0.length-1))) p0),false)))) none) none)
abbrev K20 {R:Type} (k:AV→Objs→Option R) (y:(LB×Bool)):Option R:=k (.tup [(false,[.str y.1]),(false,[.bool y.2])]) []
theorem eq76 {R:Type} (B:Ops) (c11:C11) (p0:LB) (k:AV→Objs→Option R) (n:Nat):afun tau B gl0 X76 (ent 11 (e11 c11) gnil) ow Tryd.f76 [.c (.str p0)] [] k n=T76 B c11 p0 (K20 k):=by kernel_rfl
theorem nt76 {R R':Type} (B:Ops) (c11:C11) (p0:LB) (k0:(LB×Bool)→Option R') (k:R'→Option R):T76 B c11 p0 (fun y=>ob (k0 y) k)=ob (T76 B c11 p0 k0) k:=by
 unfold T76
 repeat' first | exact rfl | apply qaf | (apply qao;intro)
def F76 (c11:C11) (p0:LB):Option (LB×Bool):=T76 Ops.std c11 p0 some
def e76 {R:Type} (c:LB→Option (LB×Bool)):Ent R:=fun args objs k=>
 oS args fun p0 l0=>oE l0 objs <| ob (c p0) (K20 k)
abbrev Sp76 (c:LB→Option (LB×Bool)):Prop:=∀ (p0:LB) (y:LB×Bool),c p0=some y→Spec Tryd.prog gl0 76 [.c (.str p0)] [] (.tup [(false,[.str y.1]),(false,[.bool y.2])]) []
theorem ek76 {R:Type} {c:LB→Option (LB×Bool)} (hs:Sp76 c):EOk 76 (e76 (R:=R) c):=fun args objs k r h=>by
 unfold e76 at h
 obtain ⟨p0,l0,rfl,q3⟩:=qa8 h
 obtain ⟨rfl,rfl,q5⟩:=qam q3
 exact qap (hs p0) q5
theorem sf76 {c11:C11} (h11:Sp11 c11):Sp76 (F76 c11):=fun p0 y hy=>by
 refine qaj (qae (ek11 h11) qai) 1000000 (fn:=Tryd.f76) (by kernel_rfl) (by kernel_rfl) (X:=X76) (by kernel_rfl) ?_
 rw [eq76]
 exact (nt76 Ops.std c11 p0 some (K20 k0)).trans (by show ob (F76 c11 p0) _=_;rw [hy];rfl)
noncomputable def M76:LB→Option (LB×Bool):=F76 M11
theorem sm76:Sp76 M76:=sf76 sm11
def X91:Aux:=⟨[],[(6,.lin [0,1,2,3,4,5,6,7,8]),(8,.lin [0,1,2,3,4,5,6,7])]⟩
def T91 {R:Type} (B:Ops) (c9:C9) (c101:C101) (p0:LB) (k:(Int×Int×L140)→Option R):Option R:=ob (c9 p0) fun y0=>cond (!B.eq y0.1 (0)) (k ((y0.1,y0.2.1,mt (Ty.den ty140)))) (ob (c101 y0.2.2 (0)) fun y1=>cond (!B.eq y1.2.1 (0)) (cond (B.inb y1.1 (List.length y0.2.2)) (k ((y1.2.1,(((List.getD y0.2.2 (Int.toNat y1.1) ty30.dflt).2).2).2,mt (Ty.den ty140)))) none) (cond (B.inb y1.1 (List.length y0.2.2)) (cond (!B.eq ((List.getD y0.2.2 (Int.toNat y1.1) ty30.dflt).1) (5)) (cond (B.inb y1.1 (List.length y0.2.2)) (k ((2,(((List.getD y0.2.2 (Int.toNat y1.1) ty30.dflt).2).2).2,mt (Ty.den ty140)))) none) (k ((0,0,y1.2.2)))) none))
theorem eq91 {R:Type} (B:Ops) (c9:C9) (c101:C101) (p0:LB) (k:AV→Objs→Option R) (n:Nat):afun tau B gl0 X91 (ent 9 (e9 c9) (ent 101 (e101 c101) gnil)) ow Tryd.f91 [.c (.str p0)] [] k n=T91 B c9 c101 p0 (K12 k):=by kernel_rfl
theorem nt91 {R R':Type} (B:Ops) (c9:C9) (c101:C101) (p0:LB) (k0:(Int×Int×L140)→Option R') (k:R'→Option R):T91 B c9 c101 p0 (fun y=>ob (k0 y) k)=ob (T91 B c9 c101 p0 k0) k:=by
 unfold T91
 repeat' first | exact rfl | apply qaf | (apply qao;intro)
def F91 (c9:C9) (c101:C101) (p0:LB):Option (Int×Int×L140):=T91 Ops.std c9 c101 p0 some
def e91 {R:Type} (c:LB→Option (Int×Int×L140)):Ent R:=fun args objs k=>
 oS args fun p0 l0=>oE l0 objs <| ob (c p0) (K12 k)
abbrev Sp91 (c:LB→Option (Int×Int×L140)):Prop:=∀ (p0:LB) (y:Int×Int×L140),c p0=some y→Spec Tryd.prog gl0 91 [.c (.str p0)] [] (.tup [(false,[.own 501000]),(false,[.int .i64 y.1]),(false,[.int .i64 y.2.1])]) [(501000,.row 140 ty140 y.2.2)]
theorem ek91 {R:Type} {c:LB→Option (Int×Int×L140)} (hs:Sp91 c):EOk 91 (e91 (R:=R) c):=fun args objs k r h=>by
 unfold e91 at h
 obtain ⟨p0,l0,rfl,q3⟩:=qa8 h
 obtain ⟨rfl,rfl,q5⟩:=qam q3
 exact qap (hs p0) q5
theorem sf91 {c9:C9} {c101:C101} (h9:Sp9 c9) (h101:Sp101 c101):Sp91 (F91 c9 c101):=fun p0 y hy=>by
 refine qaj (qae (ek9 h9) (qae (ek101 h101) qai)) 1000000 (fn:=Tryd.f91) (by kernel_rfl) (by kernel_rfl) (X:=X91) (by kernel_rfl) ?_
 rw [eq91]
 exact (nt91 Ops.std c9 c101 p0 some (K12 k0)).trans (by show ob (F91 c9 c101 p0) _=_;rw [hy];rfl)
noncomputable def M91:LB→Option (Int×Int×L140):=F91 M9 M101
theorem sm91:Sp91 M91:=sf91 sm9 sm101
def X92:Aux:=⟨[(3,([1,2,3]++rg 6 74))],[]⟩
inductive S92 where
 | l0 (v1:Int) (v2:L138)
def T92 {R:Type} (B:Ops) (c9:C9) (c101:C101) (p0:L9) (again:S92→Option R) (k:(Bool×L138)→Option R):Option S92→Option R | none=>again (.l0 0 (mt (Ty.den ty138))) | some (.l0 v1 v2)=>cond (B.lt v1 (↑p0.length)) (cond (B.inb v1 p0.length) (ob (c9 (p0.getD v1.toNat ty9.dflt)) fun y0=>cond (!B.eq y0.1 (0)) (k ((false,mt (Ty.den ty138)))) (cond (B.lt (Nat.cast (List.length y0.2.2)) (3)) (k ((false,mt (Ty.den ty138)))) (cond (B.inb (0) (List.length y0.2.2)) (cond (!B.eq ((List.getD y0.2.2 (Int.toNat (0)) ty30.dflt).1) (2)) (k ((false,mt (Ty.den ty138)))) (cond (B.inb (1) (List.length y0.2.2)) (cond (!B.eq ((List.getD y0.2.2 (Int.toNat (1)) ty30.dflt).1) (4)) (k ((false,mt (Ty.den ty138)))) (cond (B.inb (1) (List.length y0.2.2)) (cond (!((List.getD y0.2.2 (Int.toNat (1)) ty30.dflt).2).1 == ([61]:LB)) (k ((false,mt (Ty.den ty138)))) (ob (c101 y0.2.2 (2)) fun y1=>cond (!B.eq y1.2.1 (0)) (k ((false,mt (Ty.den ty138)))) (cond (B.inb y1.1 (List.length y0.2.2)) (cond (!B.eq ((List.getD y0.2.2 (Int.toNat y1.1) ty30.dflt).1) (5)) (k ((false,mt (Ty.den ty138)))) (cond (B.inb (0) (List.length y0.2.2)) (cond (B.lim (List.length v2+List.length ((((List.getD y0.2.2 (Int.toNat (0)) ty30.dflt).2).1,y1.2.2)::mt (Ty.den ty138))) (40)) (again (.l0 (IntKind.wrap .i64 (v1+1)) (v2++(((List.getD y0.2.2 (Int.toNat (0)) ty30.dflt).2).1,y1.2.2)::mt (Ty.den ty138)))) none) none)) none))) none)) none)) none))) none) (k ((true,v2)))
def E92 (p0:L9):S92→List AV×Objs
 | .l0 v1 v2=>(mk 80 [(0,.c (.list 9 ty9 p0)),(4,.c (.own 4)),(5,.c (.int .i64 v1))],[(4,.row 138 ty138 v2)])
def I92:S92→Nat
 | .l0 _ _=>0
abbrev K21 {R:Type} (k:AV→Objs→Option R) (y:(Bool×L138)):Option R:=k (.tup [(false,[.own 501000]),(false,[.bool y.1])]) [(501000,.row 138 ty138 y.2)]
theorem eq92 {R:Type} (B:Ops) (c9:C9) (c101:C101) (p0:L9) (k:AV→Objs→Option R) (n:Nat):afun tau B gl0 X92 (ent 9 (e9 c9) (ent 101 (e101 c101) gnil)) ow Tryd.f92 [.c (.list 9 ty9 p0)] [] k n=T92 B c9 c101 p0 (fun s=>aloop tau B gl0 X92 (ent 9 (e9 c9) (ent 101 (e101 c101) gnil)) ow [] Tryd.f92 k (I92 s) (E92 p0 s) n) (K21 k) none:=by kernel_rfl
theorem el92 {R:Type} (B:Ops) (c9:C9) (c101:C101) (p0:L9) (k:AV→Objs→Option R) (n:Nat):∀ s,aloop tau B gl0 X92 (ent 9 (e9 c9) (ent 101 (e101 c101) gnil)) ow [] Tryd.f92 k (I92 s) (E92 p0 s) (n+1)=T92 B c9 c101 p0 (fun s=>aloop tau B gl0 X92 (ent 9 (e9 c9) (ent 101 (e101 c101) gnil)) ow [] Tryd.f92 k (I92 s) (E92 p0 s) n) (K21 k) (some s):=by
 intro s
 cases s<;>kernel_rfl
theorem nt92 {R R':Type} (B:Ops) (c9:C9) (c101:C101) (p0:L9) (again:S92→Option R) (again':S92→Option R') (k0:(Bool×L138)→Option R') (k:R'→Option R) (h:∀ s,again s=ob (again' s) k):∀ s,T92 B c9 c101 p0 again (fun y=>ob (k0 y) k) s=ob (T92 B c9 c101 p0 again' k0 s) k:=by
 rintro (_ | x)
 all_goals try cases x
 all_goals (unfold T92;repeat' first | exact rfl | exact h _ | apply qaf | (apply qao;intro))
def R92 (c9:C9) (c101:C101) (p0:L9):Nat→S92→Option (Bool×L138)
 | 0,_=>none
 | n+1,s=>T92 Ops.std c9 c101 p0 (R92 c9 c101 p0 n) some (some s)
theorem rr92 {R:Type} (c9:C9) (c101:C101) (p0:L9) (k:AV→Objs→Option R):∀ (n:Nat) (s:S92),aloop tau Ops.std gl0 X92 (ent 9 (e9 c9) (ent 101 (e101 c101) gnil)) ow [] Tryd.f92 k (I92 s) (E92 p0 s) n=ob (R92 c9 c101 p0 n s) (K21 k)
 | 0,s=>by cases s<;>rfl
 | n+1,s=>by rw [el92];exact nt92 Ops.std c9 c101 p0 _ _ some (K21 k) (rr92 c9 c101 p0 k n) (some s)
def F92 (c9:C9) (c101:C101) (p0:L9):Option (Bool×L138):=T92 Ops.std c9 c101 p0 (R92 c9 c101 p0 1000000) some none
def e92 {R:Type} (c:L9→Option (Bool×L138)):Ent R:=fun args objs k=>
 oL args 9 ty9 fun p0 l0=>oE l0 objs <| ob (c p0) (K21 k)
abbrev Sp92 (c:L9→Option (Bool×L138)):Prop:=∀ (p0:L9) (y:Bool×L138),c p0=some y→Spec Tryd.prog gl0 92 [.c (.list 9 ty9 p0)] [] (.tup [(false,[.own 501000]),(false,[.bool y.1])]) [(501000,.row 138 ty138 y.2)]
theorem ek92 {R:Type} {c:L9→Option (Bool×L138)} (hs:Sp92 c):EOk 92 (e92 (R:=R) c):=fun args objs k r h=>by
 unfold e92 at h
 obtain ⟨p0,l0,rfl,q3⟩:=qaw h
 obtain ⟨rfl,rfl,q5⟩:=qam q3
 exact qap (hs p0) q5
theorem sf92 {c9:C9} {c101:C101} (h9:Sp9 c9) (h101:Sp101 c101):Sp92 (F92 c9 c101):=fun p0 y hy=>by
 refine qaj (qae (ek9 h9) (qae (ek101 h101) qai)) 1000000 (fn:=Tryd.f92) (by kernel_rfl) (by kernel_rfl) (X:=X92) (by kernel_rfl) ?_
 rw [eq92]
 exact (nt92 Ops.std c9 c101 p0 _ _ some (K21 k0) (rr92 c9 c101 p0 k0 1000000) none).trans (by show ob (F92 c9 c101 p0) _=_;rw [hy];rfl)
noncomputable def M92:L9→Option (Bool×L138):=F92 M9 M101
theorem sm92:Sp92 M92:=sf92 sm9 sm101
def X77:Aux:=⟨[],[]⟩
def T77 {R:Type} (B:Ops) (p0:Int) (k:(Bool)→Option R):Option R:=cond (B.le (1) p0) (k (B.le p0 (999))) (k false)
theorem eq77 {R:Type} (B:Ops) (p0:Int) (k:AV→Objs→Option R) (n:Nat):afun tau B gl0 X77 gnil ow Tryd.f77 [.c (.int .i64 p0)] [] k n=T77 B p0 (K1 k):=by kernel_rfl
theorem nt77 {R R':Type} (B:Ops) (p0:Int) (k0:(Bool)→Option R') (k:R'→Option R):T77 B p0 (fun y=>ob (k0 y) k)=ob (T77 B p0 k0) k:=by
 unfold T77
 repeat' first | exact rfl | apply qaf | (apply qao;intro)
def F77 (p0:Int):Option (Bool):=T77 Ops.std p0 some
def e77 {R:Type} (c:Int→Option (Bool)):Ent R:=fun args objs k=>
 oI args .i64 fun p0 l0=>oE l0 objs <| ob (c p0) (K1 k)
abbrev Sp77 (c:Int→Option (Bool)):Prop:=∀ (p0:Int) (y:Bool),c p0=some y→Spec Tryd.prog gl0 77 [.c (.int .i64 p0)] [] (.c (.bool y)) []
theorem ek77 {R:Type} {c:Int→Option (Bool)} (hs:Sp77 c):EOk 77 (e77 (R:=R) c):=fun args objs k r h=>by
 unfold e77 at h
 obtain ⟨p0,l0,rfl,q3⟩:=qau h
 obtain ⟨rfl,rfl,q5⟩:=qam q3
 exact qap (hs p0) q5
theorem sf77:Sp77 (F77):=fun p0 y hy=>by
 refine qaj qai 1000000 (fn:=Tryd.f77) (by kernel_rfl) (by kernel_rfl) (X:=X77) (by kernel_rfl) ?_
 rw [eq77]
 exact (nt77 Ops.std p0 some (K1 k0)).trans (by show ob (F77 p0) _=_;rw [hy];rfl)
noncomputable def M77:Int→Option (Bool):=F77
theorem sm77:Sp77 M77:=sf77
def X98:Aux:=⟨[],[]⟩
def T98 {R:Type} (B:Ops) (p0:Int) (k:(Int)→Option R):Option R:=cond (B.le (1) p0) (cond (B.le p0 (3)) (k 0) (cond (B.eq p0 (4)) (k 1) (cond (B.eq p0 (5)) (k 1) (cond (B.le (6) p0) (cond (B.le p0 (16)) (k 2) (k (-1))) (k (-1)))))) (cond (B.eq p0 (4)) (k 1) (cond (B.eq p0 (5)) (k 1) (cond (B.le (6) p0) (cond (B.le p0 (16)) (k 2) (k (-1))) (k (-1)))))
theorem eq98 {R:Type} (B:Ops) (p0:Int) (k:AV→Objs→Option R) (n:Nat):afun tau B gl0 X98 gnil ow Tryd.f98 [.c (.int .i64 p0)] [] k n=T98 B p0 (K3 k):=by kernel_rfl
theorem nt98 {R R':Type} (B:Ops) (p0:Int) (k0:(Int)→Option R') (k:R'→Option R):T98 B p0 (fun y=>ob (k0 y) k)=ob (T98 B p0 k0) k:=by
 unfold T98
 repeat' first | exact rfl | apply qaf | (apply qao;intro)
def F98 (p0:Int):Option (Int):=T98 Ops.std p0 some
def e98 {R:Type} (c:Int→Option (Int)):Ent R:=fun args objs k=>
 oI args .i64 fun p0 l0=>oE l0 objs <| ob (c p0) (K3 k)
abbrev Sp98 (c:Int→Option (Int)):Prop:=∀ (p0:Int) (y:Int),c p0=some y→Spec Tryd.prog gl0 98 [.c (.int .i64 p0)] [] (.c (.int .i64 y)) []
theorem ek98 {R:Type} {c:Int→Option (Int)} (hs:Sp98 c):EOk 98 (e98 (R:=R) c):=fun args objs k r h=>by
 unfold e98 at h
 obtain ⟨p0,l0,rfl,q3⟩:=qau h
 obtain ⟨rfl,rfl,q5⟩:=qam q3
 exact qap (hs p0) q5
theorem sf98:Sp98 (F98):=fun p0 y hy=>by
 refine qaj qai 1000000 (fn:=Tryd.f98) (by kernel_rfl) (by kernel_rfl) (X:=X98) (by kernel_rfl) ?_
 rw [eq98]
 exact (nt98 Ops.std p0 some (K3 k0)).trans (by show ob (F98 p0) _=_;rw [hy];rfl)
noncomputable def M98:Int→Option (Int):=F98
theorem sm98:Sp98 M98:=sf98
def X80:Aux:=⟨[(3,([1,2]++rg 5 99)),(1000016,([1,2]++rg 8 96)),(1000018,([1,2,5]++rg 7 97))],[]⟩
inductive S80 where
 | l0 (v1:Int) (v2:Int)
 | l1016 (v1:Int) (v2:Int) (v3:Int) (v4:Int) (v5:Int) (v6:LB) (v7:LB) (v8:Int) (v9:Int) (v10:LB) (v11:LB)
 | l1018 (v1:Int) (v2:Int) (v3:Int)
abbrev C98:Type:=Int→Option (Int)
def T80 {R:Type} (B:Ops) (c98:C98) (c11:C11) (p0:L140) (again:S80→Option R) (k:(Bool)→Option R):Option S80→Option R | none=>again (.l0 0 0) | some (.l0 v1 v2)=>cond (B.lt v2 (↑p0.length)) (cond (B.inb v2 p0.length) (ob (c98 ((p0.getD v2.toNat ty140.dflt).1)) fun y0=>cond (B.eq ((p0.getD v2.toNat ty140.dflt).1) (1)) (again (.l1016 v1 v2 y0 ((p0.getD v2.toNat ty140.dflt).1) (((p0.getD v2.toNat ty140.dflt).2).1) ((((p0.getD v2.toNat ty140.dflt).2).2).1) ((((p0.getD v2.toNat ty140.dflt).2).2).2) ((p0.getD v2.toNat ty140.dflt).1) (((p0.getD v2.toNat ty140.dflt).2).1) (mt UInt8) (mt UInt8))) (cond (B.eq ((p0.getD v2.toNat ty140.dflt).1) (2)) (again (.l1016 v1 v2 y0 ((p0.getD v2.toNat ty140.dflt).1) (((p0.getD v2.toNat ty140.dflt).2).1) ((((p0.getD v2.toNat ty140.dflt).2).2).1) ((((p0.getD v2.toNat ty140.dflt).2).2).2) ((p0.getD v2.toNat ty140.dflt).1) 0 ((((p0.getD v2.toNat ty140.dflt).2).2).1) (mt UInt8))) (cond (B.eq ((p0.getD v2.toNat ty140.dflt).1) (3)) (again (.l1016 v1 v2 y0 ((p0.getD v2.toNat ty140.dflt).1) (((p0.getD v2.toNat ty140.dflt).2).1) ((((p0.getD v2.toNat ty140.dflt).2).2).1) ((((p0.getD v2.toNat ty140.dflt).2).2).2) ((p0.getD v2.toNat ty140.dflt).1) 0 ((((p0.getD v2.toNat ty140.dflt).2).2).1) ((((p0.getD v2.toNat ty140.dflt).2).2).2))) (again (.l1016 v1 v2 y0 ((p0.getD v2.toNat ty140.dflt).1) (((p0.getD v2.toNat ty140.dflt).2).1) ((((p0.getD v2.toNat ty140.dflt).2).2).1) ((((p0.getD v2.toNat ty140.dflt).2).2).2) ((p0.getD v2.toNat ty140.dflt).1) 0 (mt UInt8) (mt UInt8)))))) none) (cond (B.eq v1 (1)) (k (B.le (↑p0.length) (30))) (k false)) | some (.l1016 v1 v2 v3 v4 v5 v6 v7 v8 v9 v10 v11)=>cond (B.lt v3 (0)) (k false) (cond (B.lt v1 v3) (k false) (cond (!(B.eq v4 v8 && (B.eq v5 v9 && (v6 == v10 && (v7 == v11 && true))))) (k false) (cond (B.lt v5 (0)) (k false) (cond (B.lt (999) v5) (k false) (cond (B.eq v4 (2)) (ob (c11 v6) fun y0=>cond (!y0) (k false) (cond (B.eq v4 (3)) (ob (c11 v7) fun y1=>cond (!y1) (k false) (again (.l1018 v1 v2 v3))) (again (.l1018 v1 v2 v3)))) (cond (B.eq v4 (3)) (ob (c11 v6) fun y0=>cond (!y0) (k false) (cond (B.eq v4 (3)) (ob (c11 v7) fun y1=>cond (!y1) (k false) (again (.l1018 v1 v2 v3))) (again (.l1018 v1 v2 v3)))) (cond (B.eq v4 (3)) (ob (c11 v7) fun y0=>cond (!y0) (k false) (again (.l1018 v1 v2 v3))) (again (.l1018 v1 v2 v3))))))))) | some (.l1018 v1 v2 v3)=>again (.l0 (IntKind.wrap .i64 (IntKind.wrap .i64 (v1-v3)+1)) (IntKind.wrap .i64 (v2+1)))
def E80 (p0:L140):S80→List AV×Objs
 | .l0 v1 v2=>(mk 104 [(0,.c (.list 140 ty140 p0)),(3,.c (.int .i64 v1)),(4,.c (.int .i64 v2))],[])
 | .l1016 v1 v2 v3 v4 v5 v6 v7 v8 v9 v10 v11=>(mk 104 [(0,.c (.list 140 ty140 p0)),(3,.c (.int .i64 v1)),(4,.c (.int .i64 v2)),(5,.c (.ptr 5 0)),(6,.c (.int .i64 v3)),(7,.c (.ptr 7 0))],[(5,.box 140 [.int .i64 v4,.int .i64 v5,.str v6,.str v7]),(7,.box 140 [.int .i64 v8,.int .i64 v9,.str v10,.str v11])])
 | .l1018 v1 v2 v3=>(mk 104 [(0,.c (.list 140 ty140 p0)),(3,.c (.int .i64 v1)),(4,.c (.int .i64 v2)),(6,.c (.int .i64 v3))],[])
def I80:S80→Nat
 | .l0 _ _=>0
 | .l1016 _ _ _ _ _ _ _ _ _ _ _=>1016
 | .l1018 _ _ _=>1018
theorem eq80 {R:Type} (B:Ops) (c98:C98) (c11:C11) (p0:L140) (k:AV→Objs→Option R) (n:Nat):afun tau B gl0 X80 (ent 98 (e98 c98) (ent 11 (e11 c11) gnil)) ow Tryd.f80 [.c (.list 140 ty140 p0)] [] k n=T80 B c98 c11 p0 (fun s=>aloop tau B gl0 X80 (ent 98 (e98 c98) (ent 11 (e11 c11) gnil)) ow [] Tryd.f80 k (I80 s) (E80 p0 s) n) (K1 k) none:=by kernel_rfl
theorem el80 {R:Type} (B:Ops) (c98:C98) (c11:C11) (p0:L140) (k:AV→Objs→Option R) (n:Nat):∀ s,aloop tau B gl0 X80 (ent 98 (e98 c98) (ent 11 (e11 c11) gnil)) ow [] Tryd.f80 k (I80 s) (E80 p0 s) (n+1)=T80 B c98 c11 p0 (fun s=>aloop tau B gl0 X80 (ent 98 (e98 c98) (ent 11 (e11 c11) gnil)) ow [] Tryd.f80 k (I80 s) (E80 p0 s) n) (K1 k) (some s):=by
 intro s
 cases s<;>kernel_rfl
theorem nt80 {R R':Type} (B:Ops) (c98:C98) (c11:C11) (p0:L140) (again:S80→Option R) (again':S80→Option R') (k0:(Bool)→Option R') (k:R'→Option R) (h:∀ s,again s=ob (again' s) k):∀ s,T80 B c98 c11 p0 again (fun y=>ob (k0 y) k) s=ob (T80 B c98 c11 p0 again' k0 s) k:=by
 rintro (_ | x)
 all_goals try cases x
 all_goals (unfold T80;repeat' first | exact rfl | exact h _ | apply qaf | (apply qao;intro))
def R80 (c98:C98) (c11:C11) (p0:L140):Nat→S80→Option (Bool)
 | 0,_=>none
 | n+1,s=>T80 Ops.std c98 c11 p0 (R80 c98 c11 p0 n) some (some s)
theorem rr80 {R:Type} (c98:C98) (c11:C11) (p0:L140) (k:AV→Objs→Option R):∀ (n:Nat) (s:S80),aloop tau Ops.std gl0 X80 (ent 98 (e98 c98) (ent 11 (e11 c11) gnil)) ow [] Tryd.f80 k (I80 s) (E80 p0 s) n=ob (R80 c98 c11 p0 n s) (K1 k)
 | 0,s=>by cases s<;>rfl
 | n+1,s=>by rw [el80];exact nt80 Ops.std c98 c11 p0 _ _ some (K1 k) (rr80 c98 c11 p0 k n) (some s)
def F80 (c98:C98) (c11:C11) (p0:L140):Option (Bool):=T80 Ops.std c98 c11 p0 (R80 c98 c11 p0 1000000) some none
def e80 {R:Type} (c:L140→Option (Bool)):Ent R:=fun args objs k=>
 oL args 140 ty140 fun p0 l0=>oE l0 objs <| ob (c p0) (K1 k)
abbrev Sp80 (c:L140→Option (Bool)):Prop:=∀ (p0:L140) (y:Bool),c p0=some y→Spec Tryd.prog gl0 80 [.c (.list 140 ty140 p0)] [] (.c (.bool y)) []
theorem ek80 {R:Type} {c:L140→Option (Bool)} (hs:Sp80 c):EOk 80 (e80 (R:=R) c):=fun args objs k r h=>by
 unfold e80 at h
 obtain ⟨p0,l0,rfl,q3⟩:=qaw h
 obtain ⟨rfl,rfl,q5⟩:=qam q3
 exact qap (hs p0) q5
theorem sf80 {c98:C98} {c11:C11} (h98:Sp98 c98) (h11:Sp11 c11):Sp80 (F80 c98 c11):=fun p0 y hy=>by
 refine qaj (qae (ek98 h98) (qae (ek11 h11) qai)) 1000000 (fn:=Tryd.f80) (by kernel_rfl) (by kernel_rfl) (X:=X80) (by kernel_rfl) ?_
 rw [eq80]
 exact (nt80 Ops.std c98 c11 p0 _ _ some (K1 k0) (rr80 c98 c11 p0 k0 1000000) none).trans (by show ob (F80 c98 c11 p0) _=_;rw [hy];rfl)
noncomputable def M80:L140→Option (Bool):=F80 M98 M11
theorem sm80:Sp80 M80:=sf80 sm98 sm11
def X102:Aux:=⟨[(2,([1,2]++rg 4 25))],[]⟩
inductive S102 where
 | l0 (v1:Int)
abbrev C80:Type:=L140→Option (Bool)
def T102 {R:Type} (B:Ops) (c11:C11) (c80:C80) (p0:L138) (again:S102→Option R) (k:(Bool)→Option R):Option S102→Option R | none=>again (.l0 0) | some (.l0 v1)=>cond (B.lt v1 (↑p0.length)) (cond (B.inb v1 p0.length) (ob (c11 ((p0.getD v1.toNat ty138.dflt).1)) fun y0=>cond (!y0) (k false) (cond (B.inb v1 p0.length) (ob (c80 ((p0.getD v1.toNat ty138.dflt).2)) fun y1=>cond (!y1) (k false) (again (.l0 (IntKind.wrap .i64 (v1+1))))) none)) none) (k (B.le (↑p0.length) (3)))
def E102 (p0:L138):S102→List AV×Objs
 | .l0 v1=>(mk 29 [(0,.c (.list 138 ty138 p0)),(3,.c (.int .i64 v1))],[])
def I102:S102→Nat
 | .l0 _=>0
theorem eq102 {R:Type} (B:Ops) (c11:C11) (c80:C80) (p0:L138) (k:AV→Objs→Option R) (n:Nat):afun tau B gl0 X102 (ent 11 (e11 c11) (ent 80 (e80 c80) gnil)) ow Tryd.f102 [.c (.list 138 ty138 p0)] [] k n=T102 B c11 c80 p0 (fun s=>aloop tau B gl0 X102 (ent 11 (e11 c11) (ent 80 (e80 c80) gnil)) ow [] Tryd.f102 k (I102 s) (E102 p0 s) n) (K1 k) none:=by kernel_rfl
theorem el102 {R:Type} (B:Ops) (c11:C11) (c80:C80) (p0:L138) (k:AV→Objs→Option R) (n:Nat):∀ s,aloop tau B gl0 X102 (ent 11 (e11 c11) (ent 80 (e80 c80) gnil)) ow [] Tryd.f102 k (I102 s) (E102 p0 s) (n+1)=T102 B c11 c80 p0 (fun s=>aloop tau B gl0 X102 (ent 11 (e11 c11) (ent 80 (e80 c80) gnil)) ow [] Tryd.f102 k (I102 s) (E102 p0 s) n) (K1 k) (some s):=by
 intro s
 cases s<;>kernel_rfl
theorem nt102 {R R':Type} (B:Ops) (c11:C11) (c80:C80) (p0:L138) (again:S102→Option R) (again':S102→Option R') (k0:(Bool)→Option R') (k:R'→Option R) (h:∀ s,again s=ob (again' s) k):∀ s,T102 B c11 c80 p0 again (fun y=>ob (k0 y) k) s=ob (T102 B c11 c80 p0 again' k0 s) k:=by
 rintro (_ | x)
 all_goals try cases x
 all_goals (unfold T102;repeat' first | exact rfl | exact h _ | apply qaf | (apply qao;intro))
def R102 (c11:C11) (c80:C80) (p0:L138):Nat→S102→Option (Bool)
 | 0,_=>none
 | n+1,s=>T102 Ops.std c11 c80 p0 (R102 c11 c80 p0 n) some (some s)
theorem rr102 {R:Type} (c11:C11) (c80:C80) (p0:L138) (k:AV→Objs→Option R):∀ (n:Nat) (s:S102),aloop tau Ops.std gl0 X102 (ent 11 (e11 c11) (ent 80 (e80 c80) gnil)) ow [] Tryd.f102 k (I102 s) (E102 p0 s) n=ob (R102 c11 c80 p0 n s) (K1 k)
 | 0,s=>by cases s<;>rfl
 | n+1,s=>by rw [el102];exact nt102 Ops.std c11 c80 p0 _ _ some (K1 k) (rr102 c11 c80 p0 k n) (some s)
def F102 (c11:C11) (c80:C80) (p0:L138):Option (Bool):=T102 Ops.std c11 c80 p0 (R102 c11 c80 p0 1000000) some none
def e102 {R:Type} (c:L138→Option (Bool)):Ent R:=fun args objs k=>
 oL args 138 ty138 fun p0 l0=>oE l0 objs <| ob (c p0) (K1 k)
abbrev Sp102 (c:L138→Option (Bool)):Prop:=∀ (p0:L138) (y:Bool),c p0=some y→Spec Tryd.prog gl0 102 [.c (.list 138 ty138 p0)] [] (.c (.bool y)) []
theorem ek102 {R:Type} {c:L138→Option (Bool)} (hs:Sp102 c):EOk 102 (e102 (R:=R) c):=fun args objs k r h=>by
 unfold e102 at h
 obtain ⟨p0,l0,rfl,q3⟩:=qaw h
 obtain ⟨rfl,rfl,q5⟩:=qam q3
 exact qap (hs p0) q5
theorem sf102 {c11:C11} {c80:C80} (h11:Sp11 c11) (h80:Sp80 c80):Sp102 (F102 c11 c80):=fun p0 y hy=>by
 refine qaj (qae (ek11 h11) (qae (ek80 h80) qai)) 1000000 (fn:=Tryd.f102) (by kernel_rfl) (by kernel_rfl) (X:=X102) (by kernel_rfl) ?_
 rw [eq102]
 exact (nt102 Ops.std c11 c80 p0 _ _ some (K1 k0) (rr102 c11 c80 p0 k0 1000000) none).trans (by show ob (F102 c11 c80 p0) _=_;rw [hy];rfl)
noncomputable def M102:L138→Option (Bool):=F102 M11 M80
theorem sm102:Sp102 M102:=sf102 sm11 sm80
def X112:Aux:=⟨[],[]⟩
def T112 {R:Type} (B:Ops) (p0:LB) (p1:Int) (p2:Int) (k:(LB)→Option R):Option R:=cond (B.lt p1 p2) (cond (B.lim (1+List.length p0) (1)) (cond (B.lim (List.length (([40]:LB)++p0)+1) (1)) (k (([40]:LB)++p0++([41]:LB))) none) none) (k p0)
theorem eq112 {R:Type} (B:Ops) (p0:LB) (p1:Int) (p2:Int) (k:AV→Objs→Option R) (n:Nat):afun tau B gl0 X112 gnil ow Tryd.f112 [.agg [.str p0,.int .i64 p1],.c (.int .i64 p2)] [] k n=T112 B p0 p1 p2 (K2 k):=by kernel_rfl
theorem nt112 {R R':Type} (B:Ops) (p0:LB) (p1:Int) (p2:Int) (k0:(LB)→Option R') (k:R'→Option R):T112 B p0 p1 p2 (fun y=>ob (k0 y) k)=ob (T112 B p0 p1 p2 k0) k:=by
 unfold T112
 repeat' first | exact rfl | apply qaf | (apply qao;intro)
def F112 (p0:LB) (p1:Int) (p2:Int):Option (LB):=T112 Ops.std p0 p1 p2 some
def e112 {R:Type} (c:LB→Int→Int→Option (LB)):Ent R:=fun args objs k=>
 oCons args fun a0 l0=>oAgg a0 fun x0=>cCons x0 fun z0_0 w0_0=>cStr z0_0 fun p0=>cCons w0_0 fun z0_1 w0_1=>cInt .i64 z0_1 fun p1=>cNil w0_1 <| oI l0 .i64 fun p2 l1=>oE l1 objs <| ob (c p0 p1 p2) (K2 k)
abbrev Sp112 (c:LB→Int→Int→Option (LB)):Prop:=∀ (p0:LB) (p1:Int) (p2:Int) (y:LB),c p0 p1 p2=some y→Spec Tryd.prog gl0 112 [.agg [.str p0,.int .i64 p1],.c (.int .i64 p2)] [] (.c (.str y)) []
theorem ek112 {R:Type} {c:LB→Int→Int→Option (LB)} (hs:Sp112 c):EOk 112 (e112 (R:=R) c):=fun args objs k r h=>by
 unfold e112 at h
 obtain ⟨a0,l0,rfl,q1⟩:=qal h
 obtain ⟨x0,rfl,q2⟩:=qav q1
 obtain ⟨z0_0,w0_0,rfl,q3⟩:=qab q2
 obtain ⟨p0,rfl,q4⟩:=qa9 q3
 obtain ⟨z0_1,w0_1,rfl,q5⟩:=qab q4
 obtain ⟨p1,rfl,q6⟩:=qaq q5
 obtain ⟨rfl,q7⟩:=qar q6
 obtain ⟨p2,l1,rfl,q10⟩:=qau q7
 obtain ⟨rfl,rfl,q12⟩:=qam q10
 exact qap (hs p0 p1 p2) q12
theorem sf112:Sp112 (F112):=fun p0 p1 p2 y hy=>by
 refine qaj qai 1000000 (fn:=Tryd.f112) (by kernel_rfl) (by kernel_rfl) (X:=X112) (by kernel_rfl) ?_
 rw [eq112]
 exact (nt112 Ops.std p0 p1 p2 some (K2 k0)).trans (by show ob (F112 p0 p1 p2) _=_;rw [hy];rfl)
noncomputable def M112:LB→Int→Int→Option (LB):=F112
theorem sm112:Sp112 M112:=sf112
def X103:Aux:=⟨[(6,([1,2]++rg 6 120))],[(31,.lin (rg 0 14)),(32,.lin [0,1,2,3,4,5,6,7]),(18,.lin ([0,1,2,3,4,5,7,8,9,10,12,13,14,15,16,17,18,6,11,19,20,21,22])),(19,.lin [0,1,2,3,4,5,6,7])]⟩
inductive S103 where
 | l0 (v1:Int) (v2:L167)
abbrev C112:Type:=LB→Int→Int→Option (LB)
def T103 {R:Type} (B:Ops) (c80:C80) (c111:C111) (c98:C98) (c94:C94) (c112:C112) (p0:L140) (again:S103→Option R) (k:(LB)→Option R):Option S103→Option R | none=>ob (c80 p0) fun y0=>cond (!y0) (k (mt UInt8)) (again (.l0 0 (mt (Ty.den ty167)))) | some (.l0 v1 v2)=>cond (B.lt v1 (↑p0.length)) (cond (B.inb v1 p0.length) (ob (c111 ((p0.getD v1.toNat ty140.dflt).1)) fun y0=>ob (c98 ((p0.getD v1.toNat ty140.dflt).1)) fun y1=>cond (B.eq y1 (0)) (cond (B.eq ((p0.getD v1.toNat ty140.dflt).1) (1)) (ob (c94 (((p0.getD v1.toNat ty140.dflt).2).1)) fun y2=>cond (B.lim (List.length v2+List.length ((y2,y0)::mt (Ty.den ty167))) (24)) (again (.l0 (IntKind.wrap .i64 (v1+1)) (v2++(y2,y0)::mt (Ty.den ty167)))) none) (cond (B.eq ((p0.getD v1.toNat ty140.dflt).1) (2)) (cond (B.lim (List.length v2+List.length (((((p0.getD v1.toNat ty140.dflt).2).2).1,y0)::mt (Ty.den ty167))) (24)) (again (.l0 (IntKind.wrap .i64 (v1+1)) (v2++((((p0.getD v1.toNat ty140.dflt).2).2).1,y0)::mt (Ty.den ty167)))) none) (cond (B.lim (List.length ((((p0.getD v1.toNat ty140.dflt).2).2).1)+1) (1)) (cond (B.lim (List.length ((((p0.getD v1.toNat ty140.dflt).2).2).1++([64]:LB))+List.length ((((p0.getD v1.toNat ty140.dflt).2).2).2)) (1)) (cond (B.lim (List.length v2+List.length (((((p0.getD v1.toNat ty140.dflt).2).2).1++([64]:LB)++(((p0.getD v1.toNat ty140.dflt).2).2).2,y0)::mt (Ty.den ty167))) (24)) (again (.l0 (IntKind.wrap .i64 (v1+1)) (v2++((((p0.getD v1.toNat ty140.dflt).2).2).1++([64]:LB)++(((p0.getD v1.toNat ty140.dflt).2).2).2,y0)::mt (Ty.den ty167)))) none) none) none))) (cond (B.eq y1 (1)) (cond (B.lt (↑v2.length) (1)) (k (mt UInt8)) (cond (B.inb ((p0.getD v1.toNat ty140.dflt).1) (17)) (cond (B.inb (IntKind.wrap .i64 (Nat.cast v2.length-1)) v2.length) (ob (c112 ((v2.getD (Int.toNat (IntKind.wrap .i64 (Nat.cast v2.length-1))) ty167.dflt).1) ((v2.getD (Int.toNat (IntKind.wrap .i64 (Nat.cast v2.length-1))) ty167.dflt).2) y0) fun y2=>cond (B.lim (List.length (List.getD ((mt UInt8)::(mt UInt8)::(mt UInt8)::(mt UInt8)::([33]:LB)::([45]:LB)::([42]:LB)::([43]:LB)::([45]:LB)::([60]:LB)::([60,61]:LB)::([62]:LB)::([62,61]:LB)::([61,61]:LB)::([33,61]:LB)::([38,38]:LB)::([124,124]:LB)::mt LB) (Int.toNat ((p0.getD v1.toNat ty140.dflt).1)) (mt UInt8))+List.length y2) (1)) (cond (B.inb (IntKind.wrap .i64 (Nat.cast v2.length-1)) (List.length v2+1)) (cond (B.lim (List.length (List.take (Int.toNat (IntKind.wrap .i64 (Nat.cast v2.length-1))) v2)+List.length ((List.getD ((mt UInt8)::(mt UInt8)::(mt UInt8)::(mt UInt8)::([33]:LB)::([45]:LB)::([42]:LB)::([43]:LB)::([45]:LB)::([60]:LB)::([60,61]:LB)::([62]:LB)::([62,61]:LB)::([61,61]:LB)::([33,61]:LB)::([38,38]:LB)::([124,124]:LB)::mt LB) (Int.toNat ((p0.getD v1.toNat ty140.dflt).1)) (mt UInt8)++y2,y0)::mt (Ty.den ty167))) (24)) (again (.l0 (IntKind.wrap .i64 (v1+1)) (List.take (Int.toNat (IntKind.wrap .i64 (Nat.cast v2.length-1))) v2++(List.getD ((mt UInt8)::(mt UInt8)::(mt UInt8)::(mt UInt8)::([33]:LB)::([45]:LB)::([42]:LB)::([43]:LB)::([45]:LB)::([60]:LB)::([60,61]:LB)::([62]:LB)::([62,61]:LB)::([61,61]:LB)::([33,61]:LB)::([38,38]:LB)::([124,124]:LB)::mt LB) (Int.toNat ((p0.getD v1.toNat ty140.dflt).1)) (mt UInt8)++y2,y0)::mt (Ty.den ty167)))) none) none) none) none) none)) (cond (B.lt (↑v2.length) (2)) (k (mt UInt8)) (cond (B.eq y0 (3)) (cond (B.inb (IntKind.wrap .i64 (Nat.cast v2.length-2)) v2.length) (cond (B.inb ((p0.getD v1.toNat ty140.dflt).1) (17)) (cond (B.inb (IntKind.wrap .i64 (Nat.cast v2.length-1)) v2.length) (ob (c112 ((v2.getD (Int.toNat (IntKind.wrap .i64 (Nat.cast v2.length-2))) ty167.dflt).1) ((v2.getD (Int.toNat (IntKind.wrap .i64 (Nat.cast v2.length-2))) ty167.dflt).2) (4)) fun y2=>cond (B.lim (List.length y2+List.length (List.getD ((mt UInt8)::(mt UInt8)::(mt UInt8)::(mt UInt8)::([33]:LB)::([45]:LB)::([42]:LB)::([43]:LB)::([45]:LB)::([60]:LB)::([60,61]:LB)::([62]:LB)::([62,61]:LB)::([61,61]:LB)::([33,61]:LB)::([38,38]:LB)::([124,124]:LB)::mt LB) (Int.toNat ((p0.getD v1.toNat ty140.dflt).1)) (mt UInt8))) (1)) (ob (c112 ((v2.getD (Int.toNat (IntKind.wrap .i64 (Nat.cast v2.length-1))) ty167.dflt).1) ((v2.getD (Int.toNat (IntKind.wrap .i64 (Nat.cast v2.length-1))) ty167.dflt).2) (IntKind.wrap .i64 (y0+1))) fun y3=>cond (B.lim (List.length (y2++List.getD ((mt UInt8)::(mt UInt8)::(mt UInt8)::(mt UInt8)::([33]:LB)::([45]:LB)::([42]:LB)::([43]:LB)::([45]:LB)::([60]:LB)::([60,61]:LB)::([62]:LB)::([62,61]:LB)::([61,61]:LB)::([33,61]:LB)::([38,38]:LB)::([124,124]:LB)::mt LB) (Int.toNat ((p0.getD v1.toNat ty140.dflt).1)) (mt UInt8))+List.length y3) (1)) (cond (B.inb (IntKind.wrap .i64 (Nat.cast v2.length-2)) (List.length v2+1)) (cond (B.lim (List.length (List.take (Int.toNat (IntKind.wrap .i64 (Nat.cast v2.length-2))) v2)+List.length ((y2++List.getD ((mt UInt8)::(mt UInt8)::(mt UInt8)::(mt UInt8)::([33]:LB)::([45]:LB)::([42]:LB)::([43]:LB)::([45]:LB)::([60]:LB)::([60,61]:LB)::([62]:LB)::([62,61]:LB)::([61,61]:LB)::([33,61]:LB)::([38,38]:LB)::([124,124]:LB)::mt LB) (Int.toNat ((p0.getD v1.toNat ty140.dflt).1)) (mt UInt8)++y3,y0)::mt (Ty.den ty167))) (24)) (again (.l0 (IntKind.wrap .i64 (v1+1)) (List.take (Int.toNat (IntKind.wrap .i64 (Nat.cast v2.length-2))) v2++(y2++List.getD ((mt UInt8)::(mt UInt8)::(mt UInt8)::(mt UInt8)::([33]:LB)::([45]:LB)::([42]:LB)::([43]:LB)::([45]:LB)::([60]:LB)::([60,61]:LB)::([62]:LB)::([62,61]:LB)::([61,61]:LB)::([33,61]:LB)::([38,38]:LB)::([124,124]:LB)::mt LB) (Int.toNat ((p0.getD v1.toNat ty140.dflt).1)) (mt UInt8)++y3,y0)::mt (Ty.den ty167)))) none) none) none) none) none) none) none) (cond (B.inb (IntKind.wrap .i64 (Nat.cast v2.length-2)) v2.length) (cond (B.inb ((p0.getD v1.toNat ty140.dflt).1) (17)) (cond (B.inb (IntKind.wrap .i64 (Nat.cast v2.length-1)) v2.length) (ob (c112 ((v2.getD (Int.toNat (IntKind.wrap .i64 (Nat.cast v2.length-2))) ty167.dflt).1) ((v2.getD (Int.toNat (IntKind.wrap .i64 (Nat.cast v2.length-2))) ty167.dflt).2) y0) fun y2=>cond (B.lim (List.length y2+List.length (List.getD ((mt UInt8)::(mt UInt8)::(mt UInt8)::(mt UInt8)::([33]:LB)::([45]:LB)::([42]:LB)::([43]:LB)::([45]:LB)::([60]:LB)::([60,61]:LB)::([62]:LB)::([62,61]:LB)::([61,61]:LB)::([33,61]:LB)::([38,38]:LB)::([124,124]:LB)::mt LB) (Int.toNat ((p0.getD v1.toNat ty140.dflt).1)) (mt UInt8))) (1)) (ob (c112 ((v2.getD (Int.toNat (IntKind.wrap .i64 (Nat.cast v2.length-1))) ty167.dflt).1) ((v2.getD (Int.toNat (IntKind.wrap .i64 (Nat.cast v2.length-1))) ty167.dflt).2) (IntKind.wrap .i64 (y0+1))) fun y3=>cond (B.lim (List.length (y2++List.getD ((mt UInt8)::(mt UInt8)::(mt UInt8)::(mt UInt8)::([33]:LB)::([45]:LB)::([42]:LB)::([43]:LB)::([45]:LB)::([60]:LB)::([60,61]:LB)::([62]:LB)::([62,61]:LB)::([61,61]:LB)::([33,61]:LB)::([38,38]:LB)::([124,124]:LB)::mt LB) (Int.toNat ((p0.getD v1.toNat ty140.dflt).1)) (mt UInt8))+List.length y3) (1)) (cond (B.inb (IntKind.wrap .i64 (Nat.cast v2.length-2)) (List.length v2+1)) (cond (B.lim (List.length (List.take (Int.toNat (IntKind.wrap .i64 (Nat.cast v2.length-2))) v2)+List.length ((y2++List.getD ((mt UInt8)::(mt UInt8)::(mt UInt8)::(mt UInt8)::([33]:LB)::([45]:LB)::([42]:LB)::([43]:LB)::([45]:LB)::([60]:LB)::([60,61]:LB)::([62]:LB)::([62,61]:LB)::([61,61]:LB)::([33,61]:LB)::([38,38]:LB)::([124,124]:LB)::mt LB) (Int.toNat ((p0.getD v1.toNat ty140.dflt).1)) (mt UInt8)++y3,y0)::mt (Ty.den ty167))) (24)) (again (.l0 (IntKind.wrap .i64 (v1+1)) (List.take (Int.toNat (IntKind.wrap .i64 (Nat.cast v2.length-2))) v2++(y2++List.getD ((mt UInt8)::(mt UInt8)::(mt UInt8)::(mt UInt8)::([33]:LB)::([45]:LB)::([42]:LB)::([43]:LB)::([45]:LB)::([60]:LB)::([60,61]:LB)::([62]:LB)::([62,61]:LB)::([61,61]:LB)::([33,61]:LB)::([38,38]:LB)::([124,124]:LB)::mt LB) (Int.toNat ((p0.getD v1.toNat ty140.dflt).1)) (mt UInt8)++y3,y0)::mt (Ty.den ty167)))) none) none) none) none) none) none) none))))) none) (cond (B.eq (↑v2.length) (0)) (k (mt UInt8)) (cond (B.inb (0) v2.length) (k ((v2.getD (Int.toNat (0)) ty167.dflt).1)) none))
def E103 (p0:L140):S103→List AV×Objs
 | .l0 v1 v2=>(mk 126 [(0,.c (.list 140 ty140 p0)),(3,.c (.own 3)),(4,.c (.ptr 4 0)),(5,.c (.int .i64 v1))],[(3,.row 167 ty167 v2),(4,.box 106 [.str (mt UInt8),.str (mt UInt8),.str (mt UInt8),.str (mt UInt8),.str ([33]:LB),.str ([45]:LB),.str ([42]:LB),.str ([43]:LB),.str ([45]:LB),.str ([60]:LB),.str ([60,61]:LB),.str ([62]:LB),.str ([62,61]:LB),.str ([61,61]:LB),.str ([33,61]:LB),.str ([38,38]:LB),.str ([124,124]:LB)])])
def I103:S103→Nat
 | .l0 _ _=>0
theorem eq103 {R:Type} (B:Ops) (c80:C80) (c111:C111) (c98:C98) (c94:C94) (c112:C112) (p0:L140) (k:AV→Objs→Option R) (n:Nat):afun tau B gl0 X103 (ent 80 (e80 c80) (ent 111 (e111 c111) (ent 98 (e98 c98) (ent 94 (e94 c94) (ent 112 (e112 c112) gnil))))) ow Tryd.f103 [.c (.list 140 ty140 p0)] [] k n=T103 B c80 c111 c98 c94 c112 p0 (fun s=>aloop tau B gl0 X103 (ent 80 (e80 c80) (ent 111 (e111 c111) (ent 98 (e98 c98) (ent 94 (e94 c94) (ent 112 (e112 c112) gnil))))) ow [] Tryd.f103 k (I103 s) (E103 p0 s) n) (K2 k) none:=by kernel_rfl
theorem el103 {R:Type} (B:Ops) (c80:C80) (c111:C111) (c98:C98) (c94:C94) (c112:C112) (p0:L140) (k:AV→Objs→Option R) (n:Nat):∀ s,aloop tau B gl0 X103 (ent 80 (e80 c80) (ent 111 (e111 c111) (ent 98 (e98 c98) (ent 94 (e94 c94) (ent 112 (e112 c112) gnil))))) ow [] Tryd.f103 k (I103 s) (E103 p0 s) (n+1)=T103 B c80 c111 c98 c94 c112 p0 (fun s=>aloop tau B gl0 X103 (ent 80 (e80 c80) (ent 111 (e111 c111) (ent 98 (e98 c98) (ent 94 (e94 c94) (ent 112 (e112 c112) gnil))))) ow [] Tryd.f103 k (I103 s) (E103 p0 s) n) (K2 k) (some s):=by
 intro s
 cases s<;>kernel_rfl
theorem nt103 {R R':Type} (B:Ops) (c80:C80) (c111:C111) (c98:C98) (c94:C94) (c112:C112) (p0:L140) (again:S103→Option R) (again':S103→Option R') (k0:(LB)→Option R') (k:R'→Option R) (h:∀ s,again s=ob (again' s) k):∀ s,T103 B c80 c111 c98 c94 c112 p0 again (fun y=>ob (k0 y) k) s=ob (T103 B c80 c111 c98 c94 c112 p0 again' k0 s) k:=by
 rintro (_ | x)
 all_goals try cases x
 all_goals (unfold T103;repeat' first | exact rfl | exact h _ | apply qaf | (apply qao;intro))
def R103 (c80:C80) (c111:C111) (c98:C98) (c94:C94) (c112:C112) (p0:L140):Nat→S103→Option (LB)
 | 0,_=>none
 | n+1,s=>T103 Ops.std c80 c111 c98 c94 c112 p0 (R103 c80 c111 c98 c94 c112 p0 n) some (some s)
theorem rr103 {R:Type} (c80:C80) (c111:C111) (c98:C98) (c94:C94) (c112:C112) (p0:L140) (k:AV→Objs→Option R):∀ (n:Nat) (s:S103),aloop tau Ops.std gl0 X103 (ent 80 (e80 c80) (ent 111 (e111 c111) (ent 98 (e98 c98) (ent 94 (e94 c94) (ent 112 (e112 c112) gnil))))) ow [] Tryd.f103 k (I103 s) (E103 p0 s) n=ob (R103 c80 c111 c98 c94 c112 p0 n s) (K2 k)
 | 0,s=>by cases s<;>rfl
 | n+1,s=>by rw [el103];exact nt103 Ops.std c80 c111 c98 c94 c112 p0 _ _ some (K2 k) (rr103 c80 c111 c98 c94 c112 p0 k n) (some s)
def F103 (c80:C80) (c111:C111) (c98:C98) (c94:C94) (c112:C112) (p0:L140):Option (LB):=T103 Ops.std c80 c111 c98 c94 c112 p0 (R103 c80 c111 c98 c94 c112 p0 1000000) some none
def e103 {R:Type} (c:L140→Option (LB)):Ent R:=fun args objs k=>
 oL args 140 ty140 fun p0 l0=>oE l0 objs <| ob (c p0) (K2 k)
abbrev Sp103 (c:L140→Option (LB)):Prop:=∀ (p0:L140) (y:LB),c p0=some y→Spec Tryd.prog gl0 103 [.c (.list 140 ty140 p0)] [] (.c (.str y)) []
theorem ek103 {R:Type} {c:L140→Option (LB)} (hs:Sp103 c):EOk 103 (e103 (R:=R) c):=fun args objs k r h=>by
 unfold e103 at h
 obtain ⟨p0,l0,rfl,q3⟩:=qaw h
 obtain ⟨rfl,rfl,q5⟩:=qam q3
 exact qap (hs p0) q5
theorem sf103 {c80:C80} {c111:C111} {c98:C98} {c94:C94} {c112:C112} (h80:Sp80 c80) (h111:Sp111 c111) (h98:Sp98 c98) (h94:Sp94 c94) (h112:Sp112 c112):Sp103 (F103 c80 c111 c98 c94 c112):=fun p0 y hy=>by
 refine qaj (qae (ek80 h80) (qae (ek111 h111) (qae (ek98 h98) (qae (ek94 h94) (qae (ek112 h112) qai))))) 1000000 (fn:=Tryd.f103) (by kernel_rfl) (by kernel_rfl) (X:=X103) (by kernel_rfl) ?_
 rw [eq103]
 exact (nt103 Ops.std c80 c111 c98 c94 c112 p0 _ _ some (K2 k0) (rr103 c80 c111 c98 c94 c112 p0 k0 1000000) none).trans (by show ob (F103 c80 c111 c98 c94 c112 p0) _=_;rw [hy];rfl)
noncomputable def M103:L140→Option (LB):=F103 M80 M111 M98 M94 M112
theorem sm103:Sp103 M103:=sf103 sm80 sm111 sm98 sm94 sm112
def X104:Aux:=⟨[(3,([1,2]++rg 5 23))],[(5,.lin (rg 0 17))]⟩
inductive S104 where
 | l0 (v1:LB) (v2:Int)
abbrev C103:Type:=L140→Option (LB)
def T104 {R:Type} (B:Ops) (c103:C103) (p0:L138) (again:S104→Option R) (k:(LB)→Option R):Option S104→Option R | none=>again (.l0 (mt UInt8) 0) | some (.l0 v1 v2)=>cond (B.lt v2 (↑p0.length)) (cond (B.lim (List.length v1+3) (1)) (cond (B.inb v2 p0.length) (cond (B.lim (List.length (v1++([32,59,32]:LB))+List.length ((p0.getD v2.toNat ty138.dflt).1)) (1)) (cond (B.lim (List.length (v1++([32,59,32]:LB)++(p0.getD v2.toNat ty138.dflt).1)+3) (1)) (cond (B.inb v2 p0.length) (ob (c103 ((p0.getD v2.toNat ty138.dflt).2)) fun y0=>cond (B.lim (List.length (v1++([32,59,32]:LB)++(p0.getD v2.toNat ty138.dflt).1++([32,61,32]:LB))+List.length y0) (1)) (again (.l0 (v1++([32,59,32]:LB)++(p0.getD v2.toNat ty138.dflt).1++([32,61,32]:LB)++y0) (IntKind.wrap .i64 (v2+1)))) none) none) none) none) none) none) (k v1)
def E104 (p0:L138):S104→List AV×Objs
 | .l0 v1 v2=>(mk 28 [(0,.c (.list 138 ty138 p0)),(3,.c (.str v1)),(4,.c (.int .i64 v2))],[])
def I104:S104→Nat
 | .l0 _ _=>0
theorem eq104 {R:Type} (B:Ops) (c103:C103) (p0:L138) (k:AV→Objs→Option R) (n:Nat):afun tau B gl0 X104 (ent 103 (e103 c103) gnil) ow Tryd.f104 [.c (.list 138 ty138 p0)] [] k n=T104 B c103 p0 (fun s=>aloop tau B gl0 X104 (ent 103 (e103 c103) gnil) ow [] Tryd.f104 k (I104 s) (E104 p0 s) n) (K2 k) none:=by kernel_rfl
theorem el104 {R:Type} (B:Ops) (c103:C103) (p0:L138) (k:AV→Objs→Option R) (n:Nat):∀ s,aloop tau B gl0 X104 (ent 103 (e103 c103) gnil) ow [] Tryd.f104 k (I104 s) (E104 p0 s) (n+1)=T104 B c103 p0 (fun s=>aloop tau B gl0 X104 (ent 103 (e103 c103) gnil) ow [] Tryd.f104 k (I104 s) (E104 p0 s) n) (K2 k) (some s):=by
 intro s
 cases s<;>kernel_rfl
theorem nt104 {R R':Type} (B:Ops) (c103:C103) (p0:L138) (again:S104→Option R) (again':S104→Option R') (k0:(LB)→Option R') (k:R'→Option R) (h:∀ s,again s=ob (again' s) k):∀ s,T104 B c103 p0 again (fun y=>ob (k0 y) k) s=ob (T104 B c103 p0 again' k0 s) k:=by
 rintro (_ | x)
 all_goals try cases x
 all_goals (unfold T104;repeat' first | exact rfl | exact h _ | apply qaf | (apply qao;intro))
def R104 (c103:C103) (p0:L138):Nat→S104→Option (LB)
 | 0,_=>none
 | n+1,s=>T104 Ops.std c103 p0 (R104 c103 p0 n) some (some s)
theorem rr104 {R:Type} (c103:C103) (p0:L138) (k:AV→Objs→Option R):∀ (n:Nat) (s:S104),aloop tau Ops.std gl0 X104 (ent 103 (e103 c103) gnil) ow [] Tryd.f104 k (I104 s) (E104 p0 s) n=ob (R104 c103 p0 n s) (K2 k)
 | 0,s=>by cases s<;>rfl
 | n+1,s=>by rw [el104];exact nt104 Ops.std c103 p0 _ _ some (K2 k) (rr104 c103 p0 k n) (some s)
def F104 (c103:C103) (p0:L138):Option (LB):=T104 Ops.std c103 p0 (R104 c103 p0 1000000) some none
def e104 {R:Type} (c:L138→Option (LB)):Ent R:=fun args objs k=>
 oL args 138 ty138 fun p0 l0=>oE l0 objs <| ob (c p0) (K2 k)
abbrev Sp104 (c:L138→Option (LB)):Prop:=∀ (p0:L138) (y:LB),c p0=some y→Spec Tryd.prog gl0 104 [.c (.list 138 ty138 p0)] [] (.c (.str y)) []
theorem ek104 {R:Type} {c:L138→Option (LB)} (hs:Sp104 c):EOk 104 (e104 (R:=R) c):=fun args objs k r h=>by
 unfold e104 at h
 obtain ⟨p0,l0,rfl,q3⟩:=qaw h
 obtain ⟨rfl,rfl,q5⟩:=qam q3
 exact qap (hs p0) q5
theorem sf104 {c103:C103} (h103:Sp103 c103):Sp104 (F104 c103):=fun p0 y hy=>by
 refine qaj (qae (ek103 h103) qai) 1000000 (fn:=Tryd.f104) (by kernel_rfl) (by kernel_rfl) (X:=X104) (by kernel_rfl) ?_
 rw [eq104]
 exact (nt104 Ops.std c103 p0 _ _ some (K2 k0) (rr104 c103 p0 k0 1000000) none).trans (by show ob (F104 c103 p0) _=_;rw [hy];rfl)
noncomputable def M104:L138→Option (LB):=F104 M103
theorem sm104:Sp104 M104:=sf104 sm103
def X93:Aux:=⟨[],[(7,.lin ([0,1,4,5,8,9,12,13,16,19,20,23,24,2,3,6,7,10,11,14,15,17,18,21,22,25,26,27]))]⟩
abbrev C76:Type:=LB→Option (LB×Bool)
abbrev C77:Type:=Int→Option (Bool)
abbrev C102:Type:=L138→Option (Bool)
abbrev C104:Type:=L138→Option (LB)
def T93 {R:Type} (B:Ops) (c76:C76) (c77:C77) (c11:C11) (c80:C80) (c102:C102) (c94:C94) (c103:C103) (c104:C104) (p0:Int) (p1:LB) (p2:LB) (p3:LB) (p4:LB) (p5:L140) (p6:L138) (k:(LB)→Option R):Option R:=ob (c76 p4) fun y0=>ob (c77 p0) fun y1=>cond (!y1) (k (mt UInt8)) (cond (!y0.2) (k (mt UInt8)) (ob (c11 p1) fun y2=>cond (!y2) (k (mt UInt8)) (ob (c11 p2) fun y3=>cond (!y3) (k (mt UInt8)) (ob (c11 p3) fun y4=>cond (!y4) (k (mt UInt8)) (ob (c80 p5) fun y5=>cond (!y5) (k (mt UInt8)) (ob (c102 p6) fun y6=>cond (!y6) (k (mt UInt8)) (cond (p4 == mt UInt8) (ob (c94 p0) fun y7=>cond (B.lim (List.length y7+1) (1)) (cond (B.lim (List.length (y7++([32]:LB))+List.length p1) (1)) (cond (B.lim (List.length (y7++([32]:LB)++p1)+1) (1)) (cond (B.lim (List.length (y7++([32]:LB)++p1++([32]:LB))+List.length p2) (1)) (cond (B.lim (List.length (y7++([32]:LB)++p1++([32]:LB)++p2)+1) (1)) (cond (B.lim (List.length (y7++([32]:LB)++p1++([32]:LB)++p2++([32]:LB))+List.length p3) (1)) (cond (B.lim (List.length (y7++([32]:LB)++p1++([32]:LB)++p2++([32]:LB)++p3)+1) (1)) (cond (B.lim (List.length (y7++([32]:LB)++p1++([32]:LB)++p2++([32]:LB)++p3++([32]:LB))+1) (1)) (cond (B.lim (List.length (y7++([32]:LB)++p1++([32]:LB)++p2++([32]:LB)++p3++([32]:LB)++([45]:LB))+1) (1)) (ob (c103 p5) fun y8=>cond (B.lim (List.length (y7++([32]:LB)++p1++([32]:LB)++p2++([32]:LB)++p3++([32]:LB)++([45]:LB)++([32]:LB))+List.length y8) (1)) (ob (c104 p6) fun y9=>cond (B.lim (List.length (y7++([32]:LB)++p1++([32]:LB)++p2++([32]:LB)++p3++([32]:LB)++([45]:LB)++([32]:LB)++y8)+List.length y9) (1)) (k (y7++([32]:LB)++p1++([32]:LB)++p2++([32]:LB)++p3++([32]:LB)++([45]:LB)++([32]:LB)++y8++y9)) none) none) none) none) none) none) none) none) none) none) none) (ob (c94 p0) fun y7=>cond (B.lim (List.length y7+1) (1)) (cond (B.lim (List.length (y7++([32]:LB))+List.length p1) (1)) (cond (B.lim (List.length (y7++([32]:LB)++p1)+1) (1)) (cond (B.lim (List.length (y7++([32]:LB)++p1++([32]:LB))+List.length p2) (1)) (cond (B.lim (List.length (y7++([32]:LB)++p1++([32]:LB)++p2)+1) (1)) (cond (B.lim (List.length (y7++([32]:LB)++p1++([32]:LB)++p2++([32]:LB))+List.length p3) (1)) (cond (B.lim (List.length (y7++([32]:LB)++p1++([32]:LB)++p2++([32]:LB)++p3)+1) (1)) (cond (B.lim (List.length (y7++([32]:LB)++p1++([32]:LB)++p2++([32]:LB)++p3++([32]:LB))+List.length p4) (1)) (cond (B.lim (List.length (y7++([32]:LB)++p1++([32]:LB)++p2++([32]:LB)++p3++([32]:LB)++p4)+1) (1)) (ob (c103 p5) fun y8=>cond (B.lim (List.length (y7++([32]:LB)++p1++([32]:LB)++p2++([32]:LB)++p3++([32]:LB)++p4++([32]:LB))+List.length y8) (1)) (ob (c104 p6) fun y9=>cond (B.lim (List.length (y7++([32]:LB)++p1++([32]:LB)++p2++([32]:LB)++p3++([32]:LB)++p4++([32]:LB)++y8)+List.length y9) (1)) (k (y7++([32]:LB)++p1++([32]:LB)++p2++([32]:LB)++p3++([32]:LB)++p4++([32]:LB)++y8++y9)) none) none) none) none) none) none) none) none) none) none) none))))))))
theorem eq93 {R:Type} (B:Ops) (c76:C76) (c77:C77) (c11:C11) (c80:C80) (c102:C102) (c94:C94) (c103:C103) (c104:C104) (p0:Int) (p1:LB) (p2:LB) (p3:LB) (p4:LB) (p5:L140) (p6:L138) (k:AV→Objs→Option R) (n:Nat):afun tau B gl0 X93 (ent 76 (e76 c76) (ent 77 (e77 c77) (ent 11 (e11 c11) (ent 80 (e80 c80) (ent 102 (e102 c102) (ent 94 (e94 c94) (ent 103 (e103 c103) (ent 104 (e104 c104) gnil)))))))) ow Tryd.f93 [.agg [.int .i64 p0,.str p1,.str p2,.str p3,.str p4,.list 140 ty140 p5,.list 138 ty138 p6]] [] k n=T93 B c76 c77 c11 c80 c102 c94 c103 c104 p0 p1 p2 p3 p4 p5 p6 (K2 k):=by kernel_rfl
theorem nt93 {R R':Type} (B:Ops) (c76:C76) (c77:C77) (c11:C11) (c80:C80) (c102:C102) (c94:C94) (c103:C103) (c104:C104) (p0:Int) (p1:LB) (p2:LB) (p3:LB) (p4:LB) (p5:L140) (p6:L138) (k0:(LB)→Option R') (k:R'→Option R):T93 B c76 c77 c11 c80 c102 c94 c103 c104 p0 p1 p2 p3 p4 p5 p6 (fun y=>ob (k0 y) k)=ob (T93 B c76 c77 c11 c80 c102 c94 c103 c104 p0 p1 p2 p3 p4 p5 p6 k0) k:=by
 unfold T93
 repeat' first | exact rfl | apply qaf | (apply qao;intro)
def F93 (c76:C76) (c77:C77) (c11:C11) (c80:C80) (c102:C102) (c94:C94) (c103:C103) (c104:C104) (p0:Int) (p1:LB) (p2:LB) (p3:LB) (p4:LB) (p5:L140) (p6:L138):Option (LB):=T93 Ops.std c76 c77 c11 c80 c102 c94 c103 c104 p0 p1 p2 p3 p4 p5 p6 some
def e93 {R:Type} (c:Int→LB→LB→LB→LB→L140→L138→Option (LB)):Ent R:=fun args objs k=>
 oCons args fun a0 l0=>oAgg a0 fun x0=>cCons x0 fun z0_0 w0_0=>cInt .i64 z0_0 fun p0=>cCons w0_0 fun z0_1 w0_1=>cStr z0_1 fun p1=>cCons w0_1 fun z0_2 w0_2=>cStr z0_2 fun p2=>cCons w0_2 fun z0_3 w0_3=>cStr z0_3 fun p3=>cCons w0_3 fun z0_4 w0_4=>cStr z0_4 fun p4=>cCons w0_4 fun z0_5 w0_5=>cList 140 ty140 z0_5 fun p5=>cCons w0_5 fun z0_6 w0_6=>cList 138 ty138 z0_6 fun p6=>cNil w0_6 <| oE l0 objs <| ob (c p0 p1 p2 p3 p4 p5 p6) (K2 k)
abbrev Sp93 (c:Int→LB→LB→LB→LB→L140→L138→Option (LB)):Prop:=∀ (p0:Int) (p1:LB) (p2:LB) (p3:LB) (p4:LB) (p5:L140) (p6:L138) (y:LB),c p0 p1 p2 p3 p4 p5 p6=some y→Spec Tryd.prog gl0 93 [.agg [.int .i64 p0,.str p1,.str p2,.str p3,.str p4,.list 140 ty140 p5,.list 138 ty138 p6]] [] (.c (.str y)) []
theorem ek93 {R:Type} {c:Int→LB→LB→LB→LB→L140→L138→Option (LB)} (hs:Sp93 c):EOk 93 (e93 (R:=R) c):=fun args objs k r h=>by
 unfold e93 at h
 obtain ⟨a0,l0,rfl,q1⟩:=qal h
 obtain ⟨x0,rfl,q2⟩:=qav q1
 obtain ⟨z0_0,w0_0,rfl,q3⟩:=qab q2
 obtain ⟨p0,rfl,q4⟩:=qaq q3
 obtain ⟨z0_1,w0_1,rfl,q5⟩:=qab q4
 obtain ⟨p1,rfl,q6⟩:=qa9 q5
 obtain ⟨z0_2,w0_2,rfl,q7⟩:=qab q6
 obtain ⟨p2,rfl,q8⟩:=qa9 q7
 obtain ⟨z0_3,w0_3,rfl,q9⟩:=qab q8
 obtain ⟨p3,rfl,q10⟩:=qa9 q9
 obtain ⟨z0_4,w0_4,rfl,q11⟩:=qab q10
 obtain ⟨p4,rfl,q12⟩:=qa9 q11
 obtain ⟨z0_5,w0_5,rfl,q13⟩:=qab q12
 obtain ⟨p5,rfl,q14⟩:=qad q13
 obtain ⟨z0_6,w0_6,rfl,q15⟩:=qab q14
 obtain ⟨p6,rfl,q16⟩:=qad q15
 obtain ⟨rfl,q17⟩:=qar q16
 obtain ⟨rfl,rfl,q19⟩:=qam q17
 exact qap (hs p0 p1 p2 p3 p4 p5 p6) q19
theorem sf93 {c76:C76} {c77:C77} {c11:C11} {c80:C80} {c102:C102} {c94:C94} {c103:C103} {c104:C104} (h76:Sp76 c76) (h77:Sp77 c77) (h11:Sp11 c11) (h80:Sp80 c80) (h102:Sp102 c102) (h94:Sp94 c94) (h103:Sp103 c103) (h104:Sp104 c104):Sp93 (F93 c76 c77 c11 c80 c102 c94 c103 c104):=fun p0 p1 p2 p3 p4 p5 p6 y hy=>by
 refine qaj (qae (ek76 h76) (qae (ek77 h77) (qae (ek11 h11) (qae (ek80 h80) (qae (ek102 h102) (qae (ek94 h94) (qae (ek103 h103) (qae (ek104 h104) qai)))))))) 1000000 (fn:=Tryd.f93) (by kernel_rfl) (by kernel_rfl) (X:=X93) (by kernel_rfl) ?_
 rw [eq93]
 exact (nt93 Ops.std c76 c77 c11 c80 c102 c94 c103 c104 p0 p1 p2 p3 p4 p5 p6 some (K2 k0)).trans (by show ob (F93 c76 c77 c11 c80 c102 c94 c103 c104 p0 p1 p2 p3 p4 p5 p6) _=_;rw [hy];rfl)
noncomputable def M93:Int→LB→LB→LB→LB→L140→L138→Option (LB):=F93 M76 M77 M11 M80 M102 M94 M103 M104
theorem sm93:Sp93 M93:=sf93 sm76 sm77 sm11 sm80 sm102 sm94 sm103 sm104
def X69:Aux:=⟨[(2000000,[])],[(5,.lin (rg 0 16))]⟩
abbrev C67:Type:=LB→Option (L9)
abbrev C70:Type:=LB→Int→Option (LB)
abbrev C91:Type:=LB→Option (Int×Int×L140)
abbrev C92:Type:=L9→Option (Bool×L138)
abbrev C93:Type:=Int→LB→LB→LB→LB→L140→L138→Option (LB)
def T69 {R:Type} (B:Ops) (c67:C67) (c90:C90) (c76:C76) (c70:C70) (c66:C66) (c91:C91) (c92:C92) (c93:C93) (p0:LB) (k:(Int×LB×LB×LB×LB×L140×L138×Bool)→Option R):Option R:=ob (c67 p0) fun y0=>cond (B.lt (↑y0.length) (6)) (k ((0,mt UInt8,mt UInt8,mt UInt8,mt UInt8,mt (Ty.den ty140),mt (Ty.den ty138),false))) (cond (B.inb (0) y0.length) (ob (c90 (y0.getD (Int.toNat (0)) ty9.dflt) false) fun y1=>cond (B.inb (1) y0.length) (cond (B.inb (2) y0.length) (cond (B.inb (3) y0.length) (cond (B.inb (4) y0.length) (cond (y0.getD (Int.toNat (4)) ty9.dflt == ([45]:LB)) (ob (c70 p0 (5)) fun y2=>ob (c66 y2 (59)) fun y3=>cond (B.inb (0) y3.length) (ob (c91 (y3.getD (Int.toNat (0)) ty9.dflt)) fun y4=>cond (B.inb (1) (List.length y3+1)) (ob (c92 (List.drop (Int.toNat (1)) (List.take y3.length y3))) fun y5=>cond (!y1.2) (k ((0,mt UInt8,mt UInt8,mt UInt8,mt UInt8,mt (Ty.den ty140),mt (Ty.den ty138),false))) (cond (!B.eq y4.1 (0)) (k ((0,mt UInt8,mt UInt8,mt UInt8,mt UInt8,mt (Ty.den ty140),mt (Ty.den ty138),false))) (cond (!y5.1) (k ((0,mt UInt8,mt UInt8,mt UInt8,mt UInt8,mt (Ty.den ty140),mt (Ty.den ty138),false))) (ob (c93 y1.1 (y0.getD (Int.toNat (1)) ty9.dflt) (y0.getD (Int.toNat (2)) ty9.dflt) (y0.getD (Int.toNat (3)) ty9.dflt) (mt UInt8) y4.2.2 y5.2) fun y6=>cond (y6 == mt UInt8) (k ((0,mt UInt8,mt UInt8,mt UInt8,mt UInt8,mt (Ty.den ty140),mt (Ty.den ty138),false))) (k ((y1.1,y0.getD (Int.toNat (1)) ty9.dflt,y0.getD (Int.toNat (2)) ty9.dflt,y0.getD (Int.toNat (3)) ty9.dflt,mt UInt8,y4.2.2,y5.2,true))))))) none) none) (ob (c76 (y0.getD (Int.toNat (4)) ty9.dflt)) fun y2=>cond (!y2.2) (k ((0,mt UInt8,mt UInt8,mt UInt8,mt UInt8,mt (Ty.den ty140),mt (Ty.den ty138),false))) (ob (c70 p0 (5)) fun y3=>ob (c66 y3 (59)) fun y4=>cond (B.inb (0) y4.length) (ob (c91 (y4.getD (Int.toNat (0)) ty9.dflt)) fun y5=>cond (B.inb (1) (List.length y4+1)) (ob (c92 (List.drop (Int.toNat (1)) (List.take y4.length y4))) fun y6=>cond (!y1.2) (k ((0,mt UInt8,mt UInt8,mt UInt8,mt UInt8,mt (Ty.den ty140),mt (Ty.den ty138),false))) (cond (!B.eq y5.1 (0)) (k ((0,mt UInt8,mt UInt8,mt UInt8,mt UInt8,mt (Ty.den ty140),mt (Ty.den ty138),false))) (cond (!y6.1) (k ((0,mt UInt8,mt UInt8,mt UInt8,mt UInt8,mt (Ty.den ty140),mt (Ty.den ty138),false))) (ob (c93 y1.1 (y0.getD (Int.toNat (1)) ty9.dflt) (y0.getD (Int.toNat (2)) ty9.dflt) (y0.getD (Int.toNat (3)) ty9.dflt) (y0.getD (Int.toNat (4)) ty9.dflt) y5.2.2 y6.2) fun y7=>cond (y7 == mt UInt8) (k ((0,mt UInt8,mt UInt8,mt UInt8,mt UInt8,mt (Ty.den ty140),mt (Ty.den ty138),false))) (k ((y1.1,y0.getD (Int.toNat (1)) ty9.dflt,y0.getD (Int.toNat (2)) ty9.dflt,y0.getD (Int.toNat (3)) ty9.dflt,y0.getD (Int.toNat (4)) ty9.dflt,y5.2.2,y6.2,true))))))) none) none))) none) none) none) none) none)
abbrev K22 {R:Type} (k:AV→Objs→Option R) (y:(Int×LB×LB×LB×LB×L140×L138×Bool)):Option R:=k (.tup [(true,[.int .i64 y.1,.str y.2.1,.str y.2.2.1,.str y.2.2.2.1,.str y.2.2.2.2.1,.list 140 ty140 y.2.2.2.2.2.1,.list 138 ty138 y.2.2.2.2.2.2.1]),(false,[.bool y.2.2.2.2.2.2.2])]) []
theorem eq69 {R:Type} (B:Ops) (c67:C67) (c90:C90) (c76:C76) (c70:C70) (c66:C66) (c91:C91) (c92:C92) (c93:C93) (p0:LB) (k:AV→Objs→Option R) (n:Nat):afun tau B gl0 X69 (ent 67 (e67 c67) (ent 90 (e90 c90) (ent 76 (e76 c76) (ent 70 (e70 c70) (ent 66 (e66 c66) (ent 91 (e91 c91) (ent 92 (e92 c92) (ent 93 (e93 c93) gnil)))))))) ow Tryd.f69 [.c (.str p0)] [] k n=T69 B c67 c90 c76 c70 c66 c91 c92 c93 p0 (K22 k):=by kernel_rfl
theorem nt69 {R R':Type} (B:Ops) (c67:C67) (c90:C90) (c76:C76) (c70:C70) (c66:C66) (c91:C91) (c92:C92) (c93:C93) (p0:LB) (k0:(Int×LB×LB×LB×LB×L140×L138×Bool)→Option R') (k:R'→Option R):T69 B c67 c90 c76 c70 c66 c91 c92 c93 p0 (fun y=>ob (k0 y) k)=ob (T69 B c67 c90 c76 c70 c66 c91 c92 c93 p0 k0) k:=by
 unfold T69
 repeat' first | exact rfl | apply qaf | (apply qao;intro)
def F69 (c67:C67) (c90:C90) (c76:C76) (c70:C70) (c66:C66) (c91:C91) (c92:C92) (c93:C93) (p0:LB):Option (Int×LB×LB×LB×LB×L140×L138×Bool):=T69 Ops.std c67 c90 c76 c70 c66 c91 c92 c93 p0 some
def e69 {R:Type} (c:LB→Option (Int×LB×LB×LB×LB×L140×L138×Bool)):Ent R:=fun args objs k=>
 oS args fun p0 l0=>oE l0 objs <| ob (c p0) (K22 k)
abbrev Sp69 (c:LB→Option (Int×LB×LB×LB×LB×L140×L138×Bool)):Prop:=∀ (p0:LB) (y:Int×LB×LB×LB×LB×L140×L138×Bool),c p0=some y→Spec Tryd.prog gl0 69 [.c (.str p0)] [] (.tup [(true,[.int .i64 y.1,.str y.2.1,.str y.2.2.1,.str y.2.2.2.1,.str y.2.2.2.2.1,.list 140 ty140 y.2.2.2.2.2.1,.list 138 ty138 y.2.2.2.2.2.2.1]),(false,[.bool y.2.2.2.2.2.2.2])]) []
theorem ek69 {R:Type} {c:LB→Option (Int×LB×LB×LB×LB×L140×L138×Bool)} (hs:Sp69 c):EOk 69 (e69 (R:=R) c):=fun args objs k r h=>by
 unfold e69 at h
 obtain ⟨p0,l0,rfl,q3⟩:=qa8 h
 obtain ⟨rfl,rfl,q5⟩:=qam q3
 exact qap (hs p0) q5
theorem sf69 {c67:C67} {c90:C90} {c76:C76} {c70:C70} {c66:C66} {c91:C91} {c92:C92} {c93:C93} (h67:Sp67 c67) (h90:Sp90 c90) (h76:Sp76 c76) (h70:Sp70 c70) (h66:Sp66 c66) (h91:Sp91 c91) (h92:Sp92 c92) (h93:Sp93 c93):Sp69 (F69 c67 c90 c76 c70 c66 c91 c92 c93):=fun p0 y hy=>by
 refine qaj (qae (ek67 h67) (qae (ek90 h90) (qae (ek76 h76) (qae (ek70 h70) (qae (ek66 h66) (qae (ek91 h91) (qae (ek92 h92) (qae (ek93 h93) qai)))))))) 1000000 (fn:=Tryd.f69) (by kernel_rfl) (by kernel_rfl) (X:=X69) (by kernel_rfl) ?_
 rw [eq69]
 exact (nt69 Ops.std c67 c90 c76 c70 c66 c91 c92 c93 p0 some (K22 k0)).trans (by show ob (F69 c67 c90 c76 c70 c66 c91 c92 c93 p0) _=_;rw [hy];rfl)
noncomputable def M69:LB→Option (Int×LB×LB×LB×LB×L140×L138×Bool):=F69 M67 M90 M76 M70 M66 M91 M92 M93
theorem sm69:Sp69 M69:=sf69 sm67 sm90 sm76 sm70 sm66 sm91 sm92 sm93
def X44:Aux:=⟨[],[]⟩
def T44 {R:Type} (B:Ops) (p0:Int) (k:(Bool)→Option R):Option R:=cond (B.le (-999) p0) (k (B.le p0 (999))) (k false)
theorem eq44 {R:Type} (B:Ops) (p0:Int) (k:AV→Objs→Option R) (n:Nat):afun tau B gl0 X44 gnil ow Tryd.f44 [.c (.int .i64 p0)] [] k n=T44 B p0 (K1 k):=by kernel_rfl
theorem nt44 {R R':Type} (B:Ops) (p0:Int) (k0:(Bool)→Option R') (k:R'→Option R):T44 B p0 (fun y=>ob (k0 y) k)=ob (T44 B p0 k0) k:=by
 unfold T44
 repeat' first | exact rfl | apply qaf | (apply qao;intro)
def F44 (p0:Int):Option (Bool):=T44 Ops.std p0 some
def e44 {R:Type} (c:Int→Option (Bool)):Ent R:=fun args objs k=>
 oI args .i64 fun p0 l0=>oE l0 objs <| ob (c p0) (K1 k)
abbrev Sp44 (c:Int→Option (Bool)):Prop:=∀ (p0:Int) (y:Bool),c p0=some y→Spec Tryd.prog gl0 44 [.c (.int .i64 p0)] [] (.c (.bool y)) []
theorem ek44 {R:Type} {c:Int→Option (Bool)} (hs:Sp44 c):EOk 44 (e44 (R:=R) c):=fun args objs k r h=>by
 unfold e44 at h
 obtain ⟨p0,l0,rfl,q3⟩:=qau h
 obtain ⟨rfl,rfl,q5⟩:=qam q3
 exact qap (hs p0) q5
theorem sf44:Sp44 (F44):=fun p0 y hy=>by
 refine qaj qai 1000000 (fn:=Tryd.f44) (by kernel_rfl) (by kernel_rfl) (X:=X44) (by kernel_rfl) ?_
 rw [eq44]
 exact (nt44 Ops.std p0 some (K1 k0)).trans (by show ob (F44 p0) _=_;rw [hy];rfl)
noncomputable def M44:Int→Option (Bool):=F44
theorem sm44:Sp44 M44:=sf44
def X45:Aux:=⟨[(2,([1,2]++rg 4 21)),(5,([1,2]++rg 5 20))],[(7,.lin [0,1,2,3,4,5,6,7,8])]⟩
inductive S45 where
 | l0 (v1:Int)
 | l1 (v1:Int) (v2:Int)
def T45 {R:Type} (B:Ops) (p0:L9) (again:S45→Option R) (k:(Bool)→Option R):Option S45→Option R | none=>again (.l0 0) | some (.l0 v1)=>cond (B.lt v1 (↑p0.length)) (again (.l1 v1 0)) (k false) | some (.l1 v1 v2)=>cond (B.lt v2 v1) (cond (B.inb v1 p0.length) (cond (B.inb v2 p0.length) (cond (p0.getD v1.toNat ty9.dflt == p0.getD v2.toNat ty9.dflt) (k true) (again (.l1 v1 (IntKind.wrap .i64 (v2+1))))) none) none) (again (.l0 (IntKind.wrap .i64 (v1+1))))
def E45 (p0:L9):S45→List AV×Objs
 | .l0 v1=>(mk 25 [(0,.c (.list 9 ty9 p0)),(3,.c (.int .i64 v1))],[])
 | .l1 v1 v2=>(mk 25 [(0,.c (.list 9 ty9 p0)),(3,.c (.int .i64 v1)),(4,.c (.int .i64 v2))],[])
def I45:S45→Nat
 | .l0 _=>0
 | .l1 _ _=>1
theorem eq45 {R:Type} (B:Ops) (p0:L9) (k:AV→Objs→Option R) (n:Nat):afun tau B gl0 X45 gnil ow Tryd.f45 [.c (.list 9 ty9 p0)] [] k n=T45 B p0 (fun s=>aloop tau B gl0 X45 gnil ow [] Tryd.f45 k (I45 s) (E45 p0 s) n) (K1 k) none:=by kernel_rfl
theorem el45 {R:Type} (B:Ops) (p0:L9) (k:AV→Objs→Option R) (n:Nat):∀ s,aloop tau B gl0 X45 gnil ow [] Tryd.f45 k (I45 s) (E45 p0 s) (n+1)=T45 B p0 (fun s=>aloop tau B gl0 X45 gnil ow [] Tryd.f45 k (I45 s) (E45 p0 s) n) (K1 k) (some s):=by
 intro s
 cases s<;>kernel_rfl
theorem nt45 {R R':Type} (B:Ops) (p0:L9) (again:S45→Option R) (again':S45→Option R') (k0:(Bool)→Option R') (k:R'→Option R) (h:∀ s,again s=ob (again' s) k):∀ s,T45 B p0 again (fun y=>ob (k0 y) k) s=ob (T45 B p0 again' k0 s) k:=by
 rintro (_ | x)
 all_goals try cases x
 all_goals (unfold T45;repeat' first | exact rfl | exact h _ | apply qaf | (apply qao;intro))
def R45 (p0:L9):Nat→S45→Option (Bool)
 | 0,_=>none
 | n+1,s=>T45 Ops.std p0 (R45 p0 n) some (some s)
theorem rr45 {R:Type} (p0:L9) (k:AV→Objs→Option R):∀ (n:Nat) (s:S45),aloop tau Ops.std gl0 X45 gnil ow [] Tryd.f45 k (I45 s) (E45 p0 s) n=ob (R45 p0 n s) (K1 k)
 | 0,s=>by cases s<;>rfl
 | n+1,s=>by rw [el45];exact nt45 Ops.std p0 _ _ some (K1 k) (rr45 p0 k n) (some s)
def F45 (p0:L9):Option (Bool):=T45 Ops.std p0 (R45 p0 1000000) some none
def e45 {R:Type} (c:L9→Option (Bool)):Ent R:=fun args objs k=>
 oL args 9 ty9 fun p0 l0=>oE l0 objs <| ob (c p0) (K1 k)
abbrev Sp45 (c:L9→Option (Bool)):Prop:=∀ (p0:L9) (y:Bool),c p0=some y→Spec Tryd.prog gl0 45 [.c (.list 9 ty9 p0)] [] (.c (.bool y)) []
theorem ek45 {R:Type} {c:L9→Option (Bool)} (hs:Sp45 c):EOk 45 (e45 (R:=R) c):=fun args objs k r h=>by
 unfold e45 at h
 obtain ⟨p0,l0,rfl,q3⟩:=qaw h
 obtain ⟨rfl,rfl,q5⟩:=qam q3
 exact qap (hs p0) q5
theorem sf45:Sp45 (F45):=fun p0 y hy=>by
 refine qaj qai 1000000 (fn:=Tryd.f45) (by kernel_rfl) (by kernel_rfl) (X:=X45) (by kernel_rfl) ?_
 rw [eq45]
 exact (nt45 Ops.std p0 _ _ some (K1 k0) (rr45 p0 k0 1000000) none).trans (by show ob (F45 p0) _=_;rw [hy];rfl)
noncomputable def M45:L9→Option (Bool):=F45
theorem sm45:Sp45 M45:=sf45
def X75:Aux:=⟨[(2,([0,3,4]++rg 6 16))],[]⟩
inductive S75 where
 | l0 (v1:Int)
def T75 {R:Type} (B:Ops) (p0:L82) (p1:L85) (p2:L91) (p3:LB) (again:S75→Option R) (k:(Int)→Option R):Option S75→Option R | none=>again (.l0 0) | some (.l0 v1)=>cond (B.lt v1 (↑p1.length)) (cond (B.inb v1 p1.length) (cond ((p1.getD v1.toNat ty85.dflt).1 == p3) (k v1) (again (.l0 (IntKind.wrap .i64 (v1+1))))) none) (k (-1))
def E75 (p0:L82) (p1:L85) (p2:L91) (p3:LB):S75→List AV×Objs
 | .l0 v1=>(mk 22 [(1,.c (.str p3)),(2,.c (.ptr 2 0)),(5,.c (.int .i64 v1))],[(2,.box 40 [.list 82 ty82 p0,.list 85 ty85 p1,.list 91 ty91 p2])])
def I75:S75→Nat
 | .l0 _=>0
theorem eq75 {R:Type} (B:Ops) (p0:L82) (p1:L85) (p2:L91) (p3:LB) (k:AV→Objs→Option R) (n:Nat):afun tau B gl0 X75 gnil ow Tryd.f75 [.agg [.list 82 ty82 p0,.list 85 ty85 p1,.list 91 ty91 p2],.c (.str p3)] [] k n=T75 B p0 p1 p2 p3 (fun s=>aloop tau B gl0 X75 gnil ow [] Tryd.f75 k (I75 s) (E75 p0 p1 p2 p3 s) n) (K3 k) none:=by kernel_rfl
theorem el75 {R:Type} (B:Ops) (p0:L82) (p1:L85) (p2:L91) (p3:LB) (k:AV→Objs→Option R) (n:Nat):∀ s,aloop tau B gl0 X75 gnil ow [] Tryd.f75 k (I75 s) (E75 p0 p1 p2 p3 s) (n+1)=T75 B p0 p1 p2 p3 (fun s=>aloop tau B gl0 X75 gnil ow [] Tryd.f75 k (I75 s) (E75 p0 p1 p2 p3 s) n) (K3 k) (some s):=by
 intro s
 cases s<;>kernel_rfl
theorem nt75 {R R':Type} (B:Ops) (p0:L82) (p1:L85) (p2:L91) (p3:LB) (again:S75→Option R) (again':S75→Option R') (k0:(Int)→Option R') (k:R'→Option R) (h:∀ s,again s=ob (again' s) k):∀ s,T75 B p0 p1 p2 p3 again (fun y=>ob (k0 y) k) s=ob (T75 B p0 p1 p2 p3 again' k0 s) k:=by
 rintro (_ | x)
 all_goals try cases x
 all_goals (unfold T75;repeat' first | exact rfl | exact h _ | apply qaf | (apply qao;intro))
def R75 (p0:L82) (p1:L85) (p2:L91) (p3:LB):Nat→S75→Option (Int)
 | 0,_=>none
 | n+1,s=>T75 Ops.std p0 p1 p2 p3 (R75 p0 p1 p2 p3 n) some (some s)
theorem rr75 {R:Type} (p0:L82) (p1:L85) (p2:L91) (p3:LB) (k:AV→Objs→Option R):∀ (n:Nat) (s:S75),aloop tau Ops.std gl0 X75 gnil ow [] Tryd.f75 k (I75 s) (E75 p0 p1 p2 p3 s) n=ob (R75 p0 p1 p2 p3 n s) (K3 k)
 | 0,s=>by cases s<;>rfl
 | n+1,s=>by rw [el75];exact nt75 Ops.std p0 p1 p2 p3 _ _ some (K3 k) (rr75 p0 p1 p2 p3 k n) (some s)
def F75 (p0:L82) (p1:L85) (p2:L91) (p3:LB):Option (Int):=T75 Ops.std p0 p1 p2 p3 (R75 p0 p1 p2 p3 1000000) some none
def e75 {R:Type} (c:L82→L85→L91→LB→Option (Int)):Ent R:=fun args objs k=>
 oCons args fun a0 l0=>oAgg a0 fun x0=>cCons x0 fun z0_0 w0_0=>cList 82 ty82 z0_0 fun p0=>cCons w0_0 fun z0_1 w0_1=>cList 85 ty85 z0_1 fun p1=>cCons w0_1 fun z0_2 w0_2=>cList 91 ty91 z0_2 fun p2=>cNil w0_2 <| oS l0 fun p3 l1=>oE l1 objs <| ob (c p0 p1 p2 p3) (K3 k)
abbrev Sp75 (c:L82→L85→L91→LB→Option (Int)):Prop:=∀ (p0:L82) (p1:L85) (p2:L91) (p3:LB) (y:Int),c p0 p1 p2 p3=some y→Spec Tryd.prog gl0 75 [.agg [.list 82 ty82 p0,.list 85 ty85 p1,.list 91 ty91 p2],.c (.str p3)] [] (.c (.int .i64 y)) []
theorem ek75 {R:Type} {c:L82→L85→L91→LB→Option (Int)} (hs:Sp75 c):EOk 75 (e75 (R:=R) c):=fun args objs k r h=>by
 unfold e75 at h
 obtain ⟨a0,l0,rfl,q1⟩:=qal h
 obtain ⟨x0,rfl,q2⟩:=qav q1
 obtain ⟨z0_0,w0_0,rfl,q3⟩:=qab q2
 obtain ⟨p0,rfl,q4⟩:=qad q3
 obtain ⟨z0_1,w0_1,rfl,q5⟩:=qab q4
 obtain ⟨p1,rfl,q6⟩:=qad q5
 obtain ⟨z0_2,w0_2,rfl,q7⟩:=qab q6
 obtain ⟨p2,rfl,q8⟩:=qad q7
 obtain ⟨rfl,q9⟩:=qar q8
 obtain ⟨p3,l1,rfl,q12⟩:=qa8 q9
 obtain ⟨rfl,rfl,q14⟩:=qam q12
 exact qap (hs p0 p1 p2 p3) q14
theorem sf75:Sp75 (F75):=fun p0 p1 p2 p3 y hy=>by
 refine qaj qai 1000000 (fn:=Tryd.f75) (by kernel_rfl) (by kernel_rfl) (X:=X75) (by kernel_rfl) ?_
 rw [eq75]
 exact (nt75 Ops.std p0 p1 p2 p3 _ _ some (K3 k0) (rr75 p0 p1 p2 p3 k0 1000000) none).trans (by show ob (F75 p0 p1 p2 p3) _=_;rw [hy];rfl)
noncomputable def M75:L82→L85→L91→LB→Option (Int):=F75
theorem sm75:Sp75 M75:=sf75
def X78:Aux:=⟨[(4,([0,4,5,6]++rg 8 25))],[]⟩
inductive S78 where
 | l0 (v2:Int)
def T78 {R:Type} (B:Ops) (p0:L82) (p1:L85) (p2:L91) (p3:Int) (p4:LB) (again:S78→Option R) (k:(Int)→Option R):Option S78→Option R | none=>cond (B.lt p3 (0)) (k (-1)) (again (.l0 0)) | some (.l0 v2)=>cond (B.inb p3 p1.length) (cond (B.lt v2 (Nat.cast (List.length ((p1.getD p3.toNat ty85.dflt).2)))) (cond (B.inb p3 p1.length) (cond (B.inb v2 (List.length ((p1.getD p3.toNat ty85.dflt).2))) (cond (List.getD ((p1.getD p3.toNat ty85.dflt).2) v2.toNat (Ty.dflt Ty.str) == p4) (k v2) (again (.l0 (IntKind.wrap .i64 (v2+1))))) none) none) (k (-1))) none
def E78 (p0:L82) (p1:L85) (p2:L91) (p3:Int) (p4:LB):S78→List AV×Objs
 | .l0 v2=>(mk 33 [(1,.c (.int .i64 p3)),(2,.c (.str p4)),(3,.c (.ptr 3 0)),(7,.c (.int .i64 v2))],[(3,.box 40 [.list 82 ty82 p0,.list 85 ty85 p1,.list 91 ty91 p2])])
def I78:S78→Nat
 | .l0 _=>0
theorem eq78 {R:Type} (B:Ops) (p0:L82) (p1:L85) (p2:L91) (p3:Int) (p4:LB) (k:AV→Objs→Option R) (n:Nat):afun tau B gl0 X78 gnil ow Tryd.f78 [.agg [.list 82 ty82 p0,.list 85 ty85 p1,.list 91 ty91 p2],.c (.int .i64 p3),.c (.str p4)] [] k n=T78 B p0 p1 p2 p3 p4 (fun s=>aloop tau B gl0 X78 gnil ow [] Tryd.f78 k (I78 s) (E78 p0 p1 p2 p3 p4 s) n) (K3 k) none:=by kernel_rfl
theorem el78 {R:Type} (B:Ops) (p0:L82) (p1:L85) (p2:L91) (p3:Int) (p4:LB) (k:AV→Objs→Option R) (n:Nat):∀ s,aloop tau B gl0 X78 gnil ow [] Tryd.f78 k (I78 s) (E78 p0 p1 p2 p3 p4 s) (n+1)=T78 B p0 p1 p2 p3 p4 (fun s=>aloop tau B gl0 X78 gnil ow [] Tryd.f78 k (I78 s) (E78 p0 p1 p2 p3 p4 s) n) (K3 k) (some s):=by
 intro s
 cases s<;>kernel_rfl
theorem nt78 {R R':Type} (B:Ops) (p0:L82) (p1:L85) (p2:L91) (p3:Int) (p4:LB) (again:S78→Option R) (again':S78→Option R') (k0:(Int)→Option R') (k:R'→Option R) (h:∀ s,again s=ob (again' s) k):∀ s,T78 B p0 p1 p2 p3 p4 again (fun y=>ob (k0 y) k) s=ob (T78 B p0 p1 p2 p3 p4 again' k0 s) k:=by
 rintro (_ | x)
 all_goals try cases x
 all_goals (unfold T78;repeat' first | exact rfl | exact h _ | apply qaf | (apply qao;intro))
def R78 (p0:L82) (p1:L85) (p2:L91) (p3:Int) (p4:LB):Nat→S78→Option (Int)
 | 0,_=>none
 | n+1,s=>T78 Ops.std p0 p1 p2 p3 p4 (R78 p0 p1 p2 p3 p4 n) some (some s)
theorem rr78 {R:Type} (p0:L82) (p1:L85) (p2:L91) (p3:Int) (p4:LB) (k:AV→Objs→Option R):∀ (n:Nat) (s:S78),aloop tau Ops.std gl0 X78 gnil ow [] Tryd.f78 k (I78 s) (E78 p0 p1 p2 p3 p4 s) n=ob (R78 p0 p1 p2 p3 p4 n s) (K3 k)
 | 0,s=>by cases s<;>rfl
 | n+1,s=>by rw [el78];exact nt78 Ops.std p0 p1 p2 p3 p4 _ _ some (K3 k) (rr78 p0 p1 p2 p3 p4 k n) (some s)
def F78 (p0:L82) (p1:L85) (p2:L91) (p3:Int) (p4:LB):Option (Int):=T78 Ops.std p0 p1 p2 p3 p4 (R78 p0 p1 p2 p3 p4 1000000) some none
def e78 {R:Type} (c:L82→L85→L91→Int→LB→Option (Int)):Ent R:=fun args objs k=>
 oCons args fun a0 l0=>oAgg a0 fun x0=>cCons x0 fun z0_0 w0_0=>cList 82 ty82 z0_0 fun p0=>cCons w0_0 fun z0_1 w0_1=>cList 85 ty85 z0_1 fun p1=>cCons w0_1 fun z0_2 w0_2=>cList 91 ty91 z0_2 fun p2=>cNil w0_2 <| oI l0 .i64 fun p3 l1=>oS l1 fun p4 l2=>oE l2 objs <| ob (c p0 p1 p2 p3 p4) (K3 k)
abbrev Sp78 (c:L82→L85→L91→Int→LB→Option (Int)):Prop:=∀ (p0:L82) (p1:L85) (p2:L91) (p3:Int) (p4:LB) (y:Int),c p0 p1 p2 p3 p4=some y→Spec Tryd.prog gl0 78 [.agg [.list 82 ty82 p0,.list 85 ty85 p1,.list 91 ty91 p2],.c (.int .i64 p3),.c (.str p4)] [] (.c (.int .i64 y)) []
theorem ek78 {R:Type} {c:L82→L85→L91→Int→LB→Option (Int)} (hs:Sp78 c):EOk 78 (e78 (R:=R) c):=fun args objs k r h=>by
 unfold e78 at h
 obtain ⟨a0,l0,rfl,q1⟩:=qal h
 obtain ⟨x0,rfl,q2⟩:=qav q1
 obtain ⟨z0_0,w0_0,rfl,q3⟩:=qab q2
 obtain ⟨p0,rfl,q4⟩:=qad q3
 obtain ⟨z0_1,w0_1,rfl,q5⟩:=qab q4
 obtain ⟨p1,rfl,q6⟩:=qad q5
 obtain ⟨z0_2,w0_2,rfl,q7⟩:=qab q6
 obtain ⟨p2,rfl,q8⟩:=qad q7
 obtain ⟨rfl,q9⟩:=qar q8
 obtain ⟨p3,l1,rfl,q12⟩:=qau q9
 obtain ⟨p4,l2,rfl,q15⟩:=qa8 q12
 obtain ⟨rfl,rfl,q17⟩:=qam q15
 exact qap (hs p0 p1 p2 p3 p4) q17
theorem sf78:Sp78 (F78):=fun p0 p1 p2 p3 p4 y hy=>by
 refine qaj qai 1000000 (fn:=Tryd.f78) (by kernel_rfl) (by kernel_rfl) (X:=X78) (by kernel_rfl) ?_
 rw [eq78]
 exact (nt78 Ops.std p0 p1 p2 p3 p4 _ _ some (K3 k0) (rr78 p0 p1 p2 p3 p4 k0 1000000) none).trans (by show ob (F78 p0 p1 p2 p3 p4) _=_;rw [hy];rfl)
noncomputable def M78:L82→L85→L91→Int→LB→Option (Int):=F78
theorem sm78:Sp78 M78:=sf78
def X79:Aux:=⟨[(2,([0,3,4]++rg 6 16))],[]⟩
inductive S79 where
 | l0 (v1:Int)
def T79 {R:Type} (B:Ops) (p0:L82) (p1:L85) (p2:L91) (p3:LB) (again:S79→Option R) (k:(Int)→Option R):Option S79→Option R | none=>again (.l0 0) | some (.l0 v1)=>cond (B.lt v1 (↑p0.length)) (cond (B.inb v1 p0.length) (cond ((p0.getD v1.toNat ty82.dflt).1 == p3) (k v1) (again (.l0 (IntKind.wrap .i64 (v1+1))))) none) (k (-1))
def E79 (p0:L82) (p1:L85) (p2:L91) (p3:LB):S79→List AV×Objs
 | .l0 v1=>(mk 22 [(1,.c (.str p3)),(2,.c (.ptr 2 0)),(5,.c (.int .i64 v1))],[(2,.box 40 [.list 82 ty82 p0,.list 85 ty85 p1,.list 91 ty91 p2])])
def I79:S79→Nat
 | .l0 _=>0
theorem eq79 {R:Type} (B:Ops) (p0:L82) (p1:L85) (p2:L91) (p3:LB) (k:AV→Objs→Option R) (n:Nat):afun tau B gl0 X79 gnil ow Tryd.f79 [.agg [.list 82 ty82 p0,.list 85 ty85 p1,.list 91 ty91 p2],.c (.str p3)] [] k n=T79 B p0 p1 p2 p3 (fun s=>aloop tau B gl0 X79 gnil ow [] Tryd.f79 k (I79 s) (E79 p0 p1 p2 p3 s) n) (K3 k) none:=by kernel_rfl
theorem el79 {R:Type} (B:Ops) (p0:L82) (p1:L85) (p2:L91) (p3:LB) (k:AV→Objs→Option R) (n:Nat):∀ s,aloop tau B gl0 X79 gnil ow [] Tryd.f79 k (I79 s) (E79 p0 p1 p2 p3 s) (n+1)=T79 B p0 p1 p2 p3 (fun s=>aloop tau B gl0 X79 gnil ow [] Tryd.f79 k (I79 s) (E79 p0 p1 p2 p3 s) n) (K3 k) (some s):=by
 intro s
 cases s<;>kernel_rfl
theorem nt79 {R R':Type} (B:Ops) (p0:L82) (p1:L85) (p2:L91) (p3:LB) (again:S79→Option R) (again':S79→Option R') (k0:(Int)→Option R') (k:R'→Option R) (h:∀ s,again s=ob (again' s) k):∀ s,T79 B p0 p1 p2 p3 again (fun y=>ob (k0 y) k) s=ob (T79 B p0 p1 p2 p3 again' k0 s) k:=by
 rintro (_ | x)
 all_goals try cases x
 all_goals (unfold T79;repeat' first | exact rfl | exact h _ | apply qaf | (apply qao;intro))
def R79 (p0:L82) (p1:L85) (p2:L91) (p3:LB):Nat→S79→Option (Int)
 | 0,_=>none
 | n+1,s=>T79 Ops.std p0 p1 p2 p3 (R79 p0 p1 p2 p3 n) some (some s)
theorem rr79 {R:Type} (p0:L82) (p1:L85) (p2:L91) (p3:LB) (k:AV→Objs→Option R):∀ (n:Nat) (s:S79),aloop tau Ops.std gl0 X79 gnil ow [] Tryd.f79 k (I79 s) (E79 p0 p1 p2 p3 s) n=ob (R79 p0 p1 p2 p3 n s) (K3 k)
 | 0,s=>by cases s<;>rfl
 | n+1,s=>by rw [el79];exact nt79 Ops.std p0 p1 p2 p3 _ _ some (K3 k) (rr79 p0 p1 p2 p3 k n) (some s)
def F79 (p0:L82) (p1:L85) (p2:L91) (p3:LB):Option (Int):=T79 Ops.std p0 p1 p2 p3 (R79 p0 p1 p2 p3 1000000) some none
def e79 {R:Type} (c:L82→L85→L91→LB→Option (Int)):Ent R:=fun args objs k=>
 oCons args fun a0 l0=>oAgg a0 fun x0=>cCons x0 fun z0_0 w0_0=>cList 82 ty82 z0_0 fun p0=>cCons w0_0 fun z0_1 w0_1=>cList 85 ty85 z0_1 fun p1=>cCons w0_1 fun z0_2 w0_2=>cList 91 ty91 z0_2 fun p2=>cNil w0_2 <| oS l0 fun p3 l1=>oE l1 objs <| ob (c p0 p1 p2 p3) (K3 k)
abbrev Sp79 (c:L82→L85→L91→LB→Option (Int)):Prop:=∀ (p0:L82) (p1:L85) (p2:L91) (p3:LB) (y:Int),c p0 p1 p2 p3=some y→Spec Tryd.prog gl0 79 [.agg [.list 82 ty82 p0,.list 85 ty85 p1,.list 91 ty91 p2],.c (.str p3)] [] (.c (.int .i64 y)) []
theorem ek79 {R:Type} {c:L82→L85→L91→LB→Option (Int)} (hs:Sp79 c):EOk 79 (e79 (R:=R) c):=fun args objs k r h=>by
 unfold e79 at h
 obtain ⟨a0,l0,rfl,q1⟩:=qal h
 obtain ⟨x0,rfl,q2⟩:=qav q1
 obtain ⟨z0_0,w0_0,rfl,q3⟩:=qab q2
 obtain ⟨p0,rfl,q4⟩:=qad q3
 obtain ⟨z0_1,w0_1,rfl,q5⟩:=qab q4
 obtain ⟨p1,rfl,q6⟩:=qad q5
 obtain ⟨z0_2,w0_2,rfl,q7⟩:=qab q6
 obtain ⟨p2,rfl,q8⟩:=qad q7
 obtain ⟨rfl,q9⟩:=qar q8
 obtain ⟨p3,l1,rfl,q12⟩:=qa8 q9
 obtain ⟨rfl,rfl,q14⟩:=qam q12
 exact qap (hs p0 p1 p2 p3) q14
theorem sf79:Sp79 (F79):=fun p0 p1 p2 p3 y hy=>by
 refine qaj qai 1000000 (fn:=Tryd.f79) (by kernel_rfl) (by kernel_rfl) (X:=X79) (by kernel_rfl) ?_
 rw [eq79]
 exact (nt79 Ops.std p0 p1 p2 p3 _ _ some (K3 k0) (rr79 p0 p1 p2 p3 k0 1000000) none).trans (by show ob (F79 p0 p1 p2 p3) _=_;rw [hy];rfl)
noncomputable def M79:L82→L85→L91→LB→Option (Int):=F79
theorem sm79:Sp79 M79:=sf79
def X47:Aux:=⟨[(2,([0,3,4]++rg 6 49))],[(4,.lin (rg 0 31++[32,33,34,35,36,31,37,38,39,40]))]⟩
inductive S47 where
 | l0 (v1:Int)
abbrev C79:Type:=L82→L85→L91→LB→Option (Int)
abbrev C75:Type:=L82→L85→L91→LB→Option (Int)
abbrev C78:Type:=L82→L85→L91→Int→LB→Option (Int)
def T47 {R:Type} (B:Ops) (c79:C79) (c75:C75) (c78:C78) (c80:C80) (p0:L82) (p1:L85) (p2:L91) (p3:L140) (again:S47→Option R) (k:(Bool)→Option R):Option S47→Option R | none=>again (.l0 0) | some (.l0 v1)=>cond (B.lt v1 (↑p3.length)) (cond (B.inb v1 p3.length) (cond (B.eq ((p3.getD v1.toNat ty140.dflt).1) (2)) (cond (B.inb v1 p3.length) (ob (c79 p0 p1 p2 ((((p3.getD v1.toNat ty140.dflt).2).2).1)) fun y0=>cond (B.lt y0 (0)) (k false) (cond (B.inb v1 p3.length) (cond (B.eq ((p3.getD v1.toNat ty140.dflt).1) (3)) (cond (B.inb v1 p3.length) (cond (B.inb v1 p3.length) (ob (c75 p0 p1 p2 ((((p3.getD v1.toNat ty140.dflt).2).2).1)) fun y1=>ob (c78 p0 p1 p2 y1 ((((p3.getD v1.toNat ty140.dflt).2).2).2)) fun y2=>cond (B.lt y2 (0)) (k false) (again (.l0 (IntKind.wrap .i64 (v1+1))))) none) none) (again (.l0 (IntKind.wrap .i64 (v1+1))))) none)) none) (cond (B.inb v1 p3.length) (cond (B.eq ((p3.getD v1.toNat ty140.dflt).1) (3)) (cond (B.inb v1 p3.length) (cond (B.inb v1 p3.length) (ob (c75 p0 p1 p2 ((((p3.getD v1.toNat ty140.dflt).2).2).1)) fun y0=>ob (c78 p0 p1 p2 y0 ((((p3.getD v1.toNat ty140.dflt).2).2).2)) fun y1=>cond (B.lt y1 (0)) (k false) (again (.l0 (IntKind.wrap .i64 (v1+1))))) none) none) (again (.l0 (IntKind.wrap .i64 (v1+1))))) none)) none) (ob (c80 p3) fun y0=>k y0)
def E47 (p0:L82) (p1:L85) (p2:L91) (p3:L140):S47→List AV×Objs
 | .l0 v1=>(mk 55 [(1,.c (.list 140 ty140 p3)),(2,.c (.ptr 2 0)),(5,.c (.int .i64 v1))],[(2,.box 40 [.list 82 ty82 p0,.list 85 ty85 p1,.list 91 ty91 p2])])
def I47:S47→Nat
 | .l0 _=>0
theorem eq47 {R:Type} (B:Ops) (c79:C79) (c75:C75) (c78:C78) (c80:C80) (p0:L82) (p1:L85) (p2:L91) (p3:L140) (k:AV→Objs→Option R) (n:Nat):afun tau B gl0 X47 (ent 79 (e79 c79) (ent 75 (e75 c75) (ent 78 (e78 c78) (ent 80 (e80 c80) gnil)))) ow Tryd.f47 [.agg [.list 82 ty82 p0,.list 85 ty85 p1,.list 91 ty91 p2],.c (.list 140 ty140 p3)] [] k n=T47 B c79 c75 c78 c80 p0 p1 p2 p3 (fun s=>aloop tau B gl0 X47 (ent 79 (e79 c79) (ent 75 (e75 c75) (ent 78 (e78 c78) (ent 80 (e80 c80) gnil)))) ow [] Tryd.f47 k (I47 s) (E47 p0 p1 p2 p3 s) n) (K1 k) none:=by kernel_rfl
theorem el47 {R:Type} (B:Ops) (c79:C79) (c75:C75) (c78:C78) (c80:C80) (p0:L82) (p1:L85) (p2:L91) (p3:L140) (k:AV→Objs→Option R) (n:Nat):∀ s,aloop tau B gl0 X47 (ent 79 (e79 c79) (ent 75 (e75 c75) (ent 78 (e78 c78) (ent 80 (e80 c80) gnil)))) ow [] Tryd.f47 k (I47 s) (E47 p0 p1 p2 p3 s) (n+1)=T47 B c79 c75 c78 c80 p0 p1 p2 p3 (fun s=>aloop tau B gl0 X47 (ent 79 (e79 c79) (ent 75 (e75 c75) (ent 78 (e78 c78) (ent 80 (e80 c80) gnil)))) ow [] Tryd.f47 k (I47 s) (E47 p0 p1 p2 p3 s) n) (K1 k) (some s):=by
 intro s
 cases s<;>kernel_rfl
theorem nt47 {R R':Type} (B:Ops) (c79:C79) (c75:C75) (c78:C78) (c80:C80) (p0:L82) (p1:L85) (p2:L91) (p3:L140) (again:S47→Option R) (again':S47→Option R') (k0:(Bool)→Option R') (k:R'→Option R) (h:∀ s,again s=ob (again' s) k):∀ s,T47 B c79 c75 c78 c80 p0 p1 p2 p3 again (fun y=>ob (k0 y) k) s=ob (T47 B c79 c75 c78 c80 p0 p1 p2 p3 again' k0 s) k:=by
 rintro (_ | x)
 all_goals try cases x
 all_goals (unfold T47;repeat' first | exact rfl | exact h _ | apply qaf | (apply qao;intro))
def R47 (c79:C79) (c75:C75) (c78:C78) (c80:C80) (p0:L82) (p1:L85) (p2:L91) (p3:L140):Nat→S47→Option (Bool)
 | 0,_=>none
 | n+1,s=>T47 Ops.std c79 c75 c78 c80 p0 p1 p2 p3 (R47 c79 c75 c78 c80 p0 p1 p2 p3 n) some (some s)
theorem rr47 {R:Type} (c79:C79) (c75:C75) (c78:C78) (c80:C80) (p0:L82) (p1:L85) (p2:L91) (p3:L140) (k:AV→Objs→Option R):∀ (n:Nat) (s:S47),aloop tau Ops.std gl0 X47 (ent 79 (e79 c79) (ent 75 (e75 c75) (ent 78 (e78 c78) (ent 80 (e80 c80) gnil)))) ow [] Tryd.f47 k (I47 s) (E47 p0 p1 p2 p3 s) n=ob (R47 c79 c75 c78 c80 p0 p1 p2 p3 n s) (K1 k)
 | 0,s=>by cases s<;>rfl
 | n+1,s=>by rw [el47];exact nt47 Ops.std c79 c75 c78 c80 p0 p1 p2 p3 _ _ some (K1 k) (rr47 c79 c75 c78 c80 p0 p1 p2 p3 k n) (some s)
def F47 (c79:C79) (c75:C75) (c78:C78) (c80:C80) (p0:L82) (p1:L85) (p2:L91) (p3:L140):Option (Bool):=T47 Ops.std c79 c75 c78 c80 p0 p1 p2 p3 (R47 c79 c75 c78 c80 p0 p1 p2 p3 1000000) some none
def e47 {R:Type} (c:L82→L85→L91→L140→Option (Bool)):Ent R:=fun args objs k=>
 oCons args fun a0 l0=>oAgg a0 fun x0=>cCons x0 fun z0_0 w0_0=>cList 82 ty82 z0_0 fun p0=>cCons w0_0 fun z0_1 w0_1=>cList 85 ty85 z0_1 fun p1=>cCons w0_1 fun z0_2 w0_2=>cList 91 ty91 z0_2 fun p2=>cNil w0_2 <| oL l0 140 ty140 fun p3 l1=>oE l1 objs <| ob (c p0 p1 p2 p3) (K1 k)
abbrev Sp47 (c:L82→L85→L91→L140→Option (Bool)):Prop:=∀ (p0:L82) (p1:L85) (p2:L91) (p3:L140) (y:Bool),c p0 p1 p2 p3=some y→Spec Tryd.prog gl0 47 [.agg [.list 82 ty82 p0,.list 85 ty85 p1,.list 91 ty91 p2],.c (.list 140 ty140 p3)] [] (.c (.bool y)) []
theorem ek47 {R:Type} {c:L82→L85→L91→L140→Option (Bool)} (hs:Sp47 c):EOk 47 (e47 (R:=R) c):=fun args objs k r h=>by
 unfold e47 at h
 obtain ⟨a0,l0,rfl,q1⟩:=qal h
 obtain ⟨x0,rfl,q2⟩:=qav q1
 obtain ⟨z0_0,w0_0,rfl,q3⟩:=qab q2
 obtain ⟨p0,rfl,q4⟩:=qad q3
 obtain ⟨z0_1,w0_1,rfl,q5⟩:=qab q4
 obtain ⟨p1,rfl,q6⟩:=qad q5
 obtain ⟨z0_2,w0_2,rfl,q7⟩:=qab q6
 obtain ⟨p2,rfl,q8⟩:=qad q7
 obtain ⟨rfl,q9⟩:=qar q8
 obtain ⟨p3,l1,rfl,q12⟩:=qaw q9
 obtain ⟨rfl,rfl,q14⟩:=qam q12
 exact qap (hs p0 p1 p2 p3) q14
theorem sf47 {c79:C79} {c75:C75} {c78:C78} {c80:C80} (h79:Sp79 c79) (h75:Sp75 c75) (h78:Sp78 c78) (h80:Sp80 c80):Sp47 (F47 c79 c75 c78 c80):=fun p0 p1 p2 p3 y hy=>by
 refine qaj (qae (ek79 h79) (qae (ek75 h75) (qae (ek78 h78) (qae (ek80 h80) qai)))) 1000000 (fn:=Tryd.f47) (by kernel_rfl) (by kernel_rfl) (X:=X47) (by kernel_rfl) ?_
 rw [eq47]
 exact (nt47 Ops.std c79 c75 c78 c80 p0 p1 p2 p3 _ _ some (K1 k0) (rr47 c79 c75 c78 c80 p0 p1 p2 p3 k0 1000000) none).trans (by show ob (F47 c79 c75 c78 c80 p0 p1 p2 p3) _=_;rw [hy];rfl)
noncomputable def M47:L82→L85→L91→L140→Option (Bool):=F47 M79 M75 M78 M80
theorem sm47:Sp47 M47:=sf47 sm79 sm75 sm78 sm80
def X46:Aux:=⟨[(6,([0,1,4,5,6,7]++rg 9 74))],[(8,.lin (rg 0 20))]⟩
inductive S46 where
 | l0 (v0:Int)
abbrev C47:Type:=L82→L85→L91→L140→Option (Bool)
def T46 {R:Type} (B:Ops) (c75:C75) (c76:C76) (c77:C77) (c78:C78) (c47:C47) (c79:C79) (p0:L82) (p1:L85) (p2:L91) (p3:Int) (p4:LB) (p5:LB) (p6:LB) (p7:LB) (p8:L140) (p9:L138) (again:S46→Option R) (k:(Bool)→Option R):Option S46→Option R | none=>ob (c75 p0 p1 p2 p4) fun y0=>ob (c76 p7) fun y1=>ob (c77 p3) fun y2=>cond (!y2) (k false) (cond (!y1.2) (k false) (ob (c78 p0 p1 p2 y0 p5) fun y3=>cond (B.lt y3 (0)) (k false) (ob (c78 p0 p1 p2 y0 p6) fun y4=>cond (B.lt y4 (0)) (k false) (ob (c47 p0 p1 p2 p8) fun y5=>cond (!y5) (k false) (cond (B.lt (3) (↑p9.length)) (k false) (again (.l0 0))))))) | some (.l0 v0)=>cond (B.lt v0 (↑p9.length)) (cond (B.inb v0 p9.length) (ob (c79 p0 p1 p2 ((p9.getD v0.toNat ty138.dflt).1)) fun y0=>cond (B.lt y0 (0)) (k false) (cond (B.inb v0 p9.length) (ob (c47 p0 p1 p2 ((p9.getD v0.toNat ty138.dflt).2)) fun y1=>cond (!y1) (k false) (again (.l0 (IntKind.wrap .i64 (v0+1))))) none)) none) (k true)
def E46 (p0:L82) (p1:L85) (p2:L91) (p3:Int) (p4:LB) (p5:LB) (p6:LB) (p7:LB) (p8:L140) (p9:L138):S46→List AV×Objs
 | .l0 v0=>(mk 83 [(2,.c (.ptr 2 0)),(3,.c (.ptr 3 0)),(8,.c (.int .i64 v0))],[(2,.box 40 [.list 82 ty82 p0,.list 85 ty85 p1,.list 91 ty91 p2]),(3,.box 91 [.int .i64 p3,.str p4,.str p5,.str p6,.str p7,.list 140 ty140 p8,.list 138 ty138 p9])])
def I46:S46→Nat
 | .l0 _=>0
theorem eq46 {R:Type} (B:Ops) (c75:C75) (c76:C76) (c77:C77) (c78:C78) (c47:C47) (c79:C79) (p0:L82) (p1:L85) (p2:L91) (p3:Int) (p4:LB) (p5:LB) (p6:LB) (p7:LB) (p8:L140) (p9:L138) (k:AV→Objs→Option R) (n:Nat):afun tau B gl0 X46 (ent 75 (e75 c75) (ent 76 (e76 c76) (ent 77 (e77 c77) (ent 78 (e78 c78) (ent 47 (e47 c47) (ent 79 (e79 c79) gnil)))))) ow Tryd.f46 [.agg [.list 82 ty82 p0,.list 85 ty85 p1,.list 91 ty91 p2],.agg [.int .i64 p3,.str p4,.str p5,.str p6,.str p7,.list 140 ty140 p8,.list 138 ty138 p9]] [] k n=T46 B c75 c76 c77 c78 c47 c79 p0 p1 p2 p3 p4 p5 p6 p7 p8 p9 (fun s=>aloop tau B gl0 X46 (ent 75 (e75 c75) (ent 76 (e76 c76) (ent 77 (e77 c77) (ent 78 (e78 c78) (ent 47 (e47 c47) (ent 79 (e79 c79) gnil)))))) ow [] Tryd.f46 k (I46 s) (E46 p0 p1 p2 p3 p4 p5 p6 p7 p8 p9 s) n) (K1 k) none:=by kernel_rfl
theorem el46 {R:Type} (B:Ops) (c75:C75) (c76:C76) (c77:C77) (c78:C78) (c47:C47) (c79:C79) (p0:L82) (p1:L85) (p2:L91) (p3:Int) (p4:LB) (p5:LB) (p6:LB) (p7:LB) (p8:L140) (p9:L138) (k:AV→Objs→Option R) (n:Nat):∀ s,aloop tau B gl0 X46 (ent 75 (e75 c75) (ent 76 (e76 c76) (ent 77 (e77 c77) (ent 78 (e78 c78) (ent 47 (e47 c47) (ent 79 (e79 c79) gnil)))))) ow [] Tryd.f46 k (I46 s) (E46 p0 p1 p2 p3 p4 p5 p6 p7 p8 p9 s) (n+1)=T46 B c75 c76 c77 c78 c47 c79 p0 p1 p2 p3 p4 p5 p6 p7 p8 p9 (fun s=>aloop tau B gl0 X46 (ent 75 (e75 c75) (ent 76 (e76 c76) (ent 77 (e77 c77) (ent 78 (e78 c78) (ent 47 (e47 c47) (ent 79 (e79 c79) gnil)))))) ow [] Tryd.f46 k (I46 s) (E46 p0 p1 p2 p3 p4 p5 p6 p7 p8 p9 s) n) (K1 k) (some s):=by
 intro s
 cases s<;>kernel_rfl
theorem nt46 {R R':Type} (B:Ops) (c75:C75) (c76:C76) (c77:C77) (c78:C78) (c47:C47) (c79:C79) (p0:L82) (p1:L85) (p2:L91) (p3:Int) (p4:LB) (p5:LB) (p6:LB) (p7:LB) (p8:L140) (p9:L138) (again:S46→Option R) (again':S46→Option R') (k0:(Bool)→Option R') (k:R'→Option R) (h:∀ s,again s=ob (again' s) k):∀ s,T46 B c75 c76 c77 c78 c47 c79 p0 p1 p2 p3 p4 p5 p6 p7 p8 p9 again (fun y=>ob (k0 y) k) s=ob (T46 B c75 c76 c77 c78 c47 c79 p0 p1 p2 p3 p4 p5 p6 p7 p8 p9 again' k0 s) k:=by
 rintro (_ | x)
 all_goals try cases x
 all_goals (unfold T46;repeat' first | exact rfl | exact h _ | apply qaf | (apply qao;intro))
def R46 (c75:C75) (c76:C76) (c77:C77) (c78:C78) (c47:C47) (c79:C79) (p0:L82) (p1:L85) (p2:L91) (p3:Int) (p4:LB) (p5:LB) (p6:LB) (p7:LB) (p8:L140) (p9:L138):Nat→S46→Option (Bool)
 | 0,_=>none
 | n+1,s=>T46 Ops.std c75 c76 c77 c78 c47 c79 p0 p1 p2 p3 p4 p5 p6 p7 p8 p9 (R46 c75 c76 c77 c78 c47 c79 p0 p1 p2 p3 p4 p5 p6 p7 p8 p9 n) some (some s)
theorem rr46 {R:Type} (c75:C75) (c76:C76) (c77:C77) (c78:C78) (c47:C47) (c79:C79) (p0:L82) (p1:L85) (p2:L91) (p3:Int) (p4:LB) (p5:LB) (p6:LB) (p7:LB) (p8:L140) (p9:L138) (k:AV→Objs→Option R):∀ (n:Nat) (s:S46),aloop tau Ops.std gl0 X46 (ent 75 (e75 c75) (ent 76 (e76 c76) (ent 77 (e77 c77) (ent 78 (e78 c78) (ent 47 (e47 c47) (ent 79 (e79 c79) gnil)))))) ow [] Tryd.f46 k (I46 s) (E46 p0 p1 p2 p3 p4 p5 p6 p7 p8 p9 s) n=ob (R46 c75 c76 c77 c78 c47 c79 p0 p1 p2 p3 p4 p5 p6 p7 p8 p9 n s) (K1 k)
 | 0,s=>by cases s<;>rfl
 | n+1,s=>by rw [el46];exact nt46 Ops.std c75 c76 c77 c78 c47 c79 p0 p1 p2 p3 p4 p5 p6 p7 p8 p9 _ _ some (K1 k) (rr46 c75 c76 c77 c78 c47 c79 p0 p1 p2 p3 p4 p5 p6 p7 p8 p9 k n) (some s)
def F46 (c75:C75) (c76:C76) (c77:C77) (c78:C78) (c47:C47) (c79:C79) (p0:L82) (p1:L85) (p2:L91) (p3:Int) (p4:LB) (p5:LB) (p6:LB) (p7:LB) (p8:L140) (p9:L138):Option (Bool):=T46 Ops.std c75 c76 c77 c78 c47 c79 p0 p1 p2 p3 p4 p5 p6 p7 p8 p9 (R46 c75 c76 c77 c78 c47 c79 p0 p1 p2 p3 p4 p5 p6 p7 p8 p9 1000000) some none
def e46 {R:Type} (c:L82→L85→L91→Int→LB→LB→LB→LB→L140→L138→Option (Bool)):Ent R:=fun args objs k=>
 oCons args fun a0 l0=>oAgg a0 fun x0=>cCons x0 fun z0_0 w0_0=>cList 82 ty82 z0_0 fun p0=>cCons w0_0 fun z0_1 w0_1=>cList 85 ty85 z0_1 fun p1=>cCons w0_1 fun z0_2 w0_2=>cList 91 ty91 z0_2 fun p2=>cNil w0_2 <| oCons l0 fun a1 l1=>oAgg a1 fun x1=>cCons x1 fun z1_0 w1_0=>cInt .i64 z1_0 fun p3=>cCons w1_0 fun z1_1 w1_1=>cStr z1_1 fun p4=>cCons w1_1 fun z1_2 w1_2=>cStr z1_2 fun p5=>cCons w1_2 fun z1_3 w1_3=>cStr z1_3 fun p6=>cCons w1_3 fun z1_4 w1_4=>cStr z1_4 fun p7=>cCons w1_4 fun z1_5 w1_5=>cList 140 ty140 z1_5 fun p8=>cCons w1_5 fun z1_6 w1_6=>cList 138 ty138 z1_6 fun p9=>cNil w1_6 <| oE l1 objs <| ob (c p0 p1 p2 p3 p4 p5 p6 p7 p8 p9) (K1 k)
abbrev Sp46 (c:L82→L85→L91→Int→LB→LB→LB→LB→L140→L138→Option (Bool)):Prop:=∀ (p0:L82) (p1:L85) (p2:L91) (p3:Int) (p4:LB) (p5:LB) (p6:LB) (p7:LB) (p8:L140) (p9:L138) (y:Bool),c p0 p1 p2 p3 p4 p5 p6 p7 p8 p9=some y→Spec Tryd.prog gl0 46 [.agg [.list 82 ty82 p0,.list 85 ty85 p1,.list 91 ty91 p2],.agg [.int .i64 p3,.str p4,.str p5,.str p6,.str p7,.list 140 ty140 p8,.list 138 ty138 p9]] [] (.c (.bool y)) []
theorem ek46 {R:Type} {c:L82→L85→L91→Int→LB→LB→LB→LB→L140→L138→Option (Bool)} (hs:Sp46 c):EOk 46 (e46 (R:=R) c):=fun args objs k r h=>by
 unfold e46 at h
 obtain ⟨a0,l0,rfl,q1⟩:=qal h
 obtain ⟨x0,rfl,q2⟩:=qav q1
 obtain ⟨z0_0,w0_0,rfl,q3⟩:=qab q2
 obtain ⟨p0,rfl,q4⟩:=qad q3
 obtain ⟨z0_1,w0_1,rfl,q5⟩:=qab q4
 obtain ⟨p1,rfl,q6⟩:=qad q5
 obtain ⟨z0_2,w0_2,rfl,q7⟩:=qab q6
 obtain ⟨p2,rfl,q8⟩:=qad q7
 obtain ⟨rfl,q9⟩:=qar q8
 obtain ⟨a1,l1,rfl,q10⟩:=qal q9
 obtain ⟨x1,rfl,q11⟩:=qav q10
 obtain ⟨z1_0,w1_0,rfl,q12⟩:=qab q11
 obtain ⟨p3,rfl,q13⟩:=qaq q12
 obtain ⟨z1_1,w1_1,rfl,q14⟩:=qab q13
 obtain ⟨p4,rfl,q15⟩:=qa9 q14
 obtain ⟨z1_2,w1_2,rfl,q16⟩:=qab q15
 obtain ⟨p5,rfl,q17⟩:=qa9 q16
 obtain ⟨z1_3,w1_3,rfl,q18⟩:=qab q17
 obtain ⟨p6,rfl,q19⟩:=qa9 q18
 obtain ⟨z1_4,w1_4,rfl,q20⟩:=qab q19
 obtain ⟨p7,rfl,q21⟩:=qa9 q20
 obtain ⟨z1_5,w1_5,rfl,q22⟩:=qab q21
 obtain ⟨p8,rfl,q23⟩:=qad q22
 obtain ⟨z1_6,w1_6,rfl,q24⟩:=qab q23
 obtain ⟨p9,rfl,q25⟩:=qad q24
 obtain ⟨rfl,q26⟩:=qar q25
 obtain ⟨rfl,rfl,q28⟩:=qam q26
 exact qap (hs p0 p1 p2 p3 p4 p5 p6 p7 p8 p9) q28
theorem sf46 {c75:C75} {c76:C76} {c77:C77} {c78:C78} {c47:C47} {c79:C79} (h75:Sp75 c75) (h76:Sp76 c76) (h77:Sp77 c77) (h78:Sp78 c78) (h47:Sp47 c47) (h79:Sp79 c79):Sp46 (F46 c75 c76 c77 c78 c47 c79):=fun p0 p1 p2 p3 p4 p5 p6 p7 p8 p9 y hy=>by
 refine qaj (qae (ek75 h75) (qae (ek76 h76) (qae (ek77 h77) (qae (ek78 h78) (qae (ek47 h47) (qae (ek79 h79) qai)))))) 1000000 (fn:=Tryd.f46) (by kernel_rfl) (by kernel_rfl) (X:=X46) (by kernel_rfl) ?_
 rw [eq46]
 exact (nt46 Ops.std c75 c76 c77 c78 c47 c79 p0 p1 p2 p3 p4 p5 p6 p7 p8 p9 _ _ some (K1 k0) (rr46 c75 c76 c77 c78 c47 c79 p0 p1 p2 p3 p4 p5 p6 p7 p8 p9 k0 1000000) none).trans (by show ob (F46 c75 c76 c77 c78 c47 c79 p0 p1 p2 p3 p4 p5 p6 p7 p8 p9) _=_;rw [hy];rfl)
noncomputable def M46:L82→L85→L91→Int→LB→LB→LB→LB→L140→L138→Option (Bool):=F46 M75 M76 M77 M78 M47 M79
theorem sm46:Sp46 M46:=sf46 sm75 sm76 sm77 sm78 sm47 sm79
def X18:Aux:=⟨[(3,([0,2]++rg 6 166)),(10,([0,2,5,6]++rg 8 164)),(17,([0,2,5,6]++rg 10 162)),(24,([0,2,3,4,5,6,7,8,9]++rg 11 161)),(1000004,([0,2]++rg 6 166)),(1000016,([0,2,5,6]++rg 9 163)),(1000023,([0]++rg 2 170)),(1000025,([0,2,3,4,5,6,7,8,9]++rg 11 161))],[(26,.lin (rg 0 28))]⟩
inductive S18 where
 | l0 (v0:Int) (v4:L9)
 | l1 (v0:Int) (v4:L9) (v5:L9)
 | l2 (v0:Int) (v1:Int) (v5:L9) (v6:L9) (v7:LB) (v8:L9)
 | l3 (v0:Int)
 | l1004 (v0:Int) (v4:L9)
 | l1016 (v0:Int) (v4:L9) (v5:L9) (v6:LB) (v7:L9)
 | l1023
 | l1025 (v0:Int)
abbrev C44:Type:=Int→Option (Bool)
abbrev C45:Type:=L9→Option (Bool)
abbrev C46:Type:=L82→L85→L91→Int→LB→LB→LB→LB→L140→L138→Option (Bool)
def T18 {R:Type} (B:Ops) (c11:C11) (c44:C44) (c45:C45) (c46:C46) (p0:L82) (p1:L85) (p2:L91) (again:S18→Option R) (k:(Bool)→Option R):Option S18→Option R | none=>again (.l0 0 (mt (Ty.den Ty.str))) | some (.l0 v0 v4)=>cond (B.lt v0 (↑p0.length)) (cond (B.inb v0 p0.length) (cond (B.lim (List.length v4+List.length ((p0.getD v0.toNat ty82.dflt).1::mt (Ty.den Ty.str))) (16)) (ob (c11 ((p0.getD v0.toNat ty82.dflt).1)) fun y0=>cond (!y0) (k false) (cond (B.lt ((((p0.getD v0.toNat ty82.dflt).2).2).2) (((p0.getD v0.toNat ty82.dflt).2).1)) (k false) (cond (B.lt ((((p0.getD v0.toNat ty82.dflt).2).2).1) ((((p0.getD v0.toNat ty82.dflt).2).2).2)) (k false) (ob (c44 (((p0.getD v0.toNat ty82.dflt).2).1)) fun y1=>cond (!y1) (k false) (ob (c44 ((((p0.getD v0.toNat ty82.dflt).2).2).1)) fun y2=>cond (!y2) (k false) (again (.l1004 v0 (v4++(p0.getD v0.toNat ty82.dflt).1::mt (Ty.den Ty.str))))))))) none) none) (again (.l1 0 v4 ((mt (Ty.den Ty.str))))) | some (.l1 v0 v4 v5)=>cond (B.lt v0 (↑p1.length)) (cond (B.inb v0 p1.length) (cond (B.lim (List.length v5+List.length ((p1.getD v0.toNat ty85.dflt).1::mt (Ty.den Ty.str))) (16)) (ob (c11 ((p1.getD v0.toNat ty85.dflt).1)) fun y0=>cond (!y0) (k false) (cond (B.lt (Nat.cast (List.length ((p1.getD v0.toNat ty85.dflt).2))) (1)) (k false) (cond (B.lt (6) (Nat.cast (List.length ((p1.getD v0.toNat ty85.dflt).2)))) (k false) (ob (c45 ((p1.getD v0.toNat ty85.dflt).2)) fun y1=>cond (y1) (k false) (again (.l1016 v0 v4 (v5++(p1.getD v0.toNat ty85.dflt).1::mt (Ty.den Ty.str)) ((p1.getD v0.toNat ty85.dflt).1) ((p1.getD v0.toNat ty85.dflt).2))))))) none) none) (cond (B.lt (4) (↑v4.length)) (k false) (cond (B.lt (↑v5.length) (1)) (k false) (cond (B.lt (3) (↑v5.length)) (k false) (cond (B.lt (16) (↑p2.length)) (k false) (ob (c45 v4) fun y0=>cond (y0) (k false) (ob (c45 v5) fun y1=>cond (y1) (k false) (again (.l1023)))))))) | some (.l2 v0 v1 v5 v6 v7 v8)=>cond (B.lt v1 (↑v8.length)) (cond (B.inb v1 v8.length) (ob (c11 (v8.getD v1.toNat ty9.dflt)) fun y0=>cond (!y0) (k false) (again (.l2 v0 (IntKind.wrap .i64 (v1+1)) v5 v6 v7 v8))) none) (again (.l1 (IntKind.wrap .i64 (v0+1)) v5 v6)) | some (.l3 v0)=>cond (B.lt v0 (↑p2.length)) (cond (B.inb v0 p2.length) (ob (c46 p0 p1 p2 ((p2.getD v0.toNat ty91.dflt).1) (((p2.getD v0.toNat ty91.dflt).2).1) ((((p2.getD v0.toNat ty91.dflt).2).2).1) (((((p2.getD v0.toNat ty91.dflt).2).2).2).1) ((((((p2.getD v0.toNat ty91.dflt).2).2).2).2).1) (Prod.fst ((((((p2.getD v0.toNat ty91.dflt).2).2).2).2).2)) (Prod.snd ((((((p2.getD v0.toNat ty91.dflt).2).2).2).2).2))) fun y0=>cond (!y0) (k false) (cond (B.lt (0) v0) (cond (B.inb v0 p2.length) (cond (B.inb (IntKind.wrap .i64 (v0-1)) p2.length) (cond (B.le ((p2.getD v0.toNat ty91.dflt).1) ((p2.getD (Int.toNat (IntKind.wrap .i64 (v0-1))) ty91.dflt).1)) (k false) (again (.l1025 v0))) none) none) (again (.l1025 v0)))) none) (k true) | some (.l1004 v0 v4)=>again (.l0 (IntKind.wrap .i64 (v0+1)) v4) | some (.l1016 v0 v4 v5 v6 v7)=>again (.l2 v0 0 v4 v5 v6 v7) | some (.l1023)=>again (.l3 0) | some (.l1025 v0)=>again (.l3 (IntKind.wrap .i64 (v0+1)))
def E18 (p0:L82) (p1:L85) (p2:L91):S18→List AV×Objs
 | .l0 v0 v4=>(mk 172 [(1,.c (.ptr 1 0)),(3,.c (.own 3)),(4,.c (.own 4)),(5,.c (.int .i64 v0))],[(1,.box 40 [.list 82 ty82 p0,.list 85 ty85 p1,.list 91 ty91 p2]),(3,.row 9 ty9 v4),(4,.row 9 ty9 (mt (Ty.den Ty.str)))])
 | .l1 v0 v4 v5=>(mk 172 [(1,.c (.ptr 1 0)),(3,.c (.own 3)),(4,.c (.own 4)),(7,.c (.int .i64 v0))],[(1,.box 40 [.list 82 ty82 p0,.list 85 ty85 p1,.list 91 ty91 p2]),(3,.row 9 ty9 v4),(4,.row 9 ty9 v5)])
 | .l2 v0 v1 v5 v6 v7 v8=>(mk 172 [(1,.c (.ptr 1 0)),(3,.c (.own 3)),(4,.c (.own 4)),(7,.c (.int .i64 v0)),(8,.c (.ptr 8 0)),(9,.c (.int .i64 v1))],[(1,.box 40 [.list 82 ty82 p0,.list 85 ty85 p1,.list 91 ty91 p2]),(3,.row 9 ty9 v5),(4,.row 9 ty9 v6),(8,.box 85 [.str v7,.list 9 ty9 v8])])
 | .l3 v0=>(mk 172 [(1,.c (.ptr 1 0)),(10,.c (.int .i64 v0))],[(1,.box 40 [.list 82 ty82 p0,.list 85 ty85 p1,.list 91 ty91 p2])])
 | .l1004 v0 v4=>(mk 172 [(1,.c (.ptr 1 0)),(3,.c (.own 3)),(4,.c (.own 4)),(5,.c (.int .i64 v0))],[(1,.box 40 [.list 82 ty82 p0,.list 85 ty85 p1,.list 91 ty91 p2]),(3,.row 9 ty9 v4),(4,.row 9 ty9 (mt (Ty.den Ty.str)))])
 | .l1016 v0 v4 v5 v6 v7=>(mk 172 [(1,.c (.ptr 1 0)),(3,.c (.own 3)),(4,.c (.own 4)),(7,.c (.int .i64 v0)),(8,.c (.ptr 8 0))],[(1,.box 40 [.list 82 ty82 p0,.list 85 ty85 p1,.list 91 ty91 p2]),(3,.row 9 ty9 v4),(4,.row 9 ty9 v5),(8,.box 85 [.str v6,.list 9 ty9 v7])])
 | .l1023=>(mk 172 [(1,.c (.ptr 1 0))],[(1,.box 40 [.list 82 ty82 p0,.list 85 ty85 p1,.list 91 ty91 p2])])
 | .l1025 v0=>(mk 172 [(1,.c (.ptr 1 0)),(10,.c (.int .i64 v0))],[(1,.box 40 [.list 82 ty82 p0,.list 85 ty85 p1,.list 91 ty91 p2])])
def I18:S18→Nat
 | .l0 _ _=>0
 | .l1 _ _ _=>1
 | .l2 _ _ _ _ _ _=>2
 | .l3 _=>3
 | .l1004 _ _=>1004
 | .l1016 _ _ _ _ _=>1016
 | .l1023=>1023
 | .l1025 _=>1025
theorem eq18 {R:Type} (B:Ops) (c11:C11) (c44:C44) (c45:C45) (c46:C46) (p0:L82) (p1:L85) (p2:L91) (k:AV→Objs→Option R) (n:Nat):afun tau B gl0 X18 (ent 11 (e11 c11) (ent 44 (e44 c44) (ent 45 (e45 c45) (ent 46 (e46 c46) gnil)))) ow Tryd.f18 [.agg [.list 82 ty82 p0,.list 85 ty85 p1,.list 91 ty91 p2]] [] k n=T18 B c11 c44 c45 c46 p0 p1 p2 (fun s=>aloop tau B gl0 X18 (ent 11 (e11 c11) (ent 44 (e44 c44) (ent 45 (e45 c45) (ent 46 (e46 c46) gnil)))) ow [] Tryd.f18 k (I18 s) (E18 p0 p1 p2 s) n) (K1 k) none:=by kernel_rfl
theorem el18 {R:Type} (B:Ops) (c11:C11) (c44:C44) (c45:C45) (c46:C46) (p0:L82) (p1:L85) (p2:L91) (k:AV→Objs→Option R) (n:Nat):∀ s,aloop tau B gl0 X18 (ent 11 (e11 c11) (ent 44 (e44 c44) (ent 45 (e45 c45) (ent 46 (e46 c46) gnil)))) ow [] Tryd.f18 k (I18 s) (E18 p0 p1 p2 s) (n+1)=T18 B c11 c44 c45 c46 p0 p1 p2 (fun s=>aloop tau B gl0 X18 (ent 11 (e11 c11) (ent 44 (e44 c44) (ent 45 (e45 c45) (ent 46 (e46 c46) gnil)))) ow [] Tryd.f18 k (I18 s) (E18 p0 p1 p2 s) n) (K1 k) (some s):=by
 intro s
 cases s<;>kernel_rfl
theorem nt18 {R R':Type} (B:Ops) (c11:C11) (c44:C44) (c45:C45) (c46:C46) (p0:L82) (p1:L85) (p2:L91) (again:S18→Option R) (again':S18→Option R') (k0:(Bool)→Option R') (k:R'→Option R) (h:∀ s,again s=ob (again' s) k):∀ s,T18 B c11 c44 c45 c46 p0 p1 p2 again (fun y=>ob (k0 y) k) s=ob (T18 B c11 c44 c45 c46 p0 p1 p2 again' k0 s) k:=by
 rintro (_ | x)
 all_goals try cases x
 all_goals (unfold T18;repeat' first | exact rfl | exact h _ | apply qaf | (apply qao;intro))
def R18 (c11:C11) (c44:C44) (c45:C45) (c46:C46) (p0:L82) (p1:L85) (p2:L91):Nat→S18→Option (Bool)
 | 0,_=>none
 | n+1,s=>T18 Ops.std c11 c44 c45 c46 p0 p1 p2 (R18 c11 c44 c45 c46 p0 p1 p2 n) some (some s)
theorem rr18 {R:Type} (c11:C11) (c44:C44) (c45:C45) (c46:C46) (p0:L82) (p1:L85) (p2:L91) (k:AV→Objs→Option R):∀ (n:Nat) (s:S18),aloop tau Ops.std gl0 X18 (ent 11 (e11 c11) (ent 44 (e44 c44) (ent 45 (e45 c45) (ent 46 (e46 c46) gnil)))) ow [] Tryd.f18 k (I18 s) (E18 p0 p1 p2 s) n=ob (R18 c11 c44 c45 c46 p0 p1 p2 n s) (K1 k)
 | 0,s=>by cases s<;>rfl
 | n+1,s=>by rw [el18];exact nt18 Ops.std c11 c44 c45 c46 p0 p1 p2 _ _ some (K1 k) (rr18 c11 c44 c45 c46 p0 p1 p2 k n) (some s)
def F18 (c11:C11) (c44:C44) (c45:C45) (c46:C46) (p0:L82) (p1:L85) (p2:L91):Option (Bool):=T18 Ops.std c11 c44 c45 c46 p0 p1 p2 (R18 c11 c44 c45 c46 p0 p1 p2 1000000) some none
def e18 {R:Type} (c:L82→L85→L91→Option (Bool)):Ent R:=fun args objs k=>
 oCons args fun a0 l0=>oAgg a0 fun x0=>cCons x0 fun z0_0 w0_0=>cList 82 ty82 z0_0 fun p0=>cCons w0_0 fun z0_1 w0_1=>cList 85 ty85 z0_1 fun p1=>cCons w0_1 fun z0_2 w0_2=>cList 91 ty91 z0_2 fun p2=>cNil w0_2 <| oE l0 objs <| ob (c p0 p1 p2) (K1 k)
abbrev Sp18 (c:L82→L85→L91→Option (Bool)):Prop:=∀ (p0:L82) (p1:L85) (p2:L91) (y:Bool),c p0 p1 p2=some y→Spec Tryd.prog gl0 18 [.agg [.list 82 ty82 p0,.list 85 ty85 p1,.list 91 ty91 p2]] [] (.c (.bool y)) []
theorem ek18 {R:Type} {c:L82→L85→L91→Option (Bool)} (hs:Sp18 c):EOk 18 (e18 (R:=R) c):=fun args objs k r h=>by
 unfold e18 at h
 obtain ⟨a0,l0,rfl,q1⟩:=qal h
 obtain ⟨x0,rfl,q2⟩:=qav q1
 obtain ⟨z0_0,w0_0,rfl,q3⟩:=qab q2
 obtain ⟨p0,rfl,q4⟩:=qad q3
 obtain ⟨z0_1,w0_1,rfl,q5⟩:=qab q4
 obtain ⟨p1,rfl,q6⟩:=qad q5
 obtain ⟨z0_2,w0_2,rfl,q7⟩:=qab q6
 obtain ⟨p2,rfl,q8⟩:=qad q7
 obtain ⟨rfl,q9⟩:=qar q8
 obtain ⟨rfl,rfl,q11⟩:=qam q9
 exact qap (hs p0 p1 p2) q11
theorem sf18 {c11:C11} {c44:C44} {c45:C45} {c46:C46} (h11:Sp11 c11) (h44:Sp44 c44) (h45:Sp45 c45) (h46:Sp46 c46):Sp18 (F18 c11 c44 c45 c46):=fun p0 p1 p2 y hy=>by
 refine qaj (qae (ek11 h11) (qae (ek44 h44) (qae (ek45 h45) (qae (ek46 h46) qai)))) 1000000 (fn:=Tryd.f18) (by kernel_rfl) (by kernel_rfl) (X:=X18) (by kernel_rfl) ?_
 rw [eq18]
 exact (nt18 Ops.std c11 c44 c45 c46 p0 p1 p2 _ _ some (K1 k0) (rr18 c11 c44 c45 c46 p0 p1 p2 k0 1000000) none).trans (by show ob (F18 c11 c44 c45 c46 p0 p1 p2) _=_;rw [hy];rfl)
noncomputable def M18:L82→L85→L91→Option (Bool):=F18 M11 M44 M45 M46
theorem sm18:Sp18 M18:=sf18 sm11 sm44 sm45 sm46
def X39:Aux:=⟨[(7,([0,1,3,4]++rg 9 101)),(2000000,[])],[(24,.lin (rg 0 12))]⟩
inductive S39 where
 | l0 (v0:Int) (v1:Int) (v2:L9) (v6:L82) (v7:L85) (v8:L91)
abbrev C68:Type:=L9→Option (LB×Int×Int×Int×Bool)
abbrev C69:Type:=LB→Option (Int×LB×LB×LB×LB×L140×L138×Bool)
abbrev C18:Type:=L82→L85→L91→Option (Bool)
def T39 {R:Type} (B:Ops) (c66:C66) (c67:C67) (c68:C68) (c70:C70) (c69:C69) (c18:C18) (p0:LB) (again:S39→Option R) (k:(L82×L85×L91×Int×Int)→Option R):Option S39→Option R | none=>cond (B.lt (60000) (↑p0.length)) (k ((mt (Ty.den ty82),mt (Ty.den ty85),mt (Ty.den ty91),14,0))) (ob (c66 p0 (10)) fun y0=>again (.l0 0 0 y0 (mt (Ty.den ty82)) (mt (Ty.den ty85)) (mt (Ty.den ty91)))) | some (.l0 v0 v1 v2 v6 v7 v8)=>cond (B.lt v1 (↑v2.length)) (cond (B.inb v1 v2.length) (cond (v2.getD v1.toNat ty9.dflt == mt UInt8) (again (.l0 v0 (IntKind.wrap .i64 (v1+1)) v2 v6 v7 v8)) (cond (B.inb v1 v2.length) (ob (c67 (v2.getD v1.toNat ty9.dflt)) fun y0=>cond (B.lt (0) (↑y0.length)) (cond (B.inb (0) y0.length) (cond (y0.getD (Int.toNat (0)) ty9.dflt == ([118,97,114]:LB)) (cond (B.inb (1) (List.length y0+1)) (ob (c68 (List.drop (Int.toNat (1)) (List.take y0.length y0))) fun y1=>cond (B.lim (List.length v6+List.length ((y1.1,y1.2.1,(y1.2.2).1,(y1.2.2.2).1)::mt (Ty.den ty82))) (40)) (cond (!(y1.2.2.2).2) (k ((mt (Ty.den ty82),mt (Ty.den ty85),mt (Ty.den ty91),2,IntKind.wrap .i64 (v1+1)))) (cond (B.lt (1) v0) (k ((mt (Ty.den ty82),mt (Ty.den ty85),mt (Ty.den ty91),2,IntKind.wrap .i64 (v1+1)))) (again (.l0 1 (IntKind.wrap .i64 (v1+1)) v2 (v6++(y1.1,y1.2.1,(y1.2.2).1,(y1.2.2.2).1)::mt (Ty.den ty82)) v7 v8)))) none) none) (cond (y0.getD (Int.toNat (0)) ty9.dflt == ([112,114,111,99]:LB)) (cond (B.lt (1) (↑y0.length)) (cond (B.inb (1) y0.length) (cond (B.inb (2) (List.length y0+1)) (cond (B.lim (List.length v7+List.length ((y0.getD (Int.toNat (1)) ty9.dflt,List.drop (Int.toNat (2)) (List.take y0.length y0))::mt (Ty.den ty85))) (40)) (cond (!B.lt (1) (↑y0.length)) (k ((mt (Ty.den ty82),mt (Ty.den ty85),mt (Ty.den ty91),2,IntKind.wrap .i64 (v1+1)))) (cond (B.lt (2) v0) (k ((mt (Ty.den ty82),mt (Ty.den ty85),mt (Ty.den ty91),2,IntKind.wrap .i64 (v1+1)))) (again (.l0 2 (IntKind.wrap .i64 (v1+1)) v2 v6 (v7++(y0.getD (Int.toNat (1)) ty9.dflt,List.drop (Int.toNat (2)) (List.take y0.length y0))::mt (Ty.den ty85)) v8)))) none) none) none) (cond (!B.lt (1) (↑y0.length)) (k ((mt (Ty.den ty82),mt (Ty.den ty85),mt (Ty.den ty91),2,IntKind.wrap .i64 (v1+1)))) (cond (B.lt (2) v0) (k ((mt (Ty.den ty82),mt (Ty.den ty85),mt (Ty.den ty91),2,IntKind.wrap .i64 (v1+1)))) (again (.l0 2 (IntKind.wrap .i64 (v1+1)) v2 v6 v7 v8))))) (cond (y0.getD (Int.toNat (0)) ty9.dflt == ([116,114,97,110,115]:LB)) (cond (B.inb v1 v2.length) (ob (c70 (v2.getD v1.toNat ty9.dflt) (1)) fun y1=>ob (c69 y1) fun y2=>cond (B.lim (List.length v8+List.length ((y2.1,y2.2.1,(y2.2.2).1,(y2.2.2.2).1,((y2.2.2.2).2).1,((y2.2.2.2.2).2).1,(((y2.2.2.2.2).2).2).1)::mt (Ty.den ty91))) (120)) (cond (!(((y2.2.2.2.2).2).2).2) (k ((mt (Ty.den ty82),mt (Ty.den ty85),mt (Ty.den ty91),2,IntKind.wrap .i64 (v1+1)))) (cond (B.lt (3) v0) (k ((mt (Ty.den ty82),mt (Ty.den ty85),mt (Ty.den ty91),2,IntKind.wrap .i64 (v1+1)))) (again (.l0 3 (IntKind.wrap .i64 (v1+1)) v2 v6 v7 (v8++(y2.1,y2.2.1,(y2.2.2).1,(y2.2.2.2).1,((y2.2.2.2).2).1,((y2.2.2.2.2).2).1,(((y2.2.2.2.2).2).2).1)::mt (Ty.den ty91)))))) none) none) (k ((mt (Ty.den ty82),mt (Ty.den ty85),mt (Ty.den ty91),2,IntKind.wrap .i64 (v1+1))))))) none) (k ((mt (Ty.den ty82),mt (Ty.den ty85),mt (Ty.den ty91),2,IntKind.wrap .i64 (v1+1))))) none)) none) (ob (c18 v6 v7 v8) fun y0=>cond (!y0) (k ((mt (Ty.den ty82),mt (Ty.den ty85),mt (Ty.den ty91),2,0))) (k ((v6,v7,v8,0,0))))
def E39 (p0:LB):S39→List AV×Objs
 | .l0 v0 v1 v2 v6 v7 v8=>(mk 110 [(2,.c (.ptr 2 0)),(5,.c (.ptr 5 0)),(6,.c (.int .i64 v0)),(7,.c (.own 7)),(8,.c (.int .i64 v1))],[(2,.box 40 [.own 3000,.own 3001,.own 3002]),(5,.box 40 [.own 6000,.own 6001,.own 6002]),(7,.row 9 ty9 v2),(3000,.row 82 ty82 (mt (Ty.den ty82))),(3001,.row 85 ty85 (mt (Ty.den ty85))),(3002,.row 91 ty91 (mt (Ty.den ty91))),(6000,.row 82 ty82 v6),(6001,.row 85 ty85 v7),(6002,.row 91 ty91 v8)])
def I39:S39→Nat
 | .l0 _ _ _ _ _ _=>0
abbrev K23 {R:Type} (k:AV→Objs→Option R) (y:(L82×L85×L91×Int×Int)):Option R:=k (.tup [(true,[.list 82 ty82 y.1,.list 85 ty85 y.2.1,.list 91 ty91 y.2.2.1]),(false,[.int .i64 y.2.2.2.1]),(false,[.int .i64 y.2.2.2.2])]) []
theorem eq39 {R:Type} (B:Ops) (c66:C66) (c67:C67) (c68:C68) (c70:C70) (c69:C69) (c18:C18) (p0:LB) (k:AV→Objs→Option R) (n:Nat):afun tau B gl0 X39 (ent 66 (e66 c66) (ent 67 (e67 c67) (ent 68 (e68 c68) (ent 70 (e70 c70) (ent 69 (e69 c69) (ent 18 (e18 c18) gnil)))))) ow Tryd.f39 [.c (.str p0)] [] k n=T39 B c66 c67 c68 c70 c69 c18 p0 (fun s=>aloop tau B gl0 X39 (ent 66 (e66 c66) (ent 67 (e67 c67) (ent 68 (e68 c68) (ent 70 (e70 c70) (ent 69 (e69 c69) (ent 18 (e18 c18) gnil)))))) ow [] Tryd.f39 k (I39 s) (E39 p0 s) n) (K23 k) none:=by kernel_rfl
theorem el39 {R:Type} (B:Ops) (c66:C66) (c67:C67) (c68:C68) (c70:C70) (c69:C69) (c18:C18) (p0:LB) (k:AV→Objs→Option R) (n:Nat):∀ s,aloop tau B gl0 X39 (ent 66 (e66 c66) (ent 67 (e67 c67) (ent 68 (e68 c68) (ent 70 (e70 c70) (ent 69 (e69 c69) (ent 18 (e18 c18) gnil)))))) ow [] Tryd.f39 k (I39 s) (E39 p0 s) (n+1)=T39 B c66 c67 c68 c70 c69 c18 p0 (fun s=>aloop tau B gl0 X39 (ent 66 (e66 c66) (ent 67 (e67 c67) (ent 68 (e68 c68) (ent 70 (e70 c70) (ent 69 (e69 c69) (ent 18 (e18 c18) gnil)))))) ow [] Tryd.f39 k (I39 s) (E39 p0 s) n) (K23 k) (some s):=by
 intro s
 cases s<;>kernel_rfl
theorem nt39 {R R':Type} (B:Ops) (c66:C66) (c67:C67) (c68:C68) (c70:C70) (c69:C69) (c18:C18) (p0:LB) (again:S39→Option R) (again':S39→Option R') (k0:(L82×L85×L91×Int×Int)→Option R') (k:R'→Option R) (h:∀ s,again s=ob (again' s) k):∀ s,T39 B c66 c67 c68 c70 c69 c18 p0 again (fun y=>ob (k0 y) k) s=ob (T39 B c66 c67 c68 c70 c69 c18 p0 again' k0 s) k:=by
 rintro (_ | x)
 all_goals try cases x
 all_goals (unfold T39;repeat' first | exact rfl | exact h _ | apply qaf | (apply qao;intro))
def R39 (c66:C66) (c67:C67) (c68:C68) (c70:C70) (c69:C69) (c18:C18) (p0:LB):Nat→S39→Option (L82×L85×L91×Int×Int)
 | 0,_=>none
 | n+1,s=>T39 Ops.std c66 c67 c68 c70 c69 c18 p0 (R39 c66 c67 c68 c70 c69 c18 p0 n) some (some s)
theorem rr39 {R:Type} (c66:C66) (c67:C67) (c68:C68) (c70:C70) (c69:C69) (c18:C18) (p0:LB) (k:AV→Objs→Option R):∀ (n:Nat) (s:S39),aloop tau Ops.std gl0 X39 (ent 66 (e66 c66) (ent 67 (e67 c67) (ent 68 (e68 c68) (ent 70 (e70 c70) (ent 69 (e69 c69) (ent 18 (e18 c18) gnil)))))) ow [] Tryd.f39 k (I39 s) (E39 p0 s) n=ob (R39 c66 c67 c68 c70 c69 c18 p0 n s) (K23 k)
 | 0,s=>by cases s<;>rfl
 | n+1,s=>by rw [el39];exact nt39 Ops.std c66 c67 c68 c70 c69 c18 p0 _ _ some (K23 k) (rr39 c66 c67 c68 c70 c69 c18 p0 k n) (some s)
def F39 (c66:C66) (c67:C67) (c68:C68) (c70:C70) (c69:C69) (c18:C18) (p0:LB):Option (L82×L85×L91×Int×Int):=T39 Ops.std c66 c67 c68 c70 c69 c18 p0 (R39 c66 c67 c68 c70 c69 c18 p0 1000000) some none
def e39 {R:Type} (c:LB→Option (L82×L85×L91×Int×Int)):Ent R:=fun args objs k=>
 oS args fun p0 l0=>oE l0 objs <| ob (c p0) (K23 k)
abbrev Sp39 (c:LB→Option (L82×L85×L91×Int×Int)):Prop:=∀ (p0:LB) (y:L82×L85×L91×Int×Int),c p0=some y→Spec Tryd.prog gl0 39 [.c (.str p0)] [] (.tup [(true,[.list 82 ty82 y.1,.list 85 ty85 y.2.1,.list 91 ty91 y.2.2.1]),(false,[.int .i64 y.2.2.2.1]),(false,[.int .i64 y.2.2.2.2])]) []
theorem ek39 {R:Type} {c:LB→Option (L82×L85×L91×Int×Int)} (hs:Sp39 c):EOk 39 (e39 (R:=R) c):=fun args objs k r h=>by
 unfold e39 at h
 obtain ⟨p0,l0,rfl,q3⟩:=qa8 h
 obtain ⟨rfl,rfl,q5⟩:=qam q3
 exact qap (hs p0) q5
theorem sf39 {c66:C66} {c67:C67} {c68:C68} {c70:C70} {c69:C69} {c18:C18} (h66:Sp66 c66) (h67:Sp67 c67) (h68:Sp68 c68) (h70:Sp70 c70) (h69:Sp69 c69) (h18:Sp18 c18):Sp39 (F39 c66 c67 c68 c70 c69 c18):=fun p0 y hy=>by
 refine qaj (qae (ek66 h66) (qae (ek67 h67) (qae (ek68 h68) (qae (ek70 h70) (qae (ek69 h69) (qae (ek18 h18) qai)))))) 1000000 (fn:=Tryd.f39) (by kernel_rfl) (by kernel_rfl) (X:=X39) (by kernel_rfl) ?_
 rw [eq39]
 exact (nt39 Ops.std c66 c67 c68 c70 c69 c18 p0 _ _ some (K23 k0) (rr39 c66 c67 c68 c70 c69 c18 p0 k0 1000000) none).trans (by show ob (F39 c66 c67 c68 c70 c69 c18 p0) _=_;rw [hy];rfl)
noncomputable def M39:LB→Option (L82×L85×L91×Int×Int):=F39 M66 M67 M68 M70 M69 M18
theorem sm39:Sp39 M39:=sf39 sm66 sm67 sm68 sm70 sm69 sm18
end Go.Proofs.YtfdlgmbbflmbgaaDoor.Av
