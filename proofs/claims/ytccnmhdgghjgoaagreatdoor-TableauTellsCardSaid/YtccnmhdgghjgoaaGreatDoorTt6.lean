/- Twins of functions,printed by gen.py. Conditions: none. -/
import Derived.Test.YtccnmhdgghjgoaaGreatDoorTt5
import Derived.KernelRfl
set_option linter.unusedSimpArgs false
set_option linter.unusedVariables false
set_option maxRecDepth 100000
set_option maxHeartbeats 8000000
namespace Go.Proofs.YtccnmhdgghjgoaaGreatDoor.Av
open Go
def X23:Aux:=⟨[(3,([1,2]++rg 5 33))],[]⟩
inductive S23 where
 | l0 (v1:Int) (v2:L3)
def T23 {R:Type} (B:Ops) (p0:L66) (again:S23→Option R) (k:(L3)→Option R):Option S23→Option R | none=>again (.l0 0 (mt (Ty.den (Ty.int .i64)))) | some (.l0 v1 v2)=>cond (B.lt v1 (↑p0.length)) (cond (B.inb v1 p0.length) (cond (B.eq (p0.getD v1.toNat ty66.dflt).1 8) (cond (B.lim (List.length v2+List.length (v1::mt (Ty.den (Ty.int .i64)))) 8) (again (.l0 (IntKind.wrap .i64 (v1+1)) (v2++v1::mt (Ty.den (Ty.int .i64))))) none) (cond (B.inb v1 p0.length) (cond (B.eq (p0.getD v1.toNat ty66.dflt).1 9) (cond (B.lim (List.length v2+List.length (v1::mt (Ty.den (Ty.int .i64)))) 8) (again (.l0 (IntKind.wrap .i64 (v1+1)) (v2++v1::mt (Ty.den (Ty.int .i64))))) none) (cond (B.inb v1 p0.length) (cond (B.eq (p0.getD v1.toNat ty66.dflt).1 10) (cond (B.lim (List.length v2+List.length (v1::mt (Ty.den (Ty.int .i64)))) 8) (again (.l0 (IntKind.wrap .i64 (v1+1)) (v2++v1::mt (Ty.den (Ty.int .i64))))) none) (again (.l0 (IntKind.wrap .i64 (v1+1)) v2))) none)) none)) none) (k v2)
def E23 (p0:L66):S23→List AV×Objs
 | .l0 v1 v2=>(mk 38 [(0,.c (.list 66 ty66 p0)),(3,.c (.own 3)),(4,.c (.int .i64 v1))],[(3,.row 3 ty3 v2)])
def I23:S23→Nat
 | .l0 _ _=>0
noncomputable abbrev A23 {R:Type} (B:Ops) (p0:L66) (k:AV→Objs→Option R) (s:S23) (n:Nat):Option R:=aloop tau B gl0 X23 gnil ow [] Tryz.f23 k (I23 s) (E23 p0 s) n
theorem eq23 {R:Type} (B:Ops) (p0:L66) (k:AV→Objs→Option R) (n:Nat):afun tau B gl0 X23 gnil ow Tryz.f23 [.c (.list 66 ty66 p0)] [] k n=T23 B p0 (fun s=>A23 B p0 k s n) (K4 k) none:=by kernel_rfl
theorem el23 {R:Type} (B:Ops) (p0:L66) (k:AV→Objs→Option R) (n:Nat):∀ s,A23 B p0 k s (n+1)=T23 B p0 (fun s=>A23 B p0 k s n) (K4 k) (some s):=by
 intro s
 cases s<;>kernel_rfl
theorem nt23 {R R':Type} (B:Ops) (p0:L66) (again:S23→Option R) (again':S23→Option R') (k0:(L3)→Option R') (k:R'→Option R) (h:∀ s,again s=ob (again' s) k):∀ s,T23 B p0 again (fun y=>ob (k0 y) k) s=ob (T23 B p0 again' k0 s) k:=by
 rintro (_ | x)
 all_goals try cases x
 all_goals (unfold T23;repeat' first | exact rfl | exact h _ | apply qae | (apply qaj;intro))
def R23 (p0:L66):Nat→S23→Option (L3)
 | 0,_=>none
 | n+1,s=>T23 Ops.std p0 (R23 p0 n) some (some s)
theorem rr23 {R:Type} (p0:L66) (k:AV→Objs→Option R):∀ (n:Nat) (s:S23),A23 Ops.std p0 k s n=ob (R23 p0 n s) (K4 k)
 | 0,s=>by cases s<;>rfl
 | n+1,s=>by rw [el23];exact nt23 Ops.std p0 _ _ some (K4 k) (rr23 p0 k n) (some s)
def F23 (p0:L66):Option (L3):=T23 Ops.std p0 (R23 p0 1000000) some none
abbrev C23:Type:=L66→Option (L3)
def e23 {R:Type} (c:C23):Ent R:=eG [.aC (.cL 66 ty66)] [] fun v k=>ob (c v.1) (K4 k)
abbrev Sp23 (c:C23):Prop:=∀ (p0:L66) (y:L3),c p0=some y→Spec Tryz.prog gl0 23 [.c (.list 66 ty66 p0)] [] (.c (.own 500)) [(500,.row 3 ty3 y)]
theorem ek23 {R:Type} {c:C23} (hs:Sp23 c):EOk 23 (e23 (R:=R) c):=qam fun v=>hs v.1
theorem sf23:Sp23 (F23):=fun p0 y hy=>by
 refine qai qah 1000000 (fn:=Tryz.f23) (by kernel_rfl) (by kernel_rfl) (X:=X23) (by kernel_rfl) ?_
 rw [eq23]
 exact (nt23 Ops.std p0 _ _ some (K4 k0) (rr23 p0 k0 1000000) none).trans (by show ob (F23 p0) _=_;rw [hy];rfl)
noncomputable def M23:C23:=F23
theorem sm23:Sp23 M23:=sf23
def X25:Aux:=⟨[],[]⟩
def T25 {R:Type} (B:Ops) (c45:C45) (p0:LB) (k:(L66)→Option R):Option R:=ob (c45 p0) fun y0=>k y0.2.2
theorem eq25 {R:Type} (B:Ops) (c45:C45) (p0:LB) (k:AV→Objs→Option R) (n:Nat):afun tau B gl0 X25 (ent 45 (e45 c45) gnil) ow Tryz.f25 [.c (.str p0)] [] k n=T25 B c45 p0 (K28 k):=by kernel_rfl
theorem nt25 {R R':Type} (B:Ops) (c45:C45) (p0:LB) (k0:(L66)→Option R') (k:R'→Option R):T25 B c45 p0 (fun y=>ob (k0 y) k)=ob (T25 B c45 p0 k0) k:=by
 unfold T25
 repeat' first | exact rfl | apply qae | (apply qaj;intro)
def F25 (c45:C45) (p0:LB):Option (L66):=T25 Ops.std c45 p0 some
abbrev C25:Type:=LB→Option (L66)
def e25 {R:Type} (c:C25):Ent R:=eG [.aC .cS] [] fun v k=>ob (c v.1) (K28 k)
abbrev Sp25 (c:C25):Prop:=∀ (p0:LB) (y:L66),c p0=some y→Spec Tryz.prog gl0 25 [.c (.str p0)] [] (.c (.own 500)) [(500,.row 66 ty66 y)]
theorem ek25 {R:Type} {c:C25} (hs:Sp25 c):EOk 25 (e25 (R:=R) c):=qam fun v=>hs v.1
theorem sf25 {c45:C45} (h45:Sp45 c45):Sp25 (F25 c45):=fun p0 y hy=>by
 refine qai (qac (ek45 h45) qah) 1000000 (fn:=Tryz.f25) (by kernel_rfl) (by kernel_rfl) (X:=X25) (by kernel_rfl) ?_
 rw [eq25]
 exact (nt25 Ops.std c45 p0 some (K28 k0)).trans (by show ob (F25 c45 p0) _=_;rw [hy];rfl)
noncomputable def M25:C25:=F25 M45
theorem sm25:Sp25 M25:=sf25 sm45
def X26:Aux:=⟨[(5,([0,1,2,3,5,6,7,8,9]++rg 13 19))],[]⟩
inductive S26 where
 | l0 (v1 v2:Int) (v3:L3)
def T26 {R:Type} (B:Ops) (c51:C51) (p0:L66) (again:S26→Option R) (k:(Int×L3)→Option R):Option S26→Option R | none=>ob (c51 p0) fun y0=>cond (!y0) (k ((1,mt (Ty.den (Ty.int .i64))))) (again (.l0 (↑p0.length) 0 (mt (Ty.den (Ty.int .i64))))) | some (.l0 v1 v2 v3)=>cond (B.lt v2 v1) (cond (B.inb v2 p0.length) (cond (B.eq (p0.getD v2.toNat ty66.dflt).1 8) (cond (B.lim (List.length v3+List.length (v2::mt (Ty.den (Ty.int .i64)))) 8) (again (.l0 v1 (IntKind.wrap .i64 (v2+1)) (v3++v2::mt (Ty.den (Ty.int .i64))))) none) (cond (B.eq (p0.getD v2.toNat ty66.dflt).1 9) (cond (B.lim (List.length v3+List.length (v2::mt (Ty.den (Ty.int .i64)))) 8) (again (.l0 v1 (IntKind.wrap .i64 (v2+1)) (v3++v2::mt (Ty.den (Ty.int .i64))))) none) (cond (B.eq (p0.getD v2.toNat ty66.dflt).1 10) (cond (B.lim (List.length v3+List.length (v2::mt (Ty.den (Ty.int .i64)))) 8) (again (.l0 v1 (IntKind.wrap .i64 (v2+1)) (v3++v2::mt (Ty.den (Ty.int .i64))))) none) (again (.l0 v1 (IntKind.wrap .i64 (v2+1)) v3))))) none) (cond (B.lt 6 (↑v3.length)) (k ((13,mt (Ty.den (Ty.int .i64))))) (k (0,v3)))
def E26 (p0:L66):S26→List AV×Objs
 | .l0 v1 v2 v3=>(mk 32 [(4,.c (.own 4)),(10,.c (.list 66 ty66 p0)),(11,.c (.int .i64 v1)),(12,.c (.int .i64 v2))],[(4,.row 3 ty3 v3)])
def I26:S26→Nat
 | .l0 _ _ _=>0
abbrev K30 {R:Type} (k:AV→Objs→Option R) (y:(Int×L3)):Option R:=k (.tup [(false,[.own 501000]),(false,[.int .i64 y.1])]) [(501000,.row 3 ty3 y.2)]
noncomputable abbrev A26 {R:Type} (B:Ops) (c51:C51) (p0:L66) (k:AV→Objs→Option R) (s:S26) (n:Nat):Option R:=aloop tau B gl0 X26 (ent 51 (e51 c51) gnil) ow [] Tryz.f26 k (I26 s) (E26 p0 s) n
theorem eq26 {R:Type} (B:Ops) (c51:C51) (p0:L66) (k:AV→Objs→Option R) (n:Nat):afun tau B gl0 X26 (ent 51 (e51 c51) gnil) ow Tryz.f26 [.c (.list 66 ty66 p0)] [] k n=T26 B c51 p0 (fun s=>A26 B c51 p0 k s n) (K30 k) none:=by kernel_rfl
theorem el26 {R:Type} (B:Ops) (c51:C51) (p0:L66) (k:AV→Objs→Option R) (n:Nat):∀ s,A26 B c51 p0 k s (n+1)=T26 B c51 p0 (fun s=>A26 B c51 p0 k s n) (K30 k) (some s):=by
 intro s
 cases s<;>kernel_rfl
theorem nt26 {R R':Type} (B:Ops) (c51:C51) (p0:L66) (again:S26→Option R) (again':S26→Option R') (k0:(Int×L3)→Option R') (k:R'→Option R) (h:∀ s,again s=ob (again' s) k):∀ s,T26 B c51 p0 again (fun y=>ob (k0 y) k) s=ob (T26 B c51 p0 again' k0 s) k:=by
 rintro (_ | x)
 all_goals try cases x
 all_goals (unfold T26;repeat' first | exact rfl | exact h _ | apply qae | (apply qaj;intro))
def R26 (c51:C51) (p0:L66):Nat→S26→Option (Int×L3)
 | 0,_=>none
 | n+1,s=>T26 Ops.std c51 p0 (R26 c51 p0 n) some (some s)
theorem rr26 {R:Type} (c51:C51) (p0:L66) (k:AV→Objs→Option R):∀ (n:Nat) (s:S26),A26 Ops.std c51 p0 k s n=ob (R26 c51 p0 n s) (K30 k)
 | 0,s=>by cases s<;>rfl
 | n+1,s=>by rw [el26];exact nt26 Ops.std c51 p0 _ _ some (K30 k) (rr26 c51 p0 k n) (some s)
def F26 (c51:C51) (p0:L66):Option (Int×L3):=T26 Ops.std c51 p0 (R26 c51 p0 1000000) some none
abbrev C26:Type:=L66→Option (Int×L3)
def e26 {R:Type} (c:C26):Ent R:=eG [.aC (.cL 66 ty66)] [] fun v k=>ob (c v.1) (K30 k)
abbrev Sp26 (c:C26):Prop:=∀ (p0:L66) (y:Int×L3),c p0=some y→Spec Tryz.prog gl0 26 [.c (.list 66 ty66 p0)] [] (.tup [(false,[.own 501000]),(false,[.int .i64 y.1])]) [(501000,.row 3 ty3 y.2)]
theorem ek26 {R:Type} {c:C26} (hs:Sp26 c):EOk 26 (e26 (R:=R) c):=qam fun v=>hs v.1
theorem sf26 {c51:C51} (h51:Sp51 c51):Sp26 (F26 c51):=fun p0 y hy=>by
 refine qai (qac (ek51 h51) qah) 1000000 (fn:=Tryz.f26) (by kernel_rfl) (by kernel_rfl) (X:=X26) (by kernel_rfl) ?_
 rw [eq26]
 exact (nt26 Ops.std c51 p0 _ _ some (K30 k0) (rr26 c51 p0 k0 1000000) none).trans (by show ob (F26 c51 p0) _=_;rw [hy];rfl)
noncomputable def M26:C26:=F26 M51
theorem sm26:Sp26 M26:=sf26 sm51
def X27:Aux:=⟨[(4,([2,3,4]++rg 6 20))],[(6,.lin [0,1,2,3,4,5,6,7,8])]⟩
inductive S27 where
 | l0 (v2:Int)
def T27 {R:Type} (B:Ops) (p0 p1:L3) (again:S27→Option R) (k:(Bool)→Option R):Option S27→Option R | none=>cond (!B.eq (↑p0.length) (↑p1.length)) (k false) (again (.l0 0)) | some (.l0 v2)=>cond (B.lt v2 (↑p0.length)) (cond (B.inb v2 p0.length) (cond (B.inb v2 p1.length) (cond (!B.eq (p0.getD v2.toNat ty3.dflt) (p1.getD v2.toNat ty3.dflt)) (k false) (again (.l0 (IntKind.wrap .i64 (v2+1))))) none) none) (k true)
def E27 (p0 p1:L3):S27→List AV×Objs
 | .l0 v2=>(mk 26 [(0,.c (.list 3 ty3 p0)),(1,.c (.list 3 ty3 p1)),(5,.c (.int .i64 v2))],[])
def I27:S27→Nat
 | .l0 _=>0
noncomputable abbrev A27 {R:Type} (B:Ops) (p0 p1:L3) (k:AV→Objs→Option R) (s:S27) (n:Nat):Option R:=aloop tau B gl0 X27 gnil ow [] Tryz.f27 k (I27 s) (E27 p0 p1 s) n
theorem eq27 {R:Type} (B:Ops) (p0 p1:L3) (k:AV→Objs→Option R) (n:Nat):afun tau B gl0 X27 gnil ow Tryz.f27 [.c (.list 3 ty3 p0),.c (.list 3 ty3 p1)] [] k n=T27 B p0 p1 (fun s=>A27 B p0 p1 k s n) (K2 k) none:=by kernel_rfl
theorem el27 {R:Type} (B:Ops) (p0 p1:L3) (k:AV→Objs→Option R) (n:Nat):∀ s,A27 B p0 p1 k s (n+1)=T27 B p0 p1 (fun s=>A27 B p0 p1 k s n) (K2 k) (some s):=by
 intro s
 cases s<;>kernel_rfl
theorem nt27 {R R':Type} (B:Ops) (p0 p1:L3) (again:S27→Option R) (again':S27→Option R') (k0:(Bool)→Option R') (k:R'→Option R) (h:∀ s,again s=ob (again' s) k):∀ s,T27 B p0 p1 again (fun y=>ob (k0 y) k) s=ob (T27 B p0 p1 again' k0 s) k:=by
 rintro (_ | x)
 all_goals try cases x
 all_goals (unfold T27;repeat' first | exact rfl | exact h _ | apply qae | (apply qaj;intro))
def R27 (p0 p1:L3):Nat→S27→Option (Bool)
 | 0,_=>none
 | n+1,s=>T27 Ops.std p0 p1 (R27 p0 p1 n) some (some s)
theorem rr27 {R:Type} (p0 p1:L3) (k:AV→Objs→Option R):∀ (n:Nat) (s:S27),A27 Ops.std p0 p1 k s n=ob (R27 p0 p1 n s) (K2 k)
 | 0,s=>by cases s<;>rfl
 | n+1,s=>by rw [el27];exact nt27 Ops.std p0 p1 _ _ some (K2 k) (rr27 p0 p1 k n) (some s)
def F27 (p0 p1:L3):Option (Bool):=T27 Ops.std p0 p1 (R27 p0 p1 1000000) some none
abbrev C27:Type:=L3→L3→Option (Bool)
def e27 {R:Type} (c:C27):Ent R:=eG [.aC (.cL 3 ty3),.aC (.cL 3 ty3)] [] fun v k=>ob (c v.1 v.2.1) (K2 k)
abbrev Sp27 (c:C27):Prop:=∀ (p0 p1:L3) (y:Bool),c p0 p1=some y→Spec Tryz.prog gl0 27 [.c (.list 3 ty3 p0),.c (.list 3 ty3 p1)] [] (.c (.bool y)) []
theorem ek27 {R:Type} {c:C27} (hs:Sp27 c):EOk 27 (e27 (R:=R) c):=qam fun v=>hs v.1 v.2.1
theorem sf27:Sp27 (F27):=fun p0 p1 y hy=>by
 refine qai qah 1000000 (fn:=Tryz.f27) (by kernel_rfl) (by kernel_rfl) (X:=X27) (by kernel_rfl) ?_
 rw [eq27]
 exact (nt27 Ops.std p0 p1 _ _ some (K2 k0) (rr27 p0 p1 k0 1000000) none).trans (by show ob (F27 p0 p1) _=_;rw [hy];rfl)
noncomputable def M27:C27:=F27
theorem sm27:Sp27 M27:=sf27
def X24:Aux:=⟨[],[]⟩
def T24 {R:Type} (B:Ops) (c25:C25) (c26:C26) (c27:C27) (k:(Bool)→Option R):Option R:=ob (c25 ([88,32,91,120,61,61,49,93]:LB)) fun y0=>ob (c26 y0) fun y1=>cond (B.eq y1.1 0) (ob (c27 y1.2 (1::mt (Ty.den (Ty.int .i64)))) fun y2=>k y2) (k false)
theorem eq24 {R:Type} (B:Ops) (c25:C25) (c26:C26) (c27:C27) (k:AV→Objs→Option R) (n:Nat):afun tau B gl0 X24 (ent 25 (e25 c25) (ent 26 (e26 c26) (ent 27 (e27 c27) gnil))) ow Tryz.f24 [] [] k n=T24 B c25 c26 c27 (K2 k):=by kernel_rfl
theorem nt24 {R R':Type} (B:Ops) (c25:C25) (c26:C26) (c27:C27) (k0:(Bool)→Option R') (k:R'→Option R):T24 B c25 c26 c27 (fun y=>ob (k0 y) k)=ob (T24 B c25 c26 c27 k0) k:=by
 unfold T24
 repeat' first | exact rfl | apply qae | (apply qaj;intro)
def F24 (c25:C25) (c26:C26) (c27:C27):Option (Bool):=T24 Ops.std c25 c26 c27 some
abbrev C24:Type:=Option (Bool)
def e24 {R:Type} (c:C24):Ent R:=eG [] [] fun _ k=>ob c (K2 k)
abbrev Sp24 (c:C24):Prop:=∀ (y:Bool),c=some y→Spec Tryz.prog gl0 24 [] [] (.c (.bool y)) []
theorem ek24 {R:Type} {c:C24} (hs:Sp24 c):EOk 24 (e24 (R:=R) c):=qam fun _=>hs
theorem sf24 {c25:C25} {c26:C26} {c27:C27} (h25:Sp25 c25) (h26:Sp26 c26) (h27:Sp27 c27):Sp24 (F24 c25 c26 c27):=fun y hy=>by
 refine qai (qac (ek25 h25) (qac (ek26 h26) (qac (ek27 h27) qah))) 1000000 (fn:=Tryz.f24) (by kernel_rfl) (by kernel_rfl) (X:=X24) (by kernel_rfl) ?_
 rw [eq24]
 exact (nt24 Ops.std c25 c26 c27 some (K2 k0)).trans (by show ob (F24 c25 c26 c27) _=_;rw [hy];rfl)
noncomputable def M24:C24:=F24 M25 M26 M27
theorem sm24:Sp24 M24:=sf24 sm25 sm26 sm27
def X28:Aux:=⟨[],[]⟩
def T28 {R:Type} (B:Ops) (c15:C15) (c25:C25) (c13:C13) (c16:C16) (c23:C23) (p0:L3) (p1:Bool) (k:(L66)→Option R):Option R:=ob (c15 p0) fun y0=>ob (c25 y0) fun y1=>ob (c13 y1) fun y2=>cond (p1) (ob (c15 p0) fun y3=>ob (c25 y3) fun y4=>ob (c16 y4) fun y5=>ob (c23 y5) fun y6=>cond (B.lt 6 (↑y6.length)) (k (mt (Ty.den ty66))) (k y5)) (ob (c23 y2) fun y3=>cond (B.lt 6 (↑y3.length)) (k (mt (Ty.den ty66))) (k y2))
theorem eq28 {R:Type} (B:Ops) (c15:C15) (c25:C25) (c13:C13) (c16:C16) (c23:C23) (p0:L3) (p1:Bool) (k:AV→Objs→Option R) (n:Nat):afun tau B gl0 X28 (ent 15 (e15 c15) (ent 25 (e25 c25) (ent 13 (e13 c13) (ent 16 (e16 c16) (ent 23 (e23 c23) gnil))))) ow Tryz.f28 [.c (.list 3 ty3 p0),.c (.bool p1)] [] k n=T28 B c15 c25 c13 c16 c23 p0 p1 (K28 k):=by kernel_rfl
theorem nt28 {R R':Type} (B:Ops) (c15:C15) (c25:C25) (c13:C13) (c16:C16) (c23:C23) (p0:L3) (p1:Bool) (k0:(L66)→Option R') (k:R'→Option R):T28 B c15 c25 c13 c16 c23 p0 p1 (fun y=>ob (k0 y) k)=ob (T28 B c15 c25 c13 c16 c23 p0 p1 k0) k:=by
 unfold T28
 repeat' first | exact rfl | apply qae | (apply qaj;intro)
def F28 (c15:C15) (c25:C25) (c13:C13) (c16:C16) (c23:C23) (p0:L3) (p1:Bool):Option (L66):=T28 Ops.std c15 c25 c13 c16 c23 p0 p1 some
abbrev C28:Type:=L3→Bool→Option (L66)
def e28 {R:Type} (c:C28):Ent R:=eG [.aC (.cL 3 ty3),.aC .cB] [] fun v k=>ob (c v.1 v.2.1) (K28 k)
abbrev Sp28 (c:C28):Prop:=∀ (p0:L3) (p1:Bool) (y:L66),c p0 p1=some y→Spec Tryz.prog gl0 28 [.c (.list 3 ty3 p0),.c (.bool p1)] [] (.c (.own 500)) [(500,.row 66 ty66 y)]
theorem ek28 {R:Type} {c:C28} (hs:Sp28 c):EOk 28 (e28 (R:=R) c):=qam fun v=>hs v.1 v.2.1
theorem sf28 {c15:C15} {c25:C25} {c13:C13} {c16:C16} {c23:C23} (h15:Sp15 c15) (h25:Sp25 c25) (h13:Sp13 c13) (h16:Sp16 c16) (h23:Sp23 c23):Sp28 (F28 c15 c25 c13 c16 c23):=fun p0 p1 y hy=>by
 refine qai (qac (ek15 h15) (qac (ek25 h25) (qac (ek13 h13) (qac (ek16 h16) (qac (ek23 h23) qah))))) 1000000 (fn:=Tryz.f28) (by kernel_rfl) (by kernel_rfl) (X:=X28) (by kernel_rfl) ?_
 rw [eq28]
 exact (nt28 Ops.std c15 c25 c13 c16 c23 p0 p1 some (K28 k0)).trans (by show ob (F28 c15 c25 c13 c16 c23 p0 p1) _=_;rw [hy];rfl)
noncomputable def M28:C28:=F28 M15 M25 M13 M16 M23
theorem sm28:Sp28 M28:=sf28 sm15 sm25 sm13 sm16 sm23
def X69:Aux:=⟨[],[]⟩
def T69 {R:Type} (B:Ops) (p0:Int) (p1:L150) (p2:L4) (p3 p4:Bool) (k:(Bool)→Option R):Option R:=cond (B.eq p0 1) (k true) (cond (B.eq p0 3) (k p3) (cond (B.eq p0 4) (cond (B.inb 0 p2.length) (k (!p2.getD (Int.toNat 0) ty4.dflt)) none) (cond (B.eq p0 5) (cond (B.inb 0 p2.length) (cond (p2.getD (Int.toNat 0) ty4.dflt) (cond (B.inb 1 p2.length) (k (p2.getD (Int.toNat 1) ty4.dflt)) none) (k false)) none) (cond (B.eq p0 6) (cond (B.inb 0 p2.length) (cond (p2.getD (Int.toNat 0) ty4.dflt) (k true) (cond (B.inb 1 p2.length) (k (p2.getD (Int.toNat 1) ty4.dflt)) none)) none) (cond (B.eq p0 8) (k p4) (cond (B.eq p0 9) (cond (B.inb 1 p2.length) (cond (p2.getD (Int.toNat 1) ty4.dflt) (k true) (cond (B.inb 0 p2.length) (cond (p2.getD (Int.toNat 0) ty4.dflt) (k p4) (k false)) none)) none) (cond (B.eq p0 10) (cond (B.inb 1 p2.length) (cond (p2.getD (Int.toNat 1) ty4.dflt) (cond (B.inb 0 p2.length) (cond (p2.getD (Int.toNat 0) ty4.dflt) (k true) (k p4)) none) (k false)) none) (k false))))))))
theorem eq69 {R:Type} (B:Ops) (p0:Int) (p1:L150) (p2:L4) (p3 p4:Bool) (k:AV→Objs→Option R) (n:Nat):afun tau B gl0 X69 gnil ow Tryz.f69 [.agg [.int .i64 p0,.list 150 ty150 p1],.c (.list 4 ty4 p2),.c (.bool p3),.c (.bool p4)] [] k n=T69 B p0 p1 p2 p3 p4 (K2 k):=by kernel_rfl
theorem nt69 {R R':Type} (B:Ops) (p0:Int) (p1:L150) (p2:L4) (p3 p4:Bool) (k0:(Bool)→Option R') (k:R'→Option R):T69 B p0 p1 p2 p3 p4 (fun y=>ob (k0 y) k)=ob (T69 B p0 p1 p2 p3 p4 k0) k:=by
 unfold T69
 repeat' first | exact rfl | apply qae | (apply qaj;intro)
def F69 (p0:Int) (p1:L150) (p2:L4) (p3 p4:Bool):Option (Bool):=T69 Ops.std p0 p1 p2 p3 p4 some
abbrev C69:Type:=Int→L150→L4→Bool→Bool→Option (Bool)
def e69 {R:Type} (c:C69):Ent R:=eG [.aG [.cI .i64,.cL 150 ty150],.aC (.cL 4 ty4),.aC .cB,.aC .cB] [] fun v k=>ob (c v.1 v.2.1 v.2.2.1 v.2.2.2.1 v.2.2.2.2.1) (K2 k)
abbrev Sp69 (c:C69):Prop:=∀ (p0:Int) (p1:L150) (p2:L4) (p3 p4 y:Bool),c p0 p1 p2 p3 p4=some y→Spec Tryz.prog gl0 69 [.agg [.int .i64 p0,.list 150 ty150 p1],.c (.list 4 ty4 p2),.c (.bool p3),.c (.bool p4)] [] (.c (.bool y)) []
theorem ek69 {R:Type} {c:C69} (hs:Sp69 c):EOk 69 (e69 (R:=R) c):=qam fun v=>hs v.1 v.2.1 v.2.2.1 v.2.2.2.1 v.2.2.2.2.1
theorem sf69:Sp69 (F69):=fun p0 p1 p2 p3 p4 y hy=>by
 refine qai qah 1000000 (fn:=Tryz.f69) (by kernel_rfl) (by kernel_rfl) (X:=X69) (by kernel_rfl) ?_
 rw [eq69]
 exact (nt69 Ops.std p0 p1 p2 p3 p4 some (K2 k0)).trans (by show ob (F69 p0 p1 p2 p3 p4) _=_;rw [hy];rfl)
noncomputable def M69:C69:=F69
theorem sm69:Sp69 M69:=sf69
def X71:Aux:=⟨[(3,([0,2,4,6]++rg 9 27))],[(5,.lin (rg 0 21))]⟩
inductive S71 where
 | l0 (v1:Int) (v7:L4)
def T71 {R:Type} (B:Ops) (c64:C64) (p0:L94) (p1:L98) (p2:L103) (p3:L66) (p4 p5:L3) (again:S71→Option R) (k:(L4)→Option R):Option S71→Option R | none=>again (.l0 0 (mt (Ty.den Ty.bool))) | some (.l0 v1 v7)=>cond (B.lt v1 (↑p3.length)) (cond (B.inb v1 p3.length) (cond (B.eq (p3.getD v1.toNat ty66.dflt).1 3) (cond (B.inb v1 p3.length) (ob (c64 p0 p1 p2 p4 p5 (p3.getD v1.toNat ty66.dflt).2) fun y0=>cond (B.lim (List.length v7+List.length ((!B.eq y0 0)::mt (Ty.den Ty.bool))) 1) (again (.l0 (IntKind.wrap .i64 (v1+1)) (v7++(!B.eq y0 0)::mt (Ty.den Ty.bool)))) none) none) (cond (B.lim (List.length v7+List.length (false::mt (Ty.den Ty.bool))) 1) (again (.l0 (IntKind.wrap .i64 (v1+1)) (v7++false::mt (Ty.den Ty.bool)))) none)) none) (k v7)
def E71 (p0:L94) (p1:L98) (p2:L103) (p3:L66) (p4 p5:L3):S71→List AV×Objs
 | .l0 v1 v7=>(mk 36 [(1,.c (.list 66 ty66 p3)),(3,.c (.ptr 3 0)),(5,.c (.ptr 5 0)),(7,.c (.own 7)),(8,.c (.int .i64 v1))],[(3,.box 31 [.list 94 ty94 p0,.list 98 ty98 p1,.list 103 ty103 p2]),(5,.box 57 [.list 3 ty3 p4,.list 3 ty3 p5]),(7,.row 4 ty4 v7)])
def I71:S71→Nat
 | .l0 _ _=>0
abbrev K31 {R:Type} (k:AV→Objs→Option R) (y:(L4)):Option R:=k (.c (.own 500)) [(500,.row 4 ty4 y)]
noncomputable abbrev A71 {R:Type} (B:Ops) (c64:C64) (p0:L94) (p1:L98) (p2:L103) (p3:L66) (p4 p5:L3) (k:AV→Objs→Option R) (s:S71) (n:Nat):Option R:=aloop tau B gl0 X71 (ent 64 (e64 c64) gnil) ow [] Tryz.f71 k (I71 s) (E71 p0 p1 p2 p3 p4 p5 s) n
theorem eq71 {R:Type} (B:Ops) (c64:C64) (p0:L94) (p1:L98) (p2:L103) (p3:L66) (p4 p5:L3) (k:AV→Objs→Option R) (n:Nat):afun tau B gl0 X71 (ent 64 (e64 c64) gnil) ow Tryz.f71 [.agg [.list 94 ty94 p0,.list 98 ty98 p1,.list 103 ty103 p2],.c (.list 66 ty66 p3),.agg [.list 3 ty3 p4,.list 3 ty3 p5]] [] k n=T71 B c64 p0 p1 p2 p3 p4 p5 (fun s=>A71 B c64 p0 p1 p2 p3 p4 p5 k s n) (K31 k) none:=by kernel_rfl
theorem el71 {R:Type} (B:Ops) (c64:C64) (p0:L94) (p1:L98) (p2:L103) (p3:L66) (p4 p5:L3) (k:AV→Objs→Option R) (n:Nat):∀ s,A71 B c64 p0 p1 p2 p3 p4 p5 k s (n+1)=T71 B c64 p0 p1 p2 p3 p4 p5 (fun s=>A71 B c64 p0 p1 p2 p3 p4 p5 k s n) (K31 k) (some s):=by
 intro s
 cases s<;>kernel_rfl
theorem nt71 {R R':Type} (B:Ops) (c64:C64) (p0:L94) (p1:L98) (p2:L103) (p3:L66) (p4 p5:L3) (again:S71→Option R) (again':S71→Option R') (k0:(L4)→Option R') (k:R'→Option R) (h:∀ s,again s=ob (again' s) k):∀ s,T71 B c64 p0 p1 p2 p3 p4 p5 again (fun y=>ob (k0 y) k) s=ob (T71 B c64 p0 p1 p2 p3 p4 p5 again' k0 s) k:=by
 rintro (_ | x)
 all_goals try cases x
 all_goals (unfold T71;repeat' first | exact rfl | exact h _ | apply qae | (apply qaj;intro))
def R71 (c64:C64) (p0:L94) (p1:L98) (p2:L103) (p3:L66) (p4 p5:L3):Nat→S71→Option (L4)
 | 0,_=>none
 | n+1,s=>T71 Ops.std c64 p0 p1 p2 p3 p4 p5 (R71 c64 p0 p1 p2 p3 p4 p5 n) some (some s)
theorem rr71 {R:Type} (c64:C64) (p0:L94) (p1:L98) (p2:L103) (p3:L66) (p4 p5:L3) (k:AV→Objs→Option R):∀ (n:Nat) (s:S71),A71 Ops.std c64 p0 p1 p2 p3 p4 p5 k s n=ob (R71 c64 p0 p1 p2 p3 p4 p5 n s) (K31 k)
 | 0,s=>by cases s<;>rfl
 | n+1,s=>by rw [el71];exact nt71 Ops.std c64 p0 p1 p2 p3 p4 p5 _ _ some (K31 k) (rr71 c64 p0 p1 p2 p3 p4 p5 k n) (some s)
def F71 (c64:C64) (p0:L94) (p1:L98) (p2:L103) (p3:L66) (p4 p5:L3):Option (L4):=T71 Ops.std c64 p0 p1 p2 p3 p4 p5 (R71 c64 p0 p1 p2 p3 p4 p5 1000000) some none
abbrev C71:Type:=L94→L98→L103→L66→L3→L3→Option (L4)
def e71 {R:Type} (c:C71):Ent R:=eG [.aG [.cL 94 ty94,.cL 98 ty98,.cL 103 ty103],.aC (.cL 66 ty66),.aG [.cL 3 ty3,.cL 3 ty3]] [] fun v k=>ob (c v.1 v.2.1 v.2.2.1 v.2.2.2.1 v.2.2.2.2.1 v.2.2.2.2.2.1) (K31 k)
abbrev Sp71 (c:C71):Prop:=∀ (p0:L94) (p1:L98) (p2:L103) (p3:L66) (p4 p5:L3) (y:L4),c p0 p1 p2 p3 p4 p5=some y→Spec Tryz.prog gl0 71 [.agg [.list 94 ty94 p0,.list 98 ty98 p1,.list 103 ty103 p2],.c (.list 66 ty66 p3),.agg [.list 3 ty3 p4,.list 3 ty3 p5]] [] (.c (.own 500)) [(500,.row 4 ty4 y)]
theorem ek71 {R:Type} {c:C71} (hs:Sp71 c):EOk 71 (e71 (R:=R) c):=qam fun v=>hs v.1 v.2.1 v.2.2.1 v.2.2.2.1 v.2.2.2.2.1 v.2.2.2.2.2.1
theorem sf71 {c64:C64} (h64:Sp64 c64):Sp71 (F71 c64):=fun p0 p1 p2 p3 p4 p5 y hy=>by
 refine qai (qac (ek64 h64) qah) 1000000 (fn:=Tryz.f71) (by kernel_rfl) (by kernel_rfl) (X:=X71) (by kernel_rfl) ?_
 rw [eq71]
 exact (nt71 Ops.std c64 p0 p1 p2 p3 p4 p5 _ _ some (K31 k0) (rr71 c64 p0 p1 p2 p3 p4 p5 k0 1000000) none).trans (by show ob (F71 c64 p0 p1 p2 p3 p4 p5) _=_;rw [hy];rfl)
noncomputable def M71:C71:=F71 M64
theorem sm71:Sp71 M71:=sf71 sm64
def X72:Aux:=⟨[(2,([3,4,5,6]++rg 8 18))],[]⟩
inductive S72 where
 | l0 (v3:Int)
def T72 {R:Type} (B:Ops) (p0:L3) (p1 p2:Int) (again:S72→Option R) (k:(Bool)→Option R):Option S72→Option R | none=>again (.l0 0) | some (.l0 v3)=>cond (B.lt v3 (↑p0.length)) (cond (B.inb v3 p0.length) (cond (B.eq (p0.getD v3.toNat ty3.dflt) p2) (cond (B.lt (IntKind.wrap IntKind.u64 v3) 0) none (k (B.eq (bitAnd IntKind.i64 (bif false then shlI IntKind.i64 p1 (IntKind.wrap IntKind.u64 v3) else shrI IntKind.i64 p1 (IntKind.wrap IntKind.u64 v3)) 1) 1))) (again (.l0 (IntKind.wrap .i64 (v3+1))))) none) (k false)
def E72 (p0:L3) (p1 p2:Int):S72→List AV×Objs
 | .l0 v3=>(mk 26 [(0,.c (.list 3 ty3 p0)),(1,.c (.int .i64 p1)),(2,.c (.int .i64 p2)),(7,.c (.int .i64 v3))],[])
def I72:S72→Nat
 | .l0 _=>0
noncomputable abbrev A72 {R:Type} (B:Ops) (p0:L3) (p1 p2:Int) (k:AV→Objs→Option R) (s:S72) (n:Nat):Option R:=aloop tau B gl0 X72 gnil ow [] Tryz.f72 k (I72 s) (E72 p0 p1 p2 s) n
theorem eq72 {R:Type} (B:Ops) (p0:L3) (p1 p2:Int) (k:AV→Objs→Option R) (n:Nat):afun tau B gl0 X72 gnil ow Tryz.f72 [.c (.list 3 ty3 p0),.c (.int .i64 p1),.c (.int .i64 p2)] [] k n=T72 B p0 p1 p2 (fun s=>A72 B p0 p1 p2 k s n) (K2 k) none:=by kernel_rfl
theorem el72 {R:Type} (B:Ops) (p0:L3) (p1 p2:Int) (k:AV→Objs→Option R) (n:Nat):∀ s,A72 B p0 p1 p2 k s (n+1)=T72 B p0 p1 p2 (fun s=>A72 B p0 p1 p2 k s n) (K2 k) (some s):=by
 intro s
 cases s<;>kernel_rfl
theorem nt72 {R R':Type} (B:Ops) (p0:L3) (p1 p2:Int) (again:S72→Option R) (again':S72→Option R') (k0:(Bool)→Option R') (k:R'→Option R) (h:∀ s,again s=ob (again' s) k):∀ s,T72 B p0 p1 p2 again (fun y=>ob (k0 y) k) s=ob (T72 B p0 p1 p2 again' k0 s) k:=by
 rintro (_ | x)
 all_goals try cases x
 all_goals (unfold T72;repeat' first | exact rfl | exact h _ | apply qae | (apply qaj;intro))
def R72 (p0:L3) (p1 p2:Int):Nat→S72→Option (Bool)
 | 0,_=>none
 | n+1,s=>T72 Ops.std p0 p1 p2 (R72 p0 p1 p2 n) some (some s)
theorem rr72 {R:Type} (p0:L3) (p1 p2:Int) (k:AV→Objs→Option R):∀ (n:Nat) (s:S72),A72 Ops.std p0 p1 p2 k s n=ob (R72 p0 p1 p2 n s) (K2 k)
 | 0,s=>by cases s<;>rfl
 | n+1,s=>by rw [el72];exact nt72 Ops.std p0 p1 p2 _ _ some (K2 k) (rr72 p0 p1 p2 k n) (some s)
def F72 (p0:L3) (p1 p2:Int):Option (Bool):=T72 Ops.std p0 p1 p2 (R72 p0 p1 p2 1000000) some none
abbrev C72:Type:=L3→Int→Int→Option (Bool)
def e72 {R:Type} (c:C72):Ent R:=eG [.aC (.cL 3 ty3),.aC (.cI .i64),.aC (.cI .i64)] [] fun v k=>ob (c v.1 v.2.1 v.2.2.1) (K2 k)
abbrev Sp72 (c:C72):Prop:=∀ (p0:L3) (p1 p2:Int) (y:Bool),c p0 p1 p2=some y→Spec Tryz.prog gl0 72 [.c (.list 3 ty3 p0),.c (.int .i64 p1),.c (.int .i64 p2)] [] (.c (.bool y)) []
theorem ek72 {R:Type} {c:C72} (hs:Sp72 c):EOk 72 (e72 (R:=R) c):=qam fun v=>hs v.1 v.2.1 v.2.2.1
theorem sf72:Sp72 (F72):=fun p0 p1 p2 y hy=>by
 refine qai qah 1000000 (fn:=Tryz.f72) (by kernel_rfl) (by kernel_rfl) (X:=X72) (by kernel_rfl) ?_
 rw [eq72]
 exact (nt72 Ops.std p0 p1 p2 _ _ some (K2 k0) (rr72 p0 p1 p2 k0 1000000) none).trans (by show ob (F72 p0 p1 p2) _=_;rw [hy];rfl)
noncomputable def M72:C72:=F72
theorem sm72:Sp72 M72:=sf72
def X70:Aux:=⟨[(3,([5,6,7,8,9,10]++rg 13 131)),(1000009,([5,6,7,8,9,10]++rg 15 129)),(1000011,([5,6,7,8,9,10]++rg 15 129)),(1000029,([5,6,7,8,9,10,13,14]++rg 16 128))],[]⟩
inductive S70 where
 | l0 (v5:Int) (v6:L4)
 | l1009 (v5:Int) (v6:Bool) (v8:L4)
 | l1011 (v5:Int) (v6 v7:Bool) (v8:L4)
 | l1029 (v5:Int) (v6:Bool) (v7:L4)
def T70 {R:Type} (B:Ops) (c72:C72) (p0:L66) (p1:L22) (p2:L3) (p3:Int) (p4:L4) (again:S70→Option R) (k:(L4)→Option R):Option S70→Option R | none=>again (.l0 0 (mt (Ty.den Ty.bool))) | some (.l0 v5 v6)=>cond (B.lt v5 (↑p0.length)) (cond (B.lt v5 (↑p1.length)) (cond (B.inb v5 p1.length) (cond (B.lt 0 (Nat.cast (List.length (p1.getD v5.toNat ty22.dflt)))) (cond (B.inb v5 p1.length) (cond (B.inb 0 (List.length (p1.getD v5.toNat ty22.dflt))) (cond (B.lt (List.getD (p1.getD v5.toNat ty22.dflt) (Int.toNat 0) (Ty.dflt (Ty.int .i64))) (↑v6.length)) (cond (B.inb v5 p1.length) (cond (B.inb 0 (List.length (p1.getD v5.toNat ty22.dflt))) (cond (B.inb (List.getD (p1.getD v5.toNat ty22.dflt) (Int.toNat 0) (Ty.dflt (Ty.int .i64))) v6.length) (again (.l1009 v5 (v6.getD (Int.toNat (List.getD (p1.getD v5.toNat ty22.dflt) (Int.toNat 0) (Ty.dflt (Ty.int .i64)))) ty4.dflt) v6)) none) none) none) (again (.l1009 v5 false v6))) none) none) (again (.l1009 v5 false v6))) none) (k v6)) (k v6) | some (.l1009 v5 v6 v8)=>cond (B.inb v5 p1.length) (cond (B.lt 1 (Nat.cast (List.length (p1.getD v5.toNat ty22.dflt)))) (cond (B.inb v5 p1.length) (cond (B.inb 1 (List.length (p1.getD v5.toNat ty22.dflt))) (cond (B.lt (List.getD (p1.getD v5.toNat ty22.dflt) (Int.toNat 1) (Ty.dflt (Ty.int .i64))) (↑v8.length)) (cond (B.inb v5 p1.length) (cond (B.inb 1 (List.length (p1.getD v5.toNat ty22.dflt))) (cond (B.inb (List.getD (p1.getD v5.toNat ty22.dflt) (Int.toNat 1) (Ty.dflt (Ty.int .i64))) v8.length) (again (.l1011 v5 v6 (v8.getD (Int.toNat (List.getD (p1.getD v5.toNat ty22.dflt) (Int.toNat 1) (Ty.dflt (Ty.int .i64)))) ty4.dflt) v8)) none) none) none) (again (.l1011 v5 v6 false v8))) none) none) (again (.l1011 v5 v6 false v8))) none | some (.l1011 v5 v6 v7 v8)=>cond (B.inb v5 p0.length) (cond (B.eq (p0.getD v5.toNat ty66.dflt).1 1) (again (.l1029 v5 true v8)) (cond (B.eq (p0.getD v5.toNat ty66.dflt).1 3) (cond (B.inb v5 p4.length) (again (.l1029 v5 (p4.getD v5.toNat ty4.dflt) v8)) none) (cond (B.eq (p0.getD v5.toNat ty66.dflt).1 4) (again (.l1029 v5 (!v6) v8)) (cond (B.eq (p0.getD v5.toNat ty66.dflt).1 5) (cond (v6) (again (.l1029 v5 v7 v8)) (again (.l1029 v5 false v8))) (cond (B.eq (p0.getD v5.toNat ty66.dflt).1 6) (cond (v6) (again (.l1029 v5 true v8)) (again (.l1029 v5 v7 v8))) (cond (B.eq (p0.getD v5.toNat ty66.dflt).1 8) (ob (c72 p2 p3 v5) fun y0=>again (.l1029 v5 y0 v8)) (cond (B.eq (p0.getD v5.toNat ty66.dflt).1 9) (cond (v7) (again (.l1029 v5 true v8)) (cond (v6) (ob (c72 p2 p3 v5) fun y0=>again (.l1029 v5 y0 v8)) (again (.l1029 v5 false v8)))) (cond (B.eq (p0.getD v5.toNat ty66.dflt).1 10) (cond (v7) (cond (v6) (again (.l1029 v5 true v8)) (ob (c72 p2 p3 v5) fun y0=>again (.l1029 v5 y0 v8))) (again (.l1029 v5 false v8))) (again (.l1029 v5 false v8)))))))))) none | some (.l1029 v5 v6 v7)=>cond (B.lim (List.length v7+List.length (v6::mt (Ty.den Ty.bool))) 1) (again (.l0 (IntKind.wrap .i64 (v5+1)) (v7++v6::mt (Ty.den Ty.bool)))) none
def E70 (p0:L66) (p1:L22) (p2:L3) (p3:Int) (p4:L4):S70→List AV×Objs
 | .l0 v5 v6=>(mk 144 [(0,.c (.list 66 ty66 p0)),(1,.c (.list 22 ty22 p1)),(2,.c (.list 3 ty3 p2)),(3,.c (.int .i64 p3)),(4,.c (.list 4 ty4 p4)),(11,.c (.own 11)),(12,.c (.int .i64 v5))],[(11,.row 4 ty4 v6)])
 | .l1009 v5 v6 v8=>(mk 144 [(0,.c (.list 66 ty66 p0)),(1,.c (.list 22 ty22 p1)),(2,.c (.list 3 ty3 p2)),(3,.c (.int .i64 p3)),(4,.c (.list 4 ty4 p4)),(11,.c (.own 11)),(12,.c (.int .i64 v5)),(13,.c (.bool v6)),(14,.c (.bool false))],[(11,.row 4 ty4 v8)])
 | .l1011 v5 v6 v7 v8=>(mk 144 [(0,.c (.list 66 ty66 p0)),(1,.c (.list 22 ty22 p1)),(2,.c (.list 3 ty3 p2)),(3,.c (.int .i64 p3)),(4,.c (.list 4 ty4 p4)),(11,.c (.own 11)),(12,.c (.int .i64 v5)),(13,.c (.bool v6)),(14,.c (.bool v7))],[(11,.row 4 ty4 v8)])
 | .l1029 v5 v6 v7=>(mk 144 [(0,.c (.list 66 ty66 p0)),(1,.c (.list 22 ty22 p1)),(2,.c (.list 3 ty3 p2)),(3,.c (.int .i64 p3)),(4,.c (.list 4 ty4 p4)),(11,.c (.own 11)),(12,.c (.int .i64 v5)),(15,.c (.bool v6))],[(11,.row 4 ty4 v7)])
def I70:S70→Nat
 | .l0 _ _=>0
 | .l1009 _ _ _=>1009
 | .l1011 _ _ _ _=>1011
 | .l1029 _ _ _=>1029
noncomputable abbrev A70 {R:Type} (B:Ops) (c72:C72) (p0:L66) (p1:L22) (p2:L3) (p3:Int) (p4:L4) (k:AV→Objs→Option R) (s:S70) (n:Nat):Option R:=aloop tau B gl0 X70 (ent 72 (e72 c72) gnil) ow [] Tryz.f70 k (I70 s) (E70 p0 p1 p2 p3 p4 s) n
theorem eq70 {R:Type} (B:Ops) (c72:C72) (p0:L66) (p1:L22) (p2:L3) (p3:Int) (p4:L4) (k:AV→Objs→Option R) (n:Nat):afun tau B gl0 X70 (ent 72 (e72 c72) gnil) ow Tryz.f70 [.c (.list 66 ty66 p0),.c (.list 22 ty22 p1),.c (.list 3 ty3 p2),.c (.int .i64 p3),.c (.list 4 ty4 p4)] [] k n=T70 B c72 p0 p1 p2 p3 p4 (fun s=>A70 B c72 p0 p1 p2 p3 p4 k s n) (K31 k) none:=by kernel_rfl
theorem el70 {R:Type} (B:Ops) (c72:C72) (p0:L66) (p1:L22) (p2:L3) (p3:Int) (p4:L4) (k:AV→Objs→Option R) (n:Nat):∀ s,A70 B c72 p0 p1 p2 p3 p4 k s (n+1)=T70 B c72 p0 p1 p2 p3 p4 (fun s=>A70 B c72 p0 p1 p2 p3 p4 k s n) (K31 k) (some s):=by
 intro s
 cases s<;>kernel_rfl
theorem nt70 {R R':Type} (B:Ops) (c72:C72) (p0:L66) (p1:L22) (p2:L3) (p3:Int) (p4:L4) (again:S70→Option R) (again':S70→Option R') (k0:(L4)→Option R') (k:R'→Option R) (h:∀ s,again s=ob (again' s) k):∀ s,T70 B c72 p0 p1 p2 p3 p4 again (fun y=>ob (k0 y) k) s=ob (T70 B c72 p0 p1 p2 p3 p4 again' k0 s) k:=by
 rintro (_ | x)
 all_goals try cases x
 all_goals (unfold T70;repeat' first | exact rfl | exact h _ | apply qae | (apply qaj;intro))
def R70 (c72:C72) (p0:L66) (p1:L22) (p2:L3) (p3:Int) (p4:L4):Nat→S70→Option (L4)
 | 0,_=>none
 | n+1,s=>T70 Ops.std c72 p0 p1 p2 p3 p4 (R70 c72 p0 p1 p2 p3 p4 n) some (some s)
theorem rr70 {R:Type} (c72:C72) (p0:L66) (p1:L22) (p2:L3) (p3:Int) (p4:L4) (k:AV→Objs→Option R):∀ (n:Nat) (s:S70),A70 Ops.std c72 p0 p1 p2 p3 p4 k s n=ob (R70 c72 p0 p1 p2 p3 p4 n s) (K31 k)
 | 0,s=>by cases s<;>rfl
 | n+1,s=>by rw [el70];exact nt70 Ops.std c72 p0 p1 p2 p3 p4 _ _ some (K31 k) (rr70 c72 p0 p1 p2 p3 p4 k n) (some s)
def F70 (c72:C72) (p0:L66) (p1:L22) (p2:L3) (p3:Int) (p4:L4):Option (L4):=T70 Ops.std c72 p0 p1 p2 p3 p4 (R70 c72 p0 p1 p2 p3 p4 1000000) some none
abbrev C70:Type:=L66→L22→L3→Int→L4→Option (L4)
def e70 {R:Type} (c:C70):Ent R:=eG [.aC (.cL 66 ty66),.aC (.cL 22 ty22),.aC (.cL 3 ty3),.aC (.cI .i64),.aC (.cL 4 ty4)] [] fun v k=>ob (c v.1 v.2.1 v.2.2.1 v.2.2.2.1 v.2.2.2.2.1) (K31 k)
abbrev Sp70 (c:C70):Prop:=∀ (p0:L66) (p1:L22) (p2:L3) (p3:Int) (p4 y:L4),c p0 p1 p2 p3 p4=some y→Spec Tryz.prog gl0 70 [.c (.list 66 ty66 p0),.c (.list 22 ty22 p1),.c (.list 3 ty3 p2),.c (.int .i64 p3),.c (.list 4 ty4 p4)] [] (.c (.own 500)) [(500,.row 4 ty4 y)]
theorem ek70 {R:Type} {c:C70} (hs:Sp70 c):EOk 70 (e70 (R:=R) c):=qam fun v=>hs v.1 v.2.1 v.2.2.1 v.2.2.2.1 v.2.2.2.2.1
theorem sf70 {c72:C72} (h72:Sp72 c72):Sp70 (F70 c72):=fun p0 p1 p2 p3 p4 y hy=>by
 refine qai (qac (ek72 h72) qah) 1000000 (fn:=Tryz.f70) (by kernel_rfl) (by kernel_rfl) (X:=X70) (by kernel_rfl) ?_
 rw [eq70]
 exact (nt70 Ops.std c72 p0 p1 p2 p3 p4 _ _ some (K31 k0) (rr70 c72 p0 p1 p2 p3 p4 k0 1000000) none).trans (by show ob (F70 c72 p0 p1 p2 p3 p4) _=_;rw [hy];rfl)
noncomputable def M70:C70:=F70 M72
theorem sm70:Sp70 M70:=sf70 sm72
def X32:Aux:=⟨[],[(1,.lin ([0,1,3,5,6,7,8,2,4,9,10,11]))]⟩
def T32 {R:Type} (B:Ops) (c37:C37) (c23:C23) (c71:C71) (c70:C70) (p0:L94) (p1:L98) (p2:L103) (p3:L66) (p4:Int) (p5 p6:L3) (k:(L4)→Option R):Option R:=ob (c37 p3) fun y0=>ob (c23 p3) fun y1=>ob (c71 p0 p1 p2 p3 p5 p6) fun y2=>ob (c70 p3 y0 y1 p4 y2) fun y3=>k y3
theorem eq32 {R:Type} (B:Ops) (c37:C37) (c23:C23) (c71:C71) (c70:C70) (p0:L94) (p1:L98) (p2:L103) (p3:L66) (p4:Int) (p5 p6:L3) (k:AV→Objs→Option R) (n:Nat):afun tau B gl0 X32 (ent 37 (e37 c37) (ent 23 (e23 c23) (ent 71 (e71 c71) (ent 70 (e70 c70) gnil)))) ow Tryz.f32 [.agg [.list 94 ty94 p0,.list 98 ty98 p1,.list 103 ty103 p2],.c (.list 66 ty66 p3),.c (.int .i64 p4),.agg [.list 3 ty3 p5,.list 3 ty3 p6]] [] k n=T32 B c37 c23 c71 c70 p0 p1 p2 p3 p4 p5 p6 (K31 k):=by kernel_rfl
theorem nt32 {R R':Type} (B:Ops) (c37:C37) (c23:C23) (c71:C71) (c70:C70) (p0:L94) (p1:L98) (p2:L103) (p3:L66) (p4:Int) (p5 p6:L3) (k0:(L4)→Option R') (k:R'→Option R):T32 B c37 c23 c71 c70 p0 p1 p2 p3 p4 p5 p6 (fun y=>ob (k0 y) k)=ob (T32 B c37 c23 c71 c70 p0 p1 p2 p3 p4 p5 p6 k0) k:=by
 unfold T32
 repeat' first | exact rfl | apply qae | (apply qaj;intro)
def F32 (c37:C37) (c23:C23) (c71:C71) (c70:C70) (p0:L94) (p1:L98) (p2:L103) (p3:L66) (p4:Int) (p5 p6:L3):Option (L4):=T32 Ops.std c37 c23 c71 c70 p0 p1 p2 p3 p4 p5 p6 some
abbrev C32:Type:=L94→L98→L103→L66→Int→L3→L3→Option (L4)
def e32 {R:Type} (c:C32):Ent R:=eG [.aG [.cL 94 ty94,.cL 98 ty98,.cL 103 ty103],.aC (.cL 66 ty66),.aC (.cI .i64),.aG [.cL 3 ty3,.cL 3 ty3]] [] fun v k=>ob (c v.1 v.2.1 v.2.2.1 v.2.2.2.1 v.2.2.2.2.1 v.2.2.2.2.2.1 v.2.2.2.2.2.2.1) (K31 k)
abbrev Sp32 (c:C32):Prop:=∀ (p0:L94) (p1:L98) (p2:L103) (p3:L66) (p4:Int) (p5 p6:L3) (y:L4),c p0 p1 p2 p3 p4 p5 p6=some y→Spec Tryz.prog gl0 32 [.agg [.list 94 ty94 p0,.list 98 ty98 p1,.list 103 ty103 p2],.c (.list 66 ty66 p3),.c (.int .i64 p4),.agg [.list 3 ty3 p5,.list 3 ty3 p6]] [] (.c (.own 500)) [(500,.row 4 ty4 y)]
theorem ek32 {R:Type} {c:C32} (hs:Sp32 c):EOk 32 (e32 (R:=R) c):=qam fun v=>hs v.1 v.2.1 v.2.2.1 v.2.2.2.1 v.2.2.2.2.1 v.2.2.2.2.2.1 v.2.2.2.2.2.2.1
theorem sf32 {c37:C37} {c23:C23} {c71:C71} {c70:C70} (h37:Sp37 c37) (h23:Sp23 c23) (h71:Sp71 c71) (h70:Sp70 c70):Sp32 (F32 c37 c23 c71 c70):=fun p0 p1 p2 p3 p4 p5 p6 y hy=>by
 refine qai (qac (ek37 h37) (qac (ek23 h23) (qac (ek71 h71) (qac (ek70 h70) qah)))) 1000000 (fn:=Tryz.f32) (by kernel_rfl) (by kernel_rfl) (X:=X32) (by kernel_rfl) ?_
 rw [eq32]
 exact (nt32 Ops.std c37 c23 c71 c70 p0 p1 p2 p3 p4 p5 p6 some (K31 k0)).trans (by show ob (F32 c37 c23 c71 c70 p0 p1 p2 p3 p4 p5 p6) _=_;rw [hy];rfl)
noncomputable def M32:C32:=F32 M37 M23 M71 M70
theorem sm32:Sp32 M32:=sf32 sm37 sm23 sm71 sm70
def X34:Aux:=⟨[(4,([3,4,5,6]++rg 10 39))],[(9,.lin ([0,1,2,3,4,5,7,8,9,10,6,11]))]⟩
inductive S34 where
 | l0 (v3:Int) (v4:L22) (v5:L3)
def T34 {R:Type} (B:Ops) (c37:C37) (c23:C23) (c72:C72) (p0:L66) (p1:Int) (p2:L4) (again:S34→Option R) (k:(Bool)→Option R):Option S34→Option R | none=>ob (c37 p0) fun y0=>ob (c23 p0) fun y1=>again (.l0 0 y0 y1) | some (.l0 v3 v4 v5)=>cond (B.lt v3 (↑v5.length)) (cond (B.inb v3 v5.length) (cond (B.inb (v5.getD v3.toNat ty3.dflt) p0.length) (cond (B.eq (p0.getD (Int.toNat (v5.getD v3.toNat ty3.dflt)) ty66.dflt).1 8) (cond (B.inb (v5.getD v3.toNat ty3.dflt) v4.length) (cond (B.inb 0 (List.length (v4.getD (Int.toNat (v5.getD v3.toNat ty3.dflt)) ty22.dflt))) (cond (B.inb v3 v5.length) (cond (B.inb (List.getD (v4.getD (Int.toNat (v5.getD v3.toNat ty3.dflt)) ty22.dflt) (Int.toNat 0) (Ty.dflt (Ty.int .i64))) p2.length) (ob (c72 v5 p1 (v5.getD v3.toNat ty3.dflt)) fun y0=>cond (!y0 == p2.getD (Int.toNat (List.getD (v4.getD (Int.toNat (v5.getD v3.toNat ty3.dflt)) ty22.dflt) (Int.toNat 0) (Ty.dflt (Ty.int .i64)))) ty4.dflt) (k false) (again (.l0 (IntKind.wrap .i64 (v3+1)) v4 v5))) none) none) none) none) (cond (B.inb v3 v5.length) (cond (B.inb (v5.getD v3.toNat ty3.dflt) p2.length) (ob (c72 v5 p1 (v5.getD v3.toNat ty3.dflt)) fun y0=>cond (!y0 == p2.getD (Int.toNat (v5.getD v3.toNat ty3.dflt)) ty4.dflt) (k false) (again (.l0 (IntKind.wrap .i64 (v3+1)) v4 v5))) none) none)) none) none) (k true)
def E34 (p0:L66) (p1:Int) (p2:L4):S34→List AV×Objs
 | .l0 v3 v4 v5=>(mk 49 [(0,.c (.list 66 ty66 p0)),(1,.c (.int .i64 p1)),(2,.c (.list 4 ty4 p2)),(7,.c (.own 7)),(8,.c (.own 8)),(9,.c (.int .i64 v3))],[(7,.row 22 ty22 v4),(8,.row 3 ty3 v5)])
def I34:S34→Nat
 | .l0 _ _ _=>0
noncomputable abbrev A34 {R:Type} (B:Ops) (c37:C37) (c23:C23) (c72:C72) (p0:L66) (p1:Int) (p2:L4) (k:AV→Objs→Option R) (s:S34) (n:Nat):Option R:=aloop tau B gl0 X34 (ent 37 (e37 c37) (ent 23 (e23 c23) (ent 72 (e72 c72) gnil))) ow [] Tryz.f34 k (I34 s) (E34 p0 p1 p2 s) n
theorem eq34 {R:Type} (B:Ops) (c37:C37) (c23:C23) (c72:C72) (p0:L66) (p1:Int) (p2:L4) (k:AV→Objs→Option R) (n:Nat):afun tau B gl0 X34 (ent 37 (e37 c37) (ent 23 (e23 c23) (ent 72 (e72 c72) gnil))) ow Tryz.f34 [.c (.list 66 ty66 p0),.c (.int .i64 p1),.c (.list 4 ty4 p2)] [] k n=T34 B c37 c23 c72 p0 p1 p2 (fun s=>A34 B c37 c23 c72 p0 p1 p2 k s n) (K2 k) none:=by kernel_rfl
theorem el34 {R:Type} (B:Ops) (c37:C37) (c23:C23) (c72:C72) (p0:L66) (p1:Int) (p2:L4) (k:AV→Objs→Option R) (n:Nat):∀ s,A34 B c37 c23 c72 p0 p1 p2 k s (n+1)=T34 B c37 c23 c72 p0 p1 p2 (fun s=>A34 B c37 c23 c72 p0 p1 p2 k s n) (K2 k) (some s):=by
 intro s
 cases s<;>kernel_rfl
theorem nt34 {R R':Type} (B:Ops) (c37:C37) (c23:C23) (c72:C72) (p0:L66) (p1:Int) (p2:L4) (again:S34→Option R) (again':S34→Option R') (k0:(Bool)→Option R') (k:R'→Option R) (h:∀ s,again s=ob (again' s) k):∀ s,T34 B c37 c23 c72 p0 p1 p2 again (fun y=>ob (k0 y) k) s=ob (T34 B c37 c23 c72 p0 p1 p2 again' k0 s) k:=by
 rintro (_ | x)
 all_goals try cases x
 all_goals (unfold T34;repeat' first | exact rfl | exact h _ | apply qae | (apply qaj;intro))
def R34 (c37:C37) (c23:C23) (c72:C72) (p0:L66) (p1:Int) (p2:L4):Nat→S34→Option (Bool)
 | 0,_=>none
 | n+1,s=>T34 Ops.std c37 c23 c72 p0 p1 p2 (R34 c37 c23 c72 p0 p1 p2 n) some (some s)
theorem rr34 {R:Type} (c37:C37) (c23:C23) (c72:C72) (p0:L66) (p1:Int) (p2:L4) (k:AV→Objs→Option R):∀ (n:Nat) (s:S34),A34 Ops.std c37 c23 c72 p0 p1 p2 k s n=ob (R34 c37 c23 c72 p0 p1 p2 n s) (K2 k)
 | 0,s=>by cases s<;>rfl
 | n+1,s=>by rw [el34];exact nt34 Ops.std c37 c23 c72 p0 p1 p2 _ _ some (K2 k) (rr34 c37 c23 c72 p0 p1 p2 k n) (some s)
def F34 (c37:C37) (c23:C23) (c72:C72) (p0:L66) (p1:Int) (p2:L4):Option (Bool):=T34 Ops.std c37 c23 c72 p0 p1 p2 (R34 c37 c23 c72 p0 p1 p2 1000000) some none
abbrev C34:Type:=L66→Int→L4→Option (Bool)
def e34 {R:Type} (c:C34):Ent R:=eG [.aC (.cL 66 ty66),.aC (.cI .i64),.aC (.cL 4 ty4)] [] fun v k=>ob (c v.1 v.2.1 v.2.2.1) (K2 k)
abbrev Sp34 (c:C34):Prop:=∀ (p0:L66) (p1:Int) (p2:L4) (y:Bool),c p0 p1 p2=some y→Spec Tryz.prog gl0 34 [.c (.list 66 ty66 p0),.c (.int .i64 p1),.c (.list 4 ty4 p2)] [] (.c (.bool y)) []
theorem ek34 {R:Type} {c:C34} (hs:Sp34 c):EOk 34 (e34 (R:=R) c):=qam fun v=>hs v.1 v.2.1 v.2.2.1
theorem sf34 {c37:C37} {c23:C23} {c72:C72} (h37:Sp37 c37) (h23:Sp23 c23) (h72:Sp72 c72):Sp34 (F34 c37 c23 c72):=fun p0 p1 p2 y hy=>by
 refine qai (qac (ek37 h37) (qac (ek23 h23) (qac (ek72 h72) qah))) 1000000 (fn:=Tryz.f34) (by kernel_rfl) (by kernel_rfl) (X:=X34) (by kernel_rfl) ?_
 rw [eq34]
 exact (nt34 Ops.std c37 c23 c72 p0 p1 p2 _ _ some (K2 k0) (rr34 c37 c23 c72 p0 p1 p2 k0 1000000) none).trans (by show ob (F34 c37 c23 c72 p0 p1 p2) _=_;rw [hy];rfl)
noncomputable def M34:C34:=F34 M37 M23 M72
theorem sm34:Sp34 M34:=sf34 sm37 sm23 sm72
def X47:Aux:=⟨[(7,([0,1,3,4]++rg 9 101)),(2000000,[])],[(24,.lin (rg 0 12))]⟩
inductive S47 where
 | l0 (v0 v1:Int) (v2:L9) (v6:L94) (v7:L98) (v8:L103)
def T47 {R:Type} (B:Ops) (c86:C86) (c87:C87) (c88:C88) (c90:C90) (c89:C89) (c18:C18) (p0:LB) (again:S47→Option R) (k:(L94×L98×L103×Int×Int)→Option R):Option S47→Option R | none=>cond (B.lt 60000 (↑p0.length)) (k ((mt (Ty.den ty94),mt (Ty.den ty98),mt (Ty.den ty103),14,0))) (ob (c86 p0 10) fun y0=>again (.l0 0 0 y0 (mt (Ty.den ty94)) (mt (Ty.den ty98)) (mt (Ty.den ty103)))) | some (.l0 v0 v1 v2 v6 v7 v8)=>cond (B.lt v1 (↑v2.length)) (cond (B.inb v1 v2.length) (cond (v2.getD v1.toNat ty9.dflt == mt UInt8) (again (.l0 v0 (IntKind.wrap .i64 (v1+1)) v2 v6 v7 v8)) (cond (B.inb v1 v2.length) (ob (c87 (v2.getD v1.toNat ty9.dflt)) fun y0=>cond (B.lt 0 (↑y0.length)) (cond (B.inb 0 y0.length) (cond (y0.getD (Int.toNat 0) ty9.dflt == ([118,97,114]:LB)) (cond (B.inb 1 (List.length y0+1)) (ob (c88 (List.drop (Int.toNat 1) (List.take y0.length y0))) fun y1=>cond (B.lim (List.length v6+List.length ((y1.1,y1.2.1,y1.2.2.1,y1.2.2.2.1)::mt (Ty.den ty94))) 40) (cond (!y1.2.2.2.2) (k ((mt (Ty.den ty94),mt (Ty.den ty98),mt (Ty.den ty103),2,IntKind.wrap .i64 (v1+1)))) (cond (B.lt 1 v0) (k ((mt (Ty.den ty94),mt (Ty.den ty98),mt (Ty.den ty103),2,IntKind.wrap .i64 (v1+1)))) (again (.l0 1 (IntKind.wrap .i64 (v1+1)) v2 (v6++(y1.1,y1.2.1,y1.2.2.1,y1.2.2.2.1)::mt (Ty.den ty94)) v7 v8)))) none) none) (cond (y0.getD (Int.toNat 0) ty9.dflt == ([112,114,111,99]:LB)) (cond (B.lt 1 (↑y0.length)) (cond (B.inb 1 y0.length) (cond (B.inb 2 (List.length y0+1)) (cond (B.lim (List.length v7+List.length ((y0.getD (Int.toNat 1) ty9.dflt,List.drop (Int.toNat 2) (List.take y0.length y0))::mt (Ty.den ty98))) 40) (cond (!B.lt 1 (↑y0.length)) (k ((mt (Ty.den ty94),mt (Ty.den ty98),mt (Ty.den ty103),2,IntKind.wrap .i64 (v1+1)))) (cond (B.lt 2 v0) (k ((mt (Ty.den ty94),mt (Ty.den ty98),mt (Ty.den ty103),2,IntKind.wrap .i64 (v1+1)))) (again (.l0 2 (IntKind.wrap .i64 (v1+1)) v2 v6 (v7++(y0.getD (Int.toNat 1) ty9.dflt,List.drop (Int.toNat 2) (List.take y0.length y0))::mt (Ty.den ty98)) v8)))) none) none) none) (cond (!B.lt 1 (↑y0.length)) (k ((mt (Ty.den ty94),mt (Ty.den ty98),mt (Ty.den ty103),2,IntKind.wrap .i64 (v1+1)))) (cond (B.lt 2 v0) (k ((mt (Ty.den ty94),mt (Ty.den ty98),mt (Ty.den ty103),2,IntKind.wrap .i64 (v1+1)))) (again (.l0 2 (IntKind.wrap .i64 (v1+1)) v2 v6 v7 v8))))) (cond (y0.getD (Int.toNat 0) ty9.dflt == ([116,114,97,110,115]:LB)) (cond (B.inb v1 v2.length) (ob (c90 (v2.getD v1.toNat ty9.dflt) 1) fun y1=>ob (c89 y1) fun y2=>cond (B.lim (List.length v8+List.length ((y2.1,y2.2.1,y2.2.2.1,y2.2.2.2.1,y2.2.2.2.2.1,y2.2.2.2.2.2.1,y2.2.2.2.2.2.2.1)::mt (Ty.den ty103))) 120) (cond (!y2.2.2.2.2.2.2.2) (k ((mt (Ty.den ty94),mt (Ty.den ty98),mt (Ty.den ty103),2,IntKind.wrap .i64 (v1+1)))) (cond (B.lt 3 v0) (k ((mt (Ty.den ty94),mt (Ty.den ty98),mt (Ty.den ty103),2,IntKind.wrap .i64 (v1+1)))) (again (.l0 3 (IntKind.wrap .i64 (v1+1)) v2 v6 v7 (v8++(y2.1,y2.2.1,y2.2.2.1,y2.2.2.2.1,y2.2.2.2.2.1,y2.2.2.2.2.2.1,y2.2.2.2.2.2.2.1)::mt (Ty.den ty103)))))) none) none) (k ((mt (Ty.den ty94),mt (Ty.den ty98),mt (Ty.den ty103),2,IntKind.wrap .i64 (v1+1))))))) none) (k ((mt (Ty.den ty94),mt (Ty.den ty98),mt (Ty.den ty103),2,IntKind.wrap .i64 (v1+1))))) none)) none) (ob (c18 v6 v7 v8) fun y0=>cond (!y0) (k ((mt (Ty.den ty94),mt (Ty.den ty98),mt (Ty.den ty103),2,0))) (k (v6,v7,v8,0,0)))
def E47 (p0:LB):S47→List AV×Objs
 | .l0 v0 v1 v2 v6 v7 v8=>(mk 110 [(2,.c (.ptr 2 0)),(5,.c (.ptr 5 0)),(6,.c (.int .i64 v0)),(7,.c (.own 7)),(8,.c (.int .i64 v1))],[(2,.box 31 [.own 3000,.own 3001,.own 3002]),(5,.box 31 [.own 6000,.own 6001,.own 6002]),(7,.row 9 ty9 v2),(3000,.row 94 ty94 (mt (Ty.den ty94))),(3001,.row 98 ty98 (mt (Ty.den ty98))),(3002,.row 103 ty103 (mt (Ty.den ty103))),(6000,.row 94 ty94 v6),(6001,.row 98 ty98 v7),(6002,.row 103 ty103 v8)])
def I47:S47→Nat
 | .l0 _ _ _ _ _ _=>0
abbrev K32 {R:Type} (k:AV→Objs→Option R) (y:(L94×L98×L103×Int×Int)):Option R:=k (.tup [(true,[.list 94 ty94 y.1,.list 98 ty98 y.2.1,.list 103 ty103 y.2.2.1]),(false,[.int .i64 y.2.2.2.1]),(false,[.int .i64 y.2.2.2.2])]) []
noncomputable abbrev A47 {R:Type} (B:Ops) (c86:C86) (c87:C87) (c88:C88) (c90:C90) (c89:C89) (c18:C18) (p0:LB) (k:AV→Objs→Option R) (s:S47) (n:Nat):Option R:=aloop tau B gl0 X47 (ent 86 (e86 c86) (ent 87 (e87 c87) (ent 88 (e88 c88) (ent 90 (e90 c90) (ent 89 (e89 c89) (ent 18 (e18 c18) gnil)))))) ow [] Tryz.f47 k (I47 s) (E47 p0 s) n
theorem eq47 {R:Type} (B:Ops) (c86:C86) (c87:C87) (c88:C88) (c90:C90) (c89:C89) (c18:C18) (p0:LB) (k:AV→Objs→Option R) (n:Nat):afun tau B gl0 X47 (ent 86 (e86 c86) (ent 87 (e87 c87) (ent 88 (e88 c88) (ent 90 (e90 c90) (ent 89 (e89 c89) (ent 18 (e18 c18) gnil)))))) ow Tryz.f47 [.c (.str p0)] [] k n=T47 B c86 c87 c88 c90 c89 c18 p0 (fun s=>A47 B c86 c87 c88 c90 c89 c18 p0 k s n) (K32 k) none:=by kernel_rfl
theorem el47 {R:Type} (B:Ops) (c86:C86) (c87:C87) (c88:C88) (c90:C90) (c89:C89) (c18:C18) (p0:LB) (k:AV→Objs→Option R) (n:Nat):∀ s,A47 B c86 c87 c88 c90 c89 c18 p0 k s (n+1)=T47 B c86 c87 c88 c90 c89 c18 p0 (fun s=>A47 B c86 c87 c88 c90 c89 c18 p0 k s n) (K32 k) (some s):=by
 intro s
 cases s<;>kernel_rfl
theorem nt47 {R R':Type} (B:Ops) (c86:C86) (c87:C87) (c88:C88) (c90:C90) (c89:C89) (c18:C18) (p0:LB) (again:S47→Option R) (again':S47→Option R') (k0:(L94×L98×L103×Int×Int)→Option R') (k:R'→Option R) (h:∀ s,again s=ob (again' s) k):∀ s,T47 B c86 c87 c88 c90 c89 c18 p0 again (fun y=>ob (k0 y) k) s=ob (T47 B c86 c87 c88 c90 c89 c18 p0 again' k0 s) k:=by
 rintro (_ | x)
 all_goals try cases x
 all_goals (unfold T47;repeat' first | exact rfl | exact h _ | apply qae | (apply qaj;intro))
def R47 (c86:C86) (c87:C87) (c88:C88) (c90:C90) (c89:C89) (c18:C18) (p0:LB):Nat→S47→Option (L94×L98×L103×Int×Int)
 | 0,_=>none
 | n+1,s=>T47 Ops.std c86 c87 c88 c90 c89 c18 p0 (R47 c86 c87 c88 c90 c89 c18 p0 n) some (some s)
theorem rr47 {R:Type} (c86:C86) (c87:C87) (c88:C88) (c90:C90) (c89:C89) (c18:C18) (p0:LB) (k:AV→Objs→Option R):∀ (n:Nat) (s:S47),A47 Ops.std c86 c87 c88 c90 c89 c18 p0 k s n=ob (R47 c86 c87 c88 c90 c89 c18 p0 n s) (K32 k)
 | 0,s=>by cases s<;>rfl
 | n+1,s=>by rw [el47];exact nt47 Ops.std c86 c87 c88 c90 c89 c18 p0 _ _ some (K32 k) (rr47 c86 c87 c88 c90 c89 c18 p0 k n) (some s)
def F47 (c86:C86) (c87:C87) (c88:C88) (c90:C90) (c89:C89) (c18:C18) (p0:LB):Option (L94×L98×L103×Int×Int):=T47 Ops.std c86 c87 c88 c90 c89 c18 p0 (R47 c86 c87 c88 c90 c89 c18 p0 1000000) some none
abbrev C47:Type:=LB→Option (L94×L98×L103×Int×Int)
def e47 {R:Type} (c:C47):Ent R:=eG [.aC .cS] [] fun v k=>ob (c v.1) (K32 k)
abbrev Sp47 (c:C47):Prop:=∀ (p0:LB) (y:L94×L98×L103×Int×Int),c p0=some y→Spec Tryz.prog gl0 47 [.c (.str p0)] [] (.tup [(true,[.list 94 ty94 y.1,.list 98 ty98 y.2.1,.list 103 ty103 y.2.2.1]),(false,[.int .i64 y.2.2.2.1]),(false,[.int .i64 y.2.2.2.2])]) []
theorem ek47 {R:Type} {c:C47} (hs:Sp47 c):EOk 47 (e47 (R:=R) c):=qam fun v=>hs v.1
theorem sf47 {c86:C86} {c87:C87} {c88:C88} {c90:C90} {c89:C89} {c18:C18} (h86:Sp86 c86) (h87:Sp87 c87) (h88:Sp88 c88) (h90:Sp90 c90) (h89:Sp89 c89) (h18:Sp18 c18):Sp47 (F47 c86 c87 c88 c90 c89 c18):=fun p0 y hy=>by
 refine qai (qac (ek86 h86) (qac (ek87 h87) (qac (ek88 h88) (qac (ek90 h90) (qac (ek89 h89) (qac (ek18 h18) qah)))))) 1000000 (fn:=Tryz.f47) (by kernel_rfl) (by kernel_rfl) (X:=X47) (by kernel_rfl) ?_
 rw [eq47]
 exact (nt47 Ops.std c86 c87 c88 c90 c89 c18 p0 _ _ some (K32 k0) (rr47 c86 c87 c88 c90 c89 c18 p0 k0 1000000) none).trans (by show ob (F47 c86 c87 c88 c90 c89 c18 p0) _=_;rw [hy];rfl)
noncomputable def M47:C47:=F47 M86 M87 M88 M90 M89 M18
theorem sm47:Sp47 M47:=sf47 sm86 sm87 sm88 sm90 sm89 sm18
def X12:Aux:=⟨[],[]⟩
def T12 {R:Type} (B:Ops) (c48:C48) (c47:C47) (p0 p1:Int) (p2:L22) (k:(L94×L98×L103)→Option R):Option R:=ob (c48 p0 p1 p2) fun y0=>ob (c47 y0) fun y1=>k (y1.1,y1.2.1,y1.2.2.1)
abbrev K33 {R:Type} (k:AV→Objs→Option R) (y:(L94×L98×L103)):Option R:=k (.agg [.list 94 ty94 y.1,.list 98 ty98 y.2.1,.list 103 ty103 y.2.2]) []
theorem eq12 {R:Type} (B:Ops) (c48:C48) (c47:C47) (p0 p1:Int) (p2:L22) (k:AV→Objs→Option R) (n:Nat):afun tau B gl0 X12 (ent 48 (e48 c48) (ent 47 (e47 c47) gnil)) ow Tryz.f12 [.agg [.int .i64 p0,.int .i64 p1,.list 22 ty22 p2]] [] k n=T12 B c48 c47 p0 p1 p2 (K33 k):=by kernel_rfl
theorem nt12 {R R':Type} (B:Ops) (c48:C48) (c47:C47) (p0 p1:Int) (p2:L22) (k0:(L94×L98×L103)→Option R') (k:R'→Option R):T12 B c48 c47 p0 p1 p2 (fun y=>ob (k0 y) k)=ob (T12 B c48 c47 p0 p1 p2 k0) k:=by
 unfold T12
 repeat' first | exact rfl | apply qae | (apply qaj;intro)
def F12 (c48:C48) (c47:C47) (p0 p1:Int) (p2:L22):Option (L94×L98×L103):=T12 Ops.std c48 c47 p0 p1 p2 some
abbrev C12:Type:=Int→Int→L22→Option (L94×L98×L103)
def e12 {R:Type} (c:C12):Ent R:=eG [.aG [.cI .i64,.cI .i64,.cL 22 ty22]] [] fun v k=>ob (c v.1 v.2.1 v.2.2.1) (K33 k)
abbrev Sp12 (c:C12):Prop:=∀ (p0 p1:Int) (p2:L22) (y:L94×L98×L103),c p0 p1 p2=some y→Spec Tryz.prog gl0 12 [.agg [.int .i64 p0,.int .i64 p1,.list 22 ty22 p2]] [] (.agg [.list 94 ty94 y.1,.list 98 ty98 y.2.1,.list 103 ty103 y.2.2]) []
theorem ek12 {R:Type} {c:C12} (hs:Sp12 c):EOk 12 (e12 (R:=R) c):=qam fun v=>hs v.1 v.2.1 v.2.2.1
theorem sf12 {c48:C48} {c47:C47} (h48:Sp48 c48) (h47:Sp47 c47):Sp12 (F12 c48 c47):=fun p0 p1 p2 y hy=>by
 refine qai (qac (ek48 h48) (qac (ek47 h47) qah)) 1000000 (fn:=Tryz.f12) (by kernel_rfl) (by kernel_rfl) (X:=X12) (by kernel_rfl) ?_
 rw [eq12]
 exact (nt12 Ops.std c48 c47 p0 p1 p2 some (K33 k0)).trans (by show ob (F12 c48 c47 p0 p1 p2) _=_;rw [hy];rfl)
noncomputable def M12:C12:=F12 M48 M47
theorem sm12:Sp12 M12:=sf12 sm48 sm47
def X36:Aux:=⟨[(3,([0,2,4,6]++rg 9 26))],[]⟩
inductive S36 where
 | l0 (v1:Int) (v7:L3)
def T36 {R:Type} (B:Ops) (c23:C23) (c32:C32) (p0:L94) (p1:L98) (p2:L103) (p3:L66) (p4 p5:L3) (again:S36→Option R) (k:(L3)→Option R):Option S36→Option R | none=>again (.l0 0 (mt (Ty.den (Ty.int .i64)))) | some (.l0 v1 v7)=>ob (c23 p3) fun y0=>cond (B.lt (IntKind.wrap IntKind.u64 (↑y0.length)) 0) none (cond (B.lt v1 (bif true then shlI IntKind.i64 1 (IntKind.wrap IntKind.u64 (↑y0.length)) else shrI IntKind.i64 1 (IntKind.wrap IntKind.u64 (↑y0.length)))) (ob (c32 p0 p1 p2 p3 v1 p4 p5) fun y1=>cond (B.inb (IntKind.wrap .i64 (Nat.cast y1.length-1)) y1.length) (cond (y1.getD (Int.toNat (IntKind.wrap .i64 (Nat.cast y1.length-1))) ty4.dflt) (cond (B.lim (List.length v7+List.length (v1::mt (Ty.den (Ty.int .i64)))) 8) (again (.l0 (IntKind.wrap .i64 (v1+1)) (v7++v1::mt (Ty.den (Ty.int .i64))))) none) (again (.l0 (IntKind.wrap .i64 (v1+1)) v7))) none) (k v7))
def E36 (p0:L94) (p1:L98) (p2:L103) (p3:L66) (p4 p5:L3):S36→List AV×Objs
 | .l0 v1 v7=>(mk 35 [(1,.c (.list 66 ty66 p3)),(3,.c (.ptr 3 0)),(5,.c (.ptr 5 0)),(7,.c (.own 7)),(8,.c (.int .i64 v1))],[(3,.box 31 [.list 94 ty94 p0,.list 98 ty98 p1,.list 103 ty103 p2]),(5,.box 57 [.list 3 ty3 p4,.list 3 ty3 p5]),(7,.row 3 ty3 v7)])
def I36:S36→Nat
 | .l0 _ _=>0
noncomputable abbrev A36 {R:Type} (B:Ops) (c23:C23) (c32:C32) (p0:L94) (p1:L98) (p2:L103) (p3:L66) (p4 p5:L3) (k:AV→Objs→Option R) (s:S36) (n:Nat):Option R:=aloop tau B gl0 X36 (ent 23 (e23 c23) (ent 32 (e32 c32) gnil)) ow [] Tryz.f36 k (I36 s) (E36 p0 p1 p2 p3 p4 p5 s) n
theorem eq36 {R:Type} (B:Ops) (c23:C23) (c32:C32) (p0:L94) (p1:L98) (p2:L103) (p3:L66) (p4 p5:L3) (k:AV→Objs→Option R) (n:Nat):afun tau B gl0 X36 (ent 23 (e23 c23) (ent 32 (e32 c32) gnil)) ow Tryz.f36 [.agg [.list 94 ty94 p0,.list 98 ty98 p1,.list 103 ty103 p2],.c (.list 66 ty66 p3),.agg [.list 3 ty3 p4,.list 3 ty3 p5]] [] k n=T36 B c23 c32 p0 p1 p2 p3 p4 p5 (fun s=>A36 B c23 c32 p0 p1 p2 p3 p4 p5 k s n) (K4 k) none:=by kernel_rfl
theorem el36 {R:Type} (B:Ops) (c23:C23) (c32:C32) (p0:L94) (p1:L98) (p2:L103) (p3:L66) (p4 p5:L3) (k:AV→Objs→Option R) (n:Nat):∀ s,A36 B c23 c32 p0 p1 p2 p3 p4 p5 k s (n+1)=T36 B c23 c32 p0 p1 p2 p3 p4 p5 (fun s=>A36 B c23 c32 p0 p1 p2 p3 p4 p5 k s n) (K4 k) (some s):=by
 intro s
 cases s<;>kernel_rfl
theorem nt36 {R R':Type} (B:Ops) (c23:C23) (c32:C32) (p0:L94) (p1:L98) (p2:L103) (p3:L66) (p4 p5:L3) (again:S36→Option R) (again':S36→Option R') (k0:(L3)→Option R') (k:R'→Option R) (h:∀ s,again s=ob (again' s) k):∀ s,T36 B c23 c32 p0 p1 p2 p3 p4 p5 again (fun y=>ob (k0 y) k) s=ob (T36 B c23 c32 p0 p1 p2 p3 p4 p5 again' k0 s) k:=by
 rintro (_ | x)
 all_goals try cases x
 all_goals (unfold T36;repeat' first | exact rfl | exact h _ | apply qae | (apply qaj;intro))
def R36 (c23:C23) (c32:C32) (p0:L94) (p1:L98) (p2:L103) (p3:L66) (p4 p5:L3):Nat→S36→Option (L3)
 | 0,_=>none
 | n+1,s=>T36 Ops.std c23 c32 p0 p1 p2 p3 p4 p5 (R36 c23 c32 p0 p1 p2 p3 p4 p5 n) some (some s)
theorem rr36 {R:Type} (c23:C23) (c32:C32) (p0:L94) (p1:L98) (p2:L103) (p3:L66) (p4 p5:L3) (k:AV→Objs→Option R):∀ (n:Nat) (s:S36),A36 Ops.std c23 c32 p0 p1 p2 p3 p4 p5 k s n=ob (R36 c23 c32 p0 p1 p2 p3 p4 p5 n s) (K4 k)
 | 0,s=>by cases s<;>rfl
 | n+1,s=>by rw [el36];exact nt36 Ops.std c23 c32 p0 p1 p2 p3 p4 p5 _ _ some (K4 k) (rr36 c23 c32 p0 p1 p2 p3 p4 p5 k n) (some s)
def F36 (c23:C23) (c32:C32) (p0:L94) (p1:L98) (p2:L103) (p3:L66) (p4 p5:L3):Option (L3):=T36 Ops.std c23 c32 p0 p1 p2 p3 p4 p5 (R36 c23 c32 p0 p1 p2 p3 p4 p5 1000000) some none
abbrev C36:Type:=L94→L98→L103→L66→L3→L3→Option (L3)
def e36 {R:Type} (c:C36):Ent R:=eG [.aG [.cL 94 ty94,.cL 98 ty98,.cL 103 ty103],.aC (.cL 66 ty66),.aG [.cL 3 ty3,.cL 3 ty3]] [] fun v k=>ob (c v.1 v.2.1 v.2.2.1 v.2.2.2.1 v.2.2.2.2.1 v.2.2.2.2.2.1) (K4 k)
abbrev Sp36 (c:C36):Prop:=∀ (p0:L94) (p1:L98) (p2:L103) (p3:L66) (p4 p5 y:L3),c p0 p1 p2 p3 p4 p5=some y→Spec Tryz.prog gl0 36 [.agg [.list 94 ty94 p0,.list 98 ty98 p1,.list 103 ty103 p2],.c (.list 66 ty66 p3),.agg [.list 3 ty3 p4,.list 3 ty3 p5]] [] (.c (.own 500)) [(500,.row 3 ty3 y)]
theorem ek36 {R:Type} {c:C36} (hs:Sp36 c):EOk 36 (e36 (R:=R) c):=qam fun v=>hs v.1 v.2.1 v.2.2.1 v.2.2.2.1 v.2.2.2.2.1 v.2.2.2.2.2.1
theorem sf36 {c23:C23} {c32:C32} (h23:Sp23 c23) (h32:Sp32 c32):Sp36 (F36 c23 c32):=fun p0 p1 p2 p3 p4 p5 y hy=>by
 refine qai (qac (ek23 h23) (qac (ek32 h32) qah)) 1000000 (fn:=Tryz.f36) (by kernel_rfl) (by kernel_rfl) (X:=X36) (by kernel_rfl) ?_
 rw [eq36]
 exact (nt36 Ops.std c23 c32 p0 p1 p2 p3 p4 p5 _ _ some (K4 k0) (rr36 c23 c32 p0 p1 p2 p3 p4 p5 k0 1000000) none).trans (by show ob (F36 c23 c32 p0 p1 p2 p3 p4 p5) _=_;rw [hy];rfl)
noncomputable def M36:C36:=F36 M23 M32
theorem sm36:Sp36 M36:=sf36 sm23 sm32
def X33:Aux:=⟨[(6,([3,4,5,6,7,8]++rg 10 30++rg 43 28))],[(11,.lin (rg 0 10))]⟩
inductive S33 where
 | l0 (v3 v4:Int) (v5:L22) (v6:L3)
def T33 {R:Type} (B:Ops) (c26:C26) (c52:C52) (p0:L66) (p1:Int) (p2:L4) (again:S33→Option R) (k:(Bool)→Option R):Option S33→Option R | none=>ob (c26 p0) fun y0=>cond (!B.eq y0.1 0) (k false) (cond (!B.eq (↑p2.length) (↑p0.length)) (k false) (cond (B.lt p1 0) (k false) (cond (B.lt (Nat.cast (List.length y0.2)) 0) none (cond (B.lt 0 (bif false then shlI IntKind.i64 p1 (Nat.cast (List.length y0.2)) else shrI IntKind.i64 p1 (Nat.cast (List.length y0.2)))) (k false) (ob (c52 p0) fun y1=>again (.l0 (Nat.cast (List.length y0.2)) 0 y1 y0.2)))))) | some (.l0 v3 v4 v5 v6)=>cond (B.lt v4 v3) (cond (B.inb v4 v6.length) (cond (B.inb (v6.getD v4.toNat ty3.dflt) p0.length) (cond (B.eq (p0.getD (Int.toNat (v6.getD v4.toNat ty3.dflt)) ty66.dflt).1 8) (cond (B.inb (v6.getD v4.toNat ty3.dflt) v5.length) (cond (B.inb 0 (List.length (v5.getD (Int.toNat (v6.getD v4.toNat ty3.dflt)) ty22.dflt))) (cond (B.inb (List.getD (v5.getD (Int.toNat (v6.getD v4.toNat ty3.dflt)) ty22.dflt) (Int.toNat 0) (Ty.dflt (Ty.int .i64))) p2.length) (cond (B.lt v4 0) none (cond (!p2.getD (Int.toNat (List.getD (v5.getD (Int.toNat (v6.getD v4.toNat ty3.dflt)) ty22.dflt) (Int.toNat 0) (Ty.dflt (Ty.int .i64)))) ty4.dflt == B.lt 0 (bitAnd IntKind.i64 (bif false then shlI IntKind.i64 p1 v4 else shrI IntKind.i64 p1 v4) 1)) (k false) (again (.l0 v3 (IntKind.wrap .i64 (v4+1)) v5 v6)))) none) none) none) (cond (B.inb (v6.getD v4.toNat ty3.dflt) p2.length) (cond (B.lt v4 0) none (cond (!p2.getD (Int.toNat (v6.getD v4.toNat ty3.dflt)) ty4.dflt == B.lt 0 (bitAnd IntKind.i64 (bif false then shlI IntKind.i64 p1 v4 else shrI IntKind.i64 p1 v4) 1)) (k false) (again (.l0 v3 (IntKind.wrap .i64 (v4+1)) v5 v6)))) none)) none) none) (k true)
def E33 (p0:L66) (p1:Int) (p2:L4):S33→List AV×Objs
 | .l0 v3 v4 v5 v6=>(mk 71 [(0,.c (.list 66 ty66 p0)),(1,.c (.int .i64 p1)),(2,.c (.list 4 ty4 p2)),(9,.c (.own 9)),(40,.c (.own 40)),(41,.c (.int .i64 v3)),(42,.c (.int .i64 v4))],[(9,.row 22 ty22 v5),(40,.row 3 ty3 v6)])
def I33:S33→Nat
 | .l0 _ _ _ _=>0
noncomputable abbrev A33 {R:Type} (B:Ops) (c26:C26) (c52:C52) (p0:L66) (p1:Int) (p2:L4) (k:AV→Objs→Option R) (s:S33) (n:Nat):Option R:=aloop tau B gl0 X33 (ent 26 (e26 c26) (ent 52 (e52 c52) gnil)) ow [] Tryz.f33 k (I33 s) (E33 p0 p1 p2 s) n
theorem eq33 {R:Type} (B:Ops) (c26:C26) (c52:C52) (p0:L66) (p1:Int) (p2:L4) (k:AV→Objs→Option R) (n:Nat):afun tau B gl0 X33 (ent 26 (e26 c26) (ent 52 (e52 c52) gnil)) ow Tryz.f33 [.c (.list 66 ty66 p0),.c (.int .i64 p1),.c (.list 4 ty4 p2)] [] k n=T33 B c26 c52 p0 p1 p2 (fun s=>A33 B c26 c52 p0 p1 p2 k s n) (K2 k) none:=by kernel_rfl
theorem el33 {R:Type} (B:Ops) (c26:C26) (c52:C52) (p0:L66) (p1:Int) (p2:L4) (k:AV→Objs→Option R) (n:Nat):∀ s,A33 B c26 c52 p0 p1 p2 k s (n+1)=T33 B c26 c52 p0 p1 p2 (fun s=>A33 B c26 c52 p0 p1 p2 k s n) (K2 k) (some s):=by
 intro s
 cases s<;>kernel_rfl
theorem nt33 {R R':Type} (B:Ops) (c26:C26) (c52:C52) (p0:L66) (p1:Int) (p2:L4) (again:S33→Option R) (again':S33→Option R') (k0:(Bool)→Option R') (k:R'→Option R) (h:∀ s,again s=ob (again' s) k):∀ s,T33 B c26 c52 p0 p1 p2 again (fun y=>ob (k0 y) k) s=ob (T33 B c26 c52 p0 p1 p2 again' k0 s) k:=by
 rintro (_ | x)
 all_goals try cases x
 all_goals (unfold T33;repeat' first | exact rfl | exact h _ | apply qae | (apply qaj;intro))
def R33 (c26:C26) (c52:C52) (p0:L66) (p1:Int) (p2:L4):Nat→S33→Option (Bool)
 | 0,_=>none
 | n+1,s=>T33 Ops.std c26 c52 p0 p1 p2 (R33 c26 c52 p0 p1 p2 n) some (some s)
theorem rr33 {R:Type} (c26:C26) (c52:C52) (p0:L66) (p1:Int) (p2:L4) (k:AV→Objs→Option R):∀ (n:Nat) (s:S33),A33 Ops.std c26 c52 p0 p1 p2 k s n=ob (R33 c26 c52 p0 p1 p2 n s) (K2 k)
 | 0,s=>by cases s<;>rfl
 | n+1,s=>by rw [el33];exact nt33 Ops.std c26 c52 p0 p1 p2 _ _ some (K2 k) (rr33 c26 c52 p0 p1 p2 k n) (some s)
def F33 (c26:C26) (c52:C52) (p0:L66) (p1:Int) (p2:L4):Option (Bool):=T33 Ops.std c26 c52 p0 p1 p2 (R33 c26 c52 p0 p1 p2 1000000) some none
abbrev C33:Type:=L66→Int→L4→Option (Bool)
def e33 {R:Type} (c:C33):Ent R:=eG [.aC (.cL 66 ty66),.aC (.cI .i64),.aC (.cL 4 ty4)] [] fun v k=>ob (c v.1 v.2.1 v.2.2.1) (K2 k)
abbrev Sp33 (c:C33):Prop:=∀ (p0:L66) (p1:Int) (p2:L4) (y:Bool),c p0 p1 p2=some y→Spec Tryz.prog gl0 33 [.c (.list 66 ty66 p0),.c (.int .i64 p1),.c (.list 4 ty4 p2)] [] (.c (.bool y)) []
theorem ek33 {R:Type} {c:C33} (hs:Sp33 c):EOk 33 (e33 (R:=R) c):=qam fun v=>hs v.1 v.2.1 v.2.2.1
theorem sf33 {c26:C26} {c52:C52} (h26:Sp26 c26) (h52:Sp52 c52):Sp33 (F33 c26 c52):=fun p0 p1 p2 y hy=>by
 refine qai (qac (ek26 h26) (qac (ek52 h52) qah)) 1000000 (fn:=Tryz.f33) (by kernel_rfl) (by kernel_rfl) (X:=X33) (by kernel_rfl) ?_
 rw [eq33]
 exact (nt33 Ops.std c26 c52 p0 p1 p2 _ _ some (K2 k0) (rr33 c26 c52 p0 p1 p2 k0 1000000) none).trans (by show ob (F33 c26 c52 p0 p1 p2) _=_;rw [hy];rfl)
noncomputable def M33:C33:=F33 M26 M52
theorem sm33:Sp33 M33:=sf33 sm26 sm52
end Go.Proofs.YtccnmhdgghjgoaaGreatDoor.Av
