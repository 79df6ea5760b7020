/- Twins of functions,printed by gen.py. Conditions: none. -/
import Derived.Test.YtccnmhdgghjgoaaGreatDoorTt2
import Derived.KernelRfl
set_option linter.unusedSimpArgs false
set_option linter.unusedVariables false
set_option maxRecDepth 100000
set_option maxHeartbeats 8000000
namespace Go.Proofs.YtccnmhdgghjgoaaGreatDoor.Av
open Go
def X148:Aux:=⟨[],[(6,.lin [0,1,2,3,4,5,6,7,8]),(8,.lin [0,1,2,3,4,5,6,7])]⟩
def T148 {R:Type} (B:Ops) (c82:C82) (c177:C177) (p0:LB) (k:(Int×Int×L150)→Option R):Option R:=ob (c82 p0) fun y0=>cond (!B.eq y0.1 0) (k ((y0.1,y0.2.1,mt (Ty.den ty150)))) (ob (c177 y0.2.2 0) fun y1=>cond (!B.eq y1.2.1 0) (cond (B.inb y1.1 (List.length y0.2.2)) (k ((y1.2.1,(((List.getD y0.2.2 (Int.toNat y1.1) ty130.dflt).2).2).2,mt (Ty.den ty150)))) none) (cond (B.inb y1.1 (List.length y0.2.2)) (cond (!B.eq (List.getD y0.2.2 (Int.toNat y1.1) ty130.dflt).1 5) (cond (B.inb y1.1 (List.length y0.2.2)) (k ((2,(((List.getD y0.2.2 (Int.toNat y1.1) ty130.dflt).2).2).2,mt (Ty.den ty150)))) none) (k (0,0,y1.2.2))) none))
theorem eq148 {R:Type} (B:Ops) (c82:C82) (c177:C177) (p0:LB) (k:AV→Objs→Option R) (n:Nat):afun tau B gl0 X148 (ent 82 (e82 c82) (ent 177 (e177 c177) gnil)) ow Tryz.f148 [.c (.str p0)] [] k n=T148 B c82 c177 p0 (K21 k):=by kernel_rfl
theorem nt148 {R R':Type} (B:Ops) (c82:C82) (c177:C177) (p0:LB) (k0:(Int×Int×L150)→Option R') (k:R'→Option R):T148 B c82 c177 p0 (fun y=>ob (k0 y) k)=ob (T148 B c82 c177 p0 k0) k:=by
 unfold T148
 repeat' first | exact rfl | apply qae | (apply qaj;intro)
def F148 (c82:C82) (c177:C177) (p0:LB):Option (Int×Int×L150):=T148 Ops.std c82 c177 p0 some
abbrev C148:Type:=LB→Option (Int×Int×L150)
def e148 {R:Type} (c:C148):Ent R:=eG [.aC .cS] [] fun v k=>ob (c v.1) (K21 k)
abbrev Sp148 (c:C148):Prop:=∀ (p0:LB) (y:Int×Int×L150),c p0=some y→Spec Tryz.prog gl0 148 [.c (.str p0)] [] (.tup [(false,[.own 501000]),(false,[.int .i64 y.1]),(false,[.int .i64 y.2.1])]) [(501000,.row 150 ty150 y.2.2)]
theorem ek148 {R:Type} {c:C148} (hs:Sp148 c):EOk 148 (e148 (R:=R) c):=qam fun v=>hs v.1
theorem sf148 {c82:C82} {c177:C177} (h82:Sp82 c82) (h177:Sp177 c177):Sp148 (F148 c82 c177):=fun p0 y hy=>by
 refine qai (qac (ek82 h82) (qac (ek177 h177) qah)) 1000000 (fn:=Tryz.f148) (by kernel_rfl) (by kernel_rfl) (X:=X148) (by kernel_rfl) ?_
 rw [eq148]
 exact (nt148 Ops.std c82 c177 p0 some (K21 k0)).trans (by show ob (F148 c82 c177 p0) _=_;rw [hy];rfl)
noncomputable def M148:C148:=F148 M82 M177
theorem sm148:Sp148 M148:=sf148 sm82 sm177
def X149:Aux:=⟨[(3,([1,2,3]++rg 6 74))],[]⟩
inductive S149 where
 | l0 (v1:Int) (v2:L157)
def T149 {R:Type} (B:Ops) (c82:C82) (c177:C177) (p0:L9) (again:S149→Option R) (k:(Bool×L157)→Option R):Option S149→Option R | none=>again (.l0 0 (mt (Ty.den ty157))) | some (.l0 v1 v2)=>cond (B.lt v1 (↑p0.length)) (cond (B.inb v1 p0.length) (ob (c82 (p0.getD v1.toNat ty9.dflt)) fun y0=>cond (!B.eq y0.1 0) (k ((false,mt (Ty.den ty157)))) (cond (B.lt (Nat.cast (List.length y0.2.2)) 3) (k ((false,mt (Ty.den ty157)))) (cond (B.inb 0 (List.length y0.2.2)) (cond (!B.eq (List.getD y0.2.2 (Int.toNat 0) ty130.dflt).1 2) (k ((false,mt (Ty.den ty157)))) (cond (B.inb 1 (List.length y0.2.2)) (cond (!B.eq (List.getD y0.2.2 (Int.toNat 1) ty130.dflt).1 4) (k ((false,mt (Ty.den ty157)))) (cond (B.inb 1 (List.length y0.2.2)) (cond (!((List.getD y0.2.2 (Int.toNat 1) ty130.dflt).2).1 == ([61]:LB)) (k ((false,mt (Ty.den ty157)))) (ob (c177 y0.2.2 2) fun y1=>cond (!B.eq y1.2.1 0) (k ((false,mt (Ty.den ty157)))) (cond (B.inb y1.1 (List.length y0.2.2)) (cond (!B.eq (List.getD y0.2.2 (Int.toNat y1.1) ty130.dflt).1 5) (k ((false,mt (Ty.den ty157)))) (cond (B.inb 0 (List.length y0.2.2)) (cond (B.lim (List.length v2+List.length ((((List.getD y0.2.2 (Int.toNat 0) ty130.dflt).2).1,y1.2.2)::mt (Ty.den ty157))) 40) (again (.l0 (IntKind.wrap .i64 (v1+1)) (v2++(((List.getD y0.2.2 (Int.toNat 0) ty130.dflt).2).1,y1.2.2)::mt (Ty.den ty157)))) none) none)) none))) none)) none)) none))) none) (k (true,v2))
def E149 (p0:L9):S149→List AV×Objs
 | .l0 v1 v2=>(mk 80 [(0,.c (.list 9 ty9 p0)),(4,.c (.own 4)),(5,.c (.int .i64 v1))],[(4,.row 157 ty157 v2)])
def I149:S149→Nat
 | .l0 _ _=>0
abbrev K22 {R:Type} (k:AV→Objs→Option R) (y:(Bool×L157)):Option R:=k (.tup [(false,[.own 501000]),(false,[.bool y.1])]) [(501000,.row 157 ty157 y.2)]
noncomputable abbrev A149 {R:Type} (B:Ops) (c82:C82) (c177:C177) (p0:L9) (k:AV→Objs→Option R) (s:S149) (n:Nat):Option R:=aloop tau B gl0 X149 (ent 82 (e82 c82) (ent 177 (e177 c177) gnil)) ow [] Tryz.f149 k (I149 s) (E149 p0 s) n
theorem eq149 {R:Type} (B:Ops) (c82:C82) (c177:C177) (p0:L9) (k:AV→Objs→Option R) (n:Nat):afun tau B gl0 X149 (ent 82 (e82 c82) (ent 177 (e177 c177) gnil)) ow Tryz.f149 [.c (.list 9 ty9 p0)] [] k n=T149 B c82 c177 p0 (fun s=>A149 B c82 c177 p0 k s n) (K22 k) none:=by kernel_rfl
theorem el149 {R:Type} (B:Ops) (c82:C82) (c177:C177) (p0:L9) (k:AV→Objs→Option R) (n:Nat):∀ s,A149 B c82 c177 p0 k s (n+1)=T149 B c82 c177 p0 (fun s=>A149 B c82 c177 p0 k s n) (K22 k) (some s):=by
 intro s
 cases s<;>kernel_rfl
theorem nt149 {R R':Type} (B:Ops) (c82:C82) (c177:C177) (p0:L9) (again:S149→Option R) (again':S149→Option R') (k0:(Bool×L157)→Option R') (k:R'→Option R) (h:∀ s,again s=ob (again' s) k):∀ s,T149 B c82 c177 p0 again (fun y=>ob (k0 y) k) s=ob (T149 B c82 c177 p0 again' k0 s) k:=by
 rintro (_ | x)
 all_goals try cases x
 all_goals (unfold T149;repeat' first | exact rfl | exact h _ | apply qae | (apply qaj;intro))
def R149 (c82:C82) (c177:C177) (p0:L9):Nat→S149→Option (Bool×L157)
 | 0,_=>none
 | n+1,s=>T149 Ops.std c82 c177 p0 (R149 c82 c177 p0 n) some (some s)
theorem rr149 {R:Type} (c82:C82) (c177:C177) (p0:L9) (k:AV→Objs→Option R):∀ (n:Nat) (s:S149),A149 Ops.std c82 c177 p0 k s n=ob (R149 c82 c177 p0 n s) (K22 k)
 | 0,s=>by cases s<;>rfl
 | n+1,s=>by rw [el149];exact nt149 Ops.std c82 c177 p0 _ _ some (K22 k) (rr149 c82 c177 p0 k n) (some s)
def F149 (c82:C82) (c177:C177) (p0:L9):Option (Bool×L157):=T149 Ops.std c82 c177 p0 (R149 c82 c177 p0 1000000) some none
abbrev C149:Type:=L9→Option (Bool×L157)
def e149 {R:Type} (c:C149):Ent R:=eG [.aC (.cL 9 ty9)] [] fun v k=>ob (c v.1) (K22 k)
abbrev Sp149 (c:C149):Prop:=∀ (p0:L9) (y:Bool×L157),c p0=some y→Spec Tryz.prog gl0 149 [.c (.list 9 ty9 p0)] [] (.tup [(false,[.own 501000]),(false,[.bool y.1])]) [(501000,.row 157 ty157 y.2)]
theorem ek149 {R:Type} {c:C149} (hs:Sp149 c):EOk 149 (e149 (R:=R) c):=qam fun v=>hs v.1
theorem sf149 {c82:C82} {c177:C177} (h82:Sp82 c82) (h177:Sp177 c177):Sp149 (F149 c82 c177):=fun p0 y hy=>by
 refine qai (qac (ek82 h82) (qac (ek177 h177) qah)) 1000000 (fn:=Tryz.f149) (by kernel_rfl) (by kernel_rfl) (X:=X149) (by kernel_rfl) ?_
 rw [eq149]
 exact (nt149 Ops.std c82 c177 p0 _ _ some (K22 k0) (rr149 c82 c177 p0 k0 1000000) none).trans (by show ob (F149 c82 c177 p0) _=_;rw [hy];rfl)
noncomputable def M149:C149:=F149 M82 M177
theorem sm149:Sp149 M149:=sf149 sm82 sm177
def X107:Aux:=⟨[],[]⟩
def T107 {R:Type} (B:Ops) (p0:Int) (k:(Bool)→Option R):Option R:=cond (B.le 1 p0) (k (B.le p0 999)) (k false)
theorem eq107 {R:Type} (B:Ops) (p0:Int) (k:AV→Objs→Option R) (n:Nat):afun tau B gl0 X107 gnil ow Tryz.f107 [.c (.int .i64 p0)] [] k n=T107 B p0 (K2 k):=by kernel_rfl
theorem nt107 {R R':Type} (B:Ops) (p0:Int) (k0:(Bool)→Option R') (k:R'→Option R):T107 B p0 (fun y=>ob (k0 y) k)=ob (T107 B p0 k0) k:=by
 unfold T107
 repeat' first | exact rfl | apply qae | (apply qaj;intro)
def F107 (p0:Int):Option (Bool):=T107 Ops.std p0 some
abbrev C107:Type:=Int→Option (Bool)
def e107 {R:Type} (c:C107):Ent R:=eG [.aC (.cI .i64)] [] fun v k=>ob (c v.1) (K2 k)
abbrev Sp107 (c:C107):Prop:=∀ (p0:Int) (y:Bool),c p0=some y→Spec Tryz.prog gl0 107 [.c (.int .i64 p0)] [] (.c (.bool y)) []
theorem ek107 {R:Type} {c:C107} (hs:Sp107 c):EOk 107 (e107 (R:=R) c):=qam fun v=>hs v.1
theorem sf107:Sp107 (F107):=fun p0 y hy=>by
 refine qai qah 1000000 (fn:=Tryz.f107) (by kernel_rfl) (by kernel_rfl) (X:=X107) (by kernel_rfl) ?_
 rw [eq107]
 exact (nt107 Ops.std p0 some (K2 k0)).trans (by show ob (F107 p0) _=_;rw [hy];rfl)
noncomputable def M107:C107:=F107
theorem sm107:Sp107 M107:=sf107
def X161:Aux:=⟨[],[]⟩
def T161 {R:Type} (B:Ops) (p0:Int) (k:(Int)→Option R):Option R:=cond (B.le 1 p0) (cond (B.le p0 3) (k 0) (cond (B.eq p0 4) (k 1) (cond (B.eq p0 5) (k 1) (cond (B.le 6 p0) (cond (B.le p0 16) (k 2) (k (-1))) (k (-1)))))) (cond (B.eq p0 4) (k 1) (cond (B.eq p0 5) (k 1) (cond (B.le 6 p0) (cond (B.le p0 16) (k 2) (k (-1))) (k (-1)))))
theorem eq161 {R:Type} (B:Ops) (p0:Int) (k:AV→Objs→Option R) (n:Nat):afun tau B gl0 X161 gnil ow Tryz.f161 [.c (.int .i64 p0)] [] k n=T161 B p0 (K1 k):=by kernel_rfl
theorem nt161 {R R':Type} (B:Ops) (p0:Int) (k0:(Int)→Option R') (k:R'→Option R):T161 B p0 (fun y=>ob (k0 y) k)=ob (T161 B p0 k0) k:=by
 unfold T161
 repeat' first | exact rfl | apply qae | (apply qaj;intro)
def F161 (p0:Int):Option (Int):=T161 Ops.std p0 some
abbrev C161:Type:=Int→Option (Int)
def e161 {R:Type} (c:C161):Ent R:=eG [.aC (.cI .i64)] [] fun v k=>ob (c v.1) (K1 k)
abbrev Sp161 (c:C161):Prop:=∀ (p0 y:Int),c p0=some y→Spec Tryz.prog gl0 161 [.c (.int .i64 p0)] [] (.c (.int .i64 y)) []
theorem ek161 {R:Type} {c:C161} (hs:Sp161 c):EOk 161 (e161 (R:=R) c):=qam fun v=>hs v.1
theorem sf161:Sp161 (F161):=fun p0 y hy=>by
 refine qai qah 1000000 (fn:=Tryz.f161) (by kernel_rfl) (by kernel_rfl) (X:=X161) (by kernel_rfl) ?_
 rw [eq161]
 exact (nt161 Ops.std p0 some (K1 k0)).trans (by show ob (F161 p0) _=_;rw [hy];rfl)
noncomputable def M161:C161:=F161
theorem sm161:Sp161 M161:=sf161
def X110:Aux:=⟨[(3,([1,2]++rg 5 99)),(1000016,([1,2]++rg 8 96)),(1000018,([1,2,5]++rg 7 97))],[]⟩
inductive S110 where
 | l0 (v1 v2:Int)
 | l1016 (v1 v2 v3 v4 v5:Int) (v6 v7:LB) (v8 v9:Int) (v10 v11:LB)
 | l1018 (v1 v2 v3:Int)
def T110 {R:Type} (B:Ops) (c161:C161) (c58:C58) (p0:L150) (again:S110→Option R) (k:(Bool)→Option R):Option S110→Option R | none=>again (.l0 0 0) | some (.l0 v1 v2)=>cond (B.lt v2 (↑p0.length)) (cond (B.inb v2 p0.length) (ob (c161 (p0.getD v2.toNat ty150.dflt).1) fun y0=>cond (B.eq (p0.getD v2.toNat ty150.dflt).1 1) (again (.l1016 v1 v2 y0 (p0.getD v2.toNat ty150.dflt).1 ((p0.getD v2.toNat ty150.dflt).2).1 (((p0.getD v2.toNat ty150.dflt).2).2).1 (((p0.getD v2.toNat ty150.dflt).2).2).2 (p0.getD v2.toNat ty150.dflt).1 ((p0.getD v2.toNat ty150.dflt).2).1 (mt UInt8) (mt UInt8))) (cond (B.eq (p0.getD v2.toNat ty150.dflt).1 2) (again (.l1016 v1 v2 y0 (p0.getD v2.toNat ty150.dflt).1 ((p0.getD v2.toNat ty150.dflt).2).1 (((p0.getD v2.toNat ty150.dflt).2).2).1 (((p0.getD v2.toNat ty150.dflt).2).2).2 (p0.getD v2.toNat ty150.dflt).1 0 (((p0.getD v2.toNat ty150.dflt).2).2).1 (mt UInt8))) (cond (B.eq (p0.getD v2.toNat ty150.dflt).1 3) (again (.l1016 v1 v2 y0 (p0.getD v2.toNat ty150.dflt).1 ((p0.getD v2.toNat ty150.dflt).2).1 (((p0.getD v2.toNat ty150.dflt).2).2).1 (((p0.getD v2.toNat ty150.dflt).2).2).2 (p0.getD v2.toNat ty150.dflt).1 0 (((p0.getD v2.toNat ty150.dflt).2).2).1 (((p0.getD v2.toNat ty150.dflt).2).2).2)) (again (.l1016 v1 v2 y0 (p0.getD v2.toNat ty150.dflt).1 ((p0.getD v2.toNat ty150.dflt).2).1 (((p0.getD v2.toNat ty150.dflt).2).2).1 (((p0.getD v2.toNat ty150.dflt).2).2).2 (p0.getD v2.toNat ty150.dflt).1 0 (mt UInt8) (mt UInt8)))))) none) (cond (B.eq v1 1) (k (B.le (↑p0.length) 30)) (k false)) | some (.l1016 v1 v2 v3 v4 v5 v6 v7 v8 v9 v10 v11)=>cond (B.lt v3 0) (k false) (cond (B.lt v1 v3) (k false) (cond (!(B.eq v4 v8 && (B.eq v5 v9 && (v6 == v10 && (v7 == v11 && true))))) (k false) (cond (B.lt v5 0) (k false) (cond (B.lt 999 v5) (k false) (cond (B.eq v4 2) (ob (c58 v6) fun y0=>cond (!y0) (k false) (cond (B.eq v4 3) (ob (c58 v7) fun y1=>cond (!y1) (k false) (again (.l1018 v1 v2 v3))) (again (.l1018 v1 v2 v3)))) (cond (B.eq v4 3) (ob (c58 v6) fun y0=>cond (!y0) (k false) (cond (B.eq v4 3) (ob (c58 v7) fun y1=>cond (!y1) (k false) (again (.l1018 v1 v2 v3))) (again (.l1018 v1 v2 v3)))) (cond (B.eq v4 3) (ob (c58 v7) fun y0=>cond (!y0) (k false) (again (.l1018 v1 v2 v3))) (again (.l1018 v1 v2 v3))))))))) | some (.l1018 v1 v2 v3)=>again (.l0 (IntKind.wrap .i64 (IntKind.wrap .i64 (v1-v3)+1)) (IntKind.wrap .i64 (v2+1)))
def E110 (p0:L150):S110→List AV×Objs
 | .l0 v1 v2=>(mk 104 [(0,.c (.list 150 ty150 p0)),(3,.c (.int .i64 v1)),(4,.c (.int .i64 v2))],[])
 | .l1016 v1 v2 v3 v4 v5 v6 v7 v8 v9 v10 v11=>(mk 104 [(0,.c (.list 150 ty150 p0)),(3,.c (.int .i64 v1)),(4,.c (.int .i64 v2)),(5,.c (.ptr 5 0)),(6,.c (.int .i64 v3)),(7,.c (.ptr 7 0))],[(5,.box 150 [.int .i64 v4,.int .i64 v5,.str v6,.str v7]),(7,.box 150 [.int .i64 v8,.int .i64 v9,.str v10,.str v11])])
 | .l1018 v1 v2 v3=>(mk 104 [(0,.c (.list 150 ty150 p0)),(3,.c (.int .i64 v1)),(4,.c (.int .i64 v2)),(6,.c (.int .i64 v3))],[])
def I110:S110→Nat
 | .l0 _ _=>0
 | .l1016 _ _ _ _ _ _ _ _ _ _ _=>1016
 | .l1018 _ _ _=>1018
noncomputable abbrev A110 {R:Type} (B:Ops) (c161:C161) (c58:C58) (p0:L150) (k:AV→Objs→Option R) (s:S110) (n:Nat):Option R:=aloop tau B gl0 X110 (ent 161 (e161 c161) (ent 58 (e58 c58) gnil)) ow [] Tryz.f110 k (I110 s) (E110 p0 s) n
theorem eq110 {R:Type} (B:Ops) (c161:C161) (c58:C58) (p0:L150) (k:AV→Objs→Option R) (n:Nat):afun tau B gl0 X110 (ent 161 (e161 c161) (ent 58 (e58 c58) gnil)) ow Tryz.f110 [.c (.list 150 ty150 p0)] [] k n=T110 B c161 c58 p0 (fun s=>A110 B c161 c58 p0 k s n) (K2 k) none:=by kernel_rfl
theorem el110 {R:Type} (B:Ops) (c161:C161) (c58:C58) (p0:L150) (k:AV→Objs→Option R) (n:Nat):∀ s,A110 B c161 c58 p0 k s (n+1)=T110 B c161 c58 p0 (fun s=>A110 B c161 c58 p0 k s n) (K2 k) (some s):=by
 intro s
 cases s<;>kernel_rfl
theorem nt110 {R R':Type} (B:Ops) (c161:C161) (c58:C58) (p0:L150) (again:S110→Option R) (again':S110→Option R') (k0:(Bool)→Option R') (k:R'→Option R) (h:∀ s,again s=ob (again' s) k):∀ s,T110 B c161 c58 p0 again (fun y=>ob (k0 y) k) s=ob (T110 B c161 c58 p0 again' k0 s) k:=by
 rintro (_ | x)
 all_goals try cases x
 all_goals (unfold T110;repeat' first | exact rfl | exact h _ | apply qae | (apply qaj;intro))
def R110 (c161:C161) (c58:C58) (p0:L150):Nat→S110→Option (Bool)
 | 0,_=>none
 | n+1,s=>T110 Ops.std c161 c58 p0 (R110 c161 c58 p0 n) some (some s)
theorem rr110 {R:Type} (c161:C161) (c58:C58) (p0:L150) (k:AV→Objs→Option R):∀ (n:Nat) (s:S110),A110 Ops.std c161 c58 p0 k s n=ob (R110 c161 c58 p0 n s) (K2 k)
 | 0,s=>by cases s<;>rfl
 | n+1,s=>by rw [el110];exact nt110 Ops.std c161 c58 p0 _ _ some (K2 k) (rr110 c161 c58 p0 k n) (some s)
def F110 (c161:C161) (c58:C58) (p0:L150):Option (Bool):=T110 Ops.std c161 c58 p0 (R110 c161 c58 p0 1000000) some none
abbrev C110:Type:=L150→Option (Bool)
def e110 {R:Type} (c:C110):Ent R:=eG [.aC (.cL 150 ty150)] [] fun v k=>ob (c v.1) (K2 k)
abbrev Sp110 (c:C110):Prop:=∀ (p0:L150) (y:Bool),c p0=some y→Spec Tryz.prog gl0 110 [.c (.list 150 ty150 p0)] [] (.c (.bool y)) []
theorem ek110 {R:Type} {c:C110} (hs:Sp110 c):EOk 110 (e110 (R:=R) c):=qam fun v=>hs v.1
theorem sf110 {c161:C161} {c58:C58} (h161:Sp161 c161) (h58:Sp58 c58):Sp110 (F110 c161 c58):=fun p0 y hy=>by
 refine qai (qac (ek161 h161) (qac (ek58 h58) qah)) 1000000 (fn:=Tryz.f110) (by kernel_rfl) (by kernel_rfl) (X:=X110) (by kernel_rfl) ?_
 rw [eq110]
 exact (nt110 Ops.std c161 c58 p0 _ _ some (K2 k0) (rr110 c161 c58 p0 k0 1000000) none).trans (by show ob (F110 c161 c58 p0) _=_;rw [hy];rfl)
noncomputable def M110:C110:=F110 M161 M58
theorem sm110:Sp110 M110:=sf110 sm161 sm58
def X180:Aux:=⟨[(2,([1,2]++rg 4 25))],[]⟩
inductive S180 where
 | l0 (v1:Int)
def T180 {R:Type} (B:Ops) (c58:C58) (c110:C110) (p0:L157) (again:S180→Option R) (k:(Bool)→Option R):Option S180→Option R | none=>again (.l0 0) | some (.l0 v1)=>cond (B.lt v1 (↑p0.length)) (cond (B.inb v1 p0.length) (ob (c58 (p0.getD v1.toNat ty157.dflt).1) fun y0=>cond (!y0) (k false) (cond (B.inb v1 p0.length) (ob (c110 (p0.getD v1.toNat ty157.dflt).2) fun y1=>cond (!y1) (k false) (again (.l0 (IntKind.wrap .i64 (v1+1))))) none)) none) (k (B.le (↑p0.length) 3))
def E180 (p0:L157):S180→List AV×Objs
 | .l0 v1=>(mk 29 [(0,.c (.list 157 ty157 p0)),(3,.c (.int .i64 v1))],[])
def I180:S180→Nat
 | .l0 _=>0
noncomputable abbrev A180 {R:Type} (B:Ops) (c58:C58) (c110:C110) (p0:L157) (k:AV→Objs→Option R) (s:S180) (n:Nat):Option R:=aloop tau B gl0 X180 (ent 58 (e58 c58) (ent 110 (e110 c110) gnil)) ow [] Tryz.f180 k (I180 s) (E180 p0 s) n
theorem eq180 {R:Type} (B:Ops) (c58:C58) (c110:C110) (p0:L157) (k:AV→Objs→Option R) (n:Nat):afun tau B gl0 X180 (ent 58 (e58 c58) (ent 110 (e110 c110) gnil)) ow Tryz.f180 [.c (.list 157 ty157 p0)] [] k n=T180 B c58 c110 p0 (fun s=>A180 B c58 c110 p0 k s n) (K2 k) none:=by kernel_rfl
theorem el180 {R:Type} (B:Ops) (c58:C58) (c110:C110) (p0:L157) (k:AV→Objs→Option R) (n:Nat):∀ s,A180 B c58 c110 p0 k s (n+1)=T180 B c58 c110 p0 (fun s=>A180 B c58 c110 p0 k s n) (K2 k) (some s):=by
 intro s
 cases s<;>kernel_rfl
theorem nt180 {R R':Type} (B:Ops) (c58:C58) (c110:C110) (p0:L157) (again:S180→Option R) (again':S180→Option R') (k0:(Bool)→Option R') (k:R'→Option R) (h:∀ s,again s=ob (again' s) k):∀ s,T180 B c58 c110 p0 again (fun y=>ob (k0 y) k) s=ob (T180 B c58 c110 p0 again' k0 s) k:=by
 rintro (_ | x)
 all_goals try cases x
 all_goals (unfold T180;repeat' first | exact rfl | exact h _ | apply qae | (apply qaj;intro))
def R180 (c58:C58) (c110:C110) (p0:L157):Nat→S180→Option (Bool)
 | 0,_=>none
 | n+1,s=>T180 Ops.std c58 c110 p0 (R180 c58 c110 p0 n) some (some s)
theorem rr180 {R:Type} (c58:C58) (c110:C110) (p0:L157) (k:AV→Objs→Option R):∀ (n:Nat) (s:S180),A180 Ops.std c58 c110 p0 k s n=ob (R180 c58 c110 p0 n s) (K2 k)
 | 0,s=>by cases s<;>rfl
 | n+1,s=>by rw [el180];exact nt180 Ops.std c58 c110 p0 _ _ some (K2 k) (rr180 c58 c110 p0 k n) (some s)
def F180 (c58:C58) (c110:C110) (p0:L157):Option (Bool):=T180 Ops.std c58 c110 p0 (R180 c58 c110 p0 1000000) some none
abbrev C180:Type:=L157→Option (Bool)
def e180 {R:Type} (c:C180):Ent R:=eG [.aC (.cL 157 ty157)] [] fun v k=>ob (c v.1) (K2 k)
abbrev Sp180 (c:C180):Prop:=∀ (p0:L157) (y:Bool),c p0=some y→Spec Tryz.prog gl0 180 [.c (.list 157 ty157 p0)] [] (.c (.bool y)) []
theorem ek180 {R:Type} {c:C180} (hs:Sp180 c):EOk 180 (e180 (R:=R) c):=qam fun v=>hs v.1
theorem sf180 {c58:C58} {c110:C110} (h58:Sp58 c58) (h110:Sp110 c110):Sp180 (F180 c58 c110):=fun p0 y hy=>by
 refine qai (qac (ek58 h58) (qac (ek110 h110) qah)) 1000000 (fn:=Tryz.f180) (by kernel_rfl) (by kernel_rfl) (X:=X180) (by kernel_rfl) ?_
 rw [eq180]
 exact (nt180 Ops.std c58 c110 p0 _ _ some (K2 k0) (rr180 c58 c110 p0 k0 1000000) none).trans (by show ob (F180 c58 c110 p0) _=_;rw [hy];rfl)
noncomputable def M180:C180:=F180 M58 M110
theorem sm180:Sp180 M180:=sf180 sm58 sm110
def X179:Aux:=⟨[],[]⟩
def T179 {R:Type} (B:Ops) (p0:LB) (p1 p2:Int) (k:(LB)→Option R):Option R:=cond (B.lt p1 p2) (cond (B.lim (1+List.length p0) 1) (cond (B.lim (List.length (([40]:LB)++p0)+1) 1) (k (([40]:LB)++p0++([41]:LB))) none) none) (k p0)
theorem eq179 {R:Type} (B:Ops) (p0:LB) (p1 p2:Int) (k:AV→Objs→Option R) (n:Nat):afun tau B gl0 X179 gnil ow Tryz.f179 [.agg [.str p0,.int .i64 p1],.c (.int .i64 p2)] [] k n=T179 B p0 p1 p2 (K3 k):=by kernel_rfl
theorem nt179 {R R':Type} (B:Ops) (p0:LB) (p1 p2:Int) (k0:(LB)→Option R') (k:R'→Option R):T179 B p0 p1 p2 (fun y=>ob (k0 y) k)=ob (T179 B p0 p1 p2 k0) k:=by
 unfold T179
 repeat' first | exact rfl | apply qae | (apply qaj;intro)
def F179 (p0:LB) (p1 p2:Int):Option (LB):=T179 Ops.std p0 p1 p2 some
abbrev C179:Type:=LB→Int→Int→Option (LB)
def e179 {R:Type} (c:C179):Ent R:=eG [.aG [.cS,.cI .i64],.aC (.cI .i64)] [] fun v k=>ob (c v.1 v.2.1 v.2.2.1) (K3 k)
abbrev Sp179 (c:C179):Prop:=∀ (p0:LB) (p1 p2:Int) (y:LB),c p0 p1 p2=some y→Spec Tryz.prog gl0 179 [.agg [.str p0,.int .i64 p1],.c (.int .i64 p2)] [] (.c (.str y)) []
theorem ek179 {R:Type} {c:C179} (hs:Sp179 c):EOk 179 (e179 (R:=R) c):=qam fun v=>hs v.1 v.2.1 v.2.2.1
theorem sf179:Sp179 (F179):=fun p0 p1 p2 y hy=>by
 refine qai qah 1000000 (fn:=Tryz.f179) (by kernel_rfl) (by kernel_rfl) (X:=X179) (by kernel_rfl) ?_
 rw [eq179]
 exact (nt179 Ops.std p0 p1 p2 some (K3 k0)).trans (by show ob (F179 p0 p1 p2) _=_;rw [hy];rfl)
noncomputable def M179:C179:=F179
theorem sm179:Sp179 M179:=sf179
def X145:Aux:=⟨[(6,([1,2]++rg 6 120))],[(31,.lin (rg 0 14)),(32,.lin [0,1,2,3,4,5,6,7]),(18,.lin ([0,1,2,3,4,5,7,8,9,10,12,13,14,15,16,17,18,6,11,19,20,21,22])),(19,.lin [0,1,2,3,4,5,6,7])]⟩
inductive S145 where
 | l0 (v1:Int) (v2:L210)
def T145 {R:Type} (B:Ops) (c110:C110) (c178:C178) (c161:C161) (c151:C151) (c179:C179) (p0:L150) (again:S145→Option R) (k:(LB)→Option R):Option S145→Option R | none=>ob (c110 p0) fun y0=>cond (!y0) (k (mt UInt8)) (again (.l0 0 (mt (Ty.den ty210)))) | some (.l0 v1 v2)=>cond (B.lt v1 (↑p0.length)) (cond (B.inb v1 p0.length) (ob (c178 (p0.getD v1.toNat ty150.dflt).1) fun y0=>ob (c161 (p0.getD v1.toNat ty150.dflt).1) fun y1=>cond (B.eq y1 0) (cond (B.eq (p0.getD v1.toNat ty150.dflt).1 1) (ob (c151 ((p0.getD v1.toNat ty150.dflt).2).1) fun y2=>cond (B.lim (List.length v2+List.length ((y2,y0)::mt (Ty.den ty210))) 24) (again (.l0 (IntKind.wrap .i64 (v1+1)) (v2++(y2,y0)::mt (Ty.den ty210)))) none) (cond (B.eq (p0.getD v1.toNat ty150.dflt).1 2) (cond (B.lim (List.length v2+List.length (((((p0.getD v1.toNat ty150.dflt).2).2).1,y0)::mt (Ty.den ty210))) 24) (again (.l0 (IntKind.wrap .i64 (v1+1)) (v2++((((p0.getD v1.toNat ty150.dflt).2).2).1,y0)::mt (Ty.den ty210)))) none) (cond (B.lim (List.length ((((p0.getD v1.toNat ty150.dflt).2).2).1)+1) 1) (cond (B.lim (List.length ((((p0.getD v1.toNat ty150.dflt).2).2).1++([64]:LB))+List.length (((p0.getD v1.toNat ty150.dflt).2).2).2) 1) (cond (B.lim (List.length v2+List.length (((((p0.getD v1.toNat ty150.dflt).2).2).1++([64]:LB)++(((p0.getD v1.toNat ty150.dflt).2).2).2,y0)::mt (Ty.den ty210))) 24) (again (.l0 (IntKind.wrap .i64 (v1+1)) (v2++((((p0.getD v1.toNat ty150.dflt).2).2).1++([64]:LB)++(((p0.getD v1.toNat ty150.dflt).2).2).2,y0)::mt (Ty.den ty210)))) none) none) none))) (cond (B.eq y1 1) (cond (B.lt (↑v2.length) 1) (k (mt UInt8)) (cond (B.inb (p0.getD v1.toNat ty150.dflt).1 17) (cond (B.inb (IntKind.wrap .i64 (Nat.cast v2.length-1)) v2.length) (ob (c179 (v2.getD (Int.toNat (IntKind.wrap .i64 (Nat.cast v2.length-1))) ty210.dflt).1 (v2.getD (Int.toNat (IntKind.wrap .i64 (Nat.cast v2.length-1))) ty210.dflt).2 y0) fun y2=>cond (B.lim (List.length (List.getD ((mt UInt8)::(mt UInt8)::(mt UInt8)::(mt UInt8)::([33]:LB)::([45]:LB)::([42]:LB)::([43]:LB)::([45]:LB)::([60]:LB)::([60,61]:LB)::([62]:LB)::([62,61]:LB)::([61,61]:LB)::([33,61]:LB)::([38,38]:LB)::([124,124]:LB)::mt LB) (Int.toNat (p0.getD v1.toNat ty150.dflt).1) (mt UInt8))+List.length y2) 1) (cond (B.inb (IntKind.wrap .i64 (Nat.cast v2.length-1)) (List.length v2+1)) (cond (B.lim (List.length (List.take (Int.toNat (IntKind.wrap .i64 (Nat.cast v2.length-1))) v2)+List.length ((List.getD ((mt UInt8)::(mt UInt8)::(mt UInt8)::(mt UInt8)::([33]:LB)::([45]:LB)::([42]:LB)::([43]:LB)::([45]:LB)::([60]:LB)::([60,61]:LB)::([62]:LB)::([62,61]:LB)::([61,61]:LB)::([33,61]:LB)::([38,38]:LB)::([124,124]:LB)::mt LB) (Int.toNat (p0.getD v1.toNat ty150.dflt).1) (mt UInt8)++y2,y0)::mt (Ty.den ty210))) 24) (again (.l0 (IntKind.wrap .i64 (v1+1)) (List.take (Int.toNat (IntKind.wrap .i64 (Nat.cast v2.length-1))) v2++(List.getD ((mt UInt8)::(mt UInt8)::(mt UInt8)::(mt UInt8)::([33]:LB)::([45]:LB)::([42]:LB)::([43]:LB)::([45]:LB)::([60]:LB)::([60,61]:LB)::([62]:LB)::([62,61]:LB)::([61,61]:LB)::([33,61]:LB)::([38,38]:LB)::([124,124]:LB)::mt LB) (Int.toNat (p0.getD v1.toNat ty150.dflt).1) (mt UInt8)++y2,y0)::mt (Ty.den ty210)))) none) none) none) none) none)) (cond (B.lt (↑v2.length) 2) (k (mt UInt8)) (cond (B.eq y0 3) (cond (B.inb (IntKind.wrap .i64 (Nat.cast v2.length-2)) v2.length) (cond (B.inb (p0.getD v1.toNat ty150.dflt).1 17) (cond (B.inb (IntKind.wrap .i64 (Nat.cast v2.length-1)) v2.length) (ob (c179 (v2.getD (Int.toNat (IntKind.wrap .i64 (Nat.cast v2.length-2))) ty210.dflt).1 (v2.getD (Int.toNat (IntKind.wrap .i64 (Nat.cast v2.length-2))) ty210.dflt).2 4) fun y2=>cond (B.lim (List.length y2+List.length (List.getD ((mt UInt8)::(mt UInt8)::(mt UInt8)::(mt UInt8)::([33]:LB)::([45]:LB)::([42]:LB)::([43]:LB)::([45]:LB)::([60]:LB)::([60,61]:LB)::([62]:LB)::([62,61]:LB)::([61,61]:LB)::([33,61]:LB)::([38,38]:LB)::([124,124]:LB)::mt LB) (Int.toNat (p0.getD v1.toNat ty150.dflt).1) (mt UInt8))) 1) (ob (c179 (v2.getD (Int.toNat (IntKind.wrap .i64 (Nat.cast v2.length-1))) ty210.dflt).1 (v2.getD (Int.toNat (IntKind.wrap .i64 (Nat.cast v2.length-1))) ty210.dflt).2 (IntKind.wrap .i64 (y0+1))) fun y3=>cond (B.lim (List.length (y2++List.getD ((mt UInt8)::(mt UInt8)::(mt UInt8)::(mt UInt8)::([33]:LB)::([45]:LB)::([42]:LB)::([43]:LB)::([45]:LB)::([60]:LB)::([60,61]:LB)::([62]:LB)::([62,61]:LB)::([61,61]:LB)::([33,61]:LB)::([38,38]:LB)::([124,124]:LB)::mt LB) (Int.toNat (p0.getD v1.toNat ty150.dflt).1) (mt UInt8))+List.length y3) 1) (cond (B.inb (IntKind.wrap .i64 (Nat.cast v2.length-2)) (List.length v2+1)) (cond (B.lim (List.length (List.take (Int.toNat (IntKind.wrap .i64 (Nat.cast v2.length-2))) v2)+List.length ((y2++List.getD ((mt UInt8)::(mt UInt8)::(mt UInt8)::(mt UInt8)::([33]:LB)::([45]:LB)::([42]:LB)::([43]:LB)::([45]:LB)::([60]:LB)::([60,61]:LB)::([62]:LB)::([62,61]:LB)::([61,61]:LB)::([33,61]:LB)::([38,38]:LB)::([124,124]:LB)::mt LB) (Int.toNat (p0.getD v1.toNat ty150.dflt).1) (mt UInt8)++y3,y0)::mt (Ty.den ty210))) 24) (again (.l0 (IntKind.wrap .i64 (v1+1)) (List.take (Int.toNat (IntKind.wrap .i64 (Nat.cast v2.length-2))) v2++(y2++List.getD ((mt UInt8)::(mt UInt8)::(mt UInt8)::(mt UInt8)::([33]:LB)::([45]:LB)::([42]:LB)::([43]:LB)::([45]:LB)::([60]:LB)::([60,61]:LB)::([62]:LB)::([62,61]:LB)::([61,61]:LB)::([33,61]:LB)::([38,38]:LB)::([124,124]:LB)::mt LB) (Int.toNat (p0.getD v1.toNat ty150.dflt).1) (mt UInt8)++y3,y0)::mt (Ty.den ty210)))) none) none) none) none) none) none) none) (cond (B.inb (IntKind.wrap .i64 (Nat.cast v2.length-2)) v2.length) (cond (B.inb (p0.getD v1.toNat ty150.dflt).1 17) (cond (B.inb (IntKind.wrap .i64 (Nat.cast v2.length-1)) v2.length) (ob (c179 (v2.getD (Int.toNat (IntKind.wrap .i64 (Nat.cast v2.length-2))) ty210.dflt).1 (v2.getD (Int.toNat (IntKind.wrap .i64 (Nat.cast v2.length-2))) ty210.dflt).2 y0) fun y2=>cond (B.lim (List.length y2+List.length (List.getD ((mt UInt8)::(mt UInt8)::(mt UInt8)::(mt UInt8)::([33]:LB)::([45]:LB)::([42]:LB)::([43]:LB)::([45]:LB)::([60]:LB)::([60,61]:LB)::([62]:LB)::([62,61]:LB)::([61,61]:LB)::([33,61]:LB)::([38,38]:LB)::([124,124]:LB)::mt LB) (Int.toNat (p0.getD v1.toNat ty150.dflt).1) (mt UInt8))) 1) (ob (c179 (v2.getD (Int.toNat (IntKind.wrap .i64 (Nat.cast v2.length-1))) ty210.dflt).1 (v2.getD (Int.toNat (IntKind.wrap .i64 (Nat.cast v2.length-1))) ty210.dflt).2 (IntKind.wrap .i64 (y0+1))) fun y3=>cond (B.lim (List.length (y2++List.getD ((mt UInt8)::(mt UInt8)::(mt UInt8)::(mt UInt8)::([33]:LB)::([45]:LB)::([42]:LB)::([43]:LB)::([45]:LB)::([60]:LB)::([60,61]:LB)::([62]:LB)::([62,61]:LB)::([61,61]:LB)::([33,61]:LB)::([38,38]:LB)::([124,124]:LB)::mt LB) (Int.toNat (p0.getD v1.toNat ty150.dflt).1) (mt UInt8))+List.length y3) 1) (cond (B.inb (IntKind.wrap .i64 (Nat.cast v2.length-2)) (List.length v2+1)) (cond (B.lim (List.length (List.take (Int.toNat (IntKind.wrap .i64 (Nat.cast v2.length-2))) v2)+List.length ((y2++List.getD ((mt UInt8)::(mt UInt8)::(mt UInt8)::(mt UInt8)::([33]:LB)::([45]:LB)::([42]:LB)::([43]:LB)::([45]:LB)::([60]:LB)::([60,61]:LB)::([62]:LB)::([62,61]:LB)::([61,61]:LB)::([33,61]:LB)::([38,38]:LB)::([124,124]:LB)::mt LB) (Int.toNat (p0.getD v1.toNat ty150.dflt).1) (mt UInt8)++y3,y0)::mt (Ty.den ty210))) 24) (again (.l0 (IntKind.wrap .i64 (v1+1)) (List.take (Int.toNat (IntKind.wrap .i64 (Nat.cast v2.length-2))) v2++(y2++List.getD ((mt UInt8)::(mt UInt8)::(mt UInt8)::(mt UInt8)::([33]:LB)::([45]:LB)::([42]:LB)::([43]:LB)::([45]:LB)::([60]:LB)::([60,61]:LB)::([62]:LB)::([62,61]:LB)::([61,61]:LB)::([33,61]:LB)::([38,38]:LB)::([124,124]:LB)::mt LB) (Int.toNat (p0.getD v1.toNat ty150.dflt).1) (mt UInt8)++y3,y0)::mt (Ty.den ty210)))) none) none) none) none) none) none) none))))) none) (cond (B.eq (↑v2.length) 0) (k (mt UInt8)) (cond (B.inb 0 v2.length) (k (v2.getD (Int.toNat 0) ty210.dflt).1) none))
def E145 (p0:L150):S145→List AV×Objs
 | .l0 v1 v2=>(mk 126 [(0,.c (.list 150 ty150 p0)),(3,.c (.own 3)),(4,.c (.ptr 4 0)),(5,.c (.int .i64 v1))],[(3,.row 210 ty210 v2),(4,.box 208 [.str (mt UInt8),.str (mt UInt8),.str (mt UInt8),.str (mt UInt8),.str ([33]:LB),.str ([45]:LB),.str ([42]:LB),.str ([43]:LB),.str ([45]:LB),.str ([60]:LB),.str ([60,61]:LB),.str ([62]:LB),.str ([62,61]:LB),.str ([61,61]:LB),.str ([33,61]:LB),.str ([38,38]:LB),.str ([124,124]:LB)])])
def I145:S145→Nat
 | .l0 _ _=>0
noncomputable abbrev A145 {R:Type} (B:Ops) (c110:C110) (c178:C178) (c161:C161) (c151:C151) (c179:C179) (p0:L150) (k:AV→Objs→Option R) (s:S145) (n:Nat):Option R:=aloop tau B gl0 X145 (ent 110 (e110 c110) (ent 178 (e178 c178) (ent 161 (e161 c161) (ent 151 (e151 c151) (ent 179 (e179 c179) gnil))))) ow [] Tryz.f145 k (I145 s) (E145 p0 s) n
theorem eq145 {R:Type} (B:Ops) (c110:C110) (c178:C178) (c161:C161) (c151:C151) (c179:C179) (p0:L150) (k:AV→Objs→Option R) (n:Nat):afun tau B gl0 X145 (ent 110 (e110 c110) (ent 178 (e178 c178) (ent 161 (e161 c161) (ent 151 (e151 c151) (ent 179 (e179 c179) gnil))))) ow Tryz.f145 [.c (.list 150 ty150 p0)] [] k n=T145 B c110 c178 c161 c151 c179 p0 (fun s=>A145 B c110 c178 c161 c151 c179 p0 k s n) (K3 k) none:=by kernel_rfl
theorem el145 {R:Type} (B:Ops) (c110:C110) (c178:C178) (c161:C161) (c151:C151) (c179:C179) (p0:L150) (k:AV→Objs→Option R) (n:Nat):∀ s,A145 B c110 c178 c161 c151 c179 p0 k s (n+1)=T145 B c110 c178 c161 c151 c179 p0 (fun s=>A145 B c110 c178 c161 c151 c179 p0 k s n) (K3 k) (some s):=by
 intro s
 cases s<;>kernel_rfl
theorem nt145 {R R':Type} (B:Ops) (c110:C110) (c178:C178) (c161:C161) (c151:C151) (c179:C179) (p0:L150) (again:S145→Option R) (again':S145→Option R') (k0:(LB)→Option R') (k:R'→Option R) (h:∀ s,again s=ob (again' s) k):∀ s,T145 B c110 c178 c161 c151 c179 p0 again (fun y=>ob (k0 y) k) s=ob (T145 B c110 c178 c161 c151 c179 p0 again' k0 s) k:=by
 rintro (_ | x)
 all_goals try cases x
 all_goals (unfold T145;repeat' first | exact rfl | exact h _ | apply qae | (apply qaj;intro))
def R145 (c110:C110) (c178:C178) (c161:C161) (c151:C151) (c179:C179) (p0:L150):Nat→S145→Option (LB)
 | 0,_=>none
 | n+1,s=>T145 Ops.std c110 c178 c161 c151 c179 p0 (R145 c110 c178 c161 c151 c179 p0 n) some (some s)
theorem rr145 {R:Type} (c110:C110) (c178:C178) (c161:C161) (c151:C151) (c179:C179) (p0:L150) (k:AV→Objs→Option R):∀ (n:Nat) (s:S145),A145 Ops.std c110 c178 c161 c151 c179 p0 k s n=ob (R145 c110 c178 c161 c151 c179 p0 n s) (K3 k)
 | 0,s=>by cases s<;>rfl
 | n+1,s=>by rw [el145];exact nt145 Ops.std c110 c178 c161 c151 c179 p0 _ _ some (K3 k) (rr145 c110 c178 c161 c151 c179 p0 k n) (some s)
def F145 (c110:C110) (c178:C178) (c161:C161) (c151:C151) (c179:C179) (p0:L150):Option (LB):=T145 Ops.std c110 c178 c161 c151 c179 p0 (R145 c110 c178 c161 c151 c179 p0 1000000) some none
abbrev C145:Type:=L150→Option (LB)
def e145 {R:Type} (c:C145):Ent R:=eG [.aC (.cL 150 ty150)] [] fun v k=>ob (c v.1) (K3 k)
abbrev Sp145 (c:C145):Prop:=∀ (p0:L150) (y:LB),c p0=some y→Spec Tryz.prog gl0 145 [.c (.list 150 ty150 p0)] [] (.c (.str y)) []
theorem ek145 {R:Type} {c:C145} (hs:Sp145 c):EOk 145 (e145 (R:=R) c):=qam fun v=>hs v.1
theorem sf145 {c110:C110} {c178:C178} {c161:C161} {c151:C151} {c179:C179} (h110:Sp110 c110) (h178:Sp178 c178) (h161:Sp161 c161) (h151:Sp151 c151) (h179:Sp179 c179):Sp145 (F145 c110 c178 c161 c151 c179):=fun p0 y hy=>by
 refine qai (qac (ek110 h110) (qac (ek178 h178) (qac (ek161 h161) (qac (ek151 h151) (qac (ek179 h179) qah))))) 1000000 (fn:=Tryz.f145) (by kernel_rfl) (by kernel_rfl) (X:=X145) (by kernel_rfl) ?_
 rw [eq145]
 exact (nt145 Ops.std c110 c178 c161 c151 c179 p0 _ _ some (K3 k0) (rr145 c110 c178 c161 c151 c179 p0 k0 1000000) none).trans (by show ob (F145 c110 c178 c161 c151 c179 p0) _=_;rw [hy];rfl)
noncomputable def M145:C145:=F145 M110 M178 M161 M151 M179
theorem sm145:Sp145 M145:=sf145 sm110 sm178 sm161 sm151 sm179
def X181:Aux:=⟨[(3,([1,2]++rg 5 23))],[(5,.lin (rg 0 17))]⟩
inductive S181 where
 | l0 (v1:LB) (v2:Int)
def T181 {R:Type} (B:Ops) (c145:C145) (p0:L157) (again:S181→Option R) (k:(LB)→Option R):Option S181→Option R | none=>again (.l0 (mt UInt8) 0) | some (.l0 v1 v2)=>cond (B.lt v2 (↑p0.length)) (cond (B.lim (List.length v1+3) 1) (cond (B.inb v2 p0.length) (cond (B.lim (List.length (v1++([32,59,32]:LB))+List.length (p0.getD v2.toNat ty157.dflt).1) 1) (cond (B.lim (List.length (v1++([32,59,32]:LB)++(p0.getD v2.toNat ty157.dflt).1)+3) 1) (cond (B.inb v2 p0.length) (ob (c145 (p0.getD v2.toNat ty157.dflt).2) fun y0=>cond (B.lim (List.length (v1++([32,59,32]:LB)++(p0.getD v2.toNat ty157.dflt).1++([32,61,32]:LB))+List.length y0) 1) (again (.l0 (v1++([32,59,32]:LB)++(p0.getD v2.toNat ty157.dflt).1++([32,61,32]:LB)++y0) (IntKind.wrap .i64 (v2+1)))) none) none) none) none) none) none) (k v1)
def E181 (p0:L157):S181→List AV×Objs
 | .l0 v1 v2=>(mk 28 [(0,.c (.list 157 ty157 p0)),(3,.c (.str v1)),(4,.c (.int .i64 v2))],[])
def I181:S181→Nat
 | .l0 _ _=>0
noncomputable abbrev A181 {R:Type} (B:Ops) (c145:C145) (p0:L157) (k:AV→Objs→Option R) (s:S181) (n:Nat):Option R:=aloop tau B gl0 X181 (ent 145 (e145 c145) gnil) ow [] Tryz.f181 k (I181 s) (E181 p0 s) n
theorem eq181 {R:Type} (B:Ops) (c145:C145) (p0:L157) (k:AV→Objs→Option R) (n:Nat):afun tau B gl0 X181 (ent 145 (e145 c145) gnil) ow Tryz.f181 [.c (.list 157 ty157 p0)] [] k n=T181 B c145 p0 (fun s=>A181 B c145 p0 k s n) (K3 k) none:=by kernel_rfl
theorem el181 {R:Type} (B:Ops) (c145:C145) (p0:L157) (k:AV→Objs→Option R) (n:Nat):∀ s,A181 B c145 p0 k s (n+1)=T181 B c145 p0 (fun s=>A181 B c145 p0 k s n) (K3 k) (some s):=by
 intro s
 cases s<;>kernel_rfl
theorem nt181 {R R':Type} (B:Ops) (c145:C145) (p0:L157) (again:S181→Option R) (again':S181→Option R') (k0:(LB)→Option R') (k:R'→Option R) (h:∀ s,again s=ob (again' s) k):∀ s,T181 B c145 p0 again (fun y=>ob (k0 y) k) s=ob (T181 B c145 p0 again' k0 s) k:=by
 rintro (_ | x)
 all_goals try cases x
 all_goals (unfold T181;repeat' first | exact rfl | exact h _ | apply qae | (apply qaj;intro))
def R181 (c145:C145) (p0:L157):Nat→S181→Option (LB)
 | 0,_=>none
 | n+1,s=>T181 Ops.std c145 p0 (R181 c145 p0 n) some (some s)
theorem rr181 {R:Type} (c145:C145) (p0:L157) (k:AV→Objs→Option R):∀ (n:Nat) (s:S181),A181 Ops.std c145 p0 k s n=ob (R181 c145 p0 n s) (K3 k)
 | 0,s=>by cases s<;>rfl
 | n+1,s=>by rw [el181];exact nt181 Ops.std c145 p0 _ _ some (K3 k) (rr181 c145 p0 k n) (some s)
def F181 (c145:C145) (p0:L157):Option (LB):=T181 Ops.std c145 p0 (R181 c145 p0 1000000) some none
abbrev C181:Type:=L157→Option (LB)
def e181 {R:Type} (c:C181):Ent R:=eG [.aC (.cL 157 ty157)] [] fun v k=>ob (c v.1) (K3 k)
abbrev Sp181 (c:C181):Prop:=∀ (p0:L157) (y:LB),c p0=some y→Spec Tryz.prog gl0 181 [.c (.list 157 ty157 p0)] [] (.c (.str y)) []
theorem ek181 {R:Type} {c:C181} (hs:Sp181 c):EOk 181 (e181 (R:=R) c):=qam fun v=>hs v.1
theorem sf181 {c145:C145} (h145:Sp145 c145):Sp181 (F181 c145):=fun p0 y hy=>by
 refine qai (qac (ek145 h145) qah) 1000000 (fn:=Tryz.f181) (by kernel_rfl) (by kernel_rfl) (X:=X181) (by kernel_rfl) ?_
 rw [eq181]
 exact (nt181 Ops.std c145 p0 _ _ some (K3 k0) (rr181 c145 p0 k0 1000000) none).trans (by show ob (F181 c145 p0) _=_;rw [hy];rfl)
noncomputable def M181:C181:=F181 M145
theorem sm181:Sp181 M181:=sf181 sm145
def X150:Aux:=⟨[],[(7,.lin ([0,1,4,5,8,9,12,13,16,19,20,23,24,2,3,6,7,10,11,14,15,17,18,21,22,25,26,27]))]⟩
def T150 {R:Type} (B:Ops) (c106:C106) (c107:C107) (c58:C58) (c110:C110) (c180:C180) (c151:C151) (c145:C145) (c181:C181) (p0:Int) (p1 p2 p3 p4:LB) (p5:L150) (p6:L157) (k:(LB)→Option R):Option R:=ob (c106 p4) fun y0=>ob (c107 p0) fun y1=>cond (!y1) (k (mt UInt8)) (cond (!y0.2) (k (mt UInt8)) (ob (c58 p1) fun y2=>cond (!y2) (k (mt UInt8)) (ob (c58 p2) fun y3=>cond (!y3) (k (mt UInt8)) (ob (c58 p3) fun y4=>cond (!y4) (k (mt UInt8)) (ob (c110 p5) fun y5=>cond (!y5) (k (mt UInt8)) (ob (c180 p6) fun y6=>cond (!y6) (k (mt UInt8)) (cond (p4 == mt UInt8) (ob (c151 p0) fun y7=>cond (B.lim (List.length y7+1) 1) (cond (B.lim (List.length (y7++([32]:LB))+List.length p1) 1) (cond (B.lim (List.length (y7++([32]:LB)++p1)+1) 1) (cond (B.lim (List.length (y7++([32]:LB)++p1++([32]:LB))+List.length p2) 1) (cond (B.lim (List.length (y7++([32]:LB)++p1++([32]:LB)++p2)+1) 1) (cond (B.lim (List.length (y7++([32]:LB)++p1++([32]:LB)++p2++([32]:LB))+List.length p3) 1) (cond (B.lim (List.length (y7++([32]:LB)++p1++([32]:LB)++p2++([32]:LB)++p3)+1) 1) (cond (B.lim (List.length (y7++([32]:LB)++p1++([32]:LB)++p2++([32]:LB)++p3++([32]:LB))+1) 1) (cond (B.lim (List.length (y7++([32]:LB)++p1++([32]:LB)++p2++([32]:LB)++p3++([32]:LB)++([45]:LB))+1) 1) (ob (c145 p5) fun y8=>cond (B.lim (List.length (y7++([32]:LB)++p1++([32]:LB)++p2++([32]:LB)++p3++([32]:LB)++([45]:LB)++([32]:LB))+List.length y8) 1) (ob (c181 p6) fun y9=>cond (B.lim (List.length (y7++([32]:LB)++p1++([32]:LB)++p2++([32]:LB)++p3++([32]:LB)++([45]:LB)++([32]:LB)++y8)+List.length y9) 1) (k (y7++([32]:LB)++p1++([32]:LB)++p2++([32]:LB)++p3++([32]:LB)++([45]:LB)++([32]:LB)++y8++y9)) none) none) none) none) none) none) none) none) none) none) none) (ob (c151 p0) fun y7=>cond (B.lim (List.length y7+1) 1) (cond (B.lim (List.length (y7++([32]:LB))+List.length p1) 1) (cond (B.lim (List.length (y7++([32]:LB)++p1)+1) 1) (cond (B.lim (List.length (y7++([32]:LB)++p1++([32]:LB))+List.length p2) 1) (cond (B.lim (List.length (y7++([32]:LB)++p1++([32]:LB)++p2)+1) 1) (cond (B.lim (List.length (y7++([32]:LB)++p1++([32]:LB)++p2++([32]:LB))+List.length p3) 1) (cond (B.lim (List.length (y7++([32]:LB)++p1++([32]:LB)++p2++([32]:LB)++p3)+1) 1) (cond (B.lim (List.length (y7++([32]:LB)++p1++([32]:LB)++p2++([32]:LB)++p3++([32]:LB))+List.length p4) 1) (cond (B.lim (List.length (y7++([32]:LB)++p1++([32]:LB)++p2++([32]:LB)++p3++([32]:LB)++p4)+1) 1) (ob (c145 p5) fun y8=>cond (B.lim (List.length (y7++([32]:LB)++p1++([32]:LB)++p2++([32]:LB)++p3++([32]:LB)++p4++([32]:LB))+List.length y8) 1) (ob (c181 p6) fun y9=>cond (B.lim (List.length (y7++([32]:LB)++p1++([32]:LB)++p2++([32]:LB)++p3++([32]:LB)++p4++([32]:LB)++y8)+List.length y9) 1) (k (y7++([32]:LB)++p1++([32]:LB)++p2++([32]:LB)++p3++([32]:LB)++p4++([32]:LB)++y8++y9)) none) none) none) none) none) none) none) none) none) none) none))))))))
theorem eq150 {R:Type} (B:Ops) (c106:C106) (c107:C107) (c58:C58) (c110:C110) (c180:C180) (c151:C151) (c145:C145) (c181:C181) (p0:Int) (p1 p2 p3 p4:LB) (p5:L150) (p6:L157) (k:AV→Objs→Option R) (n:Nat):afun tau B gl0 X150 (ent 106 (e106 c106) (ent 107 (e107 c107) (ent 58 (e58 c58) (ent 110 (e110 c110) (ent 180 (e180 c180) (ent 151 (e151 c151) (ent 145 (e145 c145) (ent 181 (e181 c181) gnil)))))))) ow Tryz.f150 [.agg [.int .i64 p0,.str p1,.str p2,.str p3,.str p4,.list 150 ty150 p5,.list 157 ty157 p6]] [] k n=T150 B c106 c107 c58 c110 c180 c151 c145 c181 p0 p1 p2 p3 p4 p5 p6 (K3 k):=by kernel_rfl
theorem nt150 {R R':Type} (B:Ops) (c106:C106) (c107:C107) (c58:C58) (c110:C110) (c180:C180) (c151:C151) (c145:C145) (c181:C181) (p0:Int) (p1 p2 p3 p4:LB) (p5:L150) (p6:L157) (k0:(LB)→Option R') (k:R'→Option R):T150 B c106 c107 c58 c110 c180 c151 c145 c181 p0 p1 p2 p3 p4 p5 p6 (fun y=>ob (k0 y) k)=ob (T150 B c106 c107 c58 c110 c180 c151 c145 c181 p0 p1 p2 p3 p4 p5 p6 k0) k:=by
 unfold T150
 repeat' first | exact rfl | apply qae | (apply qaj;intro)
def F150 (c106:C106) (c107:C107) (c58:C58) (c110:C110) (c180:C180) (c151:C151) (c145:C145) (c181:C181) (p0:Int) (p1 p2 p3 p4:LB) (p5:L150) (p6:L157):Option (LB):=T150 Ops.std c106 c107 c58 c110 c180 c151 c145 c181 p0 p1 p2 p3 p4 p5 p6 some
abbrev C150:Type:=Int→LB→LB→LB→LB→L150→L157→Option (LB)
def e150 {R:Type} (c:C150):Ent R:=eG [.aG [.cI .i64,.cS,.cS,.cS,.cS,.cL 150 ty150,.cL 157 ty157]] [] fun v k=>ob (c v.1 v.2.1 v.2.2.1 v.2.2.2.1 v.2.2.2.2.1 v.2.2.2.2.2.1 v.2.2.2.2.2.2.1) (K3 k)
abbrev Sp150 (c:C150):Prop:=∀ (p0:Int) (p1 p2 p3 p4:LB) (p5:L150) (p6:L157) (y:LB),c p0 p1 p2 p3 p4 p5 p6=some y→Spec Tryz.prog gl0 150 [.agg [.int .i64 p0,.str p1,.str p2,.str p3,.str p4,.list 150 ty150 p5,.list 157 ty157 p6]] [] (.c (.str y)) []
theorem ek150 {R:Type} {c:C150} (hs:Sp150 c):EOk 150 (e150 (R:=R) c):=qam fun v=>hs v.1 v.2.1 v.2.2.1 v.2.2.2.1 v.2.2.2.2.1 v.2.2.2.2.2.1 v.2.2.2.2.2.2.1
theorem sf150 {c106:C106} {c107:C107} {c58:C58} {c110:C110} {c180:C180} {c151:C151} {c145:C145} {c181:C181} (h106:Sp106 c106) (h107:Sp107 c107) (h58:Sp58 c58) (h110:Sp110 c110) (h180:Sp180 c180) (h151:Sp151 c151) (h145:Sp145 c145) (h181:Sp181 c181):Sp150 (F150 c106 c107 c58 c110 c180 c151 c145 c181):=fun p0 p1 p2 p3 p4 p5 p6 y hy=>by
 refine qai (qac (ek106 h106) (qac (ek107 h107) (qac (ek58 h58) (qac (ek110 h110) (qac (ek180 h180) (qac (ek151 h151) (qac (ek145 h145) (qac (ek181 h181) qah)))))))) 1000000 (fn:=Tryz.f150) (by kernel_rfl) (by kernel_rfl) (X:=X150) (by kernel_rfl) ?_
 rw [eq150]
 exact (nt150 Ops.std c106 c107 c58 c110 c180 c151 c145 c181 p0 p1 p2 p3 p4 p5 p6 some (K3 k0)).trans (by show ob (F150 c106 c107 c58 c110 c180 c151 c145 c181 p0 p1 p2 p3 p4 p5 p6) _=_;rw [hy];rfl)
noncomputable def M150:C150:=F150 M106 M107 M58 M110 M180 M151 M145 M181
theorem sm150:Sp150 M150:=sf150 sm106 sm107 sm58 sm110 sm180 sm151 sm145 sm181
def X59:Aux:=⟨[],[]⟩
def T59 {R:Type} (B:Ops) (p0:Int) (k:(Bool)→Option R):Option R:=cond (B.le (-999) p0) (k (B.le p0 999)) (k false)
theorem eq59 {R:Type} (B:Ops) (p0:Int) (k:AV→Objs→Option R) (n:Nat):afun tau B gl0 X59 gnil ow Tryz.f59 [.c (.int .i64 p0)] [] k n=T59 B p0 (K2 k):=by kernel_rfl
theorem nt59 {R R':Type} (B:Ops) (p0:Int) (k0:(Bool)→Option R') (k:R'→Option R):T59 B p0 (fun y=>ob (k0 y) k)=ob (T59 B p0 k0) k:=by
 unfold T59
 repeat' first | exact rfl | apply qae | (apply qaj;intro)
def F59 (p0:Int):Option (Bool):=T59 Ops.std p0 some
abbrev C59:Type:=Int→Option (Bool)
def e59 {R:Type} (c:C59):Ent R:=eG [.aC (.cI .i64)] [] fun v k=>ob (c v.1) (K2 k)
abbrev Sp59 (c:C59):Prop:=∀ (p0:Int) (y:Bool),c p0=some y→Spec Tryz.prog gl0 59 [.c (.int .i64 p0)] [] (.c (.bool y)) []
theorem ek59 {R:Type} {c:C59} (hs:Sp59 c):EOk 59 (e59 (R:=R) c):=qam fun v=>hs v.1
theorem sf59:Sp59 (F59):=fun p0 y hy=>by
 refine qai qah 1000000 (fn:=Tryz.f59) (by kernel_rfl) (by kernel_rfl) (X:=X59) (by kernel_rfl) ?_
 rw [eq59]
 exact (nt59 Ops.std p0 some (K2 k0)).trans (by show ob (F59 p0) _=_;rw [hy];rfl)
noncomputable def M59:C59:=F59
theorem sm59:Sp59 M59:=sf59
def X60:Aux:=⟨[(2,([1,2]++rg 4 21)),(5,([1,2]++rg 5 20))],[(7,.lin [0,1,2,3,4,5,6,7,8])]⟩
inductive S60 where
 | l0 (v1:Int)
 | l1 (v1 v2:Int)
def T60 {R:Type} (B:Ops) (p0:L9) (again:S60→Option R) (k:(Bool)→Option R):Option S60→Option R | none=>again (.l0 0) | some (.l0 v1)=>cond (B.lt v1 (↑p0.length)) (again (.l1 v1 0)) (k false) | some (.l1 v1 v2)=>cond (B.lt v2 v1) (cond (B.inb v1 p0.length) (cond (B.inb v2 p0.length) (cond (p0.getD v1.toNat ty9.dflt == p0.getD v2.toNat ty9.dflt) (k true) (again (.l1 v1 (IntKind.wrap .i64 (v2+1))))) none) none) (again (.l0 (IntKind.wrap .i64 (v1+1))))
def E60 (p0:L9):S60→List AV×Objs
 | .l0 v1=>(mk 25 [(0,.c (.list 9 ty9 p0)),(3,.c (.int .i64 v1))],[])
 | .l1 v1 v2=>(mk 25 [(0,.c (.list 9 ty9 p0)),(3,.c (.int .i64 v1)),(4,.c (.int .i64 v2))],[])
def I60:S60→Nat
 | .l0 _=>0
 | .l1 _ _=>1
noncomputable abbrev A60 {R:Type} (B:Ops) (p0:L9) (k:AV→Objs→Option R) (s:S60) (n:Nat):Option R:=aloop tau B gl0 X60 gnil ow [] Tryz.f60 k (I60 s) (E60 p0 s) n
theorem eq60 {R:Type} (B:Ops) (p0:L9) (k:AV→Objs→Option R) (n:Nat):afun tau B gl0 X60 gnil ow Tryz.f60 [.c (.list 9 ty9 p0)] [] k n=T60 B p0 (fun s=>A60 B p0 k s n) (K2 k) none:=by kernel_rfl
theorem el60 {R:Type} (B:Ops) (p0:L9) (k:AV→Objs→Option R) (n:Nat):∀ s,A60 B p0 k s (n+1)=T60 B p0 (fun s=>A60 B p0 k s n) (K2 k) (some s):=by
 intro s
 cases s<;>kernel_rfl
theorem nt60 {R R':Type} (B:Ops) (p0:L9) (again:S60→Option R) (again':S60→Option R') (k0:(Bool)→Option R') (k:R'→Option R) (h:∀ s,again s=ob (again' s) k):∀ s,T60 B p0 again (fun y=>ob (k0 y) k) s=ob (T60 B p0 again' k0 s) k:=by
 rintro (_ | x)
 all_goals try cases x
 all_goals (unfold T60;repeat' first | exact rfl | exact h _ | apply qae | (apply qaj;intro))
def R60 (p0:L9):Nat→S60→Option (Bool)
 | 0,_=>none
 | n+1,s=>T60 Ops.std p0 (R60 p0 n) some (some s)
theorem rr60 {R:Type} (p0:L9) (k:AV→Objs→Option R):∀ (n:Nat) (s:S60),A60 Ops.std p0 k s n=ob (R60 p0 n s) (K2 k)
 | 0,s=>by cases s<;>rfl
 | n+1,s=>by rw [el60];exact nt60 Ops.std p0 _ _ some (K2 k) (rr60 p0 k n) (some s)
def F60 (p0:L9):Option (Bool):=T60 Ops.std p0 (R60 p0 1000000) some none
abbrev C60:Type:=L9→Option (Bool)
def e60 {R:Type} (c:C60):Ent R:=eG [.aC (.cL 9 ty9)] [] fun v k=>ob (c v.1) (K2 k)
abbrev Sp60 (c:C60):Prop:=∀ (p0:L9) (y:Bool),c p0=some y→Spec Tryz.prog gl0 60 [.c (.list 9 ty9 p0)] [] (.c (.bool y)) []
theorem ek60 {R:Type} {c:C60} (hs:Sp60 c):EOk 60 (e60 (R:=R) c):=qam fun v=>hs v.1
theorem sf60:Sp60 (F60):=fun p0 y hy=>by
 refine qai qah 1000000 (fn:=Tryz.f60) (by kernel_rfl) (by kernel_rfl) (X:=X60) (by kernel_rfl) ?_
 rw [eq60]
 exact (nt60 Ops.std p0 _ _ some (K2 k0) (rr60 p0 k0 1000000) none).trans (by show ob (F60 p0) _=_;rw [hy];rfl)
noncomputable def M60:C60:=F60
theorem sm60:Sp60 M60:=sf60
def X105:Aux:=⟨[(2,([0,3,4]++rg 6 16))],[]⟩
inductive S105 where
 | l0 (v1:Int)
def T105 {R:Type} (B:Ops) (p0:L94) (p1:L98) (p2:L103) (p3:LB) (again:S105→Option R) (k:(Int)→Option R):Option S105→Option R | none=>again (.l0 0) | some (.l0 v1)=>cond (B.lt v1 (↑p1.length)) (cond (B.inb v1 p1.length) (cond ((p1.getD v1.toNat ty98.dflt).1 == p3) (k v1) (again (.l0 (IntKind.wrap .i64 (v1+1))))) none) (k (-1))
def E105 (p0:L94) (p1:L98) (p2:L103) (p3:LB):S105→List AV×Objs
 | .l0 v1=>(mk 22 [(1,.c (.str p3)),(2,.c (.ptr 2 0)),(5,.c (.int .i64 v1))],[(2,.box 31 [.list 94 ty94 p0,.list 98 ty98 p1,.list 103 ty103 p2])])
def I105:S105→Nat
 | .l0 _=>0
noncomputable abbrev A105 {R:Type} (B:Ops) (p0:L94) (p1:L98) (p2:L103) (p3:LB) (k:AV→Objs→Option R) (s:S105) (n:Nat):Option R:=aloop tau B gl0 X105 gnil ow [] Tryz.f105 k (I105 s) (E105 p0 p1 p2 p3 s) n
theorem eq105 {R:Type} (B:Ops) (p0:L94) (p1:L98) (p2:L103) (p3:LB) (k:AV→Objs→Option R) (n:Nat):afun tau B gl0 X105 gnil ow Tryz.f105 [.agg [.list 94 ty94 p0,.list 98 ty98 p1,.list 103 ty103 p2],.c (.str p3)] [] k n=T105 B p0 p1 p2 p3 (fun s=>A105 B p0 p1 p2 p3 k s n) (K1 k) none:=by kernel_rfl
theorem el105 {R:Type} (B:Ops) (p0:L94) (p1:L98) (p2:L103) (p3:LB) (k:AV→Objs→Option R) (n:Nat):∀ s,A105 B p0 p1 p2 p3 k s (n+1)=T105 B p0 p1 p2 p3 (fun s=>A105 B p0 p1 p2 p3 k s n) (K1 k) (some s):=by
 intro s
 cases s<;>kernel_rfl
theorem nt105 {R R':Type} (B:Ops) (p0:L94) (p1:L98) (p2:L103) (p3:LB) (again:S105→Option R) (again':S105→Option R') (k0:(Int)→Option R') (k:R'→Option R) (h:∀ s,again s=ob (again' s) k):∀ s,T105 B p0 p1 p2 p3 again (fun y=>ob (k0 y) k) s=ob (T105 B p0 p1 p2 p3 again' k0 s) k:=by
 rintro (_ | x)
 all_goals try cases x
 all_goals (unfold T105;repeat' first | exact rfl | exact h _ | apply qae | (apply qaj;intro))
def R105 (p0:L94) (p1:L98) (p2:L103) (p3:LB):Nat→S105→Option (Int)
 | 0,_=>none
 | n+1,s=>T105 Ops.std p0 p1 p2 p3 (R105 p0 p1 p2 p3 n) some (some s)
theorem rr105 {R:Type} (p0:L94) (p1:L98) (p2:L103) (p3:LB) (k:AV→Objs→Option R):∀ (n:Nat) (s:S105),A105 Ops.std p0 p1 p2 p3 k s n=ob (R105 p0 p1 p2 p3 n s) (K1 k)
 | 0,s=>by cases s<;>rfl
 | n+1,s=>by rw [el105];exact nt105 Ops.std p0 p1 p2 p3 _ _ some (K1 k) (rr105 p0 p1 p2 p3 k n) (some s)
def F105 (p0:L94) (p1:L98) (p2:L103) (p3:LB):Option (Int):=T105 Ops.std p0 p1 p2 p3 (R105 p0 p1 p2 p3 1000000) some none
abbrev C105:Type:=L94→L98→L103→LB→Option (Int)
def e105 {R:Type} (c:C105):Ent R:=eG [.aG [.cL 94 ty94,.cL 98 ty98,.cL 103 ty103],.aC .cS] [] fun v k=>ob (c v.1 v.2.1 v.2.2.1 v.2.2.2.1) (K1 k)
abbrev Sp105 (c:C105):Prop:=∀ (p0:L94) (p1:L98) (p2:L103) (p3:LB) (y:Int),c p0 p1 p2 p3=some y→Spec Tryz.prog gl0 105 [.agg [.list 94 ty94 p0,.list 98 ty98 p1,.list 103 ty103 p2],.c (.str p3)] [] (.c (.int .i64 y)) []
theorem ek105 {R:Type} {c:C105} (hs:Sp105 c):EOk 105 (e105 (R:=R) c):=qam fun v=>hs v.1 v.2.1 v.2.2.1 v.2.2.2.1
theorem sf105:Sp105 (F105):=fun p0 p1 p2 p3 y hy=>by
 refine qai qah 1000000 (fn:=Tryz.f105) (by kernel_rfl) (by kernel_rfl) (X:=X105) (by kernel_rfl) ?_
 rw [eq105]
 exact (nt105 Ops.std p0 p1 p2 p3 _ _ some (K1 k0) (rr105 p0 p1 p2 p3 k0 1000000) none).trans (by show ob (F105 p0 p1 p2 p3) _=_;rw [hy];rfl)
noncomputable def M105:C105:=F105
theorem sm105:Sp105 M105:=sf105
def X108:Aux:=⟨[(4,([0,4,5,6]++rg 8 25))],[]⟩
inductive S108 where
 | l0 (v2:Int)
def T108 {R:Type} (B:Ops) (p0:L94) (p1:L98) (p2:L103) (p3:Int) (p4:LB) (again:S108→Option R) (k:(Int)→Option R):Option S108→Option R | none=>cond (B.lt p3 0) (k (-1)) (again (.l0 0)) | some (.l0 v2)=>cond (B.inb p3 p1.length) (cond (B.lt v2 (Nat.cast (List.length (p1.getD p3.toNat ty98.dflt).2))) (cond (B.inb p3 p1.length) (cond (B.inb v2 (List.length (p1.getD p3.toNat ty98.dflt).2)) (cond (List.getD (p1.getD p3.toNat ty98.dflt).2 v2.toNat (Ty.dflt Ty.str) == p4) (k v2) (again (.l0 (IntKind.wrap .i64 (v2+1))))) none) none) (k (-1))) none
def E108 (p0:L94) (p1:L98) (p2:L103) (p3:Int) (p4:LB):S108→List AV×Objs
 | .l0 v2=>(mk 33 [(1,.c (.int .i64 p3)),(2,.c (.str p4)),(3,.c (.ptr 3 0)),(7,.c (.int .i64 v2))],[(3,.box 31 [.list 94 ty94 p0,.list 98 ty98 p1,.list 103 ty103 p2])])
def I108:S108→Nat
 | .l0 _=>0
noncomputable abbrev A108 {R:Type} (B:Ops) (p0:L94) (p1:L98) (p2:L103) (p3:Int) (p4:LB) (k:AV→Objs→Option R) (s:S108) (n:Nat):Option R:=aloop tau B gl0 X108 gnil ow [] Tryz.f108 k (I108 s) (E108 p0 p1 p2 p3 p4 s) n
theorem eq108 {R:Type} (B:Ops) (p0:L94) (p1:L98) (p2:L103) (p3:Int) (p4:LB) (k:AV→Objs→Option R) (n:Nat):afun tau B gl0 X108 gnil ow Tryz.f108 [.agg [.list 94 ty94 p0,.list 98 ty98 p1,.list 103 ty103 p2],.c (.int .i64 p3),.c (.str p4)] [] k n=T108 B p0 p1 p2 p3 p4 (fun s=>A108 B p0 p1 p2 p3 p4 k s n) (K1 k) none:=by kernel_rfl
theorem el108 {R:Type} (B:Ops) (p0:L94) (p1:L98) (p2:L103) (p3:Int) (p4:LB) (k:AV→Objs→Option R) (n:Nat):∀ s,A108 B p0 p1 p2 p3 p4 k s (n+1)=T108 B p0 p1 p2 p3 p4 (fun s=>A108 B p0 p1 p2 p3 p4 k s n) (K1 k) (some s):=by
 intro s
 cases s<;>kernel_rfl
theorem nt108 {R R':Type} (B:Ops) (p0:L94) (p1:L98) (p2:L103) (p3:Int) (p4:LB) (again:S108→Option R) (again':S108→Option R') (k0:(Int)→Option R') (k:R'→Option R) (h:∀ s,again s=ob (again' s) k):∀ s,T108 B p0 p1 p2 p3 p4 again (fun y=>ob (k0 y) k) s=ob (T108 B p0 p1 p2 p3 p4 again' k0 s) k:=by
 rintro (_ | x)
 all_goals try cases x
 all_goals (unfold T108;repeat' first | exact rfl | exact h _ | apply qae | (apply qaj;intro))
def R108 (p0:L94) (p1:L98) (p2:L103) (p3:Int) (p4:LB):Nat→S108→Option (Int)
 | 0,_=>none
 | n+1,s=>T108 Ops.std p0 p1 p2 p3 p4 (R108 p0 p1 p2 p3 p4 n) some (some s)
theorem rr108 {R:Type} (p0:L94) (p1:L98) (p2:L103) (p3:Int) (p4:LB) (k:AV→Objs→Option R):∀ (n:Nat) (s:S108),A108 Ops.std p0 p1 p2 p3 p4 k s n=ob (R108 p0 p1 p2 p3 p4 n s) (K1 k)
 | 0,s=>by cases s<;>rfl
 | n+1,s=>by rw [el108];exact nt108 Ops.std p0 p1 p2 p3 p4 _ _ some (K1 k) (rr108 p0 p1 p2 p3 p4 k n) (some s)
def F108 (p0:L94) (p1:L98) (p2:L103) (p3:Int) (p4:LB):Option (Int):=T108 Ops.std p0 p1 p2 p3 p4 (R108 p0 p1 p2 p3 p4 1000000) some none
abbrev C108:Type:=L94→L98→L103→Int→LB→Option (Int)
def e108 {R:Type} (c:C108):Ent R:=eG [.aG [.cL 94 ty94,.cL 98 ty98,.cL 103 ty103],.aC (.cI .i64),.aC .cS] [] fun v k=>ob (c v.1 v.2.1 v.2.2.1 v.2.2.2.1 v.2.2.2.2.1) (K1 k)
abbrev Sp108 (c:C108):Prop:=∀ (p0:L94) (p1:L98) (p2:L103) (p3:Int) (p4:LB) (y:Int),c p0 p1 p2 p3 p4=some y→Spec Tryz.prog gl0 108 [.agg [.list 94 ty94 p0,.list 98 ty98 p1,.list 103 ty103 p2],.c (.int .i64 p3),.c (.str p4)] [] (.c (.int .i64 y)) []
theorem ek108 {R:Type} {c:C108} (hs:Sp108 c):EOk 108 (e108 (R:=R) c):=qam fun v=>hs v.1 v.2.1 v.2.2.1 v.2.2.2.1 v.2.2.2.2.1
theorem sf108:Sp108 (F108):=fun p0 p1 p2 p3 p4 y hy=>by
 refine qai qah 1000000 (fn:=Tryz.f108) (by kernel_rfl) (by kernel_rfl) (X:=X108) (by kernel_rfl) ?_
 rw [eq108]
 exact (nt108 Ops.std p0 p1 p2 p3 p4 _ _ some (K1 k0) (rr108 p0 p1 p2 p3 p4 k0 1000000) none).trans (by show ob (F108 p0 p1 p2 p3 p4) _=_;rw [hy];rfl)
noncomputable def M108:C108:=F108
theorem sm108:Sp108 M108:=sf108
def X109:Aux:=⟨[(2,([0,3,4]++rg 6 16))],[]⟩
inductive S109 where
 | l0 (v1:Int)
def T109 {R:Type} (B:Ops) (p0:L94) (p1:L98) (p2:L103) (p3:LB) (again:S109→Option R) (k:(Int)→Option R):Option S109→Option R | none=>again (.l0 0) | some (.l0 v1)=>cond (B.lt v1 (↑p0.length)) (cond (B.inb v1 p0.length) (cond ((p0.getD v1.toNat ty94.dflt).1 == p3) (k v1) (again (.l0 (IntKind.wrap .i64 (v1+1))))) none) (k (-1))
def E109 (p0:L94) (p1:L98) (p2:L103) (p3:LB):S109→List AV×Objs
 | .l0 v1=>(mk 22 [(1,.c (.str p3)),(2,.c (.ptr 2 0)),(5,.c (.int .i64 v1))],[(2,.box 31 [.list 94 ty94 p0,.list 98 ty98 p1,.list 103 ty103 p2])])
def I109:S109→Nat
 | .l0 _=>0
noncomputable abbrev A109 {R:Type} (B:Ops) (p0:L94) (p1:L98) (p2:L103) (p3:LB) (k:AV→Objs→Option R) (s:S109) (n:Nat):Option R:=aloop tau B gl0 X109 gnil ow [] Tryz.f109 k (I109 s) (E109 p0 p1 p2 p3 s) n
theorem eq109 {R:Type} (B:Ops) (p0:L94) (p1:L98) (p2:L103) (p3:LB) (k:AV→Objs→Option R) (n:Nat):afun tau B gl0 X109 gnil ow Tryz.f109 [.agg [.list 94 ty94 p0,.list 98 ty98 p1,.list 103 ty103 p2],.c (.str p3)] [] k n=T109 B p0 p1 p2 p3 (fun s=>A109 B p0 p1 p2 p3 k s n) (K1 k) none:=by kernel_rfl
theorem el109 {R:Type} (B:Ops) (p0:L94) (p1:L98) (p2:L103) (p3:LB) (k:AV→Objs→Option R) (n:Nat):∀ s,A109 B p0 p1 p2 p3 k s (n+1)=T109 B p0 p1 p2 p3 (fun s=>A109 B p0 p1 p2 p3 k s n) (K1 k) (some s):=by
 intro s
 cases s<;>kernel_rfl
theorem nt109 {R R':Type} (B:Ops) (p0:L94) (p1:L98) (p2:L103) (p3:LB) (again:S109→Option R) (again':S109→Option R') (k0:(Int)→Option R') (k:R'→Option R) (h:∀ s,again s=ob (again' s) k):∀ s,T109 B p0 p1 p2 p3 again (fun y=>ob (k0 y) k) s=ob (T109 B p0 p1 p2 p3 again' k0 s) k:=by
 rintro (_ | x)
 all_goals try cases x
 all_goals (unfold T109;repeat' first | exact rfl | exact h _ | apply qae | (apply qaj;intro))
def R109 (p0:L94) (p1:L98) (p2:L103) (p3:LB):Nat→S109→Option (Int)
 | 0,_=>none
 | n+1,s=>T109 Ops.std p0 p1 p2 p3 (R109 p0 p1 p2 p3 n) some (some s)
theorem rr109 {R:Type} (p0:L94) (p1:L98) (p2:L103) (p3:LB) (k:AV→Objs→Option R):∀ (n:Nat) (s:S109),A109 Ops.std p0 p1 p2 p3 k s n=ob (R109 p0 p1 p2 p3 n s) (K1 k)
 | 0,s=>by cases s<;>rfl
 | n+1,s=>by rw [el109];exact nt109 Ops.std p0 p1 p2 p3 _ _ some (K1 k) (rr109 p0 p1 p2 p3 k n) (some s)
def F109 (p0:L94) (p1:L98) (p2:L103) (p3:LB):Option (Int):=T109 Ops.std p0 p1 p2 p3 (R109 p0 p1 p2 p3 1000000) some none
abbrev C109:Type:=L94→L98→L103→LB→Option (Int)
def e109 {R:Type} (c:C109):Ent R:=eG [.aG [.cL 94 ty94,.cL 98 ty98,.cL 103 ty103],.aC .cS] [] fun v k=>ob (c v.1 v.2.1 v.2.2.1 v.2.2.2.1) (K1 k)
abbrev Sp109 (c:C109):Prop:=∀ (p0:L94) (p1:L98) (p2:L103) (p3:LB) (y:Int),c p0 p1 p2 p3=some y→Spec Tryz.prog gl0 109 [.agg [.list 94 ty94 p0,.list 98 ty98 p1,.list 103 ty103 p2],.c (.str p3)] [] (.c (.int .i64 y)) []
theorem ek109 {R:Type} {c:C109} (hs:Sp109 c):EOk 109 (e109 (R:=R) c):=qam fun v=>hs v.1 v.2.1 v.2.2.1 v.2.2.2.1
theorem sf109:Sp109 (F109):=fun p0 p1 p2 p3 y hy=>by
 refine qai qah 1000000 (fn:=Tryz.f109) (by kernel_rfl) (by kernel_rfl) (X:=X109) (by kernel_rfl) ?_
 rw [eq109]
 exact (nt109 Ops.std p0 p1 p2 p3 _ _ some (K1 k0) (rr109 p0 p1 p2 p3 k0 1000000) none).trans (by show ob (F109 p0 p1 p2 p3) _=_;rw [hy];rfl)
noncomputable def M109:C109:=F109
theorem sm109:Sp109 M109:=sf109
def X62:Aux:=⟨[(2,([0,3,4]++rg 6 49))],[(4,.lin (rg 0 31++[32,33,34,35,36,31,37,38,39,40]))]⟩
inductive S62 where
 | l0 (v1:Int)
def T62 {R:Type} (B:Ops) (c109:C109) (c105:C105) (c108:C108) (c110:C110) (p0:L94) (p1:L98) (p2:L103) (p3:L150) (again:S62→Option R) (k:(Bool)→Option R):Option S62→Option R | none=>again (.l0 0) | some (.l0 v1)=>cond (B.lt v1 (↑p3.length)) (cond (B.inb v1 p3.length) (cond (B.eq (p3.getD v1.toNat ty150.dflt).1 2) (cond (B.inb v1 p3.length) (ob (c109 p0 p1 p2 (((p3.getD v1.toNat ty150.dflt).2).2).1) fun y0=>cond (B.lt y0 0) (k false) (cond (B.inb v1 p3.length) (cond (B.eq (p3.getD v1.toNat ty150.dflt).1 3) (cond (B.inb v1 p3.length) (cond (B.inb v1 p3.length) (ob (c105 p0 p1 p2 (((p3.getD v1.toNat ty150.dflt).2).2).1) fun y1=>ob (c108 p0 p1 p2 y1 (((p3.getD v1.toNat ty150.dflt).2).2).2) fun y2=>cond (B.lt y2 0) (k false) (again (.l0 (IntKind.wrap .i64 (v1+1))))) none) none) (again (.l0 (IntKind.wrap .i64 (v1+1))))) none)) none) (cond (B.inb v1 p3.length) (cond (B.eq (p3.getD v1.toNat ty150.dflt).1 3) (cond (B.inb v1 p3.length) (cond (B.inb v1 p3.length) (ob (c105 p0 p1 p2 (((p3.getD v1.toNat ty150.dflt).2).2).1) fun y0=>ob (c108 p0 p1 p2 y0 (((p3.getD v1.toNat ty150.dflt).2).2).2) fun y1=>cond (B.lt y1 0) (k false) (again (.l0 (IntKind.wrap .i64 (v1+1))))) none) none) (again (.l0 (IntKind.wrap .i64 (v1+1))))) none)) none) (ob (c110 p3) fun y0=>k y0)
def E62 (p0:L94) (p1:L98) (p2:L103) (p3:L150):S62→List AV×Objs
 | .l0 v1=>(mk 55 [(1,.c (.list 150 ty150 p3)),(2,.c (.ptr 2 0)),(5,.c (.int .i64 v1))],[(2,.box 31 [.list 94 ty94 p0,.list 98 ty98 p1,.list 103 ty103 p2])])
def I62:S62→Nat
 | .l0 _=>0
noncomputable abbrev A62 {R:Type} (B:Ops) (c109:C109) (c105:C105) (c108:C108) (c110:C110) (p0:L94) (p1:L98) (p2:L103) (p3:L150) (k:AV→Objs→Option R) (s:S62) (n:Nat):Option R:=aloop tau B gl0 X62 (ent 109 (e109 c109) (ent 105 (e105 c105) (ent 108 (e108 c108) (ent 110 (e110 c110) gnil)))) ow [] Tryz.f62 k (I62 s) (E62 p0 p1 p2 p3 s) n
theorem eq62 {R:Type} (B:Ops) (c109:C109) (c105:C105) (c108:C108) (c110:C110) (p0:L94) (p1:L98) (p2:L103) (p3:L150) (k:AV→Objs→Option R) (n:Nat):afun tau B gl0 X62 (ent 109 (e109 c109) (ent 105 (e105 c105) (ent 108 (e108 c108) (ent 110 (e110 c110) gnil)))) ow Tryz.f62 [.agg [.list 94 ty94 p0,.list 98 ty98 p1,.list 103 ty103 p2],.c (.list 150 ty150 p3)] [] k n=T62 B c109 c105 c108 c110 p0 p1 p2 p3 (fun s=>A62 B c109 c105 c108 c110 p0 p1 p2 p3 k s n) (K2 k) none:=by kernel_rfl
theorem el62 {R:Type} (B:Ops) (c109:C109) (c105:C105) (c108:C108) (c110:C110) (p0:L94) (p1:L98) (p2:L103) (p3:L150) (k:AV→Objs→Option R) (n:Nat):∀ s,A62 B c109 c105 c108 c110 p0 p1 p2 p3 k s (n+1)=T62 B c109 c105 c108 c110 p0 p1 p2 p3 (fun s=>A62 B c109 c105 c108 c110 p0 p1 p2 p3 k s n) (K2 k) (some s):=by
 intro s
 cases s<;>kernel_rfl
theorem nt62 {R R':Type} (B:Ops) (c109:C109) (c105:C105) (c108:C108) (c110:C110) (p0:L94) (p1:L98) (p2:L103) (p3:L150) (again:S62→Option R) (again':S62→Option R') (k0:(Bool)→Option R') (k:R'→Option R) (h:∀ s,again s=ob (again' s) k):∀ s,T62 B c109 c105 c108 c110 p0 p1 p2 p3 again (fun y=>ob (k0 y) k) s=ob (T62 B c109 c105 c108 c110 p0 p1 p2 p3 again' k0 s) k:=by
 rintro (_ | x)
 all_goals try cases x
 all_goals (unfold T62;repeat' first | exact rfl | exact h _ | apply qae | (apply qaj;intro))
def R62 (c109:C109) (c105:C105) (c108:C108) (c110:C110) (p0:L94) (p1:L98) (p2:L103) (p3:L150):Nat→S62→Option (Bool)
 | 0,_=>none
 | n+1,s=>T62 Ops.std c109 c105 c108 c110 p0 p1 p2 p3 (R62 c109 c105 c108 c110 p0 p1 p2 p3 n) some (some s)
theorem rr62 {R:Type} (c109:C109) (c105:C105) (c108:C108) (c110:C110) (p0:L94) (p1:L98) (p2:L103) (p3:L150) (k:AV→Objs→Option R):∀ (n:Nat) (s:S62),A62 Ops.std c109 c105 c108 c110 p0 p1 p2 p3 k s n=ob (R62 c109 c105 c108 c110 p0 p1 p2 p3 n s) (K2 k)
 | 0,s=>by cases s<;>rfl
 | n+1,s=>by rw [el62];exact nt62 Ops.std c109 c105 c108 c110 p0 p1 p2 p3 _ _ some (K2 k) (rr62 c109 c105 c108 c110 p0 p1 p2 p3 k n) (some s)
def F62 (c109:C109) (c105:C105) (c108:C108) (c110:C110) (p0:L94) (p1:L98) (p2:L103) (p3:L150):Option (Bool):=T62 Ops.std c109 c105 c108 c110 p0 p1 p2 p3 (R62 c109 c105 c108 c110 p0 p1 p2 p3 1000000) some none
abbrev C62:Type:=L94→L98→L103→L150→Option (Bool)
def e62 {R:Type} (c:C62):Ent R:=eG [.aG [.cL 94 ty94,.cL 98 ty98,.cL 103 ty103],.aC (.cL 150 ty150)] [] fun v k=>ob (c v.1 v.2.1 v.2.2.1 v.2.2.2.1) (K2 k)
abbrev Sp62 (c:C62):Prop:=∀ (p0:L94) (p1:L98) (p2:L103) (p3:L150) (y:Bool),c p0 p1 p2 p3=some y→Spec Tryz.prog gl0 62 [.agg [.list 94 ty94 p0,.list 98 ty98 p1,.list 103 ty103 p2],.c (.list 150 ty150 p3)] [] (.c (.bool y)) []
theorem ek62 {R:Type} {c:C62} (hs:Sp62 c):EOk 62 (e62 (R:=R) c):=qam fun v=>hs v.1 v.2.1 v.2.2.1 v.2.2.2.1
theorem sf62 {c109:C109} {c105:C105} {c108:C108} {c110:C110} (h109:Sp109 c109) (h105:Sp105 c105) (h108:Sp108 c108) (h110:Sp110 c110):Sp62 (F62 c109 c105 c108 c110):=fun p0 p1 p2 p3 y hy=>by
 refine qai (qac (ek109 h109) (qac (ek105 h105) (qac (ek108 h108) (qac (ek110 h110) qah)))) 1000000 (fn:=Tryz.f62) (by kernel_rfl) (by kernel_rfl) (X:=X62) (by kernel_rfl) ?_
 rw [eq62]
 exact (nt62 Ops.std c109 c105 c108 c110 p0 p1 p2 p3 _ _ some (K2 k0) (rr62 c109 c105 c108 c110 p0 p1 p2 p3 k0 1000000) none).trans (by show ob (F62 c109 c105 c108 c110 p0 p1 p2 p3) _=_;rw [hy];rfl)
noncomputable def M62:C62:=F62 M109 M105 M108 M110
theorem sm62:Sp62 M62:=sf62 sm109 sm105 sm108 sm110
def X61:Aux:=⟨[(6,([0,1,4,5,6,7]++rg 9 74))],[(8,.lin (rg 0 20))]⟩
inductive S61 where
 | l0 (v0:Int)
def T61 {R:Type} (B:Ops) (c105:C105) (c106:C106) (c107:C107) (c108:C108) (c62:C62) (c109:C109) (p0:L94) (p1:L98) (p2:L103) (p3:Int) (p4 p5 p6 p7:LB) (p8:L150) (p9:L157) (again:S61→Option R) (k:(Bool)→Option R):Option S61→Option R | none=>ob (c105 p0 p1 p2 p4) fun y0=>ob (c106 p7) fun y1=>ob (c107 p3) fun y2=>cond (!y2) (k false) (cond (!y1.2) (k false) (ob (c108 p0 p1 p2 y0 p5) fun y3=>cond (B.lt y3 0) (k false) (ob (c108 p0 p1 p2 y0 p6) fun y4=>cond (B.lt y4 0) (k false) (ob (c62 p0 p1 p2 p8) fun y5=>cond (!y5) (k false) (cond (B.lt 3 (↑p9.length)) (k false) (again (.l0 0))))))) | some (.l0 v0)=>cond (B.lt v0 (↑p9.length)) (cond (B.inb v0 p9.length) (ob (c109 p0 p1 p2 (p9.getD v0.toNat ty157.dflt).1) fun y0=>cond (B.lt y0 0) (k false) (cond (B.inb v0 p9.length) (ob (c62 p0 p1 p2 (p9.getD v0.toNat ty157.dflt).2) fun y1=>cond (!y1) (k false) (again (.l0 (IntKind.wrap .i64 (v0+1))))) none)) none) (k true)
def E61 (p0:L94) (p1:L98) (p2:L103) (p3:Int) (p4 p5 p6 p7:LB) (p8:L150) (p9:L157):S61→List AV×Objs
 | .l0 v0=>(mk 83 [(2,.c (.ptr 2 0)),(3,.c (.ptr 3 0)),(8,.c (.int .i64 v0))],[(2,.box 31 [.list 94 ty94 p0,.list 98 ty98 p1,.list 103 ty103 p2]),(3,.box 103 [.int .i64 p3,.str p4,.str p5,.str p6,.str p7,.list 150 ty150 p8,.list 157 ty157 p9])])
def I61:S61→Nat
 | .l0 _=>0
noncomputable abbrev A61 {R:Type} (B:Ops) (c105:C105) (c106:C106) (c107:C107) (c108:C108) (c62:C62) (c109:C109) (p0:L94) (p1:L98) (p2:L103) (p3:Int) (p4 p5 p6 p7:LB) (p8:L150) (p9:L157) (k:AV→Objs→Option R) (s:S61) (n:Nat):Option R:=aloop tau B gl0 X61 (ent 105 (e105 c105) (ent 106 (e106 c106) (ent 107 (e107 c107) (ent 108 (e108 c108) (ent 62 (e62 c62) (ent 109 (e109 c109) gnil)))))) ow [] Tryz.f61 k (I61 s) (E61 p0 p1 p2 p3 p4 p5 p6 p7 p8 p9 s) n
theorem eq61 {R:Type} (B:Ops) (c105:C105) (c106:C106) (c107:C107) (c108:C108) (c62:C62) (c109:C109) (p0:L94) (p1:L98) (p2:L103) (p3:Int) (p4 p5 p6 p7:LB) (p8:L150) (p9:L157) (k:AV→Objs→Option R) (n:Nat):afun tau B gl0 X61 (ent 105 (e105 c105) (ent 106 (e106 c106) (ent 107 (e107 c107) (ent 108 (e108 c108) (ent 62 (e62 c62) (ent 109 (e109 c109) gnil)))))) ow Tryz.f61 [.agg [.list 94 ty94 p0,.list 98 ty98 p1,.list 103 ty103 p2],.agg [.int .i64 p3,.str p4,.str p5,.str p6,.str p7,.list 150 ty150 p8,.list 157 ty157 p9]] [] k n=T61 B c105 c106 c107 c108 c62 c109 p0 p1 p2 p3 p4 p5 p6 p7 p8 p9 (fun s=>A61 B c105 c106 c107 c108 c62 c109 p0 p1 p2 p3 p4 p5 p6 p7 p8 p9 k s n) (K2 k) none:=by kernel_rfl
theorem el61 {R:Type} (B:Ops) (c105:C105) (c106:C106) (c107:C107) (c108:C108) (c62:C62) (c109:C109) (p0:L94) (p1:L98) (p2:L103) (p3:Int) (p4 p5 p6 p7:LB) (p8:L150) (p9:L157) (k:AV→Objs→Option R) (n:Nat):∀ s,A61 B c105 c106 c107 c108 c62 c109 p0 p1 p2 p3 p4 p5 p6 p7 p8 p9 k s (n+1)=T61 B c105 c106 c107 c108 c62 c109 p0 p1 p2 p3 p4 p5 p6 p7 p8 p9 (fun s=>A61 B c105 c106 c107 c108 c62 c109 p0 p1 p2 p3 p4 p5 p6 p7 p8 p9 k s n) (K2 k) (some s):=by
 intro s
 cases s<;>kernel_rfl
theorem nt61 {R R':Type} (B:Ops) (c105:C105) (c106:C106) (c107:C107) (c108:C108) (c62:C62) (c109:C109) (p0:L94) (p1:L98) (p2:L103) (p3:Int) (p4 p5 p6 p7:LB) (p8:L150) (p9:L157) (again:S61→Option R) (again':S61→Option R') (k0:(Bool)→Option R') (k:R'→Option R) (h:∀ s,again s=ob (again' s) k):∀ s,T61 B c105 c106 c107 c108 c62 c109 p0 p1 p2 p3 p4 p5 p6 p7 p8 p9 again (fun y=>ob (k0 y) k) s=ob (T61 B c105 c106 c107 c108 c62 c109 p0 p1 p2 p3 p4 p5 p6 p7 p8 p9 again' k0 s) k:=by
 rintro (_ | x)
 all_goals try cases x
 all_goals (unfold T61;repeat' first | exact rfl | exact h _ | apply qae | (apply qaj;intro))
def R61 (c105:C105) (c106:C106) (c107:C107) (c108:C108) (c62:C62) (c109:C109) (p0:L94) (p1:L98) (p2:L103) (p3:Int) (p4 p5 p6 p7:LB) (p8:L150) (p9:L157):Nat→S61→Option (Bool)
 | 0,_=>none
 | n+1,s=>T61 Ops.std c105 c106 c107 c108 c62 c109 p0 p1 p2 p3 p4 p5 p6 p7 p8 p9 (R61 c105 c106 c107 c108 c62 c109 p0 p1 p2 p3 p4 p5 p6 p7 p8 p9 n) some (some s)
theorem rr61 {R:Type} (c105:C105) (c106:C106) (c107:C107) (c108:C108) (c62:C62) (c109:C109) (p0:L94) (p1:L98) (p2:L103) (p3:Int) (p4 p5 p6 p7:LB) (p8:L150) (p9:L157) (k:AV→Objs→Option R):∀ (n:Nat) (s:S61),A61 Ops.std c105 c106 c107 c108 c62 c109 p0 p1 p2 p3 p4 p5 p6 p7 p8 p9 k s n=ob (R61 c105 c106 c107 c108 c62 c109 p0 p1 p2 p3 p4 p5 p6 p7 p8 p9 n s) (K2 k)
 | 0,s=>by cases s<;>rfl
 | n+1,s=>by rw [el61];exact nt61 Ops.std c105 c106 c107 c108 c62 c109 p0 p1 p2 p3 p4 p5 p6 p7 p8 p9 _ _ some (K2 k) (rr61 c105 c106 c107 c108 c62 c109 p0 p1 p2 p3 p4 p5 p6 p7 p8 p9 k n) (some s)
def F61 (c105:C105) (c106:C106) (c107:C107) (c108:C108) (c62:C62) (c109:C109) (p0:L94) (p1:L98) (p2:L103) (p3:Int) (p4 p5 p6 p7:LB) (p8:L150) (p9:L157):Option (Bool):=T61 Ops.std c105 c106 c107 c108 c62 c109 p0 p1 p2 p3 p4 p5 p6 p7 p8 p9 (R61 c105 c106 c107 c108 c62 c109 p0 p1 p2 p3 p4 p5 p6 p7 p8 p9 1000000) some none
abbrev C61:Type:=L94→L98→L103→Int→LB→LB→LB→LB→L150→L157→Option (Bool)
def e61 {R:Type} (c:C61):Ent R:=eG [.aG [.cL 94 ty94,.cL 98 ty98,.cL 103 ty103],.aG [.cI .i64,.cS,.cS,.cS,.cS,.cL 150 ty150,.cL 157 ty157]] [] fun v k=>ob (c v.1 v.2.1 v.2.2.1 v.2.2.2.1 v.2.2.2.2.1 v.2.2.2.2.2.1 v.2.2.2.2.2.2.1 v.2.2.2.2.2.2.2.1 v.2.2.2.2.2.2.2.2.1 v.2.2.2.2.2.2.2.2.2.1) (K2 k)
abbrev Sp61 (c:C61):Prop:=∀ (p0:L94) (p1:L98) (p2:L103) (p3:Int) (p4 p5 p6 p7:LB) (p8:L150) (p9:L157) (y:Bool),c p0 p1 p2 p3 p4 p5 p6 p7 p8 p9=some y→Spec Tryz.prog gl0 61 [.agg [.list 94 ty94 p0,.list 98 ty98 p1,.list 103 ty103 p2],.agg [.int .i64 p3,.str p4,.str p5,.str p6,.str p7,.list 150 ty150 p8,.list 157 ty157 p9]] [] (.c (.bool y)) []
theorem ek61 {R:Type} {c:C61} (hs:Sp61 c):EOk 61 (e61 (R:=R) c):=qam fun v=>hs v.1 v.2.1 v.2.2.1 v.2.2.2.1 v.2.2.2.2.1 v.2.2.2.2.2.1 v.2.2.2.2.2.2.1 v.2.2.2.2.2.2.2.1 v.2.2.2.2.2.2.2.2.1 v.2.2.2.2.2.2.2.2.2.1
theorem sf61 {c105:C105} {c106:C106} {c107:C107} {c108:C108} {c62:C62} {c109:C109} (h105:Sp105 c105) (h106:Sp106 c106) (h107:Sp107 c107) (h108:Sp108 c108) (h62:Sp62 c62) (h109:Sp109 c109):Sp61 (F61 c105 c106 c107 c108 c62 c109):=fun p0 p1 p2 p3 p4 p5 p6 p7 p8 p9 y hy=>by
 refine qai (qac (ek105 h105) (qac (ek106 h106) (qac (ek107 h107) (qac (ek108 h108) (qac (ek62 h62) (qac (ek109 h109) qah)))))) 1000000 (fn:=Tryz.f61) (by kernel_rfl) (by kernel_rfl) (X:=X61) (by kernel_rfl) ?_
 rw [eq61]
 exact (nt61 Ops.std c105 c106 c107 c108 c62 c109 p0 p1 p2 p3 p4 p5 p6 p7 p8 p9 _ _ some (K2 k0) (rr61 c105 c106 c107 c108 c62 c109 p0 p1 p2 p3 p4 p5 p6 p7 p8 p9 k0 1000000) none).trans (by show ob (F61 c105 c106 c107 c108 c62 c109 p0 p1 p2 p3 p4 p5 p6 p7 p8 p9) _=_;rw [hy];rfl)
noncomputable def M61:C61:=F61 M105 M106 M107 M108 M62 M109
theorem sm61:Sp61 M61:=sf61 sm105 sm106 sm107 sm108 sm62 sm109
def X18:Aux:=⟨[(3,([0,2]++rg 6 166)),(10,([0,2,5,6]++rg 8 164)),(17,([0,2,5,6]++rg 10 162)),(24,([0,2,3,4,5,6,7,8,9]++rg 11 161)),(1000004,([0,2]++rg 6 166)),(1000016,([0,2,5,6]++rg 9 163)),(1000023,([0]++rg 2 170)),(1000025,([0,2,3,4,5,6,7,8,9]++rg 11 161))],[(26,.lin (rg 0 28))]⟩
inductive S18 where
 | l0 (v0:Int) (v4:L9)
 | l1 (v0:Int) (v4 v5:L9)
 | l2 (v0 v1:Int) (v5 v6:L9) (v7:LB) (v8:L9)
 | l3 (v0:Int)
 | l1004 (v0:Int) (v4:L9)
 | l1016 (v0:Int) (v4 v5:L9) (v6:LB) (v7:L9)
 | l1023
 | l1025 (v0:Int)
def T18 {R:Type} (B:Ops) (c58:C58) (c59:C59) (c60:C60) (c61:C61) (p0:L94) (p1:L98) (p2:L103) (again:S18→Option R) (k:(Bool)→Option R):Option S18→Option R | none=>again (.l0 0 (mt (Ty.den Ty.str))) | some (.l0 v0 v4)=>cond (B.lt v0 (↑p0.length)) (cond (B.inb v0 p0.length) (cond (B.lim (List.length v4+List.length ((p0.getD v0.toNat ty94.dflt).1::mt (Ty.den Ty.str))) 16) (ob (c58 (p0.getD v0.toNat ty94.dflt).1) fun y0=>cond (!y0) (k false) (cond (B.lt (((p0.getD v0.toNat ty94.dflt).2).2).2 ((p0.getD v0.toNat ty94.dflt).2).1) (k false) (cond (B.lt (((p0.getD v0.toNat ty94.dflt).2).2).1 (((p0.getD v0.toNat ty94.dflt).2).2).2) (k false) (ob (c59 ((p0.getD v0.toNat ty94.dflt).2).1) fun y1=>cond (!y1) (k false) (ob (c59 (((p0.getD v0.toNat ty94.dflt).2).2).1) fun y2=>cond (!y2) (k false) (again (.l1004 v0 (v4++(p0.getD v0.toNat ty94.dflt).1::mt (Ty.den Ty.str))))))))) none) none) (again (.l1 0 v4 ((mt (Ty.den Ty.str))))) | some (.l1 v0 v4 v5)=>cond (B.lt v0 (↑p1.length)) (cond (B.inb v0 p1.length) (cond (B.lim (List.length v5+List.length ((p1.getD v0.toNat ty98.dflt).1::mt (Ty.den Ty.str))) 16) (ob (c58 (p1.getD v0.toNat ty98.dflt).1) fun y0=>cond (!y0) (k false) (cond (B.lt (Nat.cast (List.length (p1.getD v0.toNat ty98.dflt).2)) 1) (k false) (cond (B.lt 6 (Nat.cast (List.length (p1.getD v0.toNat ty98.dflt).2))) (k false) (ob (c60 (p1.getD v0.toNat ty98.dflt).2) fun y1=>cond (y1) (k false) (again (.l1016 v0 v4 (v5++(p1.getD v0.toNat ty98.dflt).1::mt (Ty.den Ty.str)) (p1.getD v0.toNat ty98.dflt).1 (p1.getD v0.toNat ty98.dflt).2)))))) none) none) (cond (B.lt 4 (↑v4.length)) (k false) (cond (B.lt (↑v5.length) 1) (k false) (cond (B.lt 3 (↑v5.length)) (k false) (cond (B.lt 16 (↑p2.length)) (k false) (ob (c60 v4) fun y0=>cond (y0) (k false) (ob (c60 v5) fun y1=>cond (y1) (k false) (again (.l1023)))))))) | some (.l2 v0 v1 v5 v6 v7 v8)=>cond (B.lt v1 (↑v8.length)) (cond (B.inb v1 v8.length) (ob (c58 (v8.getD v1.toNat ty9.dflt)) fun y0=>cond (!y0) (k false) (again (.l2 v0 (IntKind.wrap .i64 (v1+1)) v5 v6 v7 v8))) none) (again (.l1 (IntKind.wrap .i64 (v0+1)) v5 v6)) | some (.l3 v0)=>cond (B.lt v0 (↑p2.length)) (cond (B.inb v0 p2.length) (ob (c61 p0 p1 p2 (p2.getD v0.toNat ty103.dflt).1 ((p2.getD v0.toNat ty103.dflt).2).1 (((p2.getD v0.toNat ty103.dflt).2).2).1 ((((p2.getD v0.toNat ty103.dflt).2).2).2).1 ((((((p2.getD v0.toNat ty103.dflt).2).2).2).2).1) (Prod.fst ((((((p2.getD v0.toNat ty103.dflt).2).2).2).2).2)) (Prod.snd ((((((p2.getD v0.toNat ty103.dflt).2).2).2).2).2))) fun y0=>cond (!y0) (k false) (cond (B.lt 0 v0) (cond (B.inb v0 p2.length) (cond (B.inb (IntKind.wrap .i64 (v0-1)) p2.length) (cond (B.le (p2.getD v0.toNat ty103.dflt).1 (p2.getD (Int.toNat (IntKind.wrap .i64 (v0-1))) ty103.dflt).1) (k false) (again (.l1025 v0))) none) none) (again (.l1025 v0)))) none) (k true) | some (.l1004 v0 v4)=>again (.l0 (IntKind.wrap .i64 (v0+1)) v4) | some (.l1016 v0 v4 v5 v6 v7)=>again (.l2 v0 0 v4 v5 v6 v7) | some (.l1023)=>again (.l3 0) | some (.l1025 v0)=>again (.l3 (IntKind.wrap .i64 (v0+1)))
def E18 (p0:L94) (p1:L98) (p2:L103):S18→List AV×Objs
 | .l0 v0 v4=>(mk 172 [(1,.c (.ptr 1 0)),(3,.c (.own 3)),(4,.c (.own 4)),(5,.c (.int .i64 v0))],[(1,.box 31 [.list 94 ty94 p0,.list 98 ty98 p1,.list 103 ty103 p2]),(3,.row 9 ty9 v4),(4,.row 9 ty9 (mt (Ty.den Ty.str)))])
 | .l1 v0 v4 v5=>(mk 172 [(1,.c (.ptr 1 0)),(3,.c (.own 3)),(4,.c (.own 4)),(7,.c (.int .i64 v0))],[(1,.box 31 [.list 94 ty94 p0,.list 98 ty98 p1,.list 103 ty103 p2]),(3,.row 9 ty9 v4),(4,.row 9 ty9 v5)])
 | .l2 v0 v1 v5 v6 v7 v8=>(mk 172 [(1,.c (.ptr 1 0)),(3,.c (.own 3)),(4,.c (.own 4)),(7,.c (.int .i64 v0)),(8,.c (.ptr 8 0)),(9,.c (.int .i64 v1))],[(1,.box 31 [.list 94 ty94 p0,.list 98 ty98 p1,.list 103 ty103 p2]),(3,.row 9 ty9 v5),(4,.row 9 ty9 v6),(8,.box 98 [.str v7,.list 9 ty9 v8])])
 | .l3 v0=>(mk 172 [(1,.c (.ptr 1 0)),(10,.c (.int .i64 v0))],[(1,.box 31 [.list 94 ty94 p0,.list 98 ty98 p1,.list 103 ty103 p2])])
 | .l1004 v0 v4=>(mk 172 [(1,.c (.ptr 1 0)),(3,.c (.own 3)),(4,.c (.own 4)),(5,.c (.int .i64 v0))],[(1,.box 31 [.list 94 ty94 p0,.list 98 ty98 p1,.list 103 ty103 p2]),(3,.row 9 ty9 v4),(4,.row 9 ty9 (mt (Ty.den Ty.str)))])
 | .l1016 v0 v4 v5 v6 v7=>(mk 172 [(1,.c (.ptr 1 0)),(3,.c (.own 3)),(4,.c (.own 4)),(7,.c (.int .i64 v0)),(8,.c (.ptr 8 0))],[(1,.box 31 [.list 94 ty94 p0,.list 98 ty98 p1,.list 103 ty103 p2]),(3,.row 9 ty9 v4),(4,.row 9 ty9 v5),(8,.box 98 [.str v6,.list 9 ty9 v7])])
 | .l1023=>(mk 172 [(1,.c (.ptr 1 0))],[(1,.box 31 [.list 94 ty94 p0,.list 98 ty98 p1,.list 103 ty103 p2])])
 | .l1025 v0=>(mk 172 [(1,.c (.ptr 1 0)),(10,.c (.int .i64 v0))],[(1,.box 31 [.list 94 ty94 p0,.list 98 ty98 p1,.list 103 ty103 p2])])
def I18:S18→Nat
 | .l0 _ _=>0
 | .l1 _ _ _=>1
 | .l2 _ _ _ _ _ _=>2
 | .l3 _=>3
 | .l1004 _ _=>1004
 | .l1016 _ _ _ _ _=>1016
 | .l1023=>1023
 | .l1025 _=>1025
noncomputable abbrev A18 {R:Type} (B:Ops) (c58:C58) (c59:C59) (c60:C60) (c61:C61) (p0:L94) (p1:L98) (p2:L103) (k:AV→Objs→Option R) (s:S18) (n:Nat):Option R:=aloop tau B gl0 X18 (ent 58 (e58 c58) (ent 59 (e59 c59) (ent 60 (e60 c60) (ent 61 (e61 c61) gnil)))) ow [] Tryz.f18 k (I18 s) (E18 p0 p1 p2 s) n
theorem eq18 {R:Type} (B:Ops) (c58:C58) (c59:C59) (c60:C60) (c61:C61) (p0:L94) (p1:L98) (p2:L103) (k:AV→Objs→Option R) (n:Nat):afun tau B gl0 X18 (ent 58 (e58 c58) (ent 59 (e59 c59) (ent 60 (e60 c60) (ent 61 (e61 c61) gnil)))) ow Tryz.f18 [.agg [.list 94 ty94 p0,.list 98 ty98 p1,.list 103 ty103 p2]] [] k n=T18 B c58 c59 c60 c61 p0 p1 p2 (fun s=>A18 B c58 c59 c60 c61 p0 p1 p2 k s n) (K2 k) none:=by kernel_rfl
theorem el18 {R:Type} (B:Ops) (c58:C58) (c59:C59) (c60:C60) (c61:C61) (p0:L94) (p1:L98) (p2:L103) (k:AV→Objs→Option R) (n:Nat):∀ s,A18 B c58 c59 c60 c61 p0 p1 p2 k s (n+1)=T18 B c58 c59 c60 c61 p0 p1 p2 (fun s=>A18 B c58 c59 c60 c61 p0 p1 p2 k s n) (K2 k) (some s):=by
 intro s
 cases s<;>kernel_rfl
theorem nt18 {R R':Type} (B:Ops) (c58:C58) (c59:C59) (c60:C60) (c61:C61) (p0:L94) (p1:L98) (p2:L103) (again:S18→Option R) (again':S18→Option R') (k0:(Bool)→Option R') (k:R'→Option R) (h:∀ s,again s=ob (again' s) k):∀ s,T18 B c58 c59 c60 c61 p0 p1 p2 again (fun y=>ob (k0 y) k) s=ob (T18 B c58 c59 c60 c61 p0 p1 p2 again' k0 s) k:=by
 rintro (_ | x)
 all_goals try cases x
 all_goals (unfold T18;repeat' first | exact rfl | exact h _ | apply qae | (apply qaj;intro))
def R18 (c58:C58) (c59:C59) (c60:C60) (c61:C61) (p0:L94) (p1:L98) (p2:L103):Nat→S18→Option (Bool)
 | 0,_=>none
 | n+1,s=>T18 Ops.std c58 c59 c60 c61 p0 p1 p2 (R18 c58 c59 c60 c61 p0 p1 p2 n) some (some s)
theorem rr18 {R:Type} (c58:C58) (c59:C59) (c60:C60) (c61:C61) (p0:L94) (p1:L98) (p2:L103) (k:AV→Objs→Option R):∀ (n:Nat) (s:S18),A18 Ops.std c58 c59 c60 c61 p0 p1 p2 k s n=ob (R18 c58 c59 c60 c61 p0 p1 p2 n s) (K2 k)
 | 0,s=>by cases s<;>rfl
 | n+1,s=>by rw [el18];exact nt18 Ops.std c58 c59 c60 c61 p0 p1 p2 _ _ some (K2 k) (rr18 c58 c59 c60 c61 p0 p1 p2 k n) (some s)
def F18 (c58:C58) (c59:C59) (c60:C60) (c61:C61) (p0:L94) (p1:L98) (p2:L103):Option (Bool):=T18 Ops.std c58 c59 c60 c61 p0 p1 p2 (R18 c58 c59 c60 c61 p0 p1 p2 1000000) some none
abbrev C18:Type:=L94→L98→L103→Option (Bool)
def e18 {R:Type} (c:C18):Ent R:=eG [.aG [.cL 94 ty94,.cL 98 ty98,.cL 103 ty103]] [] fun v k=>ob (c v.1 v.2.1 v.2.2.1) (K2 k)
abbrev Sp18 (c:C18):Prop:=∀ (p0:L94) (p1:L98) (p2:L103) (y:Bool),c p0 p1 p2=some y→Spec Tryz.prog gl0 18 [.agg [.list 94 ty94 p0,.list 98 ty98 p1,.list 103 ty103 p2]] [] (.c (.bool y)) []
theorem ek18 {R:Type} {c:C18} (hs:Sp18 c):EOk 18 (e18 (R:=R) c):=qam fun v=>hs v.1 v.2.1 v.2.2.1
theorem sf18 {c58:C58} {c59:C59} {c60:C60} {c61:C61} (h58:Sp58 c58) (h59:Sp59 c59) (h60:Sp60 c60) (h61:Sp61 c61):Sp18 (F18 c58 c59 c60 c61):=fun p0 p1 p2 y hy=>by
 refine qai (qac (ek58 h58) (qac (ek59 h59) (qac (ek60 h60) (qac (ek61 h61) qah)))) 1000000 (fn:=Tryz.f18) (by kernel_rfl) (by kernel_rfl) (X:=X18) (by kernel_rfl) ?_
 rw [eq18]
 exact (nt18 Ops.std c58 c59 c60 c61 p0 p1 p2 _ _ some (K2 k0) (rr18 c58 c59 c60 c61 p0 p1 p2 k0 1000000) none).trans (by show ob (F18 c58 c59 c60 c61 p0 p1 p2) _=_;rw [hy];rfl)
noncomputable def M18:C18:=F18 M58 M59 M60 M61
theorem sm18:Sp18 M18:=sf18 sm58 sm59 sm60 sm61
def X89:Aux:=⟨[(2000000,[])],[(5,.lin (rg 0 16))]⟩
def T89 {R:Type} (B:Ops) (c87:C87) (c147:C147) (c106:C106) (c90:C90) (c86:C86) (c148:C148) (c149:C149) (c150:C150) (p0:LB) (k:(Int×LB×LB×LB×LB×L150×L157×Bool)→Option R):Option R:=ob (c87 p0) fun y0=>cond (B.lt (↑y0.length) 6) (k ((0,mt UInt8,mt UInt8,mt UInt8,mt UInt8,mt (Ty.den ty150),mt (Ty.den ty157),false))) (cond (B.inb 0 y0.length) (ob (c147 (y0.getD (Int.toNat 0) ty9.dflt) false) fun y1=>cond (B.inb 1 y0.length) (cond (B.inb 2 y0.length) (cond (B.inb 3 y0.length) (cond (B.inb 4 y0.length) (cond (y0.getD (Int.toNat 4) ty9.dflt == ([45]:LB)) (ob (c90 p0 5) fun y2=>ob (c86 y2 59) fun y3=>cond (B.inb 0 y3.length) (ob (c148 (y3.getD (Int.toNat 0) ty9.dflt)) fun y4=>cond (B.inb 1 (List.length y3+1)) (ob (c149 (List.drop (Int.toNat 1) (List.take y3.length y3))) fun y5=>cond (!y1.2) (k ((0,mt UInt8,mt UInt8,mt UInt8,mt UInt8,mt (Ty.den ty150),mt (Ty.den ty157),false))) (cond (!B.eq y4.1 0) (k ((0,mt UInt8,mt UInt8,mt UInt8,mt UInt8,mt (Ty.den ty150),mt (Ty.den ty157),false))) (cond (!y5.1) (k ((0,mt UInt8,mt UInt8,mt UInt8,mt UInt8,mt (Ty.den ty150),mt (Ty.den ty157),false))) (ob (c150 y1.1 (y0.getD (Int.toNat 1) ty9.dflt) (y0.getD (Int.toNat 2) ty9.dflt) (y0.getD (Int.toNat 3) ty9.dflt) (mt UInt8) y4.2.2 y5.2) fun y6=>cond (y6 == mt UInt8) (k ((0,mt UInt8,mt UInt8,mt UInt8,mt UInt8,mt (Ty.den ty150),mt (Ty.den ty157),false))) (k ((y1.1,y0.getD (Int.toNat 1) ty9.dflt,y0.getD (Int.toNat 2) ty9.dflt,y0.getD (Int.toNat 3) ty9.dflt,mt UInt8,y4.2.2,y5.2,true))))))) none) none) (ob (c106 (y0.getD (Int.toNat 4) ty9.dflt)) fun y2=>cond (!y2.2) (k ((0,mt UInt8,mt UInt8,mt UInt8,mt UInt8,mt (Ty.den ty150),mt (Ty.den ty157),false))) (ob (c90 p0 5) fun y3=>ob (c86 y3 59) fun y4=>cond (B.inb 0 y4.length) (ob (c148 (y4.getD (Int.toNat 0) ty9.dflt)) fun y5=>cond (B.inb 1 (List.length y4+1)) (ob (c149 (List.drop (Int.toNat 1) (List.take y4.length y4))) fun y6=>cond (!y1.2) (k ((0,mt UInt8,mt UInt8,mt UInt8,mt UInt8,mt (Ty.den ty150),mt (Ty.den ty157),false))) (cond (!B.eq y5.1 0) (k ((0,mt UInt8,mt UInt8,mt UInt8,mt UInt8,mt (Ty.den ty150),mt (Ty.den ty157),false))) (cond (!y6.1) (k ((0,mt UInt8,mt UInt8,mt UInt8,mt UInt8,mt (Ty.den ty150),mt (Ty.den ty157),false))) (ob (c150 y1.1 (y0.getD (Int.toNat 1) ty9.dflt) (y0.getD (Int.toNat 2) ty9.dflt) (y0.getD (Int.toNat 3) ty9.dflt) (y0.getD (Int.toNat 4) ty9.dflt) y5.2.2 y6.2) fun y7=>cond (y7 == mt UInt8) (k ((0,mt UInt8,mt UInt8,mt UInt8,mt UInt8,mt (Ty.den ty150),mt (Ty.den ty157),false))) (k ((y1.1,y0.getD (Int.toNat 1) ty9.dflt,y0.getD (Int.toNat 2) ty9.dflt,y0.getD (Int.toNat 3) ty9.dflt,y0.getD (Int.toNat 4) ty9.dflt,y5.2.2,y6.2,true))))))) none) none))) none) none) none) none) none)
abbrev K23 {R:Type} (k:AV→Objs→Option R) (y:(Int×LB×LB×LB×LB×L150×L157×Bool)):Option R:=k (.tup [(true,[.int .i64 y.1,.str y.2.1,.str y.2.2.1,.str y.2.2.2.1,.str y.2.2.2.2.1,.list 150 ty150 y.2.2.2.2.2.1,.list 157 ty157 y.2.2.2.2.2.2.1]),(false,[.bool y.2.2.2.2.2.2.2])]) []
theorem eq89 {R:Type} (B:Ops) (c87:C87) (c147:C147) (c106:C106) (c90:C90) (c86:C86) (c148:C148) (c149:C149) (c150:C150) (p0:LB) (k:AV→Objs→Option R) (n:Nat):afun tau B gl0 X89 (ent 87 (e87 c87) (ent 147 (e147 c147) (ent 106 (e106 c106) (ent 90 (e90 c90) (ent 86 (e86 c86) (ent 148 (e148 c148) (ent 149 (e149 c149) (ent 150 (e150 c150) gnil)))))))) ow Tryz.f89 [.c (.str p0)] [] k n=T89 B c87 c147 c106 c90 c86 c148 c149 c150 p0 (K23 k):=by kernel_rfl
theorem nt89 {R R':Type} (B:Ops) (c87:C87) (c147:C147) (c106:C106) (c90:C90) (c86:C86) (c148:C148) (c149:C149) (c150:C150) (p0:LB) (k0:(Int×LB×LB×LB×LB×L150×L157×Bool)→Option R') (k:R'→Option R):T89 B c87 c147 c106 c90 c86 c148 c149 c150 p0 (fun y=>ob (k0 y) k)=ob (T89 B c87 c147 c106 c90 c86 c148 c149 c150 p0 k0) k:=by
 unfold T89
 repeat' first | exact rfl | apply qae | (apply qaj;intro)
def F89 (c87:C87) (c147:C147) (c106:C106) (c90:C90) (c86:C86) (c148:C148) (c149:C149) (c150:C150) (p0:LB):Option (Int×LB×LB×LB×LB×L150×L157×Bool):=T89 Ops.std c87 c147 c106 c90 c86 c148 c149 c150 p0 some
abbrev C89:Type:=LB→Option (Int×LB×LB×LB×LB×L150×L157×Bool)
def e89 {R:Type} (c:C89):Ent R:=eG [.aC .cS] [] fun v k=>ob (c v.1) (K23 k)
abbrev Sp89 (c:C89):Prop:=∀ (p0:LB) (y:Int×LB×LB×LB×LB×L150×L157×Bool),c p0=some y→Spec Tryz.prog gl0 89 [.c (.str p0)] [] (.tup [(true,[.int .i64 y.1,.str y.2.1,.str y.2.2.1,.str y.2.2.2.1,.str y.2.2.2.2.1,.list 150 ty150 y.2.2.2.2.2.1,.list 157 ty157 y.2.2.2.2.2.2.1]),(false,[.bool y.2.2.2.2.2.2.2])]) []
theorem ek89 {R:Type} {c:C89} (hs:Sp89 c):EOk 89 (e89 (R:=R) c):=qam fun v=>hs v.1
theorem sf89 {c87:C87} {c147:C147} {c106:C106} {c90:C90} {c86:C86} {c148:C148} {c149:C149} {c150:C150} (h87:Sp87 c87) (h147:Sp147 c147) (h106:Sp106 c106) (h90:Sp90 c90) (h86:Sp86 c86) (h148:Sp148 c148) (h149:Sp149 c149) (h150:Sp150 c150):Sp89 (F89 c87 c147 c106 c90 c86 c148 c149 c150):=fun p0 y hy=>by
 refine qai (qac (ek87 h87) (qac (ek147 h147) (qac (ek106 h106) (qac (ek90 h90) (qac (ek86 h86) (qac (ek148 h148) (qac (ek149 h149) (qac (ek150 h150) qah)))))))) 1000000 (fn:=Tryz.f89) (by kernel_rfl) (by kernel_rfl) (X:=X89) (by kernel_rfl) ?_
 rw [eq89]
 exact (nt89 Ops.std c87 c147 c106 c90 c86 c148 c149 c150 p0 some (K23 k0)).trans (by show ob (F89 c87 c147 c106 c90 c86 c148 c149 c150 p0) _=_;rw [hy];rfl)
noncomputable def M89:C89:=F89 M87 M147 M106 M90 M86 M148 M149 M150
theorem sm89:Sp89 M89:=sf89 sm87 sm147 sm106 sm90 sm86 sm148 sm149 sm150
def X175:Aux:=⟨[],[(1,.lin (rg 0 28))]⟩
def T175 {R:Type} (B:Ops) (p0:LB) (p1:L130) (p2 p3 p4:Int) (p5:L66) (k:(Bool×L130×Int×Int×Int×L66)→Option R):Option R:=cond (B.inb p2 p1.length) (cond (B.eq (p1.getD p2.toNat ty130.dflt).1 4) (cond (B.inb p2 p1.length) (k ((((p1.getD p2.toNat ty130.dflt).2).1 == p0,p1,p2,p3,p4,p5))) none) (k (false,p1,p2,p3,p4,p5))) none
abbrev K24 {R:Type} (k:AV→Objs→Option R) (y:(Bool×L130×Int×Int×Int×L66)):Option R:=k (.c (.bool y.1)) [(0,.box 127 [.list 130 ty130 y.2.1,.int .i64 y.2.2.1,.own 1002,.int .i64 y.2.2.2.1,.int .i64 y.2.2.2.2.1]),(1002,.row 66 ty66 y.2.2.2.2.2)]
theorem eq175 {R:Type} (B:Ops) (p0:LB) (p1:L130) (p2 p3 p4:Int) (p5:L66) (k:AV→Objs→Option R) (n:Nat):afun tau B gl0 X175 gnil ow Tryz.f175 [.c (.ptr 0 0),.c (.str p0)] [(0,.box 127 [.list 130 ty130 p1,.int .i64 p2,.own 1002,.int .i64 p3,.int .i64 p4]),(1002,.row 66 ty66 p5)] k n=T175 B p0 p1 p2 p3 p4 p5 (K24 k):=by kernel_rfl
theorem nt175 {R R':Type} (B:Ops) (p0:LB) (p1:L130) (p2 p3 p4:Int) (p5:L66) (k0:(Bool×L130×Int×Int×Int×L66)→Option R') (k:R'→Option R):T175 B p0 p1 p2 p3 p4 p5 (fun y=>ob (k0 y) k)=ob (T175 B p0 p1 p2 p3 p4 p5 k0) k:=by
 unfold T175
 repeat' first | exact rfl | apply qae | (apply qaj;intro)
def F175 (p0:LB) (p1:L130) (p2 p3 p4:Int) (p5:L66):Option (Bool×L130×Int×Int×Int×L66):=T175 Ops.std p0 p1 p2 p3 p4 p5 some
abbrev C175:Type:=LB→L130→Int→Int→Int→L66→Option (Bool×L130×Int×Int×Int×L66)
def e175 {R:Type} (c:C175):Ent R:=eG [.aC (.cP 0),.aC .cS] [.oB 0 127 [.cL 130 ty130,.cI .i64,.cO 1002,.cI .i64,.cI .i64],.oR 1002 66 ty66] fun v k=>ob (c v.1 v.2.1 v.2.2.1 v.2.2.2.1 v.2.2.2.2.1 v.2.2.2.2.2.1) (K24 k)
abbrev Sp175 (c:C175):Prop:=∀ (p0:LB) (p1:L130) (p2 p3 p4:Int) (p5:L66) (y:Bool×L130×Int×Int×Int×L66),c p0 p1 p2 p3 p4 p5=some y→Spec Tryz.prog gl0 175 [.c (.ptr 0 0),.c (.str p0)] [(0,.box 127 [.list 130 ty130 p1,.int .i64 p2,.own 1002,.int .i64 p3,.int .i64 p4]),(1002,.row 66 ty66 p5)] (.c (.bool y.1)) [(0,.box 127 [.list 130 ty130 y.2.1,.int .i64 y.2.2.1,.own 1002,.int .i64 y.2.2.2.1,.int .i64 y.2.2.2.2.1]),(1002,.row 66 ty66 y.2.2.2.2.2)]
theorem ek175 {R:Type} {c:C175} (hs:Sp175 c):EOk 175 (e175 (R:=R) c):=qam fun v=>hs v.1 v.2.1 v.2.2.1 v.2.2.2.1 v.2.2.2.2.1 v.2.2.2.2.2.1
theorem sf175:Sp175 (F175):=fun p0 p1 p2 p3 p4 p5 y hy=>by
 refine qai qah 1000000 (fn:=Tryz.f175) (by kernel_rfl) (by kernel_rfl) (X:=X175) (by kernel_rfl) ?_
 rw [eq175]
 exact (nt175 Ops.std p0 p1 p2 p3 p4 p5 some (K24 k0)).trans (by show ob (F175 p0 p1 p2 p3 p4 p5) _=_;rw [hy];rfl)
noncomputable def M175:C175:=F175
theorem sm175:Sp175 M175:=sf175
def X84:Aux:=⟨[],[]⟩
def T84 {R:Type} (B:Ops) (p0 p1:Int) (p2:L130) (p3 p4 p5:Int) (p6:L66) (k:(L130×Int×Int×Int×L66)→Option R):Option R:=cond (B.eq p4 0) (k (p2,p3,p0,p1,p6)) (k (p2,p3,p4,p5,p6))
abbrev K25 {R:Type} (k:AV→Objs→Option R) (y:(L130×Int×Int×Int×L66)):Option R:=k (.tup []) [(0,.box 127 [.list 130 ty130 y.1,.int .i64 y.2.1,.own 1002,.int .i64 y.2.2.1,.int .i64 y.2.2.2.1]),(1002,.row 66 ty66 y.2.2.2.2)]
theorem eq84 {R:Type} (B:Ops) (p0 p1:Int) (p2:L130) (p3 p4 p5:Int) (p6:L66) (k:AV→Objs→Option R) (n:Nat):afun tau B gl0 X84 gnil ow Tryz.f84 [.c (.ptr 0 0),.c (.int .i64 p0),.c (.int .i64 p1)] [(0,.box 127 [.list 130 ty130 p2,.int .i64 p3,.own 1002,.int .i64 p4,.int .i64 p5]),(1002,.row 66 ty66 p6)] k n=T84 B p0 p1 p2 p3 p4 p5 p6 (K25 k):=by kernel_rfl
theorem nt84 {R R':Type} (B:Ops) (p0 p1:Int) (p2:L130) (p3 p4 p5:Int) (p6:L66) (k0:(L130×Int×Int×Int×L66)→Option R') (k:R'→Option R):T84 B p0 p1 p2 p3 p4 p5 p6 (fun y=>ob (k0 y) k)=ob (T84 B p0 p1 p2 p3 p4 p5 p6 k0) k:=by
 unfold T84
 repeat' first | exact rfl | apply qae | (apply qaj;intro)
def F84 (p0 p1:Int) (p2:L130) (p3 p4 p5:Int) (p6:L66):Option (L130×Int×Int×Int×L66):=T84 Ops.std p0 p1 p2 p3 p4 p5 p6 some
abbrev C84:Type:=Int→Int→L130→Int→Int→Int→L66→Option (L130×Int×Int×Int×L66)
def e84 {R:Type} (c:C84):Ent R:=eG [.aC (.cP 0),.aC (.cI .i64),.aC (.cI .i64)] [.oB 0 127 [.cL 130 ty130,.cI .i64,.cO 1002,.cI .i64,.cI .i64],.oR 1002 66 ty66] fun v k=>ob (c v.1 v.2.1 v.2.2.1 v.2.2.2.1 v.2.2.2.2.1 v.2.2.2.2.2.1 v.2.2.2.2.2.2.1) (K25 k)
abbrev Sp84 (c:C84):Prop:=∀ (p0 p1:Int) (p2:L130) (p3 p4 p5:Int) (p6:L66) (y:L130×Int×Int×Int×L66),c p0 p1 p2 p3 p4 p5 p6=some y→Spec Tryz.prog gl0 84 [.c (.ptr 0 0),.c (.int .i64 p0),.c (.int .i64 p1)] [(0,.box 127 [.list 130 ty130 p2,.int .i64 p3,.own 1002,.int .i64 p4,.int .i64 p5]),(1002,.row 66 ty66 p6)] (.tup []) [(0,.box 127 [.list 130 ty130 y.1,.int .i64 y.2.1,.own 1002,.int .i64 y.2.2.1,.int .i64 y.2.2.2.1]),(1002,.row 66 ty66 y.2.2.2.2)]
theorem ek84 {R:Type} {c:C84} (hs:Sp84 c):EOk 84 (e84 (R:=R) c):=qam fun v=>hs v.1 v.2.1 v.2.2.1 v.2.2.2.1 v.2.2.2.2.1 v.2.2.2.2.2.1 v.2.2.2.2.2.2.1
theorem sf84:Sp84 (F84):=fun p0 p1 p2 p3 p4 p5 p6 y hy=>by
 refine qai qah 1000000 (fn:=Tryz.f84) (by kernel_rfl) (by kernel_rfl) (X:=X84) (by kernel_rfl) ?_
 rw [eq84]
 exact (nt84 Ops.std p0 p1 p2 p3 p4 p5 p6 some (K25 k0)).trans (by show ob (F84 p0 p1 p2 p3 p4 p5 p6) _=_;rw [hy];rfl)
noncomputable def M84:C84:=F84
theorem sm84:Sp84 M84:=sf84
def X176:Aux:=⟨[],[]⟩
def T176 {R:Type} (B:Ops) (c175:C175) (c84:C84) (p0:LB) (p1:L130) (p2 p3 p4:Int) (p5:L66) (k:(L130×Int×Int×Int×L66)→Option R):Option R:=cond (!B.eq p3 0) (k (p1,p2,p3,p4,p5)) (ob (c175 p0 p1 p2 p3 p4 p5) fun y0=>cond (!y0.1) (ob (c84 2 y0.2.2.1 y0.2.1 y0.2.2.1 y0.2.2.2.1 y0.2.2.2.2.1 y0.2.2.2.2.2) fun y1=>k (y1.1,y1.2.1,y1.2.2.1,y1.2.2.2.1,y1.2.2.2.2)) (k ((y0.2.1,IntKind.wrap .i64 (y0.2.2.1+1),y0.2.2.2.1,y0.2.2.2.2.1,y0.2.2.2.2.2))))
theorem eq176 {R:Type} (B:Ops) (c175:C175) (c84:C84) (p0:LB) (p1:L130) (p2 p3 p4:Int) (p5:L66) (k:AV→Objs→Option R) (n:Nat):afun tau B gl0 X176 (ent 175 (e175 c175) (ent 84 (e84 c84) gnil)) ow Tryz.f176 [.c (.ptr 0 0),.c (.str p0)] [(0,.box 127 [.list 130 ty130 p1,.int .i64 p2,.own 1002,.int .i64 p3,.int .i64 p4]),(1002,.row 66 ty66 p5)] k n=T176 B c175 c84 p0 p1 p2 p3 p4 p5 (K25 k):=by kernel_rfl
theorem nt176 {R R':Type} (B:Ops) (c175:C175) (c84:C84) (p0:LB) (p1:L130) (p2 p3 p4:Int) (p5:L66) (k0:(L130×Int×Int×Int×L66)→Option R') (k:R'→Option R):T176 B c175 c84 p0 p1 p2 p3 p4 p5 (fun y=>ob (k0 y) k)=ob (T176 B c175 c84 p0 p1 p2 p3 p4 p5 k0) k:=by
 unfold T176
 repeat' first | exact rfl | apply qae | (apply qaj;intro)
def F176 (c175:C175) (c84:C84) (p0:LB) (p1:L130) (p2 p3 p4:Int) (p5:L66):Option (L130×Int×Int×Int×L66):=T176 Ops.std c175 c84 p0 p1 p2 p3 p4 p5 some
abbrev C176:Type:=LB→L130→Int→Int→Int→L66→Option (L130×Int×Int×Int×L66)
def e176 {R:Type} (c:C176):Ent R:=eG [.aC (.cP 0),.aC .cS] [.oB 0 127 [.cL 130 ty130,.cI .i64,.cO 1002,.cI .i64,.cI .i64],.oR 1002 66 ty66] fun v k=>ob (c v.1 v.2.1 v.2.2.1 v.2.2.2.1 v.2.2.2.2.1 v.2.2.2.2.2.1) (K25 k)
abbrev Sp176 (c:C176):Prop:=∀ (p0:LB) (p1:L130) (p2 p3 p4:Int) (p5:L66) (y:L130×Int×Int×Int×L66),c p0 p1 p2 p3 p4 p5=some y→Spec Tryz.prog gl0 176 [.c (.ptr 0 0),.c (.str p0)] [(0,.box 127 [.list 130 ty130 p1,.int .i64 p2,.own 1002,.int .i64 p3,.int .i64 p4]),(1002,.row 66 ty66 p5)] (.tup []) [(0,.box 127 [.list 130 ty130 y.1,.int .i64 y.2.1,.own 1002,.int .i64 y.2.2.1,.int .i64 y.2.2.2.1]),(1002,.row 66 ty66 y.2.2.2.2)]
theorem ek176 {R:Type} {c:C176} (hs:Sp176 c):EOk 176 (e176 (R:=R) c):=qam fun v=>hs v.1 v.2.1 v.2.2.1 v.2.2.2.1 v.2.2.2.2.1 v.2.2.2.2.2.1
theorem sf176 {c175:C175} {c84:C84} (h175:Sp175 c175) (h84:Sp84 c84):Sp176 (F176 c175 c84):=fun p0 p1 p2 p3 p4 p5 y hy=>by
 refine qai (qac (ek175 h175) (qac (ek84 h84) qah)) 1000000 (fn:=Tryz.f176) (by kernel_rfl) (by kernel_rfl) (X:=X176) (by kernel_rfl) ?_
 rw [eq176]
 exact (nt176 Ops.std c175 c84 p0 p1 p2 p3 p4 p5 some (K25 k0)).trans (by show ob (F176 c175 c84 p0 p1 p2 p3 p4 p5) _=_;rw [hy];rfl)
noncomputable def M176:C176:=F176 M175 M84
theorem sm176:Sp176 M176:=sf176 sm175 sm84
end Go.Proofs.YtccnmhdgghjgoaaGreatDoor.Av
