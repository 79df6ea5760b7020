/- Twins of functions,printed by gen.py. Conditions: none. -/
import Derived.Test.YtfdlgmbbflmbgaaDoorWf3
import Derived.KernelRfl
set_option linter.unusedSimpArgs false
set_option linter.unusedVariables false
set_option maxRecDepth 100000
set_option maxHeartbeats 8000000
namespace Go.Proofs.YtfdlgmbbflmbgaaDoor.Av
open Go
def X13:Aux:=⟨[],[]⟩
abbrev C40:Type:=Int→Int→L22→Option (LB)
abbrev C39:Type:=LB→Option (L82×L85×L91×Int×Int)
def T13 {R:Type} (B:Ops) (c40:C40) (c39:C39) (p0:Int) (p1:Int) (p2:L22) (k:(L82×L85×L91)→Option R):Option R:=ob (c40 p0 p1 p2) fun y0=>ob (c39 y0) fun y1=>k ((y1.1,y1.2.1,(y1.2.2).1))
abbrev K24 {R:Type} (k:AV→Objs→Option R) (y:(L82×L85×L91)):Option R:=k (.agg [.list 82 ty82 y.1,.list 85 ty85 y.2.1,.list 91 ty91 y.2.2]) []
theorem eq13 {R:Type} (B:Ops) (c40:C40) (c39:C39) (p0:Int) (p1:Int) (p2:L22) (k:AV→Objs→Option R) (n:Nat):afun tau B gl0 X13 (ent 40 (e40 c40) (ent 39 (e39 c39) gnil)) ow Tryd.f13 [.agg [.int .i64 p0,.int .i64 p1,.list 22 ty22 p2]] [] k n=T13 B c40 c39 p0 p1 p2 (K24 k):=by kernel_rfl
theorem nt13 {R R':Type} (B:Ops) (c40:C40) (c39:C39) (p0:Int) (p1:Int) (p2:L22) (k0:(L82×L85×L91)→Option R') (k:R'→Option R):T13 B c40 c39 p0 p1 p2 (fun y=>ob (k0 y) k)=ob (T13 B c40 c39 p0 p1 p2 k0) k:=by
 unfold T13
 repeat' first | exact rfl | apply qaf | (apply qao;intro)
def F13 (c40:C40) (c39:C39) (p0:Int) (p1:Int) (p2:L22):Option (L82×L85×L91):=T13 Ops.std c40 c39 p0 p1 p2 some
def e13 {R:Type} (c:Int→Int→L22→Option (L82×L85×L91)):Ent R:=fun args objs k=>
 oCons args fun a0 l0=>oAgg a0 fun x0=>cCons x0 fun z0_0 w0_0=>cInt .i64 z0_0 fun p0=>cCons w0_0 fun z0_1 w0_1=>cInt .i64 z0_1 fun p1=>cCons w0_1 fun z0_2 w0_2=>cList 22 ty22 z0_2 fun p2=>cNil w0_2 <| oE l0 objs <| ob (c p0 p1 p2) (K24 k)
abbrev Sp13 (c:Int→Int→L22→Option (L82×L85×L91)):Prop:=∀ (p0:Int) (p1:Int) (p2:L22) (y:L82×L85×L91),c p0 p1 p2=some y→Spec Tryd.prog gl0 13 [.agg [.int .i64 p0,.int .i64 p1,.list 22 ty22 p2]] [] (.agg [.list 82 ty82 y.1,.list 85 ty85 y.2.1,.list 91 ty91 y.2.2]) []
theorem ek13 {R:Type} {c:Int→Int→L22→Option (L82×L85×L91)} (hs:Sp13 c):EOk 13 (e13 (R:=R) c):=fun args objs k r h=>by
 unfold e13 at h
 obtain ⟨a0,l0,rfl,q1⟩:=qal h
 obtain ⟨x0,rfl,q2⟩:=qav q1
 obtain ⟨z0_0,w0_0,rfl,q3⟩:=qab q2
 obtain ⟨p0,rfl,q4⟩:=qaq q3
 obtain ⟨z0_1,w0_1,rfl,q5⟩:=qab q4
 obtain ⟨p1,rfl,q6⟩:=qaq q5
 obtain ⟨z0_2,w0_2,rfl,q7⟩:=qab q6
 obtain ⟨p2,rfl,q8⟩:=qad q7
 obtain ⟨rfl,q9⟩:=qar q8
 obtain ⟨rfl,rfl,q11⟩:=qam q9
 exact qap (hs p0 p1 p2) q11
theorem sf13 {c40:C40} {c39:C39} (h40:Sp40 c40) (h39:Sp39 c39):Sp13 (F13 c40 c39):=fun p0 p1 p2 y hy=>by
 refine qaj (qae (ek40 h40) (qae (ek39 h39) qai)) 1000000 (fn:=Tryd.f13) (by kernel_rfl) (by kernel_rfl) (X:=X13) (by kernel_rfl) ?_
 rw [eq13]
 exact (nt13 Ops.std c40 c39 p0 p1 p2 some (K24 k0)).trans (by show ob (F13 c40 c39 p0 p1 p2) _=_;rw [hy];rfl)
noncomputable def M13:Int→Int→L22→Option (L82×L85×L91):=F13 M40 M39
theorem sm13:Sp13 M13:=sf13 sm40 sm39
def X81:Aux:=⟨[],[]⟩
def T81 {R:Type} (B:Ops) (p0:Int) (k:(Int)→Option R):Option R:=cond (B.eq p0 (1)) (k 0) (cond (B.eq p0 (2)) (k 0) (cond (B.eq p0 (3)) (k 0) (cond (B.eq p0 (4)) (k 1) (cond (B.eq p0 (8)) (k 1) (cond (B.eq p0 (11)) (k 1) (cond (B.eq p0 (12)) (k 1) (cond (B.eq p0 (5)) (k 2) (cond (B.eq p0 (6)) (k 2) (cond (B.eq p0 (7)) (k 2) (cond (B.eq p0 (9)) (k 2) (cond (B.eq p0 (10)) (k 2) (k (-1)))))))))))))
theorem eq81 {R:Type} (B:Ops) (p0:Int) (k:AV→Objs→Option R) (n:Nat):afun tau B gl0 X81 gnil ow Tryd.f81 [.c (.int .i64 p0)] [] k n=T81 B p0 (K3 k):=by kernel_rfl
theorem nt81 {R R':Type} (B:Ops) (p0:Int) (k0:(Int)→Option R') (k:R'→Option R):T81 B p0 (fun y=>ob (k0 y) k)=ob (T81 B p0 k0) k:=by
 unfold T81
 repeat' first | exact rfl | apply qaf | (apply qao;intro)
def F81 (p0:Int):Option (Int):=T81 Ops.std p0 some
def e81 {R:Type} (c:Int→Option (Int)):Ent R:=fun args objs k=>
 oI args .i64 fun p0 l0=>oE l0 objs <| ob (c p0) (K3 k)
abbrev Sp81 (c:Int→Option (Int)):Prop:=∀ (p0:Int) (y:Int),c p0=some y→Spec Tryd.prog gl0 81 [.c (.int .i64 p0)] [] (.c (.int .i64 y)) []
theorem ek81 {R:Type} {c:Int→Option (Int)} (hs:Sp81 c):EOk 81 (e81 (R:=R) c):=fun args objs k r h=>by
 unfold e81 at h
 obtain ⟨p0,l0,rfl,q3⟩:=qau h
 obtain ⟨rfl,rfl,q5⟩:=qam q3
 exact qap (hs p0) q5
theorem sf81:Sp81 (F81):=fun p0 y hy=>by
 refine qaj qai 1000000 (fn:=Tryd.f81) (by kernel_rfl) (by kernel_rfl) (X:=X81) (by kernel_rfl) ?_
 rw [eq81]
 exact (nt81 Ops.std p0 some (K3 k0)).trans (by show ob (F81 p0) _=_;rw [hy];rfl)
noncomputable def M81:Int→Option (Int):=F81
theorem sm81:Sp81 M81:=sf81
def X48:Aux:=⟨[(3,([1,2]++rg 5 65))],[]⟩
inductive S48 where
 | l0 (v1:Int) (v2:Int)
abbrev C81:Type:=Int→Option (Int)
def T48 {R:Type} (B:Ops) (c81:C81) (c80:C80) (p0:L93) (again:S48→Option R) (k:(Bool)→Option R):Option S48→Option R | none=>again (.l0 0 0) | some (.l0 v1 v2)=>cond (B.lt v2 (↑p0.length)) (cond (B.inb v2 p0.length) (ob (c81 ((p0.getD v2.toNat ty93.dflt).1)) fun y0=>cond (B.lt y0 (0)) (k false) (cond (B.lt v1 y0) (k false) (cond (B.inb v2 p0.length) (cond (B.eq ((p0.getD v2.toNat ty93.dflt).1) (3)) (cond (B.inb v2 p0.length) (ob (c80 ((p0.getD v2.toNat ty93.dflt).2)) fun y1=>cond (!y1) (k false) (cond (B.inb v2 p0.length) (cond (!B.eq ((p0.getD v2.toNat ty93.dflt).1) (3)) (cond (B.inb v2 p0.length) (cond (B.lt (0) (Nat.cast (List.length ((p0.getD v2.toNat ty93.dflt).2)))) (k false) (again (.l0 (IntKind.wrap .i64 (IntKind.wrap .i64 (v1-y0)+1)) (IntKind.wrap .i64 (v2+1))))) none) (again (.l0 (IntKind.wrap .i64 (IntKind.wrap .i64 (v1-y0)+1)) (IntKind.wrap .i64 (v2+1))))) none)) none) (cond (B.inb v2 p0.length) (cond (!B.eq ((p0.getD v2.toNat ty93.dflt).1) (3)) (cond (B.inb v2 p0.length) (cond (B.lt (0) (Nat.cast (List.length ((p0.getD v2.toNat ty93.dflt).2)))) (k false) (again (.l0 (IntKind.wrap .i64 (IntKind.wrap .i64 (v1-y0)+1)) (IntKind.wrap .i64 (v2+1))))) none) (again (.l0 (IntKind.wrap .i64 (IntKind.wrap .i64 (v1-y0)+1)) (IntKind.wrap .i64 (v2+1))))) none)) none))) none) (cond (B.eq v1 (1)) (k (B.le (↑p0.length) (60))) (k false))
def E48 (p0:L93):S48→List AV×Objs
 | .l0 v1 v2=>(mk 70 [(0,.c (.list 93 ty93 p0)),(3,.c (.int .i64 v1)),(4,.c (.int .i64 v2))],[])
def I48:S48→Nat
 | .l0 _ _=>0
theorem eq48 {R:Type} (B:Ops) (c81:C81) (c80:C80) (p0:L93) (k:AV→Objs→Option R) (n:Nat):afun tau B gl0 X48 (ent 81 (e81 c81) (ent 80 (e80 c80) gnil)) ow Tryd.f48 [.c (.list 93 ty93 p0)] [] k n=T48 B c81 c80 p0 (fun s=>aloop tau B gl0 X48 (ent 81 (e81 c81) (ent 80 (e80 c80) gnil)) ow [] Tryd.f48 k (I48 s) (E48 p0 s) n) (K1 k) none:=by kernel_rfl
theorem el48 {R:Type} (B:Ops) (c81:C81) (c80:C80) (p0:L93) (k:AV→Objs→Option R) (n:Nat):∀ s,aloop tau B gl0 X48 (ent 81 (e81 c81) (ent 80 (e80 c80) gnil)) ow [] Tryd.f48 k (I48 s) (E48 p0 s) (n+1)=T48 B c81 c80 p0 (fun s=>aloop tau B gl0 X48 (ent 81 (e81 c81) (ent 80 (e80 c80) gnil)) ow [] Tryd.f48 k (I48 s) (E48 p0 s) n) (K1 k) (some s):=by
 intro s
 cases s<;>kernel_rfl
theorem nt48 {R R':Type} (B:Ops) (c81:C81) (c80:C80) (p0:L93) (again:S48→Option R) (again':S48→Option R') (k0:(Bool)→Option R') (k:R'→Option R) (h:∀ s,again s=ob (again' s) k):∀ s,T48 B c81 c80 p0 again (fun y=>ob (k0 y) k) s=ob (T48 B c81 c80 p0 again' k0 s) k:=by
 rintro (_ | x)
 all_goals try cases x
 all_goals (unfold T48;repeat' first | exact rfl | exact h _ | apply qaf | (apply qao;intro))
def R48 (c81:C81) (c80:C80) (p0:L93):Nat→S48→Option (Bool)
 | 0,_=>none
 | n+1,s=>T48 Ops.std c81 c80 p0 (R48 c81 c80 p0 n) some (some s)
theorem rr48 {R:Type} (c81:C81) (c80:C80) (p0:L93) (k:AV→Objs→Option R):∀ (n:Nat) (s:S48),aloop tau Ops.std gl0 X48 (ent 81 (e81 c81) (ent 80 (e80 c80) gnil)) ow [] Tryd.f48 k (I48 s) (E48 p0 s) n=ob (R48 c81 c80 p0 n s) (K1 k)
 | 0,s=>by cases s<;>rfl
 | n+1,s=>by rw [el48];exact nt48 Ops.std c81 c80 p0 _ _ some (K1 k) (rr48 c81 c80 p0 k n) (some s)
def F48 (c81:C81) (c80:C80) (p0:L93):Option (Bool):=T48 Ops.std c81 c80 p0 (R48 c81 c80 p0 1000000) some none
def e48 {R:Type} (c:L93→Option (Bool)):Ent R:=fun args objs k=>
 oL args 93 ty93 fun p0 l0=>oE l0 objs <| ob (c p0) (K1 k)
abbrev Sp48 (c:L93→Option (Bool)):Prop:=∀ (p0:L93) (y:Bool),c p0=some y→Spec Tryd.prog gl0 48 [.c (.list 93 ty93 p0)] [] (.c (.bool y)) []
theorem ek48 {R:Type} {c:L93→Option (Bool)} (hs:Sp48 c):EOk 48 (e48 (R:=R) c):=fun args objs k r h=>by
 unfold e48 at h
 obtain ⟨p0,l0,rfl,q3⟩:=qaw h
 obtain ⟨rfl,rfl,q5⟩:=qam q3
 exact qap (hs p0) q5
theorem sf48 {c81:C81} {c80:C80} (h81:Sp81 c81) (h80:Sp80 c80):Sp48 (F48 c81 c80):=fun p0 y hy=>by
 refine qaj (qae (ek81 h81) (qae (ek80 h80) qai)) 1000000 (fn:=Tryd.f48) (by kernel_rfl) (by kernel_rfl) (X:=X48) (by kernel_rfl) ?_
 rw [eq48]
 exact (nt48 Ops.std c81 c80 p0 _ _ some (K1 k0) (rr48 c81 c80 p0 k0 1000000) none).trans (by show ob (F48 c81 c80 p0) _=_;rw [hy];rfl)
noncomputable def M48:L93→Option (Bool):=F48 M81 M80
theorem sm48:Sp48 M48:=sf48 sm81 sm80
def X51:Aux:=⟨[(6,([1,2]++rg 6 37))],[]⟩
inductive S51 where
 | l0 (v1:Int) (v2:L22) (v3:L3)
abbrev C48:Type:=L93→Option (Bool)
def T51 {R:Type} (B:Ops) (c48:C48) (c81:C81) (p0:L93) (again:S51→Option R) (k:(L22)→Option R):Option S51→Option R | none=>ob (c48 p0) fun y0=>cond (!y0) (k (mt (Ty.den ty22))) (again (.l0 0 (mt (Ty.den ty22)) (mt (Ty.den (Ty.int .i64))))) | some (.l0 v1 v2 v3)=>cond (B.lt v1 (↑p0.length)) (cond (B.inb v1 p0.length) (ob (c81 ((p0.getD v1.toNat ty93.dflt).1)) fun y0=>cond (B.lt (IntKind.wrap .i64 (Nat.cast v3.length-y0)) (0)) (k (mt (Ty.den ty22))) (cond (B.inb (IntKind.wrap .i64 (Nat.cast v3.length-y0)) (List.length v3+1)) (cond (B.lim (List.length (mt (Ty.den (Ty.int .i64)))+List.length (List.drop (Int.toNat (IntKind.wrap .i64 (Nat.cast v3.length-y0))) (List.take v3.length v3))) (8)) (cond (B.lim (List.length v2+List.length ((mt (Ty.den (Ty.int .i64))++List.drop (Int.toNat (IntKind.wrap .i64 (Nat.cast v3.length-y0))) (List.take v3.length v3))::mt (Ty.den ty22))) (24)) (cond (B.eq (IntKind.wrap .i64 (Nat.cast v3.length-y0)) (IntKind.wrap .i64 (Nat.cast v3.length-y0))) (cond (B.inb (IntKind.wrap .i64 (Nat.cast v3.length-y0)) (List.length v3+1)) (cond (B.lt (0) (Nat.cast (List.length (v1::mt (Ty.den (Ty.int .i64)))))) (cond (B.lim (List.length (List.take (Int.toNat (IntKind.wrap .i64 (Nat.cast v3.length-y0))) v3)+List.length (v1::mt (Ty.den (Ty.int .i64)))) (8)) (again (.l0 (IntKind.wrap .i64 (v1+1)) (v2++(mt (Ty.den (Ty.int .i64))++List.drop (Int.toNat (IntKind.wrap .i64 (Nat.cast v3.length-y0))) (List.take v3.length v3))::mt (Ty.den ty22)) (List.take (Int.toNat (IntKind.wrap .i64 (Nat.cast v3.length-y0))) v3++v1::mt (Ty.den (Ty.int .i64))))) none) none) none) none) none) none) none)) none) (k v2)
def E51 (p0:L93):S51→List AV×Objs
 | .l0 v1 v2 v3=>(mk 43 [(0,.c (.list 93 ty93 p0)),(3,.c (.own 3)),(4,.c (.own 4)),(5,.c (.int .i64 v1))],[(3,.row 22 ty22 v2),(4,.row 3 ty3 v3)])
def I51:S51→Nat
 | .l0 _ _ _=>0
theorem eq51 {R:Type} (B:Ops) (c48:C48) (c81:C81) (p0:L93) (k:AV→Objs→Option R) (n:Nat):afun tau B gl0 X51 (ent 48 (e48 c48) (ent 81 (e81 c81) gnil)) ow Tryd.f51 [.c (.list 93 ty93 p0)] [] k n=T51 B c48 c81 p0 (fun s=>aloop tau B gl0 X51 (ent 48 (e48 c48) (ent 81 (e81 c81) gnil)) ow [] Tryd.f51 k (I51 s) (E51 p0 s) n) (K17 k) none:=by kernel_rfl
theorem el51 {R:Type} (B:Ops) (c48:C48) (c81:C81) (p0:L93) (k:AV→Objs→Option R) (n:Nat):∀ s,aloop tau B gl0 X51 (ent 48 (e48 c48) (ent 81 (e81 c81) gnil)) ow [] Tryd.f51 k (I51 s) (E51 p0 s) (n+1)=T51 B c48 c81 p0 (fun s=>aloop tau B gl0 X51 (ent 48 (e48 c48) (ent 81 (e81 c81) gnil)) ow [] Tryd.f51 k (I51 s) (E51 p0 s) n) (K17 k) (some s):=by
 intro s
 cases s<;>kernel_rfl
theorem nt51 {R R':Type} (B:Ops) (c48:C48) (c81:C81) (p0:L93) (again:S51→Option R) (again':S51→Option R') (k0:(L22)→Option R') (k:R'→Option R) (h:∀ s,again s=ob (again' s) k):∀ s,T51 B c48 c81 p0 again (fun y=>ob (k0 y) k) s=ob (T51 B c48 c81 p0 again' k0 s) k:=by
 rintro (_ | x)
 all_goals try cases x
 all_goals (unfold T51;repeat' first | exact rfl | exact h _ | apply qaf | (apply qao;intro))
def R51 (c48:C48) (c81:C81) (p0:L93):Nat→S51→Option (L22)
 | 0,_=>none
 | n+1,s=>T51 Ops.std c48 c81 p0 (R51 c48 c81 p0 n) some (some s)
theorem rr51 {R:Type} (c48:C48) (c81:C81) (p0:L93) (k:AV→Objs→Option R):∀ (n:Nat) (s:S51),aloop tau Ops.std gl0 X51 (ent 48 (e48 c48) (ent 81 (e81 c81) gnil)) ow [] Tryd.f51 k (I51 s) (E51 p0 s) n=ob (R51 c48 c81 p0 n s) (K17 k)
 | 0,s=>by cases s<;>rfl
 | n+1,s=>by rw [el51];exact nt51 Ops.std c48 c81 p0 _ _ some (K17 k) (rr51 c48 c81 p0 k n) (some s)
def F51 (c48:C48) (c81:C81) (p0:L93):Option (L22):=T51 Ops.std c48 c81 p0 (R51 c48 c81 p0 1000000) some none
def e51 {R:Type} (c:L93→Option (L22)):Ent R:=fun args objs k=>
 oL args 93 ty93 fun p0 l0=>oE l0 objs <| ob (c p0) (K17 k)
abbrev Sp51 (c:L93→Option (L22)):Prop:=∀ (p0:L93) (y:L22),c p0=some y→Spec Tryd.prog gl0 51 [.c (.list 93 ty93 p0)] [] (.c (.own 500)) [(500,.row 22 ty22 y)]
theorem ek51 {R:Type} {c:L93→Option (L22)} (hs:Sp51 c):EOk 51 (e51 (R:=R) c):=fun args objs k r h=>by
 unfold e51 at h
 obtain ⟨p0,l0,rfl,q3⟩:=qaw h
 obtain ⟨rfl,rfl,q5⟩:=qam q3
 exact qap (hs p0) q5
theorem sf51 {c48:C48} {c81:C81} (h48:Sp48 c48) (h81:Sp81 c81):Sp51 (F51 c48 c81):=fun p0 y hy=>by
 refine qaj (qae (ek48 h48) (qae (ek81 h81) qai)) 1000000 (fn:=Tryd.f51) (by kernel_rfl) (by kernel_rfl) (X:=X51) (by kernel_rfl) ?_
 rw [eq51]
 exact (nt51 Ops.std c48 c81 p0 _ _ some (K17 k0) (rr51 c48 c81 p0 k0 1000000) none).trans (by show ob (F51 c48 c81 p0) _=_;rw [hy];rfl)
noncomputable def M51:L93→Option (L22):=F51 M48 M81
theorem sm51:Sp51 M51:=sf51 sm48 sm81
def X95:Aux:=⟨[],[]⟩
def T95 {R:Type} (B:Ops) (p0:Int) (k:(Int)→Option R):Option R:=cond (B.eq p0 (5)) (k 6) (cond (B.eq p0 (6)) (k 5) (cond (B.eq p0 (9)) (k 10) (k 9)))
theorem eq95 {R:Type} (B:Ops) (p0:Int) (k:AV→Objs→Option R) (n:Nat):afun tau B gl0 X95 gnil ow Tryd.f95 [.c (.int .i64 p0)] [] k n=T95 B p0 (K3 k):=by kernel_rfl
theorem nt95 {R R':Type} (B:Ops) (p0:Int) (k0:(Int)→Option R') (k:R'→Option R):T95 B p0 (fun y=>ob (k0 y) k)=ob (T95 B p0 k0) k:=by
 unfold T95
 repeat' first | exact rfl | apply qaf | (apply qao;intro)
def F95 (p0:Int):Option (Int):=T95 Ops.std p0 some
def e95 {R:Type} (c:Int→Option (Int)):Ent R:=fun args objs k=>
 oI args .i64 fun p0 l0=>oE l0 objs <| ob (c p0) (K3 k)
abbrev Sp95 (c:Int→Option (Int)):Prop:=∀ (p0:Int) (y:Int),c p0=some y→Spec Tryd.prog gl0 95 [.c (.int .i64 p0)] [] (.c (.int .i64 y)) []
theorem ek95 {R:Type} {c:Int→Option (Int)} (hs:Sp95 c):EOk 95 (e95 (R:=R) c):=fun args objs k r h=>by
 unfold e95 at h
 obtain ⟨p0,l0,rfl,q3⟩:=qau h
 obtain ⟨rfl,rfl,q5⟩:=qam q3
 exact qap (hs p0) q5
theorem sf95:Sp95 (F95):=fun p0 y hy=>by
 refine qaj qai 1000000 (fn:=Tryd.f95) (by kernel_rfl) (by kernel_rfl) (X:=X95) (by kernel_rfl) ?_
 rw [eq95]
 exact (nt95 Ops.std p0 some (K3 k0)).trans (by show ob (F95 p0) _=_;rw [hy];rfl)
noncomputable def M95:Int→Option (Int):=F95
theorem sm95:Sp95 M95:=sf95
def e72 {R:Type} (c:L93→L22→Int→Bool→L93→Option (L93)):Ent R:=fun args objs k=>
 oL args 93 ty93 fun p0 l0=>oL l0 22 ty22 fun p1 l1=>oI l1 .i64 fun p2 l2=>oCons l2 fun a3 l3=>oC a3 fun x3=>cBool x3 fun p3=>oCons l3 fun a4 l4=>oC a4 fun x4=>cOwn 4 x4 <| oNil l4 <| oRow 4 93 ty93 objs fun p4 o0=>oNilO o0 <| ob (c p0 p1 p2 p3 p4) (K15 k)
abbrev Sp72 (c:L93→L22→Int→Bool→L93→Option (L93)):Prop:=∀ (p0:L93) (p1:L22) (p2:Int) (p3:Bool) (p4:L93) (y:L93),c p0 p1 p2 p3 p4=some y→Spec Tryd.prog gl0 72 [.c (.list 93 ty93 p0),.c (.list 22 ty22 p1),.c (.int .i64 p2),.c (.bool p3),.c (.own 4)] [(4,.row 93 ty93 p4)] (.c (.own 500)) [(500,.row 93 ty93 y)]
theorem ek72 {R:Type} {c:L93→L22→Int→Bool→L93→Option (L93)} (hs:Sp72 c):EOk 72 (e72 (R:=R) c):=fun args objs k r h=>by
 unfold e72 at h
 obtain ⟨p0,l0,rfl,q3⟩:=qaw h
 obtain ⟨p1,l1,rfl,q6⟩:=qaw q3
 obtain ⟨p2,l2,rfl,q9⟩:=qau q6
 obtain ⟨a3,l3,rfl,q10⟩:=qal q9
 obtain ⟨x3,rfl,q11⟩:=qa6 q10
 obtain ⟨p3,rfl,q12⟩:=qcw q11
 obtain ⟨a4,l4,rfl,q13⟩:=qal q12
 obtain ⟨x4,rfl,q14⟩:=qa6 q13
 obtain ⟨rfl,q15⟩:=qbi q14
 obtain ⟨rfl,q16⟩:=qa3 q15
 obtain ⟨p4,o0,rfl,q17⟩:=qbj q16
 obtain ⟨rfl,q18⟩:=qa0 q17
 exact qap (hs p0 p1 p2 p3 p4) q18
def X72:Aux:=⟨[(1000010,([0,1,2,3,5,6,7,8,9,10]++rg 12 145)),(1000015,([0,1,2,3]++rg 5 152)),(1000026,([2,5,6,7,8,9,10]++rg 14 143)),(1000033,([2,5,6,7,8,9,10,13]++rg 15 142)),(1000038,([0,1,2,5,6,7,8,9,10]++rg 12 145))],[(26,.seq ([0,1,2,3,4,5,6,7,8,12,13]) (.alt (.seq [9] (.alt (.seq [10] (.alt (.lin [11,14,15,16]) (.lin [14,11,15,16]))) (.lin [14,10,11,15,16]))) (.lin [14,9,10,11,15,16]))),(33,.seq ([0,1,2,3,4,5,6,7,8,12,13]) (.alt (.seq [9] (.alt (.seq [10] (.alt (.lin [11,14,15,16]) (.lin [14,11,15,16]))) (.lin [14,10,11,15,16]))) (.lin [14,9,10,11,15,16])))]⟩
inductive S72 where
 | l1010 (v0:Int)
 | l1015 (v0:L93)
 | l1026 (v3:Int) (v4:L3) (v5:Int)
 | l1033 (v3:Int) (v4:L3) (v5:Int)
 | l1038 (v1:Int) (v2:L93)
abbrev C72:Type:=L93→L22→Int→Bool→L93→Option (L93)
abbrev C95:Type:=Int→Option (Int)
def T72 {R:Type} (B:Ops) (c72:C72) (c95:C95) (p0:L93) (p1:L22) (p2:Int) (p3:Bool) (p4:L93) (again:S72→Option R) (k:(L93)→Option R):Option S72→Option R | none=>cond (B.inb p2 p0.length) (cond (B.inb p2 p1.length) (cond (B.eq ((p0.getD p2.toNat ty93.dflt).1) (1)) (cond (p3) (again (.l1010 (IntKind.wrap .i64 (3-(p0.getD p2.toNat ty93.dflt).1)))) (again (.l1010 ((p0.getD p2.toNat ty93.dflt).1)))) (cond (B.eq ((p0.getD p2.toNat ty93.dflt).1) (2)) (cond (p3) (again (.l1010 (IntKind.wrap .i64 (3-(p0.getD p2.toNat ty93.dflt).1)))) (again (.l1010 ((p0.getD p2.toNat ty93.dflt).1)))) (cond (B.eq ((p0.getD p2.toNat ty93.dflt).1) (3)) (cond (B.inb p2 p0.length) (cond (B.lim (List.length p4+List.length (((p0.getD p2.toNat ty93.dflt).1,(p0.getD p2.toNat ty93.dflt).2)::mt (Ty.den ty93))) (32)) (cond (p3) (cond (B.lim (List.length (p4++((p0.getD p2.toNat ty93.dflt).1,(p0.getD p2.toNat ty93.dflt).2)::mt (Ty.den ty93))+List.length ((4,mt (Ty.den ty140))::mt (Ty.den ty93))) (32)) (again (.l1015 (p4++((p0.getD p2.toNat ty93.dflt).1,(p0.getD p2.toNat ty93.dflt).2)::mt (Ty.den ty93)++(4,mt (Ty.den ty140))::mt (Ty.den ty93)))) none) (again (.l1015 (p4++((p0.getD p2.toNat ty93.dflt).1,(p0.getD p2.toNat ty93.dflt).2)::mt (Ty.den ty93))))) none) none) (cond (B.eq ((p0.getD p2.toNat ty93.dflt).1) (4)) (cond (B.inb (0) (List.length (p1.getD p2.toNat ty22.dflt))) (ob (c72 p0 p1 (List.getD (p1.getD p2.toNat ty22.dflt) (Int.toNat (0)) (Ty.dflt (Ty.int .i64))) (!p3) p4) fun y0=>k y0) none) (cond (B.eq ((p0.getD p2.toNat ty93.dflt).1) (8)) (cond (B.inb (0) (List.length (p1.getD p2.toNat ty22.dflt))) (ob (c72 p0 p1 (List.getD (p1.getD p2.toNat ty22.dflt) (Int.toNat (0)) (Ty.dflt (Ty.int .i64))) p3 p4) fun y0=>cond (B.lim (List.length y0+List.length (((p0.getD p2.toNat ty93.dflt).1,mt (Ty.den ty140))::mt (Ty.den ty93))) (32)) (k (y0++((p0.getD p2.toNat ty93.dflt).1,mt (Ty.den ty140))::mt (Ty.den ty93))) none) none) (cond (B.eq ((p0.getD p2.toNat ty93.dflt).1) (11)) (cond (p3) (again (.l1026 10 (p1.getD p2.toNat ty22.dflt) 2)) (again (.l1026 9 (p1.getD p2.toNat ty22.dflt) 1))) (cond (B.eq ((p0.getD p2.toNat ty93.dflt).1) (12)) (cond (p3) (again (.l1033 9 (p1.getD p2.toNat ty22.dflt) 1)) (again (.l1033 10 (p1.getD p2.toNat ty22.dflt) 2))) (cond (B.eq ((p0.getD p2.toNat ty93.dflt).1) (7)) (cond (B.inb (0) (List.length (p1.getD p2.toNat ty22.dflt))) (ob (c72 p0 p1 (List.getD (p1.getD p2.toNat ty22.dflt) (Int.toNat (0)) (Ty.dflt (Ty.int .i64))) (!p3) p4) fun y0=>cond (B.inb (1) (List.length (p1.getD p2.toNat ty22.dflt))) (ob (c72 p0 p1 (List.getD (p1.getD p2.toNat ty22.dflt) (Int.toNat (1)) (Ty.dflt (Ty.int .i64))) p3 y0) fun y1=>again (.l1038 6 y1)) none) none) (cond (B.inb (0) (List.length (p1.getD p2.toNat ty22.dflt))) (ob (c72 p0 p1 (List.getD (p1.getD p2.toNat ty22.dflt) (Int.toNat (0)) (Ty.dflt (Ty.int .i64))) p3 p4) fun y0=>cond (B.inb (1) (List.length (p1.getD p2.toNat ty22.dflt))) (ob (c72 p0 p1 (List.getD (p1.getD p2.toNat ty22.dflt) (Int.toNat (1)) (Ty.dflt (Ty.int .i64))) p3 y0) fun y1=>again (.l1038 ((p0.getD p2.toNat ty93.dflt).1) y1)) none) none))))))))) none) none | some (.l1010 v0)=>cond (B.lim (List.length p4+List.length ((v0,mt (Ty.den ty140))::mt (Ty.den ty93))) (32)) (k (p4++(v0,mt (Ty.den ty140))::mt (Ty.den ty93))) none | some (.l1015 v0)=>k v0 | some (.l1026 v3 v4 v5)=>cond (B.inb (0) v4.length) (cond (B.lim (List.length p4+List.length ((v5,mt (Ty.den ty140))::mt (Ty.den ty93))) (32)) (ob (c72 p0 p1 (v4.getD (Int.toNat (0)) ty3.dflt) p3 (p4++(v5,mt (Ty.den ty140))::mt (Ty.den ty93))) fun y0=>cond (B.lim (List.length y0+List.length ((v3,mt (Ty.den ty140))::mt (Ty.den ty93))) (32)) (k (y0++(v3,mt (Ty.den ty140))::mt (Ty.den ty93))) none) none) none | some (.l1033 v3 v4 v5)=>cond (B.inb (0) v4.length) (cond (B.lim (List.length p4+List.length ((v5,mt (Ty.den ty140))::mt (Ty.den ty93))) (32)) (ob (c72 p0 p1 (v4.getD (Int.toNat (0)) ty3.dflt) p3 (p4++(v5,mt (Ty.den ty140))::mt (Ty.den ty93))) fun y0=>cond (B.lim (List.length y0+List.length ((v3,mt (Ty.den ty140))::mt (Ty.den ty93))) (32)) (k (y0++(v3,mt (Ty.den ty140))::mt (Ty.den ty93))) none) none) none | some (.l1038 v1 v2)=>cond (p3) (ob (c95 v1) fun y0=>cond (B.lim (List.length v2+List.length ((y0,mt (Ty.den ty140))::mt (Ty.den ty93))) (32)) (k (v2++(y0,mt (Ty.den ty140))::mt (Ty.den ty93))) none) (cond (B.lim (List.length v2+List.length ((v1,mt (Ty.den ty140))::mt (Ty.den ty93))) (32)) (k (v2++(v1,mt (Ty.den ty140))::mt (Ty.den ty93))) none)
def E72 (p0:L93) (p1:L22) (p2:Int) (p3:Bool) (p4:L93):S72→List AV×Objs
 | .l1010 v0=>(mk 157 [(4,.c (.own 4)),(11,.c (.int .i64 v0))],[(4,.row 93 ty93 p4)])
 | .l1015 v0=>(mk 157 [(4,.c (.own 4))],[(4,.row 93 ty93 v0)])
 | .l1026 v3 v4 v5=>(mk 157 [(0,.c (.list 93 ty93 p0)),(1,.c (.list 22 ty22 p1)),(3,.c (.bool p3)),(4,.c (.own 4)),(11,.c (.int .i64 v3)),(12,.c (.list 3 ty3 v4)),(13,.c (.int .i64 v5))],[(4,.row 93 ty93 p4)])
 | .l1033 v3 v4 v5=>(mk 157 [(0,.c (.list 93 ty93 p0)),(1,.c (.list 22 ty22 p1)),(3,.c (.bool p3)),(4,.c (.own 4)),(11,.c (.int .i64 v3)),(12,.c (.list 3 ty3 v4)),(14,.c (.int .i64 v5))],[(4,.row 93 ty93 p4)])
 | .l1038 v1 v2=>(mk 157 [(3,.c (.bool p3)),(4,.c (.own 4)),(11,.c (.int .i64 v1))],[(4,.row 93 ty93 v2)])
def I72:S72→Nat
 | .l1010 _=>1010
 | .l1015 _=>1015
 | .l1026 _ _ _=>1026
 | .l1033 _ _ _=>1033
 | .l1038 _ _=>1038
noncomputable def Ta72 {R:Type} (B:Ops) (c72:C72) (c95:C95) (p0:L93) (p1:L22) (p2:Int) (p3:Bool) (p4:L93) (again:S72→Option R) (k:(L93)→Option R):Option S72→Option R | none=>cond (Ops.inb B p2 (List.length p0)) (cond (Ops.inb B p2 (List.length p1)) (cond (Ops.eq B ((List.getD p0 (Int.toNat p2) (Ty.dflt ty93)).1) (1)) (cond (p3) (again (.l1010 (IntKind.wrap .i64 (3-(List.getD p0 (Int.toNat p2) (Ty.dflt ty93)).1)))) (again (.l1010 ((List.getD p0 (Int.toNat p2) (Ty.dflt ty93)).1)))) (cond (Ops.eq B ((List.getD p0 (Int.toNat p2) (Ty.dflt ty93)).1) (2)) (cond (p3) (again (.l1010 (IntKind.wrap .i64 (3-(List.getD p0 (Int.toNat p2) (Ty.dflt ty93)).1)))) (again (.l1010 ((List.getD p0 (Int.toNat p2) (Ty.dflt ty93)).1)))) (cond (Ops.eq B ((List.getD p0 (Int.toNat p2) (Ty.dflt ty93)).1) (3)) (cond (Ops.inb B p2 (List.length p0)) (cond (Ops.lim B (List.length p4+List.length (((List.getD p0 (Int.toNat p2) (Ty.dflt ty93)).1,(List.getD p0 (Int.toNat p2) (Ty.dflt ty93)).2)::mt (Ty.den ty93))) (32)) (cond (p3) (cond (Ops.lim B (List.length (p4++((List.getD p0 (Int.toNat p2) (Ty.dflt ty93)).1,(List.getD p0 (Int.toNat p2) (Ty.dflt ty93)).2)::mt (Ty.den ty93))+List.length ((4,mt (Ty.den ty140))::mt (Ty.den ty93))) (32)) (again (.l1015 (p4++((List.getD p0 (Int.toNat p2) (Ty.dflt ty93)).1,(List.getD p0 (Int.toNat p2) (Ty.dflt ty93)).2)::mt (Ty.den ty93)++(4,mt (Ty.den ty140))::mt (Ty.den ty93)))) none) (again (.l1015 (p4++((List.getD p0 (Int.toNat p2) (Ty.dflt ty93)).1,(List.getD p0 (Int.toNat p2) (Ty.dflt ty93)).2)::mt (Ty.den ty93))))) none) none) (cond (Ops.eq B ((List.getD p0 (Int.toNat p2) (Ty.dflt ty93)).1) (4)) (cond (Ops.inb B (0) (List.length (List.getD p1 (Int.toNat p2) (Ty.dflt ty22)))) (ob (c72 p0 p1 (List.getD (List.getD p1 (Int.toNat p2) (Ty.dflt ty22)) (Int.toNat (0)) (Ty.dflt (Ty.int .i64))) (!p3) p4) fun y0=>k y0) none) (cond (Ops.eq B ((List.getD p0 (Int.toNat p2) (Ty.dflt ty93)).1) (8)) (cond (Ops.inb B (0) (List.length (List.getD p1 (Int.toNat p2) (Ty.dflt ty22)))) (ob (c72 p0 p1 (List.getD (List.getD p1 (Int.toNat p2) (Ty.dflt ty22)) (Int.toNat (0)) (Ty.dflt (Ty.int .i64))) p3 p4) fun y0=>cond (Ops.lim B (List.length y0+List.length (((List.getD p0 (Int.toNat p2) (Ty.dflt ty93)).1,mt (Ty.den ty140))::mt (Ty.den ty93))) (32)) (k (y0++((List.getD p0 (Int.toNat p2) (Ty.dflt ty93)).1,mt (Ty.den ty140))::mt (Ty.den ty93))) none) none) (cond (Ops.eq B ((List.getD p0 (Int.toNat p2) (Ty.dflt ty93)).1) (11)) (cond (p3) (again (.l1026 10 (List.getD p1 (Int.toNat p2) (Ty.dflt ty22)) 2)) (again (.l1026 9 (List.getD p1 (Int.toNat p2) (Ty.dflt ty22)) 1))) (cond (Ops.eq B ((List.getD p0 (Int.toNat p2) (Ty.dflt ty93)).1) (12)) (cond (p3) (again (.l1033 9 (List.getD p1 (Int.toNat p2) (Ty.dflt ty22)) 1)) (again (.l1033 10 (List.getD p1 (Int.toNat p2) (Ty.dflt ty22)) 2))) (cond (Ops.eq B ((List.getD p0 (Int.toNat p2) (Ty.dflt ty93)).1) (7)) (cond (Ops.inb B (0) (List.length (List.getD p1 (Int.toNat p2) (Ty.dflt ty22)))) (ob (c72 p0 p1 (List.getD (List.getD p1 (Int.toNat p2) (Ty.dflt ty22)) (Int.toNat (0)) (Ty.dflt (Ty.int .i64))) (!p3) p4) fun y0=>cond (Ops.inb B (1) (List.length (List.getD p1 (Int.toNat p2) (Ty.dflt ty22)))) (ob (c72 p0 p1 (List.getD (List.getD p1 (Int.toNat p2) (Ty.dflt ty22)) (Int.toNat (1)) (Ty.dflt (Ty.int .i64))) p3 y0) fun y1=>again (.l1038 6 y1)) none) none) (cond (Ops.inb B (0) (List.length (List.getD p1 (Int.toNat p2) (Ty.dflt ty22)))) (ob (c72 p0 p1 (List.getD (List.getD p1 (Int.toNat p2) (Ty.dflt ty22)) (Int.toNat (0)) (Ty.dflt (Ty.int .i64))) p3 p4) fun y0=>cond (Ops.inb B (1) (List.length (List.getD p1 (Int.toNat p2) (Ty.dflt ty22)))) (ob (c72 p0 p1 (List.getD (List.getD p1 (Int.toNat p2) (Ty.dflt ty22)) (Int.toNat (1)) (Ty.dflt (Ty.int .i64))) p3 y0) fun y1=>again (.l1038 ((List.getD p0 (Int.toNat p2) (Ty.dflt ty93)).1) y1)) none) none))))))))) none) none | some (.l1010 v0)=>cond (Ops.lim B (List.length p4+List.length ((v0,mt (Ty.den ty140))::mt (Ty.den ty93))) (32)) (k (p4++(v0,mt (Ty.den ty140))::mt (Ty.den ty93))) none | some (.l1015 v0)=>k v0 | some (.l1026 v3 v4 v5)=>cond (Ops.inb B (0) (List.length v4)) (agree (agree (cond (Ops.lim B (List.length p4+List.length ((v5,mt (Ty.den ty140))::mt (Ty.den ty93))) (32)) (agree (ob (c72 p0 p1 (List.getD v4 (Int.toNat (0)) (Ty.dflt ty3)) p3 (p4++(v5,mt (Ty.den ty140))::mt (Ty.den ty93))) fun y0=>cond (Ops.lim B (List.length y0+List.length ((v3,mt (Ty.den ty140))::mt (Ty.den ty93))) (32)) (k (y0++(v3,mt (Ty.den ty140))::mt (Ty.den ty93))) none) (ob (c72 p0 p1 (List.getD v4 (Int.toNat (0)) (Ty.dflt ty3)) p3 (p4++(v5,mt (Ty.den ty140))::mt (Ty.den ty93))) fun y0=>cond (Ops.lim B (List.length y0+List.length ((v3,mt (Ty.den ty140))::mt (Ty.den ty93))) (32)) (k (y0++(v3,mt (Ty.den ty140))::mt (Ty.den ty93))) none)) none) (cond (Ops.lim B (List.length p4+List.length ((v5,mt (Ty.den ty140))::mt (Ty.den ty93))) (32)) (ob (c72 p0 p1 (List.getD v4 (Int.toNat (0)) (Ty.dflt ty3)) p3 (p4++(v5,mt (Ty.den ty140))::mt (Ty.den ty93))) fun y0=>cond (Ops.lim B (List.length y0+List.length ((v3,mt (Ty.den ty140))::mt (Ty.den ty93))) (32)) (k (y0++(v3,mt (Ty.den ty140))::mt (Ty.den ty93))) none) none)) (cond (Ops.lim B (List.length p4+List.length ((v5,mt (Ty.den ty140))::mt (Ty.den ty93))) (32)) (ob (c72 p0 p1 (List.getD v4 (Int.toNat (0)) (Ty.dflt ty3)) p3 (p4++(v5,mt (Ty.den ty140))::mt (Ty.den ty93))) fun y0=>cond (Ops.lim B (List.length y0+List.length ((v3,mt (Ty.den ty140))::mt (Ty.den ty93))) (32)) (k (y0++(v3,mt (Ty.den ty140))::mt (Ty.den ty93))) none) none)) none | some (.l1033 v3 v4 v5)=>cond (Ops.inb B (0) (List.length v4)) (agree (agree (cond (Ops.lim B (List.length p4+List.length ((v5,mt (Ty.den ty140))::mt (Ty.den ty93))) (32)) (agree (ob (c72 p0 p1 (List.getD v4 (Int.toNat (0)) (Ty.dflt ty3)) p3 (p4++(v5,mt (Ty.den ty140))::mt (Ty.den ty93))) fun y0=>cond (Ops.lim B (List.length y0+List.length ((v3,mt (Ty.den ty140))::mt (Ty.den ty93))) (32)) (k (y0++(v3,mt (Ty.den ty140))::mt (Ty.den ty93))) none) (ob (c72 p0 p1 (List.getD v4 (Int.toNat (0)) (Ty.dflt ty3)) p3 (p4++(v5,mt (Ty.den ty140))::mt (Ty.den ty93))) fun y0=>cond (Ops.lim B (List.length y0+List.length ((v3,mt (Ty.den ty140))::mt (Ty.den ty93))) (32)) (k (y0++(v3,mt (Ty.den ty140))::mt (Ty.den ty93))) none)) none) (cond (Ops.lim B (List.length p4+List.length ((v5,mt (Ty.den ty140))::mt (Ty.den ty93))) (32)) (ob (c72 p0 p1 (List.getD v4 (Int.toNat (0)) (Ty.dflt ty3)) p3 (p4++(v5,mt (Ty.den ty140))::mt (Ty.den ty93))) fun y0=>cond (Ops.lim B (List.length y0+List.length ((v3,mt (Ty.den ty140))::mt (Ty.den ty93))) (32)) (k (y0++(v3,mt (Ty.den ty140))::mt (Ty.den ty93))) none) none)) (cond (Ops.lim B (List.length p4+List.length ((v5,mt (Ty.den ty140))::mt (Ty.den ty93))) (32)) (ob (c72 p0 p1 (List.getD v4 (Int.toNat (0)) (Ty.dflt ty3)) p3 (p4++(v5,mt (Ty.den ty140))::mt (Ty.den ty93))) fun y0=>cond (Ops.lim B (List.length y0+List.length ((v3,mt (Ty.den ty140))::mt (Ty.den ty93))) (32)) (k (y0++(v3,mt (Ty.den ty140))::mt (Ty.den ty93))) none) none)) none | some (.l1038 v1 v2)=>cond (p3) (ob (c95 v1) fun y0=>cond (Ops.lim B (List.length v2+List.length ((y0,mt (Ty.den ty140))::mt (Ty.den ty93))) (32)) (k (v2++(y0,mt (Ty.den ty140))::mt (Ty.den ty93))) none) (cond (Ops.lim B (List.length v2+List.length ((v1,mt (Ty.den ty140))::mt (Ty.den ty93))) (32)) (k (v2++(v1,mt (Ty.den ty140))::mt (Ty.den ty93))) none)
theorem ta72 {R:Type} (B:Ops) (c72:C72) (c95:C95) (p0:L93) (p1:L22) (p2:Int) (p3:Bool) (p4:L93) (again:S72→Option R) (k:(L93)→Option R):∀ s,Ta72 B c72 c95 p0 p1 p2 p3 p4 again k s=T72 B c72 c95 p0 p1 p2 p3 p4 again k s
 | none=>by unfold Ta72 T72;simp only [qbs]
 | some (.l1010 v0)=>by unfold Ta72 T72;simp only [qbs]
 | some (.l1015 v0)=>by unfold Ta72 T72;simp only [qbs]
 | some (.l1026 v3 v4 v5)=>by unfold Ta72 T72;simp only [qbs]
 | some (.l1033 v3 v4 v5)=>by unfold Ta72 T72;simp only [qbs]
 | some (.l1038 v1 v2)=>by unfold Ta72 T72;simp only [qbs]
theorem eq72 {R:Type} (B:Ops) (c72:C72) (c95:C95) (p0:L93) (p1:L22) (p2:Int) (p3:Bool) (p4:L93) (k:AV→Objs→Option R) (n:Nat):afun tau B gl0 X72 (ent 72 (e72 c72) (ent 95 (e95 c95) gnil)) ow Tryd.f72 [.c (.list 93 ty93 p0),.c (.list 22 ty22 p1),.c (.int .i64 p2),.c (.bool p3),.c (.own 4)] [(4,.row 93 ty93 p4)] k n=T72 B c72 c95 p0 p1 p2 p3 p4 (fun s=>aloop tau B gl0 X72 (ent 72 (e72 c72) (ent 95 (e95 c95) gnil)) ow [] Tryd.f72 k (I72 s) (E72 p0 p1 p2 p3 p4 s) n) (K15 k) none:=by rw [←ta72];kernel_rfl
theorem el72 {R:Type} (B:Ops) (c72:C72) (c95:C95) (p0:L93) (p1:L22) (p2:Int) (p3:Bool) (p4:L93) (k:AV→Objs→Option R) (n:Nat):∀ s,aloop tau B gl0 X72 (ent 72 (e72 c72) (ent 95 (e95 c95) gnil)) ow [] Tryd.f72 k (I72 s) (E72 p0 p1 p2 p3 p4 s) (n+1)=T72 B c72 c95 p0 p1 p2 p3 p4 (fun s=>aloop tau B gl0 X72 (ent 72 (e72 c72) (ent 95 (e95 c95) gnil)) ow [] Tryd.f72 k (I72 s) (E72 p0 p1 p2 p3 p4 s) n) (K15 k) (some s)
 | .l1010 v0=>by rw [←ta72];kernel_rfl
 | .l1015 v0=>by rw [←ta72];kernel_rfl
 | .l1026 v3 v4 v5=>by rw [←ta72];kernel_rfl
 | .l1033 v3 v4 v5=>by rw [←ta72];kernel_rfl
 | .l1038 v1 v2=>by rw [←ta72];kernel_rfl
theorem nt72 {R R':Type} (B:Ops) (c72:C72) (c95:C95) (p0:L93) (p1:L22) (p2:Int) (p3:Bool) (p4:L93) (again:S72→Option R) (again':S72→Option R') (k0:(L93)→Option R') (k:R'→Option R) (h:∀ s,again s=ob (again' s) k):∀ s,T72 B c72 c95 p0 p1 p2 p3 p4 again (fun y=>ob (k0 y) k) s=ob (T72 B c72 c95 p0 p1 p2 p3 p4 again' k0 s) k:=by
 rintro (_ | x)
 all_goals try cases x
 all_goals (unfold T72;repeat' first | exact rfl | exact h _ | apply qaf | (apply qao;intro))
def R72 (c72:C72) (c95:C95) (p0:L93) (p1:L22) (p2:Int) (p3:Bool) (p4:L93):Nat→S72→Option (L93)
 | 0,_=>none
 | n+1,s=>T72 Ops.std c72 c95 p0 p1 p2 p3 p4 (R72 c72 c95 p0 p1 p2 p3 p4 n) some (some s)
theorem rr72 {R:Type} (c72:C72) (c95:C95) (p0:L93) (p1:L22) (p2:Int) (p3:Bool) (p4:L93) (k:AV→Objs→Option R):∀ (n:Nat) (s:S72),aloop tau Ops.std gl0 X72 (ent 72 (e72 c72) (ent 95 (e95 c95) gnil)) ow [] Tryd.f72 k (I72 s) (E72 p0 p1 p2 p3 p4 s) n=ob (R72 c72 c95 p0 p1 p2 p3 p4 n s) (K15 k)
 | 0,s=>by cases s<;>rfl
 | n+1,s=>by rw [el72];exact nt72 Ops.std c72 c95 p0 p1 p2 p3 p4 _ _ some (K15 k) (rr72 c72 c95 p0 p1 p2 p3 p4 k n) (some s)
def F72 (c72:C72) (c95:C95) (p0:L93) (p1:L22) (p2:Int) (p3:Bool) (p4:L93):Option (L93):=T72 Ops.std c72 c95 p0 p1 p2 p3 p4 (R72 c72 c95 p0 p1 p2 p3 p4 1000000) some none
theorem sf72 {c72:C72} {c95:C95} (h72:Sp72 c72) (h95:Sp95 c95):Sp72 (F72 c72 c95):=fun p0 p1 p2 p3 p4 y hy=>by
 refine qaj (qae (ek72 h72) (qae (ek95 h95) qai)) 1000000 (fn:=Tryd.f72) (by kernel_rfl) (by kernel_rfl) (X:=X72) (by kernel_rfl) ?_
 rw [eq72]
 exact (nt72 Ops.std c72 c95 p0 p1 p2 p3 p4 _ _ some (K15 k0) (rr72 c72 c95 p0 p1 p2 p3 p4 k0 1000000) none).trans (by show ob (F72 c72 c95 p0 p1 p2 p3 p4) _=_;rw [hy];rfl)
noncomputable def Rec72:Nat→(L93→L22→Int→Bool→L93→Option (L93))
 | 0=>fun _ _ _ _ _=>none
 | d+1=>F72 (Rec72 d) M95
theorem rec72:∀ d,Sp72 (Rec72 d)
 | 0=>fun p0 p1 p2 p3 p4 y (h:(none:Option (L93))=some y)=>by cases h
 | d+1=>sf72 (rec72 d) sm95
noncomputable def M72:L93→L22→Int→Bool→L93→Option (L93):=(Rec72 1000000)
theorem sm72:Sp72 M72:=(rec72 1000000)
def X41:Aux:=⟨[],[]⟩
abbrev C51:Type:=L93→Option (L22)
def T41 {R:Type} (B:Ops) (c48:C48) (c51:C51) (c72:C72) (p0:L93) (p1:Bool) (k:(L93)→Option R):Option R:=ob (c48 p0) fun y0=>cond (!y0) (k (mt (Ty.den ty93))) (ob (c51 p0) fun y1=>ob (c72 p0 y1 (IntKind.wrap .i64 (Nat.cast p0.length-1)) p1 (mt (Ty.den ty93))) fun y2=>cond (B.lt (60) (↑y2.length)) (k (mt (Ty.den ty93))) (k y2))
theorem eq41 {R:Type} (B:Ops) (c48:C48) (c51:C51) (c72:C72) (p0:L93) (p1:Bool) (k:AV→Objs→Option R) (n:Nat):afun tau B gl0 X41 (ent 48 (e48 c48) (ent 51 (e51 c51) (ent 72 (e72 c72) gnil))) ow Tryd.f41 [.c (.list 93 ty93 p0),.c (.bool p1)] [] k n=T41 B c48 c51 c72 p0 p1 (K15 k):=by kernel_rfl
theorem nt41 {R R':Type} (B:Ops) (c48:C48) (c51:C51) (c72:C72) (p0:L93) (p1:Bool) (k0:(L93)→Option R') (k:R'→Option R):T41 B c48 c51 c72 p0 p1 (fun y=>ob (k0 y) k)=ob (T41 B c48 c51 c72 p0 p1 k0) k:=by
 unfold T41
 repeat' first | exact rfl | apply qaf | (apply qao;intro)
def F41 (c48:C48) (c51:C51) (c72:C72) (p0:L93) (p1:Bool):Option (L93):=T41 Ops.std c48 c51 c72 p0 p1 some
def e41 {R:Type} (c:L93→Bool→Option (L93)):Ent R:=fun args objs k=>
 oL args 93 ty93 fun p0 l0=>oCons l0 fun a1 l1=>oC a1 fun x1=>cBool x1 fun p1=>oE l1 objs <| ob (c p0 p1) (K15 k)
abbrev Sp41 (c:L93→Bool→Option (L93)):Prop:=∀ (p0:L93) (p1:Bool) (y:L93),c p0 p1=some y→Spec Tryd.prog gl0 41 [.c (.list 93 ty93 p0),.c (.bool p1)] [] (.c (.own 500)) [(500,.row 93 ty93 y)]
theorem ek41 {R:Type} {c:L93→Bool→Option (L93)} (hs:Sp41 c):EOk 41 (e41 (R:=R) c):=fun args objs k r h=>by
 unfold e41 at h
 obtain ⟨p0,l0,rfl,q3⟩:=qaw h
 obtain ⟨a1,l1,rfl,q4⟩:=qal q3
 obtain ⟨x1,rfl,q5⟩:=qa6 q4
 obtain ⟨p1,rfl,q6⟩:=qcw q5
 obtain ⟨rfl,rfl,q8⟩:=qam q6
 exact qap (hs p0 p1) q8
theorem sf41 {c48:C48} {c51:C51} {c72:C72} (h48:Sp48 c48) (h51:Sp51 c51) (h72:Sp72 c72):Sp41 (F41 c48 c51 c72):=fun p0 p1 y hy=>by
 refine qaj (qae (ek48 h48) (qae (ek51 h51) (qae (ek72 h72) qai))) 1000000 (fn:=Tryd.f41) (by kernel_rfl) (by kernel_rfl) (X:=X41) (by kernel_rfl) ?_
 rw [eq41]
 exact (nt41 Ops.std c48 c51 c72 p0 p1 some (K15 k0)).trans (by show ob (F41 c48 c51 c72 p0 p1) _=_;rw [hy];rfl)
noncomputable def M41:L93→Bool→Option (L93):=F41 M48 M51 M72
theorem sm41:Sp41 M41:=sf41 sm48 sm51 sm72
def X14:Aux:=⟨[],[]⟩
abbrev C41:Type:=L93→Bool→Option (L93)
def T14 {R:Type} (B:Ops) (c41:C41) (p0:L93) (k:(L93)→Option R):Option R:=ob (c41 p0 false) fun y0=>k y0
theorem eq14 {R:Type} (B:Ops) (c41:C41) (p0:L93) (k:AV→Objs→Option R) (n:Nat):afun tau B gl0 X14 (ent 41 (e41 c41) gnil) ow Tryd.f14 [.c (.list 93 ty93 p0)] [] k n=T14 B c41 p0 (K15 k):=by kernel_rfl
theorem nt14 {R R':Type} (B:Ops) (c41:C41) (p0:L93) (k0:(L93)→Option R') (k:R'→Option R):T14 B c41 p0 (fun y=>ob (k0 y) k)=ob (T14 B c41 p0 k0) k:=by
 unfold T14
 repeat' first | exact rfl | apply qaf | (apply qao;intro)
def F14 (c41:C41) (p0:L93):Option (L93):=T14 Ops.std c41 p0 some
def e14 {R:Type} (c:L93→Option (L93)):Ent R:=fun args objs k=>
 oL args 93 ty93 fun p0 l0=>oE l0 objs <| ob (c p0) (K15 k)
abbrev Sp14 (c:L93→Option (L93)):Prop:=∀ (p0:L93) (y:L93),c p0=some y→Spec Tryd.prog gl0 14 [.c (.list 93 ty93 p0)] [] (.c (.own 500)) [(500,.row 93 ty93 y)]
theorem ek14 {R:Type} {c:L93→Option (L93)} (hs:Sp14 c):EOk 14 (e14 (R:=R) c):=fun args objs k r h=>by
 unfold e14 at h
 obtain ⟨p0,l0,rfl,q3⟩:=qaw h
 obtain ⟨rfl,rfl,q5⟩:=qam q3
 exact qap (hs p0) q5
theorem sf14 {c41:C41} (h41:Sp41 c41):Sp14 (F14 c41):=fun p0 y hy=>by
 refine qaj (qae (ek41 h41) qai) 1000000 (fn:=Tryd.f14) (by kernel_rfl) (by kernel_rfl) (X:=X14) (by kernel_rfl) ?_
 rw [eq14]
 exact (nt14 Ops.std c41 p0 some (K15 k0)).trans (by show ob (F14 c41 p0) _=_;rw [hy];rfl)
noncomputable def M14:L93→Option (L93):=F14 M41
theorem sm14:Sp14 M14:=sf14 sm41
def X17:Aux:=⟨[],[]⟩
def T17 {R:Type} (B:Ops) (c41:C41) (p0:L93) (k:(L93)→Option R):Option R:=ob (c41 p0 true) fun y0=>k y0
theorem eq17 {R:Type} (B:Ops) (c41:C41) (p0:L93) (k:AV→Objs→Option R) (n:Nat):afun tau B gl0 X17 (ent 41 (e41 c41) gnil) ow Tryd.f17 [.c (.list 93 ty93 p0)] [] k n=T17 B c41 p0 (K15 k):=by kernel_rfl
theorem nt17 {R R':Type} (B:Ops) (c41:C41) (p0:L93) (k0:(L93)→Option R') (k:R'→Option R):T17 B c41 p0 (fun y=>ob (k0 y) k)=ob (T17 B c41 p0 k0) k:=by
 unfold T17
 repeat' first | exact rfl | apply qaf | (apply qao;intro)
def F17 (c41:C41) (p0:L93):Option (L93):=T17 Ops.std c41 p0 some
def e17 {R:Type} (c:L93→Option (L93)):Ent R:=fun args objs k=>
 oL args 93 ty93 fun p0 l0=>oE l0 objs <| ob (c p0) (K15 k)
abbrev Sp17 (c:L93→Option (L93)):Prop:=∀ (p0:L93) (y:L93),c p0=some y→Spec Tryd.prog gl0 17 [.c (.list 93 ty93 p0)] [] (.c (.own 500)) [(500,.row 93 ty93 y)]
theorem ek17 {R:Type} {c:L93→Option (L93)} (hs:Sp17 c):EOk 17 (e17 (R:=R) c):=fun args objs k r h=>by
 unfold e17 at h
 obtain ⟨p0,l0,rfl,q3⟩:=qaw h
 obtain ⟨rfl,rfl,q5⟩:=qam q3
 exact qap (hs p0) q5
theorem sf17 {c41:C41} (h41:Sp41 c41):Sp17 (F17 c41):=fun p0 y hy=>by
 refine qaj (qae (ek41 h41) qai) 1000000 (fn:=Tryd.f17) (by kernel_rfl) (by kernel_rfl) (X:=X17) (by kernel_rfl) ?_
 rw [eq17]
 exact (nt17 Ops.std c41 p0 some (K15 k0)).trans (by show ob (F17 c41 p0) _=_;rw [hy];rfl)
noncomputable def M17:L93→Option (L93):=F17 M41
theorem sm17:Sp17 M17:=sf17 sm41
def X19:Aux:=⟨[(2,([0,3,4]++rg 6 24))],[(4,.lin (rg 0 16))]⟩
inductive S19 where
 | l0 (v1:Int)
def T19 {R:Type} (B:Ops) (c47:C47) (c48:C48) (p0:L82) (p1:L85) (p2:L91) (p3:L93) (again:S19→Option R) (k:(Bool)→Option R):Option S19→Option R | none=>again (.l0 0) | some (.l0 v1)=>cond (B.lt v1 (↑p3.length)) (cond (B.inb v1 p3.length) (cond (B.eq ((p3.getD v1.toNat ty93.dflt).1) (3)) (cond (B.inb v1 p3.length) (ob (c47 p0 p1 p2 ((p3.getD v1.toNat ty93.dflt).2)) fun y0=>cond (!y0) (k false) (again (.l0 (IntKind.wrap .i64 (v1+1))))) none) (again (.l0 (IntKind.wrap .i64 (v1+1))))) none) (ob (c48 p3) fun y0=>k y0)
def E19 (p0:L82) (p1:L85) (p2:L91) (p3:L93):S19→List AV×Objs
 | .l0 v1=>(mk 30 [(1,.c (.list 93 ty93 p3)),(2,.c (.ptr 2 0)),(5,.c (.int .i64 v1))],[(2,.box 40 [.list 82 ty82 p0,.list 85 ty85 p1,.list 91 ty91 p2])])
def I19:S19→Nat
 | .l0 _=>0
theorem eq19 {R:Type} (B:Ops) (c47:C47) (c48:C48) (p0:L82) (p1:L85) (p2:L91) (p3:L93) (k:AV→Objs→Option R) (n:Nat):afun tau B gl0 X19 (ent 47 (e47 c47) (ent 48 (e48 c48) gnil)) ow Tryd.f19 [.agg [.list 82 ty82 p0,.list 85 ty85 p1,.list 91 ty91 p2],.c (.list 93 ty93 p3)] [] k n=T19 B c47 c48 p0 p1 p2 p3 (fun s=>aloop tau B gl0 X19 (ent 47 (e47 c47) (ent 48 (e48 c48) gnil)) ow [] Tryd.f19 k (I19 s) (E19 p0 p1 p2 p3 s) n) (K1 k) none:=by kernel_rfl
theorem el19 {R:Type} (B:Ops) (c47:C47) (c48:C48) (p0:L82) (p1:L85) (p2:L91) (p3:L93) (k:AV→Objs→Option R) (n:Nat):∀ s,aloop tau B gl0 X19 (ent 47 (e47 c47) (ent 48 (e48 c48) gnil)) ow [] Tryd.f19 k (I19 s) (E19 p0 p1 p2 p3 s) (n+1)=T19 B c47 c48 p0 p1 p2 p3 (fun s=>aloop tau B gl0 X19 (ent 47 (e47 c47) (ent 48 (e48 c48) gnil)) ow [] Tryd.f19 k (I19 s) (E19 p0 p1 p2 p3 s) n) (K1 k) (some s):=by
 intro s
 cases s<;>kernel_rfl
theorem nt19 {R R':Type} (B:Ops) (c47:C47) (c48:C48) (p0:L82) (p1:L85) (p2:L91) (p3:L93) (again:S19→Option R) (again':S19→Option R') (k0:(Bool)→Option R') (k:R'→Option R) (h:∀ s,again s=ob (again' s) k):∀ s,T19 B c47 c48 p0 p1 p2 p3 again (fun y=>ob (k0 y) k) s=ob (T19 B c47 c48 p0 p1 p2 p3 again' k0 s) k:=by
 rintro (_ | x)
 all_goals try cases x
 all_goals (unfold T19;repeat' first | exact rfl | exact h _ | apply qaf | (apply qao;intro))
def R19 (c47:C47) (c48:C48) (p0:L82) (p1:L85) (p2:L91) (p3:L93):Nat→S19→Option (Bool)
 | 0,_=>none
 | n+1,s=>T19 Ops.std c47 c48 p0 p1 p2 p3 (R19 c47 c48 p0 p1 p2 p3 n) some (some s)
theorem rr19 {R:Type} (c47:C47) (c48:C48) (p0:L82) (p1:L85) (p2:L91) (p3:L93) (k:AV→Objs→Option R):∀ (n:Nat) (s:S19),aloop tau Ops.std gl0 X19 (ent 47 (e47 c47) (ent 48 (e48 c48) gnil)) ow [] Tryd.f19 k (I19 s) (E19 p0 p1 p2 p3 s) n=ob (R19 c47 c48 p0 p1 p2 p3 n s) (K1 k)
 | 0,s=>by cases s<;>rfl
 | n+1,s=>by rw [el19];exact nt19 Ops.std c47 c48 p0 p1 p2 p3 _ _ some (K1 k) (rr19 c47 c48 p0 p1 p2 p3 k n) (some s)
def F19 (c47:C47) (c48:C48) (p0:L82) (p1:L85) (p2:L91) (p3:L93):Option (Bool):=T19 Ops.std c47 c48 p0 p1 p2 p3 (R19 c47 c48 p0 p1 p2 p3 1000000) some none
def e19 {R:Type} (c:L82→L85→L91→L93→Option (Bool)):Ent R:=fun args objs k=>
 oCons args fun a0 l0=>oAgg a0 fun x0=>cCons x0 fun z0_0 w0_0=>cList 82 ty82 z0_0 fun p0=>cCons w0_0 fun z0_1 w0_1=>cList 85 ty85 z0_1 fun p1=>cCons w0_1 fun z0_2 w0_2=>cList 91 ty91 z0_2 fun p2=>cNil w0_2 <| oL l0 93 ty93 fun p3 l1=>oE l1 objs <| ob (c p0 p1 p2 p3) (K1 k)
abbrev Sp19 (c:L82→L85→L91→L93→Option (Bool)):Prop:=∀ (p0:L82) (p1:L85) (p2:L91) (p3:L93) (y:Bool),c p0 p1 p2 p3=some y→Spec Tryd.prog gl0 19 [.agg [.list 82 ty82 p0,.list 85 ty85 p1,.list 91 ty91 p2],.c (.list 93 ty93 p3)] [] (.c (.bool y)) []
theorem ek19 {R:Type} {c:L82→L85→L91→L93→Option (Bool)} (hs:Sp19 c):EOk 19 (e19 (R:=R) c):=fun args objs k r h=>by
 unfold e19 at h
 obtain ⟨a0,l0,rfl,q1⟩:=qal h
 obtain ⟨x0,rfl,q2⟩:=qav q1
 obtain ⟨z0_0,w0_0,rfl,q3⟩:=qab q2
 obtain ⟨p0,rfl,q4⟩:=qad q3
 obtain ⟨z0_1,w0_1,rfl,q5⟩:=qab q4
 obtain ⟨p1,rfl,q6⟩:=qad q5
 obtain ⟨z0_2,w0_2,rfl,q7⟩:=qab q6
 obtain ⟨p2,rfl,q8⟩:=qad q7
 obtain ⟨rfl,q9⟩:=qar q8
 obtain ⟨p3,l1,rfl,q12⟩:=qaw q9
 obtain ⟨rfl,rfl,q14⟩:=qam q12
 exact qap (hs p0 p1 p2 p3) q14
theorem sf19 {c47:C47} {c48:C48} (h47:Sp47 c47) (h48:Sp48 c48):Sp19 (F19 c47 c48):=fun p0 p1 p2 p3 y hy=>by
 refine qaj (qae (ek47 h47) (qae (ek48 h48) qai)) 1000000 (fn:=Tryd.f19) (by kernel_rfl) (by kernel_rfl) (X:=X19) (by kernel_rfl) ?_
 rw [eq19]
 exact (nt19 Ops.std c47 c48 p0 p1 p2 p3 _ _ some (K1 k0) (rr19 c47 c48 p0 p1 p2 p3 k0 1000000) none).trans (by show ob (F19 c47 c48 p0 p1 p2 p3) _=_;rw [hy];rfl)
noncomputable def M19:L82→L85→L91→L93→Option (Bool):=F19 M47 M48
theorem sm19:Sp19 M19:=sf19 sm47 sm48
def X49:Aux:=⟨[(3,([0,3]++rg 7 65)),(7,([0,3,6]++rg 8 64))],[(5,.lin (rg 0 18)),(9,.lin (rg 0 33))]⟩
inductive S49 where
 | l0 (v1:Int) (v7:L3)
 | l1 (v1:Int) (v7:L3) (v8:L3)
def T49 {R:Type} (B:Ops) (c25:C25) (p0:L82) (p1:L85) (p2:L91) (p3:Int) (again:S49→Option R) (k:(L3×L3)→Option R):Option S49→Option R | none=>again (.l0 0 (mt (Ty.den (Ty.int .i64)))) | some (.l0 v1 v7)=>cond (B.lt v1 (↑p1.length)) (cond (B.eq (IntKind.wrap .i64 (1+v1)) (0)) none (cond (B.inb v1 p1.length) (ob (c25 (IntKind.wrap .i64 (Int.tdiv p3 (IntKind.wrap .i64 (1+v1)))) (Nat.cast (List.length ((p1.getD v1.toNat ty85.dflt).2)))) fun y0=>cond (B.lim (List.length v7+List.length (y0::mt (Ty.den (Ty.int .i64)))) (8)) (again (.l0 (IntKind.wrap .i64 (v1+1)) (v7++y0::mt (Ty.den (Ty.int .i64))))) none) none)) (again (.l1 0 v7 ((mt (Ty.den (Ty.int .i64)))))) | some (.l1 v1 v7 v8)=>cond (B.lt v1 (↑p0.length)) (cond (B.inb v1 p0.length) (cond (B.eq (IntKind.wrap .i64 (3+IntKind.wrap .i64 (4*v1))) (0)) none (cond (B.inb v1 p0.length) (cond (B.inb v1 p0.length) (ob (c25 (IntKind.wrap .i64 (Int.tdiv p3 (IntKind.wrap .i64 (3+IntKind.wrap .i64 (4*v1))))) (IntKind.wrap .i64 (IntKind.wrap .i64 ((((p0.getD v1.toNat ty82.dflt).2).2).1-((p0.getD v1.toNat ty82.dflt).2).1)+1))) fun y0=>cond (B.lim (List.length v8+List.length (IntKind.wrap .i64 (((p0.getD v1.toNat ty82.dflt).2).1+y0)::mt (Ty.den (Ty.int .i64)))) (8)) (again (.l1 (IntKind.wrap .i64 (v1+1)) v7 (v8++IntKind.wrap .i64 (((p0.getD v1.toNat ty82.dflt).2).1+y0)::mt (Ty.den (Ty.int .i64))))) none) none) none)) none) (k ((v7,v8)))
def E49 (p0:L82) (p1:L85) (p2:L91) (p3:Int):S49→List AV×Objs
 | .l0 v1 v7=>(mk 72 [(1,.c (.int .i64 p3)),(2,.c (.ptr 2 0)),(4,.c (.ptr 4 0)),(5,.c (.ptr 5 0)),(6,.c (.int .i64 v1))],[(2,.box 40 [.list 82 ty82 p0,.list 85 ty85 p1,.list 91 ty91 p2]),(4,.box 97 [.own 5000,.own 5001]),(5,.box 97 [.own 6000,.own 6001]),(5000,.row 3 ty3 (mt (Ty.den (Ty.int .i64)))),(5001,.row 3 ty3 (mt (Ty.den (Ty.int .i64)))),(6000,.row 3 ty3 v7),(6001,.row 3 ty3 (mt (Ty.den (Ty.int .i64))))])
 | .l1 v1 v7 v8=>(mk 72 [(1,.c (.int .i64 p3)),(2,.c (.ptr 2 0)),(4,.c (.ptr 4 0)),(5,.c (.ptr 5 0)),(7,.c (.int .i64 v1))],[(2,.box 40 [.list 82 ty82 p0,.list 85 ty85 p1,.list 91 ty91 p2]),(4,.box 97 [.own 5000,.own 5001]),(5,.box 97 [.own 6000,.own 6001]),(5000,.row 3 ty3 (mt (Ty.den (Ty.int .i64)))),(5001,.row 3 ty3 (mt (Ty.den (Ty.int .i64)))),(6000,.row 3 ty3 v7),(6001,.row 3 ty3 v8)])
def I49:S49→Nat
 | .l0 _ _=>0
 | .l1 _ _ _=>1
abbrev K25 {R:Type} (k:AV→Objs→Option R) (y:(L3×L3)):Option R:=k (.agg [.list 3 ty3 y.1,.list 3 ty3 y.2]) []
theorem eq49 {R:Type} (B:Ops) (c25:C25) (p0:L82) (p1:L85) (p2:L91) (p3:Int) (k:AV→Objs→Option R) (n:Nat):afun tau B gl0 X49 (ent 25 (e25 c25) gnil) ow Tryd.f49 [.agg [.list 82 ty82 p0,.list 85 ty85 p1,.list 91 ty91 p2],.c (.int .i64 p3)] [] k n=T49 B c25 p0 p1 p2 p3 (fun s=>aloop tau B gl0 X49 (ent 25 (e25 c25) gnil) ow [] Tryd.f49 k (I49 s) (E49 p0 p1 p2 p3 s) n) (K25 k) none:=by kernel_rfl
theorem el49 {R:Type} (B:Ops) (c25:C25) (p0:L82) (p1:L85) (p2:L91) (p3:Int) (k:AV→Objs→Option R) (n:Nat):∀ s,aloop tau B gl0 X49 (ent 25 (e25 c25) gnil) ow [] Tryd.f49 k (I49 s) (E49 p0 p1 p2 p3 s) (n+1)=T49 B c25 p0 p1 p2 p3 (fun s=>aloop tau B gl0 X49 (ent 25 (e25 c25) gnil) ow [] Tryd.f49 k (I49 s) (E49 p0 p1 p2 p3 s) n) (K25 k) (some s):=by
 intro s
 cases s<;>kernel_rfl
theorem nt49 {R R':Type} (B:Ops) (c25:C25) (p0:L82) (p1:L85) (p2:L91) (p3:Int) (again:S49→Option R) (again':S49→Option R') (k0:(L3×L3)→Option R') (k:R'→Option R) (h:∀ s,again s=ob (again' s) k):∀ s,T49 B c25 p0 p1 p2 p3 again (fun y=>ob (k0 y) k) s=ob (T49 B c25 p0 p1 p2 p3 again' k0 s) k:=by
 rintro (_ | x)
 all_goals try cases x
 all_goals (unfold T49;repeat' first | exact rfl | exact h _ | apply qaf | (apply qao;intro))
def R49 (c25:C25) (p0:L82) (p1:L85) (p2:L91) (p3:Int):Nat→S49→Option (L3×L3)
 | 0,_=>none
 | n+1,s=>T49 Ops.std c25 p0 p1 p2 p3 (R49 c25 p0 p1 p2 p3 n) some (some s)
theorem rr49 {R:Type} (c25:C25) (p0:L82) (p1:L85) (p2:L91) (p3:Int) (k:AV→Objs→Option R):∀ (n:Nat) (s:S49),aloop tau Ops.std gl0 X49 (ent 25 (e25 c25) gnil) ow [] Tryd.f49 k (I49 s) (E49 p0 p1 p2 p3 s) n=ob (R49 c25 p0 p1 p2 p3 n s) (K25 k)
 | 0,s=>by cases s<;>rfl
 | n+1,s=>by rw [el49];exact nt49 Ops.std c25 p0 p1 p2 p3 _ _ some (K25 k) (rr49 c25 p0 p1 p2 p3 k n) (some s)
def F49 (c25:C25) (p0:L82) (p1:L85) (p2:L91) (p3:Int):Option (L3×L3):=T49 Ops.std c25 p0 p1 p2 p3 (R49 c25 p0 p1 p2 p3 1000000) some none
def e49 {R:Type} (c:L82→L85→L91→Int→Option (L3×L3)):Ent R:=fun args objs k=>
 oCons args fun a0 l0=>oAgg a0 fun x0=>cCons x0 fun z0_0 w0_0=>cList 82 ty82 z0_0 fun p0=>cCons w0_0 fun z0_1 w0_1=>cList 85 ty85 z0_1 fun p1=>cCons w0_1 fun z0_2 w0_2=>cList 91 ty91 z0_2 fun p2=>cNil w0_2 <| oI l0 .i64 fun p3 l1=>oE l1 objs <| ob (c p0 p1 p2 p3) (K25 k)
abbrev Sp49 (c:L82→L85→L91→Int→Option (L3×L3)):Prop:=∀ (p0:L82) (p1:L85) (p2:L91) (p3:Int) (y:L3×L3),c p0 p1 p2 p3=some y→Spec Tryd.prog gl0 49 [.agg [.list 82 ty82 p0,.list 85 ty85 p1,.list 91 ty91 p2],.c (.int .i64 p3)] [] (.agg [.list 3 ty3 y.1,.list 3 ty3 y.2]) []
theorem ek49 {R:Type} {c:L82→L85→L91→Int→Option (L3×L3)} (hs:Sp49 c):EOk 49 (e49 (R:=R) c):=fun args objs k r h=>by
 unfold e49 at h
 obtain ⟨a0,l0,rfl,q1⟩:=qal h
 obtain ⟨x0,rfl,q2⟩:=qav q1
 obtain ⟨z0_0,w0_0,rfl,q3⟩:=qab q2
 obtain ⟨p0,rfl,q4⟩:=qad q3
 obtain ⟨z0_1,w0_1,rfl,q5⟩:=qab q4
 obtain ⟨p1,rfl,q6⟩:=qad q5
 obtain ⟨z0_2,w0_2,rfl,q7⟩:=qab q6
 obtain ⟨p2,rfl,q8⟩:=qad q7
 obtain ⟨rfl,q9⟩:=qar q8
 obtain ⟨p3,l1,rfl,q12⟩:=qau q9
 obtain ⟨rfl,rfl,q14⟩:=qam q12
 exact qap (hs p0 p1 p2 p3) q14
theorem sf49 {c25:C25} (h25:Sp25 c25):Sp49 (F49 c25):=fun p0 p1 p2 p3 y hy=>by
 refine qaj (qae (ek25 h25) qai) 1000000 (fn:=Tryd.f49) (by kernel_rfl) (by kernel_rfl) (X:=X49) (by kernel_rfl) ?_
 rw [eq49]
 exact (nt49 Ops.std c25 p0 p1 p2 p3 _ _ some (K25 k0) (rr49 c25 p0 p1 p2 p3 k0 1000000) none).trans (by show ob (F49 c25 p0 p1 p2 p3) _=_;rw [hy];rfl)
noncomputable def M49:L82→L85→L91→Int→Option (L3×L3):=F49 M25
theorem sm49:Sp49 M49:=sf49 sm25
def X20:Aux:=⟨[(3,([0,4,5]++rg 9 55)),(7,([0,1,4,5,8]++rg 10 54))],[(5,.lin (rg 0 13)),(9,.lin (rg 0 13))]⟩
inductive S20 where
 | l0 (v2:Int) (v8:L100)
 | l1 (v1:Int) (v7:L100) (v8:L100)
abbrev C49:Type:=L82→L85→L91→Int→Option (L3×L3)
def T20 {R:Type} (B:Ops) (c49:C49) (p0:L82) (p1:L85) (p2:L91) (p3:L3) (p4:L3) (again:S20→Option R) (k:(L100×L100)→Option R):Option S20→Option R | none=>again (.l0 0 (mt (Ty.den ty100))) | some (.l0 v2 v8)=>cond (B.lt v2 (↑p3.length)) (cond (B.lt v2 (6)) (cond (B.inb v2 p3.length) (ob (c49 p0 p1 p2 (p3.getD v2.toNat ty3.dflt)) fun y0=>cond (B.lim (List.length v8+List.length (((y0.1,y0.2),mt (Ty.den (Ty.int .i64)))::mt (Ty.den ty100))) (72)) (again (.l0 (IntKind.wrap .i64 (v2+1)) (v8++((y0.1,y0.2),mt (Ty.den (Ty.int .i64)))::mt (Ty.den ty100)))) none) none) (again (.l1 0 v8 ((mt (Ty.den ty100)))))) (again (.l1 0 v8 ((mt (Ty.den ty100))))) | some (.l1 v1 v7 v8)=>cond (B.lt v1 (↑p4.length)) (cond (B.lt v1 (6)) (cond (B.inb v1 p4.length) (ob (c49 p0 p1 p2 (p4.getD v1.toNat ty3.dflt)) fun y0=>cond (B.lim (List.length v8+List.length (((y0.1,y0.2),mt (Ty.den (Ty.int .i64)))::mt (Ty.den ty100))) (72)) (again (.l1 (IntKind.wrap .i64 (v1+1)) v7 (v8++((y0.1,y0.2),mt (Ty.den (Ty.int .i64)))::mt (Ty.den ty100)))) none) none) (cond (B.eq (↑v8.length) (0)) (ob (c49 p0 p1 p2 (0)) fun y0=>k ((v7,((y0.1,y0.2),mt (Ty.den (Ty.int .i64)))::mt (Ty.den ty100)))) (k ((v7,v8))))) (cond (B.eq (↑v8.length) (0)) (ob (c49 p0 p1 p2 (0)) fun y0=>k ((v7,((y0.1,y0.2),mt (Ty.den (Ty.int .i64)))::mt (Ty.den ty100)))) (k ((v7,v8))))
def E20 (p0:L82) (p1:L85) (p2:L91) (p3:L3) (p4:L3):S20→List AV×Objs
 | .l0 v2 v8=>(mk 64 [(1,.c (.list 3 ty3 p3)),(2,.c (.list 3 ty3 p4)),(3,.c (.ptr 3 0)),(6,.c (.ptr 6 0)),(7,.c (.ptr 7 0)),(8,.c (.int .i64 v2))],[(3,.box 40 [.list 82 ty82 p0,.list 85 ty85 p1,.list 91 ty91 p2]),(6,.box 50 [.own 7000,.own 7001]),(7,.box 50 [.own 8000,.own 8001]),(7000,.row 100 ty100 (mt (Ty.den ty100))),(7001,.row 100 ty100 (mt (Ty.den ty100))),(8000,.row 100 ty100 v8),(8001,.row 100 ty100 (mt (Ty.den ty100)))])
 | .l1 v1 v7 v8=>(mk 64 [(2,.c (.list 3 ty3 p4)),(3,.c (.ptr 3 0)),(6,.c (.ptr 6 0)),(7,.c (.ptr 7 0)),(9,.c (.int .i64 v1))],[(3,.box 40 [.list 82 ty82 p0,.list 85 ty85 p1,.list 91 ty91 p2]),(6,.box 50 [.own 7000,.own 7001]),(7,.box 50 [.own 8000,.own 8001]),(7000,.row 100 ty100 (mt (Ty.den ty100))),(7001,.row 100 ty100 (mt (Ty.den ty100))),(8000,.row 100 ty100 v7),(8001,.row 100 ty100 v8)])
def I20:S20→Nat
 | .l0 _ _=>0
 | .l1 _ _ _=>1
abbrev K26 {R:Type} (k:AV→Objs→Option R) (y:(L100×L100)):Option R:=k (.agg [.list 100 ty100 y.1,.list 100 ty100 y.2]) []
theorem eq20 {R:Type} (B:Ops) (c49:C49) (p0:L82) (p1:L85) (p2:L91) (p3:L3) (p4:L3) (k:AV→Objs→Option R) (n:Nat):afun tau B gl0 X20 (ent 49 (e49 c49) gnil) ow Tryd.f20 [.agg [.list 82 ty82 p0,.list 85 ty85 p1,.list 91 ty91 p2],.c (.list 3 ty3 p3),.c (.list 3 ty3 p4)] [] k n=T20 B c49 p0 p1 p2 p3 p4 (fun s=>aloop tau B gl0 X20 (ent 49 (e49 c49) gnil) ow [] Tryd.f20 k (I20 s) (E20 p0 p1 p2 p3 p4 s) n) (K26 k) none:=by kernel_rfl
theorem el20 {R:Type} (B:Ops) (c49:C49) (p0:L82) (p1:L85) (p2:L91) (p3:L3) (p4:L3) (k:AV→Objs→Option R) (n:Nat):∀ s,aloop tau B gl0 X20 (ent 49 (e49 c49) gnil) ow [] Tryd.f20 k (I20 s) (E20 p0 p1 p2 p3 p4 s) (n+1)=T20 B c49 p0 p1 p2 p3 p4 (fun s=>aloop tau B gl0 X20 (ent 49 (e49 c49) gnil) ow [] Tryd.f20 k (I20 s) (E20 p0 p1 p2 p3 p4 s) n) (K26 k) (some s):=by
 intro s
 cases s<;>kernel_rfl
theorem nt20 {R R':Type} (B:Ops) (c49:C49) (p0:L82) (p1:L85) (p2:L91) (p3:L3) (p4:L3) (again:S20→Option R) (again':S20→Option R') (k0:(L100×L100)→Option R') (k:R'→Option R) (h:∀ s,again s=ob (again' s) k):∀ s,T20 B c49 p0 p1 p2 p3 p4 again (fun y=>ob (k0 y) k) s=ob (T20 B c49 p0 p1 p2 p3 p4 again' k0 s) k:=by
 rintro (_ | x)
 all_goals try cases x
 all_goals (unfold T20;repeat' first | exact rfl | exact h _ | apply qaf | (apply qao;intro))
def R20 (c49:C49) (p0:L82) (p1:L85) (p2:L91) (p3:L3) (p4:L3):Nat→S20→Option (L100×L100)
 | 0,_=>none
 | n+1,s=>T20 Ops.std c49 p0 p1 p2 p3 p4 (R20 c49 p0 p1 p2 p3 p4 n) some (some s)
theorem rr20 {R:Type} (c49:C49) (p0:L82) (p1:L85) (p2:L91) (p3:L3) (p4:L3) (k:AV→Objs→Option R):∀ (n:Nat) (s:S20),aloop tau Ops.std gl0 X20 (ent 49 (e49 c49) gnil) ow [] Tryd.f20 k (I20 s) (E20 p0 p1 p2 p3 p4 s) n=ob (R20 c49 p0 p1 p2 p3 p4 n s) (K26 k)
 | 0,s=>by cases s<;>rfl
 | n+1,s=>by rw [el20];exact nt20 Ops.std c49 p0 p1 p2 p3 p4 _ _ some (K26 k) (rr20 c49 p0 p1 p2 p3 p4 k n) (some s)
def F20 (c49:C49) (p0:L82) (p1:L85) (p2:L91) (p3:L3) (p4:L3):Option (L100×L100):=T20 Ops.std c49 p0 p1 p2 p3 p4 (R20 c49 p0 p1 p2 p3 p4 1000000) some none
def e20 {R:Type} (c:L82→L85→L91→L3→L3→Option (L100×L100)):Ent R:=fun args objs k=>
 oCons args fun a0 l0=>oAgg a0 fun x0=>cCons x0 fun z0_0 w0_0=>cList 82 ty82 z0_0 fun p0=>cCons w0_0 fun z0_1 w0_1=>cList 85 ty85 z0_1 fun p1=>cCons w0_1 fun z0_2 w0_2=>cList 91 ty91 z0_2 fun p2=>cNil w0_2 <| oL l0 3 ty3 fun p3 l1=>oL l1 3 ty3 fun p4 l2=>oE l2 objs <| ob (c p0 p1 p2 p3 p4) (K26 k)
abbrev Sp20 (c:L82→L85→L91→L3→L3→Option (L100×L100)):Prop:=∀ (p0:L82) (p1:L85) (p2:L91) (p3:L3) (p4:L3) (y:L100×L100),c p0 p1 p2 p3 p4=some y→Spec Tryd.prog gl0 20 [.agg [.list 82 ty82 p0,.list 85 ty85 p1,.list 91 ty91 p2],.c (.list 3 ty3 p3),.c (.list 3 ty3 p4)] [] (.agg [.list 100 ty100 y.1,.list 100 ty100 y.2]) []
theorem ek20 {R:Type} {c:L82→L85→L91→L3→L3→Option (L100×L100)} (hs:Sp20 c):EOk 20 (e20 (R:=R) c):=fun args objs k r h=>by
 unfold e20 at h
 obtain ⟨a0,l0,rfl,q1⟩:=qal h
 obtain ⟨x0,rfl,q2⟩:=qav q1
 obtain ⟨z0_0,w0_0,rfl,q3⟩:=qab q2
 obtain ⟨p0,rfl,q4⟩:=qad q3
 obtain ⟨z0_1,w0_1,rfl,q5⟩:=qab q4
 obtain ⟨p1,rfl,q6⟩:=qad q5
 obtain ⟨z0_2,w0_2,rfl,q7⟩:=qab q6
 obtain ⟨p2,rfl,q8⟩:=qad q7
 obtain ⟨rfl,q9⟩:=qar q8
 obtain ⟨p3,l1,rfl,q12⟩:=qaw q9
 obtain ⟨p4,l2,rfl,q15⟩:=qaw q12
 obtain ⟨rfl,rfl,q17⟩:=qam q15
 exact qap (hs p0 p1 p2 p3 p4) q17
theorem sf20 {c49:C49} (h49:Sp49 c49):Sp20 (F20 c49):=fun p0 p1 p2 p3 p4 y hy=>by
 refine qaj (qae (ek49 h49) qai) 1000000 (fn:=Tryd.f20) (by kernel_rfl) (by kernel_rfl) (X:=X20) (by kernel_rfl) ?_
 rw [eq20]
 exact (nt20 Ops.std c49 p0 p1 p2 p3 p4 _ _ some (K26 k0) (rr20 c49 p0 p1 p2 p3 p4 k0 1000000) none).trans (by show ob (F20 c49 p0 p1 p2 p3 p4) _=_;rw [hy];rfl)
noncomputable def M20:L82→L85→L91→L3→L3→Option (L100×L100):=F20 M49
theorem sm20:Sp20 M20:=sf20 sm49
def X53:Aux:=⟨[],[]⟩
def T53 {R:Type} (B:Ops) (p0:L100) (p1:L100) (p2:Int) (k:(L3×L3×L3)→Option R):Option R:=cond (B.lt p2 (↑p0.length)) (cond (B.inb p2 p0.length) (k ((((p0.getD p2.toNat ty100.dflt).1).1,((p0.getD p2.toNat ty100.dflt).1).2,(p0.getD p2.toNat ty100.dflt).2))) none) (cond (B.inb (IntKind.wrap .i64 (p2-Nat.cast p0.length)) p1.length) (k ((((p1.getD (Int.toNat (IntKind.wrap .i64 (p2-Nat.cast p0.length))) ty100.dflt).1).1,((p1.getD (Int.toNat (IntKind.wrap .i64 (p2-Nat.cast p0.length))) ty100.dflt).1).2,(p1.getD (Int.toNat (IntKind.wrap .i64 (p2-Nat.cast p0.length))) ty100.dflt).2))) none)
abbrev K27 {R:Type} (k:AV→Objs→Option R) (y:(L3×L3×L3)):Option R:=k (.agg [.list 3 ty3 y.1,.list 3 ty3 y.2.1,.list 3 ty3 y.2.2]) []
theorem eq53 {R:Type} (B:Ops) (p0:L100) (p1:L100) (p2:Int) (k:AV→Objs→Option R) (n:Nat):afun tau B gl0 X53 gnil ow Tryd.f53 [.agg [.list 100 ty100 p0,.list 100 ty100 p1],.c (.int .i64 p2)] [] k n=T53 B p0 p1 p2 (K27 k):=by kernel_rfl
theorem nt53 {R R':Type} (B:Ops) (p0:L100) (p1:L100) (p2:Int) (k0:(L3×L3×L3)→Option R') (k:R'→Option R):T53 B p0 p1 p2 (fun y=>ob (k0 y) k)=ob (T53 B p0 p1 p2 k0) k:=by
 unfold T53
 repeat' first | exact rfl | apply qaf | (apply qao;intro)
def F53 (p0:L100) (p1:L100) (p2:Int):Option (L3×L3×L3):=T53 Ops.std p0 p1 p2 some
def e53 {R:Type} (c:L100→L100→Int→Option (L3×L3×L3)):Ent R:=fun args objs k=>
 oCons args fun a0 l0=>oAgg a0 fun x0=>cCons x0 fun z0_0 w0_0=>cList 100 ty100 z0_0 fun p0=>cCons w0_0 fun z0_1 w0_1=>cList 100 ty100 z0_1 fun p1=>cNil w0_1 <| oI l0 .i64 fun p2 l1=>oE l1 objs <| ob (c p0 p1 p2) (K27 k)
abbrev Sp53 (c:L100→L100→Int→Option (L3×L3×L3)):Prop:=∀ (p0:L100) (p1:L100) (p2:Int) (y:L3×L3×L3),c p0 p1 p2=some y→Spec Tryd.prog gl0 53 [.agg [.list 100 ty100 p0,.list 100 ty100 p1],.c (.int .i64 p2)] [] (.agg [.list 3 ty3 y.1,.list 3 ty3 y.2.1,.list 3 ty3 y.2.2]) []
theorem ek53 {R:Type} {c:L100→L100→Int→Option (L3×L3×L3)} (hs:Sp53 c):EOk 53 (e53 (R:=R) c):=fun args objs k r h=>by
 unfold e53 at h
 obtain ⟨a0,l0,rfl,q1⟩:=qal h
 obtain ⟨x0,rfl,q2⟩:=qav q1
 obtain ⟨z0_0,w0_0,rfl,q3⟩:=qab q2
 obtain ⟨p0,rfl,q4⟩:=qad q3
 obtain ⟨z0_1,w0_1,rfl,q5⟩:=qab q4
 obtain ⟨p1,rfl,q6⟩:=qad q5
 obtain ⟨rfl,q7⟩:=qar q6
 obtain ⟨p2,l1,rfl,q10⟩:=qau q7
 obtain ⟨rfl,rfl,q12⟩:=qam q10
 exact qap (hs p0 p1 p2) q12
theorem sf53:Sp53 (F53):=fun p0 p1 p2 y hy=>by
 refine qaj qai 1000000 (fn:=Tryd.f53) (by kernel_rfl) (by kernel_rfl) (X:=X53) (by kernel_rfl) ?_
 rw [eq53]
 exact (nt53 Ops.std p0 p1 p2 some (K27 k0)).trans (by show ob (F53 p0 p1 p2) _=_;rw [hy];rfl)
noncomputable def M53:L100→L100→Int→Option (L3×L3×L3):=F53
theorem sm53:Sp53 M53:=sf53
def X99:Aux:=⟨[(4,([0,1,4]++rg 6 78)),(9,([0,1,4,5]++rg 7 77))],[(6,.lin (rg 0 21)),(11,.lin (rg 0 26))]⟩
inductive S99 where
 | l0 (v0:Int)
 | l1 (v0:Int)
def T99 {R:Type} (B:Ops) (p0:L82) (p1:L85) (p2:L91) (p3:L3) (p4:L3) (again:S99→Option R) (k:(Bool)→Option R):Option S99→Option R | none=>cond (!B.eq (↑p3.length) (↑p1.length)) (k false) (cond (!B.eq (↑p4.length) (↑p0.length)) (k false) (again (.l0 0))) | some (.l0 v0)=>cond (B.lt v0 (↑p3.length)) (cond (B.inb v0 p3.length) (cond (B.lt (p3.getD v0.toNat ty3.dflt) (0)) (k false) (cond (B.inb v0 p3.length) (cond (B.inb v0 p1.length) (cond (B.le (Nat.cast (List.length ((p1.getD v0.toNat ty85.dflt).2))) (p3.getD v0.toNat ty3.dflt)) (k false) (again (.l0 (IntKind.wrap .i64 (v0+1))))) none) none)) none) (again (.l1 0)) | some (.l1 v0)=>cond (B.lt v0 (↑p4.length)) (cond (B.inb v0 p4.length) (cond (B.inb v0 p0.length) (cond (B.lt (p4.getD v0.toNat ty3.dflt) (((p0.getD v0.toNat ty82.dflt).2).1)) (k false) (cond (B.inb v0 p4.length) (cond (B.inb v0 p0.length) (cond (B.lt ((((p0.getD v0.toNat ty82.dflt).2).2).1) (p4.getD v0.toNat ty3.dflt)) (k false) (again (.l1 (IntKind.wrap .i64 (v0+1))))) none) none)) none) none) (k true)
def E99 (p0:L82) (p1:L85) (p2:L91) (p3:L3) (p4:L3):S99→List AV×Objs
 | .l0 v0=>(mk 84 [(2,.c (.ptr 2 0)),(3,.c (.ptr 3 0)),(5,.c (.int .i64 v0))],[(2,.box 40 [.list 82 ty82 p0,.list 85 ty85 p1,.list 91 ty91 p2]),(3,.box 97 [.list 3 ty3 p3,.list 3 ty3 p4])])
 | .l1 v0=>(mk 84 [(2,.c (.ptr 2 0)),(3,.c (.ptr 3 0)),(6,.c (.int .i64 v0))],[(2,.box 40 [.list 82 ty82 p0,.list 85 ty85 p1,.list 91 ty91 p2]),(3,.box 97 [.list 3 ty3 p3,.list 3 ty3 p4])])
def I99:S99→Nat
 | .l0 _=>0
 | .l1 _=>1
theorem eq99 {R:Type} (B:Ops) (p0:L82) (p1:L85) (p2:L91) (p3:L3) (p4:L3) (k:AV→Objs→Option R) (n:Nat):afun tau B gl0 X99 gnil ow Tryd.f99 [.agg [.list 82 ty82 p0,.list 85 ty85 p1,.list 91 ty91 p2],.agg [.list 3 ty3 p3,.list 3 ty3 p4]] [] k n=T99 B p0 p1 p2 p3 p4 (fun s=>aloop tau B gl0 X99 gnil ow [] Tryd.f99 k (I99 s) (E99 p0 p1 p2 p3 p4 s) n) (K1 k) none:=by kernel_rfl
theorem el99 {R:Type} (B:Ops) (p0:L82) (p1:L85) (p2:L91) (p3:L3) (p4:L3) (k:AV→Objs→Option R) (n:Nat):∀ s,aloop tau B gl0 X99 gnil ow [] Tryd.f99 k (I99 s) (E99 p0 p1 p2 p3 p4 s) (n+1)=T99 B p0 p1 p2 p3 p4 (fun s=>aloop tau B gl0 X99 gnil ow [] Tryd.f99 k (I99 s) (E99 p0 p1 p2 p3 p4 s) n) (K1 k) (some s):=by
 intro s
 cases s<;>kernel_rfl
theorem nt99 {R R':Type} (B:Ops) (p0:L82) (p1:L85) (p2:L91) (p3:L3) (p4:L3) (again:S99→Option R) (again':S99→Option R') (k0:(Bool)→Option R') (k:R'→Option R) (h:∀ s,again s=ob (again' s) k):∀ s,T99 B p0 p1 p2 p3 p4 again (fun y=>ob (k0 y) k) s=ob (T99 B p0 p1 p2 p3 p4 again' k0 s) k:=by
 rintro (_ | x)
 all_goals try cases x
 all_goals (unfold T99;repeat' first | exact rfl | exact h _ | apply qaf | (apply qao;intro))
def R99 (p0:L82) (p1:L85) (p2:L91) (p3:L3) (p4:L3):Nat→S99→Option (Bool)
 | 0,_=>none
 | n+1,s=>T99 Ops.std p0 p1 p2 p3 p4 (R99 p0 p1 p2 p3 p4 n) some (some s)
theorem rr99 {R:Type} (p0:L82) (p1:L85) (p2:L91) (p3:L3) (p4:L3) (k:AV→Objs→Option R):∀ (n:Nat) (s:S99),aloop tau Ops.std gl0 X99 gnil ow [] Tryd.f99 k (I99 s) (E99 p0 p1 p2 p3 p4 s) n=ob (R99 p0 p1 p2 p3 p4 n s) (K1 k)
 | 0,s=>by cases s<;>rfl
 | n+1,s=>by rw [el99];exact nt99 Ops.std p0 p1 p2 p3 p4 _ _ some (K1 k) (rr99 p0 p1 p2 p3 p4 k n) (some s)
def F99 (p0:L82) (p1:L85) (p2:L91) (p3:L3) (p4:L3):Option (Bool):=T99 Ops.std p0 p1 p2 p3 p4 (R99 p0 p1 p2 p3 p4 1000000) some none
def e99 {R:Type} (c:L82→L85→L91→L3→L3→Option (Bool)):Ent R:=fun args objs k=>
 oCons args fun a0 l0=>oAgg a0 fun x0=>cCons x0 fun z0_0 w0_0=>cList 82 ty82 z0_0 fun p0=>cCons w0_0 fun z0_1 w0_1=>cList 85 ty85 z0_1 fun p1=>cCons w0_1 fun z0_2 w0_2=>cList 91 ty91 z0_2 fun p2=>cNil w0_2 <| oCons l0 fun a1 l1=>oAgg a1 fun x1=>cCons x1 fun z1_0 w1_0=>cList 3 ty3 z1_0 fun p3=>cCons w1_0 fun z1_1 w1_1=>cList 3 ty3 z1_1 fun p4=>cNil w1_1 <| oE l1 objs <| ob (c p0 p1 p2 p3 p4) (K1 k)
abbrev Sp99 (c:L82→L85→L91→L3→L3→Option (Bool)):Prop:=∀ (p0:L82) (p1:L85) (p2:L91) (p3:L3) (p4:L3) (y:Bool),c p0 p1 p2 p3 p4=some y→Spec Tryd.prog gl0 99 [.agg [.list 82 ty82 p0,.list 85 ty85 p1,.list 91 ty91 p2],.agg [.list 3 ty3 p3,.list 3 ty3 p4]] [] (.c (.bool y)) []
theorem ek99 {R:Type} {c:L82→L85→L91→L3→L3→Option (Bool)} (hs:Sp99 c):EOk 99 (e99 (R:=R) c):=fun args objs k r h=>by
 unfold e99 at h
 obtain ⟨a0,l0,rfl,q1⟩:=qal h
 obtain ⟨x0,rfl,q2⟩:=qav q1
 obtain ⟨z0_0,w0_0,rfl,q3⟩:=qab q2
 obtain ⟨p0,rfl,q4⟩:=qad q3
 obtain ⟨z0_1,w0_1,rfl,q5⟩:=qab q4
 obtain ⟨p1,rfl,q6⟩:=qad q5
 obtain ⟨z0_2,w0_2,rfl,q7⟩:=qab q6
 obtain ⟨p2,rfl,q8⟩:=qad q7
 obtain ⟨rfl,q9⟩:=qar q8
 obtain ⟨a1,l1,rfl,q10⟩:=qal q9
 obtain ⟨x1,rfl,q11⟩:=qav q10
 obtain ⟨z1_0,w1_0,rfl,q12⟩:=qab q11
 obtain ⟨p3,rfl,q13⟩:=qad q12
 obtain ⟨z1_1,w1_1,rfl,q14⟩:=qab q13
 obtain ⟨p4,rfl,q15⟩:=qad q14
 obtain ⟨rfl,q16⟩:=qar q15
 obtain ⟨rfl,rfl,q18⟩:=qam q16
 exact qap (hs p0 p1 p2 p3 p4) q18
theorem sf99:Sp99 (F99):=fun p0 p1 p2 p3 p4 y hy=>by
 refine qaj qai 1000000 (fn:=Tryd.f99) (by kernel_rfl) (by kernel_rfl) (X:=X99) (by kernel_rfl) ?_
 rw [eq99]
 exact (nt99 Ops.std p0 p1 p2 p3 p4 _ _ some (K1 k0) (rr99 p0 p1 p2 p3 p4 k0 1000000) none).trans (by show ob (F99 p0 p1 p2 p3 p4) _=_;rw [hy];rfl)
noncomputable def M99:L82→L85→L91→L3→L3→Option (Bool):=F99
theorem sm99:Sp99 M99:=sf99
def X82:Aux:=⟨[],[]⟩
abbrev C99:Type:=L82→L85→L91→L3→L3→Option (Bool)
def T82 {R:Type} (B:Ops) (c18:C18) (c99:C99) (p0:L82) (p1:L85) (p2:L91) (p3:L3) (p4:L3) (k:(Bool)→Option R):Option R:=ob (c18 p0 p1 p2) fun y0=>cond (!y0) (k false) (ob (c99 p0 p1 p2 p3 p4) fun y1=>k y1)
theorem eq82 {R:Type} (B:Ops) (c18:C18) (c99:C99) (p0:L82) (p1:L85) (p2:L91) (p3:L3) (p4:L3) (k:AV→Objs→Option R) (n:Nat):afun tau B gl0 X82 (ent 18 (e18 c18) (ent 99 (e99 c99) gnil)) ow Tryd.f82 [.agg [.list 82 ty82 p0,.list 85 ty85 p1,.list 91 ty91 p2],.agg [.list 3 ty3 p3,.list 3 ty3 p4]] [] k n=T82 B c18 c99 p0 p1 p2 p3 p4 (K1 k):=by kernel_rfl
theorem nt82 {R R':Type} (B:Ops) (c18:C18) (c99:C99) (p0:L82) (p1:L85) (p2:L91) (p3:L3) (p4:L3) (k0:(Bool)→Option R') (k:R'→Option R):T82 B c18 c99 p0 p1 p2 p3 p4 (fun y=>ob (k0 y) k)=ob (T82 B c18 c99 p0 p1 p2 p3 p4 k0) k:=by
 unfold T82
 repeat' first | exact rfl | apply qaf | (apply qao;intro)
def F82 (c18:C18) (c99:C99) (p0:L82) (p1:L85) (p2:L91) (p3:L3) (p4:L3):Option (Bool):=T82 Ops.std c18 c99 p0 p1 p2 p3 p4 some
def e82 {R:Type} (c:L82→L85→L91→L3→L3→Option (Bool)):Ent R:=fun args objs k=>
 oCons args fun a0 l0=>oAgg a0 fun x0=>cCons x0 fun z0_0 w0_0=>cList 82 ty82 z0_0 fun p0=>cCons w0_0 fun z0_1 w0_1=>cList 85 ty85 z0_1 fun p1=>cCons w0_1 fun z0_2 w0_2=>cList 91 ty91 z0_2 fun p2=>cNil w0_2 <| oCons l0 fun a1 l1=>oAgg a1 fun x1=>cCons x1 fun z1_0 w1_0=>cList 3 ty3 z1_0 fun p3=>cCons w1_0 fun z1_1 w1_1=>cList 3 ty3 z1_1 fun p4=>cNil w1_1 <| oE l1 objs <| ob (c p0 p1 p2 p3 p4) (K1 k)
abbrev Sp82 (c:L82→L85→L91→L3→L3→Option (Bool)):Prop:=∀ (p0:L82) (p1:L85) (p2:L91) (p3:L3) (p4:L3) (y:Bool),c p0 p1 p2 p3 p4=some y→Spec Tryd.prog gl0 82 [.agg [.list 82 ty82 p0,.list 85 ty85 p1,.list 91 ty91 p2],.agg [.list 3 ty3 p3,.list 3 ty3 p4]] [] (.c (.bool y)) []
theorem ek82 {R:Type} {c:L82→L85→L91→L3→L3→Option (Bool)} (hs:Sp82 c):EOk 82 (e82 (R:=R) c):=fun args objs k r h=>by
 unfold e82 at h
 obtain ⟨a0,l0,rfl,q1⟩:=qal h
 obtain ⟨x0,rfl,q2⟩:=qav q1
 obtain ⟨z0_0,w0_0,rfl,q3⟩:=qab q2
 obtain ⟨p0,rfl,q4⟩:=qad q3
 obtain ⟨z0_1,w0_1,rfl,q5⟩:=qab q4
 obtain ⟨p1,rfl,q6⟩:=qad q5
 obtain ⟨z0_2,w0_2,rfl,q7⟩:=qab q6
 obtain ⟨p2,rfl,q8⟩:=qad q7
 obtain ⟨rfl,q9⟩:=qar q8
 obtain ⟨a1,l1,rfl,q10⟩:=qal q9
 obtain ⟨x1,rfl,q11⟩:=qav q10
 obtain ⟨z1_0,w1_0,rfl,q12⟩:=qab q11
 obtain ⟨p3,rfl,q13⟩:=qad q12
 obtain ⟨z1_1,w1_1,rfl,q14⟩:=qab q13
 obtain ⟨p4,rfl,q15⟩:=qad q14
 obtain ⟨rfl,q16⟩:=qar q15
 obtain ⟨rfl,rfl,q18⟩:=qam q16
 exact qap (hs p0 p1 p2 p3 p4) q18
theorem sf82 {c18:C18} {c99:C99} (h18:Sp18 c18) (h99:Sp99 c99):Sp82 (F82 c18 c99):=fun p0 p1 p2 p3 p4 y hy=>by
 refine qaj (qae (ek18 h18) (qae (ek99 h99) qai)) 1000000 (fn:=Tryd.f82) (by kernel_rfl) (by kernel_rfl) (X:=X82) (by kernel_rfl) ?_
 rw [eq82]
 exact (nt82 Ops.std c18 c99 p0 p1 p2 p3 p4 some (K1 k0)).trans (by show ob (F82 c18 c99 p0 p1 p2 p3 p4) _=_;rw [hy];rfl)
noncomputable def M82:L82→L85→L91→L3→L3→Option (Bool):=F82 M18 M99
theorem sm82:Sp82 M82:=sf82 sm18 sm99
def X50:Aux:=⟨[(4,([0,1,4]++rg 6 37))],[(6,.lin [0,1,2,3,4,5,6])]⟩
inductive S50 where
 | l0 (v0:Int)
abbrev C53:Type:=L100→L100→Int→Option (L3×L3×L3)
abbrev C82:Type:=L82→L85→L91→L3→L3→Option (Bool)
def T50 {R:Type} (B:Ops) (c18:C18) (c53:C53) (c82:C82) (p0:L82) (p1:L85) (p2:L91) (p3:L100) (p4:L100) (again:S50→Option R) (k:(Bool)→Option R):Option S50→Option R | none=>ob (c18 p0 p1 p2) fun y0=>cond (!y0) (k false) (cond (B.lt (↑p4.length) (1)) (k false) (cond (B.lt (2000) (IntKind.wrap .i64 (Nat.cast p3.length+Nat.cast p4.length))) (k false) (again (.l0 0)))) | some (.l0 v0)=>cond (B.lt v0 (IntKind.wrap .i64 (Nat.cast p3.length+Nat.cast p4.length))) (ob (c53 p3 p4 v0) fun y0=>ob (c82 p0 p1 p2 y0.1 y0.2.1) fun y1=>cond (!y1) (k false) (again (.l0 (IntKind.wrap .i64 (v0+1))))) (k true)
def E50 (p0:L82) (p1:L85) (p2:L91) (p3:L100) (p4:L100):S50→List AV×Objs
 | .l0 v0=>(mk 43 [(2,.c (.ptr 2 0)),(3,.c (.ptr 3 0)),(5,.c (.int .i64 v0))],[(2,.box 40 [.list 82 ty82 p0,.list 85 ty85 p1,.list 91 ty91 p2]),(3,.box 50 [.list 100 ty100 p3,.list 100 ty100 p4])])
def I50:S50→Nat
 | .l0 _=>0
theorem eq50 {R:Type} (B:Ops) (c18:C18) (c53:C53) (c82:C82) (p0:L82) (p1:L85) (p2:L91) (p3:L100) (p4:L100) (k:AV→Objs→Option R) (n:Nat):afun tau B gl0 X50 (ent 18 (e18 c18) (ent 53 (e53 c53) (ent 82 (e82 c82) gnil))) ow Tryd.f50 [.agg [.list 82 ty82 p0,.list 85 ty85 p1,.list 91 ty91 p2],.agg [.list 100 ty100 p3,.list 100 ty100 p4]] [] k n=T50 B c18 c53 c82 p0 p1 p2 p3 p4 (fun s=>aloop tau B gl0 X50 (ent 18 (e18 c18) (ent 53 (e53 c53) (ent 82 (e82 c82) gnil))) ow [] Tryd.f50 k (I50 s) (E50 p0 p1 p2 p3 p4 s) n) (K1 k) none:=by kernel_rfl
theorem el50 {R:Type} (B:Ops) (c18:C18) (c53:C53) (c82:C82) (p0:L82) (p1:L85) (p2:L91) (p3:L100) (p4:L100) (k:AV→Objs→Option R) (n:Nat):∀ s,aloop tau B gl0 X50 (ent 18 (e18 c18) (ent 53 (e53 c53) (ent 82 (e82 c82) gnil))) ow [] Tryd.f50 k (I50 s) (E50 p0 p1 p2 p3 p4 s) (n+1)=T50 B c18 c53 c82 p0 p1 p2 p3 p4 (fun s=>aloop tau B gl0 X50 (ent 18 (e18 c18) (ent 53 (e53 c53) (ent 82 (e82 c82) gnil))) ow [] Tryd.f50 k (I50 s) (E50 p0 p1 p2 p3 p4 s) n) (K1 k) (some s):=by
 intro s
 cases s<;>kernel_rfl
theorem nt50 {R R':Type} (B:Ops) (c18:C18) (c53:C53) (c82:C82) (p0:L82) (p1:L85) (p2:L91) (p3:L100) (p4:L100) (again:S50→Option R) (again':S50→Option R') (k0:(Bool)→Option R') (k:R'→Option R) (h:∀ s,again s=ob (again' s) k):∀ s,T50 B c18 c53 c82 p0 p1 p2 p3 p4 again (fun y=>ob (k0 y) k) s=ob (T50 B c18 c53 c82 p0 p1 p2 p3 p4 again' k0 s) k:=by
 rintro (_ | x)
 all_goals try cases x
 all_goals (unfold T50;repeat' first | exact rfl | exact h _ | apply qaf | (apply qao;intro))
def R50 (c18:C18) (c53:C53) (c82:C82) (p0:L82) (p1:L85) (p2:L91) (p3:L100) (p4:L100):Nat→S50→Option (Bool)
 | 0,_=>none
 | n+1,s=>T50 Ops.std c18 c53 c82 p0 p1 p2 p3 p4 (R50 c18 c53 c82 p0 p1 p2 p3 p4 n) some (some s)
theorem rr50 {R:Type} (c18:C18) (c53:C53) (c82:C82) (p0:L82) (p1:L85) (p2:L91) (p3:L100) (p4:L100) (k:AV→Objs→Option R):∀ (n:Nat) (s:S50),aloop tau Ops.std gl0 X50 (ent 18 (e18 c18) (ent 53 (e53 c53) (ent 82 (e82 c82) gnil))) ow [] Tryd.f50 k (I50 s) (E50 p0 p1 p2 p3 p4 s) n=ob (R50 c18 c53 c82 p0 p1 p2 p3 p4 n s) (K1 k)
 | 0,s=>by cases s<;>rfl
 | n+1,s=>by rw [el50];exact nt50 Ops.std c18 c53 c82 p0 p1 p2 p3 p4 _ _ some (K1 k) (rr50 c18 c53 c82 p0 p1 p2 p3 p4 k n) (some s)
def F50 (c18:C18) (c53:C53) (c82:C82) (p0:L82) (p1:L85) (p2:L91) (p3:L100) (p4:L100):Option (Bool):=T50 Ops.std c18 c53 c82 p0 p1 p2 p3 p4 (R50 c18 c53 c82 p0 p1 p2 p3 p4 1000000) some none
def e50 {R:Type} (c:L82→L85→L91→L100→L100→Option (Bool)):Ent R:=fun args objs k=>
 oCons args fun a0 l0=>oAgg a0 fun x0=>cCons x0 fun z0_0 w0_0=>cList 82 ty82 z0_0 fun p0=>cCons w0_0 fun z0_1 w0_1=>cList 85 ty85 z0_1 fun p1=>cCons w0_1 fun z0_2 w0_2=>cList 91 ty91 z0_2 fun p2=>cNil w0_2 <| oCons l0 fun a1 l1=>oAgg a1 fun x1=>cCons x1 fun z1_0 w1_0=>cList 100 ty100 z1_0 fun p3=>cCons w1_0 fun z1_1 w1_1=>cList 100 ty100 z1_1 fun p4=>cNil w1_1 <| oE l1 objs <| ob (c p0 p1 p2 p3 p4) (K1 k)
abbrev Sp50 (c:L82→L85→L91→L100→L100→Option (Bool)):Prop:=∀ (p0:L82) (p1:L85) (p2:L91) (p3:L100) (p4:L100) (y:Bool),c p0 p1 p2 p3 p4=some y→Spec Tryd.prog gl0 50 [.agg [.list 82 ty82 p0,.list 85 ty85 p1,.list 91 ty91 p2],.agg [.list 100 ty100 p3,.list 100 ty100 p4]] [] (.c (.bool y)) []
theorem ek50 {R:Type} {c:L82→L85→L91→L100→L100→Option (Bool)} (hs:Sp50 c):EOk 50 (e50 (R:=R) c):=fun args objs k r h=>by
 unfold e50 at h
 obtain ⟨a0,l0,rfl,q1⟩:=qal h
 obtain ⟨x0,rfl,q2⟩:=qav q1
 obtain ⟨z0_0,w0_0,rfl,q3⟩:=qab q2
 obtain ⟨p0,rfl,q4⟩:=qad q3
 obtain ⟨z0_1,w0_1,rfl,q5⟩:=qab q4
 obtain ⟨p1,rfl,q6⟩:=qad q5
 obtain ⟨z0_2,w0_2,rfl,q7⟩:=qab q6
 obtain ⟨p2,rfl,q8⟩:=qad q7
 obtain ⟨rfl,q9⟩:=qar q8
 obtain ⟨a1,l1,rfl,q10⟩:=qal q9
 obtain ⟨x1,rfl,q11⟩:=qav q10
 obtain ⟨z1_0,w1_0,rfl,q12⟩:=qab q11
 obtain ⟨p3,rfl,q13⟩:=qad q12
 obtain ⟨z1_1,w1_1,rfl,q14⟩:=qab q13
 obtain ⟨p4,rfl,q15⟩:=qad q14
 obtain ⟨rfl,q16⟩:=qar q15
 obtain ⟨rfl,rfl,q18⟩:=qam q16
 exact qap (hs p0 p1 p2 p3 p4) q18
theorem sf50 {c18:C18} {c53:C53} {c82:C82} (h18:Sp18 c18) (h53:Sp53 c53) (h82:Sp82 c82):Sp50 (F50 c18 c53 c82):=fun p0 p1 p2 p3 p4 y hy=>by
 refine qaj (qae (ek18 h18) (qae (ek53 h53) (qae (ek82 h82) qai))) 1000000 (fn:=Tryd.f50) (by kernel_rfl) (by kernel_rfl) (X:=X50) (by kernel_rfl) ?_
 rw [eq50]
 exact (nt50 Ops.std c18 c53 c82 p0 p1 p2 p3 p4 _ _ some (K1 k0) (rr50 c18 c53 c82 p0 p1 p2 p3 p4 k0 1000000) none).trans (by show ob (F50 c18 c53 c82 p0 p1 p2 p3 p4) _=_;rw [hy];rfl)
noncomputable def M50:L82→L85→L91→L100→L100→Option (Bool):=F50 M18 M53 M82
theorem sm50:Sp50 M50:=sf50 sm18 sm53 sm82
def X83:Aux:=⟨[],[]⟩
def T83 {R:Type} (B:Ops) (p0:Int) (k:(Int)→Option R):Option R:=k (bif true then bif B.lt (-99999) (bif false then bif B.lt (99999) p0 then p0 else 99999 else bif B.lt p0 (99999) then p0 else 99999) then bif false then bif B.lt (99999) p0 then p0 else 99999 else bif B.lt p0 (99999) then p0 else 99999 else -99999 else bif B.lt (bif false then bif B.lt (99999) p0 then p0 else 99999 else bif B.lt p0 (99999) then p0 else 99999) (-99999) then bif false then bif B.lt (99999) p0 then p0 else 99999 else bif B.lt p0 (99999) then p0 else 99999 else -99999)
theorem eq83 {R:Type} (B:Ops) (p0:Int) (k:AV→Objs→Option R) (n:Nat):afun tau B gl0 X83 gnil ow Tryd.f83 [.c (.int .i64 p0)] [] k n=T83 B p0 (K3 k):=by kernel_rfl
theorem nt83 {R R':Type} (B:Ops) (p0:Int) (k0:(Int)→Option R') (k:R'→Option R):T83 B p0 (fun y=>ob (k0 y) k)=ob (T83 B p0 k0) k:=by
 unfold T83
 repeat' first | exact rfl | apply qaf | (apply qao;intro)
def F83 (p0:Int):Option (Int):=T83 Ops.std p0 some
def e83 {R:Type} (c:Int→Option (Int)):Ent R:=fun args objs k=>
 oI args .i64 fun p0 l0=>oE l0 objs <| ob (c p0) (K3 k)
abbrev Sp83 (c:Int→Option (Int)):Prop:=∀ (p0:Int) (y:Int),c p0=some y→Spec Tryd.prog gl0 83 [.c (.int .i64 p0)] [] (.c (.int .i64 y)) []
theorem ek83 {R:Type} {c:Int→Option (Int)} (hs:Sp83 c):EOk 83 (e83 (R:=R) c):=fun args objs k r h=>by
 unfold e83 at h
 obtain ⟨p0,l0,rfl,q3⟩:=qau h
 obtain ⟨rfl,rfl,q5⟩:=qam q3
 exact qap (hs p0) q5
theorem sf83:Sp83 (F83):=fun p0 y hy=>by
 refine qaj qai 1000000 (fn:=Tryd.f83) (by kernel_rfl) (by kernel_rfl) (X:=X83) (by kernel_rfl) ?_
 rw [eq83]
 exact (nt83 Ops.std p0 some (K3 k0)).trans (by show ob (F83 p0) _=_;rw [hy];rfl)
noncomputable def M83:Int→Option (Int):=F83
theorem sm83:Sp83 M83:=sf83
def X84:Aux:=⟨[],[]⟩
def T84 {R:Type} (B:Ops) (p0:Bool) (k:(Int)→Option R):Option R:=cond (p0) (k 1) (k 0)
theorem eq84 {R:Type} (B:Ops) (p0:Bool) (k:AV→Objs→Option R) (n:Nat):afun tau B gl0 X84 gnil ow Tryd.f84 [.c (.bool p0)] [] k n=T84 B p0 (K3 k):=by kernel_rfl
theorem nt84 {R R':Type} (B:Ops) (p0:Bool) (k0:(Int)→Option R') (k:R'→Option R):T84 B p0 (fun y=>ob (k0 y) k)=ob (T84 B p0 k0) k:=by
 unfold T84
 repeat' first | exact rfl | apply qaf | (apply qao;intro)
def F84 (p0:Bool):Option (Int):=T84 Ops.std p0 some
def e84 {R:Type} (c:Bool→Option (Int)):Ent R:=fun args objs k=>
 oCons args fun a0 l0=>oC a0 fun x0=>cBool x0 fun p0=>oE l0 objs <| ob (c p0) (K3 k)
abbrev Sp84 (c:Bool→Option (Int)):Prop:=∀ (p0:Bool) (y:Int),c p0=some y→Spec Tryd.prog gl0 84 [.c (.bool p0)] [] (.c (.int .i64 y)) []
theorem ek84 {R:Type} {c:Bool→Option (Int)} (hs:Sp84 c):EOk 84 (e84 (R:=R) c):=fun args objs k r h=>by
 unfold e84 at h
 obtain ⟨a0,l0,rfl,q1⟩:=qal h
 obtain ⟨x0,rfl,q2⟩:=qa6 q1
 obtain ⟨p0,rfl,q3⟩:=qcw q2
 obtain ⟨rfl,rfl,q5⟩:=qam q3
 exact qap (hs p0) q5
theorem sf84:Sp84 (F84):=fun p0 y hy=>by
 refine qaj qai 1000000 (fn:=Tryd.f84) (by kernel_rfl) (by kernel_rfl) (X:=X84) (by kernel_rfl) ?_
 rw [eq84]
 exact (nt84 Ops.std p0 some (K3 k0)).trans (by show ob (F84 p0) _=_;rw [hy];rfl)
noncomputable def M84:Bool→Option (Int):=F84
theorem sm84:Sp84 M84:=sf84
def X85:Aux:=⟨[],[]⟩
abbrev C83:Type:=Int→Option (Int)
abbrev C84:Type:=Bool→Option (Int)
def T85 {R:Type} (B:Ops) (c83:C83) (c84:C84) (p0:Int) (p1:Int) (p2:Int) (k:(Int)→Option R):Option R:=cond (B.eq p0 (6)) (ob (c83 (IntKind.wrap .i64 (p1*p2))) fun y0=>k y0) (cond (B.eq p0 (7)) (ob (c83 (IntKind.wrap .i64 (p1+p2))) fun y0=>k y0) (cond (B.eq p0 (8)) (ob (c83 (IntKind.wrap .i64 (p1-p2))) fun y0=>k y0) (cond (B.eq p0 (9)) (ob (c84 (B.lt p1 p2)) fun y0=>k y0) (cond (B.eq p0 (10)) (ob (c84 (B.le p1 p2)) fun y0=>k y0) (cond (B.eq p0 (11)) (ob (c84 (B.lt p2 p1)) fun y0=>k y0) (cond (B.eq p0 (12)) (ob (c84 (B.le p2 p1)) fun y0=>k y0) (cond (B.eq p0 (13)) (ob (c84 (B.eq p1 p2)) fun y0=>k y0) (cond (B.eq p0 (14)) (ob (c84 !B.eq p1 p2) fun y0=>k y0) (cond (B.eq p0 (15)) (cond (!B.eq p1 (0)) (ob (c84 !B.eq p2 (0)) fun y0=>k y0) (ob (c84 false) fun y0=>k y0)) (cond (!B.eq p1 (0)) (ob (c84 true) fun y0=>k y0) (ob (c84 !B.eq p2 (0)) fun y0=>k y0)))))))))))
theorem eq85 {R:Type} (B:Ops) (c83:C83) (c84:C84) (p0:Int) (p1:Int) (p2:Int) (k:AV→Objs→Option R) (n:Nat):afun tau B gl0 X85 (ent 83 (e83 c83) (ent 84 (e84 c84) gnil)) ow Tryd.f85 [.c (.int .i64 p0),.c (.int .i64 p1),.c (.int .i64 p2)] [] k n=T85 B c83 c84 p0 p1 p2 (K3 k):=by kernel_rfl
theorem nt85 {R R':Type} (B:Ops) (c83:C83) (c84:C84) (p0:Int) (p1:Int) (p2:Int) (k0:(Int)→Option R') (k:R'→Option R):T85 B c83 c84 p0 p1 p2 (fun y=>ob (k0 y) k)=ob (T85 B c83 c84 p0 p1 p2 k0) k:=by
 unfold T85
 repeat' first | exact rfl | apply qaf | (apply qao;intro)
def F85 (c83:C83) (c84:C84) (p0:Int) (p1:Int) (p2:Int):Option (Int):=T85 Ops.std c83 c84 p0 p1 p2 some
def e85 {R:Type} (c:Int→Int→Int→Option (Int)):Ent R:=fun args objs k=>
 oI args .i64 fun p0 l0=>oI l0 .i64 fun p1 l1=>oI l1 .i64 fun p2 l2=>oE l2 objs <| ob (c p0 p1 p2) (K3 k)
abbrev Sp85 (c:Int→Int→Int→Option (Int)):Prop:=∀ (p0:Int) (p1:Int) (p2:Int) (y:Int),c p0 p1 p2=some y→Spec Tryd.prog gl0 85 [.c (.int .i64 p0),.c (.int .i64 p1),.c (.int .i64 p2)] [] (.c (.int .i64 y)) []
theorem ek85 {R:Type} {c:Int→Int→Int→Option (Int)} (hs:Sp85 c):EOk 85 (e85 (R:=R) c):=fun args objs k r h=>by
 unfold e85 at h
 obtain ⟨p0,l0,rfl,q3⟩:=qau h
 obtain ⟨p1,l1,rfl,q6⟩:=qau q3
 obtain ⟨p2,l2,rfl,q9⟩:=qau q6
 obtain ⟨rfl,rfl,q11⟩:=qam q9
 exact qap (hs p0 p1 p2) q11
theorem sf85 {c83:C83} {c84:C84} (h83:Sp83 c83) (h84:Sp84 c84):Sp85 (F85 c83 c84):=fun p0 p1 p2 y hy=>by
 refine qaj (qae (ek83 h83) (qae (ek84 h84) qai)) 1000000 (fn:=Tryd.f85) (by kernel_rfl) (by kernel_rfl) (X:=X85) (by kernel_rfl) ?_
 rw [eq85]
 exact (nt85 Ops.std c83 c84 p0 p1 p2 some (K3 k0)).trans (by show ob (F85 c83 c84 p0 p1 p2) _=_;rw [hy];rfl)
noncomputable def M85:Int→Int→Int→Option (Int):=F85 M83 M84
theorem sm85:Sp85 M85:=sf85 sm83 sm84
def X52:Aux:=⟨[(5,([0,1,5,6]++rg 9 148))],[(16,.lin (rg 0 13)),(19,.lin (rg 0 16)),(23,.lin (rg 0 16)),(27,.lin (rg 0 16)),(12,.lin (rg 0 22))]⟩
inductive S52 where
 | l0 (v1:Int) (v7:L3)
abbrev C85:Type:=Int→Int→Int→Option (Int)
def T52 {R:Type} (B:Ops) (c47:C47) (c79:C79) (c83:C83) (c75:C75) (c78:C78) (c84:C84) (c85:C85) (p0:L82) (p1:L85) (p2:L91) (p3:L3) (p4:L3) (p5:L140) (again:S52→Option R) (k:(Int)→Option R):Option S52→Option R | none=>ob (c47 p0 p1 p2 p5) fun y0=>cond (!y0) (k 0) (cond (!B.eq (↑p3.length) (↑p1.length)) (k 0) (cond (!B.eq (↑p4.length) (↑p0.length)) (k 0) (again (.l0 0 (mt (Ty.den (Ty.int .i64))))))) | some (.l0 v1 v7)=>cond (B.lt v1 (↑p5.length)) (cond (B.inb v1 p5.length) (cond (B.eq ((p5.getD v1.toNat ty140.dflt).1) (1)) (cond (B.lim (List.length v7+List.length (((p5.getD v1.toNat ty140.dflt).2).1::mt (Ty.den (Ty.int .i64)))) (8)) (again (.l0 (IntKind.wrap .i64 (v1+1)) (v7++((p5.getD v1.toNat ty140.dflt).2).1::mt (Ty.den (Ty.int .i64))))) none) (cond (B.eq ((p5.getD v1.toNat ty140.dflt).1) (2)) (ob (c79 p0 p1 p2 ((((p5.getD v1.toNat ty140.dflt).2).2).1)) fun y0=>cond (B.inb y0 p4.length) (ob (c83 (p4.getD y0.toNat ty3.dflt)) fun y1=>cond (B.lim (List.length v7+List.length (y1::mt (Ty.den (Ty.int .i64)))) (8)) (again (.l0 (IntKind.wrap .i64 (v1+1)) (v7++y1::mt (Ty.den (Ty.int .i64))))) none) none) (cond (B.eq ((p5.getD v1.toNat ty140.dflt).1) (3)) (ob (c75 p0 p1 p2 ((((p5.getD v1.toNat ty140.dflt).2).2).1)) fun y0=>cond (B.inb y0 p3.length) (ob (c78 p0 p1 p2 y0 ((((p5.getD v1.toNat ty140.dflt).2).2).2)) fun y1=>ob (c84 (B.eq (p3.getD y0.toNat ty3.dflt) y1)) fun y2=>cond (B.lim (List.length v7+List.length (y2::mt (Ty.den (Ty.int .i64)))) (8)) (again (.l0 (IntKind.wrap .i64 (v1+1)) (v7++y2::mt (Ty.den (Ty.int .i64))))) none) none) (cond (B.eq ((p5.getD v1.toNat ty140.dflt).1) (4)) (cond (B.lt (↑v7.length) (1)) (k 0) (cond (B.eq (IntKind.wrap .i64 (Nat.cast v7.length-1)) (IntKind.wrap .i64 (Nat.cast v7.length-1))) (cond (B.inb (IntKind.wrap .i64 (Nat.cast v7.length-1)) (List.length v7+1)) (cond (B.inb (IntKind.wrap .i64 (Nat.cast v7.length-1)) v7.length) (ob (c84 (B.eq (v7.getD (Int.toNat (IntKind.wrap .i64 (Nat.cast v7.length-1))) ty3.dflt) (0))) fun y0=>cond (B.lt (0) (Nat.cast (List.length (y0::mt (Ty.den (Ty.int .i64)))))) (cond (B.lim (List.length (List.take (Int.toNat (IntKind.wrap .i64 (Nat.cast v7.length-1))) v7)+List.length (y0::mt (Ty.den (Ty.int .i64)))) (8)) (again (.l0 (IntKind.wrap .i64 (v1+1)) (List.take (Int.toNat (IntKind.wrap .i64 (Nat.cast v7.length-1))) v7++y0::mt (Ty.den (Ty.int .i64))))) none) none) none) none) none)) (cond (B.eq ((p5.getD v1.toNat ty140.dflt).1) (5)) (cond (B.lt (↑v7.length) (1)) (k 0) (cond (B.eq (IntKind.wrap .i64 (Nat.cast v7.length-1)) (IntKind.wrap .i64 (Nat.cast v7.length-1))) (cond (B.inb (IntKind.wrap .i64 (Nat.cast v7.length-1)) (List.length v7+1)) (cond (B.inb (IntKind.wrap .i64 (Nat.cast v7.length-1)) v7.length) (ob (c83 (IntKind.wrap .i64 (0-v7.getD (Int.toNat (IntKind.wrap .i64 (Nat.cast v7.length-1))) ty3.dflt))) fun y0=>cond (B.lt (0) (Nat.cast (List.length (y0::mt (Ty.den (Ty.int .i64)))))) (cond (B.lim (List.length (List.take (Int.toNat (IntKind.wrap .i64 (Nat.cast v7.length-1))) v7)+List.length (y0::mt (Ty.den (Ty.int .i64)))) (8)) (again (.l0 (IntKind.wrap .i64 (v1+1)) (List.take (Int.toNat (IntKind.wrap .i64 (Nat.cast v7.length-1))) v7++y0::mt (Ty.den (Ty.int .i64))))) none) none) none) none) none)) (cond (B.lt (↑v7.length) (2)) (k 0) (cond (B.eq (IntKind.wrap .i64 (Nat.cast v7.length-2)) (IntKind.wrap .i64 (Nat.cast v7.length-2))) (cond (B.inb (IntKind.wrap .i64 (Nat.cast v7.length-2)) (List.length v7+1)) (cond (B.inb (IntKind.wrap .i64 (Nat.cast v7.length-2)) v7.length) (cond (B.inb (IntKind.wrap .i64 (Nat.cast v7.length-1)) v7.length) (ob (c85 ((p5.getD v1.toNat ty140.dflt).1) (v7.getD (Int.toNat (IntKind.wrap .i64 (Nat.cast v7.length-2))) ty3.dflt) (v7.getD (Int.toNat (IntKind.wrap .i64 (Nat.cast v7.length-1))) ty3.dflt)) fun y0=>cond (B.lt (0) (Nat.cast (List.length (y0::mt (Ty.den (Ty.int .i64)))))) (cond (B.lim (List.length (List.take (Int.toNat (IntKind.wrap .i64 (Nat.cast v7.length-2))) v7)+List.length (y0::mt (Ty.den (Ty.int .i64)))) (8)) (again (.l0 (IntKind.wrap .i64 (v1+1)) (List.take (Int.toNat (IntKind.wrap .i64 (Nat.cast v7.length-2))) v7++y0::mt (Ty.den (Ty.int .i64))))) none) none) none) none) none) none))))))) none) (cond (B.eq (↑v7.length) (0)) (k 0) (cond (B.inb (0) v7.length) (k (v7.getD (Int.toNat (0)) ty3.dflt)) none))
def E52 (p0:L82) (p1:L85) (p2:L91) (p3:L3) (p4:L3) (p5:L140):S52→List AV×Objs
 | .l0 v1 v7=>(mk 157 [(2,.c (.list 140 ty140 p5)),(3,.c (.ptr 3 0)),(4,.c (.ptr 4 0)),(7,.c (.own 7)),(8,.c (.int .i64 v1))],[(3,.box 40 [.list 82 ty82 p0,.list 85 ty85 p1,.list 91 ty91 p2]),(4,.box 97 [.list 3 ty3 p3,.list 3 ty3 p4]),(7,.row 3 ty3 v7)])
def I52:S52→Nat
 | .l0 _ _=>0
theorem eq52 {R:Type} (B:Ops) (c47:C47) (c79:C79) (c83:C83) (c75:C75) (c78:C78) (c84:C84) (c85:C85) (p0:L82) (p1:L85) (p2:L91) (p3:L3) (p4:L3) (p5:L140) (k:AV→Objs→Option R) (n:Nat):afun tau B gl0 X52 (ent 47 (e47 c47) (ent 79 (e79 c79) (ent 83 (e83 c83) (ent 75 (e75 c75) (ent 78 (e78 c78) (ent 84 (e84 c84) (ent 85 (e85 c85) gnil))))))) ow Tryd.f52 [.agg [.list 82 ty82 p0,.list 85 ty85 p1,.list 91 ty91 p2],.agg [.list 3 ty3 p3,.list 3 ty3 p4],.c (.list 140 ty140 p5)] [] k n=T52 B c47 c79 c83 c75 c78 c84 c85 p0 p1 p2 p3 p4 p5 (fun s=>aloop tau B gl0 X52 (ent 47 (e47 c47) (ent 79 (e79 c79) (ent 83 (e83 c83) (ent 75 (e75 c75) (ent 78 (e78 c78) (ent 84 (e84 c84) (ent 85 (e85 c85) gnil))))))) ow [] Tryd.f52 k (I52 s) (E52 p0 p1 p2 p3 p4 p5 s) n) (K3 k) none:=by kernel_rfl
theorem el52 {R:Type} (B:Ops) (c47:C47) (c79:C79) (c83:C83) (c75:C75) (c78:C78) (c84:C84) (c85:C85) (p0:L82) (p1:L85) (p2:L91) (p3:L3) (p4:L3) (p5:L140) (k:AV→Objs→Option R) (n:Nat):∀ s,aloop tau B gl0 X52 (ent 47 (e47 c47) (ent 79 (e79 c79) (ent 83 (e83 c83) (ent 75 (e75 c75) (ent 78 (e78 c78) (ent 84 (e84 c84) (ent 85 (e85 c85) gnil))))))) ow [] Tryd.f52 k (I52 s) (E52 p0 p1 p2 p3 p4 p5 s) (n+1)=T52 B c47 c79 c83 c75 c78 c84 c85 p0 p1 p2 p3 p4 p5 (fun s=>aloop tau B gl0 X52 (ent 47 (e47 c47) (ent 79 (e79 c79) (ent 83 (e83 c83) (ent 75 (e75 c75) (ent 78 (e78 c78) (ent 84 (e84 c84) (ent 85 (e85 c85) gnil))))))) ow [] Tryd.f52 k (I52 s) (E52 p0 p1 p2 p3 p4 p5 s) n) (K3 k) (some s):=by
 intro s
 cases s<;>kernel_rfl
theorem nt52 {R R':Type} (B:Ops) (c47:C47) (c79:C79) (c83:C83) (c75:C75) (c78:C78) (c84:C84) (c85:C85) (p0:L82) (p1:L85) (p2:L91) (p3:L3) (p4:L3) (p5:L140) (again:S52→Option R) (again':S52→Option R') (k0:(Int)→Option R') (k:R'→Option R) (h:∀ s,again s=ob (again' s) k):∀ s,T52 B c47 c79 c83 c75 c78 c84 c85 p0 p1 p2 p3 p4 p5 again (fun y=>ob (k0 y) k) s=ob (T52 B c47 c79 c83 c75 c78 c84 c85 p0 p1 p2 p3 p4 p5 again' k0 s) k:=by
 rintro (_ | x)
 all_goals try cases x
 all_goals (unfold T52;repeat' first | exact rfl | exact h _ | apply qaf | (apply qao;intro))
def R52 (c47:C47) (c79:C79) (c83:C83) (c75:C75) (c78:C78) (c84:C84) (c85:C85) (p0:L82) (p1:L85) (p2:L91) (p3:L3) (p4:L3) (p5:L140):Nat→S52→Option (Int)
 | 0,_=>none
 | n+1,s=>T52 Ops.std c47 c79 c83 c75 c78 c84 c85 p0 p1 p2 p3 p4 p5 (R52 c47 c79 c83 c75 c78 c84 c85 p0 p1 p2 p3 p4 p5 n) some (some s)
theorem rr52 {R:Type} (c47:C47) (c79:C79) (c83:C83) (c75:C75) (c78:C78) (c84:C84) (c85:C85) (p0:L82) (p1:L85) (p2:L91) (p3:L3) (p4:L3) (p5:L140) (k:AV→Objs→Option R):∀ (n:Nat) (s:S52),aloop tau Ops.std gl0 X52 (ent 47 (e47 c47) (ent 79 (e79 c79) (ent 83 (e83 c83) (ent 75 (e75 c75) (ent 78 (e78 c78) (ent 84 (e84 c84) (ent 85 (e85 c85) gnil))))))) ow [] Tryd.f52 k (I52 s) (E52 p0 p1 p2 p3 p4 p5 s) n=ob (R52 c47 c79 c83 c75 c78 c84 c85 p0 p1 p2 p3 p4 p5 n s) (K3 k)
 | 0,s=>by cases s<;>rfl
 | n+1,s=>by rw [el52];exact nt52 Ops.std c47 c79 c83 c75 c78 c84 c85 p0 p1 p2 p3 p4 p5 _ _ some (K3 k) (rr52 c47 c79 c83 c75 c78 c84 c85 p0 p1 p2 p3 p4 p5 k n) (some s)
def F52 (c47:C47) (c79:C79) (c83:C83) (c75:C75) (c78:C78) (c84:C84) (c85:C85) (p0:L82) (p1:L85) (p2:L91) (p3:L3) (p4:L3) (p5:L140):Option (Int):=T52 Ops.std c47 c79 c83 c75 c78 c84 c85 p0 p1 p2 p3 p4 p5 (R52 c47 c79 c83 c75 c78 c84 c85 p0 p1 p2 p3 p4 p5 1000000) some none
def e52 {R:Type} (c:L82→L85→L91→L3→L3→L140→Option (Int)):Ent R:=fun args objs k=>
 oCons args fun a0 l0=>oAgg a0 fun x0=>cCons x0 fun z0_0 w0_0=>cList 82 ty82 z0_0 fun p0=>cCons w0_0 fun z0_1 w0_1=>cList 85 ty85 z0_1 fun p1=>cCons w0_1 fun z0_2 w0_2=>cList 91 ty91 z0_2 fun p2=>cNil w0_2 <| oCons l0 fun a1 l1=>oAgg a1 fun x1=>cCons x1 fun z1_0 w1_0=>cList 3 ty3 z1_0 fun p3=>cCons w1_0 fun z1_1 w1_1=>cList 3 ty3 z1_1 fun p4=>cNil w1_1 <| oL l1 140 ty140 fun p5 l2=>oE l2 objs <| ob (c p0 p1 p2 p3 p4 p5) (K3 k)
abbrev Sp52 (c:L82→L85→L91→L3→L3→L140→Option (Int)):Prop:=∀ (p0:L82) (p1:L85) (p2:L91) (p3:L3) (p4:L3) (p5:L140) (y:Int),c p0 p1 p2 p3 p4 p5=some y→Spec Tryd.prog gl0 52 [.agg [.list 82 ty82 p0,.list 85 ty85 p1,.list 91 ty91 p2],.agg [.list 3 ty3 p3,.list 3 ty3 p4],.c (.list 140 ty140 p5)] [] (.c (.int .i64 y)) []
theorem ek52 {R:Type} {c:L82→L85→L91→L3→L3→L140→Option (Int)} (hs:Sp52 c):EOk 52 (e52 (R:=R) c):=fun args objs k r h=>by
 unfold e52 at h
 obtain ⟨a0,l0,rfl,q1⟩:=qal h
 obtain ⟨x0,rfl,q2⟩:=qav q1
 obtain ⟨z0_0,w0_0,rfl,q3⟩:=qab q2
 obtain ⟨p0,rfl,q4⟩:=qad q3
 obtain ⟨z0_1,w0_1,rfl,q5⟩:=qab q4
 obtain ⟨p1,rfl,q6⟩:=qad q5
 obtain ⟨z0_2,w0_2,rfl,q7⟩:=qab q6
 obtain ⟨p2,rfl,q8⟩:=qad q7
 obtain ⟨rfl,q9⟩:=qar q8
 obtain ⟨a1,l1,rfl,q10⟩:=qal q9
 obtain ⟨x1,rfl,q11⟩:=qav q10
 obtain ⟨z1_0,w1_0,rfl,q12⟩:=qab q11
 obtain ⟨p3,rfl,q13⟩:=qad q12
 obtain ⟨z1_1,w1_1,rfl,q14⟩:=qab q13
 obtain ⟨p4,rfl,q15⟩:=qad q14
 obtain ⟨rfl,q16⟩:=qar q15
 obtain ⟨p5,l2,rfl,q19⟩:=qaw q16
 obtain ⟨rfl,rfl,q21⟩:=qam q19
 exact qap (hs p0 p1 p2 p3 p4 p5) q21
theorem sf52 {c47:C47} {c79:C79} {c83:C83} {c75:C75} {c78:C78} {c84:C84} {c85:C85} (h47:Sp47 c47) (h79:Sp79 c79) (h83:Sp83 c83) (h75:Sp75 c75) (h78:Sp78 c78) (h84:Sp84 c84) (h85:Sp85 c85):Sp52 (F52 c47 c79 c83 c75 c78 c84 c85):=fun p0 p1 p2 p3 p4 p5 y hy=>by
 refine qaj (qae (ek47 h47) (qae (ek79 h79) (qae (ek83 h83) (qae (ek75 h75) (qae (ek78 h78) (qae (ek84 h84) (qae (ek85 h85) qai))))))) 1000000 (fn:=Tryd.f52) (by kernel_rfl) (by kernel_rfl) (X:=X52) (by kernel_rfl) ?_
 rw [eq52]
 exact (nt52 Ops.std c47 c79 c83 c75 c78 c84 c85 p0 p1 p2 p3 p4 p5 _ _ some (K3 k0) (rr52 c47 c79 c83 c75 c78 c84 c85 p0 p1 p2 p3 p4 p5 k0 1000000) none).trans (by show ob (F52 c47 c79 c83 c75 c78 c84 c85 p0 p1 p2 p3 p4 p5) _=_;rw [hy];rfl)
noncomputable def M52:L82→L85→L91→L3→L3→L140→Option (Int):=F52 M47 M79 M83 M75 M78 M84 M85
theorem sm52:Sp52 M52:=sf52 sm47 sm79 sm83 sm75 sm78 sm84 sm85
def X54:Aux:=⟨[(3,([5,6,7,8,9,10]++rg 13 195)),(7,([5,6,7,8,9,10,12]++rg 14 194)),(10,([5,6,7,8,9,10,12]++rg 15 193)),(1000004,([5,6,7,8,9,10]++rg 13 195)),(1000015,([5,6,7,8,9,10,12]++rg 16 192)),(1000011,([5,6,7,8,9,10,12]++rg 15 193)),(1000008,([5,6,7,8,9,10,12]++rg 14 194))],[]⟩
inductive S54 where
 | l0 (v5:Int) (v6:L4)
 | l1 (v5:Int) (v6:L4)
 | l2 (v5:Int) (v6:Int) (v7:L4)
 | l1004 (v5:Int) (v6:L4)
 | l1008 (v5:Int) (v6:L4)
 | l1011 (v5:Int) (v6:Int) (v7:L4)
 | l1015 (v5:Int) (v6:Int) (v7:Int) (v8:L4)
def T54 {R:Type} (B:Ops) (p0:Int) (p1:L4) (p2:L4) (p3:Int) (p4:Int) (again:S54→Option R) (k:(L4)→Option R):Option S54→Option R | none=>cond (bif B.eq p3 p3 then bif B.le (0) p3 then B.lim p3.toNat (1) else false else false) (again (.l0 0 (List.replicate p3.toNat (Ty.dflt Ty.bool)))) none | some (.l0 v5 v6)=>cond (B.lt v5 p3) (cond (B.eq p0 (10)) (cond (B.inb v5 v6.length) (again (.l1004 v5 (List.set v6 v5.toNat true))) none) (cond (B.eq p0 (12)) (cond (B.inb v5 v6.length) (again (.l1004 v5 (List.set v6 v5.toNat true))) none) (cond (B.inb v5 v6.length) (again (.l1004 v5 (List.set v6 v5.toNat (B.eq p0 (1))))) none))) (again (.l1 0 v6)) | some (.l1 v5 v6)=>cond (B.le v5 (IntKind.wrap .i64 (p3+1))) (again (.l2 v5 (IntKind.wrap .i64 (p3-1)) v6)) (k v6) | some (.l2 v5 v6 v7)=>cond (B.le (0) v6) (cond (B.eq (IntKind.wrap .i64 (v6+1)) p3) (again (.l1015 v5 v6 p4 v7)) (again (.l1015 v5 v6 (IntKind.wrap .i64 (v6+1)) v7))) (cond (!B.eq p0 (9)) (cond (!B.eq p0 (10)) (cond (!B.eq p0 (11)) (cond (!B.eq p0 (12)) (k v7) (again (.l1008 v5 v7))) (again (.l1008 v5 v7))) (again (.l1008 v5 v7))) (again (.l1008 v5 v7))) | some (.l1004 v5 v6)=>again (.l0 (IntKind.wrap .i64 (v5+1)) v6) | some (.l1008 v5 v6)=>again (.l1 (IntKind.wrap .i64 (v5+1)) v6) | some (.l1011 v5 v6 v7)=>again (.l2 v5 (IntKind.wrap .i64 (v6-1)) v7) | some (.l1015 v5 v6 v7 v8)=>cond (B.eq p0 (4)) (cond (B.inb v6 p1.length) (cond (B.inb v6 v8.length) (again (.l1011 v5 v6 (List.set v8 v6.toNat !p1.getD v6.toNat ty4.dflt))) none) none) (cond (B.eq p0 (5)) (cond (B.inb v6 p1.length) (cond (p1.getD v6.toNat ty4.dflt) (cond (B.inb v6 p2.length) (cond (B.inb v6 v8.length) (again (.l1011 v5 v6 (List.set v8 v6.toNat (p2.getD v6.toNat ty4.dflt)))) none) none) (cond (B.inb v6 v8.length) (again (.l1011 v5 v6 (List.set v8 v6.toNat false))) none)) none) (cond (B.eq p0 (6)) (cond (B.inb v6 p1.length) (cond (p1.getD v6.toNat ty4.dflt) (cond (B.inb v6 v8.length) (again (.l1011 v5 v6 (List.set v8 v6.toNat true))) none) (cond (B.inb v6 p2.length) (cond (B.inb v6 v8.length) (again (.l1011 v5 v6 (List.set v8 v6.toNat (p2.getD v6.toNat ty4.dflt)))) none) none)) none) (cond (B.eq p0 (7)) (cond (B.inb v6 p1.length) (cond (!p1.getD v6.toNat ty4.dflt) (cond (B.inb v6 v8.length) (again (.l1011 v5 v6 (List.set v8 v6.toNat true))) none) (cond (B.inb v6 p2.length) (cond (B.inb v6 v8.length) (again (.l1011 v5 v6 (List.set v8 v6.toNat (p2.getD v6.toNat ty4.dflt)))) none) none)) none) (cond (B.eq p0 (8)) (cond (B.inb v7 p1.length) (cond (B.inb v6 v8.length) (again (.l1011 v5 v6 (List.set v8 v6.toNat (p1.getD v7.toNat ty4.dflt)))) none) none) (cond (B.eq p0 (9)) (cond (B.inb v6 p2.length) (cond (p2.getD v6.toNat ty4.dflt) (cond (B.inb v6 v8.length) (again (.l1011 v5 v6 (List.set v8 v6.toNat true))) none) (cond (B.inb v6 p1.length) (cond (p1.getD v6.toNat ty4.dflt) (cond (B.inb v7 v8.length) (cond (B.inb v6 v8.length) (again (.l1011 v5 v6 (List.set v8 v6.toNat (v8.getD v7.toNat ty4.dflt)))) none) none) (cond (B.inb v6 v8.length) (again (.l1011 v5 v6 (List.set v8 v6.toNat false))) none)) none)) none) (cond (B.eq p0 (10)) (cond (B.inb v6 p2.length) (cond (p2.getD v6.toNat ty4.dflt) (cond (B.inb v6 p1.length) (cond (p1.getD v6.toNat ty4.dflt) (cond (B.inb v6 v8.length) (again (.l1011 v5 v6 (List.set v8 v6.toNat true))) none) (cond (B.inb v7 v8.length) (cond (B.inb v6 v8.length) (again (.l1011 v5 v6 (List.set v8 v6.toNat (v8.getD v7.toNat ty4.dflt)))) none) none)) none) (cond (B.inb v6 v8.length) (again (.l1011 v5 v6 (List.set v8 v6.toNat false))) none)) none) (cond (B.eq p0 (11)) (cond (B.inb v6 p1.length) (cond (p1.getD v6.toNat ty4.dflt) (cond (B.inb v6 v8.length) (again (.l1011 v5 v6 (List.set v8 v6.toNat true))) none) (cond (B.inb v7 v8.length) (cond (B.inb v6 v8.length) (again (.l1011 v5 v6 (List.set v8 v6.toNat (v8.getD v7.toNat ty4.dflt)))) none) none)) none) (cond (B.eq p0 (12)) (cond (B.inb v6 p1.length) (cond (p1.getD v6.toNat ty4.dflt) (cond (B.inb v7 v8.length) (cond (B.inb v6 v8.length) (again (.l1011 v5 v6 (List.set v8 v6.toNat (v8.getD v7.toNat ty4.dflt)))) none) none) (cond (B.inb v6 v8.length) (again (.l1011 v5 v6 (List.set v8 v6.toNat false))) none)) none) (again (.l1011 v5 v6 v8))))))))))
def E54 (p0:Int) (p1:L4) (p2:L4) (p3:Int) (p4:Int):S54→List AV×Objs
 | .l0 v5 v6=>(mk 208 [(0,.c (.int .i64 p0)),(1,.c (.list 4 ty4 p1)),(2,.c (.list 4 ty4 p2)),(3,.c (.int .i64 p3)),(4,.c (.int .i64 p4)),(11,.c (.own 11)),(12,.c (.int .i64 v5))],[(11,.row 4 ty4 v6)])
 | .l1 v5 v6=>(mk 208 [(0,.c (.int .i64 p0)),(1,.c (.list 4 ty4 p1)),(2,.c (.list 4 ty4 p2)),(3,.c (.int .i64 p3)),(4,.c (.int .i64 p4)),(11,.c (.own 11)),(13,.c (.int .i64 v5))],[(11,.row 4 ty4 v6)])
 | .l2 v5 v6 v7=>(mk 208 [(0,.c (.int .i64 p0)),(1,.c (.list 4 ty4 p1)),(2,.c (.list 4 ty4 p2)),(3,.c (.int .i64 p3)),(4,.c (.int .i64 p4)),(11,.c (.own 11)),(13,.c (.int .i64 v5)),(14,.c (.int .i64 v6))],[(11,.row 4 ty4 v7)])
 | .l1004 v5 v6=>(mk 208 [(0,.c (.int .i64 p0)),(1,.c (.list 4 ty4 p1)),(2,.c (.list 4 ty4 p2)),(3,.c (.int .i64 p3)),(4,.c (.int .i64 p4)),(11,.c (.own 11)),(12,.c (.int .i64 v5))],[(11,.row 4 ty4 v6)])
 | .l1008 v5 v6=>(mk 208 [(0,.c (.int .i64 p0)),(1,.c (.list 4 ty4 p1)),(2,.c (.list 4 ty4 p2)),(3,.c (.int .i64 p3)),(4,.c (.int .i64 p4)),(11,.c (.own 11)),(13,.c (.int .i64 v5))],[(11,.row 4 ty4 v6)])
 | .l1011 v5 v6 v7=>(mk 208 [(0,.c (.int .i64 p0)),(1,.c (.list 4 ty4 p1)),(2,.c (.list 4 ty4 p2)),(3,.c (.int .i64 p3)),(4,.c (.int .i64 p4)),(11,.c (.own 11)),(13,.c (.int .i64 v5)),(14,.c (.int .i64 v6))],[(11,.row 4 ty4 v7)])
 | .l1015 v5 v6 v7 v8=>(mk 208 [(0,.c (.int .i64 p0)),(1,.c (.list 4 ty4 p1)),(2,.c (.list 4 ty4 p2)),(3,.c (.int .i64 p3)),(4,.c (.int .i64 p4)),(11,.c (.own 11)),(13,.c (.int .i64 v5)),(14,.c (.int .i64 v6)),(15,.c (.int .i64 v7))],[(11,.row 4 ty4 v8)])
def I54:S54→Nat
 | .l0 _ _=>0
 | .l1 _ _=>1
 | .l2 _ _ _=>2
 | .l1004 _ _=>1004
 | .l1008 _ _=>1008
 | .l1011 _ _ _=>1011
 | .l1015 _ _ _ _=>1015
abbrev K28 {R:Type} (k:AV→Objs→Option R) (y:(L4)):Option R:=k (.c (.own 500)) [(500,.row 4 ty4 y)]
theorem eq54 {R:Type} (B:Ops) (p0:Int) (p1:L4) (p2:L4) (p3:Int) (p4:Int) (k:AV→Objs→Option R) (n:Nat):afun tau B gl0 X54 gnil ow Tryd.f54 [.c (.int .i64 p0),.c (.list 4 ty4 p1),.c (.list 4 ty4 p2),.c (.int .i64 p3),.c (.int .i64 p4)] [] k n=T54 B p0 p1 p2 p3 p4 (fun s=>aloop tau B gl0 X54 gnil ow [] Tryd.f54 k (I54 s) (E54 p0 p1 p2 p3 p4 s) n) (K28 k) none:=by kernel_rfl
theorem el54 {R:Type} (B:Ops) (p0:Int) (p1:L4) (p2:L4) (p3:Int) (p4:Int) (k:AV→Objs→Option R) (n:Nat):∀ s,aloop tau B gl0 X54 gnil ow [] Tryd.f54 k (I54 s) (E54 p0 p1 p2 p3 p4 s) (n+1)=T54 B p0 p1 p2 p3 p4 (fun s=>aloop tau B gl0 X54 gnil ow [] Tryd.f54 k (I54 s) (E54 p0 p1 p2 p3 p4 s) n) (K28 k) (some s):=by
 intro s
 cases s<;>kernel_rfl
theorem nt54 {R R':Type} (B:Ops) (p0:Int) (p1:L4) (p2:L4) (p3:Int) (p4:Int) (again:S54→Option R) (again':S54→Option R') (k0:(L4)→Option R') (k:R'→Option R) (h:∀ s,again s=ob (again' s) k):∀ s,T54 B p0 p1 p2 p3 p4 again (fun y=>ob (k0 y) k) s=ob (T54 B p0 p1 p2 p3 p4 again' k0 s) k:=by
 rintro (_ | x)
 all_goals try cases x
 all_goals (unfold T54;repeat' first | exact rfl | exact h _ | apply qaf | (apply qao;intro))
def R54 (p0:Int) (p1:L4) (p2:L4) (p3:Int) (p4:Int):Nat→S54→Option (L4)
 | 0,_=>none
 | n+1,s=>T54 Ops.std p0 p1 p2 p3 p4 (R54 p0 p1 p2 p3 p4 n) some (some s)
theorem rr54 {R:Type} (p0:Int) (p1:L4) (p2:L4) (p3:Int) (p4:Int) (k:AV→Objs→Option R):∀ (n:Nat) (s:S54),aloop tau Ops.std gl0 X54 gnil ow [] Tryd.f54 k (I54 s) (E54 p0 p1 p2 p3 p4 s) n=ob (R54 p0 p1 p2 p3 p4 n s) (K28 k)
 | 0,s=>by cases s<;>rfl
 | n+1,s=>by rw [el54];exact nt54 Ops.std p0 p1 p2 p3 p4 _ _ some (K28 k) (rr54 p0 p1 p2 p3 p4 k n) (some s)
def F54 (p0:Int) (p1:L4) (p2:L4) (p3:Int) (p4:Int):Option (L4):=T54 Ops.std p0 p1 p2 p3 p4 (R54 p0 p1 p2 p3 p4 1000000) some none
def e54 {R:Type} (c:Int→L4→L4→Int→Int→Option (L4)):Ent R:=fun args objs k=>
 oI args .i64 fun p0 l0=>oL l0 4 ty4 fun p1 l1=>oL l1 4 ty4 fun p2 l2=>oI l2 .i64 fun p3 l3=>oI l3 .i64 fun p4 l4=>oE l4 objs <| ob (c p0 p1 p2 p3 p4) (K28 k)
abbrev Sp54 (c:Int→L4→L4→Int→Int→Option (L4)):Prop:=∀ (p0:Int) (p1:L4) (p2:L4) (p3:Int) (p4:Int) (y:L4),c p0 p1 p2 p3 p4=some y→Spec Tryd.prog gl0 54 [.c (.int .i64 p0),.c (.list 4 ty4 p1),.c (.list 4 ty4 p2),.c (.int .i64 p3),.c (.int .i64 p4)] [] (.c (.own 500)) [(500,.row 4 ty4 y)]
theorem ek54 {R:Type} {c:Int→L4→L4→Int→Int→Option (L4)} (hs:Sp54 c):EOk 54 (e54 (R:=R) c):=fun args objs k r h=>by
 unfold e54 at h
 obtain ⟨p0,l0,rfl,q3⟩:=qau h
 obtain ⟨p1,l1,rfl,q6⟩:=qaw q3
 obtain ⟨p2,l2,rfl,q9⟩:=qaw q6
 obtain ⟨p3,l3,rfl,q12⟩:=qau q9
 obtain ⟨p4,l4,rfl,q15⟩:=qau q12
 obtain ⟨rfl,rfl,q17⟩:=qam q15
 exact qap (hs p0 p1 p2 p3 p4) q17
theorem sf54:Sp54 (F54):=fun p0 p1 p2 p3 p4 y hy=>by
 refine qaj qai 1000000 (fn:=Tryd.f54) (by kernel_rfl) (by kernel_rfl) (X:=X54) (by kernel_rfl) ?_
 rw [eq54]
 exact (nt54 Ops.std p0 p1 p2 p3 p4 _ _ some (K28 k0) (rr54 p0 p1 p2 p3 p4 k0 1000000) none).trans (by show ob (F54 p0 p1 p2 p3 p4) _=_;rw [hy];rfl)
noncomputable def M54:Int→L4→L4→Int→Int→Option (L4):=F54
theorem sm54:Sp54 M54:=sf54
end Go.Proofs.YtfdlgmbbflmbgaaDoor.Av
