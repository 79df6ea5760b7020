/- Twins of functions,printed by gen.py. Conditions: none. -/
import Derived.Test.YtkmpkebaloejhaaGreatDoorFr5
import Derived.KernelRfl
set_option linter.unusedSimpArgs false
set_option linter.unusedVariables false
set_option maxRecDepth 100000
set_option maxHeartbeats 8000000
namespace Go.Proofs.YtkmpkebaloejhaaGreatDoor.Av
open Go
def X23:Aux:=⟨[(7,([0,1,3,4]++rg 9 101)),(2000000,[])],[(24,.lin (rg 0 12))]⟩
inductive S23 where
 | l0 (v0 v1:Int) (v2:L9) (v6:L97) (v7:L101) (v8:L104)
def T23 {R:Type} (B:Ops) (c51:C51) (c52:C52) (c53:C53) (c55:C55) (c54:C54) (c56:C56) (p0:LB) (again:S23→Option R) (k:(L97×L101×L104×Int×Int)→Option R):Option S23→Option R | none=>cond (B.lt 60000 (↑p0.length)) (k ((mt (Ty.den ty97),mt (Ty.den ty101),mt (Ty.den ty104),14,0))) (ob (c51 p0 10) fun y0=>again (.l0 0 0 y0 (mt (Ty.den ty97)) (mt (Ty.den ty101)) (mt (Ty.den ty104)))) | some (.l0 v0 v1 v2 v6 v7 v8)=>cond (B.lt v1 (↑v2.length)) (cond (B.inb v1 v2.length) (cond (v2.getD v1.toNat ty9.dflt == mt UInt8) (again (.l0 v0 (IntKind.wrap .i64 (v1+1)) v2 v6 v7 v8)) (cond (B.inb v1 v2.length) (ob (c52 (v2.getD v1.toNat ty9.dflt)) fun y0=>cond (B.lt 0 (↑y0.length)) (cond (B.inb 0 y0.length) (cond (y0.getD (Int.toNat 0) ty9.dflt == ([118,97,114]:LB)) (cond (B.inb 1 (List.length y0+1)) (ob (c53 (List.drop (Int.toNat 1) (List.take y0.length y0))) fun y1=>cond (B.lim (List.length v6+List.length ((y1.1,y1.2.1,y1.2.2.1,y1.2.2.2.1)::mt (Ty.den ty97))) 40) (cond (!y1.2.2.2.2) (k ((mt (Ty.den ty97),mt (Ty.den ty101),mt (Ty.den ty104),2,IntKind.wrap .i64 (v1+1)))) (cond (B.lt 1 v0) (k ((mt (Ty.den ty97),mt (Ty.den ty101),mt (Ty.den ty104),2,IntKind.wrap .i64 (v1+1)))) (again (.l0 1 (IntKind.wrap .i64 (v1+1)) v2 (v6++(y1.1,y1.2.1,y1.2.2.1,y1.2.2.2.1)::mt (Ty.den ty97)) v7 v8)))) none) none) (cond (y0.getD (Int.toNat 0) ty9.dflt == ([112,114,111,99]:LB)) (cond (B.lt 1 (↑y0.length)) (cond (B.inb 1 y0.length) (cond (B.inb 2 (List.length y0+1)) (cond (B.lim (List.length v7+List.length ((y0.getD (Int.toNat 1) ty9.dflt,List.drop (Int.toNat 2) (List.take y0.length y0))::mt (Ty.den ty101))) 40) (cond (!B.lt 1 (↑y0.length)) (k ((mt (Ty.den ty97),mt (Ty.den ty101),mt (Ty.den ty104),2,IntKind.wrap .i64 (v1+1)))) (cond (B.lt 2 v0) (k ((mt (Ty.den ty97),mt (Ty.den ty101),mt (Ty.den ty104),2,IntKind.wrap .i64 (v1+1)))) (again (.l0 2 (IntKind.wrap .i64 (v1+1)) v2 v6 (v7++(y0.getD (Int.toNat 1) ty9.dflt,List.drop (Int.toNat 2) (List.take y0.length y0))::mt (Ty.den ty101)) v8)))) none) none) none) (cond (!B.lt 1 (↑y0.length)) (k ((mt (Ty.den ty97),mt (Ty.den ty101),mt (Ty.den ty104),2,IntKind.wrap .i64 (v1+1)))) (cond (B.lt 2 v0) (k ((mt (Ty.den ty97),mt (Ty.den ty101),mt (Ty.den ty104),2,IntKind.wrap .i64 (v1+1)))) (again (.l0 2 (IntKind.wrap .i64 (v1+1)) v2 v6 v7 v8))))) (cond (y0.getD (Int.toNat 0) ty9.dflt == ([116,114,97,110,115]:LB)) (cond (B.inb v1 v2.length) (ob (c55 (v2.getD v1.toNat ty9.dflt) 1) fun y1=>ob (c54 y1) fun y2=>cond (B.lim (List.length v8+List.length ((y2.1,y2.2.1,y2.2.2.1,y2.2.2.2.1,y2.2.2.2.2.1,y2.2.2.2.2.2.1,y2.2.2.2.2.2.2.1)::mt (Ty.den ty104))) 120) (cond (!y2.2.2.2.2.2.2.2) (k ((mt (Ty.den ty97),mt (Ty.den ty101),mt (Ty.den ty104),2,IntKind.wrap .i64 (v1+1)))) (cond (B.lt 3 v0) (k ((mt (Ty.den ty97),mt (Ty.den ty101),mt (Ty.den ty104),2,IntKind.wrap .i64 (v1+1)))) (again (.l0 3 (IntKind.wrap .i64 (v1+1)) v2 v6 v7 (v8++(y2.1,y2.2.1,y2.2.2.1,y2.2.2.2.1,y2.2.2.2.2.1,y2.2.2.2.2.2.1,y2.2.2.2.2.2.2.1)::mt (Ty.den ty104)))))) none) none) (k ((mt (Ty.den ty97),mt (Ty.den ty101),mt (Ty.den ty104),2,IntKind.wrap .i64 (v1+1))))))) none) (k ((mt (Ty.den ty97),mt (Ty.den ty101),mt (Ty.den ty104),2,IntKind.wrap .i64 (v1+1))))) none)) none) (ob (c56 v6 v7 v8) fun y0=>cond (!y0) (k ((mt (Ty.den ty97),mt (Ty.den ty101),mt (Ty.den ty104),2,0))) (k (v6,v7,v8,0,0)))
def E23 (p0:LB):S23→List AV×Objs
 | .l0 v0 v1 v2 v6 v7 v8=>(mk 110 [(2,.c (.ptr 2 0)),(5,.c (.ptr 5 0)),(6,.c (.int .i64 v0)),(7,.c (.own 7)),(8,.c (.int .i64 v1))],[(2,.box 37 [.own 3000,.own 3001,.own 3002]),(5,.box 37 [.own 6000,.own 6001,.own 6002]),(7,.row 9 ty9 v2),(3000,.row 97 ty97 (mt (Ty.den ty97))),(3001,.row 101 ty101 (mt (Ty.den ty101))),(3002,.row 104 ty104 (mt (Ty.den ty104))),(6000,.row 97 ty97 v6),(6001,.row 101 ty101 v7),(6002,.row 104 ty104 v8)])
def I23:S23→Nat
 | .l0 _ _ _ _ _ _=>0
abbrev K38 {R:Type} (k:AV→Objs→Option R) (y:(L97×L101×L104×Int×Int)):Option R:=k (.tup [(true,[.list 97 ty97 y.1,.list 101 ty101 y.2.1,.list 104 ty104 y.2.2.1]),(false,[.int .i64 y.2.2.2.1]),(false,[.int .i64 y.2.2.2.2])]) []
noncomputable abbrev A23 {R:Type} (B:Ops) (c51:C51) (c52:C52) (c53:C53) (c55:C55) (c54:C54) (c56:C56) (p0:LB) (k:AV→Objs→Option R) (s:S23) (n:Nat):Option R:=aloop tau B gl0 X23 (ent 51 (e51 c51) (ent 52 (e52 c52) (ent 53 (e53 c53) (ent 55 (e55 c55) (ent 54 (e54 c54) (ent 56 (e56 c56) gnil)))))) ow [] Tryz.f23 k (I23 s) (E23 p0 s) n
theorem eq23 {R:Type} (B:Ops) (c51:C51) (c52:C52) (c53:C53) (c55:C55) (c54:C54) (c56:C56) (p0:LB) (k:AV→Objs→Option R) (n:Nat):afun tau B gl0 X23 (ent 51 (e51 c51) (ent 52 (e52 c52) (ent 53 (e53 c53) (ent 55 (e55 c55) (ent 54 (e54 c54) (ent 56 (e56 c56) gnil)))))) ow Tryz.f23 [.c (.str p0)] [] k n=T23 B c51 c52 c53 c55 c54 c56 p0 (fun s=>A23 B c51 c52 c53 c55 c54 c56 p0 k s n) (K38 k) none:=by kernel_rfl
theorem el23 {R:Type} (B:Ops) (c51:C51) (c52:C52) (c53:C53) (c55:C55) (c54:C54) (c56:C56) (p0:LB) (k:AV→Objs→Option R) (n:Nat):∀ s,A23 B c51 c52 c53 c55 c54 c56 p0 k s (n+1)=T23 B c51 c52 c53 c55 c54 c56 p0 (fun s=>A23 B c51 c52 c53 c55 c54 c56 p0 k s n) (K38 k) (some s):=by
 intro s
 cases s<;>kernel_rfl
theorem nt23 {R R':Type} (B:Ops) (c51:C51) (c52:C52) (c53:C53) (c55:C55) (c54:C54) (c56:C56) (p0:LB) (again:S23→Option R) (again':S23→Option R') (k0:(L97×L101×L104×Int×Int)→Option R') (k:R'→Option R) (h:∀ s,again s=ob (again' s) k):∀ s,T23 B c51 c52 c53 c55 c54 c56 p0 again (fun y=>ob (k0 y) k) s=ob (T23 B c51 c52 c53 c55 c54 c56 p0 again' k0 s) k:=by
 rintro (_ | x)
 all_goals try cases x
 all_goals (unfold T23;repeat' first | exact rfl | exact h _ | apply qac | (apply qai;intro))
def R23 (c51:C51) (c52:C52) (c53:C53) (c55:C55) (c54:C54) (c56:C56) (p0:LB):Nat→S23→Option (L97×L101×L104×Int×Int)
 | 0,_=>none
 | n+1,s=>T23 Ops.std c51 c52 c53 c55 c54 c56 p0 (R23 c51 c52 c53 c55 c54 c56 p0 n) some (some s)
theorem rr23 {R:Type} (c51:C51) (c52:C52) (c53:C53) (c55:C55) (c54:C54) (c56:C56) (p0:LB) (k:AV→Objs→Option R):∀ (n:Nat) (s:S23),A23 Ops.std c51 c52 c53 c55 c54 c56 p0 k s n=ob (R23 c51 c52 c53 c55 c54 c56 p0 n s) (K38 k)
 | 0,s=>by cases s<;>rfl
 | n+1,s=>by rw [el23];exact nt23 Ops.std c51 c52 c53 c55 c54 c56 p0 _ _ some (K38 k) (rr23 c51 c52 c53 c55 c54 c56 p0 k n) (some s)
def F23 (c51:C51) (c52:C52) (c53:C53) (c55:C55) (c54:C54) (c56:C56) (p0:LB):Option (L97×L101×L104×Int×Int):=T23 Ops.std c51 c52 c53 c55 c54 c56 p0 (R23 c51 c52 c53 c55 c54 c56 p0 1000000) some none
abbrev C23:Type:=LB→Option (L97×L101×L104×Int×Int)
def e23 {R:Type} (c:C23):Ent R:=eG [.aC .cS] [] fun v k=>ob (c v.1) (K38 k)
abbrev Sp23 (c:C23):Prop:=∀ (p0:LB) (y:L97×L101×L104×Int×Int),c p0=some y→Spec Tryz.prog gl0 23 [.c (.str p0)] [] (.tup [(true,[.list 97 ty97 y.1,.list 101 ty101 y.2.1,.list 104 ty104 y.2.2.1]),(false,[.int .i64 y.2.2.2.1]),(false,[.int .i64 y.2.2.2.2])]) []
theorem ek23 {R:Type} {c:C23} (hs:Sp23 c):EOk 23 (e23 (R:=R) c):=qak fun v=>hs v.1
theorem sf23 {c51:C51} {c52:C52} {c53:C53} {c55:C55} {c54:C54} {c56:C56} (h51:Sp51 c51) (h52:Sp52 c52) (h53:Sp53 c53) (h55:Sp55 c55) (h54:Sp54 c54) (h56:Sp56 c56):Sp23 (F23 c51 c52 c53 c55 c54 c56):=fun p0 y hy=>by
 refine qae (qab (ek51 h51) (qab (ek52 h52) (qab (ek53 h53) (qab (ek55 h55) (qab (ek54 h54) (qab (ek56 h56) qad)))))) 1000000 (fn:=Tryz.f23) (by kernel_rfl) (by kernel_rfl) (X:=X23) (by kernel_rfl) ?_
 rw [eq23]
 exact (nt23 Ops.std c51 c52 c53 c55 c54 c56 p0 _ _ some (K38 k0) (rr23 c51 c52 c53 c55 c54 c56 p0 k0 1000000) none).trans (by show ob (F23 c51 c52 c53 c55 c54 c56 p0) _=_;rw [hy];rfl)
noncomputable def M23:C23:=F23 M51 M52 M53 M55 M54 M56
theorem sm23:Sp23 M23:=sf23 sm51 sm52 sm53 sm55 sm54 sm56
def X8:Aux:=⟨[],[]⟩
def T8 {R:Type} (B:Ops) (c24:C24) (c23:C23) (p0 p1:Int) (p2:L22) (k:(L97×L101×L104)→Option R):Option R:=ob (c24 p0 p1 p2) fun y0=>ob (c23 y0) fun y1=>k (y1.1,y1.2.1,y1.2.2.1)
abbrev K39 {R:Type} (k:AV→Objs→Option R) (y:(L97×L101×L104)):Option R:=k (.agg [.list 97 ty97 y.1,.list 101 ty101 y.2.1,.list 104 ty104 y.2.2]) []
theorem eq8 {R:Type} (B:Ops) (c24:C24) (c23:C23) (p0 p1:Int) (p2:L22) (k:AV→Objs→Option R) (n:Nat):afun tau B gl0 X8 (ent 24 (e24 c24) (ent 23 (e23 c23) gnil)) ow Tryz.f8 [.agg [.int .i64 p0,.int .i64 p1,.list 22 ty22 p2]] [] k n=T8 B c24 c23 p0 p1 p2 (K39 k):=by kernel_rfl
theorem nt8 {R R':Type} (B:Ops) (c24:C24) (c23:C23) (p0 p1:Int) (p2:L22) (k0:(L97×L101×L104)→Option R') (k:R'→Option R):T8 B c24 c23 p0 p1 p2 (fun y=>ob (k0 y) k)=ob (T8 B c24 c23 p0 p1 p2 k0) k:=by
 unfold T8
 repeat' first | exact rfl | apply qac | (apply qai;intro)
def F8 (c24:C24) (c23:C23) (p0 p1:Int) (p2:L22):Option (L97×L101×L104):=T8 Ops.std c24 c23 p0 p1 p2 some
abbrev C8:Type:=Int→Int→L22→Option (L97×L101×L104)
def e8 {R:Type} (c:C8):Ent R:=eG [.aG [.cI .i64,.cI .i64,.cL 22 ty22]] [] fun v k=>ob (c v.1 v.2.1 v.2.2.1) (K39 k)
abbrev Sp8 (c:C8):Prop:=∀ (p0 p1:Int) (p2:L22) (y:L97×L101×L104),c p0 p1 p2=some y→Spec Tryz.prog gl0 8 [.agg [.int .i64 p0,.int .i64 p1,.list 22 ty22 p2]] [] (.agg [.list 97 ty97 y.1,.list 101 ty101 y.2.1,.list 104 ty104 y.2.2]) []
theorem ek8 {R:Type} {c:C8} (hs:Sp8 c):EOk 8 (e8 (R:=R) c):=qak fun v=>hs v.1 v.2.1 v.2.2.1
theorem sf8 {c24:C24} {c23:C23} (h24:Sp24 c24) (h23:Sp23 c23):Sp8 (F8 c24 c23):=fun p0 p1 p2 y hy=>by
 refine qae (qab (ek24 h24) (qab (ek23 h23) qad)) 1000000 (fn:=Tryz.f8) (by kernel_rfl) (by kernel_rfl) (X:=X8) (by kernel_rfl) ?_
 rw [eq8]
 exact (nt8 Ops.std c24 c23 p0 p1 p2 some (K39 k0)).trans (by show ob (F8 c24 c23 p0 p1 p2) _=_;rw [hy];rfl)
noncomputable def M8:C8:=F8 M24 M23
theorem sm8:Sp8 M8:=sf8 sm24 sm23
abbrev C102:Type:=Int→Option (LB)
def e102 {R:Type} (c:C102):Ent R:=eG [.aC (.cI .i64)] [] fun v k=>ob (c v.1) (K3 k)
abbrev Sp102 (c:C102):Prop:=∀ (p0:Int) (y:LB),c p0=some y→Spec Tryz.prog gl0 102 [.c (.int .i64 p0)] [] (.c (.str y)) []
theorem ek102 {R:Type} {c:C102} (hs:Sp102 c):EOk 102 (e102 (R:=R) c):=qak fun v=>hs v.1
def M102:Int→Option (LB):=itoaF
theorem sm102:Sp102 M102:=fun p0 y hy=>itoa_sp p0 y hy
def X70:Aux:=⟨[(5,([0,1,2,4,5,6,7,8,9,10]++rg 14 72))],[(10,.lin (rg 0 13)),(21,.lin [0,1,2,3,4,5,6])]⟩
inductive S70 where
 | l0 (v1 v2:Int) (v3:L156)
def T70 {R:Type} (B:Ops) (c26:C26) (c59:C59) (c102:C102) (c103:C103) (c104:C104) (p0:L63) (again:S70→Option R) (k:(LB)→Option R):Option S70→Option R | none=>ob (c26 p0) fun y0=>cond (!y0) (k (mt UInt8)) (again (.l0 (↑p0.length) 0 (mt (Ty.den ty77)))) | some (.l0 v1 v2 v3)=>cond (B.lt v2 v1) (cond (B.inb v2 p0.length) (ob (c59 (p0.getD v2.toNat ty63.dflt).1) fun y0=>cond (B.eq (p0.getD v2.toNat ty63.dflt).1 1) (ob (c102 ((p0.getD v2.toNat ty63.dflt).2).1) fun y1=>cond (B.inb (IntKind.wrap .i64 (Nat.cast v3.length-y0)) (List.length v3+1)) (cond (B.lim (List.length (List.take (Int.toNat (IntKind.wrap .i64 (Nat.cast v3.length-y0))) v3)+List.length ((y1,6)::mt (Ty.den ty77))) 24) (again (.l0 v1 (IntKind.wrap .i64 (v2+1)) (List.take (Int.toNat (IntKind.wrap .i64 (Nat.cast v3.length-y0))) v3++(y1,6)::mt (Ty.den ty77)))) none) none) (cond (B.eq (p0.getD v2.toNat ty63.dflt).1 2) (cond (B.inb (IntKind.wrap .i64 (Nat.cast v3.length-y0)) (List.length v3+1)) (cond (B.lim (List.length (List.take (Int.toNat (IntKind.wrap .i64 (Nat.cast v3.length-y0))) v3)+List.length (((((p0.getD v2.toNat ty63.dflt).2).2).1,6)::mt (Ty.den ty77))) 24) (again (.l0 v1 (IntKind.wrap .i64 (v2+1)) (List.take (Int.toNat (IntKind.wrap .i64 (Nat.cast v3.length-y0))) v3++((((p0.getD v2.toNat ty63.dflt).2).2).1,6)::mt (Ty.den ty77)))) none) none) (cond (B.eq (p0.getD v2.toNat ty63.dflt).1 3) (cond (B.lim (List.length ((((p0.getD v2.toNat ty63.dflt).2).2).1)+1) 1) (cond (B.lim (List.length ((((p0.getD v2.toNat ty63.dflt).2).2).1++([64]:LB))+List.length (((p0.getD v2.toNat ty63.dflt).2).2).2) 1) (cond (B.inb (IntKind.wrap .i64 (Nat.cast v3.length-y0)) (List.length v3+1)) (cond (B.lim (List.length (List.take (Int.toNat (IntKind.wrap .i64 (Nat.cast v3.length-y0))) v3)+List.length (((((p0.getD v2.toNat ty63.dflt).2).2).1++([64]:LB)++(((p0.getD v2.toNat ty63.dflt).2).2).2,6)::mt (Ty.den ty77))) 24) (again (.l0 v1 (IntKind.wrap .i64 (v2+1)) (List.take (Int.toNat (IntKind.wrap .i64 (Nat.cast v3.length-y0))) v3++((((p0.getD v2.toNat ty63.dflt).2).2).1++([64]:LB)++(((p0.getD v2.toNat ty63.dflt).2).2).2,6)::mt (Ty.den ty77)))) none) none) none) none) (cond (B.eq (p0.getD v2.toNat ty63.dflt).1 4) (cond (B.inb (IntKind.wrap .i64 (Nat.cast v3.length-y0)) v3.length) (ob (c103 (v3.getD (Int.toNat (IntKind.wrap .i64 (Nat.cast v3.length-y0))) ty156.dflt).1 (v3.getD (Int.toNat (IntKind.wrap .i64 (Nat.cast v3.length-y0))) ty156.dflt).2 5) fun y1=>cond (B.lim (1+List.length y1) 1) (cond (B.inb (IntKind.wrap .i64 (Nat.cast v3.length-y0)) (List.length v3+1)) (cond (B.lim (List.length (List.take (Int.toNat (IntKind.wrap .i64 (Nat.cast v3.length-y0))) v3)+List.length ((([33]:LB)++y1,5)::mt (Ty.den ty77))) 24) (again (.l0 v1 (IntKind.wrap .i64 (v2+1)) (List.take (Int.toNat (IntKind.wrap .i64 (Nat.cast v3.length-y0))) v3++(([33]:LB)++y1,5)::mt (Ty.den ty77)))) none) none) none) none) (cond (B.eq (p0.getD v2.toNat ty63.dflt).1 5) (cond (B.inb (IntKind.wrap .i64 (Nat.cast v3.length-y0)) v3.length) (ob (c103 (v3.getD (Int.toNat (IntKind.wrap .i64 (Nat.cast v3.length-y0))) ty156.dflt).1 (v3.getD (Int.toNat (IntKind.wrap .i64 (Nat.cast v3.length-y0))) ty156.dflt).2 5) fun y1=>cond (B.lim (1+List.length y1) 1) (cond (B.inb (IntKind.wrap .i64 (Nat.cast v3.length-y0)) (List.length v3+1)) (cond (B.lim (List.length (List.take (Int.toNat (IntKind.wrap .i64 (Nat.cast v3.length-y0))) v3)+List.length ((([45]:LB)++y1,5)::mt (Ty.den ty77))) 24) (again (.l0 v1 (IntKind.wrap .i64 (v2+1)) (List.take (Int.toNat (IntKind.wrap .i64 (Nat.cast v3.length-y0))) v3++(([45]:LB)++y1,5)::mt (Ty.den ty77)))) none) none) none) none) (cond (B.inb (IntKind.wrap .i64 (Nat.cast v3.length-y0)) v3.length) (cond (B.inb (IntKind.wrap .i64 (IntKind.wrap .i64 (Nat.cast v3.length-y0)+1)) v3.length) (ob (c104 (p0.getD v2.toNat ty63.dflt).1 (v3.getD (Int.toNat (IntKind.wrap .i64 (Nat.cast v3.length-y0))) ty156.dflt).1 (v3.getD (Int.toNat (IntKind.wrap .i64 (Nat.cast v3.length-y0))) ty156.dflt).2 ((v3.getD (Int.toNat (IntKind.wrap .i64 (IntKind.wrap .i64 (Nat.cast v3.length-y0)+1))) ty156.dflt).1) ((v3.getD (Int.toNat (IntKind.wrap .i64 (IntKind.wrap .i64 (Nat.cast v3.length-y0)+1))) ty156.dflt).2)) fun y1=>cond (B.inb (IntKind.wrap .i64 (Nat.cast v3.length-y0)) (List.length v3+1)) (cond (B.lim (List.length (List.take (Int.toNat (IntKind.wrap .i64 (Nat.cast v3.length-y0))) v3)+List.length ((y1.1,y1.2)::mt (Ty.den ty77))) 24) (again (.l0 v1 (IntKind.wrap .i64 (v2+1)) (List.take (Int.toNat (IntKind.wrap .i64 (Nat.cast v3.length-y0))) v3++(y1.1,y1.2)::mt (Ty.den ty77)))) none) none) none) none)))))) none) (cond (B.inb 0 v3.length) (k (v3.getD (Int.toNat 0) ty156.dflt).1) none)
def E70 (p0:L63):S70→List AV×Objs
 | .l0 v1 v2 v3=>(mk 86 [(3,.c (.own 3)),(11,.c (.list 63 ty63 p0)),(12,.c (.int .i64 v1)),(13,.c (.int .i64 v2))],[(3,.row 156 ty156 v3)])
def I70:S70→Nat
 | .l0 _ _ _=>0
noncomputable abbrev A70 {R:Type} (B:Ops) (c26:C26) (c59:C59) (c102:C102) (c103:C103) (c104:C104) (p0:L63) (k:AV→Objs→Option R) (s:S70) (n:Nat):Option R:=aloop tau B gl0 X70 (ent 26 (e26 c26) (ent 59 (e59 c59) (ent 102 (e102 c102) (ent 103 (e103 c103) (ent 104 (e104 c104) gnil))))) ow [] Tryz.f70 k (I70 s) (E70 p0 s) n
theorem eq70 {R:Type} (B:Ops) (c26:C26) (c59:C59) (c102:C102) (c103:C103) (c104:C104) (p0:L63) (k:AV→Objs→Option R) (n:Nat):afun tau B gl0 X70 (ent 26 (e26 c26) (ent 59 (e59 c59) (ent 102 (e102 c102) (ent 103 (e103 c103) (ent 104 (e104 c104) gnil))))) ow Tryz.f70 [.c (.list 63 ty63 p0)] [] k n=T70 B c26 c59 c102 c103 c104 p0 (fun s=>A70 B c26 c59 c102 c103 c104 p0 k s n) (K3 k) none:=by kernel_rfl
theorem el70 {R:Type} (B:Ops) (c26:C26) (c59:C59) (c102:C102) (c103:C103) (c104:C104) (p0:L63) (k:AV→Objs→Option R) (n:Nat):∀ s,A70 B c26 c59 c102 c103 c104 p0 k s (n+1)=T70 B c26 c59 c102 c103 c104 p0 (fun s=>A70 B c26 c59 c102 c103 c104 p0 k s n) (K3 k) (some s):=by
 intro s
 cases s<;>kernel_rfl
theorem nt70 {R R':Type} (B:Ops) (c26:C26) (c59:C59) (c102:C102) (c103:C103) (c104:C104) (p0:L63) (again:S70→Option R) (again':S70→Option R') (k0:(LB)→Option R') (k:R'→Option R) (h:∀ s,again s=ob (again' s) k):∀ s,T70 B c26 c59 c102 c103 c104 p0 again (fun y=>ob (k0 y) k) s=ob (T70 B c26 c59 c102 c103 c104 p0 again' k0 s) k:=by
 rintro (_ | x)
 all_goals try cases x
 all_goals (unfold T70;repeat' first | exact rfl | exact h _ | apply qac | (apply qai;intro))
def R70 (c26:C26) (c59:C59) (c102:C102) (c103:C103) (c104:C104) (p0:L63):Nat→S70→Option (LB)
 | 0,_=>none
 | n+1,s=>T70 Ops.std c26 c59 c102 c103 c104 p0 (R70 c26 c59 c102 c103 c104 p0 n) some (some s)
theorem rr70 {R:Type} (c26:C26) (c59:C59) (c102:C102) (c103:C103) (c104:C104) (p0:L63) (k:AV→Objs→Option R):∀ (n:Nat) (s:S70),A70 Ops.std c26 c59 c102 c103 c104 p0 k s n=ob (R70 c26 c59 c102 c103 c104 p0 n s) (K3 k)
 | 0,s=>by cases s<;>rfl
 | n+1,s=>by rw [el70];exact nt70 Ops.std c26 c59 c102 c103 c104 p0 _ _ some (K3 k) (rr70 c26 c59 c102 c103 c104 p0 k n) (some s)
def F70 (c26:C26) (c59:C59) (c102:C102) (c103:C103) (c104:C104) (p0:L63):Option (LB):=T70 Ops.std c26 c59 c102 c103 c104 p0 (R70 c26 c59 c102 c103 c104 p0 1000000) some none
abbrev C70:Type:=L63→Option (LB)
def e70 {R:Type} (c:C70):Ent R:=eG [.aC (.cL 63 ty63)] [] fun v k=>ob (c v.1) (K3 k)
abbrev Sp70 (c:C70):Prop:=∀ (p0:L63) (y:LB),c p0=some y→Spec Tryz.prog gl0 70 [.c (.list 63 ty63 p0)] [] (.c (.str y)) []
theorem ek70 {R:Type} {c:C70} (hs:Sp70 c):EOk 70 (e70 (R:=R) c):=qak fun v=>hs v.1
theorem sf70 {c26:C26} {c59:C59} {c102:C102} {c103:C103} {c104:C104} (h26:Sp26 c26) (h59:Sp59 c59) (h102:Sp102 c102) (h103:Sp103 c103) (h104:Sp104 c104):Sp70 (F70 c26 c59 c102 c103 c104):=fun p0 y hy=>by
 refine qae (qab (ek26 h26) (qab (ek59 h59) (qab (ek102 h102) (qab (ek103 h103) (qab (ek104 h104) qad))))) 1000000 (fn:=Tryz.f70) (by kernel_rfl) (by kernel_rfl) (X:=X70) (by kernel_rfl) ?_
 rw [eq70]
 exact (nt70 Ops.std c26 c59 c102 c103 c104 p0 _ _ some (K3 k0) (rr70 c26 c59 c102 c103 c104 p0 k0 1000000) none).trans (by show ob (F70 c26 c59 c102 c103 c104 p0) _=_;rw [hy];rfl)
noncomputable def M70:C70:=F70 M26 M59 M102 M103 M104
theorem sm70:Sp70 M70:=sf70 sm26 sm59 sm102 sm103 sm104
def X37:Aux:=⟨[],[(8,.lin ([0,1,3,4,5,2,6,7,8,9])),(11,.lin ([0,1,2,3,4,6,8,9,10,11,14,5,7,12,13,15,16])),(12,.lin ([0,1,2,3,5,7,8,9,10,11,14,4,6,12,13,15,16]))]⟩
def T37 {R:Type} (B:Ops) (c70:C70) (c71:C71) (c72:C72) (c73:C73) (p0:Int) (p1:L63) (p2:L77) (k:(LB×Int)→Option R):Option R:=cond (B.eq p0 1) (k ((([116,114,117,101]:LB),5))) (cond (B.eq p0 2) (k ((([102,97,108,115,101]:LB),5))) (cond (B.eq p0 3) (ob (c70 p1) fun y0=>cond (B.lim (1+List.length y0) 1) (cond (B.lim (List.length (([91]:LB)++y0)+1) 1) (k ((([91]:LB)++y0++([93]:LB),5))) none) none) (cond (B.eq (↑p2.length) 1) (cond (B.inb 0 p2.length) (ob (c71 p0) fun y0=>ob (c72 (p2.getD (Int.toNat 0) ty77.dflt).1 (p2.getD (Int.toNat 0) ty77.dflt).2 4) fun y1=>cond (B.lim (List.length y0+List.length y1) 1) (k (y0++y1,4)) none) none) (ob (c73 p0) fun y0=>cond y0.2.2 (cond (B.inb 0 p2.length) (cond (B.inb 1 p2.length) (ob (c72 (p2.getD (Int.toNat 0) ty77.dflt).1 (p2.getD (Int.toNat 0) ty77.dflt).2 (IntKind.wrap .i64 (y0.2.1+1))) fun y1=>cond (B.lim (List.length y1+List.length y0.1) 1) (ob (c72 (p2.getD (Int.toNat 1) ty77.dflt).1 (p2.getD (Int.toNat 1) ty77.dflt).2 y0.2.1) fun y2=>cond (B.lim (List.length (y1++y0.1)+List.length y2) 1) (k (y1++y0.1++y2,y0.2.1)) none) none) none) none) (cond (B.inb 0 p2.length) (cond (B.inb 1 p2.length) (ob (c72 (p2.getD (Int.toNat 0) ty77.dflt).1 (p2.getD (Int.toNat 0) ty77.dflt).2 y0.2.1) fun y1=>cond (B.lim (List.length y1+List.length y0.1) 1) (ob (c72 (p2.getD (Int.toNat 1) ty77.dflt).1 (p2.getD (Int.toNat 1) ty77.dflt).2 (IntKind.wrap .i64 (y0.2.1+1))) fun y2=>cond (B.lim (List.length (y1++y0.1)+List.length y2) 1) (k (y1++y0.1++y2,y0.2.1)) none) none) none) none)))))
theorem eq37 {R:Type} (B:Ops) (c70:C70) (c71:C71) (c72:C72) (c73:C73) (p0:Int) (p1:L63) (p2:L77) (k:AV→Objs→Option R) (n:Nat):afun tau B gl0 X37 (ent 70 (e70 c70) (ent 71 (e71 c71) (ent 72 (e72 c72) (ent 73 (e73 c73) gnil)))) ow Tryz.f37 [.agg [.int .i64 p0,.list 63 ty63 p1],.c (.list 77 ty77 p2)] [] k n=T37 B c70 c71 c72 c73 p0 p1 p2 (K7 k):=by kernel_rfl
theorem nt37 {R R':Type} (B:Ops) (c70:C70) (c71:C71) (c72:C72) (c73:C73) (p0:Int) (p1:L63) (p2:L77) (k0:(LB×Int)→Option R') (k:R'→Option R):T37 B c70 c71 c72 c73 p0 p1 p2 (fun y=>ob (k0 y) k)=ob (T37 B c70 c71 c72 c73 p0 p1 p2 k0) k:=by
 unfold T37
 repeat' first | exact rfl | apply qac | (apply qai;intro)
def F37 (c70:C70) (c71:C71) (c72:C72) (c73:C73) (p0:Int) (p1:L63) (p2:L77):Option (LB×Int):=T37 Ops.std c70 c71 c72 c73 p0 p1 p2 some
abbrev C37:Type:=Int→L63→L77→Option (LB×Int)
def e37 {R:Type} (c:C37):Ent R:=eG [.aG [.cI .i64,.cL 63 ty63],.aC (.cL 77 ty77)] [] fun v k=>ob (c v.1 v.2.1 v.2.2.1) (K7 k)
abbrev Sp37 (c:C37):Prop:=∀ (p0:Int) (p1:L63) (p2:L77) (y:LB×Int),c p0 p1 p2=some y→Spec Tryz.prog gl0 37 [.agg [.int .i64 p0,.list 63 ty63 p1],.c (.list 77 ty77 p2)] [] (.agg [.str y.1,.int .i64 y.2]) []
theorem ek37 {R:Type} {c:C37} (hs:Sp37 c):EOk 37 (e37 (R:=R) c):=qak fun v=>hs v.1 v.2.1 v.2.2.1
theorem sf37 {c70:C70} {c71:C71} {c72:C72} {c73:C73} (h70:Sp70 c70) (h71:Sp71 c71) (h72:Sp72 c72) (h73:Sp73 c73):Sp37 (F37 c70 c71 c72 c73):=fun p0 p1 p2 y hy=>by
 refine qae (qab (ek70 h70) (qab (ek71 h71) (qab (ek72 h72) (qab (ek73 h73) qad)))) 1000000 (fn:=Tryz.f37) (by kernel_rfl) (by kernel_rfl) (X:=X37) (by kernel_rfl) ?_
 rw [eq37]
 exact (nt37 Ops.std c70 c71 c72 c73 p0 p1 p2 some (K7 k0)).trans (by show ob (F37 c70 c71 c72 c73 p0 p1 p2) _=_;rw [hy];rfl)
noncomputable def M37:C37:=F37 M70 M71 M72 M73
theorem sm37:Sp37 M37:=sf37 sm70 sm71 sm72 sm73
def X15:Aux:=⟨[(5,([0,1,2,4,5,6,7,8,9]++rg 13 25))],[(8,.lin (rg 0 12))]⟩
inductive S15 where
 | l0 (v1 v2:Int) (v3:L77)
def T15 {R:Type} (B:Ops) (c9:C9) (c25:C25) (c38:C38) (c37:C37) (p0:L61) (again:S15→Option R) (k:(LB)→Option R):Option S15→Option R | none=>ob (c9 p0) fun y0=>cond (!y0) (k (mt UInt8)) (again (.l0 (↑p0.length) 0 (mt (Ty.den ty77)))) | some (.l0 v1 v2 v3)=>cond (B.lt v2 v1) (cond (B.inb v2 p0.length) (ob (c25 (p0.getD v2.toNat ty61.dflt).1) fun y0=>cond (B.inb (IntKind.wrap .i64 (Nat.cast v3.length-y0)) (List.length v3+1)) (cond (B.inb (IntKind.wrap .i64 (Nat.cast v3.length-y0)) (List.length v3+1)) (ob (c38 (List.drop (Int.toNat (IntKind.wrap .i64 (Nat.cast v3.length-y0))) (List.take v3.length v3))) fun y1=>ob (c37 (p0.getD v2.toNat ty61.dflt).1 (p0.getD v2.toNat ty61.dflt).2 y1) fun y2=>cond (B.lim (List.length (List.take (Int.toNat (IntKind.wrap .i64 (Nat.cast v3.length-y0))) v3)+List.length ((y2.1,y2.2)::mt (Ty.den ty77))) 24) (again (.l0 v1 (IntKind.wrap .i64 (v2+1)) (List.take (Int.toNat (IntKind.wrap .i64 (Nat.cast v3.length-y0))) v3++(y2.1,y2.2)::mt (Ty.den ty77)))) none) none) none) none) (cond (B.inb 0 v3.length) (k (v3.getD (Int.toNat 0) ty77.dflt).1) none)
def E15 (p0:L61):S15→List AV×Objs
 | .l0 v1 v2 v3=>(mk 38 [(3,.c (.own 3)),(10,.c (.list 61 ty61 p0)),(11,.c (.int .i64 v1)),(12,.c (.int .i64 v2))],[(3,.row 77 ty77 v3)])
def I15:S15→Nat
 | .l0 _ _ _=>0
noncomputable abbrev A15 {R:Type} (B:Ops) (c9:C9) (c25:C25) (c38:C38) (c37:C37) (p0:L61) (k:AV→Objs→Option R) (s:S15) (n:Nat):Option R:=aloop tau B gl0 X15 (ent 9 (e9 c9) (ent 25 (e25 c25) (ent 38 (e38 c38) (ent 37 (e37 c37) gnil)))) ow [] Tryz.f15 k (I15 s) (E15 p0 s) n
theorem eq15 {R:Type} (B:Ops) (c9:C9) (c25:C25) (c38:C38) (c37:C37) (p0:L61) (k:AV→Objs→Option R) (n:Nat):afun tau B gl0 X15 (ent 9 (e9 c9) (ent 25 (e25 c25) (ent 38 (e38 c38) (ent 37 (e37 c37) gnil)))) ow Tryz.f15 [.c (.list 61 ty61 p0)] [] k n=T15 B c9 c25 c38 c37 p0 (fun s=>A15 B c9 c25 c38 c37 p0 k s n) (K3 k) none:=by kernel_rfl
theorem el15 {R:Type} (B:Ops) (c9:C9) (c25:C25) (c38:C38) (c37:C37) (p0:L61) (k:AV→Objs→Option R) (n:Nat):∀ s,A15 B c9 c25 c38 c37 p0 k s (n+1)=T15 B c9 c25 c38 c37 p0 (fun s=>A15 B c9 c25 c38 c37 p0 k s n) (K3 k) (some s):=by
 intro s
 cases s<;>kernel_rfl
theorem nt15 {R R':Type} (B:Ops) (c9:C9) (c25:C25) (c38:C38) (c37:C37) (p0:L61) (again:S15→Option R) (again':S15→Option R') (k0:(LB)→Option R') (k:R'→Option R) (h:∀ s,again s=ob (again' s) k):∀ s,T15 B c9 c25 c38 c37 p0 again (fun y=>ob (k0 y) k) s=ob (T15 B c9 c25 c38 c37 p0 again' k0 s) k:=by
 rintro (_ | x)
 all_goals try cases x
 all_goals (unfold T15;repeat' first | exact rfl | exact h _ | apply qac | (apply qai;intro))
def R15 (c9:C9) (c25:C25) (c38:C38) (c37:C37) (p0:L61):Nat→S15→Option (LB)
 | 0,_=>none
 | n+1,s=>T15 Ops.std c9 c25 c38 c37 p0 (R15 c9 c25 c38 c37 p0 n) some (some s)
theorem rr15 {R:Type} (c9:C9) (c25:C25) (c38:C38) (c37:C37) (p0:L61) (k:AV→Objs→Option R):∀ (n:Nat) (s:S15),A15 Ops.std c9 c25 c38 c37 p0 k s n=ob (R15 c9 c25 c38 c37 p0 n s) (K3 k)
 | 0,s=>by cases s<;>rfl
 | n+1,s=>by rw [el15];exact nt15 Ops.std c9 c25 c38 c37 p0 _ _ some (K3 k) (rr15 c9 c25 c38 c37 p0 k n) (some s)
def F15 (c9:C9) (c25:C25) (c38:C38) (c37:C37) (p0:L61):Option (LB):=T15 Ops.std c9 c25 c38 c37 p0 (R15 c9 c25 c38 c37 p0 1000000) some none
abbrev C15:Type:=L61→Option (LB)
def e15 {R:Type} (c:C15):Ent R:=eG [.aC (.cL 61 ty61)] [] fun v k=>ob (c v.1) (K3 k)
abbrev Sp15 (c:C15):Prop:=∀ (p0:L61) (y:LB),c p0=some y→Spec Tryz.prog gl0 15 [.c (.list 61 ty61 p0)] [] (.c (.str y)) []
theorem ek15 {R:Type} {c:C15} (hs:Sp15 c):EOk 15 (e15 (R:=R) c):=qak fun v=>hs v.1
theorem sf15 {c9:C9} {c25:C25} {c38:C38} {c37:C37} (h9:Sp9 c9) (h25:Sp25 c25) (h38:Sp38 c38) (h37:Sp37 c37):Sp15 (F15 c9 c25 c38 c37):=fun p0 y hy=>by
 refine qae (qab (ek9 h9) (qab (ek25 h25) (qab (ek38 h38) (qab (ek37 h37) qad)))) 1000000 (fn:=Tryz.f15) (by kernel_rfl) (by kernel_rfl) (X:=X15) (by kernel_rfl) ?_
 rw [eq15]
 exact (nt15 Ops.std c9 c25 c38 c37 p0 _ _ some (K3 k0) (rr15 c9 c25 c38 c37 p0 k0 1000000) none).trans (by show ob (F15 c9 c25 c38 c37 p0) _=_;rw [hy];rfl)
noncomputable def M15:C15:=F15 M9 M25 M38 M37
theorem sm15:Sp15 M15:=sf15 sm9 sm25 sm38 sm37
def X4:Aux:=⟨[],[]⟩
def T4 {R:Type} (B:Ops) (c17:C17) (c15:C15) (c9:C9) (k:(Bool)→Option R):Option R:=ob (c17 ([71,40,40,70,32,91,120,61,61,49,93,41,45,62,91,112,64,97,93,85,32,116,114,117,101,41]:LB)) fun y0=>cond (B.eq y0.1 0) (cond (B.eq (Nat.cast (List.length y0.2.2)) 7) (ob (c15 y0.2.2) fun y1=>cond (y1 == ([71,32,40,70,32,91,120,61,61,49,93,32,45,62,32,91,112,64,97,93,32,85,32,116,114,117,101,41]:LB)) (ob (c9 y0.2.2) fun y2=>k y2) (k false)) (k false)) (k false)
theorem eq4 {R:Type} (B:Ops) (c17:C17) (c15:C15) (c9:C9) (k:AV→Objs→Option R) (n:Nat):afun tau B gl0 X4 (ent 17 (e17 c17) (ent 15 (e15 c15) (ent 9 (e9 c9) gnil))) ow Tryz.f4 [] [] k n=T4 B c17 c15 c9 (K2 k):=by kernel_rfl
theorem nt4 {R R':Type} (B:Ops) (c17:C17) (c15:C15) (c9:C9) (k0:(Bool)→Option R') (k:R'→Option R):T4 B c17 c15 c9 (fun y=>ob (k0 y) k)=ob (T4 B c17 c15 c9 k0) k:=by
 unfold T4
 repeat' first | exact rfl | apply qac | (apply qai;intro)
def F4 (c17:C17) (c15:C15) (c9:C9):Option (Bool):=T4 Ops.std c17 c15 c9 some
abbrev C4:Type:=Option (Bool)
def e4 {R:Type} (c:C4):Ent R:=eG [] [] fun _ k=>ob c (K2 k)
abbrev Sp4 (c:C4):Prop:=∀ (y:Bool),c=some y→Spec Tryz.prog gl0 4 [] [] (.c (.bool y)) []
theorem ek4 {R:Type} {c:C4} (hs:Sp4 c):EOk 4 (e4 (R:=R) c):=qak fun _=>hs
theorem sf4 {c17:C17} {c15:C15} {c9:C9} (h17:Sp17 c17) (h15:Sp15 c15) (h9:Sp9 c9):Sp4 (F4 c17 c15 c9):=fun y hy=>by
 refine qae (qab (ek17 h17) (qab (ek15 h15) (qab (ek9 h9) qad))) 1000000 (fn:=Tryz.f4) (by kernel_rfl) (by kernel_rfl) (X:=X4) (by kernel_rfl) ?_
 rw [eq4]
 exact (nt4 Ops.std c17 c15 c9 some (K2 k0)).trans (by show ob (F4 c17 c15 c9) _=_;rw [hy];rfl)
noncomputable def M4:C4:=F4 M17 M15 M9
theorem sm4:Sp4 M4:=sf4 sm17 sm15 sm9
def X3:Aux:=⟨[],[(6,.lin ([0,1,2,4,3,5,6,7,8,9,10,12,13,11,14,15,16,17,18,19,21,22,20,23,24,25,26,27,29,28,30,31,32,33]))]⟩
def T3 {R:Type} (B:Ops) (c4:C4) (c6:C6) (c5:C5) (c7:C7) (c8:C8) (c9:C9) (c10:C10) (c11:C11) (c12:C12) (c13:C13) (c14:C14) (c15:C15) (c16:C16) (p0:L3) (p1 p2 p3 p4 p5:Int) (p6:L22) (k:(Bool)→Option R):Option R:=ob (c4) fun y0=>cond (!y0) (k false) (ob (c6 p0) fun y1=>ob (c5 y1) fun y2=>ob (c7 y2.2.2 p1 p2 p3) fun y3=>ob (c8 p4 p5 p6) fun y4=>ob (c4) fun y5=>cond (y5) (ob (c9 y3) fun y6=>ob (c10 y3) fun y7=>cond (y6 == y7) (ob (c11 y4.1 y4.2.1 y4.2.2 y3) fun y8=>ob (c12 y4.1 y4.2.1 y4.2.2 y3) fun y9=>cond (y8 == y9) (ob (c13 y2.2.2 y3) fun y10=>ob (c14 y2.2.2 y3) fun y11=>cond (y10 == y11) (ob (c15 y3) fun y12=>ob (c16 y3) fun y13=>k (y12 == y13)) (k false)) (k false)) (k false)) (k false))
theorem eq3 {R:Type} (B:Ops) (c4:C4) (c6:C6) (c5:C5) (c7:C7) (c8:C8) (c9:C9) (c10:C10) (c11:C11) (c12:C12) (c13:C13) (c14:C14) (c15:C15) (c16:C16) (p0:L3) (p1 p2 p3 p4 p5:Int) (p6:L22) (k:AV→Objs→Option R) (n:Nat):afun tau B gl0 X3 (ent 4 (e4 c4) (ent 6 (e6 c6) (ent 5 (e5 c5) (ent 7 (e7 c7) (ent 8 (e8 c8) (ent 9 (e9 c9) (ent 10 (e10 c10) (ent 11 (e11 c11) (ent 12 (e12 c12) (ent 13 (e13 c13) (ent 14 (e14 c14) (ent 15 (e15 c15) (ent 16 (e16 c16) gnil))))))))))))) ow Tryz.f3 [.c (.list 3 ty3 p0),.c (.int .i64 p1),.c (.int .i64 p2),.c (.int .i64 p3),.agg [.int .i64 p4,.int .i64 p5,.list 22 ty22 p6]] [] k n=T3 B c4 c6 c5 c7 c8 c9 c10 c11 c12 c13 c14 c15 c16 p0 p1 p2 p3 p4 p5 p6 (K2 k):=by kernel_rfl
theorem nt3 {R R':Type} (B:Ops) (c4:C4) (c6:C6) (c5:C5) (c7:C7) (c8:C8) (c9:C9) (c10:C10) (c11:C11) (c12:C12) (c13:C13) (c14:C14) (c15:C15) (c16:C16) (p0:L3) (p1 p2 p3 p4 p5:Int) (p6:L22) (k0:(Bool)→Option R') (k:R'→Option R):T3 B c4 c6 c5 c7 c8 c9 c10 c11 c12 c13 c14 c15 c16 p0 p1 p2 p3 p4 p5 p6 (fun y=>ob (k0 y) k)=ob (T3 B c4 c6 c5 c7 c8 c9 c10 c11 c12 c13 c14 c15 c16 p0 p1 p2 p3 p4 p5 p6 k0) k:=by
 unfold T3
 repeat' first | exact rfl | apply qac | (apply qai;intro)
def F3 (c4:C4) (c6:C6) (c5:C5) (c7:C7) (c8:C8) (c9:C9) (c10:C10) (c11:C11) (c12:C12) (c13:C13) (c14:C14) (c15:C15) (c16:C16) (p0:L3) (p1 p2 p3 p4 p5:Int) (p6:L22):Option (Bool):=T3 Ops.std c4 c6 c5 c7 c8 c9 c10 c11 c12 c13 c14 c15 c16 p0 p1 p2 p3 p4 p5 p6 some
abbrev C3:Type:=L3→Int→Int→Int→Int→Int→L22→Option (Bool)
def e3 {R:Type} (c:C3):Ent R:=eG [.aC (.cL 3 ty3),.aC (.cI .i64),.aC (.cI .i64),.aC (.cI .i64),.aG [.cI .i64,.cI .i64,.cL 22 ty22]] [] fun v k=>ob (c v.1 v.2.1 v.2.2.1 v.2.2.2.1 v.2.2.2.2.1 v.2.2.2.2.2.1 v.2.2.2.2.2.2.1) (K2 k)
abbrev Sp3 (c:C3):Prop:=∀ (p0:L3) (p1 p2 p3 p4 p5:Int) (p6:L22) (y:Bool),c p0 p1 p2 p3 p4 p5 p6=some y→Spec Tryz.prog gl0 3 [.c (.list 3 ty3 p0),.c (.int .i64 p1),.c (.int .i64 p2),.c (.int .i64 p3),.agg [.int .i64 p4,.int .i64 p5,.list 22 ty22 p6]] [] (.c (.bool y)) []
theorem sf3 {c4:C4} {c6:C6} {c5:C5} {c7:C7} {c8:C8} {c9:C9} {c10:C10} {c11:C11} {c12:C12} {c13:C13} {c14:C14} {c15:C15} {c16:C16} (h4:Sp4 c4) (h6:Sp6 c6) (h5:Sp5 c5) (h7:Sp7 c7) (h8:Sp8 c8) (h9:Sp9 c9) (h10:Sp10 c10) (h11:Sp11 c11) (h12:Sp12 c12) (h13:Sp13 c13) (h14:Sp14 c14) (h15:Sp15 c15) (h16:Sp16 c16):Sp3 (F3 c4 c6 c5 c7 c8 c9 c10 c11 c12 c13 c14 c15 c16):=fun p0 p1 p2 p3 p4 p5 p6 y hy=>by
 refine qae (qab (ek4 h4) (qab (ek6 h6) (qab (ek5 h5) (qab (ek7 h7) (qab (ek8 h8) (qab (ek9 h9) (qab (ek10 h10) (qab (ek11 h11) (qab (ek12 h12) (qab (ek13 h13) (qab (ek14 h14) (qab (ek15 h15) (qab (ek16 h16) qad))))))))))))) 1000000 (fn:=Tryz.f3) (by kernel_rfl) (by kernel_rfl) (X:=X3) (by kernel_rfl) ?_
 rw [eq3]
 exact (nt3 Ops.std c4 c6 c5 c7 c8 c9 c10 c11 c12 c13 c14 c15 c16 p0 p1 p2 p3 p4 p5 p6 some (K2 k0)).trans (by show ob (F3 c4 c6 c5 c7 c8 c9 c10 c11 c12 c13 c14 c15 c16 p0 p1 p2 p3 p4 p5 p6) _=_;rw [hy];rfl)
noncomputable def M3:C3:=F3 M4 M6 M5 M7 M8 M9 M10 M11 M12 M13 M14 M15 M16
theorem sm3:Sp3 M3:=sf3 sm4 sm6 sm5 sm7 sm8 sm9 sm10 sm11 sm12 sm13 sm14 sm15 sm16
end Go.Proofs.YtkmpkebaloejhaaGreatDoor.Av
