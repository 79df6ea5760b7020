/- Twins of functions,printed by gen.py. Conditions: none. -/
import Derived.Test.YtkmpkebaloejhaaDoorFb2
import Derived.KernelRfl
set_option linter.unusedSimpArgs false
set_option linter.unusedVariables false
set_option maxRecDepth 100000
set_option maxHeartbeats 8000000
namespace Go.Proofs.YtkmpkebaloejhaaDoor.Av
open Go
def X11:Aux:=⟨[(13,([0,1,2,3,4,6,7,9,10,11]++rg 14 46++rg 61 75))],[(27,.lin (rg 0 24))]⟩
inductive S11 where
 | l0 (v0:LB) (v1:Int) (v2:L78) (v3:L3) (v4:LB) (v5:Nat)
def T11 {R:Type} (B:Ops) (c38:C38) (c40:C40) (c15:C15) (c39:C39) (c42:C42) (c43:C43) (p0 p1:L3) (again:S11→Option R) (k:(Bool)→Option R):Option S11→Option R | none=>ob (c38) fun y0=>cond (!y0) (k false) (ob (c40 p0) fun y1=>ob (c15 y1 p1) fun y2=>ob (c39 y2) fun y3=>ob (c38) fun y4=>cond (!y4) (ob (c38) fun y5=>k y5) (cond (!B.eq y3.1 0) (ob (c38) fun y5=>k y5) (ob (c42 y3.2.2) fun y5=>ob (c39 y5) fun y6=>cond (!B.eq y6.1 0) (k false) (ob (c43 y3.2.2 y6.2.2) fun y7=>cond (!y7) (k false) (ob (c42 y6.2.2) fun y8=>cond (!y8 == y5) (k false) (again (.l0 y5 0 y3.2.2 (mt (Ty.den (Ty.int .i64))) y5 0))))))) | some (.l0 v0 v1 v2 v3 v4 v5)=>cond (B.lt (Nat.cast v5) (↑v4.length)) (cond (B.lt (Nat.cast (UInt8.toNat (v4.getD v5 0))) 128) (cond (B.inb (Nat.cast v5) v0.length) (cond (B.eq (Nat.cast (UInt8.toNat (v0.getD (Int.toNat (Nat.cast v5)) 0))) 91) (again (.l0 v0 (IntKind.wrap .i64 (v1+1)) v2 v3 v4 (v5+1))) (cond (B.eq (Nat.cast (UInt8.toNat (v0.getD (Int.toNat (Nat.cast v5)) 0))) 93) (again (.l0 v0 (IntKind.wrap .i64 (v1-1)) v2 v3 v4 (v5+1))) (cond (B.eq (Nat.cast (UInt8.toNat (v0.getD (Int.toNat (Nat.cast v5)) 0))) 40) (cond (B.lim (List.length v3+List.length (Nat.cast v5::mt (Ty.den (Ty.int .i64)))) 8) (again (.l0 v0 v1 v2 (v3++Nat.cast v5::mt (Ty.den (Ty.int .i64))) v4 (v5+1))) none) (cond (B.eq (Nat.cast (UInt8.toNat (v0.getD (Int.toNat (Nat.cast v5)) 0))) 41) (cond (B.eq (↑v3.length) 0) (k false) (cond (B.inb (IntKind.wrap .i64 (Nat.cast v3.length-1)) v3.length) (cond (B.inb (IntKind.wrap .i64 (Nat.cast v3.length-1)) (List.length v3+1)) (cond (B.inb (v3.getD (Int.toNat (IntKind.wrap .i64 (Nat.cast v3.length-1))) ty3.dflt) (List.length v0+1)) (cond (B.lim (List.length (List.drop 0 (List.take (Int.toNat (v3.getD (Int.toNat (IntKind.wrap .i64 (Nat.cast v3.length-1))) ty3.dflt)) v0))+1) 1) (cond (B.inb (Nat.cast v5) (List.length v0+1)) (cond (bif B.le 0 (IntKind.wrap .i64 (v3.getD (Int.toNat (IntKind.wrap .i64 (Nat.cast v3.length-1))) ty3.dflt+1)) then B.le (IntKind.wrap .i64 (v3.getD (Int.toNat (IntKind.wrap .i64 (Nat.cast v3.length-1))) ty3.dflt+1)) (Nat.cast v5) else false) (cond (B.lim (List.length (List.drop 0 (List.take (Int.toNat (v3.getD (Int.toNat (IntKind.wrap .i64 (Nat.cast v3.length-1))) ty3.dflt)) v0)++([32]:LB))+List.length (List.drop (Int.toNat (IntKind.wrap .i64 (v3.getD (Int.toNat (IntKind.wrap .i64 (Nat.cast v3.length-1))) ty3.dflt+1))) (List.take (Int.toNat (Nat.cast v5)) v0))) 1) (cond (B.lim (List.length (List.drop 0 (List.take (Int.toNat (v3.getD (Int.toNat (IntKind.wrap .i64 (Nat.cast v3.length-1))) ty3.dflt)) v0)++([32]:LB)++List.drop (Int.toNat (IntKind.wrap .i64 (v3.getD (Int.toNat (IntKind.wrap .i64 (Nat.cast v3.length-1))) ty3.dflt+1))) (List.take (Int.toNat (Nat.cast v5)) v0))+1) 1) (cond (B.inb (IntKind.wrap .i64 (Nat.cast v5+1)) (List.length v0+1)) (cond (B.lim (List.length (List.drop 0 (List.take (Int.toNat (v3.getD (Int.toNat (IntKind.wrap .i64 (Nat.cast v3.length-1))) ty3.dflt)) v0)++([32]:LB)++List.drop (Int.toNat (IntKind.wrap .i64 (v3.getD (Int.toNat (IntKind.wrap .i64 (Nat.cast v3.length-1))) ty3.dflt+1))) (List.take (Int.toNat (Nat.cast v5)) v0)++([32]:LB))+List.length (List.drop (Int.toNat (IntKind.wrap .i64 (Nat.cast v5+1))) (List.take v0.length v0))) 1) (ob (c39 (List.drop 0 (List.take (Int.toNat (v3.getD (Int.toNat (IntKind.wrap .i64 (Nat.cast v3.length-1))) ty3.dflt)) v0)++([32]:LB)++List.drop (Int.toNat (IntKind.wrap .i64 (v3.getD (Int.toNat (IntKind.wrap .i64 (Nat.cast v3.length-1))) ty3.dflt+1))) (List.take (Int.toNat (Nat.cast v5)) v0)++([32]:LB)++List.drop (Int.toNat (IntKind.wrap .i64 (Nat.cast v5+1))) (List.take v0.length v0))) fun y0=>cond (B.eq v1 0) (cond (B.eq y0.1 0) (ob (c43 v2 y0.2.2) fun y1=>cond (y1) (k false) (again (.l0 v0 v1 v2 (List.take (Int.toNat (IntKind.wrap .i64 (Nat.cast v3.length-1))) v3) v4 (v5+1)))) (again (.l0 v0 v1 v2 (List.take (Int.toNat (IntKind.wrap .i64 (Nat.cast v3.length-1))) v3) v4 (v5+1)))) (again (.l0 v0 v1 v2 (List.take (Int.toNat (IntKind.wrap .i64 (Nat.cast v3.length-1))) v3) v4 (v5+1)))) none) none) none) none) none) none) none) none) none) none)) (again (.l0 v0 v1 v2 v3 v4 (v5+1))))))) none) none) (cond (B.eq v1 0) (k (B.eq (↑v3.length) 0)) (k false))
def E11 (p0 p1:L3):S11→List AV×Objs
 | .l0 v0 v1 v2 v3 v4 v5=>(mk 136 [(5,.c (.own 5)),(8,.c (.str v0)),(12,.c (.int .i64 v1)),(13,.c (.own 13)),(60,.c (.own 60))],[(5,.row 78 ty78 v2),(13,.row 3 ty3 v3),(60,.it v4 v5)])
def I11:S11→Nat
 | .l0 _ _ _ _ _ _=>0
noncomputable abbrev A11 {R:Type} (B:Ops) (c38:C38) (c40:C40) (c15:C15) (c39:C39) (c42:C42) (c43:C43) (p0 p1:L3) (k:AV→Objs→Option R) (s:S11) (n:Nat):Option R:=aloop tau B gl0 X11 (ent 38 (e38 c38) (ent 40 (e40 c40) (ent 15 (e15 c15) (ent 39 (e39 c39) (ent 42 (e42 c42) (ent 43 (e43 c43) gnil)))))) ow [] Tryd.f11 k (I11 s) (E11 p0 p1 s) n
theorem eq11 {R:Type} (B:Ops) (c38:C38) (c40:C40) (c15:C15) (c39:C39) (c42:C42) (c43:C43) (p0 p1:L3) (k:AV→Objs→Option R) (n:Nat):afun tau B gl0 X11 (ent 38 (e38 c38) (ent 40 (e40 c40) (ent 15 (e15 c15) (ent 39 (e39 c39) (ent 42 (e42 c42) (ent 43 (e43 c43) gnil)))))) ow Tryd.f11 [.c (.list 3 ty3 p0),.c (.list 3 ty3 p1)] [] k n=T11 B c38 c40 c15 c39 c42 c43 p0 p1 (fun s=>A11 B c38 c40 c15 c39 c42 c43 p0 p1 k s n) (K2 k) none:=by kernel_rfl
theorem el11 {R:Type} (B:Ops) (c38:C38) (c40:C40) (c15:C15) (c39:C39) (c42:C42) (c43:C43) (p0 p1:L3) (k:AV→Objs→Option R) (n:Nat):∀ s,A11 B c38 c40 c15 c39 c42 c43 p0 p1 k s (n+1)=T11 B c38 c40 c15 c39 c42 c43 p0 p1 (fun s=>A11 B c38 c40 c15 c39 c42 c43 p0 p1 k s n) (K2 k) (some s):=by
 intro s
 cases s<;>kernel_rfl
theorem nt11 {R R':Type} (B:Ops) (c38:C38) (c40:C40) (c15:C15) (c39:C39) (c42:C42) (c43:C43) (p0 p1:L3) (again:S11→Option R) (again':S11→Option R') (k0:(Bool)→Option R') (k:R'→Option R) (h:∀ s,again s=ob (again' s) k):∀ s,T11 B c38 c40 c15 c39 c42 c43 p0 p1 again (fun y=>ob (k0 y) k) s=ob (T11 B c38 c40 c15 c39 c42 c43 p0 p1 again' k0 s) k:=by
 rintro (_ | x)
 all_goals try cases x
 all_goals (unfold T11;repeat' first | exact rfl | exact h _ | apply qac | (apply qai;intro))
def R11 (c38:C38) (c40:C40) (c15:C15) (c39:C39) (c42:C42) (c43:C43) (p0 p1:L3):Nat→S11→Option (Bool)
 | 0,_=>none
 | n+1,s=>T11 Ops.std c38 c40 c15 c39 c42 c43 p0 p1 (R11 c38 c40 c15 c39 c42 c43 p0 p1 n) some (some s)
theorem rr11 {R:Type} (c38:C38) (c40:C40) (c15:C15) (c39:C39) (c42:C42) (c43:C43) (p0 p1:L3) (k:AV→Objs→Option R):∀ (n:Nat) (s:S11),A11 Ops.std c38 c40 c15 c39 c42 c43 p0 p1 k s n=ob (R11 c38 c40 c15 c39 c42 c43 p0 p1 n s) (K2 k)
 | 0,s=>by cases s<;>rfl
 | n+1,s=>by rw [el11];exact nt11 Ops.std c38 c40 c15 c39 c42 c43 p0 p1 _ _ some (K2 k) (rr11 c38 c40 c15 c39 c42 c43 p0 p1 k n) (some s)
def F11 (c38:C38) (c40:C40) (c15:C15) (c39:C39) (c42:C42) (c43:C43) (p0 p1:L3):Option (Bool):=T11 Ops.std c38 c40 c15 c39 c42 c43 p0 p1 (R11 c38 c40 c15 c39 c42 c43 p0 p1 1000000) some none
abbrev C11:Type:=L3→L3→Option (Bool)
abbrev Sp11 (c:C11):Prop:=∀ (p0 p1:L3) (y:Bool),c p0 p1=some y→Spec Tryd.prog gl0 11 [.c (.list 3 ty3 p0),.c (.list 3 ty3 p1)] [] (.c (.bool y)) []
theorem sf11 {c38:C38} {c40:C40} {c15:C15} {c39:C39} {c42:C42} {c43:C43} (h38:Sp38 c38) (h40:Sp40 c40) (h15:Sp15 c15) (h39:Sp39 c39) (h42:Sp42 c42) (h43:Sp43 c43):Sp11 (F11 c38 c40 c15 c39 c42 c43):=fun p0 p1 y hy=>by
 refine qae (qab (ek38 h38) (qab (ek40 h40) (qab (ek15 h15) (qab (ek39 h39) (qab (ek42 h42) (qab (ek43 h43) qad)))))) 1000000 (fn:=Tryd.f11) (by kernel_rfl) (by kernel_rfl) (X:=X11) (by kernel_rfl) ?_
 rw [eq11]
 exact (nt11 Ops.std c38 c40 c15 c39 c42 c43 p0 p1 _ _ some (K2 k0) (rr11 c38 c40 c15 c39 c42 c43 p0 p1 k0 1000000) none).trans (by show ob (F11 c38 c40 c15 c39 c42 c43 p0 p1) _=_;rw [hy];rfl)
noncomputable def M11:C11:=F11 M38 M40 M15 M39 M42 M43
theorem sm11:Sp11 M11:=sf11 sm38 sm40 sm15 sm39 sm42 sm43
end Go.Proofs.YtkmpkebaloejhaaDoor.Av
