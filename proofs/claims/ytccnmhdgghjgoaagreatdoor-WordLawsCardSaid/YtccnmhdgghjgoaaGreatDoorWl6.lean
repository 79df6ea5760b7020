/- Twins of functions,printed by gen.py. Conditions: none. -/
import Derived.Test.YtccnmhdgghjgoaaGreatDoorWl5
import Derived.KernelRfl
set_option linter.unusedSimpArgs false
set_option linter.unusedVariables false
set_option maxRecDepth 100000
set_option maxHeartbeats 8000000
namespace Go.Proofs.YtccnmhdgghjgoaaGreatDoor.Av
open Go
def X77:Aux:=⟨[(2,([0,2,3,4,5]++rg 9 33))],[(4,.lin (rg 0 20))]⟩
inductive S77 where
 | l0 (v1 v2:Int)
def T77 {R:Type} (B:Ops) (c136:C136) (c137:C137) (p0:L94) (p1:L98) (p2:L103) (again:S77→Option R) (k:(Bool)→Option R):Option S77→Option R | none=>again (.l0 (↑p2.length) 0) | some (.l0 v1 v2)=>cond (B.lt v2 v1) (cond (B.inb v2 p2.length) (ob (c136 p0 p1 p2 ((p2.getD v2.toNat ty103.dflt).1) (((p2.getD v2.toNat ty103.dflt).2).1) ((((p2.getD v2.toNat ty103.dflt).2).2).1) (((((p2.getD v2.toNat ty103.dflt).2).2).2).1) ((((((p2.getD v2.toNat ty103.dflt).2).2).2).2).1) (Prod.fst ((((((p2.getD v2.toNat ty103.dflt).2).2).2).2).2)) (Prod.snd ((((((p2.getD v2.toNat ty103.dflt).2).2).2).2).2))) fun y0=>cond (!y0) (k false) (cond (B.lt 0 v2) (cond (B.inb (IntKind.wrap .i64 (v2-1)) p2.length) (cond (B.le ((p2.getD v2.toNat ty103.dflt).1) ((p2.getD (Int.toNat (IntKind.wrap .i64 (v2-1))) ty103.dflt).1)) (k false) (again (.l0 v1 (IntKind.wrap .i64 (v2+1))))) none) (again (.l0 v1 (IntKind.wrap .i64 (v2+1)))))) none) (ob (c137 p0 p1 p2) fun y0=>cond (y0) (k (B.le (↑p2.length) 16)) (k false))
def E77 (p0:L94) (p1:L98) (p2:L103):S77→List AV×Objs
 | .l0 v1 v2=>(mk 42 [(1,.c (.ptr 1 0)),(6,.c (.list 103 ty103 p2)),(7,.c (.int .i64 v1)),(8,.c (.int .i64 v2))],[(1,.box 31 [.list 94 ty94 p0,.list 98 ty98 p1,.list 103 ty103 p2])])
def I77:S77→Nat
 | .l0 _ _=>0
theorem eq77 {R:Type} (B:Ops) (c136:C136) (c137:C137) (p0:L94) (p1:L98) (p2:L103) (k:AV→Objs→Option R) (n:Nat):afun tau B gl0 X77 (ent 136 (e136 c136) (ent 137 (e137 c137) gnil)) ow Tryz.f77 [.agg [.list 94 ty94 p0,.list 98 ty98 p1,.list 103 ty103 p2]] [] k n=T77 B c136 c137 p0 p1 p2 (fun s=>aloop tau B gl0 X77 (ent 136 (e136 c136) (ent 137 (e137 c137) gnil)) ow [] Tryz.f77 k (I77 s) (E77 p0 p1 p2 s) n) (K2 k) none:=by kernel_rfl
theorem el77 {R:Type} (B:Ops) (c136:C136) (c137:C137) (p0:L94) (p1:L98) (p2:L103) (k:AV→Objs→Option R) (n:Nat):∀ s,aloop tau B gl0 X77 (ent 136 (e136 c136) (ent 137 (e137 c137) gnil)) ow [] Tryz.f77 k (I77 s) (E77 p0 p1 p2 s) (n+1)=T77 B c136 c137 p0 p1 p2 (fun s=>aloop tau B gl0 X77 (ent 136 (e136 c136) (ent 137 (e137 c137) gnil)) ow [] Tryz.f77 k (I77 s) (E77 p0 p1 p2 s) n) (K2 k) (some s):=by
 intro s
 cases s<;>kernel_rfl
theorem nt77 {R R':Type} (B:Ops) (c136:C136) (c137:C137) (p0:L94) (p1:L98) (p2:L103) (again:S77→Option R) (again':S77→Option R') (k0:(Bool)→Option R') (k:R'→Option R) (h:∀ s,again s=ob (again' s) k):∀ s,T77 B c136 c137 p0 p1 p2 again (fun y=>ob (k0 y) k) s=ob (T77 B c136 c137 p0 p1 p2 again' k0 s) k:=by
 rintro (_ | x)
 all_goals try cases x
 all_goals (unfold T77;repeat' first | exact rfl | exact h _ | apply qad | (apply qaj;intro))
def R77 (c136:C136) (c137:C137) (p0:L94) (p1:L98) (p2:L103):Nat→S77→Option (Bool)
 | 0,_=>none
 | n+1,s=>T77 Ops.std c136 c137 p0 p1 p2 (R77 c136 c137 p0 p1 p2 n) some (some s)
theorem rr77 {R:Type} (c136:C136) (c137:C137) (p0:L94) (p1:L98) (p2:L103) (k:AV→Objs→Option R):∀ (n:Nat) (s:S77),aloop tau Ops.std gl0 X77 (ent 136 (e136 c136) (ent 137 (e137 c137) gnil)) ow [] Tryz.f77 k (I77 s) (E77 p0 p1 p2 s) n=ob (R77 c136 c137 p0 p1 p2 n s) (K2 k)
 | 0,s=>by cases s<;>rfl
 | n+1,s=>by rw [el77];exact nt77 Ops.std c136 c137 p0 p1 p2 _ _ some (K2 k) (rr77 c136 c137 p0 p1 p2 k n) (some s)
def F77 (c136:C136) (c137:C137) (p0:L94) (p1:L98) (p2:L103):Option (Bool):=T77 Ops.std c136 c137 p0 p1 p2 (R77 c136 c137 p0 p1 p2 1000000) some none
abbrev C77:Type:=L94→L98→L103→Option (Bool)
def e77 {R:Type} (c:C77):Ent R:=eG [.aG [.cL 94 ty94,.cL 98 ty98,.cL 103 ty103]] [] fun v k=>ob (c v.1 v.2.1 v.2.2.1) (K2 k)
abbrev Sp77 (c:C77):Prop:=∀ (p0:L94) (p1:L98) (p2:L103) (y:Bool),c p0 p1 p2=some y→Spec Tryz.prog gl0 77 [.agg [.list 94 ty94 p0,.list 98 ty98 p1,.list 103 ty103 p2]] [] (.c (.bool y)) []
theorem ek77 {R:Type} {c:C77} (hs:Sp77 c):EOk 77 (e77 (R:=R) c):=qal fun v=>hs v.1 v.2.1 v.2.2.1
theorem sf77 {c136:C136} {c137:C137} (h136:Sp136 c136) (h137:Sp137 c137):Sp77 (F77 c136 c137):=fun p0 p1 p2 y hy=>by
 refine qai (qaf (ek136 h136) (qaf (ek137 h137) qah)) 1000000 (fn:=Tryz.f77) (by kernel_rfl) (by kernel_rfl) (X:=X77) (by kernel_rfl) ?_
 rw [eq77]
 exact (nt77 Ops.std c136 c137 p0 p1 p2 _ _ some (K2 k0) (rr77 c136 c137 p0 p1 p2 k0 1000000) none).trans (by show ob (F77 c136 c137 p0 p1 p2) _=_;rw [hy];rfl)
noncomputable def M77:C77:=F77 M136 M137
theorem sm77:Sp77 M77:=sf77 sm136 sm137
def X80:Aux:=⟨[(4,([0,1]++rg 4 27++rg 34 49)),(10,([0,1,2]++rg 4 53++rg 60 23))],[(6,.lin (rg 0 17)),(12,.lin (rg 0 18))]⟩
inductive S80 where
 | l0 (v1 v2:Int)
 | l1 (v1 v2:Int)
def T80 {R:Type} (B:Ops) (c77:C77) (p0:L94) (p1:L98) (p2:L103) (p3 p4:L3) (again:S80→Option R) (k:(Bool)→Option R):Option S80→Option R | none=>ob (c77 p0 p1 p2) fun y0=>cond (!y0) (k false) (cond (!B.eq (↑p3.length) (↑p1.length)) (k false) (cond (!B.eq (↑p4.length) (↑p0.length)) (k false) (again (.l0 (↑p1.length) 0)))) | some (.l0 v1 v2)=>cond (B.lt v2 v1) (cond (B.inb v2 p1.length) (cond (B.inb v2 p3.length) (cond (B.lt (p3.getD v2.toNat ty3.dflt) 0) (k false) (cond (B.inb v2 p3.length) (cond (B.le (Nat.cast (List.length ((p1.getD v2.toNat ty98.dflt).2))) (p3.getD v2.toNat ty3.dflt)) (k false) (again (.l0 v1 (IntKind.wrap .i64 (v2+1))))) none)) none) none) (again (.l1 (↑p0.length) 0)) | some (.l1 v1 v2)=>cond (B.lt v2 v1) (cond (B.inb v2 p0.length) (cond (B.inb v2 p4.length) (cond (B.lt (p4.getD v2.toNat ty3.dflt) (((p0.getD v2.toNat ty94.dflt).2).1)) (k false) (cond (B.inb v2 p4.length) (cond (B.lt ((((p0.getD v2.toNat ty94.dflt).2).2).1) (p4.getD v2.toNat ty3.dflt)) (k false) (again (.l1 v1 (IntKind.wrap .i64 (v2+1))))) none)) none) none) (k true)
def E80 (p0:L94) (p1:L98) (p2:L103) (p3 p4:L3):S80→List AV×Objs
 | .l0 v1 v2=>(mk 83 [(2,.c (.ptr 2 0)),(3,.c (.ptr 3 0)),(31,.c (.list 98 ty98 p1)),(32,.c (.int .i64 v1)),(33,.c (.int .i64 v2))],[(2,.box 31 [.list 94 ty94 p0,.list 98 ty98 p1,.list 103 ty103 p2]),(3,.box 57 [.list 3 ty3 p3,.list 3 ty3 p4])])
 | .l1 v1 v2=>(mk 83 [(3,.c (.ptr 3 0)),(57,.c (.list 94 ty94 p0)),(58,.c (.int .i64 v1)),(59,.c (.int .i64 v2))],[(3,.box 57 [.list 3 ty3 p3,.list 3 ty3 p4])])
def I80:S80→Nat
 | .l0 _ _=>0
 | .l1 _ _=>1
theorem eq80 {R:Type} (B:Ops) (c77:C77) (p0:L94) (p1:L98) (p2:L103) (p3 p4:L3) (k:AV→Objs→Option R) (n:Nat):afun tau B gl0 X80 (ent 77 (e77 c77) gnil) ow Tryz.f80 [.agg [.list 94 ty94 p0,.list 98 ty98 p1,.list 103 ty103 p2],.agg [.list 3 ty3 p3,.list 3 ty3 p4]] [] k n=T80 B c77 p0 p1 p2 p3 p4 (fun s=>aloop tau B gl0 X80 (ent 77 (e77 c77) gnil) ow [] Tryz.f80 k (I80 s) (E80 p0 p1 p2 p3 p4 s) n) (K2 k) none:=by kernel_rfl
theorem el80 {R:Type} (B:Ops) (c77:C77) (p0:L94) (p1:L98) (p2:L103) (p3 p4:L3) (k:AV→Objs→Option R) (n:Nat):∀ s,aloop tau B gl0 X80 (ent 77 (e77 c77) gnil) ow [] Tryz.f80 k (I80 s) (E80 p0 p1 p2 p3 p4 s) (n+1)=T80 B c77 p0 p1 p2 p3 p4 (fun s=>aloop tau B gl0 X80 (ent 77 (e77 c77) gnil) ow [] Tryz.f80 k (I80 s) (E80 p0 p1 p2 p3 p4 s) n) (K2 k) (some s):=by
 intro s
 cases s<;>kernel_rfl
theorem nt80 {R R':Type} (B:Ops) (c77:C77) (p0:L94) (p1:L98) (p2:L103) (p3 p4:L3) (again:S80→Option R) (again':S80→Option R') (k0:(Bool)→Option R') (k:R'→Option R) (h:∀ s,again s=ob (again' s) k):∀ s,T80 B c77 p0 p1 p2 p3 p4 again (fun y=>ob (k0 y) k) s=ob (T80 B c77 p0 p1 p2 p3 p4 again' k0 s) k:=by
 rintro (_ | x)
 all_goals try cases x
 all_goals (unfold T80;repeat' first | exact rfl | exact h _ | apply qad | (apply qaj;intro))
def R80 (c77:C77) (p0:L94) (p1:L98) (p2:L103) (p3 p4:L3):Nat→S80→Option (Bool)
 | 0,_=>none
 | n+1,s=>T80 Ops.std c77 p0 p1 p2 p3 p4 (R80 c77 p0 p1 p2 p3 p4 n) some (some s)
theorem rr80 {R:Type} (c77:C77) (p0:L94) (p1:L98) (p2:L103) (p3 p4:L3) (k:AV→Objs→Option R):∀ (n:Nat) (s:S80),aloop tau Ops.std gl0 X80 (ent 77 (e77 c77) gnil) ow [] Tryz.f80 k (I80 s) (E80 p0 p1 p2 p3 p4 s) n=ob (R80 c77 p0 p1 p2 p3 p4 n s) (K2 k)
 | 0,s=>by cases s<;>rfl
 | n+1,s=>by rw [el80];exact nt80 Ops.std c77 p0 p1 p2 p3 p4 _ _ some (K2 k) (rr80 c77 p0 p1 p2 p3 p4 k n) (some s)
def F80 (c77:C77) (p0:L94) (p1:L98) (p2:L103) (p3 p4:L3):Option (Bool):=T80 Ops.std c77 p0 p1 p2 p3 p4 (R80 c77 p0 p1 p2 p3 p4 1000000) some none
abbrev C80:Type:=L94→L98→L103→L3→L3→Option (Bool)
def e80 {R:Type} (c:C80):Ent R:=eG [.aG [.cL 94 ty94,.cL 98 ty98,.cL 103 ty103],.aG [.cL 3 ty3,.cL 3 ty3]] [] fun v k=>ob (c v.1 v.2.1 v.2.2.1 v.2.2.2.1 v.2.2.2.2.1) (K2 k)
abbrev Sp80 (c:C80):Prop:=∀ (p0:L94) (p1:L98) (p2:L103) (p3 p4:L3) (y:Bool),c p0 p1 p2 p3 p4=some y→Spec Tryz.prog gl0 80 [.agg [.list 94 ty94 p0,.list 98 ty98 p1,.list 103 ty103 p2],.agg [.list 3 ty3 p3,.list 3 ty3 p4]] [] (.c (.bool y)) []
theorem ek80 {R:Type} {c:C80} (hs:Sp80 c):EOk 80 (e80 (R:=R) c):=qal fun v=>hs v.1 v.2.1 v.2.2.1 v.2.2.2.1 v.2.2.2.2.1
theorem sf80 {c77:C77} (h77:Sp77 c77):Sp80 (F80 c77):=fun p0 p1 p2 p3 p4 y hy=>by
 refine qai (qaf (ek77 h77) qah) 1000000 (fn:=Tryz.f80) (by kernel_rfl) (by kernel_rfl) (X:=X80) (by kernel_rfl) ?_
 rw [eq80]
 exact (nt80 Ops.std c77 p0 p1 p2 p3 p4 _ _ some (K2 k0) (rr80 c77 p0 p1 p2 p3 p4 k0 1000000) none).trans (by show ob (F80 c77 p0 p1 p2 p3 p4) _=_;rw [hy];rfl)
noncomputable def M80:C80:=F80 M77
theorem sm80:Sp80 M80:=sf80 sm77
def X79:Aux:=⟨[],[]⟩
def T79 {R:Type} (B:Ops) (c80:C80) (p0 p1 p2:L3) (p3:L94) (p4:L98) (p5:L103) (k:(Bool×L94×L98×L103)→Option R):Option R:=ob (c80 p3 p4 p5 p0 p1) fun y0=>k (!y0,p3,p4,p5)
theorem eq79 {R:Type} (B:Ops) (c80:C80) (p0 p1 p2:L3) (p3:L94) (p4:L98) (p5:L103) (k:AV→Objs→Option R) (n:Nat):afun tau B gl0 X79 (ent 80 (e80 c80) gnil) ow Tryz.f79 [.agg [.list 3 ty3 p0,.list 3 ty3 p1,.list 3 ty3 p2],.c (.ptr 1 0)] [(1,.box 31 [.list 94 ty94 p3,.list 98 ty98 p4,.list 103 ty103 p5])] k n=T79 B c80 p0 p1 p2 p3 p4 p5 (K9 k):=by kernel_rfl
theorem nt79 {R R':Type} (B:Ops) (c80:C80) (p0 p1 p2:L3) (p3:L94) (p4:L98) (p5:L103) (k0:(Bool×L94×L98×L103)→Option R') (k:R'→Option R):T79 B c80 p0 p1 p2 p3 p4 p5 (fun y=>ob (k0 y) k)=ob (T79 B c80 p0 p1 p2 p3 p4 p5 k0) k:=by
 unfold T79
 repeat' first | exact rfl | apply qad | (apply qaj;intro)
def F79 (c80:C80) (p0 p1 p2:L3) (p3:L94) (p4:L98) (p5:L103):Option (Bool×L94×L98×L103):=T79 Ops.std c80 p0 p1 p2 p3 p4 p5 some
abbrev C79:Type:=L3→L3→L3→L94→L98→L103→Option (Bool×L94×L98×L103)
def e79 {R:Type} (c:C79):Ent R:=eG [.aG [.cL 3 ty3,.cL 3 ty3,.cL 3 ty3],.aC (.cP 1)] [.oB 1 31 [.cL 94 ty94,.cL 98 ty98,.cL 103 ty103]] fun v k=>ob (c v.1 v.2.1 v.2.2.1 v.2.2.2.1 v.2.2.2.2.1 v.2.2.2.2.2.1) (K9 k)
abbrev Sp79 (c:C79):Prop:=∀ (p0 p1 p2:L3) (p3:L94) (p4:L98) (p5:L103) (y:Bool×L94×L98×L103),c p0 p1 p2 p3 p4 p5=some y→Spec Tryz.prog gl0 79 [.agg [.list 3 ty3 p0,.list 3 ty3 p1,.list 3 ty3 p2],.c (.ptr 1 0)] [(1,.box 31 [.list 94 ty94 p3,.list 98 ty98 p4,.list 103 ty103 p5])] (.c (.bool y.1)) [(1,.box 31 [.list 94 ty94 y.2.1,.list 98 ty98 y.2.2.1,.list 103 ty103 y.2.2.2])]
theorem ek79 {R:Type} {c:C79} (hs:Sp79 c):EOk 79 (e79 (R:=R) c):=qal fun v=>hs v.1 v.2.1 v.2.2.1 v.2.2.2.1 v.2.2.2.2.1 v.2.2.2.2.2.1
theorem sf79 {c80:C80} (h80:Sp80 c80):Sp79 (F79 c80):=fun p0 p1 p2 p3 p4 p5 y hy=>by
 refine qai (qaf (ek80 h80) qah) 1000000 (fn:=Tryz.f79) (by kernel_rfl) (by kernel_rfl) (X:=X79) (by kernel_rfl) ?_
 rw [eq79]
 exact (nt79 Ops.std c80 p0 p1 p2 p3 p4 p5 some (K9 k0)).trans (by show ob (F79 c80 p0 p1 p2 p3 p4 p5) _=_;rw [hy];rfl)
noncomputable def M79:C79:=F79 M80
theorem sm79:Sp79 M79:=sf79 sm80
def X138:Aux:=⟨[(2,([2,3,4,5,6]++rg 9 10))],[]⟩
inductive S138 where
 | l0 (v1 v2:Int) (v3:L94) (v4:L98) (v5:L103)
def T138 {R:Type} (B:Ops) (c79:C79) (p0:L68) (p1:L94) (p2:L98) (p3:L103) (again:S138→Option R) (k:(Int×L94×L98×L103)→Option R):Option S138→Option R | none=>again (.l0 (↑p0.length) 0 p1 p2 p3) | some (.l0 v1 v2 v3 v4 v5)=>cond (B.lt v2 v1) (cond (B.inb v2 p0.length) (ob (c79 (((p0.getD v2.toNat ty68.dflt).1).1) (((p0.getD v2.toNat ty68.dflt).1).2) ((p0.getD v2.toNat ty68.dflt).2) v3 v4 v5) fun y0=>cond y0.1 (k (v2,y0.2.1,y0.2.2.1,y0.2.2.2)) (again (.l0 v1 (IntKind.wrap .i64 (v2+1)) y0.2.1 y0.2.2.1 y0.2.2.2))) none) (k (-1,v3,v4,v5))
def E138 (p0:L68) (p1:L94) (p2:L98) (p3:L103):S138→List AV×Objs
 | .l0 v1 v2 v3 v4 v5=>(mk 19 [(0,.c (.list 68 ty68 p0)),(1,.fn 79 [.ptr 2500 0]),(7,.c (.int .i64 v1)),(8,.c (.int .i64 v2))],[(2500,.box 31 [.list 94 ty94 v3,.list 98 ty98 v4,.list 103 ty103 v5])])
def I138:S138→Nat
 | .l0 _ _ _ _ _=>0
theorem eq138 {R:Type} (B:Ops) (c79:C79) (p0:L68) (p1:L94) (p2:L98) (p3:L103) (k:AV→Objs→Option R) (n:Nat):afun tau B gl0 X138 (ent 79 (e79 c79) gnil) ow Tryz.f138 [.c (.list 68 ty68 p0),.fn 79 [.ptr 2500 0]] [(2500,.box 31 [.list 94 ty94 p1,.list 98 ty98 p2,.list 103 ty103 p3])] k n=T138 B c79 p0 p1 p2 p3 (fun s=>aloop tau B gl0 X138 (ent 79 (e79 c79) gnil) ow [2500] Tryz.f138 k (I138 s) (E138 p0 p1 p2 p3 s) n) (K10 k) none:=by kernel_rfl
theorem el138 {R:Type} (B:Ops) (c79:C79) (p0:L68) (p1:L94) (p2:L98) (p3:L103) (k:AV→Objs→Option R) (n:Nat):∀ s,aloop tau B gl0 X138 (ent 79 (e79 c79) gnil) ow [2500] Tryz.f138 k (I138 s) (E138 p0 p1 p2 p3 s) (n+1)=T138 B c79 p0 p1 p2 p3 (fun s=>aloop tau B gl0 X138 (ent 79 (e79 c79) gnil) ow [2500] Tryz.f138 k (I138 s) (E138 p0 p1 p2 p3 s) n) (K10 k) (some s):=by
 intro s
 cases s<;>kernel_rfl
theorem nt138 {R R':Type} (B:Ops) (c79:C79) (p0:L68) (p1:L94) (p2:L98) (p3:L103) (again:S138→Option R) (again':S138→Option R') (k0:(Int×L94×L98×L103)→Option R') (k:R'→Option R) (h:∀ s,again s=ob (again' s) k):∀ s,T138 B c79 p0 p1 p2 p3 again (fun y=>ob (k0 y) k) s=ob (T138 B c79 p0 p1 p2 p3 again' k0 s) k:=by
 rintro (_ | x)
 all_goals try cases x
 all_goals (unfold T138;repeat' first | exact rfl | exact h _ | apply qad | (apply qaj;intro))
def R138 (c79:C79) (p0:L68) (p1:L94) (p2:L98) (p3:L103):Nat→S138→Option (Int×L94×L98×L103)
 | 0,_=>none
 | n+1,s=>T138 Ops.std c79 p0 p1 p2 p3 (R138 c79 p0 p1 p2 p3 n) some (some s)
theorem rr138 {R:Type} (c79:C79) (p0:L68) (p1:L94) (p2:L98) (p3:L103) (k:AV→Objs→Option R):∀ (n:Nat) (s:S138),aloop tau Ops.std gl0 X138 (ent 79 (e79 c79) gnil) ow [2500] Tryz.f138 k (I138 s) (E138 p0 p1 p2 p3 s) n=ob (R138 c79 p0 p1 p2 p3 n s) (K10 k)
 | 0,s=>by cases s<;>rfl
 | n+1,s=>by rw [el138];exact nt138 Ops.std c79 p0 p1 p2 p3 _ _ some (K10 k) (rr138 c79 p0 p1 p2 p3 k n) (some s)
def F138 (c79:C79) (p0:L68) (p1:L94) (p2:L98) (p3:L103):Option (Int×L94×L98×L103):=T138 Ops.std c79 p0 p1 p2 p3 (R138 c79 p0 p1 p2 p3 1000000) some none
abbrev C138:Type:=L68→L94→L98→L103→Option (Int×L94×L98×L103)
def e138 {R:Type} (c:C138):Ent R:=eG [.aC (.cL 68 ty68),.aF 79 [.cP 2500]] [.oB 2500 31 [.cL 94 ty94,.cL 98 ty98,.cL 103 ty103]] fun v k=>ob (c v.1 v.2.1 v.2.2.1 v.2.2.2.1) (K10 k)
abbrev Sp138 (c:C138):Prop:=∀ (p0:L68) (p1:L94) (p2:L98) (p3:L103) (y:Int×L94×L98×L103),c p0 p1 p2 p3=some y→Spec Tryz.prog gl0 138 [.c (.list 68 ty68 p0),.fn 79 [.ptr 2500 0]] [(2500,.box 31 [.list 94 ty94 p1,.list 98 ty98 p2,.list 103 ty103 p3])] (.c (.int .i64 y.1)) [(2500,.box 31 [.list 94 ty94 y.2.1,.list 98 ty98 y.2.2.1,.list 103 ty103 y.2.2.2])]
theorem ek138 {R:Type} {c:C138} (hs:Sp138 c):EOk 138 (e138 (R:=R) c):=qal fun v=>hs v.1 v.2.1 v.2.2.1 v.2.2.2.1
theorem sf138 {c79:C79} (h79:Sp79 c79):Sp138 (F138 c79):=fun p0 p1 p2 p3 y hy=>by
 refine qai (qaf (ek79 h79) qah) 1000000 (fn:=Tryz.f138) (by kernel_rfl) (by kernel_rfl) (X:=X138) (by kernel_rfl) ?_
 rw [eq138]
 exact (nt138 Ops.std c79 p0 p1 p2 p3 _ _ some (K10 k0) (rr138 c79 p0 p1 p2 p3 k0 1000000) none).trans (by show ob (F138 c79 p0 p1 p2 p3) _=_;rw [hy];rfl)
noncomputable def M138:C138:=F138 M79
theorem sm138:Sp138 M138:=sf138 sm79
def X78:Aux:=⟨[],[]⟩
def T78 {R:Type} (B:Ops) (c138:C138) (c79:C79) (p0:L68) (p1:L94) (p2:L98) (p3:L103) (k:(Bool×L94×L98×L103)→Option R):Option R:=ob (c138 p0 p1 p2 p3) fun y0=>k (B.le 0 y0.1,y0.2.1,y0.2.2.1,y0.2.2.2)
theorem eq78 {R:Type} (B:Ops) (c138:C138) (c79:C79) (p0:L68) (p1:L94) (p2:L98) (p3:L103) (k:AV→Objs→Option R) (n:Nat):afun tau B gl0 X78 (ent 138 (e138 c138) (ent 79 (e79 c79) gnil)) ow Tryz.f78 [.c (.list 68 ty68 p0),.fn 79 [.ptr 2500 0]] [(2500,.box 31 [.list 94 ty94 p1,.list 98 ty98 p2,.list 103 ty103 p3])] k n=T78 B c138 c79 p0 p1 p2 p3 (K11 k):=by kernel_rfl
theorem nt78 {R R':Type} (B:Ops) (c138:C138) (c79:C79) (p0:L68) (p1:L94) (p2:L98) (p3:L103) (k0:(Bool×L94×L98×L103)→Option R') (k:R'→Option R):T78 B c138 c79 p0 p1 p2 p3 (fun y=>ob (k0 y) k)=ob (T78 B c138 c79 p0 p1 p2 p3 k0) k:=by
 unfold T78
 repeat' first | exact rfl | apply qad | (apply qaj;intro)
def F78 (c138:C138) (c79:C79) (p0:L68) (p1:L94) (p2:L98) (p3:L103):Option (Bool×L94×L98×L103):=T78 Ops.std c138 c79 p0 p1 p2 p3 some
abbrev C78:Type:=L68→L94→L98→L103→Option (Bool×L94×L98×L103)
def e78 {R:Type} (c:C78):Ent R:=eG [.aC (.cL 68 ty68),.aF 79 [.cP 2500]] [.oB 2500 31 [.cL 94 ty94,.cL 98 ty98,.cL 103 ty103]] fun v k=>ob (c v.1 v.2.1 v.2.2.1 v.2.2.2.1) (K11 k)
abbrev Sp78 (c:C78):Prop:=∀ (p0:L68) (p1:L94) (p2:L98) (p3:L103) (y:Bool×L94×L98×L103),c p0 p1 p2 p3=some y→Spec Tryz.prog gl0 78 [.c (.list 68 ty68 p0),.fn 79 [.ptr 2500 0]] [(2500,.box 31 [.list 94 ty94 p1,.list 98 ty98 p2,.list 103 ty103 p3])] (.c (.bool y.1)) [(2500,.box 31 [.list 94 ty94 y.2.1,.list 98 ty98 y.2.2.1,.list 103 ty103 y.2.2.2])]
theorem ek78 {R:Type} {c:C78} (hs:Sp78 c):EOk 78 (e78 (R:=R) c):=qal fun v=>hs v.1 v.2.1 v.2.2.1 v.2.2.2.1
theorem sf78 {c138:C138} {c79:C79} (h138:Sp138 c138) (h79:Sp79 c79):Sp78 (F78 c138 c79):=fun p0 p1 p2 p3 y hy=>by
 refine qai (qaf (ek138 h138) (qaf (ek79 h79) qah)) 1000000 (fn:=Tryz.f78) (by kernel_rfl) (by kernel_rfl) (X:=X78) (by kernel_rfl) ?_
 rw [eq78]
 exact (nt78 Ops.std c138 c79 p0 p1 p2 p3 some (K11 k0)).trans (by show ob (F78 c138 c79 p0 p1 p2 p3) _=_;rw [hy];rfl)
noncomputable def M78:C78:=F78 M138 M79
theorem sm78:Sp78 M78:=sf78 sm138 sm79
def X41:Aux:=⟨[],[]⟩
def T41 {R:Type} (B:Ops) (c77:C77) (c75:C75) (c79:C79) (c78:C78) (p0:L94) (p1:L98) (p2:L103) (p3 p4:L68) (k:(Bool)→Option R):Option R:=ob (c77 p0 p1 p2) fun y0=>cond (!y0) (k false) (cond (B.lt (↑p4.length) 1) (k false) (cond (B.lt 2000 (IntKind.wrap .i64 (Nat.cast p3.length+Nat.cast p4.length))) (k false) (ob (c75 (p3::p4::mt (Ty.den ty39))) fun y1=>ob (c78 y1 p0 p1 p2) fun y2=>k (!y2.1))))
theorem eq41 {R:Type} (B:Ops) (c77:C77) (c75:C75) (c79:C79) (c78:C78) (p0:L94) (p1:L98) (p2:L103) (p3 p4:L68) (k:AV→Objs→Option R) (n:Nat):afun tau B gl0 X41 (ent 77 (e77 c77) (ent 75 (e75 c75) (ent 79 (e79 c79) (ent 78 (e78 c78) gnil)))) ow Tryz.f41 [.agg [.list 94 ty94 p0,.list 98 ty98 p1,.list 103 ty103 p2],.agg [.list 68 ty68 p3,.list 68 ty68 p4]] [] k n=T41 B c77 c75 c79 c78 p0 p1 p2 p3 p4 (K2 k):=by kernel_rfl
theorem nt41 {R R':Type} (B:Ops) (c77:C77) (c75:C75) (c79:C79) (c78:C78) (p0:L94) (p1:L98) (p2:L103) (p3 p4:L68) (k0:(Bool)→Option R') (k:R'→Option R):T41 B c77 c75 c79 c78 p0 p1 p2 p3 p4 (fun y=>ob (k0 y) k)=ob (T41 B c77 c75 c79 c78 p0 p1 p2 p3 p4 k0) k:=by
 unfold T41
 repeat' first | exact rfl | apply qad | (apply qaj;intro)
def F41 (c77:C77) (c75:C75) (c79:C79) (c78:C78) (p0:L94) (p1:L98) (p2:L103) (p3 p4:L68):Option (Bool):=T41 Ops.std c77 c75 c79 c78 p0 p1 p2 p3 p4 some
abbrev C41:Type:=L94→L98→L103→L68→L68→Option (Bool)
def e41 {R:Type} (c:C41):Ent R:=eG [.aG [.cL 94 ty94,.cL 98 ty98,.cL 103 ty103],.aG [.cL 68 ty68,.cL 68 ty68]] [] fun v k=>ob (c v.1 v.2.1 v.2.2.1 v.2.2.2.1 v.2.2.2.2.1) (K2 k)
abbrev Sp41 (c:C41):Prop:=∀ (p0:L94) (p1:L98) (p2:L103) (p3 p4:L68) (y:Bool),c p0 p1 p2 p3 p4=some y→Spec Tryz.prog gl0 41 [.agg [.list 94 ty94 p0,.list 98 ty98 p1,.list 103 ty103 p2],.agg [.list 68 ty68 p3,.list 68 ty68 p4]] [] (.c (.bool y)) []
theorem ek41 {R:Type} {c:C41} (hs:Sp41 c):EOk 41 (e41 (R:=R) c):=qal fun v=>hs v.1 v.2.1 v.2.2.1 v.2.2.2.1 v.2.2.2.2.1
theorem sf41 {c77:C77} {c75:C75} {c79:C79} {c78:C78} (h77:Sp77 c77) (h75:Sp75 c75) (h79:Sp79 c79) (h78:Sp78 c78):Sp41 (F41 c77 c75 c79 c78):=fun p0 p1 p2 p3 p4 y hy=>by
 refine qai (qaf (ek77 h77) (qaf (ek75 h75) (qaf (ek79 h79) (qaf (ek78 h78) qah)))) 1000000 (fn:=Tryz.f41) (by kernel_rfl) (by kernel_rfl) (X:=X41) (by kernel_rfl) ?_
 rw [eq41]
 exact (nt41 Ops.std c77 c75 c79 c78 p0 p1 p2 p3 p4 some (K2 k0)).trans (by show ob (F41 c77 c75 c79 c78 p0 p1 p2 p3 p4) _=_;rw [hy];rfl)
noncomputable def M41:C41:=F41 M77 M75 M79 M78
theorem sm41:Sp41 M41:=sf41 sm77 sm75 sm79 sm78
def X40:Aux:=⟨[(6,([0,2,3,4,5,6]++rg 9 27++rg 39 30)),(10,([0,2,3,4,5,6,10]++rg 12 24++[39,40,41,42]++rg 46 23))],[(3,.seq [0,1,2,3,4,7,8,9] (.alt (.seq [5] (.alt (.lin [6,10,11,12]) (.lin [11,6,10,12]))) (.lin [11,5,6,10,12]))),(14,.lin (rg 0 11))]⟩
inductive S40 where
 | l0 (v1 v2 v6:Int) (v7:L47) (v8:L22) (v9:L68)
 | l1 (v1 v2 v3:Int) (v4:L3) (v5 v6 v10:Int) (v11 v12:L47) (v13:L22) (v14:L68)
def T40 {R:Type} (B:Ops) (c67:C67) (c41:C41) (c75:C75) (c52:C52) (c76:C76) (p0:L94) (p1:L98) (p2:L103) (p3:L66) (p4 p5:L68) (again:S40→Option R) (k:(L47)→Option R):Option S40→Option R | none=>ob (c67 p0 p1 p2 p3) fun y0=>cond (!y0) (k (mt (Ty.den ty47))) (ob (c41 p0 p1 p2 p4 p5) fun y1=>cond (!y1) (k (mt (Ty.den ty47))) (ob (c75 (p4::p5::mt (Ty.den ty39))) fun y2=>ob (c52 p3) fun y3=>again (.l0 (↑y3.length) 0 (↑p4.length) (mt (Ty.den ty47)) y3 y2))) | some (.l0 v1 v2 v6 v7 v8 v9)=>cond (B.lt v2 v1) (cond (B.inb v2 v8.length) (again (.l1 v2 v1 v2 (v8.getD v2.toNat ty22.dflt) (Nat.cast (List.length (v8.getD v2.toNat ty22.dflt))) 0 v6 v7 (mt (Ty.den ty47)) v8 v9)) none) (k v7) | some (.l1 v1 v2 v3 v4 v5 v6 v10 v11 v12 v13 v14)=>cond (B.lt v6 v5) (cond (B.inb v6 v4.length) (cond (B.inb (v4.getD v6.toNat ty3.dflt) v11.length) (cond (B.lim (List.length v12+List.length (v11.getD (Int.toNat (v4.getD v6.toNat ty3.dflt)) ty47.dflt::mt (Ty.den ty47))) 24) (again (.l1 v1 v2 v3 v4 v5 (IntKind.wrap .i64 (v6+1)) v10 v11 (v12++v11.getD (Int.toNat (v4.getD v6.toNat ty3.dflt)) ty47.dflt::mt (Ty.den ty47)) v13 v14)) none) none) none) (cond (B.inb v1 p3.length) (ob (c76 p0 p1 p2 v14 v10 ((p3.getD v1.toNat ty66.dflt).1) ((p3.getD v1.toNat ty66.dflt).2) v12) fun y0=>cond (B.lim (List.length v11+List.length (y0::mt (Ty.den ty47))) 24) (again (.l0 v2 (IntKind.wrap .i64 (v3+1)) v10 (v11++y0::mt (Ty.den ty47)) v13 v14)) none) none)
def E40 (p0:L94) (p1:L98) (p2:L103) (p3:L66) (p4 p5:L68):S40→List AV×Objs
 | .l0 v1 v2 v6 v7 v8 v9=>(mk 69 [(1,.c (.list 66 ty66 p3)),(7,.c (.ptr 7 0)),(8,.c (.own 8)),(36,.c (.own 36)),(37,.c (.int .i64 v1)),(38,.c (.int .i64 v2))],[(7,.box 117 [.list 94 ty94 p0,.list 98 ty98 p1,.list 103 ty103 p2,.own 8003,.int .i64 v6]),(8,.row 47 ty47 v7),(36,.row 22 ty22 v8),(8003,.row 68 ty68 v9)])
 | .l1 v1 v2 v3 v4 v5 v6 v10 v11 v12 v13 v14=>(mk 69 [(1,.c (.list 66 ty66 p3)),(7,.c (.ptr 7 0)),(8,.c (.own 8)),(9,.c (.int .i64 v1)),(11,.c (.own 11)),(36,.c (.own 36)),(37,.c (.int .i64 v2)),(38,.c (.int .i64 v3)),(43,.c (.list 3 ty3 v4)),(44,.c (.int .i64 v5)),(45,.c (.int .i64 v6))],[(7,.box 117 [.list 94 ty94 p0,.list 98 ty98 p1,.list 103 ty103 p2,.own 8003,.int .i64 v10]),(8,.row 47 ty47 v11),(11,.row 47 ty47 v12),(36,.row 22 ty22 v13),(8003,.row 68 ty68 v14)])
def I40:S40→Nat
 | .l0 _ _ _ _ _ _=>0
 | .l1 _ _ _ _ _ _ _ _ _ _ _=>1
noncomputable def Ta40 {R:Type} (B:Ops) (c67:C67) (c41:C41) (c75:C75) (c52:C52) (c76:C76) (p0:L94) (p1:L98) (p2:L103) (p3:L66) (p4 p5:L68) (again:S40→Option R) (k:(L47)→Option R):Option S40→Option R | none=>ob (c67 p0 p1 p2 p3) fun y0=>cond (!y0) (k (mt (Ty.den ty47))) (ob (c41 p0 p1 p2 p4 p5) fun y1=>cond (!y1) (k (mt (Ty.den ty47))) (agree (agree (ob (c75 (p4::p5::mt (Ty.den ty39))) fun y2=>ob (c52 p3) fun y3=>again (.l0 (Nat.cast (List.length y3)) 0 (Nat.cast (List.length p4)) (mt (Ty.den ty47)) y3 y2)) (ob (c75 (p4::p5::mt (Ty.den ty39))) fun y2=>ob (c52 p3) fun y3=>again (.l0 (Nat.cast (List.length y3)) 0 (Nat.cast (List.length p4)) (mt (Ty.den ty47)) y3 y2))) (ob (c75 (p4::p5::mt (Ty.den ty39))) fun y2=>ob (c52 p3) fun y3=>again (.l0 (Nat.cast (List.length y3)) 0 (Nat.cast (List.length p4)) (mt (Ty.den ty47)) y3 y2)))) | some (.l0 v1 v2 v6 v7 v8 v9)=>cond (Ops.lt B v2 v1) (cond (Ops.inb B v2 (List.length v8)) (again (.l1 v2 v1 v2 (List.getD v8 (Int.toNat v2) (Ty.dflt ty22)) (Nat.cast (List.length (List.getD v8 (Int.toNat v2) (Ty.dflt ty22)))) 0 v6 v7 (mt (Ty.den ty47)) v8 v9)) none) (k v7) | some (.l1 v1 v2 v3 v4 v5 v6 v10 v11 v12 v13 v14)=>cond (Ops.lt B v6 v5) (cond (Ops.inb B v6 (List.length v4)) (cond (Ops.inb B (List.getD v4 (Int.toNat v6) (Ty.dflt ty3)) (List.length v11)) (cond (Ops.lim B (List.length v12+List.length (List.getD v11 (Int.toNat (List.getD v4 (Int.toNat v6) (Ty.dflt ty3))) (Ty.dflt ty47)::mt (Ty.den ty47))) 24) (again (.l1 v1 v2 v3 v4 v5 (IntKind.wrap .i64 (v6+1)) v10 v11 (v12++List.getD v11 (Int.toNat (List.getD v4 (Int.toNat v6) (Ty.dflt ty3))) (Ty.dflt ty47)::mt (Ty.den ty47)) v13 v14)) none) none) none) (cond (Ops.inb B v1 (List.length p3)) (ob (c76 p0 p1 p2 v14 v10 ((List.getD p3 (Int.toNat v1) (Ty.dflt ty66)).1) ((List.getD p3 (Int.toNat v1) (Ty.dflt ty66)).2) v12) fun y0=>cond (Ops.lim B (List.length v11+List.length (y0::mt (Ty.den ty47))) 24) (again (.l0 v2 (IntKind.wrap .i64 (v3+1)) v10 (v11++y0::mt (Ty.den ty47)) v13 v14)) none) none)
theorem ta40 {R:Type} (B:Ops) (c67:C67) (c41:C41) (c75:C75) (c52:C52) (c76:C76) (p0:L94) (p1:L98) (p2:L103) (p3:L66) (p4 p5:L68) (again:S40→Option R) (k:(L47)→Option R):∀ s,Ta40 B c67 c41 c75 c52 c76 p0 p1 p2 p3 p4 p5 again k s=T40 B c67 c41 c75 c52 c76 p0 p1 p2 p3 p4 p5 again k s
 | none=>by unfold Ta40 T40;simp only [qc4]
 | some (.l0 v1 v2 v6 v7 v8 v9)=>by unfold Ta40 T40;simp only [qc4]
 | some (.l1 v1 v2 v3 v4 v5 v6 v10 v11 v12 v13 v14)=>by unfold Ta40 T40;simp only [qc4]
abbrev K44 {R:Type} (k:AV→Objs→Option R) (y:(L47)):Option R:=k (.c (.own 500)) [(500,.row 47 ty47 y)]
theorem eq40 {R:Type} (B:Ops) (c67:C67) (c41:C41) (c75:C75) (c52:C52) (c76:C76) (p0:L94) (p1:L98) (p2:L103) (p3:L66) (p4 p5:L68) (k:AV→Objs→Option R) (n:Nat):afun tau B gl0 X40 (ent 67 (e67 c67) (ent 41 (e41 c41) (ent 75 (e75 c75) (ent 52 (e52 c52) (ent 76 (e76 c76) gnil))))) ow Tryz.f40 [.agg [.list 94 ty94 p0,.list 98 ty98 p1,.list 103 ty103 p2],.c (.list 66 ty66 p3),.agg [.list 68 ty68 p4,.list 68 ty68 p5]] [] k n=T40 B c67 c41 c75 c52 c76 p0 p1 p2 p3 p4 p5 (fun s=>aloop tau B gl0 X40 (ent 67 (e67 c67) (ent 41 (e41 c41) (ent 75 (e75 c75) (ent 52 (e52 c52) (ent 76 (e76 c76) gnil))))) ow [] Tryz.f40 k (I40 s) (E40 p0 p1 p2 p3 p4 p5 s) n) (K44 k) none:=by rw [←ta40];kernel_rfl
theorem el40 {R:Type} (B:Ops) (c67:C67) (c41:C41) (c75:C75) (c52:C52) (c76:C76) (p0:L94) (p1:L98) (p2:L103) (p3:L66) (p4 p5:L68) (k:AV→Objs→Option R) (n:Nat):∀ s,aloop tau B gl0 X40 (ent 67 (e67 c67) (ent 41 (e41 c41) (ent 75 (e75 c75) (ent 52 (e52 c52) (ent 76 (e76 c76) gnil))))) ow [] Tryz.f40 k (I40 s) (E40 p0 p1 p2 p3 p4 p5 s) (n+1)=T40 B c67 c41 c75 c52 c76 p0 p1 p2 p3 p4 p5 (fun s=>aloop tau B gl0 X40 (ent 67 (e67 c67) (ent 41 (e41 c41) (ent 75 (e75 c75) (ent 52 (e52 c52) (ent 76 (e76 c76) gnil))))) ow [] Tryz.f40 k (I40 s) (E40 p0 p1 p2 p3 p4 p5 s) n) (K44 k) (some s)
 | .l0 v1 v2 v6 v7 v8 v9=>by rw [←ta40];kernel_rfl
 | .l1 v1 v2 v3 v4 v5 v6 v10 v11 v12 v13 v14=>by rw [←ta40];kernel_rfl
theorem nt40 {R R':Type} (B:Ops) (c67:C67) (c41:C41) (c75:C75) (c52:C52) (c76:C76) (p0:L94) (p1:L98) (p2:L103) (p3:L66) (p4 p5:L68) (again:S40→Option R) (again':S40→Option R') (k0:(L47)→Option R') (k:R'→Option R) (h:∀ s,again s=ob (again' s) k):∀ s,T40 B c67 c41 c75 c52 c76 p0 p1 p2 p3 p4 p5 again (fun y=>ob (k0 y) k) s=ob (T40 B c67 c41 c75 c52 c76 p0 p1 p2 p3 p4 p5 again' k0 s) k:=by
 rintro (_ | x)
 all_goals try cases x
 all_goals (unfold T40;repeat' first | exact rfl | exact h _ | apply qad | (apply qaj;intro))
def R40 (c67:C67) (c41:C41) (c75:C75) (c52:C52) (c76:C76) (p0:L94) (p1:L98) (p2:L103) (p3:L66) (p4 p5:L68):Nat→S40→Option (L47)
 | 0,_=>none
 | n+1,s=>T40 Ops.std c67 c41 c75 c52 c76 p0 p1 p2 p3 p4 p5 (R40 c67 c41 c75 c52 c76 p0 p1 p2 p3 p4 p5 n) some (some s)
theorem rr40 {R:Type} (c67:C67) (c41:C41) (c75:C75) (c52:C52) (c76:C76) (p0:L94) (p1:L98) (p2:L103) (p3:L66) (p4 p5:L68) (k:AV→Objs→Option R):∀ (n:Nat) (s:S40),aloop tau Ops.std gl0 X40 (ent 67 (e67 c67) (ent 41 (e41 c41) (ent 75 (e75 c75) (ent 52 (e52 c52) (ent 76 (e76 c76) gnil))))) ow [] Tryz.f40 k (I40 s) (E40 p0 p1 p2 p3 p4 p5 s) n=ob (R40 c67 c41 c75 c52 c76 p0 p1 p2 p3 p4 p5 n s) (K44 k)
 | 0,s=>by cases s<;>rfl
 | n+1,s=>by rw [el40];exact nt40 Ops.std c67 c41 c75 c52 c76 p0 p1 p2 p3 p4 p5 _ _ some (K44 k) (rr40 c67 c41 c75 c52 c76 p0 p1 p2 p3 p4 p5 k n) (some s)
def F40 (c67:C67) (c41:C41) (c75:C75) (c52:C52) (c76:C76) (p0:L94) (p1:L98) (p2:L103) (p3:L66) (p4 p5:L68):Option (L47):=T40 Ops.std c67 c41 c75 c52 c76 p0 p1 p2 p3 p4 p5 (R40 c67 c41 c75 c52 c76 p0 p1 p2 p3 p4 p5 1000000) some none
abbrev C40:Type:=L94→L98→L103→L66→L68→L68→Option (L47)
def e40 {R:Type} (c:C40):Ent R:=eG [.aG [.cL 94 ty94,.cL 98 ty98,.cL 103 ty103],.aC (.cL 66 ty66),.aG [.cL 68 ty68,.cL 68 ty68]] [] fun v k=>ob (c v.1 v.2.1 v.2.2.1 v.2.2.2.1 v.2.2.2.2.1 v.2.2.2.2.2.1) (K44 k)
abbrev Sp40 (c:C40):Prop:=∀ (p0:L94) (p1:L98) (p2:L103) (p3:L66) (p4 p5:L68) (y:L47),c p0 p1 p2 p3 p4 p5=some y→Spec Tryz.prog gl0 40 [.agg [.list 94 ty94 p0,.list 98 ty98 p1,.list 103 ty103 p2],.c (.list 66 ty66 p3),.agg [.list 68 ty68 p4,.list 68 ty68 p5]] [] (.c (.own 500)) [(500,.row 47 ty47 y)]
theorem ek40 {R:Type} {c:C40} (hs:Sp40 c):EOk 40 (e40 (R:=R) c):=qal fun v=>hs v.1 v.2.1 v.2.2.1 v.2.2.2.1 v.2.2.2.2.1 v.2.2.2.2.2.1
theorem sf40 {c67:C67} {c41:C41} {c75:C75} {c52:C52} {c76:C76} (h67:Sp67 c67) (h41:Sp41 c41) (h75:Sp75 c75) (h52:Sp52 c52) (h76:Sp76 c76):Sp40 (F40 c67 c41 c75 c52 c76):=fun p0 p1 p2 p3 p4 p5 y hy=>by
 refine qai (qaf (ek67 h67) (qaf (ek41 h41) (qaf (ek75 h75) (qaf (ek52 h52) (qaf (ek76 h76) qah))))) 1000000 (fn:=Tryz.f40) (by kernel_rfl) (by kernel_rfl) (X:=X40) (by kernel_rfl) ?_
 rw [eq40]
 exact (nt40 Ops.std c67 c41 c75 c52 c76 p0 p1 p2 p3 p4 p5 _ _ some (K44 k0) (rr40 c67 c41 c75 c52 c76 p0 p1 p2 p3 p4 p5 k0 1000000) none).trans (by show ob (F40 c67 c41 c75 c52 c76 p0 p1 p2 p3 p4 p5) _=_;rw [hy];rfl)
noncomputable def M40:C40:=F40 M67 M41 M75 M52 M76
theorem sm40:Sp40 M40:=sf40 sm67 sm41 sm75 sm52 sm76
def X43:Aux:=⟨[],[]⟩
def T43 {R:Type} (B:Ops) (c40:C40) (p0:L94) (p1:L98) (p2:L103) (p3:L66) (p4 p5:L68) (k:(Bool)→Option R):Option R:=ob (c40 p0 p1 p2 p3 p4 p5) fun y0=>cond (B.lt 0 (↑y0.length)) (cond (B.inb (IntKind.wrap .i64 (Nat.cast y0.length-1)) y0.length) (cond (B.inb 0 (List.length (y0.getD (Int.toNat (IntKind.wrap .i64 (Nat.cast y0.length-1))) ty47.dflt))) (k (List.getD (y0.getD (Int.toNat (IntKind.wrap .i64 (Nat.cast y0.length-1))) ty47.dflt) (Int.toNat 0) (Ty.dflt Ty.bool))) none) none) (k false)
theorem eq43 {R:Type} (B:Ops) (c40:C40) (p0:L94) (p1:L98) (p2:L103) (p3:L66) (p4 p5:L68) (k:AV→Objs→Option R) (n:Nat):afun tau B gl0 X43 (ent 40 (e40 c40) gnil) ow Tryz.f43 [.agg [.list 94 ty94 p0,.list 98 ty98 p1,.list 103 ty103 p2],.c (.list 66 ty66 p3),.agg [.list 68 ty68 p4,.list 68 ty68 p5]] [] k n=T43 B c40 p0 p1 p2 p3 p4 p5 (K2 k):=by kernel_rfl
theorem nt43 {R R':Type} (B:Ops) (c40:C40) (p0:L94) (p1:L98) (p2:L103) (p3:L66) (p4 p5:L68) (k0:(Bool)→Option R') (k:R'→Option R):T43 B c40 p0 p1 p2 p3 p4 p5 (fun y=>ob (k0 y) k)=ob (T43 B c40 p0 p1 p2 p3 p4 p5 k0) k:=by
 unfold T43
 repeat' first | exact rfl | apply qad | (apply qaj;intro)
def F43 (c40:C40) (p0:L94) (p1:L98) (p2:L103) (p3:L66) (p4 p5:L68):Option (Bool):=T43 Ops.std c40 p0 p1 p2 p3 p4 p5 some
abbrev C43:Type:=L94→L98→L103→L66→L68→L68→Option (Bool)
def e43 {R:Type} (c:C43):Ent R:=eG [.aG [.cL 94 ty94,.cL 98 ty98,.cL 103 ty103],.aC (.cL 66 ty66),.aG [.cL 68 ty68,.cL 68 ty68]] [] fun v k=>ob (c v.1 v.2.1 v.2.2.1 v.2.2.2.1 v.2.2.2.2.1 v.2.2.2.2.2.1) (K2 k)
abbrev Sp43 (c:C43):Prop:=∀ (p0:L94) (p1:L98) (p2:L103) (p3:L66) (p4 p5:L68) (y:Bool),c p0 p1 p2 p3 p4 p5=some y→Spec Tryz.prog gl0 43 [.agg [.list 94 ty94 p0,.list 98 ty98 p1,.list 103 ty103 p2],.c (.list 66 ty66 p3),.agg [.list 68 ty68 p4,.list 68 ty68 p5]] [] (.c (.bool y)) []
theorem ek43 {R:Type} {c:C43} (hs:Sp43 c):EOk 43 (e43 (R:=R) c):=qal fun v=>hs v.1 v.2.1 v.2.2.1 v.2.2.2.1 v.2.2.2.2.1 v.2.2.2.2.2.1
theorem sf43 {c40:C40} (h40:Sp40 c40):Sp43 (F43 c40):=fun p0 p1 p2 p3 p4 p5 y hy=>by
 refine qai (qaf (ek40 h40) qah) 1000000 (fn:=Tryz.f43) (by kernel_rfl) (by kernel_rfl) (X:=X43) (by kernel_rfl) ?_
 rw [eq43]
 exact (nt43 Ops.std c40 p0 p1 p2 p3 p4 p5 some (K2 k0)).trans (by show ob (F43 c40 p0 p1 p2 p3 p4 p5) _=_;rw [hy];rfl)
noncomputable def M43:C43:=F43 M40
theorem sm43:Sp43 M43:=sf43 sm40
def X74:Aux:=⟨[],[(2,.lin [0,1,3,2,4,5])]⟩
def T74 {R:Type} (B:Ops) (c123:C123) (c39:C39) (c43:C43) (p0:LB) (p1 p2:L3) (k:(Bool)→Option R):Option R:=ob (c123 p1 p2) fun y0=>ob (c39 p0) fun y1=>ob (c43 y0.1 y0.2.1 y0.2.2.1 y1 y0.2.2.2.1 y0.2.2.2.2) fun y2=>k y2
theorem eq74 {R:Type} (B:Ops) (c123:C123) (c39:C39) (c43:C43) (p0:LB) (p1 p2:L3) (k:AV→Objs→Option R) (n:Nat):afun tau B gl0 X74 (ent 123 (e123 c123) (ent 39 (e39 c39) (ent 43 (e43 c43) gnil))) ow Tryz.f74 [.c (.str p0),.c (.list 3 ty3 p1),.c (.list 3 ty3 p2)] [] k n=T74 B c123 c39 c43 p0 p1 p2 (K2 k):=by kernel_rfl
theorem nt74 {R R':Type} (B:Ops) (c123:C123) (c39:C39) (c43:C43) (p0:LB) (p1 p2:L3) (k0:(Bool)→Option R') (k:R'→Option R):T74 B c123 c39 c43 p0 p1 p2 (fun y=>ob (k0 y) k)=ob (T74 B c123 c39 c43 p0 p1 p2 k0) k:=by
 unfold T74
 repeat' first | exact rfl | apply qad | (apply qaj;intro)
def F74 (c123:C123) (c39:C39) (c43:C43) (p0:LB) (p1 p2:L3):Option (Bool):=T74 Ops.std c123 c39 c43 p0 p1 p2 some
abbrev C74:Type:=LB→L3→L3→Option (Bool)
def e74 {R:Type} (c:C74):Ent R:=eG [.aC .cS,.aC (.cL 3 ty3),.aC (.cL 3 ty3)] [] fun v k=>ob (c v.1 v.2.1 v.2.2.1) (K2 k)
abbrev Sp74 (c:C74):Prop:=∀ (p0:LB) (p1 p2:L3) (y:Bool),c p0 p1 p2=some y→Spec Tryz.prog gl0 74 [.c (.str p0),.c (.list 3 ty3 p1),.c (.list 3 ty3 p2)] [] (.c (.bool y)) []
theorem ek74 {R:Type} {c:C74} (hs:Sp74 c):EOk 74 (e74 (R:=R) c):=qal fun v=>hs v.1 v.2.1 v.2.2.1
theorem sf74 {c123:C123} {c39:C39} {c43:C43} (h123:Sp123 c123) (h39:Sp39 c39) (h43:Sp43 c43):Sp74 (F74 c123 c39 c43):=fun p0 p1 p2 y hy=>by
 refine qai (qaf (ek123 h123) (qaf (ek39 h39) (qaf (ek43 h43) qah))) 1000000 (fn:=Tryz.f74) (by kernel_rfl) (by kernel_rfl) (X:=X74) (by kernel_rfl) ?_
 rw [eq74]
 exact (nt74 Ops.std c123 c39 c43 p0 p1 p2 some (K2 k0)).trans (by show ob (F74 c123 c39 c43 p0 p1 p2) _=_;rw [hy];rfl)
noncomputable def M74:C74:=F74 M123 M39 M43
theorem sm74:Sp74 M74:=sf74 sm123 sm39 sm43
def X38:Aux:=⟨[],[]⟩
def T38 {R:Type} (B:Ops) (c74:C74) (k:(Bool)→Option R):Option R:=ob (c74 ([71,32,70,32,91,120,61,61,49,93]:LB) (0::mt (Ty.den (Ty.int .i64))) (0::1::mt (Ty.den (Ty.int .i64)))) fun y0=>cond (y0) (ob (c74 ([70,32,71,32,91,120,61,61,49,93]:LB) (0::mt (Ty.den (Ty.int .i64))) (0::1::mt (Ty.den (Ty.int .i64)))) fun y1=>k (!y1)) (k false)
theorem eq38 {R:Type} (B:Ops) (c74:C74) (k:AV→Objs→Option R) (n:Nat):afun tau B gl0 X38 (ent 74 (e74 c74) gnil) ow Tryz.f38 [] [] k n=T38 B c74 (K2 k):=by kernel_rfl
theorem nt38 {R R':Type} (B:Ops) (c74:C74) (k0:(Bool)→Option R') (k:R'→Option R):T38 B c74 (fun y=>ob (k0 y) k)=ob (T38 B c74 k0) k:=by
 unfold T38
 repeat' first | exact rfl | apply qad | (apply qaj;intro)
def F38 (c74:C74):Option (Bool):=T38 Ops.std c74 some
abbrev C38:Type:=Option (Bool)
def e38 {R:Type} (c:C38):Ent R:=eG [] [] fun _ k=>ob c (K2 k)
abbrev Sp38 (c:C38):Prop:=∀ (y:Bool),c=some y→Spec Tryz.prog gl0 38 [] [] (.c (.bool y)) []
theorem ek38 {R:Type} {c:C38} (hs:Sp38 c):EOk 38 (e38 (R:=R) c):=qal fun _=>hs
theorem sf38 {c74:C74} (h74:Sp74 c74):Sp38 (F38 c74):=fun y hy=>by
 refine qai (qaf (ek74 h74) qah) 1000000 (fn:=Tryz.f38) (by kernel_rfl) (by kernel_rfl) (X:=X38) (by kernel_rfl) ?_
 rw [eq38]
 exact (nt38 Ops.std c74 some (K2 k0)).trans (by show ob (F38 c74) _=_;rw [hy];rfl)
noncomputable def M38:C38:=F38 M74
theorem sm38:Sp38 M38:=sf38 sm74
def X9:Aux:=⟨[(11,(rg 0 11++[13,14]++rg 16 123++rg 140 36))],[(16,.lin [0,1,2,4,5,6,3,7,8])]⟩
inductive S9 where
 | l0 (v0:Int) (v1:L94) (v2:L98) (v3:L103) (v4 v5:L68) (v6 v7 v8 v9 v10 v11 v12 v13 v14 v15 v16 v17 v18 v19 v20 v21:LB)
def T9 {R:Type} (B:Ops) (c38:C38) (c12:C12) (c20:C20) (c15:C15) (c41:C41) (c45:C45) (c43:C43) (p0 p1:L3) (p2 p3:Int) (p4:L22) (p5 p6:L3) (again:S9→Option R) (k:(Bool)→Option R):Option S9→Option R | none=>ob (c38) fun y0=>cond (!y0) (k false) (ob (c12 p2 p3 p4) fun y1=>ob (c20 y1.1 y1.2.1 y1.2.2 p5 p6) fun y2=>ob (c15 p0) fun y3=>cond (B.lim (1+List.length y3) 1) (cond (B.lim (List.length (([40]:LB)++y3)+1) 1) (ob (c15 p1) fun y4=>cond (B.lim (1+List.length y4) 1) (cond (B.lim (List.length (([40]:LB)++y4)+1) 1) (ob (c38) fun y5=>cond (!y5) (ob (c38) fun y6=>k y6) (ob (c41 y1.1 y1.2.1 y1.2.2 y2.1 y2.2) fun y6=>cond (!y6) (ob (c38) fun y7=>k y7) (cond (B.lim (2+List.length (([40]:LB)++y3++([41]:LB))) 1) (cond (B.lim (List.length (([33,40]:LB)++(([40]:LB)++y3++([41]:LB)))+3) 1) (cond (B.lim (List.length (([33,40]:LB)++(([40]:LB)++y3++([41]:LB))++([32,85,32]:LB))+List.length (([40]:LB)++y4++([41]:LB))) 1) (cond (B.lim (List.length (([33,40]:LB)++(([40]:LB)++y3++([41]:LB))++([32,85,32]:LB)++(([40]:LB)++y4++([41]:LB)))+1) 1) (cond (B.lim (1+List.length (([40]:LB)++y3++([41]:LB))) 1) (cond (B.lim (List.length (([33]:LB)++(([40]:LB)++y3++([41]:LB)))+4) 1) (cond (B.lim (List.length (([33]:LB)++(([40]:LB)++y3++([41]:LB))++([32,82,32,33]:LB))+List.length (([40]:LB)++y4++([41]:LB))) 1) (cond (B.lim (List.length (([40]:LB)++y3++([41]:LB))+3) 1) (cond (B.lim (List.length (([40]:LB)++y3++([41]:LB)++([32,85,32]:LB))+List.length (([40]:LB)++y4++([41]:LB))) 1) (cond (B.lim (List.length (([40]:LB)++y4++([41]:LB))+4) 1) (cond (B.lim (List.length (([40]:LB)++y4++([41]:LB)++([32,124,124,32]:LB))+List.length (([40]:LB)++y3++([41]:LB))) 1) (cond (B.lim (List.length (([40]:LB)++y4++([41]:LB)++([32,124,124,32]:LB)++(([40]:LB)++y3++([41]:LB)))+7) 1) (cond (B.lim (List.length (([40]:LB)++y4++([41]:LB)++([32,124,124,32]:LB)++(([40]:LB)++y3++([41]:LB))++([32,38,38,32,88,32,40]:LB))+List.length (([40]:LB)++y3++([41]:LB))) 1) (cond (B.lim (List.length (([40]:LB)++y4++([41]:LB)++([32,124,124,32]:LB)++(([40]:LB)++y3++([41]:LB))++([32,38,38,32,88,32,40]:LB)++(([40]:LB)++y3++([41]:LB)))+3) 1) (cond (B.lim (List.length (([40]:LB)++y4++([41]:LB)++([32,124,124,32]:LB)++(([40]:LB)++y3++([41]:LB))++([32,38,38,32,88,32,40]:LB)++(([40]:LB)++y3++([41]:LB))++([32,85,32]:LB))+List.length (([40]:LB)++y4++([41]:LB))) 1) (cond (B.lim (List.length (([40]:LB)++y4++([41]:LB)++([32,124,124,32]:LB)++(([40]:LB)++y3++([41]:LB))++([32,38,38,32,88,32,40]:LB)++(([40]:LB)++y3++([41]:LB))++([32,85,32]:LB)++(([40]:LB)++y4++([41]:LB)))+1) 1) (cond (B.lim (List.length (([40]:LB)++y3++([41]:LB))+3) 1) (cond (B.lim (List.length (([40]:LB)++y3++([41]:LB)++([32,82,32]:LB))+List.length (([40]:LB)++y4++([41]:LB))) 1) (cond (B.lim (List.length (([40]:LB)++y4++([41]:LB))+5) 1) (cond (B.lim (List.length (([40]:LB)++y4++([41]:LB)++([32,38,38,32,40]:LB))+List.length (([40]:LB)++y3++([41]:LB))) 1) (cond (B.lim (List.length (([40]:LB)++y4++([41]:LB)++([32,38,38,32,40]:LB)++(([40]:LB)++y3++([41]:LB)))+7) 1) (cond (B.lim (List.length (([40]:LB)++y4++([41]:LB)++([32,38,38,32,40]:LB)++(([40]:LB)++y3++([41]:LB))++([32,124,124,32,88,32,40]:LB))+List.length (([40]:LB)++y3++([41]:LB))) 1) (cond (B.lim (List.length (([40]:LB)++y4++([41]:LB)++([32,38,38,32,40]:LB)++(([40]:LB)++y3++([41]:LB))++([32,124,124,32,88,32,40]:LB)++(([40]:LB)++y3++([41]:LB)))+3) 1) (cond (B.lim (List.length (([40]:LB)++y4++([41]:LB)++([32,38,38,32,40]:LB)++(([40]:LB)++y3++([41]:LB))++([32,124,124,32,88,32,40]:LB)++(([40]:LB)++y3++([41]:LB))++([32,82,32]:LB))+List.length (([40]:LB)++y4++([41]:LB))) 1) (cond (B.lim (List.length (([40]:LB)++y4++([41]:LB)++([32,38,38,32,40]:LB)++(([40]:LB)++y3++([41]:LB))++([32,124,124,32,88,32,40]:LB)++(([40]:LB)++y3++([41]:LB))++([32,82,32]:LB)++(([40]:LB)++y4++([41]:LB)))+2) 1) (cond (B.lim (2+List.length (([40]:LB)++y3++([41]:LB))) 1) (cond (B.lim (4+List.length (([40]:LB)++y3++([41]:LB))) 1) (cond (B.lim (2+List.length (([40]:LB)++y3++([41]:LB))) 1) (cond (B.lim (List.length (([40]:LB)++y3++([41]:LB))+8) 1) (cond (B.lim (List.length (([40]:LB)++y3++([41]:LB)++([32,38,38,32,88,32,71,32]:LB))+List.length (([40]:LB)++y3++([41]:LB))) 1) (cond (B.lim (3+List.length (([40]:LB)++y3++([41]:LB))) 1) (cond (B.lim (List.length (([88,32,40]:LB)++(([40]:LB)++y3++([41]:LB)))+4) 1) (cond (B.lim (List.length (([88,32,40]:LB)++(([40]:LB)++y3++([41]:LB))++([32,38,38,32]:LB))+List.length (([40]:LB)++y4++([41]:LB))) 1) (cond (B.lim (List.length (([88,32,40]:LB)++(([40]:LB)++y3++([41]:LB))++([32,38,38,32]:LB)++(([40]:LB)++y4++([41]:LB)))+1) 1) (cond (B.lim (2+List.length (([40]:LB)++y3++([41]:LB))) 1) (cond (B.lim (List.length (([88,32]:LB)++(([40]:LB)++y3++([41]:LB)))+6) 1) (cond (B.lim (List.length (([88,32]:LB)++(([40]:LB)++y3++([41]:LB))++([32,38,38,32,88,32]:LB))+List.length (([40]:LB)++y4++([41]:LB))) 1) (cond (B.lim (3+List.length (([40]:LB)++y3++([41]:LB))) 1) (cond (B.lim (List.length (([70,32,40]:LB)++(([40]:LB)++y3++([41]:LB)))+4) 1) (cond (B.lim (List.length (([70,32,40]:LB)++(([40]:LB)++y3++([41]:LB))++([32,124,124,32]:LB))+List.length (([40]:LB)++y4++([41]:LB))) 1) (cond (B.lim (List.length (([70,32,40]:LB)++(([40]:LB)++y3++([41]:LB))++([32,124,124,32]:LB)++(([40]:LB)++y4++([41]:LB)))+1) 1) (cond (B.lim (2+List.length (([40]:LB)++y3++([41]:LB))) 1) (cond (B.lim (List.length (([70,32]:LB)++(([40]:LB)++y3++([41]:LB)))+6) 1) (cond (B.lim (List.length (([70,32]:LB)++(([40]:LB)++y3++([41]:LB))++([32,124,124,32,70,32]:LB))+List.length (([40]:LB)++y4++([41]:LB))) 1) (cond (B.lim (List.length (([40]:LB)++y3++([41]:LB))+4) 1) (cond (B.lim (List.length (([40]:LB)++y3++([41]:LB)++([32,45,62,32]:LB))+List.length (([40]:LB)++y4++([41]:LB))) 1) (cond (B.lim (1+List.length (([40]:LB)++y3++([41]:LB))) 1) (cond (B.lim (List.length (([33]:LB)++(([40]:LB)++y3++([41]:LB)))+4) 1) (cond (B.lim (List.length (([33]:LB)++(([40]:LB)++y3++([41]:LB))++([32,124,124,32]:LB))+List.length (([40]:LB)++y4++([41]:LB))) 1) (again (.l0 0 y1.1 y1.2.1 y1.2.2 y2.1 y2.2 (([33,40]:LB)++(([40]:LB)++y3++([41]:LB))++([32,85,32]:LB)++(([40]:LB)++y4++([41]:LB))++([41]:LB)) (([33]:LB)++(([40]:LB)++y3++([41]:LB))++([32,82,32,33]:LB)++(([40]:LB)++y4++([41]:LB))) (([40]:LB)++y3++([41]:LB)++([32,85,32]:LB)++(([40]:LB)++y4++([41]:LB))) (([40]:LB)++y4++([41]:LB)++([32,124,124,32]:LB)++(([40]:LB)++y3++([41]:LB))++([32,38,38,32,88,32,40]:LB)++(([40]:LB)++y3++([41]:LB))++([32,85,32]:LB)++(([40]:LB)++y4++([41]:LB))++([41]:LB)) (([40]:LB)++y3++([41]:LB)++([32,82,32]:LB)++(([40]:LB)++y4++([41]:LB))) (([40]:LB)++y4++([41]:LB)++([32,38,38,32,40]:LB)++(([40]:LB)++y3++([41]:LB))++([32,124,124,32,88,32,40]:LB)++(([40]:LB)++y3++([41]:LB))++([32,82,32]:LB)++(([40]:LB)++y4++([41]:LB))++([41,41]:LB)) (([70,32]:LB)++(([40]:LB)++y3++([41]:LB))) (([33,71,32,33]:LB)++(([40]:LB)++y3++([41]:LB))) (([71,32]:LB)++(([40]:LB)++y3++([41]:LB))) (([40]:LB)++y3++([41]:LB)++([32,38,38,32,88,32,71,32]:LB)++(([40]:LB)++y3++([41]:LB))) (([88,32,40]:LB)++(([40]:LB)++y3++([41]:LB))++([32,38,38,32]:LB)++(([40]:LB)++y4++([41]:LB))++([41]:LB)) (([88,32]:LB)++(([40]:LB)++y3++([41]:LB))++([32,38,38,32,88,32]:LB)++(([40]:LB)++y4++([41]:LB))) (([70,32,40]:LB)++(([40]:LB)++y3++([41]:LB))++([32,124,124,32]:LB)++(([40]:LB)++y4++([41]:LB))++([41]:LB)) (([70,32]:LB)++(([40]:LB)++y3++([41]:LB))++([32,124,124,32,70,32]:LB)++(([40]:LB)++y4++([41]:LB))) (([40]:LB)++y3++([41]:LB)++([32,45,62,32]:LB)++(([40]:LB)++y4++([41]:LB))) (([33]:LB)++(([40]:LB)++y3++([41]:LB))++([32,124,124,32]:LB)++(([40]:LB)++y4++([41]:LB))))) none) none) none) none) none) none) none) none) none) none) none) none) none) none) none) none) none) none) none) none) none) none) none) none) none) none) none) none) none) none) none) none) none) none) none) none) none) none) none) none) none) none) none) none) none) none) none) none) none))) none) none) none) none) | some (.l0 v0 v1 v2 v3 v4 v5 v6 v7 v8 v9 v10 v11 v12 v13 v14 v15 v16 v17 v18 v19 v20 v21)=>cond (B.lt v0 8) (cond (B.inb v0 8) (cond (B.inb 0 2) (cond (B.lt (Nat.cast (Int.toNat v0*TI.size { kind:=TK.array 2 9,size:=2,bytes:=32,agg:=true,zero:=CV.str (mt UInt8)::CV.str (mt UInt8)::mt CV,cty:=none::none::mt (Option (Nat×Ty)),ty:=none }+Int.toNat 0)) (Nat.cast (8*TI.size { kind:=TK.array 2 9,size:=2,bytes:=32,agg:=true,zero:=CV.str (mt UInt8)::CV.str (mt UInt8)::mt CV,cty:=none::none::mt (Option (Nat×Ty)),ty:=none }))) (ob (c45 (List.getD (v6::v7::v8::v9::v10::v11::v12::v13::v14::v15::v16::v17::v18::v19::v20::v21::mt LB) (Int.toNat v0*TI.size { kind:=TK.array 2 9,size:=2,bytes:=32,agg:=true,zero:=CV.str (mt UInt8)::CV.str (mt UInt8)::mt CV,cty:=none::none::mt (Option (Nat×Ty)),ty:=none }+Int.toNat 0) (mt UInt8))) fun y0=>cond (B.inb v0 8) (cond (B.inb 1 2) (cond (B.lt (Nat.cast (Int.toNat v0*TI.size { kind:=TK.array 2 9,size:=2,bytes:=32,agg:=true,zero:=CV.str (mt UInt8)::CV.str (mt UInt8)::mt CV,cty:=none::none::mt (Option (Nat×Ty)),ty:=none }+Int.toNat 1)) (Nat.cast (8*TI.size { kind:=TK.array 2 9,size:=2,bytes:=32,agg:=true,zero:=CV.str (mt UInt8)::CV.str (mt UInt8)::mt CV,cty:=none::none::mt (Option (Nat×Ty)),ty:=none }))) (ob (c45 (List.getD (v6::v7::v8::v9::v10::v11::v12::v13::v14::v15::v16::v17::v18::v19::v20::v21::mt LB) (Int.toNat v0*TI.size { kind:=TK.array 2 9,size:=2,bytes:=32,agg:=true,zero:=CV.str (mt UInt8)::CV.str (mt UInt8)::mt CV,cty:=none::none::mt (Option (Nat×Ty)),ty:=none }+Int.toNat 1) (mt UInt8))) fun y1=>cond (!B.eq y0.1 0) (again (.l0 (IntKind.wrap .i64 (v0+1)) v1 v2 v3 v4 v5 v6 v7 v8 v9 v10 v11 v12 v13 v14 v15 v16 v17 v18 v19 v20 v21)) (cond (!B.eq y1.1 0) (again (.l0 (IntKind.wrap .i64 (v0+1)) v1 v2 v3 v4 v5 v6 v7 v8 v9 v10 v11 v12 v13 v14 v15 v16 v17 v18 v19 v20 v21)) (ob (c43 v1 v2 v3 y0.2.2 v4 v5) fun y2=>ob (c43 v1 v2 v3 y1.2.2 v4 v5) fun y3=>cond (!y2 == y3) (k false) (again (.l0 (IntKind.wrap .i64 (v0+1)) v1 v2 v3 v4 v5 v6 v7 v8 v9 v10 v11 v12 v13 v14 v15 v16 v17 v18 v19 v20 v21))))) none) none) none) none) none) none) (k true)
def E9 (p0 p1:L3) (p2 p3:Int) (p4:L22) (p5 p6:L3):S9→List AV×Objs
 | .l0 v0 v1 v2 v3 v4 v5 v6 v7 v8 v9 v10 v11 v12 v13 v14 v15 v16 v17 v18 v19 v20 v21=>(mk 176 [(11,.c (.ptr 11 0)),(12,.c (.ptr 12 0)),(15,.c (.ptr 15 0)),(139,.c (.int .i64 v0))],[(11,.box 31 [.list 94 ty94 v1,.list 98 ty98 v2,.list 103 ty103 v3]),(12,.box 41 [.list 68 ty68 v4,.list 68 ty68 v5]),(15,.box 75 [.str v6,.str v7,.str v8,.str v9,.str v10,.str v11,.str v12,.str v13,.str v14,.str v15,.str v16,.str v17,.str v18,.str v19,.str v20,.str v21])])
def I9:S9→Nat
 | .l0 _ _ _ _ _ _ _ _ _ _ _ _ _ _ _ _ _ _ _ _ _ _=>0
theorem eq9 {R:Type} (B:Ops) (c38:C38) (c12:C12) (c20:C20) (c15:C15) (c41:C41) (c45:C45) (c43:C43) (p0 p1:L3) (p2 p3:Int) (p4:L22) (p5 p6:L3) (k:AV→Objs→Option R) (n:Nat):afun tau B gl0 X9 (ent 38 (e38 c38) (ent 12 (e12 c12) (ent 20 (e20 c20) (ent 15 (e15 c15) (ent 41 (e41 c41) (ent 45 (e45 c45) (ent 43 (e43 c43) gnil))))))) ow Tryz.f9 [.c (.list 3 ty3 p0),.c (.list 3 ty3 p1),.agg [.int .i64 p2,.int .i64 p3,.list 22 ty22 p4],.c (.list 3 ty3 p5),.c (.list 3 ty3 p6)] [] k n=T9 B c38 c12 c20 c15 c41 c45 c43 p0 p1 p2 p3 p4 p5 p6 (fun s=>aloop tau B gl0 X9 (ent 38 (e38 c38) (ent 12 (e12 c12) (ent 20 (e20 c20) (ent 15 (e15 c15) (ent 41 (e41 c41) (ent 45 (e45 c45) (ent 43 (e43 c43) gnil))))))) ow [] Tryz.f9 k (I9 s) (E9 p0 p1 p2 p3 p4 p5 p6 s) n) (K2 k) none:=by kernel_rfl
theorem el9 {R:Type} (B:Ops) (c38:C38) (c12:C12) (c20:C20) (c15:C15) (c41:C41) (c45:C45) (c43:C43) (p0 p1:L3) (p2 p3:Int) (p4:L22) (p5 p6:L3) (k:AV→Objs→Option R) (n:Nat):∀ s,aloop tau B gl0 X9 (ent 38 (e38 c38) (ent 12 (e12 c12) (ent 20 (e20 c20) (ent 15 (e15 c15) (ent 41 (e41 c41) (ent 45 (e45 c45) (ent 43 (e43 c43) gnil))))))) ow [] Tryz.f9 k (I9 s) (E9 p0 p1 p2 p3 p4 p5 p6 s) (n+1)=T9 B c38 c12 c20 c15 c41 c45 c43 p0 p1 p2 p3 p4 p5 p6 (fun s=>aloop tau B gl0 X9 (ent 38 (e38 c38) (ent 12 (e12 c12) (ent 20 (e20 c20) (ent 15 (e15 c15) (ent 41 (e41 c41) (ent 45 (e45 c45) (ent 43 (e43 c43) gnil))))))) ow [] Tryz.f9 k (I9 s) (E9 p0 p1 p2 p3 p4 p5 p6 s) n) (K2 k) (some s):=by
 intro s
 cases s<;>kernel_rfl
theorem nt9 {R R':Type} (B:Ops) (c38:C38) (c12:C12) (c20:C20) (c15:C15) (c41:C41) (c45:C45) (c43:C43) (p0 p1:L3) (p2 p3:Int) (p4:L22) (p5 p6:L3) (again:S9→Option R) (again':S9→Option R') (k0:(Bool)→Option R') (k:R'→Option R) (h:∀ s,again s=ob (again' s) k):∀ s,T9 B c38 c12 c20 c15 c41 c45 c43 p0 p1 p2 p3 p4 p5 p6 again (fun y=>ob (k0 y) k) s=ob (T9 B c38 c12 c20 c15 c41 c45 c43 p0 p1 p2 p3 p4 p5 p6 again' k0 s) k:=by
 rintro (_ | x)
 all_goals try cases x
 all_goals (unfold T9;repeat' first | exact rfl | exact h _ | apply qad | (apply qaj;intro))
def R9 (c38:C38) (c12:C12) (c20:C20) (c15:C15) (c41:C41) (c45:C45) (c43:C43) (p0 p1:L3) (p2 p3:Int) (p4:L22) (p5 p6:L3):Nat→S9→Option (Bool)
 | 0,_=>none
 | n+1,s=>T9 Ops.std c38 c12 c20 c15 c41 c45 c43 p0 p1 p2 p3 p4 p5 p6 (R9 c38 c12 c20 c15 c41 c45 c43 p0 p1 p2 p3 p4 p5 p6 n) some (some s)
theorem rr9 {R:Type} (c38:C38) (c12:C12) (c20:C20) (c15:C15) (c41:C41) (c45:C45) (c43:C43) (p0 p1:L3) (p2 p3:Int) (p4:L22) (p5 p6:L3) (k:AV→Objs→Option R):∀ (n:Nat) (s:S9),aloop tau Ops.std gl0 X9 (ent 38 (e38 c38) (ent 12 (e12 c12) (ent 20 (e20 c20) (ent 15 (e15 c15) (ent 41 (e41 c41) (ent 45 (e45 c45) (ent 43 (e43 c43) gnil))))))) ow [] Tryz.f9 k (I9 s) (E9 p0 p1 p2 p3 p4 p5 p6 s) n=ob (R9 c38 c12 c20 c15 c41 c45 c43 p0 p1 p2 p3 p4 p5 p6 n s) (K2 k)
 | 0,s=>by cases s<;>rfl
 | n+1,s=>by rw [el9];exact nt9 Ops.std c38 c12 c20 c15 c41 c45 c43 p0 p1 p2 p3 p4 p5 p6 _ _ some (K2 k) (rr9 c38 c12 c20 c15 c41 c45 c43 p0 p1 p2 p3 p4 p5 p6 k n) (some s)
def F9 (c38:C38) (c12:C12) (c20:C20) (c15:C15) (c41:C41) (c45:C45) (c43:C43) (p0 p1:L3) (p2 p3:Int) (p4:L22) (p5 p6:L3):Option (Bool):=T9 Ops.std c38 c12 c20 c15 c41 c45 c43 p0 p1 p2 p3 p4 p5 p6 (R9 c38 c12 c20 c15 c41 c45 c43 p0 p1 p2 p3 p4 p5 p6 1000000) some none
abbrev C9:Type:=L3→L3→Int→Int→L22→L3→L3→Option (Bool)
abbrev Sp9 (c:C9):Prop:=∀ (p0 p1:L3) (p2 p3:Int) (p4:L22) (p5 p6:L3) (y:Bool),c p0 p1 p2 p3 p4 p5 p6=some y→Spec Tryz.prog gl0 9 [.c (.list 3 ty3 p0),.c (.list 3 ty3 p1),.agg [.int .i64 p2,.int .i64 p3,.list 22 ty22 p4],.c (.list 3 ty3 p5),.c (.list 3 ty3 p6)] [] (.c (.bool y)) []
theorem sf9 {c38:C38} {c12:C12} {c20:C20} {c15:C15} {c41:C41} {c45:C45} {c43:C43} (h38:Sp38 c38) (h12:Sp12 c12) (h20:Sp20 c20) (h15:Sp15 c15) (h41:Sp41 c41) (h45:Sp45 c45) (h43:Sp43 c43):Sp9 (F9 c38 c12 c20 c15 c41 c45 c43):=fun p0 p1 p2 p3 p4 p5 p6 y hy=>by
 refine qai (qaf (ek38 h38) (qaf (ek12 h12) (qaf (ek20 h20) (qaf (ek15 h15) (qaf (ek41 h41) (qaf (ek45 h45) (qaf (ek43 h43) qah))))))) 1000000 (fn:=Tryz.f9) (by kernel_rfl) (by kernel_rfl) (X:=X9) (by kernel_rfl) ?_
 rw [eq9]
 exact (nt9 Ops.std c38 c12 c20 c15 c41 c45 c43 p0 p1 p2 p3 p4 p5 p6 _ _ some (K2 k0) (rr9 c38 c12 c20 c15 c41 c45 c43 p0 p1 p2 p3 p4 p5 p6 k0 1000000) none).trans (by show ob (F9 c38 c12 c20 c15 c41 c45 c43 p0 p1 p2 p3 p4 p5 p6) _=_;rw [hy];rfl)
noncomputable def M9:C9:=F9 M38 M12 M20 M15 M41 M45 M43
theorem sm9:Sp9 M9:=sf9 sm38 sm12 sm20 sm15 sm41 sm45 sm43
end Go.Proofs.YtccnmhdgghjgoaaGreatDoor.Av
