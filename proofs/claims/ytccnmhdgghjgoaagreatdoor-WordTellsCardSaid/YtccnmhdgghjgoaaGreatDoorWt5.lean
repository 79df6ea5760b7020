/- Twins of functions,printed by gen.py. Conditions: none. -/
import Derived.Test.YtccnmhdgghjgoaaGreatDoorWt4
import Derived.KernelRfl
set_option linter.unusedSimpArgs false
set_option linter.unusedVariables false
set_option maxRecDepth 100000
set_option maxHeartbeats 8000000
namespace Go.Proofs.YtccnmhdgghjgoaaGreatDoor.Av
open Go
def X139:Aux:=⟨[(4,([0,1,4]++rg 6 78)),(9,([0,1,4,5]++rg 7 77))],[(6,.lin (rg 0 21)),(11,.lin (rg 0 26))]⟩
inductive S139 where
 | l0 (v0:Int)
 | l1 (v0:Int)
def T139 {R:Type} (B:Ops) (p0:L94) (p1:L98) (p2:L103) (p3 p4:L3) (again:S139→Option R) (k:(Bool)→Option R):Option S139→Option R | none=>cond (!B.eq (↑p3.length) (↑p1.length)) (k false) (cond (!B.eq (↑p4.length) (↑p0.length)) (k false) (again (.l0 0))) | some (.l0 v0)=>cond (B.lt v0 (↑p3.length)) (cond (B.inb v0 p3.length) (cond (B.lt (p3.getD v0.toNat ty3.dflt) 0) (k false) (cond (B.inb v0 p3.length) (cond (B.inb v0 p1.length) (cond (B.le (Nat.cast (List.length (p1.getD v0.toNat ty98.dflt).2)) (p3.getD v0.toNat ty3.dflt)) (k false) (again (.l0 (IntKind.wrap .i64 (v0+1))))) none) none)) none) (again (.l1 0)) | some (.l1 v0)=>cond (B.lt v0 (↑p4.length)) (cond (B.inb v0 p4.length) (cond (B.inb v0 p0.length) (cond (B.lt (p4.getD v0.toNat ty3.dflt) ((p0.getD v0.toNat ty94.dflt).2).1) (k false) (cond (B.inb v0 p4.length) (cond (B.inb v0 p0.length) (cond (B.lt (((p0.getD v0.toNat ty94.dflt).2).2).1 (p4.getD v0.toNat ty3.dflt)) (k false) (again (.l1 (IntKind.wrap .i64 (v0+1))))) none) none)) none) none) (k true)
def E139 (p0:L94) (p1:L98) (p2:L103) (p3 p4:L3):S139→List AV×Objs
 | .l0 v0=>(mk 84 [(2,.c (.ptr 2 0)),(3,.c (.ptr 3 0)),(5,.c (.int .i64 v0))],[(2,.box 31 [.list 94 ty94 p0,.list 98 ty98 p1,.list 103 ty103 p2]),(3,.box 57 [.list 3 ty3 p3,.list 3 ty3 p4])])
 | .l1 v0=>(mk 84 [(2,.c (.ptr 2 0)),(3,.c (.ptr 3 0)),(6,.c (.int .i64 v0))],[(2,.box 31 [.list 94 ty94 p0,.list 98 ty98 p1,.list 103 ty103 p2]),(3,.box 57 [.list 3 ty3 p3,.list 3 ty3 p4])])
def I139:S139→Nat
 | .l0 _=>0
 | .l1 _=>1
noncomputable abbrev A139 {R:Type} (B:Ops) (p0:L94) (p1:L98) (p2:L103) (p3 p4:L3) (k:AV→Objs→Option R) (s:S139) (n:Nat):Option R:=aloop tau B gl0 X139 gnil ow [] Tryz.f139 k (I139 s) (E139 p0 p1 p2 p3 p4 s) n
theorem eq139 {R:Type} (B:Ops) (p0:L94) (p1:L98) (p2:L103) (p3 p4:L3) (k:AV→Objs→Option R) (n:Nat):afun tau B gl0 X139 gnil ow Tryz.f139 [.agg [.list 94 ty94 p0,.list 98 ty98 p1,.list 103 ty103 p2],.agg [.list 3 ty3 p3,.list 3 ty3 p4]] [] k n=T139 B p0 p1 p2 p3 p4 (fun s=>A139 B p0 p1 p2 p3 p4 k s n) (K2 k) none:=by kernel_rfl
theorem el139 {R:Type} (B:Ops) (p0:L94) (p1:L98) (p2:L103) (p3 p4:L3) (k:AV→Objs→Option R) (n:Nat):∀ s,A139 B p0 p1 p2 p3 p4 k s (n+1)=T139 B p0 p1 p2 p3 p4 (fun s=>A139 B p0 p1 p2 p3 p4 k s n) (K2 k) (some s):=by
 intro s
 cases s<;>kernel_rfl
theorem nt139 {R R':Type} (B:Ops) (p0:L94) (p1:L98) (p2:L103) (p3 p4:L3) (again:S139→Option R) (again':S139→Option R') (k0:(Bool)→Option R') (k:R'→Option R) (h:∀ s,again s=ob (again' s) k):∀ s,T139 B p0 p1 p2 p3 p4 again (fun y=>ob (k0 y) k) s=ob (T139 B p0 p1 p2 p3 p4 again' k0 s) k:=by
 rintro (_ | x)
 all_goals try cases x
 all_goals (unfold T139;repeat' first | exact rfl | exact h _ | apply qad | (apply qaj;intro))
def R139 (p0:L94) (p1:L98) (p2:L103) (p3 p4:L3):Nat→S139→Option (Bool)
 | 0,_=>none
 | n+1,s=>T139 Ops.std p0 p1 p2 p3 p4 (R139 p0 p1 p2 p3 p4 n) some (some s)
theorem rr139 {R:Type} (p0:L94) (p1:L98) (p2:L103) (p3 p4:L3) (k:AV→Objs→Option R):∀ (n:Nat) (s:S139),A139 Ops.std p0 p1 p2 p3 p4 k s n=ob (R139 p0 p1 p2 p3 p4 n s) (K2 k)
 | 0,s=>by cases s<;>rfl
 | n+1,s=>by rw [el139];exact nt139 Ops.std p0 p1 p2 p3 p4 _ _ some (K2 k) (rr139 p0 p1 p2 p3 p4 k n) (some s)
def F139 (p0:L94) (p1:L98) (p2:L103) (p3 p4:L3):Option (Bool):=T139 Ops.std p0 p1 p2 p3 p4 (R139 p0 p1 p2 p3 p4 1000000) some none
abbrev C139:Type:=L94→L98→L103→L3→L3→Option (Bool)
def e139 {R:Type} (c:C139):Ent R:=eG [.aG [.cL 94 ty94,.cL 98 ty98,.cL 103 ty103],.aG [.cL 3 ty3,.cL 3 ty3]] [] fun v k=>ob (c v.1 v.2.1 v.2.2.1 v.2.2.2.1 v.2.2.2.2.1) (K2 k)
abbrev Sp139 (c:C139):Prop:=∀ (p0:L94) (p1:L98) (p2:L103) (p3 p4:L3) (y:Bool),c p0 p1 p2 p3 p4=some y→Spec Tryz.prog gl0 139 [.agg [.list 94 ty94 p0,.list 98 ty98 p1,.list 103 ty103 p2],.agg [.list 3 ty3 p3,.list 3 ty3 p4]] [] (.c (.bool y)) []
theorem ek139 {R:Type} {c:C139} (hs:Sp139 c):EOk 139 (e139 (R:=R) c):=qal fun v=>hs v.1 v.2.1 v.2.2.1 v.2.2.2.1 v.2.2.2.2.1
theorem sf139:Sp139 (F139):=fun p0 p1 p2 p3 p4 y hy=>by
 refine qai qah 1000000 (fn:=Tryz.f139) (by kernel_rfl) (by kernel_rfl) (X:=X139) (by kernel_rfl) ?_
 rw [eq139]
 exact (nt139 Ops.std p0 p1 p2 p3 p4 _ _ some (K2 k0) (rr139 p0 p1 p2 p3 p4 k0 1000000) none).trans (by show ob (F139 p0 p1 p2 p3 p4) _=_;rw [hy];rfl)
noncomputable def M139:C139:=F139
theorem sm139:Sp139 M139:=sf139
def X81:Aux:=⟨[],[]⟩
def T81 {R:Type} (B:Ops) (c18:C18) (c139:C139) (p0:L94) (p1:L98) (p2:L103) (p3 p4:L3) (k:(Bool)→Option R):Option R:=ob (c18 p0 p1 p2) fun y0=>cond (!y0) (k false) (ob (c139 p0 p1 p2 p3 p4) fun y1=>k y1)
theorem eq81 {R:Type} (B:Ops) (c18:C18) (c139:C139) (p0:L94) (p1:L98) (p2:L103) (p3 p4:L3) (k:AV→Objs→Option R) (n:Nat):afun tau B gl0 X81 (ent 18 (e18 c18) (ent 139 (e139 c139) gnil)) ow Tryz.f81 [.agg [.list 94 ty94 p0,.list 98 ty98 p1,.list 103 ty103 p2],.agg [.list 3 ty3 p3,.list 3 ty3 p4]] [] k n=T81 B c18 c139 p0 p1 p2 p3 p4 (K2 k):=by kernel_rfl
theorem nt81 {R R':Type} (B:Ops) (c18:C18) (c139:C139) (p0:L94) (p1:L98) (p2:L103) (p3 p4:L3) (k0:(Bool)→Option R') (k:R'→Option R):T81 B c18 c139 p0 p1 p2 p3 p4 (fun y=>ob (k0 y) k)=ob (T81 B c18 c139 p0 p1 p2 p3 p4 k0) k:=by
 unfold T81
 repeat' first | exact rfl | apply qad | (apply qaj;intro)
def F81 (c18:C18) (c139:C139) (p0:L94) (p1:L98) (p2:L103) (p3 p4:L3):Option (Bool):=T81 Ops.std c18 c139 p0 p1 p2 p3 p4 some
abbrev C81:Type:=L94→L98→L103→L3→L3→Option (Bool)
def e81 {R:Type} (c:C81):Ent R:=eG [.aG [.cL 94 ty94,.cL 98 ty98,.cL 103 ty103],.aG [.cL 3 ty3,.cL 3 ty3]] [] fun v k=>ob (c v.1 v.2.1 v.2.2.1 v.2.2.2.1 v.2.2.2.2.1) (K2 k)
abbrev Sp81 (c:C81):Prop:=∀ (p0:L94) (p1:L98) (p2:L103) (p3 p4:L3) (y:Bool),c p0 p1 p2 p3 p4=some y→Spec Tryz.prog gl0 81 [.agg [.list 94 ty94 p0,.list 98 ty98 p1,.list 103 ty103 p2],.agg [.list 3 ty3 p3,.list 3 ty3 p4]] [] (.c (.bool y)) []
theorem ek81 {R:Type} {c:C81} (hs:Sp81 c):EOk 81 (e81 (R:=R) c):=qal fun v=>hs v.1 v.2.1 v.2.2.1 v.2.2.2.1 v.2.2.2.2.1
theorem sf81 {c18:C18} {c139:C139} (h18:Sp18 c18) (h139:Sp139 c139):Sp81 (F81 c18 c139):=fun p0 p1 p2 p3 p4 y hy=>by
 refine qai (qac (ek18 h18) (qac (ek139 h139) qah)) 1000000 (fn:=Tryz.f81) (by kernel_rfl) (by kernel_rfl) (X:=X81) (by kernel_rfl) ?_
 rw [eq81]
 exact (nt81 Ops.std c18 c139 p0 p1 p2 p3 p4 some (K2 k0)).trans (by show ob (F81 c18 c139 p0 p1 p2 p3 p4) _=_;rw [hy];rfl)
noncomputable def M81:C81:=F81 M18 M139
theorem sm81:Sp81 M81:=sf81 sm18 sm139
def X42:Aux:=⟨[(4,([0,1,4]++rg 6 37))],[(6,.lin [0,1,2,3,4,5,6])]⟩
inductive S42 where
 | l0 (v0:Int)
def T42 {R:Type} (B:Ops) (c18:C18) (c65:C65) (c81:C81) (p0:L94) (p1:L98) (p2:L103) (p3 p4:L68) (again:S42→Option R) (k:(Bool)→Option R):Option S42→Option R | none=>ob (c18 p0 p1 p2) fun y0=>cond (!y0) (k false) (cond (B.lt (↑p4.length) 1) (k false) (cond (B.lt 2000 (IntKind.wrap .i64 (Nat.cast p3.length+Nat.cast p4.length))) (k false) (again (.l0 0)))) | some (.l0 v0)=>cond (B.lt v0 (IntKind.wrap .i64 (Nat.cast p3.length+Nat.cast p4.length))) (ob (c65 p3 p4 v0) fun y0=>ob (c81 p0 p1 p2 y0.1 y0.2.1) fun y1=>cond (!y1) (k false) (again (.l0 (IntKind.wrap .i64 (v0+1))))) (k true)
def E42 (p0:L94) (p1:L98) (p2:L103) (p3 p4:L68):S42→List AV×Objs
 | .l0 v0=>(mk 43 [(2,.c (.ptr 2 0)),(3,.c (.ptr 3 0)),(5,.c (.int .i64 v0))],[(2,.box 31 [.list 94 ty94 p0,.list 98 ty98 p1,.list 103 ty103 p2]),(3,.box 41 [.list 68 ty68 p3,.list 68 ty68 p4])])
def I42:S42→Nat
 | .l0 _=>0
noncomputable abbrev A42 {R:Type} (B:Ops) (c18:C18) (c65:C65) (c81:C81) (p0:L94) (p1:L98) (p2:L103) (p3 p4:L68) (k:AV→Objs→Option R) (s:S42) (n:Nat):Option R:=aloop tau B gl0 X42 (ent 18 (e18 c18) (ent 65 (e65 c65) (ent 81 (e81 c81) gnil))) ow [] Tryz.f42 k (I42 s) (E42 p0 p1 p2 p3 p4 s) n
theorem eq42 {R:Type} (B:Ops) (c18:C18) (c65:C65) (c81:C81) (p0:L94) (p1:L98) (p2:L103) (p3 p4:L68) (k:AV→Objs→Option R) (n:Nat):afun tau B gl0 X42 (ent 18 (e18 c18) (ent 65 (e65 c65) (ent 81 (e81 c81) gnil))) ow Tryz.f42 [.agg [.list 94 ty94 p0,.list 98 ty98 p1,.list 103 ty103 p2],.agg [.list 68 ty68 p3,.list 68 ty68 p4]] [] k n=T42 B c18 c65 c81 p0 p1 p2 p3 p4 (fun s=>A42 B c18 c65 c81 p0 p1 p2 p3 p4 k s n) (K2 k) none:=by kernel_rfl
theorem el42 {R:Type} (B:Ops) (c18:C18) (c65:C65) (c81:C81) (p0:L94) (p1:L98) (p2:L103) (p3 p4:L68) (k:AV→Objs→Option R) (n:Nat):∀ s,A42 B c18 c65 c81 p0 p1 p2 p3 p4 k s (n+1)=T42 B c18 c65 c81 p0 p1 p2 p3 p4 (fun s=>A42 B c18 c65 c81 p0 p1 p2 p3 p4 k s n) (K2 k) (some s):=by
 intro s
 cases s<;>kernel_rfl
theorem nt42 {R R':Type} (B:Ops) (c18:C18) (c65:C65) (c81:C81) (p0:L94) (p1:L98) (p2:L103) (p3 p4:L68) (again:S42→Option R) (again':S42→Option R') (k0:(Bool)→Option R') (k:R'→Option R) (h:∀ s,again s=ob (again' s) k):∀ s,T42 B c18 c65 c81 p0 p1 p2 p3 p4 again (fun y=>ob (k0 y) k) s=ob (T42 B c18 c65 c81 p0 p1 p2 p3 p4 again' k0 s) k:=by
 rintro (_ | x)
 all_goals try cases x
 all_goals (unfold T42;repeat' first | exact rfl | exact h _ | apply qad | (apply qaj;intro))
def R42 (c18:C18) (c65:C65) (c81:C81) (p0:L94) (p1:L98) (p2:L103) (p3 p4:L68):Nat→S42→Option (Bool)
 | 0,_=>none
 | n+1,s=>T42 Ops.std c18 c65 c81 p0 p1 p2 p3 p4 (R42 c18 c65 c81 p0 p1 p2 p3 p4 n) some (some s)
theorem rr42 {R:Type} (c18:C18) (c65:C65) (c81:C81) (p0:L94) (p1:L98) (p2:L103) (p3 p4:L68) (k:AV→Objs→Option R):∀ (n:Nat) (s:S42),A42 Ops.std c18 c65 c81 p0 p1 p2 p3 p4 k s n=ob (R42 c18 c65 c81 p0 p1 p2 p3 p4 n s) (K2 k)
 | 0,s=>by cases s<;>rfl
 | n+1,s=>by rw [el42];exact nt42 Ops.std c18 c65 c81 p0 p1 p2 p3 p4 _ _ some (K2 k) (rr42 c18 c65 c81 p0 p1 p2 p3 p4 k n) (some s)
def F42 (c18:C18) (c65:C65) (c81:C81) (p0:L94) (p1:L98) (p2:L103) (p3 p4:L68):Option (Bool):=T42 Ops.std c18 c65 c81 p0 p1 p2 p3 p4 (R42 c18 c65 c81 p0 p1 p2 p3 p4 1000000) some none
abbrev C42:Type:=L94→L98→L103→L68→L68→Option (Bool)
def e42 {R:Type} (c:C42):Ent R:=eG [.aG [.cL 94 ty94,.cL 98 ty98,.cL 103 ty103],.aG [.cL 68 ty68,.cL 68 ty68]] [] fun v k=>ob (c v.1 v.2.1 v.2.2.1 v.2.2.2.1 v.2.2.2.2.1) (K2 k)
abbrev Sp42 (c:C42):Prop:=∀ (p0:L94) (p1:L98) (p2:L103) (p3 p4:L68) (y:Bool),c p0 p1 p2 p3 p4=some y→Spec Tryz.prog gl0 42 [.agg [.list 94 ty94 p0,.list 98 ty98 p1,.list 103 ty103 p2],.agg [.list 68 ty68 p3,.list 68 ty68 p4]] [] (.c (.bool y)) []
theorem ek42 {R:Type} {c:C42} (hs:Sp42 c):EOk 42 (e42 (R:=R) c):=qal fun v=>hs v.1 v.2.1 v.2.2.1 v.2.2.2.1 v.2.2.2.2.1
theorem sf42 {c18:C18} {c65:C65} {c81:C81} (h18:Sp18 c18) (h65:Sp65 c65) (h81:Sp81 c81):Sp42 (F42 c18 c65 c81):=fun p0 p1 p2 p3 p4 y hy=>by
 refine qai (qac (ek18 h18) (qac (ek65 h65) (qac (ek81 h81) qah))) 1000000 (fn:=Tryz.f42) (by kernel_rfl) (by kernel_rfl) (X:=X42) (by kernel_rfl) ?_
 rw [eq42]
 exact (nt42 Ops.std c18 c65 c81 p0 p1 p2 p3 p4 _ _ some (K2 k0) (rr42 c18 c65 c81 p0 p1 p2 p3 p4 k0 1000000) none).trans (by show ob (F42 c18 c65 c81 p0 p1 p2 p3 p4) _=_;rw [hy];rfl)
noncomputable def M42:C42:=F42 M18 M65 M81
theorem sm42:Sp42 M42:=sf42 sm18 sm65 sm81
def X111:Aux:=⟨[],[]⟩
def T111 {R:Type} (B:Ops) (p0:Int) (k:(Int)→Option R):Option R:=k (bif true then bif B.lt (-99999) (bif false then bif B.lt 99999 p0 then p0 else 99999 else bif B.lt p0 99999 then p0 else 99999) then bif false then bif B.lt 99999 p0 then p0 else 99999 else bif B.lt p0 99999 then p0 else 99999 else -99999 else bif B.lt (bif false then bif B.lt 99999 p0 then p0 else 99999 else bif B.lt p0 99999 then p0 else 99999) (-99999) then bif false then bif B.lt 99999 p0 then p0 else 99999 else bif B.lt p0 99999 then p0 else 99999 else -99999)
theorem eq111 {R:Type} (B:Ops) (p0:Int) (k:AV→Objs→Option R) (n:Nat):afun tau B gl0 X111 gnil ow Tryz.f111 [.c (.int .i64 p0)] [] k n=T111 B p0 (K1 k):=by kernel_rfl
theorem nt111 {R R':Type} (B:Ops) (p0:Int) (k0:(Int)→Option R') (k:R'→Option R):T111 B p0 (fun y=>ob (k0 y) k)=ob (T111 B p0 k0) k:=by
 unfold T111
 repeat' first | exact rfl | apply qad | (apply qaj;intro)
def F111 (p0:Int):Option (Int):=T111 Ops.std p0 some
abbrev C111:Type:=Int→Option (Int)
def e111 {R:Type} (c:C111):Ent R:=eG [.aC (.cI .i64)] [] fun v k=>ob (c v.1) (K1 k)
abbrev Sp111 (c:C111):Prop:=∀ (p0 y:Int),c p0=some y→Spec Tryz.prog gl0 111 [.c (.int .i64 p0)] [] (.c (.int .i64 y)) []
theorem ek111 {R:Type} {c:C111} (hs:Sp111 c):EOk 111 (e111 (R:=R) c):=qal fun v=>hs v.1
theorem sf111:Sp111 (F111):=fun p0 y hy=>by
 refine qai qah 1000000 (fn:=Tryz.f111) (by kernel_rfl) (by kernel_rfl) (X:=X111) (by kernel_rfl) ?_
 rw [eq111]
 exact (nt111 Ops.std p0 some (K1 k0)).trans (by show ob (F111 p0) _=_;rw [hy];rfl)
noncomputable def M111:C111:=F111
theorem sm111:Sp111 M111:=sf111
def X112:Aux:=⟨[],[]⟩
def T112 {R:Type} (B:Ops) (p0:Bool) (k:(Int)→Option R):Option R:=cond (p0) (k 1) (k 0)
theorem eq112 {R:Type} (B:Ops) (p0:Bool) (k:AV→Objs→Option R) (n:Nat):afun tau B gl0 X112 gnil ow Tryz.f112 [.c (.bool p0)] [] k n=T112 B p0 (K1 k):=by kernel_rfl
theorem nt112 {R R':Type} (B:Ops) (p0:Bool) (k0:(Int)→Option R') (k:R'→Option R):T112 B p0 (fun y=>ob (k0 y) k)=ob (T112 B p0 k0) k:=by
 unfold T112
 repeat' first | exact rfl | apply qad | (apply qaj;intro)
def F112 (p0:Bool):Option (Int):=T112 Ops.std p0 some
abbrev C112:Type:=Bool→Option (Int)
def e112 {R:Type} (c:C112):Ent R:=eG [.aC .cB] [] fun v k=>ob (c v.1) (K1 k)
abbrev Sp112 (c:C112):Prop:=∀ (p0:Bool) (y:Int),c p0=some y→Spec Tryz.prog gl0 112 [.c (.bool p0)] [] (.c (.int .i64 y)) []
theorem ek112 {R:Type} {c:C112} (hs:Sp112 c):EOk 112 (e112 (R:=R) c):=qal fun v=>hs v.1
theorem sf112:Sp112 (F112):=fun p0 y hy=>by
 refine qai qah 1000000 (fn:=Tryz.f112) (by kernel_rfl) (by kernel_rfl) (X:=X112) (by kernel_rfl) ?_
 rw [eq112]
 exact (nt112 Ops.std p0 some (K1 k0)).trans (by show ob (F112 p0) _=_;rw [hy];rfl)
noncomputable def M112:C112:=F112
theorem sm112:Sp112 M112:=sf112
def X113:Aux:=⟨[],[]⟩
def T113 {R:Type} (B:Ops) (c111:C111) (c112:C112) (p0 p1 p2:Int) (k:(Int)→Option R):Option R:=cond (B.eq p0 6) (ob (c111 (IntKind.wrap .i64 (p1*p2))) fun y0=>k y0) (cond (B.eq p0 7) (ob (c111 (IntKind.wrap .i64 (p1+p2))) fun y0=>k y0) (cond (B.eq p0 8) (ob (c111 (IntKind.wrap .i64 (p1-p2))) fun y0=>k y0) (cond (B.eq p0 9) (ob (c112 (B.lt p1 p2)) fun y0=>k y0) (cond (B.eq p0 10) (ob (c112 (B.le p1 p2)) fun y0=>k y0) (cond (B.eq p0 11) (ob (c112 (B.lt p2 p1)) fun y0=>k y0) (cond (B.eq p0 12) (ob (c112 (B.le p2 p1)) fun y0=>k y0) (cond (B.eq p0 13) (ob (c112 (B.eq p1 p2)) fun y0=>k y0) (cond (B.eq p0 14) (ob (c112 !B.eq p1 p2) fun y0=>k y0) (cond (B.eq p0 15) (cond (!B.eq p1 0) (ob (c112 !B.eq p2 0) fun y0=>k y0) (ob (c112 false) fun y0=>k y0)) (cond (!B.eq p1 0) (ob (c112 true) fun y0=>k y0) (ob (c112 !B.eq p2 0) fun y0=>k y0)))))))))))
theorem eq113 {R:Type} (B:Ops) (c111:C111) (c112:C112) (p0 p1 p2:Int) (k:AV→Objs→Option R) (n:Nat):afun tau B gl0 X113 (ent 111 (e111 c111) (ent 112 (e112 c112) gnil)) ow Tryz.f113 [.c (.int .i64 p0),.c (.int .i64 p1),.c (.int .i64 p2)] [] k n=T113 B c111 c112 p0 p1 p2 (K1 k):=by kernel_rfl
theorem nt113 {R R':Type} (B:Ops) (c111:C111) (c112:C112) (p0 p1 p2:Int) (k0:(Int)→Option R') (k:R'→Option R):T113 B c111 c112 p0 p1 p2 (fun y=>ob (k0 y) k)=ob (T113 B c111 c112 p0 p1 p2 k0) k:=by
 unfold T113
 repeat' first | exact rfl | apply qad | (apply qaj;intro)
def F113 (c111:C111) (c112:C112) (p0 p1 p2:Int):Option (Int):=T113 Ops.std c111 c112 p0 p1 p2 some
abbrev C113:Type:=Int→Int→Int→Option (Int)
def e113 {R:Type} (c:C113):Ent R:=eG [.aC (.cI .i64),.aC (.cI .i64),.aC (.cI .i64)] [] fun v k=>ob (c v.1 v.2.1 v.2.2.1) (K1 k)
abbrev Sp113 (c:C113):Prop:=∀ (p0 p1 p2 y:Int),c p0 p1 p2=some y→Spec Tryz.prog gl0 113 [.c (.int .i64 p0),.c (.int .i64 p1),.c (.int .i64 p2)] [] (.c (.int .i64 y)) []
theorem ek113 {R:Type} {c:C113} (hs:Sp113 c):EOk 113 (e113 (R:=R) c):=qal fun v=>hs v.1 v.2.1 v.2.2.1
theorem sf113 {c111:C111} {c112:C112} (h111:Sp111 c111) (h112:Sp112 c112):Sp113 (F113 c111 c112):=fun p0 p1 p2 y hy=>by
 refine qai (qac (ek111 h111) (qac (ek112 h112) qah)) 1000000 (fn:=Tryz.f113) (by kernel_rfl) (by kernel_rfl) (X:=X113) (by kernel_rfl) ?_
 rw [eq113]
 exact (nt113 Ops.std c111 c112 p0 p1 p2 some (K1 k0)).trans (by show ob (F113 c111 c112 p0 p1 p2) _=_;rw [hy];rfl)
noncomputable def M113:C113:=F113 M111 M112
theorem sm113:Sp113 M113:=sf113 sm111 sm112
def X64:Aux:=⟨[(5,([0,1,5,6]++rg 9 148))],[(16,.lin (rg 0 13)),(19,.lin (rg 0 16)),(23,.lin (rg 0 16)),(27,.lin (rg 0 16)),(12,.lin (rg 0 22))]⟩
inductive S64 where
 | l0 (v1:Int) (v7:L3)
def T64 {R:Type} (B:Ops) (c62:C62) (c109:C109) (c111:C111) (c105:C105) (c108:C108) (c112:C112) (c113:C113) (p0:L94) (p1:L98) (p2:L103) (p3 p4:L3) (p5:L150) (again:S64→Option R) (k:(Int)→Option R):Option S64→Option R | none=>ob (c62 p0 p1 p2 p5) fun y0=>cond (!y0) (k 0) (cond (!B.eq (↑p3.length) (↑p1.length)) (k 0) (cond (!B.eq (↑p4.length) (↑p0.length)) (k 0) (again (.l0 0 (mt (Ty.den (Ty.int .i64))))))) | some (.l0 v1 v7)=>cond (B.lt v1 (↑p5.length)) (cond (B.inb v1 p5.length) (cond (B.eq (p5.getD v1.toNat ty150.dflt).1 1) (cond (B.lim (List.length v7+List.length (((p5.getD v1.toNat ty150.dflt).2).1::mt (Ty.den (Ty.int .i64)))) 8) (again (.l0 (IntKind.wrap .i64 (v1+1)) (v7++((p5.getD v1.toNat ty150.dflt).2).1::mt (Ty.den (Ty.int .i64))))) none) (cond (B.eq (p5.getD v1.toNat ty150.dflt).1 2) (ob (c109 p0 p1 p2 (((p5.getD v1.toNat ty150.dflt).2).2).1) fun y0=>cond (B.inb y0 p4.length) (ob (c111 (p4.getD y0.toNat ty3.dflt)) fun y1=>cond (B.lim (List.length v7+List.length (y1::mt (Ty.den (Ty.int .i64)))) 8) (again (.l0 (IntKind.wrap .i64 (v1+1)) (v7++y1::mt (Ty.den (Ty.int .i64))))) none) none) (cond (B.eq (p5.getD v1.toNat ty150.dflt).1 3) (ob (c105 p0 p1 p2 (((p5.getD v1.toNat ty150.dflt).2).2).1) fun y0=>cond (B.inb y0 p3.length) (ob (c108 p0 p1 p2 y0 (((p5.getD v1.toNat ty150.dflt).2).2).2) fun y1=>ob (c112 (B.eq (p3.getD y0.toNat ty3.dflt) y1)) fun y2=>cond (B.lim (List.length v7+List.length (y2::mt (Ty.den (Ty.int .i64)))) 8) (again (.l0 (IntKind.wrap .i64 (v1+1)) (v7++y2::mt (Ty.den (Ty.int .i64))))) none) none) (cond (B.eq (p5.getD v1.toNat ty150.dflt).1 4) (cond (B.lt (↑v7.length) 1) (k 0) (cond (B.eq (IntKind.wrap .i64 (Nat.cast v7.length-1)) (IntKind.wrap .i64 (Nat.cast v7.length-1))) (cond (B.inb (IntKind.wrap .i64 (Nat.cast v7.length-1)) (List.length v7+1)) (cond (B.inb (IntKind.wrap .i64 (Nat.cast v7.length-1)) v7.length) (ob (c112 (B.eq (v7.getD (Int.toNat (IntKind.wrap .i64 (Nat.cast v7.length-1))) ty3.dflt) 0)) fun y0=>cond (B.lt 0 (Nat.cast (List.length (y0::mt (Ty.den (Ty.int .i64)))))) (cond (B.lim (List.length (List.take (Int.toNat (IntKind.wrap .i64 (Nat.cast v7.length-1))) v7)+List.length (y0::mt (Ty.den (Ty.int .i64)))) 8) (again (.l0 (IntKind.wrap .i64 (v1+1)) (List.take (Int.toNat (IntKind.wrap .i64 (Nat.cast v7.length-1))) v7++y0::mt (Ty.den (Ty.int .i64))))) none) none) none) none) none)) (cond (B.eq (p5.getD v1.toNat ty150.dflt).1 5) (cond (B.lt (↑v7.length) 1) (k 0) (cond (B.eq (IntKind.wrap .i64 (Nat.cast v7.length-1)) (IntKind.wrap .i64 (Nat.cast v7.length-1))) (cond (B.inb (IntKind.wrap .i64 (Nat.cast v7.length-1)) (List.length v7+1)) (cond (B.inb (IntKind.wrap .i64 (Nat.cast v7.length-1)) v7.length) (ob (c111 (IntKind.wrap .i64 (0-v7.getD (Int.toNat (IntKind.wrap .i64 (Nat.cast v7.length-1))) ty3.dflt))) fun y0=>cond (B.lt 0 (Nat.cast (List.length (y0::mt (Ty.den (Ty.int .i64)))))) (cond (B.lim (List.length (List.take (Int.toNat (IntKind.wrap .i64 (Nat.cast v7.length-1))) v7)+List.length (y0::mt (Ty.den (Ty.int .i64)))) 8) (again (.l0 (IntKind.wrap .i64 (v1+1)) (List.take (Int.toNat (IntKind.wrap .i64 (Nat.cast v7.length-1))) v7++y0::mt (Ty.den (Ty.int .i64))))) none) none) none) none) none)) (cond (B.lt (↑v7.length) 2) (k 0) (cond (B.eq (IntKind.wrap .i64 (Nat.cast v7.length-2)) (IntKind.wrap .i64 (Nat.cast v7.length-2))) (cond (B.inb (IntKind.wrap .i64 (Nat.cast v7.length-2)) (List.length v7+1)) (cond (B.inb (IntKind.wrap .i64 (Nat.cast v7.length-2)) v7.length) (cond (B.inb (IntKind.wrap .i64 (Nat.cast v7.length-1)) v7.length) (ob (c113 (p5.getD v1.toNat ty150.dflt).1 (v7.getD (Int.toNat (IntKind.wrap .i64 (Nat.cast v7.length-2))) ty3.dflt) (v7.getD (Int.toNat (IntKind.wrap .i64 (Nat.cast v7.length-1))) ty3.dflt)) fun y0=>cond (B.lt 0 (Nat.cast (List.length (y0::mt (Ty.den (Ty.int .i64)))))) (cond (B.lim (List.length (List.take (Int.toNat (IntKind.wrap .i64 (Nat.cast v7.length-2))) v7)+List.length (y0::mt (Ty.den (Ty.int .i64)))) 8) (again (.l0 (IntKind.wrap .i64 (v1+1)) (List.take (Int.toNat (IntKind.wrap .i64 (Nat.cast v7.length-2))) v7++y0::mt (Ty.den (Ty.int .i64))))) none) none) none) none) none) none))))))) none) (cond (B.eq (↑v7.length) 0) (k 0) (cond (B.inb 0 v7.length) (k (v7.getD (Int.toNat 0) ty3.dflt)) none))
def E64 (p0:L94) (p1:L98) (p2:L103) (p3 p4:L3) (p5:L150):S64→List AV×Objs
 | .l0 v1 v7=>(mk 157 [(2,.c (.list 150 ty150 p5)),(3,.c (.ptr 3 0)),(4,.c (.ptr 4 0)),(7,.c (.own 7)),(8,.c (.int .i64 v1))],[(3,.box 31 [.list 94 ty94 p0,.list 98 ty98 p1,.list 103 ty103 p2]),(4,.box 57 [.list 3 ty3 p3,.list 3 ty3 p4]),(7,.row 3 ty3 v7)])
def I64:S64→Nat
 | .l0 _ _=>0
noncomputable abbrev A64 {R:Type} (B:Ops) (c62:C62) (c109:C109) (c111:C111) (c105:C105) (c108:C108) (c112:C112) (c113:C113) (p0:L94) (p1:L98) (p2:L103) (p3 p4:L3) (p5:L150) (k:AV→Objs→Option R) (s:S64) (n:Nat):Option R:=aloop tau B gl0 X64 (ent 62 (e62 c62) (ent 109 (e109 c109) (ent 111 (e111 c111) (ent 105 (e105 c105) (ent 108 (e108 c108) (ent 112 (e112 c112) (ent 113 (e113 c113) gnil))))))) ow [] Tryz.f64 k (I64 s) (E64 p0 p1 p2 p3 p4 p5 s) n
theorem eq64 {R:Type} (B:Ops) (c62:C62) (c109:C109) (c111:C111) (c105:C105) (c108:C108) (c112:C112) (c113:C113) (p0:L94) (p1:L98) (p2:L103) (p3 p4:L3) (p5:L150) (k:AV→Objs→Option R) (n:Nat):afun tau B gl0 X64 (ent 62 (e62 c62) (ent 109 (e109 c109) (ent 111 (e111 c111) (ent 105 (e105 c105) (ent 108 (e108 c108) (ent 112 (e112 c112) (ent 113 (e113 c113) gnil))))))) ow Tryz.f64 [.agg [.list 94 ty94 p0,.list 98 ty98 p1,.list 103 ty103 p2],.agg [.list 3 ty3 p3,.list 3 ty3 p4],.c (.list 150 ty150 p5)] [] k n=T64 B c62 c109 c111 c105 c108 c112 c113 p0 p1 p2 p3 p4 p5 (fun s=>A64 B c62 c109 c111 c105 c108 c112 c113 p0 p1 p2 p3 p4 p5 k s n) (K1 k) none:=by kernel_rfl
theorem el64 {R:Type} (B:Ops) (c62:C62) (c109:C109) (c111:C111) (c105:C105) (c108:C108) (c112:C112) (c113:C113) (p0:L94) (p1:L98) (p2:L103) (p3 p4:L3) (p5:L150) (k:AV→Objs→Option R) (n:Nat):∀ s,A64 B c62 c109 c111 c105 c108 c112 c113 p0 p1 p2 p3 p4 p5 k s (n+1)=T64 B c62 c109 c111 c105 c108 c112 c113 p0 p1 p2 p3 p4 p5 (fun s=>A64 B c62 c109 c111 c105 c108 c112 c113 p0 p1 p2 p3 p4 p5 k s n) (K1 k) (some s):=by
 intro s
 cases s<;>kernel_rfl
theorem nt64 {R R':Type} (B:Ops) (c62:C62) (c109:C109) (c111:C111) (c105:C105) (c108:C108) (c112:C112) (c113:C113) (p0:L94) (p1:L98) (p2:L103) (p3 p4:L3) (p5:L150) (again:S64→Option R) (again':S64→Option R') (k0:(Int)→Option R') (k:R'→Option R) (h:∀ s,again s=ob (again' s) k):∀ s,T64 B c62 c109 c111 c105 c108 c112 c113 p0 p1 p2 p3 p4 p5 again (fun y=>ob (k0 y) k) s=ob (T64 B c62 c109 c111 c105 c108 c112 c113 p0 p1 p2 p3 p4 p5 again' k0 s) k:=by
 rintro (_ | x)
 all_goals try cases x
 all_goals (unfold T64;repeat' first | exact rfl | exact h _ | apply qad | (apply qaj;intro))
def R64 (c62:C62) (c109:C109) (c111:C111) (c105:C105) (c108:C108) (c112:C112) (c113:C113) (p0:L94) (p1:L98) (p2:L103) (p3 p4:L3) (p5:L150):Nat→S64→Option (Int)
 | 0,_=>none
 | n+1,s=>T64 Ops.std c62 c109 c111 c105 c108 c112 c113 p0 p1 p2 p3 p4 p5 (R64 c62 c109 c111 c105 c108 c112 c113 p0 p1 p2 p3 p4 p5 n) some (some s)
theorem rr64 {R:Type} (c62:C62) (c109:C109) (c111:C111) (c105:C105) (c108:C108) (c112:C112) (c113:C113) (p0:L94) (p1:L98) (p2:L103) (p3 p4:L3) (p5:L150) (k:AV→Objs→Option R):∀ (n:Nat) (s:S64),A64 Ops.std c62 c109 c111 c105 c108 c112 c113 p0 p1 p2 p3 p4 p5 k s n=ob (R64 c62 c109 c111 c105 c108 c112 c113 p0 p1 p2 p3 p4 p5 n s) (K1 k)
 | 0,s=>by cases s<;>rfl
 | n+1,s=>by rw [el64];exact nt64 Ops.std c62 c109 c111 c105 c108 c112 c113 p0 p1 p2 p3 p4 p5 _ _ some (K1 k) (rr64 c62 c109 c111 c105 c108 c112 c113 p0 p1 p2 p3 p4 p5 k n) (some s)
def F64 (c62:C62) (c109:C109) (c111:C111) (c105:C105) (c108:C108) (c112:C112) (c113:C113) (p0:L94) (p1:L98) (p2:L103) (p3 p4:L3) (p5:L150):Option (Int):=T64 Ops.std c62 c109 c111 c105 c108 c112 c113 p0 p1 p2 p3 p4 p5 (R64 c62 c109 c111 c105 c108 c112 c113 p0 p1 p2 p3 p4 p5 1000000) some none
abbrev C64:Type:=L94→L98→L103→L3→L3→L150→Option (Int)
def e64 {R:Type} (c:C64):Ent R:=eG [.aG [.cL 94 ty94,.cL 98 ty98,.cL 103 ty103],.aG [.cL 3 ty3,.cL 3 ty3],.aC (.cL 150 ty150)] [] fun v k=>ob (c v.1 v.2.1 v.2.2.1 v.2.2.2.1 v.2.2.2.2.1 v.2.2.2.2.2.1) (K1 k)
abbrev Sp64 (c:C64):Prop:=∀ (p0:L94) (p1:L98) (p2:L103) (p3 p4:L3) (p5:L150) (y:Int),c p0 p1 p2 p3 p4 p5=some y→Spec Tryz.prog gl0 64 [.agg [.list 94 ty94 p0,.list 98 ty98 p1,.list 103 ty103 p2],.agg [.list 3 ty3 p3,.list 3 ty3 p4],.c (.list 150 ty150 p5)] [] (.c (.int .i64 y)) []
theorem ek64 {R:Type} {c:C64} (hs:Sp64 c):EOk 64 (e64 (R:=R) c):=qal fun v=>hs v.1 v.2.1 v.2.2.1 v.2.2.2.1 v.2.2.2.2.1 v.2.2.2.2.2.1
theorem sf64 {c62:C62} {c109:C109} {c111:C111} {c105:C105} {c108:C108} {c112:C112} {c113:C113} (h62:Sp62 c62) (h109:Sp109 c109) (h111:Sp111 c111) (h105:Sp105 c105) (h108:Sp108 c108) (h112:Sp112 c112) (h113:Sp113 c113):Sp64 (F64 c62 c109 c111 c105 c108 c112 c113):=fun p0 p1 p2 p3 p4 p5 y hy=>by
 refine qai (qac (ek62 h62) (qac (ek109 h109) (qac (ek111 h111) (qac (ek105 h105) (qac (ek108 h108) (qac (ek112 h112) (qac (ek113 h113) qah))))))) 1000000 (fn:=Tryz.f64) (by kernel_rfl) (by kernel_rfl) (X:=X64) (by kernel_rfl) ?_
 rw [eq64]
 exact (nt64 Ops.std c62 c109 c111 c105 c108 c112 c113 p0 p1 p2 p3 p4 p5 _ _ some (K1 k0) (rr64 c62 c109 c111 c105 c108 c112 c113 p0 p1 p2 p3 p4 p5 k0 1000000) none).trans (by show ob (F64 c62 c109 c111 c105 c108 c112 c113 p0 p1 p2 p3 p4 p5) _=_;rw [hy];rfl)
noncomputable def M64:C64:=F64 M62 M109 M111 M105 M108 M112 M113
theorem sm64:Sp64 M64:=sf64 sm62 sm109 sm111 sm105 sm108 sm112 sm113
def X21:Aux:=⟨[(7,([0,2,4,6]++rg 11 129)),(12,([0,2,4,6]++rg 13 127))],[(14,.lin ([0,1,2,3,4,7,8,9,10,11,5,6,12,13,14,15])),(21,.lin (rg 0 16))]⟩
inductive S21 where
 | l0 (v1 v2:Int) (v8:L22) (v9:L47)
 | l1 (v1 v2 v3:Int) (v9:L22) (v10:L47) (v11:L4)
def T21 {R:Type} (B:Ops) (c19:C19) (c42:C42) (c37:C37) (c65:C65) (c64:C64) (c66:C66) (p0:L94) (p1:L98) (p2:L103) (p3:L66) (p4 p5:L68) (again:S21→Option R) (k:(L47)→Option R):Option S21→Option R | none=>ob (c19 p0 p1 p2 p3) fun y0=>cond (!y0) (k (mt (Ty.den ty47))) (ob (c42 p0 p1 p2 p4 p5) fun y1=>cond (!y1) (k (mt (Ty.den ty47))) (ob (c37 p3) fun y2=>again (.l0 (IntKind.wrap .i64 (Nat.cast p4.length+Nat.cast p5.length)) 0 y2 (mt (Ty.den ty47))))) | some (.l0 v1 v2 v8 v9)=>cond (B.lt v2 (↑p3.length)) (cond (B.inb v2 p3.length) (cond (B.eq (p3.getD v2.toNat ty66.dflt).1 3) (cond (bif B.eq v1 v1 then bif B.le 0 v1 then B.lim v1.toNat 1 else false else false) (again (.l1 v1 v2 0 v8 v9 (List.replicate v1.toNat (Ty.dflt Ty.bool)))) none) (cond (B.inb v2 v8.length) (cond (B.lt 0 (Nat.cast (List.length (v8.getD v2.toNat ty22.dflt)))) (cond (B.inb v2 v8.length) (cond (B.inb 0 (List.length (v8.getD v2.toNat ty22.dflt))) (cond (B.lt (List.getD (v8.getD v2.toNat ty22.dflt) (Int.toNat 0) (Ty.dflt (Ty.int .i64))) (↑v9.length)) (cond (B.inb v2 v8.length) (cond (B.inb 0 (List.length (v8.getD v2.toNat ty22.dflt))) (cond (B.inb (List.getD (v8.getD v2.toNat ty22.dflt) (Int.toNat 0) (Ty.dflt (Ty.int .i64))) v9.length) (cond (B.inb v2 v8.length) (cond (B.lt 1 (Nat.cast (List.length (v8.getD v2.toNat ty22.dflt)))) (cond (B.inb v2 v8.length) (cond (B.inb 1 (List.length (v8.getD v2.toNat ty22.dflt))) (cond (B.lt (List.getD (v8.getD v2.toNat ty22.dflt) (Int.toNat 1) (Ty.dflt (Ty.int .i64))) (↑v9.length)) (cond (B.inb v2 v8.length) (cond (B.inb 1 (List.length (v8.getD v2.toNat ty22.dflt))) (cond (B.inb (List.getD (v8.getD v2.toNat ty22.dflt) (Int.toNat 1) (Ty.dflt (Ty.int .i64))) v9.length) (cond (B.inb v2 p3.length) (ob (c66 (p3.getD v2.toNat ty66.dflt).1 (v9.getD (Int.toNat (List.getD (v8.getD v2.toNat ty22.dflt) (Int.toNat 0) (Ty.dflt (Ty.int .i64)))) ty47.dflt) (v9.getD (Int.toNat (List.getD (v8.getD v2.toNat ty22.dflt) (Int.toNat 1) (Ty.dflt (Ty.int .i64)))) ty47.dflt) v1 (↑p4.length)) fun y0=>cond (B.lim (List.length v9+List.length (y0::mt (Ty.den ty47))) 24) (again (.l0 v1 (IntKind.wrap .i64 (v2+1)) v8 (v9++y0::mt (Ty.den ty47)))) none) none) none) none) none) (cond (B.inb v2 p3.length) (ob (c66 (p3.getD v2.toNat ty66.dflt).1 (v9.getD (Int.toNat (List.getD (v8.getD v2.toNat ty22.dflt) (Int.toNat 0) (Ty.dflt (Ty.int .i64)))) ty47.dflt) (mt (Ty.den Ty.bool)) v1 (↑p4.length)) fun y0=>cond (B.lim (List.length v9+List.length (y0::mt (Ty.den ty47))) 24) (again (.l0 v1 (IntKind.wrap .i64 (v2+1)) v8 (v9++y0::mt (Ty.den ty47)))) none) none)) none) none) (cond (B.inb v2 p3.length) (ob (c66 (p3.getD v2.toNat ty66.dflt).1 (v9.getD (Int.toNat (List.getD (v8.getD v2.toNat ty22.dflt) (Int.toNat 0) (Ty.dflt (Ty.int .i64)))) ty47.dflt) (mt (Ty.den Ty.bool)) v1 (↑p4.length)) fun y0=>cond (B.lim (List.length v9+List.length (y0::mt (Ty.den ty47))) 24) (again (.l0 v1 (IntKind.wrap .i64 (v2+1)) v8 (v9++y0::mt (Ty.den ty47)))) none) none)) none) none) none) none) (cond (B.inb v2 v8.length) (cond (B.lt 1 (Nat.cast (List.length (v8.getD v2.toNat ty22.dflt)))) (cond (B.inb v2 v8.length) (cond (B.inb 1 (List.length (v8.getD v2.toNat ty22.dflt))) (cond (B.lt (List.getD (v8.getD v2.toNat ty22.dflt) (Int.toNat 1) (Ty.dflt (Ty.int .i64))) (↑v9.length)) (cond (B.inb v2 v8.length) (cond (B.inb 1 (List.length (v8.getD v2.toNat ty22.dflt))) (cond (B.inb (List.getD (v8.getD v2.toNat ty22.dflt) (Int.toNat 1) (Ty.dflt (Ty.int .i64))) v9.length) (cond (B.inb v2 p3.length) (ob (c66 (p3.getD v2.toNat ty66.dflt).1 (mt (Ty.den Ty.bool)) (v9.getD (Int.toNat (List.getD (v8.getD v2.toNat ty22.dflt) (Int.toNat 1) (Ty.dflt (Ty.int .i64)))) ty47.dflt) v1 (↑p4.length)) fun y0=>cond (B.lim (List.length v9+List.length (y0::mt (Ty.den ty47))) 24) (again (.l0 v1 (IntKind.wrap .i64 (v2+1)) v8 (v9++y0::mt (Ty.den ty47)))) none) none) none) none) none) (cond (B.inb v2 p3.length) (ob (c66 (p3.getD v2.toNat ty66.dflt).1 (mt (Ty.den Ty.bool)) (mt (Ty.den Ty.bool)) v1 (↑p4.length)) fun y0=>cond (B.lim (List.length v9+List.length (y0::mt (Ty.den ty47))) 24) (again (.l0 v1 (IntKind.wrap .i64 (v2+1)) v8 (v9++y0::mt (Ty.den ty47)))) none) none)) none) none) (cond (B.inb v2 p3.length) (ob (c66 (p3.getD v2.toNat ty66.dflt).1 (mt (Ty.den Ty.bool)) (mt (Ty.den Ty.bool)) v1 (↑p4.length)) fun y0=>cond (B.lim (List.length v9+List.length (y0::mt (Ty.den ty47))) 24) (again (.l0 v1 (IntKind.wrap .i64 (v2+1)) v8 (v9++y0::mt (Ty.den ty47)))) none) none)) none)) none) none) (cond (B.inb v2 v8.length) (cond (B.lt 1 (Nat.cast (List.length (v8.getD v2.toNat ty22.dflt)))) (cond (B.inb v2 v8.length) (cond (B.inb 1 (List.length (v8.getD v2.toNat ty22.dflt))) (cond (B.lt (List.getD (v8.getD v2.toNat ty22.dflt) (Int.toNat 1) (Ty.dflt (Ty.int .i64))) (↑v9.length)) (cond (B.inb v2 v8.length) (cond (B.inb 1 (List.length (v8.getD v2.toNat ty22.dflt))) (cond (B.inb (List.getD (v8.getD v2.toNat ty22.dflt) (Int.toNat 1) (Ty.dflt (Ty.int .i64))) v9.length) (cond (B.inb v2 p3.length) (ob (c66 (p3.getD v2.toNat ty66.dflt).1 (mt (Ty.den Ty.bool)) (v9.getD (Int.toNat (List.getD (v8.getD v2.toNat ty22.dflt) (Int.toNat 1) (Ty.dflt (Ty.int .i64)))) ty47.dflt) v1 (↑p4.length)) fun y0=>cond (B.lim (List.length v9+List.length (y0::mt (Ty.den ty47))) 24) (again (.l0 v1 (IntKind.wrap .i64 (v2+1)) v8 (v9++y0::mt (Ty.den ty47)))) none) none) none) none) none) (cond (B.inb v2 p3.length) (ob (c66 (p3.getD v2.toNat ty66.dflt).1 (mt (Ty.den Ty.bool)) (mt (Ty.den Ty.bool)) v1 (↑p4.length)) fun y0=>cond (B.lim (List.length v9+List.length (y0::mt (Ty.den ty47))) 24) (again (.l0 v1 (IntKind.wrap .i64 (v2+1)) v8 (v9++y0::mt (Ty.den ty47)))) none) none)) none) none) (cond (B.inb v2 p3.length) (ob (c66 (p3.getD v2.toNat ty66.dflt).1 (mt (Ty.den Ty.bool)) (mt (Ty.den Ty.bool)) v1 (↑p4.length)) fun y0=>cond (B.lim (List.length v9+List.length (y0::mt (Ty.den ty47))) 24) (again (.l0 v1 (IntKind.wrap .i64 (v2+1)) v8 (v9++y0::mt (Ty.den ty47)))) none) none)) none)) none)) none) (k v9) | some (.l1 v1 v2 v3 v9 v10 v11)=>cond (B.lt v3 v1) (cond (B.inb v2 p3.length) (ob (c65 p4 p5 v3) fun y0=>ob (c64 p0 p1 p2 y0.1 y0.2.1 (p3.getD v2.toNat ty66.dflt).2) fun y1=>cond (B.inb v3 v11.length) (again (.l1 v1 v2 (IntKind.wrap .i64 (v3+1)) v9 v10 (List.set v11 v3.toNat !B.eq y1 0))) none) none) (cond (B.lim (List.length v10+List.length (v11::mt (Ty.den ty47))) 24) (again (.l0 v1 (IntKind.wrap .i64 (v2+1)) v9 (v10++v11::mt (Ty.den ty47)))) none)
def E21 (p0:L94) (p1:L98) (p2:L103) (p3:L66) (p4 p5:L68):S21→List AV×Objs
 | .l0 v1 v2 v8 v9=>(mk 140 [(1,.c (.list 66 ty66 p3)),(3,.c (.ptr 3 0)),(5,.c (.ptr 5 0)),(7,.c (.int .i64 v1)),(8,.c (.own 8)),(9,.c (.own 9)),(10,.c (.int .i64 v2))],[(3,.box 31 [.list 94 ty94 p0,.list 98 ty98 p1,.list 103 ty103 p2]),(5,.box 41 [.list 68 ty68 p4,.list 68 ty68 p5]),(8,.row 22 ty22 v8),(9,.row 47 ty47 v9)])
 | .l1 v1 v2 v3 v9 v10 v11=>(mk 140 [(1,.c (.list 66 ty66 p3)),(3,.c (.ptr 3 0)),(5,.c (.ptr 5 0)),(7,.c (.int .i64 v1)),(8,.c (.own 8)),(9,.c (.own 9)),(10,.c (.int .i64 v2)),(11,.c (.own 11)),(12,.c (.int .i64 v3))],[(3,.box 31 [.list 94 ty94 p0,.list 98 ty98 p1,.list 103 ty103 p2]),(5,.box 41 [.list 68 ty68 p4,.list 68 ty68 p5]),(8,.row 22 ty22 v9),(9,.row 47 ty47 v10),(11,.row 4 ty4 v11)])
def I21:S21→Nat
 | .l0 _ _ _ _=>0
 | .l1 _ _ _ _ _ _=>1
abbrev K36 {R:Type} (k:AV→Objs→Option R) (y:(L47)):Option R:=k (.c (.own 500)) [(500,.row 47 ty47 y)]
noncomputable abbrev A21 {R:Type} (B:Ops) (c19:C19) (c42:C42) (c37:C37) (c65:C65) (c64:C64) (c66:C66) (p0:L94) (p1:L98) (p2:L103) (p3:L66) (p4 p5:L68) (k:AV→Objs→Option R) (s:S21) (n:Nat):Option R:=aloop tau B gl0 X21 (ent 19 (e19 c19) (ent 42 (e42 c42) (ent 37 (e37 c37) (ent 65 (e65 c65) (ent 64 (e64 c64) (ent 66 (e66 c66) gnil)))))) ow [] Tryz.f21 k (I21 s) (E21 p0 p1 p2 p3 p4 p5 s) n
theorem eq21 {R:Type} (B:Ops) (c19:C19) (c42:C42) (c37:C37) (c65:C65) (c64:C64) (c66:C66) (p0:L94) (p1:L98) (p2:L103) (p3:L66) (p4 p5:L68) (k:AV→Objs→Option R) (n:Nat):afun tau B gl0 X21 (ent 19 (e19 c19) (ent 42 (e42 c42) (ent 37 (e37 c37) (ent 65 (e65 c65) (ent 64 (e64 c64) (ent 66 (e66 c66) gnil)))))) ow Tryz.f21 [.agg [.list 94 ty94 p0,.list 98 ty98 p1,.list 103 ty103 p2],.c (.list 66 ty66 p3),.agg [.list 68 ty68 p4,.list 68 ty68 p5]] [] k n=T21 B c19 c42 c37 c65 c64 c66 p0 p1 p2 p3 p4 p5 (fun s=>A21 B c19 c42 c37 c65 c64 c66 p0 p1 p2 p3 p4 p5 k s n) (K36 k) none:=by kernel_rfl
theorem el21 {R:Type} (B:Ops) (c19:C19) (c42:C42) (c37:C37) (c65:C65) (c64:C64) (c66:C66) (p0:L94) (p1:L98) (p2:L103) (p3:L66) (p4 p5:L68) (k:AV→Objs→Option R) (n:Nat):∀ s,A21 B c19 c42 c37 c65 c64 c66 p0 p1 p2 p3 p4 p5 k s (n+1)=T21 B c19 c42 c37 c65 c64 c66 p0 p1 p2 p3 p4 p5 (fun s=>A21 B c19 c42 c37 c65 c64 c66 p0 p1 p2 p3 p4 p5 k s n) (K36 k) (some s):=by
 intro s
 cases s<;>kernel_rfl
theorem nt21 {R R':Type} (B:Ops) (c19:C19) (c42:C42) (c37:C37) (c65:C65) (c64:C64) (c66:C66) (p0:L94) (p1:L98) (p2:L103) (p3:L66) (p4 p5:L68) (again:S21→Option R) (again':S21→Option R') (k0:(L47)→Option R') (k:R'→Option R) (h:∀ s,again s=ob (again' s) k):∀ s,T21 B c19 c42 c37 c65 c64 c66 p0 p1 p2 p3 p4 p5 again (fun y=>ob (k0 y) k) s=ob (T21 B c19 c42 c37 c65 c64 c66 p0 p1 p2 p3 p4 p5 again' k0 s) k:=by
 rintro (_ | x)
 all_goals try cases x
 all_goals (unfold T21;repeat' first | exact rfl | exact h _ | apply qad | (apply qaj;intro))
def R21 (c19:C19) (c42:C42) (c37:C37) (c65:C65) (c64:C64) (c66:C66) (p0:L94) (p1:L98) (p2:L103) (p3:L66) (p4 p5:L68):Nat→S21→Option (L47)
 | 0,_=>none
 | n+1,s=>T21 Ops.std c19 c42 c37 c65 c64 c66 p0 p1 p2 p3 p4 p5 (R21 c19 c42 c37 c65 c64 c66 p0 p1 p2 p3 p4 p5 n) some (some s)
theorem rr21 {R:Type} (c19:C19) (c42:C42) (c37:C37) (c65:C65) (c64:C64) (c66:C66) (p0:L94) (p1:L98) (p2:L103) (p3:L66) (p4 p5:L68) (k:AV→Objs→Option R):∀ (n:Nat) (s:S21),A21 Ops.std c19 c42 c37 c65 c64 c66 p0 p1 p2 p3 p4 p5 k s n=ob (R21 c19 c42 c37 c65 c64 c66 p0 p1 p2 p3 p4 p5 n s) (K36 k)
 | 0,s=>by cases s<;>rfl
 | n+1,s=>by rw [el21];exact nt21 Ops.std c19 c42 c37 c65 c64 c66 p0 p1 p2 p3 p4 p5 _ _ some (K36 k) (rr21 c19 c42 c37 c65 c64 c66 p0 p1 p2 p3 p4 p5 k n) (some s)
def F21 (c19:C19) (c42:C42) (c37:C37) (c65:C65) (c64:C64) (c66:C66) (p0:L94) (p1:L98) (p2:L103) (p3:L66) (p4 p5:L68):Option (L47):=T21 Ops.std c19 c42 c37 c65 c64 c66 p0 p1 p2 p3 p4 p5 (R21 c19 c42 c37 c65 c64 c66 p0 p1 p2 p3 p4 p5 1000000) some none
abbrev C21:Type:=L94→L98→L103→L66→L68→L68→Option (L47)
def e21 {R:Type} (c:C21):Ent R:=eG [.aG [.cL 94 ty94,.cL 98 ty98,.cL 103 ty103],.aC (.cL 66 ty66),.aG [.cL 68 ty68,.cL 68 ty68]] [] fun v k=>ob (c v.1 v.2.1 v.2.2.1 v.2.2.2.1 v.2.2.2.2.1 v.2.2.2.2.2.1) (K36 k)
abbrev Sp21 (c:C21):Prop:=∀ (p0:L94) (p1:L98) (p2:L103) (p3:L66) (p4 p5:L68) (y:L47),c p0 p1 p2 p3 p4 p5=some y→Spec Tryz.prog gl0 21 [.agg [.list 94 ty94 p0,.list 98 ty98 p1,.list 103 ty103 p2],.c (.list 66 ty66 p3),.agg [.list 68 ty68 p4,.list 68 ty68 p5]] [] (.c (.own 500)) [(500,.row 47 ty47 y)]
theorem ek21 {R:Type} {c:C21} (hs:Sp21 c):EOk 21 (e21 (R:=R) c):=qal fun v=>hs v.1 v.2.1 v.2.2.1 v.2.2.2.1 v.2.2.2.2.1 v.2.2.2.2.2.1
theorem sf21 {c19:C19} {c42:C42} {c37:C37} {c65:C65} {c64:C64} {c66:C66} (h19:Sp19 c19) (h42:Sp42 c42) (h37:Sp37 c37) (h65:Sp65 c65) (h64:Sp64 c64) (h66:Sp66 c66):Sp21 (F21 c19 c42 c37 c65 c64 c66):=fun p0 p1 p2 p3 p4 p5 y hy=>by
 refine qai (qac (ek19 h19) (qac (ek42 h42) (qac (ek37 h37) (qac (ek65 h65) (qac (ek64 h64) (qac (ek66 h66) qah)))))) 1000000 (fn:=Tryz.f21) (by kernel_rfl) (by kernel_rfl) (X:=X21) (by kernel_rfl) ?_
 rw [eq21]
 exact (nt21 Ops.std c19 c42 c37 c65 c64 c66 p0 p1 p2 p3 p4 p5 _ _ some (K36 k0) (rr21 c19 c42 c37 c65 c64 c66 p0 p1 p2 p3 p4 p5 k0 1000000) none).trans (by show ob (F21 c19 c42 c37 c65 c64 c66 p0 p1 p2 p3 p4 p5) _=_;rw [hy];rfl)
noncomputable def M21:C21:=F21 M19 M42 M37 M65 M64 M66
theorem sm21:Sp21 M21:=sf21 sm19 sm42 sm37 sm65 sm64 sm66
def X47:Aux:=⟨[(7,([0,1,3,4]++rg 9 101)),(2000000,[])],[(24,.lin (rg 0 12))]⟩
inductive S47 where
 | l0 (v0 v1:Int) (v2:L9) (v6:L94) (v7:L98) (v8:L103)
def T47 {R:Type} (B:Ops) (c86:C86) (c87:C87) (c88:C88) (c90:C90) (c89:C89) (c18:C18) (p0:LB) (again:S47→Option R) (k:(L94×L98×L103×Int×Int)→Option R):Option S47→Option R | none=>cond (B.lt 60000 (↑p0.length)) (k ((mt (Ty.den ty94),mt (Ty.den ty98),mt (Ty.den ty103),14,0))) (ob (c86 p0 10) fun y0=>again (.l0 0 0 y0 (mt (Ty.den ty94)) (mt (Ty.den ty98)) (mt (Ty.den ty103)))) | some (.l0 v0 v1 v2 v6 v7 v8)=>cond (B.lt v1 (↑v2.length)) (cond (B.inb v1 v2.length) (cond (v2.getD v1.toNat ty9.dflt == mt UInt8) (again (.l0 v0 (IntKind.wrap .i64 (v1+1)) v2 v6 v7 v8)) (cond (B.inb v1 v2.length) (ob (c87 (v2.getD v1.toNat ty9.dflt)) fun y0=>cond (B.lt 0 (↑y0.length)) (cond (B.inb 0 y0.length) (cond (y0.getD (Int.toNat 0) ty9.dflt == ([118,97,114]:LB)) (cond (B.inb 1 (List.length y0+1)) (ob (c88 (List.drop (Int.toNat 1) (List.take y0.length y0))) fun y1=>cond (B.lim (List.length v6+List.length ((y1.1,y1.2.1,y1.2.2.1,y1.2.2.2.1)::mt (Ty.den ty94))) 40) (cond (!y1.2.2.2.2) (k ((mt (Ty.den ty94),mt (Ty.den ty98),mt (Ty.den ty103),2,IntKind.wrap .i64 (v1+1)))) (cond (B.lt 1 v0) (k ((mt (Ty.den ty94),mt (Ty.den ty98),mt (Ty.den ty103),2,IntKind.wrap .i64 (v1+1)))) (again (.l0 1 (IntKind.wrap .i64 (v1+1)) v2 (v6++(y1.1,y1.2.1,y1.2.2.1,y1.2.2.2.1)::mt (Ty.den ty94)) v7 v8)))) none) none) (cond (y0.getD (Int.toNat 0) ty9.dflt == ([112,114,111,99]:LB)) (cond (B.lt 1 (↑y0.length)) (cond (B.inb 1 y0.length) (cond (B.inb 2 (List.length y0+1)) (cond (B.lim (List.length v7+List.length ((y0.getD (Int.toNat 1) ty9.dflt,List.drop (Int.toNat 2) (List.take y0.length y0))::mt (Ty.den ty98))) 40) (cond (!B.lt 1 (↑y0.length)) (k ((mt (Ty.den ty94),mt (Ty.den ty98),mt (Ty.den ty103),2,IntKind.wrap .i64 (v1+1)))) (cond (B.lt 2 v0) (k ((mt (Ty.den ty94),mt (Ty.den ty98),mt (Ty.den ty103),2,IntKind.wrap .i64 (v1+1)))) (again (.l0 2 (IntKind.wrap .i64 (v1+1)) v2 v6 (v7++(y0.getD (Int.toNat 1) ty9.dflt,List.drop (Int.toNat 2) (List.take y0.length y0))::mt (Ty.den ty98)) v8)))) none) none) none) (cond (!B.lt 1 (↑y0.length)) (k ((mt (Ty.den ty94),mt (Ty.den ty98),mt (Ty.den ty103),2,IntKind.wrap .i64 (v1+1)))) (cond (B.lt 2 v0) (k ((mt (Ty.den ty94),mt (Ty.den ty98),mt (Ty.den ty103),2,IntKind.wrap .i64 (v1+1)))) (again (.l0 2 (IntKind.wrap .i64 (v1+1)) v2 v6 v7 v8))))) (cond (y0.getD (Int.toNat 0) ty9.dflt == ([116,114,97,110,115]:LB)) (cond (B.inb v1 v2.length) (ob (c90 (v2.getD v1.toNat ty9.dflt) 1) fun y1=>ob (c89 y1) fun y2=>cond (B.lim (List.length v8+List.length ((y2.1,y2.2.1,y2.2.2.1,y2.2.2.2.1,y2.2.2.2.2.1,y2.2.2.2.2.2.1,y2.2.2.2.2.2.2.1)::mt (Ty.den ty103))) 120) (cond (!y2.2.2.2.2.2.2.2) (k ((mt (Ty.den ty94),mt (Ty.den ty98),mt (Ty.den ty103),2,IntKind.wrap .i64 (v1+1)))) (cond (B.lt 3 v0) (k ((mt (Ty.den ty94),mt (Ty.den ty98),mt (Ty.den ty103),2,IntKind.wrap .i64 (v1+1)))) (again (.l0 3 (IntKind.wrap .i64 (v1+1)) v2 v6 v7 (v8++(y2.1,y2.2.1,y2.2.2.1,y2.2.2.2.1,y2.2.2.2.2.1,y2.2.2.2.2.2.1,y2.2.2.2.2.2.2.1)::mt (Ty.den ty103)))))) none) none) (k ((mt (Ty.den ty94),mt (Ty.den ty98),mt (Ty.den ty103),2,IntKind.wrap .i64 (v1+1))))))) none) (k ((mt (Ty.den ty94),mt (Ty.den ty98),mt (Ty.den ty103),2,IntKind.wrap .i64 (v1+1))))) none)) none) (ob (c18 v6 v7 v8) fun y0=>cond (!y0) (k ((mt (Ty.den ty94),mt (Ty.den ty98),mt (Ty.den ty103),2,0))) (k (v6,v7,v8,0,0)))
def E47 (p0:LB):S47→List AV×Objs
 | .l0 v0 v1 v2 v6 v7 v8=>(mk 110 [(2,.c (.ptr 2 0)),(5,.c (.ptr 5 0)),(6,.c (.int .i64 v0)),(7,.c (.own 7)),(8,.c (.int .i64 v1))],[(2,.box 31 [.own 3000,.own 3001,.own 3002]),(5,.box 31 [.own 6000,.own 6001,.own 6002]),(7,.row 9 ty9 v2),(3000,.row 94 ty94 (mt (Ty.den ty94))),(3001,.row 98 ty98 (mt (Ty.den ty98))),(3002,.row 103 ty103 (mt (Ty.den ty103))),(6000,.row 94 ty94 v6),(6001,.row 98 ty98 v7),(6002,.row 103 ty103 v8)])
def I47:S47→Nat
 | .l0 _ _ _ _ _ _=>0
abbrev K37 {R:Type} (k:AV→Objs→Option R) (y:(L94×L98×L103×Int×Int)):Option R:=k (.tup [(true,[.list 94 ty94 y.1,.list 98 ty98 y.2.1,.list 103 ty103 y.2.2.1]),(false,[.int .i64 y.2.2.2.1]),(false,[.int .i64 y.2.2.2.2])]) []
noncomputable abbrev A47 {R:Type} (B:Ops) (c86:C86) (c87:C87) (c88:C88) (c90:C90) (c89:C89) (c18:C18) (p0:LB) (k:AV→Objs→Option R) (s:S47) (n:Nat):Option R:=aloop tau B gl0 X47 (ent 86 (e86 c86) (ent 87 (e87 c87) (ent 88 (e88 c88) (ent 90 (e90 c90) (ent 89 (e89 c89) (ent 18 (e18 c18) gnil)))))) ow [] Tryz.f47 k (I47 s) (E47 p0 s) n
theorem eq47 {R:Type} (B:Ops) (c86:C86) (c87:C87) (c88:C88) (c90:C90) (c89:C89) (c18:C18) (p0:LB) (k:AV→Objs→Option R) (n:Nat):afun tau B gl0 X47 (ent 86 (e86 c86) (ent 87 (e87 c87) (ent 88 (e88 c88) (ent 90 (e90 c90) (ent 89 (e89 c89) (ent 18 (e18 c18) gnil)))))) ow Tryz.f47 [.c (.str p0)] [] k n=T47 B c86 c87 c88 c90 c89 c18 p0 (fun s=>A47 B c86 c87 c88 c90 c89 c18 p0 k s n) (K37 k) none:=by kernel_rfl
theorem el47 {R:Type} (B:Ops) (c86:C86) (c87:C87) (c88:C88) (c90:C90) (c89:C89) (c18:C18) (p0:LB) (k:AV→Objs→Option R) (n:Nat):∀ s,A47 B c86 c87 c88 c90 c89 c18 p0 k s (n+1)=T47 B c86 c87 c88 c90 c89 c18 p0 (fun s=>A47 B c86 c87 c88 c90 c89 c18 p0 k s n) (K37 k) (some s):=by
 intro s
 cases s<;>kernel_rfl
theorem nt47 {R R':Type} (B:Ops) (c86:C86) (c87:C87) (c88:C88) (c90:C90) (c89:C89) (c18:C18) (p0:LB) (again:S47→Option R) (again':S47→Option R') (k0:(L94×L98×L103×Int×Int)→Option R') (k:R'→Option R) (h:∀ s,again s=ob (again' s) k):∀ s,T47 B c86 c87 c88 c90 c89 c18 p0 again (fun y=>ob (k0 y) k) s=ob (T47 B c86 c87 c88 c90 c89 c18 p0 again' k0 s) k:=by
 rintro (_ | x)
 all_goals try cases x
 all_goals (unfold T47;repeat' first | exact rfl | exact h _ | apply qad | (apply qaj;intro))
def R47 (c86:C86) (c87:C87) (c88:C88) (c90:C90) (c89:C89) (c18:C18) (p0:LB):Nat→S47→Option (L94×L98×L103×Int×Int)
 | 0,_=>none
 | n+1,s=>T47 Ops.std c86 c87 c88 c90 c89 c18 p0 (R47 c86 c87 c88 c90 c89 c18 p0 n) some (some s)
theorem rr47 {R:Type} (c86:C86) (c87:C87) (c88:C88) (c90:C90) (c89:C89) (c18:C18) (p0:LB) (k:AV→Objs→Option R):∀ (n:Nat) (s:S47),A47 Ops.std c86 c87 c88 c90 c89 c18 p0 k s n=ob (R47 c86 c87 c88 c90 c89 c18 p0 n s) (K37 k)
 | 0,s=>by cases s<;>rfl
 | n+1,s=>by rw [el47];exact nt47 Ops.std c86 c87 c88 c90 c89 c18 p0 _ _ some (K37 k) (rr47 c86 c87 c88 c90 c89 c18 p0 k n) (some s)
def F47 (c86:C86) (c87:C87) (c88:C88) (c90:C90) (c89:C89) (c18:C18) (p0:LB):Option (L94×L98×L103×Int×Int):=T47 Ops.std c86 c87 c88 c90 c89 c18 p0 (R47 c86 c87 c88 c90 c89 c18 p0 1000000) some none
abbrev C47:Type:=LB→Option (L94×L98×L103×Int×Int)
def e47 {R:Type} (c:C47):Ent R:=eG [.aC .cS] [] fun v k=>ob (c v.1) (K37 k)
abbrev Sp47 (c:C47):Prop:=∀ (p0:LB) (y:L94×L98×L103×Int×Int),c p0=some y→Spec Tryz.prog gl0 47 [.c (.str p0)] [] (.tup [(true,[.list 94 ty94 y.1,.list 98 ty98 y.2.1,.list 103 ty103 y.2.2.1]),(false,[.int .i64 y.2.2.2.1]),(false,[.int .i64 y.2.2.2.2])]) []
theorem ek47 {R:Type} {c:C47} (hs:Sp47 c):EOk 47 (e47 (R:=R) c):=qal fun v=>hs v.1
theorem sf47 {c86:C86} {c87:C87} {c88:C88} {c90:C90} {c89:C89} {c18:C18} (h86:Sp86 c86) (h87:Sp87 c87) (h88:Sp88 c88) (h90:Sp90 c90) (h89:Sp89 c89) (h18:Sp18 c18):Sp47 (F47 c86 c87 c88 c90 c89 c18):=fun p0 y hy=>by
 refine qai (qac (ek86 h86) (qac (ek87 h87) (qac (ek88 h88) (qac (ek90 h90) (qac (ek89 h89) (qac (ek18 h18) qah)))))) 1000000 (fn:=Tryz.f47) (by kernel_rfl) (by kernel_rfl) (X:=X47) (by kernel_rfl) ?_
 rw [eq47]
 exact (nt47 Ops.std c86 c87 c88 c90 c89 c18 p0 _ _ some (K37 k0) (rr47 c86 c87 c88 c90 c89 c18 p0 k0 1000000) none).trans (by show ob (F47 c86 c87 c88 c90 c89 c18 p0) _=_;rw [hy];rfl)
noncomputable def M47:C47:=F47 M86 M87 M88 M90 M89 M18
theorem sm47:Sp47 M47:=sf47 sm86 sm87 sm88 sm90 sm89 sm18
def X12:Aux:=⟨[],[]⟩
def T12 {R:Type} (B:Ops) (c48:C48) (c47:C47) (p0 p1:Int) (p2:L22) (k:(L94×L98×L103)→Option R):Option R:=ob (c48 p0 p1 p2) fun y0=>ob (c47 y0) fun y1=>k (y1.1,y1.2.1,y1.2.2.1)
abbrev K38 {R:Type} (k:AV→Objs→Option R) (y:(L94×L98×L103)):Option R:=k (.agg [.list 94 ty94 y.1,.list 98 ty98 y.2.1,.list 103 ty103 y.2.2]) []
theorem eq12 {R:Type} (B:Ops) (c48:C48) (c47:C47) (p0 p1:Int) (p2:L22) (k:AV→Objs→Option R) (n:Nat):afun tau B gl0 X12 (ent 48 (e48 c48) (ent 47 (e47 c47) gnil)) ow Tryz.f12 [.agg [.int .i64 p0,.int .i64 p1,.list 22 ty22 p2]] [] k n=T12 B c48 c47 p0 p1 p2 (K38 k):=by kernel_rfl
theorem nt12 {R R':Type} (B:Ops) (c48:C48) (c47:C47) (p0 p1:Int) (p2:L22) (k0:(L94×L98×L103)→Option R') (k:R'→Option R):T12 B c48 c47 p0 p1 p2 (fun y=>ob (k0 y) k)=ob (T12 B c48 c47 p0 p1 p2 k0) k:=by
 unfold T12
 repeat' first | exact rfl | apply qad | (apply qaj;intro)
def F12 (c48:C48) (c47:C47) (p0 p1:Int) (p2:L22):Option (L94×L98×L103):=T12 Ops.std c48 c47 p0 p1 p2 some
abbrev C12:Type:=Int→Int→L22→Option (L94×L98×L103)
def e12 {R:Type} (c:C12):Ent R:=eG [.aG [.cI .i64,.cI .i64,.cL 22 ty22]] [] fun v k=>ob (c v.1 v.2.1 v.2.2.1) (K38 k)
abbrev Sp12 (c:C12):Prop:=∀ (p0 p1:Int) (p2:L22) (y:L94×L98×L103),c p0 p1 p2=some y→Spec Tryz.prog gl0 12 [.agg [.int .i64 p0,.int .i64 p1,.list 22 ty22 p2]] [] (.agg [.list 94 ty94 y.1,.list 98 ty98 y.2.1,.list 103 ty103 y.2.2]) []
theorem ek12 {R:Type} {c:C12} (hs:Sp12 c):EOk 12 (e12 (R:=R) c):=qal fun v=>hs v.1 v.2.1 v.2.2.1
theorem sf12 {c48:C48} {c47:C47} (h48:Sp48 c48) (h47:Sp47 c47):Sp12 (F12 c48 c47):=fun p0 p1 p2 y hy=>by
 refine qai (qac (ek48 h48) (qac (ek47 h47) qah)) 1000000 (fn:=Tryz.f12) (by kernel_rfl) (by kernel_rfl) (X:=X12) (by kernel_rfl) ?_
 rw [eq12]
 exact (nt12 Ops.std c48 c47 p0 p1 p2 some (K38 k0)).trans (by show ob (F12 c48 c47 p0 p1 p2) _=_;rw [hy];rfl)
noncomputable def M12:C12:=F12 M48 M47
theorem sm12:Sp12 M12:=sf12 sm48 sm47
def X123:Aux:=⟨[(4,([0,2,3]++rg 8 10++rg 21 33)),(9,([0,1,2,3]++rg 8 27++rg 38 16))],[(13,.lin [0,1,2,3])]⟩
inductive S123 where
 | l0 (v2 v3:Int) (v12:L68)
 | l1 (v1 v2:Int) (v11 v12:L68)
def T123 {R:Type} (B:Ops) (p0 p1:L3) (again:S123→Option R) (k:(L94×L98×L103×L68×L68)→Option R):Option S123→Option R | none=>again (.l0 (↑p0.length) 0 (mt (Ty.den ty68))) | some (.l0 v2 v3 v12)=>cond (B.lt v3 v2) (cond (B.inb v3 p0.length) (cond (B.lim (List.length v12+List.length (((0::mt (Ty.den (Ty.int .i64)),p0.getD v3.toNat ty3.dflt::mt (Ty.den (Ty.int .i64))),mt (Ty.den (Ty.int .i64)))::mt (Ty.den ty68))) 72) (again (.l0 v2 (IntKind.wrap .i64 (v3+1)) (v12++((0::mt (Ty.den (Ty.int .i64)),p0.getD v3.toNat ty3.dflt::mt (Ty.den (Ty.int .i64))),mt (Ty.den (Ty.int .i64)))::mt (Ty.den ty68)))) none) none) (again (.l1 (↑p1.length) 0 v12 ((mt (Ty.den ty68))))) | some (.l1 v1 v2 v11 v12)=>cond (B.lt v2 v1) (cond (B.inb v2 p1.length) (cond (B.lim (List.length v12+List.length (((0::mt (Ty.den (Ty.int .i64)),p1.getD v2.toNat ty3.dflt::mt (Ty.den (Ty.int .i64))),mt (Ty.den (Ty.int .i64)))::mt (Ty.den ty68))) 72) (again (.l1 v1 (IntKind.wrap .i64 (v2+1)) v11 (v12++((0::mt (Ty.den (Ty.int .i64)),p1.getD v2.toNat ty3.dflt::mt (Ty.den (Ty.int .i64))),mt (Ty.den (Ty.int .i64)))::mt (Ty.den ty68)))) none) none) (k ((((([120]:LB),0,9,0)::mt (Ty.den ty94)),((([112]:LB),([97]:LB)::mt (Ty.den Ty.str))::mt (Ty.den ty98)),(mt (Ty.den ty103)),v11,v12)))
def E123 (p0 p1:L3):S123→List AV×Objs
 | .l0 v2 v3 v12=>(mk 54 [(1,.c (.list 3 ty3 p1)),(4,.c (.ptr 4 0)),(5,.c (.ptr 5 0)),(6,.c (.ptr 6 0)),(7,.c (.ptr 7 0)),(18,.c (.list 3 ty3 p0)),(19,.c (.int .i64 v2)),(20,.c (.int .i64 v3))],[(4,.box 31 [.own 5000,.own 5001,.own 5002]),(5,.box 41 [.own 6000,.own 6001]),(6,.box 31 [.own 7000,.own 7001,.own 7002]),(7,.box 41 [.own 8000,.own 8001]),(5000,.row 94 ty94 (mt (Ty.den ty94))),(5001,.row 98 ty98 (mt (Ty.den ty98))),(5002,.row 103 ty103 (mt (Ty.den ty103))),(6000,.row 68 ty68 (mt (Ty.den ty68))),(6001,.row 68 ty68 (mt (Ty.den ty68))),(7000,.row 94 ty94 ((([120]:LB),0,9,0)::mt (Ty.den ty94))),(7001,.row 98 ty98 ((([112]:LB),([97]:LB)::mt (Ty.den Ty.str))::mt (Ty.den ty98))),(7002,.row 103 ty103 (mt (Ty.den ty103))),(8000,.row 68 ty68 v12),(8001,.row 68 ty68 (mt (Ty.den ty68)))])
 | .l1 v1 v2 v11 v12=>(mk 54 [(4,.c (.ptr 4 0)),(5,.c (.ptr 5 0)),(6,.c (.ptr 6 0)),(7,.c (.ptr 7 0)),(35,.c (.list 3 ty3 p1)),(36,.c (.int .i64 v1)),(37,.c (.int .i64 v2))],[(4,.box 31 [.own 5000,.own 5001,.own 5002]),(5,.box 41 [.own 6000,.own 6001]),(6,.box 31 [.own 7000,.own 7001,.own 7002]),(7,.box 41 [.own 8000,.own 8001]),(5000,.row 94 ty94 (mt (Ty.den ty94))),(5001,.row 98 ty98 (mt (Ty.den ty98))),(5002,.row 103 ty103 (mt (Ty.den ty103))),(6000,.row 68 ty68 (mt (Ty.den ty68))),(6001,.row 68 ty68 (mt (Ty.den ty68))),(7000,.row 94 ty94 ((([120]:LB),0,9,0)::mt (Ty.den ty94))),(7001,.row 98 ty98 ((([112]:LB),([97]:LB)::mt (Ty.den Ty.str))::mt (Ty.den ty98))),(7002,.row 103 ty103 (mt (Ty.den ty103))),(8000,.row 68 ty68 v11),(8001,.row 68 ty68 v12)])
def I123:S123→Nat
 | .l0 _ _ _=>0
 | .l1 _ _ _ _=>1
abbrev K39 {R:Type} (k:AV→Objs→Option R) (y:(L94×L98×L103×L68×L68)):Option R:=k (.tup [(true,[.own 501000,.own 501001,.own 501002]),(true,[.own 501100,.own 501101])]) [(501000,.row 94 ty94 y.1),(501001,.row 98 ty98 y.2.1),(501002,.row 103 ty103 y.2.2.1),(501100,.row 68 ty68 y.2.2.2.1),(501101,.row 68 ty68 y.2.2.2.2)]
noncomputable abbrev A123 {R:Type} (B:Ops) (p0 p1:L3) (k:AV→Objs→Option R) (s:S123) (n:Nat):Option R:=aloop tau B gl0 X123 gnil ow [] Tryz.f123 k (I123 s) (E123 p0 p1 s) n
theorem eq123 {R:Type} (B:Ops) (p0 p1:L3) (k:AV→Objs→Option R) (n:Nat):afun tau B gl0 X123 gnil ow Tryz.f123 [.c (.list 3 ty3 p0),.c (.list 3 ty3 p1)] [] k n=T123 B p0 p1 (fun s=>A123 B p0 p1 k s n) (K39 k) none:=by kernel_rfl
theorem el123 {R:Type} (B:Ops) (p0 p1:L3) (k:AV→Objs→Option R) (n:Nat):∀ s,A123 B p0 p1 k s (n+1)=T123 B p0 p1 (fun s=>A123 B p0 p1 k s n) (K39 k) (some s):=by
 intro s
 cases s<;>kernel_rfl
theorem nt123 {R R':Type} (B:Ops) (p0 p1:L3) (again:S123→Option R) (again':S123→Option R') (k0:(L94×L98×L103×L68×L68)→Option R') (k:R'→Option R) (h:∀ s,again s=ob (again' s) k):∀ s,T123 B p0 p1 again (fun y=>ob (k0 y) k) s=ob (T123 B p0 p1 again' k0 s) k:=by
 rintro (_ | x)
 all_goals try cases x
 all_goals (unfold T123;repeat' first | exact rfl | exact h _ | apply qad | (apply qaj;intro))
def R123 (p0 p1:L3):Nat→S123→Option (L94×L98×L103×L68×L68)
 | 0,_=>none
 | n+1,s=>T123 Ops.std p0 p1 (R123 p0 p1 n) some (some s)
theorem rr123 {R:Type} (p0 p1:L3) (k:AV→Objs→Option R):∀ (n:Nat) (s:S123),A123 Ops.std p0 p1 k s n=ob (R123 p0 p1 n s) (K39 k)
 | 0,s=>by cases s<;>rfl
 | n+1,s=>by rw [el123];exact nt123 Ops.std p0 p1 _ _ some (K39 k) (rr123 p0 p1 k n) (some s)
def F123 (p0 p1:L3):Option (L94×L98×L103×L68×L68):=T123 Ops.std p0 p1 (R123 p0 p1 1000000) some none
abbrev C123:Type:=L3→L3→Option (L94×L98×L103×L68×L68)
def e123 {R:Type} (c:C123):Ent R:=eG [.aC (.cL 3 ty3),.aC (.cL 3 ty3)] [] fun v k=>ob (c v.1 v.2.1) (K39 k)
abbrev Sp123 (c:C123):Prop:=∀ (p0 p1:L3) (y:L94×L98×L103×L68×L68),c p0 p1=some y→Spec Tryz.prog gl0 123 [.c (.list 3 ty3 p0),.c (.list 3 ty3 p1)] [] (.tup [(true,[.own 501000,.own 501001,.own 501002]),(true,[.own 501100,.own 501101])]) [(501000,.row 94 ty94 y.1),(501001,.row 98 ty98 y.2.1),(501002,.row 103 ty103 y.2.2.1),(501100,.row 68 ty68 y.2.2.2.1),(501101,.row 68 ty68 y.2.2.2.2)]
theorem ek123 {R:Type} {c:C123} (hs:Sp123 c):EOk 123 (e123 (R:=R) c):=qal fun v=>hs v.1 v.2.1
theorem sf123:Sp123 (F123):=fun p0 p1 y hy=>by
 refine qai qah 1000000 (fn:=Tryz.f123) (by kernel_rfl) (by kernel_rfl) (X:=X123) (by kernel_rfl) ?_
 rw [eq123]
 exact (nt123 Ops.std p0 p1 _ _ some (K39 k0) (rr123 p0 p1 k0 1000000) none).trans (by show ob (F123 p0 p1) _=_;rw [hy];rfl)
noncomputable def M123:C123:=F123
theorem sm123:Sp123 M123:=sf123
def X39:Aux:=⟨[],[]⟩
def T39 {R:Type} (B:Ops) (c45:C45) (p0:LB) (k:(L66)→Option R):Option R:=ob (c45 p0) fun y0=>k y0.2.2
abbrev K40 {R:Type} (k:AV→Objs→Option R) (y:(L66)):Option R:=k (.c (.own 500)) [(500,.row 66 ty66 y)]
theorem eq39 {R:Type} (B:Ops) (c45:C45) (p0:LB) (k:AV→Objs→Option R) (n:Nat):afun tau B gl0 X39 (ent 45 (e45 c45) gnil) ow Tryz.f39 [.c (.str p0)] [] k n=T39 B c45 p0 (K40 k):=by kernel_rfl
theorem nt39 {R R':Type} (B:Ops) (c45:C45) (p0:LB) (k0:(L66)→Option R') (k:R'→Option R):T39 B c45 p0 (fun y=>ob (k0 y) k)=ob (T39 B c45 p0 k0) k:=by
 unfold T39
 repeat' first | exact rfl | apply qad | (apply qaj;intro)
def F39 (c45:C45) (p0:LB):Option (L66):=T39 Ops.std c45 p0 some
abbrev C39:Type:=LB→Option (L66)
def e39 {R:Type} (c:C39):Ent R:=eG [.aC .cS] [] fun v k=>ob (c v.1) (K40 k)
abbrev Sp39 (c:C39):Prop:=∀ (p0:LB) (y:L66),c p0=some y→Spec Tryz.prog gl0 39 [.c (.str p0)] [] (.c (.own 500)) [(500,.row 66 ty66 y)]
theorem ek39 {R:Type} {c:C39} (hs:Sp39 c):EOk 39 (e39 (R:=R) c):=qal fun v=>hs v.1
theorem sf39 {c45:C45} (h45:Sp45 c45):Sp39 (F39 c45):=fun p0 y hy=>by
 refine qai (qac (ek45 h45) qah) 1000000 (fn:=Tryz.f39) (by kernel_rfl) (by kernel_rfl) (X:=X39) (by kernel_rfl) ?_
 rw [eq39]
 exact (nt39 Ops.std c45 p0 some (K40 k0)).trans (by show ob (F39 c45 p0) _=_;rw [hy];rfl)
noncomputable def M39:C39:=F39 M45
theorem sm39:Sp39 M39:=sf39 sm45
abbrev K41 {R:Type} (k:AV→Objs→Option R) (y:(L68)):Option R:=k (.c (.own 500)) [(500,.row 68 ty68 y)]
abbrev C124:Type:=Int→Option (L68)
def e124 {R:Type} (c:C124):Ent R:=eG [.aC .cN,.aC (.cI .i64)] [] fun v k=>ob (c v.1) (K41 k)
abbrev Sp124 (c:C124):Prop:=∀ (p0:Int) (y:L68),c p0=some y→Spec Tryz.prog gl0 124 [.c .nil,.c (.int .i64 p0)] [] (.c (.own 500)) [(500,.row 68 ty68 y)]
theorem ek124 {R:Type} {c:C124} (hs:Sp124 c):EOk 124 (e124 (R:=R) c):=qal fun v=>hs v.1
def M124:Int→Option (L68):=growF124
theorem sm124:Sp124 M124:=fun p0 y hy=>grow_sp124 p0 y hy
def X75:Aux:=⟨[(3,([1,2,4,5,6,7,8]++rg 12 24)),(11,([0,1,2,3,4,5]++rg 7 18++[28,29,30,31,32,33,34,35]))],[]⟩
inductive S75 where
 | l0 (v1 v3 v4:Int)
 | l1 (v1 v2:Int) (v3:L68)
def T75 {R:Type} (B:Ops) (c124:C124) (p0:L39) (again:S75→Option R) (k:(L68)→Option R):Option S75→Option R | none=>again (.l0 0 (↑p0.length) 0) | some (.l0 v1 v3 v4)=>cond (B.lt v4 v3) (cond (B.inb v4 p0.length) (cond (B.lt (IntKind.wrap .i64 (v1+Nat.cast (List.length (p0.getD v4.toNat ty39.dflt)))) 0) none (again (.l0 (IntKind.wrap .i64 (v1+Nat.cast (List.length (p0.getD v4.toNat ty39.dflt)))) v3 (IntKind.wrap .i64 (v4+1))))) none) (ob (c124 v1) fun y0=>again (.l1 (↑p0.length) 0 y0)) | some (.l1 v1 v2 v3)=>cond (B.lt v2 v1) (cond (B.inb v2 p0.length) (cond (B.lim (List.length v3+List.length (p0.getD v2.toNat ty39.dflt)) 72) (again (.l1 v1 (IntKind.wrap .i64 (v2+1)) (v3++p0.getD v2.toNat ty39.dflt))) none) none) (k v3)
def E75 (p0:L39):S75→List AV×Objs
 | .l0 v1 v3 v4=>(mk 36 [(0,.c (.list 39 ty39 p0)),(3,.c (.int .i64 v1)),(9,.c (.list 39 ty39 p0)),(10,.c (.int .i64 v3)),(11,.c (.int .i64 v4))],[])
 | .l1 v1 v2 v3=>(mk 36 [(6,.c (.own 6)),(25,.c (.list 39 ty39 p0)),(26,.c (.int .i64 v1)),(27,.c (.int .i64 v2))],[(6,.row 68 ty68 v3)])
def I75:S75→Nat
 | .l0 _ _ _=>0
 | .l1 _ _ _=>1
noncomputable abbrev A75 {R:Type} (B:Ops) (c124:C124) (p0:L39) (k:AV→Objs→Option R) (s:S75) (n:Nat):Option R:=aloop tau B gl0 X75 (ent 124 (e124 c124) gnil) ow [] Tryz.f75 k (I75 s) (E75 p0 s) n
theorem eq75 {R:Type} (B:Ops) (c124:C124) (p0:L39) (k:AV→Objs→Option R) (n:Nat):afun tau B gl0 X75 (ent 124 (e124 c124) gnil) ow Tryz.f75 [.c (.list 39 ty39 p0)] [] k n=T75 B c124 p0 (fun s=>A75 B c124 p0 k s n) (K41 k) none:=by kernel_rfl
theorem el75 {R:Type} (B:Ops) (c124:C124) (p0:L39) (k:AV→Objs→Option R) (n:Nat):∀ s,A75 B c124 p0 k s (n+1)=T75 B c124 p0 (fun s=>A75 B c124 p0 k s n) (K41 k) (some s):=by
 intro s
 cases s<;>kernel_rfl
theorem nt75 {R R':Type} (B:Ops) (c124:C124) (p0:L39) (again:S75→Option R) (again':S75→Option R') (k0:(L68)→Option R') (k:R'→Option R) (h:∀ s,again s=ob (again' s) k):∀ s,T75 B c124 p0 again (fun y=>ob (k0 y) k) s=ob (T75 B c124 p0 again' k0 s) k:=by
 rintro (_ | x)
 all_goals try cases x
 all_goals (unfold T75;repeat' first | exact rfl | exact h _ | apply qad | (apply qaj;intro))
def R75 (c124:C124) (p0:L39):Nat→S75→Option (L68)
 | 0,_=>none
 | n+1,s=>T75 Ops.std c124 p0 (R75 c124 p0 n) some (some s)
theorem rr75 {R:Type} (c124:C124) (p0:L39) (k:AV→Objs→Option R):∀ (n:Nat) (s:S75),A75 Ops.std c124 p0 k s n=ob (R75 c124 p0 n s) (K41 k)
 | 0,s=>by cases s<;>rfl
 | n+1,s=>by rw [el75];exact nt75 Ops.std c124 p0 _ _ some (K41 k) (rr75 c124 p0 k n) (some s)
def F75 (c124:C124) (p0:L39):Option (L68):=T75 Ops.std c124 p0 (R75 c124 p0 1000000) some none
abbrev C75:Type:=L39→Option (L68)
def e75 {R:Type} (c:C75):Ent R:=eG [.aC (.cL 39 ty39)] [] fun v k=>ob (c v.1) (K41 k)
abbrev Sp75 (c:C75):Prop:=∀ (p0:L39) (y:L68),c p0=some y→Spec Tryz.prog gl0 75 [.c (.list 39 ty39 p0)] [] (.c (.own 500)) [(500,.row 68 ty68 y)]
theorem ek75 {R:Type} {c:C75} (hs:Sp75 c):EOk 75 (e75 (R:=R) c):=qal fun v=>hs v.1
theorem sf75 {c124:C124} (h124:Sp124 c124):Sp75 (F75 c124):=fun p0 y hy=>by
 refine qai (qac (ek124 h124) qah) 1000000 (fn:=Tryz.f75) (by kernel_rfl) (by kernel_rfl) (X:=X75) (by kernel_rfl) ?_
 rw [eq75]
 exact (nt75 Ops.std c124 p0 _ _ some (K41 k0) (rr75 c124 p0 k0 1000000) none).trans (by show ob (F75 c124 p0) _=_;rw [hy];rfl)
noncomputable def M75:C75:=F75 M124
theorem sm75:Sp75 M75:=sf75 sm124
def X126:Aux:=⟨[],[]⟩
def T126 {R:Type} (B:Ops) (p0:Int) (k:(Bool)→Option R):Option R:=k true
theorem eq126 {R:Type} (B:Ops) (p0:Int) (k:AV→Objs→Option R) (n:Nat):afun tau B gl0 X126 gnil ow Tryz.f126 [.c (.int .i64 p0)] [] k n=T126 B p0 (K2 k):=by kernel_rfl
theorem nt126 {R R':Type} (B:Ops) (p0:Int) (k0:(Bool)→Option R') (k:R'→Option R):T126 B p0 (fun y=>ob (k0 y) k)=ob (T126 B p0 k0) k:=by
 unfold T126
 repeat' first | exact rfl | apply qad | (apply qaj;intro)
def F126 (p0:Int):Option (Bool):=T126 Ops.std p0 some
abbrev C126:Type:=Int→Option (Bool)
def e126 {R:Type} (c:C126):Ent R:=eG [.aC (.cI .i64)] [] fun v k=>ob (c v.1) (K2 k)
abbrev Sp126 (c:C126):Prop:=∀ (p0:Int) (y:Bool),c p0=some y→Spec Tryz.prog gl0 126 [.c (.int .i64 p0)] [] (.c (.bool y)) []
theorem ek126 {R:Type} {c:C126} (hs:Sp126 c):EOk 126 (e126 (R:=R) c):=qal fun v=>hs v.1
theorem sf126:Sp126 (F126):=fun p0 y hy=>by
 refine qai qah 1000000 (fn:=Tryz.f126) (by kernel_rfl) (by kernel_rfl) (X:=X126) (by kernel_rfl) ?_
 rw [eq126]
 exact (nt126 Ops.std p0 some (K2 k0)).trans (by show ob (F126 p0) _=_;rw [hy];rfl)
noncomputable def M126:C126:=F126
theorem sm126:Sp126 M126:=sf126
def X125:Aux:=⟨[(3,([0,2,3,4,6,7,8,9,10,11]++rg 14 10))],[]⟩
inductive S125 where
 | l0 (v0 v1:Int) (v2:L4)
def T125 {R:Type} (B:Ops) (c126:C126) (p0:L94) (p1:L98) (p2:L103) (p3:L68) (p4:Int) (again:S125→Option R) (k:(L4)→Option R):Option S125→Option R | none=>cond (bif B.eq (↑p3.length) (↑p3.length) then bif B.le 0 (↑p3.length) then B.lim (Int.toNat (↑p3.length)) 1 else false else false) (again (.l0 (Nat.cast (List.length (List.replicate (Int.toNat (↑p3.length)) (Ty.dflt Ty.bool)))) 0 (List.replicate (Int.toNat (↑p3.length)) (Ty.dflt Ty.bool)))) none | some (.l0 v0 v1 v2)=>cond (B.lt v1 v0) (ob (c126 v1) fun y0=>cond (B.inb v1 v2.length) (again (.l0 v0 (IntKind.wrap .i64 (v1+1)) (List.set v2 v1.toNat y0))) none) (k v2)
def E125 (p0:L94) (p1:L98) (p2:L103) (p3:L68) (p4:Int):S125→List AV×Objs
 | .l0 v0 v1 v2=>(mk 24 [(1,.fn 126 []),(5,.c (.own 5)),(12,.c (.int .i64 v0)),(13,.c (.int .i64 v1))],[(5,.row 4 ty4 v2)])
def I125:S125→Nat
 | .l0 _ _ _=>0
noncomputable abbrev A125 {R:Type} (B:Ops) (c126:C126) (p0:L94) (p1:L98) (p2:L103) (p3:L68) (p4:Int) (k:AV→Objs→Option R) (s:S125) (n:Nat):Option R:=aloop tau B gl0 X125 (ent 126 (e126 c126) gnil) ow [] Tryz.f125 k (I125 s) (E125 p0 p1 p2 p3 p4 s) n
theorem eq125 {R:Type} (B:Ops) (c126:C126) (p0:L94) (p1:L98) (p2:L103) (p3:L68) (p4:Int) (k:AV→Objs→Option R) (n:Nat):afun tau B gl0 X125 (ent 126 (e126 c126) gnil) ow Tryz.f125 [.agg [.list 94 ty94 p0,.list 98 ty98 p1,.list 103 ty103 p2,.list 68 ty68 p3,.int .i64 p4],.fn 126 []] [] k n=T125 B c126 p0 p1 p2 p3 p4 (fun s=>A125 B c126 p0 p1 p2 p3 p4 k s n) (K32 k) none:=by kernel_rfl
theorem el125 {R:Type} (B:Ops) (c126:C126) (p0:L94) (p1:L98) (p2:L103) (p3:L68) (p4:Int) (k:AV→Objs→Option R) (n:Nat):∀ s,A125 B c126 p0 p1 p2 p3 p4 k s (n+1)=T125 B c126 p0 p1 p2 p3 p4 (fun s=>A125 B c126 p0 p1 p2 p3 p4 k s n) (K32 k) (some s):=by
 intro s
 cases s<;>kernel_rfl
theorem nt125 {R R':Type} (B:Ops) (c126:C126) (p0:L94) (p1:L98) (p2:L103) (p3:L68) (p4:Int) (again:S125→Option R) (again':S125→Option R') (k0:(L4)→Option R') (k:R'→Option R) (h:∀ s,again s=ob (again' s) k):∀ s,T125 B c126 p0 p1 p2 p3 p4 again (fun y=>ob (k0 y) k) s=ob (T125 B c126 p0 p1 p2 p3 p4 again' k0 s) k:=by
 rintro (_ | x)
 all_goals try cases x
 all_goals (unfold T125;repeat' first | exact rfl | exact h _ | apply qad | (apply qaj;intro))
def R125 (c126:C126) (p0:L94) (p1:L98) (p2:L103) (p3:L68) (p4:Int):Nat→S125→Option (L4)
 | 0,_=>none
 | n+1,s=>T125 Ops.std c126 p0 p1 p2 p3 p4 (R125 c126 p0 p1 p2 p3 p4 n) some (some s)
theorem rr125 {R:Type} (c126:C126) (p0:L94) (p1:L98) (p2:L103) (p3:L68) (p4:Int) (k:AV→Objs→Option R):∀ (n:Nat) (s:S125),A125 Ops.std c126 p0 p1 p2 p3 p4 k s n=ob (R125 c126 p0 p1 p2 p3 p4 n s) (K32 k)
 | 0,s=>by cases s<;>rfl
 | n+1,s=>by rw [el125];exact nt125 Ops.std c126 p0 p1 p2 p3 p4 _ _ some (K32 k) (rr125 c126 p0 p1 p2 p3 p4 k n) (some s)
def F125 (c126:C126) (p0:L94) (p1:L98) (p2:L103) (p3:L68) (p4:Int):Option (L4):=T125 Ops.std c126 p0 p1 p2 p3 p4 (R125 c126 p0 p1 p2 p3 p4 1000000) some none
abbrev C125:Type:=L94→L98→L103→L68→Int→Option (L4)
def e125 {R:Type} (c:C125):Ent R:=eG [.aG [.cL 94 ty94,.cL 98 ty98,.cL 103 ty103,.cL 68 ty68,.cI .i64],.aF 126 []] [] fun v k=>ob (c v.1 v.2.1 v.2.2.1 v.2.2.2.1 v.2.2.2.2.1) (K32 k)
abbrev Sp125 (c:C125):Prop:=∀ (p0:L94) (p1:L98) (p2:L103) (p3:L68) (p4:Int) (y:L4),c p0 p1 p2 p3 p4=some y→Spec Tryz.prog gl0 125 [.agg [.list 94 ty94 p0,.list 98 ty98 p1,.list 103 ty103 p2,.list 68 ty68 p3,.int .i64 p4],.fn 126 []] [] (.c (.own 500)) [(500,.row 4 ty4 y)]
theorem ek125 {R:Type} {c:C125} (hs:Sp125 c):EOk 125 (e125 (R:=R) c):=qal fun v=>hs v.1 v.2.1 v.2.2.1 v.2.2.2.1 v.2.2.2.2.1
theorem sf125 {c126:C126} (h126:Sp126 c126):Sp125 (F125 c126):=fun p0 p1 p2 p3 p4 y hy=>by
 refine qai (qac (ek126 h126) qah) 1000000 (fn:=Tryz.f125) (by kernel_rfl) (by kernel_rfl) (X:=X125) (by kernel_rfl) ?_
 rw [eq125]
 exact (nt125 Ops.std c126 p0 p1 p2 p3 p4 _ _ some (K32 k0) (rr125 c126 p0 p1 p2 p3 p4 k0 1000000) none).trans (by show ob (F125 c126 p0 p1 p2 p3 p4) _=_;rw [hy];rfl)
noncomputable def M125:C125:=F125 M126
theorem sm125:Sp125 M125:=sf125 sm126
def X127:Aux:=⟨[],[]⟩
def T127 {R:Type} (B:Ops) (p0:Int) (k:(Bool)→Option R):Option R:=k false
theorem eq127 {R:Type} (B:Ops) (p0:Int) (k:AV→Objs→Option R) (n:Nat):afun tau B gl0 X127 gnil ow Tryz.f127 [.c (.int .i64 p0)] [] k n=T127 B p0 (K2 k):=by kernel_rfl
theorem nt127 {R R':Type} (B:Ops) (p0:Int) (k0:(Bool)→Option R') (k:R'→Option R):T127 B p0 (fun y=>ob (k0 y) k)=ob (T127 B p0 k0) k:=by
 unfold T127
 repeat' first | exact rfl | apply qad | (apply qaj;intro)
def F127 (p0:Int):Option (Bool):=T127 Ops.std p0 some
abbrev C127:Type:=Int→Option (Bool)
def e127 {R:Type} (c:C127):Ent R:=eG [.aC (.cI .i64)] [] fun v k=>ob (c v.1) (K2 k)
abbrev Sp127 (c:C127):Prop:=∀ (p0:Int) (y:Bool),c p0=some y→Spec Tryz.prog gl0 127 [.c (.int .i64 p0)] [] (.c (.bool y)) []
theorem ek127 {R:Type} {c:C127} (hs:Sp127 c):EOk 127 (e127 (R:=R) c):=qal fun v=>hs v.1
theorem sf127:Sp127 (F127):=fun p0 y hy=>by
 refine qai qah 1000000 (fn:=Tryz.f127) (by kernel_rfl) (by kernel_rfl) (X:=X127) (by kernel_rfl) ?_
 rw [eq127]
 exact (nt127 Ops.std p0 some (K2 k0)).trans (by show ob (F127 p0) _=_;rw [hy];rfl)
noncomputable def M127:C127:=F127
theorem sm127:Sp127 M127:=sf127
def X219:Aux:=⟨[(3,([0,2,3,4,6,7,8,9,10,11]++rg 14 10))],[]⟩
inductive S219 where
 | l0 (v0 v1:Int) (v2:L4)
def T219 {R:Type} (B:Ops) (c127:C127) (p0:L94) (p1:L98) (p2:L103) (p3:L68) (p4:Int) (again:S219→Option R) (k:(L4)→Option R):Option S219→Option R | none=>cond (bif B.eq (↑p3.length) (↑p3.length) then bif B.le 0 (↑p3.length) then B.lim (Int.toNat (↑p3.length)) 1 else false else false) (again (.l0 (Nat.cast (List.length (List.replicate (Int.toNat (↑p3.length)) (Ty.dflt Ty.bool)))) 0 (List.replicate (Int.toNat (↑p3.length)) (Ty.dflt Ty.bool)))) none | some (.l0 v0 v1 v2)=>cond (B.lt v1 v0) (ob (c127 v1) fun y0=>cond (B.inb v1 v2.length) (again (.l0 v0 (IntKind.wrap .i64 (v1+1)) (List.set v2 v1.toNat y0))) none) (k v2)
def E219 (p0:L94) (p1:L98) (p2:L103) (p3:L68) (p4:Int):S219→List AV×Objs
 | .l0 v0 v1 v2=>(mk 24 [(1,.fn 127 []),(5,.c (.own 5)),(12,.c (.int .i64 v0)),(13,.c (.int .i64 v1))],[(5,.row 4 ty4 v2)])
def I219:S219→Nat
 | .l0 _ _ _=>0
noncomputable abbrev A219 {R:Type} (B:Ops) (c127:C127) (p0:L94) (p1:L98) (p2:L103) (p3:L68) (p4:Int) (k:AV→Objs→Option R) (s:S219) (n:Nat):Option R:=aloop tau B gl0 X219 (ent 127 (e127 c127) gnil) ow [] Tryz.f125 k (I219 s) (E219 p0 p1 p2 p3 p4 s) n
theorem eq219 {R:Type} (B:Ops) (c127:C127) (p0:L94) (p1:L98) (p2:L103) (p3:L68) (p4:Int) (k:AV→Objs→Option R) (n:Nat):afun tau B gl0 X219 (ent 127 (e127 c127) gnil) ow Tryz.f125 [.agg [.list 94 ty94 p0,.list 98 ty98 p1,.list 103 ty103 p2,.list 68 ty68 p3,.int .i64 p4],.fn 127 []] [] k n=T219 B c127 p0 p1 p2 p3 p4 (fun s=>A219 B c127 p0 p1 p2 p3 p4 k s n) (K32 k) none:=by kernel_rfl
theorem el219 {R:Type} (B:Ops) (c127:C127) (p0:L94) (p1:L98) (p2:L103) (p3:L68) (p4:Int) (k:AV→Objs→Option R) (n:Nat):∀ s,A219 B c127 p0 p1 p2 p3 p4 k s (n+1)=T219 B c127 p0 p1 p2 p3 p4 (fun s=>A219 B c127 p0 p1 p2 p3 p4 k s n) (K32 k) (some s):=by
 intro s
 cases s<;>kernel_rfl
theorem nt219 {R R':Type} (B:Ops) (c127:C127) (p0:L94) (p1:L98) (p2:L103) (p3:L68) (p4:Int) (again:S219→Option R) (again':S219→Option R') (k0:(L4)→Option R') (k:R'→Option R) (h:∀ s,again s=ob (again' s) k):∀ s,T219 B c127 p0 p1 p2 p3 p4 again (fun y=>ob (k0 y) k) s=ob (T219 B c127 p0 p1 p2 p3 p4 again' k0 s) k:=by
 rintro (_ | x)
 all_goals try cases x
 all_goals (unfold T219;repeat' first | exact rfl | exact h _ | apply qad | (apply qaj;intro))
def R219 (c127:C127) (p0:L94) (p1:L98) (p2:L103) (p3:L68) (p4:Int):Nat→S219→Option (L4)
 | 0,_=>none
 | n+1,s=>T219 Ops.std c127 p0 p1 p2 p3 p4 (R219 c127 p0 p1 p2 p3 p4 n) some (some s)
theorem rr219 {R:Type} (c127:C127) (p0:L94) (p1:L98) (p2:L103) (p3:L68) (p4:Int) (k:AV→Objs→Option R):∀ (n:Nat) (s:S219),A219 Ops.std c127 p0 p1 p2 p3 p4 k s n=ob (R219 c127 p0 p1 p2 p3 p4 n s) (K32 k)
 | 0,s=>by cases s<;>rfl
 | n+1,s=>by rw [el219];exact nt219 Ops.std c127 p0 p1 p2 p3 p4 _ _ some (K32 k) (rr219 c127 p0 p1 p2 p3 p4 k n) (some s)
def F219 (c127:C127) (p0:L94) (p1:L98) (p2:L103) (p3:L68) (p4:Int):Option (L4):=T219 Ops.std c127 p0 p1 p2 p3 p4 (R219 c127 p0 p1 p2 p3 p4 1000000) some none
abbrev C219:Type:=L94→L98→L103→L68→Int→Option (L4)
def e219 {R:Type} (c:C219):Ent R:=eG [.aG [.cL 94 ty94,.cL 98 ty98,.cL 103 ty103,.cL 68 ty68,.cI .i64],.aF 127 []] [] fun v k=>ob (c v.1 v.2.1 v.2.2.1 v.2.2.2.1 v.2.2.2.2.1) (K32 k)
abbrev Sp219 (c:C219):Prop:=∀ (p0:L94) (p1:L98) (p2:L103) (p3:L68) (p4:Int) (y:L4),c p0 p1 p2 p3 p4=some y→Spec Tryz.prog gl0 125 [.agg [.list 94 ty94 p0,.list 98 ty98 p1,.list 103 ty103 p2,.list 68 ty68 p3,.int .i64 p4],.fn 127 []] [] (.c (.own 500)) [(500,.row 4 ty4 y)]
theorem ek219 {R:Type} {c:C219} (hs:Sp219 c):EOk 125 (e219 (R:=R) c):=qal fun v=>hs v.1 v.2.1 v.2.2.1 v.2.2.2.1 v.2.2.2.2.1
theorem sf219 {c127:C127} (h127:Sp127 c127):Sp219 (F219 c127):=fun p0 p1 p2 p3 p4 y hy=>by
 refine qai (qac (ek127 h127) qah) 1000000 (fn:=Tryz.f125) (by kernel_rfl) (by kernel_rfl) (X:=X219) (by kernel_rfl) ?_
 rw [eq219]
 exact (nt219 Ops.std c127 p0 p1 p2 p3 p4 _ _ some (K32 k0) (rr219 c127 p0 p1 p2 p3 p4 k0 1000000) none).trans (by show ob (F219 c127 p0 p1 p2 p3 p4) _=_;rw [hy];rfl)
noncomputable def M219:C219:=F219 M127
theorem sm219:Sp219 M219:=sf219 sm127
def X129:Aux:=⟨[],[]⟩
def T129 {R:Type} (B:Ops) (p0:Int) (p1:L47) (k:(Bool×L47)→Option R):Option R:=cond (B.inb 0 p1.length) (cond (B.inb p0 (List.length (p1.getD (Int.toNat 0) ty47.dflt))) (k ((!List.getD (p1.getD (Int.toNat 0) ty47.dflt) p0.toNat (Ty.dflt Ty.bool),p1))) none) none
abbrev K42 {R:Type} (k:AV→Objs→Option R) (y:(Bool×L47)):Option R:=k (.c (.bool y.1)) [(1,.box 43 [.list 47 ty47 y.2])]
theorem eq129 {R:Type} (B:Ops) (p0:Int) (p1:L47) (k:AV→Objs→Option R) (n:Nat):afun tau B gl0 X129 gnil ow Tryz.f129 [.c (.int .i64 p0),.c (.ptr 1 0)] [(1,.box 43 [.list 47 ty47 p1])] k n=T129 B p0 p1 (K42 k):=by kernel_rfl
theorem nt129 {R R':Type} (B:Ops) (p0:Int) (p1:L47) (k0:(Bool×L47)→Option R') (k:R'→Option R):T129 B p0 p1 (fun y=>ob (k0 y) k)=ob (T129 B p0 p1 k0) k:=by
 unfold T129
 repeat' first | exact rfl | apply qad | (apply qaj;intro)
def F129 (p0:Int) (p1:L47):Option (Bool×L47):=T129 Ops.std p0 p1 some
abbrev C129:Type:=Int→L47→Option (Bool×L47)
def e129 {R:Type} (c:C129):Ent R:=eG [.aC (.cI .i64),.aC (.cP 1)] [.oB 1 43 [.cL 47 ty47]] fun v k=>ob (c v.1 v.2.1) (K42 k)
abbrev Sp129 (c:C129):Prop:=∀ (p0:Int) (p1:L47) (y:Bool×L47),c p0 p1=some y→Spec Tryz.prog gl0 129 [.c (.int .i64 p0),.c (.ptr 1 0)] [(1,.box 43 [.list 47 ty47 p1])] (.c (.bool y.1)) [(1,.box 43 [.list 47 ty47 y.2])]
theorem ek129 {R:Type} {c:C129} (hs:Sp129 c):EOk 129 (e129 (R:=R) c):=qal fun v=>hs v.1 v.2.1
theorem sf129:Sp129 (F129):=fun p0 p1 y hy=>by
 refine qai qah 1000000 (fn:=Tryz.f129) (by kernel_rfl) (by kernel_rfl) (X:=X129) (by kernel_rfl) ?_
 rw [eq129]
 exact (nt129 Ops.std p0 p1 some (K42 k0)).trans (by show ob (F129 p0 p1) _=_;rw [hy];rfl)
noncomputable def M129:C129:=F129
theorem sm129:Sp129 M129:=sf129
def X220:Aux:=⟨[(3,([0,2,3,4,6,7,8,9,10,11]++rg 14 10))],[]⟩
inductive S220 where
 | l0 (v0 v1:Int) (v2:L4) (v3:L47)
def T220 {R:Type} (B:Ops) (c129:C129) (p0:L94) (p1:L98) (p2:L103) (p3:L68) (p4:Int) (p5:L47) (again:S220→Option R) (k:(L4×L47)→Option R):Option S220→Option R | none=>cond (bif B.eq (↑p3.length) (↑p3.length) then bif B.le 0 (↑p3.length) then B.lim (Int.toNat (↑p3.length)) 1 else false else false) (again (.l0 (Nat.cast (List.length (List.replicate (Int.toNat (↑p3.length)) (Ty.dflt Ty.bool)))) 0 (List.replicate (Int.toNat (↑p3.length)) (Ty.dflt Ty.bool)) p5)) none | some (.l0 v0 v1 v2 v3)=>cond (B.lt v1 v0) (ob (c129 v1 v3) fun y0=>cond (B.inb v1 v2.length) (again (.l0 v0 (IntKind.wrap .i64 (v1+1)) (List.set v2 v1.toNat y0.1) y0.2)) none) (k (v2,v3))
def E220 (p0:L94) (p1:L98) (p2:L103) (p3:L68) (p4:Int) (p5:L47):S220→List AV×Objs
 | .l0 v0 v1 v2 v3=>(mk 24 [(1,.fn 129 [.ptr 2500 0]),(5,.c (.own 5)),(12,.c (.int .i64 v0)),(13,.c (.int .i64 v1))],[(5,.row 4 ty4 v2),(2500,.box 43 [.list 47 ty47 v3])])
def I220:S220→Nat
 | .l0 _ _ _ _=>0
abbrev K43 {R:Type} (k:AV→Objs→Option R) (y:(L4×L47)):Option R:=k (.c (.own 500)) [(500,.row 4 ty4 y.1),(2500,.box 43 [.list 47 ty47 y.2])]
noncomputable abbrev A220 {R:Type} (B:Ops) (c129:C129) (p0:L94) (p1:L98) (p2:L103) (p3:L68) (p4:Int) (p5:L47) (k:AV→Objs→Option R) (s:S220) (n:Nat):Option R:=aloop tau B gl0 X220 (ent 129 (e129 c129) gnil) ow [2500] Tryz.f125 k (I220 s) (E220 p0 p1 p2 p3 p4 p5 s) n
theorem eq220 {R:Type} (B:Ops) (c129:C129) (p0:L94) (p1:L98) (p2:L103) (p3:L68) (p4:Int) (p5:L47) (k:AV→Objs→Option R) (n:Nat):afun tau B gl0 X220 (ent 129 (e129 c129) gnil) ow Tryz.f125 [.agg [.list 94 ty94 p0,.list 98 ty98 p1,.list 103 ty103 p2,.list 68 ty68 p3,.int .i64 p4],.fn 129 [.ptr 2500 0]] [(2500,.box 43 [.list 47 ty47 p5])] k n=T220 B c129 p0 p1 p2 p3 p4 p5 (fun s=>A220 B c129 p0 p1 p2 p3 p4 p5 k s n) (K43 k) none:=by kernel_rfl
theorem el220 {R:Type} (B:Ops) (c129:C129) (p0:L94) (p1:L98) (p2:L103) (p3:L68) (p4:Int) (p5:L47) (k:AV→Objs→Option R) (n:Nat):∀ s,A220 B c129 p0 p1 p2 p3 p4 p5 k s (n+1)=T220 B c129 p0 p1 p2 p3 p4 p5 (fun s=>A220 B c129 p0 p1 p2 p3 p4 p5 k s n) (K43 k) (some s):=by
 intro s
 cases s<;>kernel_rfl
theorem nt220 {R R':Type} (B:Ops) (c129:C129) (p0:L94) (p1:L98) (p2:L103) (p3:L68) (p4:Int) (p5:L47) (again:S220→Option R) (again':S220→Option R') (k0:(L4×L47)→Option R') (k:R'→Option R) (h:∀ s,again s=ob (again' s) k):∀ s,T220 B c129 p0 p1 p2 p3 p4 p5 again (fun y=>ob (k0 y) k) s=ob (T220 B c129 p0 p1 p2 p3 p4 p5 again' k0 s) k:=by
 rintro (_ | x)
 all_goals try cases x
 all_goals (unfold T220;repeat' first | exact rfl | exact h _ | apply qad | (apply qaj;intro))
def R220 (c129:C129) (p0:L94) (p1:L98) (p2:L103) (p3:L68) (p4:Int) (p5:L47):Nat→S220→Option (L4×L47)
 | 0,_=>none
 | n+1,s=>T220 Ops.std c129 p0 p1 p2 p3 p4 p5 (R220 c129 p0 p1 p2 p3 p4 p5 n) some (some s)
theorem rr220 {R:Type} (c129:C129) (p0:L94) (p1:L98) (p2:L103) (p3:L68) (p4:Int) (p5:L47) (k:AV→Objs→Option R):∀ (n:Nat) (s:S220),A220 Ops.std c129 p0 p1 p2 p3 p4 p5 k s n=ob (R220 c129 p0 p1 p2 p3 p4 p5 n s) (K43 k)
 | 0,s=>by cases s<;>rfl
 | n+1,s=>by rw [el220];exact nt220 Ops.std c129 p0 p1 p2 p3 p4 p5 _ _ some (K43 k) (rr220 c129 p0 p1 p2 p3 p4 p5 k n) (some s)
def F220 (c129:C129) (p0:L94) (p1:L98) (p2:L103) (p3:L68) (p4:Int) (p5:L47):Option (L4×L47):=T220 Ops.std c129 p0 p1 p2 p3 p4 p5 (R220 c129 p0 p1 p2 p3 p4 p5 1000000) some none
abbrev C220:Type:=L94→L98→L103→L68→Int→L47→Option (L4×L47)
def e220 {R:Type} (c:C220):Ent R:=eG [.aG [.cL 94 ty94,.cL 98 ty98,.cL 103 ty103,.cL 68 ty68,.cI .i64],.aF 129 [.cP 2500]] [.oB 2500 43 [.cL 47 ty47]] fun v k=>ob (c v.1 v.2.1 v.2.2.1 v.2.2.2.1 v.2.2.2.2.1 v.2.2.2.2.2.1) (K43 k)
abbrev Sp220 (c:C220):Prop:=∀ (p0:L94) (p1:L98) (p2:L103) (p3:L68) (p4:Int) (p5:L47) (y:L4×L47),c p0 p1 p2 p3 p4 p5=some y→Spec Tryz.prog gl0 125 [.agg [.list 94 ty94 p0,.list 98 ty98 p1,.list 103 ty103 p2,.list 68 ty68 p3,.int .i64 p4],.fn 129 [.ptr 2500 0]] [(2500,.box 43 [.list 47 ty47 p5])] (.c (.own 500)) [(500,.row 4 ty4 y.1),(2500,.box 43 [.list 47 ty47 y.2])]
theorem ek220 {R:Type} {c:C220} (hs:Sp220 c):EOk 125 (e220 (R:=R) c):=qal fun v=>hs v.1 v.2.1 v.2.2.1 v.2.2.2.1 v.2.2.2.2.1 v.2.2.2.2.2.1
theorem sf220 {c129:C129} (h129:Sp129 c129):Sp220 (F220 c129):=fun p0 p1 p2 p3 p4 p5 y hy=>by
 refine qai (qac (ek129 h129) qah) 1000000 (fn:=Tryz.f125) (by kernel_rfl) (by kernel_rfl) (X:=X220) (by kernel_rfl) ?_
 rw [eq220]
 exact (nt220 Ops.std c129 p0 p1 p2 p3 p4 p5 _ _ some (K43 k0) (rr220 c129 p0 p1 p2 p3 p4 p5 k0 1000000) none).trans (by show ob (F220 c129 p0 p1 p2 p3 p4 p5) _=_;rw [hy];rfl)
noncomputable def M220:C220:=F220 M129
theorem sm220:Sp220 M220:=sf220 sm129
def X130:Aux:=⟨[],[]⟩
def T130 {R:Type} (B:Ops) (p0:Int) (p1:L47) (k:(Bool×L47)→Option R):Option R:=cond (B.inb 0 p1.length) (cond (B.inb p0 (List.length (p1.getD (Int.toNat 0) ty47.dflt))) (cond (List.getD (p1.getD (Int.toNat 0) ty47.dflt) p0.toNat (Ty.dflt Ty.bool)) (cond (B.inb 1 p1.length) (cond (B.inb p0 (List.length (p1.getD (Int.toNat 1) ty47.dflt))) (k ((List.getD (p1.getD (Int.toNat 1) ty47.dflt) p0.toNat (Ty.dflt Ty.bool),p1))) none) none) (k (false,p1))) none) none
theorem eq130 {R:Type} (B:Ops) (p0:Int) (p1:L47) (k:AV→Objs→Option R) (n:Nat):afun tau B gl0 X130 gnil ow Tryz.f130 [.c (.int .i64 p0),.c (.ptr 1 0)] [(1,.box 43 [.list 47 ty47 p1])] k n=T130 B p0 p1 (K42 k):=by kernel_rfl
theorem nt130 {R R':Type} (B:Ops) (p0:Int) (p1:L47) (k0:(Bool×L47)→Option R') (k:R'→Option R):T130 B p0 p1 (fun y=>ob (k0 y) k)=ob (T130 B p0 p1 k0) k:=by
 unfold T130
 repeat' first | exact rfl | apply qad | (apply qaj;intro)
def F130 (p0:Int) (p1:L47):Option (Bool×L47):=T130 Ops.std p0 p1 some
abbrev C130:Type:=Int→L47→Option (Bool×L47)
def e130 {R:Type} (c:C130):Ent R:=eG [.aC (.cI .i64),.aC (.cP 1)] [.oB 1 43 [.cL 47 ty47]] fun v k=>ob (c v.1 v.2.1) (K42 k)
abbrev Sp130 (c:C130):Prop:=∀ (p0:Int) (p1:L47) (y:Bool×L47),c p0 p1=some y→Spec Tryz.prog gl0 130 [.c (.int .i64 p0),.c (.ptr 1 0)] [(1,.box 43 [.list 47 ty47 p1])] (.c (.bool y.1)) [(1,.box 43 [.list 47 ty47 y.2])]
theorem ek130 {R:Type} {c:C130} (hs:Sp130 c):EOk 130 (e130 (R:=R) c):=qal fun v=>hs v.1 v.2.1
theorem sf130:Sp130 (F130):=fun p0 p1 y hy=>by
 refine qai qah 1000000 (fn:=Tryz.f130) (by kernel_rfl) (by kernel_rfl) (X:=X130) (by kernel_rfl) ?_
 rw [eq130]
 exact (nt130 Ops.std p0 p1 some (K42 k0)).trans (by show ob (F130 p0 p1) _=_;rw [hy];rfl)
noncomputable def M130:C130:=F130
theorem sm130:Sp130 M130:=sf130
def X221:Aux:=⟨[(3,([0,2,3,4,6,7,8,9,10,11]++rg 14 10))],[]⟩
inductive S221 where
 | l0 (v0 v1:Int) (v2:L4) (v3:L47)
def T221 {R:Type} (B:Ops) (c130:C130) (p0:L94) (p1:L98) (p2:L103) (p3:L68) (p4:Int) (p5:L47) (again:S221→Option R) (k:(L4×L47)→Option R):Option S221→Option R | none=>cond (bif B.eq (↑p3.length) (↑p3.length) then bif B.le 0 (↑p3.length) then B.lim (Int.toNat (↑p3.length)) 1 else false else false) (again (.l0 (Nat.cast (List.length (List.replicate (Int.toNat (↑p3.length)) (Ty.dflt Ty.bool)))) 0 (List.replicate (Int.toNat (↑p3.length)) (Ty.dflt Ty.bool)) p5)) none | some (.l0 v0 v1 v2 v3)=>cond (B.lt v1 v0) (ob (c130 v1 v3) fun y0=>cond (B.inb v1 v2.length) (again (.l0 v0 (IntKind.wrap .i64 (v1+1)) (List.set v2 v1.toNat y0.1) y0.2)) none) (k (v2,v3))
def E221 (p0:L94) (p1:L98) (p2:L103) (p3:L68) (p4:Int) (p5:L47):S221→List AV×Objs
 | .l0 v0 v1 v2 v3=>(mk 24 [(1,.fn 130 [.ptr 2500 0]),(5,.c (.own 5)),(12,.c (.int .i64 v0)),(13,.c (.int .i64 v1))],[(5,.row 4 ty4 v2),(2500,.box 43 [.list 47 ty47 v3])])
def I221:S221→Nat
 | .l0 _ _ _ _=>0
noncomputable abbrev A221 {R:Type} (B:Ops) (c130:C130) (p0:L94) (p1:L98) (p2:L103) (p3:L68) (p4:Int) (p5:L47) (k:AV→Objs→Option R) (s:S221) (n:Nat):Option R:=aloop tau B gl0 X221 (ent 130 (e130 c130) gnil) ow [2500] Tryz.f125 k (I221 s) (E221 p0 p1 p2 p3 p4 p5 s) n
theorem eq221 {R:Type} (B:Ops) (c130:C130) (p0:L94) (p1:L98) (p2:L103) (p3:L68) (p4:Int) (p5:L47) (k:AV→Objs→Option R) (n:Nat):afun tau B gl0 X221 (ent 130 (e130 c130) gnil) ow Tryz.f125 [.agg [.list 94 ty94 p0,.list 98 ty98 p1,.list 103 ty103 p2,.list 68 ty68 p3,.int .i64 p4],.fn 130 [.ptr 2500 0]] [(2500,.box 43 [.list 47 ty47 p5])] k n=T221 B c130 p0 p1 p2 p3 p4 p5 (fun s=>A221 B c130 p0 p1 p2 p3 p4 p5 k s n) (K43 k) none:=by kernel_rfl
theorem el221 {R:Type} (B:Ops) (c130:C130) (p0:L94) (p1:L98) (p2:L103) (p3:L68) (p4:Int) (p5:L47) (k:AV→Objs→Option R) (n:Nat):∀ s,A221 B c130 p0 p1 p2 p3 p4 p5 k s (n+1)=T221 B c130 p0 p1 p2 p3 p4 p5 (fun s=>A221 B c130 p0 p1 p2 p3 p4 p5 k s n) (K43 k) (some s):=by
 intro s
 cases s<;>kernel_rfl
theorem nt221 {R R':Type} (B:Ops) (c130:C130) (p0:L94) (p1:L98) (p2:L103) (p3:L68) (p4:Int) (p5:L47) (again:S221→Option R) (again':S221→Option R') (k0:(L4×L47)→Option R') (k:R'→Option R) (h:∀ s,again s=ob (again' s) k):∀ s,T221 B c130 p0 p1 p2 p3 p4 p5 again (fun y=>ob (k0 y) k) s=ob (T221 B c130 p0 p1 p2 p3 p4 p5 again' k0 s) k:=by
 rintro (_ | x)
 all_goals try cases x
 all_goals (unfold T221;repeat' first | exact rfl | exact h _ | apply qad | (apply qaj;intro))
def R221 (c130:C130) (p0:L94) (p1:L98) (p2:L103) (p3:L68) (p4:Int) (p5:L47):Nat→S221→Option (L4×L47)
 | 0,_=>none
 | n+1,s=>T221 Ops.std c130 p0 p1 p2 p3 p4 p5 (R221 c130 p0 p1 p2 p3 p4 p5 n) some (some s)
theorem rr221 {R:Type} (c130:C130) (p0:L94) (p1:L98) (p2:L103) (p3:L68) (p4:Int) (p5:L47) (k:AV→Objs→Option R):∀ (n:Nat) (s:S221),A221 Ops.std c130 p0 p1 p2 p3 p4 p5 k s n=ob (R221 c130 p0 p1 p2 p3 p4 p5 n s) (K43 k)
 | 0,s=>by cases s<;>rfl
 | n+1,s=>by rw [el221];exact nt221 Ops.std c130 p0 p1 p2 p3 p4 p5 _ _ some (K43 k) (rr221 c130 p0 p1 p2 p3 p4 p5 k n) (some s)
def F221 (c130:C130) (p0:L94) (p1:L98) (p2:L103) (p3:L68) (p4:Int) (p5:L47):Option (L4×L47):=T221 Ops.std c130 p0 p1 p2 p3 p4 p5 (R221 c130 p0 p1 p2 p3 p4 p5 1000000) some none
abbrev C221:Type:=L94→L98→L103→L68→Int→L47→Option (L4×L47)
def e221 {R:Type} (c:C221):Ent R:=eG [.aG [.cL 94 ty94,.cL 98 ty98,.cL 103 ty103,.cL 68 ty68,.cI .i64],.aF 130 [.cP 2500]] [.oB 2500 43 [.cL 47 ty47]] fun v k=>ob (c v.1 v.2.1 v.2.2.1 v.2.2.2.1 v.2.2.2.2.1 v.2.2.2.2.2.1) (K43 k)
abbrev Sp221 (c:C221):Prop:=∀ (p0:L94) (p1:L98) (p2:L103) (p3:L68) (p4:Int) (p5:L47) (y:L4×L47),c p0 p1 p2 p3 p4 p5=some y→Spec Tryz.prog gl0 125 [.agg [.list 94 ty94 p0,.list 98 ty98 p1,.list 103 ty103 p2,.list 68 ty68 p3,.int .i64 p4],.fn 130 [.ptr 2500 0]] [(2500,.box 43 [.list 47 ty47 p5])] (.c (.own 500)) [(500,.row 4 ty4 y.1),(2500,.box 43 [.list 47 ty47 y.2])]
theorem ek221 {R:Type} {c:C221} (hs:Sp221 c):EOk 125 (e221 (R:=R) c):=qal fun v=>hs v.1 v.2.1 v.2.2.1 v.2.2.2.1 v.2.2.2.2.1 v.2.2.2.2.2.1
theorem sf221 {c130:C130} (h130:Sp130 c130):Sp221 (F221 c130):=fun p0 p1 p2 p3 p4 p5 y hy=>by
 refine qai (qac (ek130 h130) qah) 1000000 (fn:=Tryz.f125) (by kernel_rfl) (by kernel_rfl) (X:=X221) (by kernel_rfl) ?_
 rw [eq221]
 exact (nt221 Ops.std c130 p0 p1 p2 p3 p4 p5 _ _ some (K43 k0) (rr221 c130 p0 p1 p2 p3 p4 p5 k0 1000000) none).trans (by show ob (F221 c130 p0 p1 p2 p3 p4 p5) _=_;rw [hy];rfl)
noncomputable def M221:C221:=F221 M130
theorem sm221:Sp221 M221:=sf221 sm130
def X131:Aux:=⟨[],[]⟩
def T131 {R:Type} (B:Ops) (p0:Int) (p1:L47) (k:(Bool×L47)→Option R):Option R:=cond (B.inb 0 p1.length) (cond (B.inb p0 (List.length (p1.getD (Int.toNat 0) ty47.dflt))) (cond (List.getD (p1.getD (Int.toNat 0) ty47.dflt) p0.toNat (Ty.dflt Ty.bool)) (k (true,p1)) (cond (B.inb 1 p1.length) (cond (B.inb p0 (List.length (p1.getD (Int.toNat 1) ty47.dflt))) (k ((List.getD (p1.getD (Int.toNat 1) ty47.dflt) p0.toNat (Ty.dflt Ty.bool),p1))) none) none)) none) none
theorem eq131 {R:Type} (B:Ops) (p0:Int) (p1:L47) (k:AV→Objs→Option R) (n:Nat):afun tau B gl0 X131 gnil ow Tryz.f131 [.c (.int .i64 p0),.c (.ptr 1 0)] [(1,.box 43 [.list 47 ty47 p1])] k n=T131 B p0 p1 (K42 k):=by kernel_rfl
theorem nt131 {R R':Type} (B:Ops) (p0:Int) (p1:L47) (k0:(Bool×L47)→Option R') (k:R'→Option R):T131 B p0 p1 (fun y=>ob (k0 y) k)=ob (T131 B p0 p1 k0) k:=by
 unfold T131
 repeat' first | exact rfl | apply qad | (apply qaj;intro)
def F131 (p0:Int) (p1:L47):Option (Bool×L47):=T131 Ops.std p0 p1 some
abbrev C131:Type:=Int→L47→Option (Bool×L47)
def e131 {R:Type} (c:C131):Ent R:=eG [.aC (.cI .i64),.aC (.cP 1)] [.oB 1 43 [.cL 47 ty47]] fun v k=>ob (c v.1 v.2.1) (K42 k)
abbrev Sp131 (c:C131):Prop:=∀ (p0:Int) (p1:L47) (y:Bool×L47),c p0 p1=some y→Spec Tryz.prog gl0 131 [.c (.int .i64 p0),.c (.ptr 1 0)] [(1,.box 43 [.list 47 ty47 p1])] (.c (.bool y.1)) [(1,.box 43 [.list 47 ty47 y.2])]
theorem ek131 {R:Type} {c:C131} (hs:Sp131 c):EOk 131 (e131 (R:=R) c):=qal fun v=>hs v.1 v.2.1
theorem sf131:Sp131 (F131):=fun p0 p1 y hy=>by
 refine qai qah 1000000 (fn:=Tryz.f131) (by kernel_rfl) (by kernel_rfl) (X:=X131) (by kernel_rfl) ?_
 rw [eq131]
 exact (nt131 Ops.std p0 p1 some (K42 k0)).trans (by show ob (F131 p0 p1) _=_;rw [hy];rfl)
noncomputable def M131:C131:=F131
theorem sm131:Sp131 M131:=sf131
def X222:Aux:=⟨[(3,([0,2,3,4,6,7,8,9,10,11]++rg 14 10))],[]⟩
inductive S222 where
 | l0 (v0 v1:Int) (v2:L4) (v3:L47)
def T222 {R:Type} (B:Ops) (c131:C131) (p0:L94) (p1:L98) (p2:L103) (p3:L68) (p4:Int) (p5:L47) (again:S222→Option R) (k:(L4×L47)→Option R):Option S222→Option R | none=>cond (bif B.eq (↑p3.length) (↑p3.length) then bif B.le 0 (↑p3.length) then B.lim (Int.toNat (↑p3.length)) 1 else false else false) (again (.l0 (Nat.cast (List.length (List.replicate (Int.toNat (↑p3.length)) (Ty.dflt Ty.bool)))) 0 (List.replicate (Int.toNat (↑p3.length)) (Ty.dflt Ty.bool)) p5)) none | some (.l0 v0 v1 v2 v3)=>cond (B.lt v1 v0) (ob (c131 v1 v3) fun y0=>cond (B.inb v1 v2.length) (again (.l0 v0 (IntKind.wrap .i64 (v1+1)) (List.set v2 v1.toNat y0.1) y0.2)) none) (k (v2,v3))
def E222 (p0:L94) (p1:L98) (p2:L103) (p3:L68) (p4:Int) (p5:L47):S222→List AV×Objs
 | .l0 v0 v1 v2 v3=>(mk 24 [(1,.fn 131 [.ptr 2500 0]),(5,.c (.own 5)),(12,.c (.int .i64 v0)),(13,.c (.int .i64 v1))],[(5,.row 4 ty4 v2),(2500,.box 43 [.list 47 ty47 v3])])
def I222:S222→Nat
 | .l0 _ _ _ _=>0
noncomputable abbrev A222 {R:Type} (B:Ops) (c131:C131) (p0:L94) (p1:L98) (p2:L103) (p3:L68) (p4:Int) (p5:L47) (k:AV→Objs→Option R) (s:S222) (n:Nat):Option R:=aloop tau B gl0 X222 (ent 131 (e131 c131) gnil) ow [2500] Tryz.f125 k (I222 s) (E222 p0 p1 p2 p3 p4 p5 s) n
theorem eq222 {R:Type} (B:Ops) (c131:C131) (p0:L94) (p1:L98) (p2:L103) (p3:L68) (p4:Int) (p5:L47) (k:AV→Objs→Option R) (n:Nat):afun tau B gl0 X222 (ent 131 (e131 c131) gnil) ow Tryz.f125 [.agg [.list 94 ty94 p0,.list 98 ty98 p1,.list 103 ty103 p2,.list 68 ty68 p3,.int .i64 p4],.fn 131 [.ptr 2500 0]] [(2500,.box 43 [.list 47 ty47 p5])] k n=T222 B c131 p0 p1 p2 p3 p4 p5 (fun s=>A222 B c131 p0 p1 p2 p3 p4 p5 k s n) (K43 k) none:=by kernel_rfl
theorem el222 {R:Type} (B:Ops) (c131:C131) (p0:L94) (p1:L98) (p2:L103) (p3:L68) (p4:Int) (p5:L47) (k:AV→Objs→Option R) (n:Nat):∀ s,A222 B c131 p0 p1 p2 p3 p4 p5 k s (n+1)=T222 B c131 p0 p1 p2 p3 p4 p5 (fun s=>A222 B c131 p0 p1 p2 p3 p4 p5 k s n) (K43 k) (some s):=by
 intro s
 cases s<;>kernel_rfl
theorem nt222 {R R':Type} (B:Ops) (c131:C131) (p0:L94) (p1:L98) (p2:L103) (p3:L68) (p4:Int) (p5:L47) (again:S222→Option R) (again':S222→Option R') (k0:(L4×L47)→Option R') (k:R'→Option R) (h:∀ s,again s=ob (again' s) k):∀ s,T222 B c131 p0 p1 p2 p3 p4 p5 again (fun y=>ob (k0 y) k) s=ob (T222 B c131 p0 p1 p2 p3 p4 p5 again' k0 s) k:=by
 rintro (_ | x)
 all_goals try cases x
 all_goals (unfold T222;repeat' first | exact rfl | exact h _ | apply qad | (apply qaj;intro))
def R222 (c131:C131) (p0:L94) (p1:L98) (p2:L103) (p3:L68) (p4:Int) (p5:L47):Nat→S222→Option (L4×L47)
 | 0,_=>none
 | n+1,s=>T222 Ops.std c131 p0 p1 p2 p3 p4 p5 (R222 c131 p0 p1 p2 p3 p4 p5 n) some (some s)
theorem rr222 {R:Type} (c131:C131) (p0:L94) (p1:L98) (p2:L103) (p3:L68) (p4:Int) (p5:L47) (k:AV→Objs→Option R):∀ (n:Nat) (s:S222),A222 Ops.std c131 p0 p1 p2 p3 p4 p5 k s n=ob (R222 c131 p0 p1 p2 p3 p4 p5 n s) (K43 k)
 | 0,s=>by cases s<;>rfl
 | n+1,s=>by rw [el222];exact nt222 Ops.std c131 p0 p1 p2 p3 p4 p5 _ _ some (K43 k) (rr222 c131 p0 p1 p2 p3 p4 p5 k n) (some s)
def F222 (c131:C131) (p0:L94) (p1:L98) (p2:L103) (p3:L68) (p4:Int) (p5:L47):Option (L4×L47):=T222 Ops.std c131 p0 p1 p2 p3 p4 p5 (R222 c131 p0 p1 p2 p3 p4 p5 1000000) some none
abbrev C222:Type:=L94→L98→L103→L68→Int→L47→Option (L4×L47)
def e222 {R:Type} (c:C222):Ent R:=eG [.aG [.cL 94 ty94,.cL 98 ty98,.cL 103 ty103,.cL 68 ty68,.cI .i64],.aF 131 [.cP 2500]] [.oB 2500 43 [.cL 47 ty47]] fun v k=>ob (c v.1 v.2.1 v.2.2.1 v.2.2.2.1 v.2.2.2.2.1 v.2.2.2.2.2.1) (K43 k)
abbrev Sp222 (c:C222):Prop:=∀ (p0:L94) (p1:L98) (p2:L103) (p3:L68) (p4:Int) (p5:L47) (y:L4×L47),c p0 p1 p2 p3 p4 p5=some y→Spec Tryz.prog gl0 125 [.agg [.list 94 ty94 p0,.list 98 ty98 p1,.list 103 ty103 p2,.list 68 ty68 p3,.int .i64 p4],.fn 131 [.ptr 2500 0]] [(2500,.box 43 [.list 47 ty47 p5])] (.c (.own 500)) [(500,.row 4 ty4 y.1),(2500,.box 43 [.list 47 ty47 y.2])]
theorem ek222 {R:Type} {c:C222} (hs:Sp222 c):EOk 125 (e222 (R:=R) c):=qal fun v=>hs v.1 v.2.1 v.2.2.1 v.2.2.2.1 v.2.2.2.2.1 v.2.2.2.2.2.1
theorem sf222 {c131:C131} (h131:Sp131 c131):Sp222 (F222 c131):=fun p0 p1 p2 p3 p4 p5 y hy=>by
 refine qai (qac (ek131 h131) qah) 1000000 (fn:=Tryz.f125) (by kernel_rfl) (by kernel_rfl) (X:=X222) (by kernel_rfl) ?_
 rw [eq222]
 exact (nt222 Ops.std c131 p0 p1 p2 p3 p4 p5 _ _ some (K43 k0) (rr222 c131 p0 p1 p2 p3 p4 p5 k0 1000000) none).trans (by show ob (F222 c131 p0 p1 p2 p3 p4 p5) _=_;rw [hy];rfl)
noncomputable def M222:C222:=F222 M131
theorem sm222:Sp222 M222:=sf222 sm131
def X132:Aux:=⟨[],[]⟩
def T132 {R:Type} (B:Ops) (p0:Int) (p1:L47) (k:(Bool×L47)→Option R):Option R:=cond (B.inb 0 p1.length) (cond (B.inb p0 (List.length (p1.getD (Int.toNat 0) ty47.dflt))) (cond (!List.getD (p1.getD (Int.toNat 0) ty47.dflt) p0.toNat (Ty.dflt Ty.bool)) (k (true,p1)) (cond (B.inb 1 p1.length) (cond (B.inb p0 (List.length (p1.getD (Int.toNat 1) ty47.dflt))) (k ((List.getD (p1.getD (Int.toNat 1) ty47.dflt) p0.toNat (Ty.dflt Ty.bool),p1))) none) none)) none) none
theorem eq132 {R:Type} (B:Ops) (p0:Int) (p1:L47) (k:AV→Objs→Option R) (n:Nat):afun tau B gl0 X132 gnil ow Tryz.f132 [.c (.int .i64 p0),.c (.ptr 1 0)] [(1,.box 43 [.list 47 ty47 p1])] k n=T132 B p0 p1 (K42 k):=by kernel_rfl
theorem nt132 {R R':Type} (B:Ops) (p0:Int) (p1:L47) (k0:(Bool×L47)→Option R') (k:R'→Option R):T132 B p0 p1 (fun y=>ob (k0 y) k)=ob (T132 B p0 p1 k0) k:=by
 unfold T132
 repeat' first | exact rfl | apply qad | (apply qaj;intro)
def F132 (p0:Int) (p1:L47):Option (Bool×L47):=T132 Ops.std p0 p1 some
abbrev C132:Type:=Int→L47→Option (Bool×L47)
def e132 {R:Type} (c:C132):Ent R:=eG [.aC (.cI .i64),.aC (.cP 1)] [.oB 1 43 [.cL 47 ty47]] fun v k=>ob (c v.1 v.2.1) (K42 k)
abbrev Sp132 (c:C132):Prop:=∀ (p0:Int) (p1:L47) (y:Bool×L47),c p0 p1=some y→Spec Tryz.prog gl0 132 [.c (.int .i64 p0),.c (.ptr 1 0)] [(1,.box 43 [.list 47 ty47 p1])] (.c (.bool y.1)) [(1,.box 43 [.list 47 ty47 y.2])]
theorem ek132 {R:Type} {c:C132} (hs:Sp132 c):EOk 132 (e132 (R:=R) c):=qal fun v=>hs v.1 v.2.1
theorem sf132:Sp132 (F132):=fun p0 p1 y hy=>by
 refine qai qah 1000000 (fn:=Tryz.f132) (by kernel_rfl) (by kernel_rfl) (X:=X132) (by kernel_rfl) ?_
 rw [eq132]
 exact (nt132 Ops.std p0 p1 some (K42 k0)).trans (by show ob (F132 p0 p1) _=_;rw [hy];rfl)
noncomputable def M132:C132:=F132
theorem sm132:Sp132 M132:=sf132
def X223:Aux:=⟨[(3,([0,2,3,4,6,7,8,9,10,11]++rg 14 10))],[]⟩
inductive S223 where
 | l0 (v0 v1:Int) (v2:L4) (v3:L47)
def T223 {R:Type} (B:Ops) (c132:C132) (p0:L94) (p1:L98) (p2:L103) (p3:L68) (p4:Int) (p5:L47) (again:S223→Option R) (k:(L4×L47)→Option R):Option S223→Option R | none=>cond (bif B.eq (↑p3.length) (↑p3.length) then bif B.le 0 (↑p3.length) then B.lim (Int.toNat (↑p3.length)) 1 else false else false) (again (.l0 (Nat.cast (List.length (List.replicate (Int.toNat (↑p3.length)) (Ty.dflt Ty.bool)))) 0 (List.replicate (Int.toNat (↑p3.length)) (Ty.dflt Ty.bool)) p5)) none | some (.l0 v0 v1 v2 v3)=>cond (B.lt v1 v0) (ob (c132 v1 v3) fun y0=>cond (B.inb v1 v2.length) (again (.l0 v0 (IntKind.wrap .i64 (v1+1)) (List.set v2 v1.toNat y0.1) y0.2)) none) (k (v2,v3))
def E223 (p0:L94) (p1:L98) (p2:L103) (p3:L68) (p4:Int) (p5:L47):S223→List AV×Objs
 | .l0 v0 v1 v2 v3=>(mk 24 [(1,.fn 132 [.ptr 2500 0]),(5,.c (.own 5)),(12,.c (.int .i64 v0)),(13,.c (.int .i64 v1))],[(5,.row 4 ty4 v2),(2500,.box 43 [.list 47 ty47 v3])])
def I223:S223→Nat
 | .l0 _ _ _ _=>0
noncomputable abbrev A223 {R:Type} (B:Ops) (c132:C132) (p0:L94) (p1:L98) (p2:L103) (p3:L68) (p4:Int) (p5:L47) (k:AV→Objs→Option R) (s:S223) (n:Nat):Option R:=aloop tau B gl0 X223 (ent 132 (e132 c132) gnil) ow [2500] Tryz.f125 k (I223 s) (E223 p0 p1 p2 p3 p4 p5 s) n
theorem eq223 {R:Type} (B:Ops) (c132:C132) (p0:L94) (p1:L98) (p2:L103) (p3:L68) (p4:Int) (p5:L47) (k:AV→Objs→Option R) (n:Nat):afun tau B gl0 X223 (ent 132 (e132 c132) gnil) ow Tryz.f125 [.agg [.list 94 ty94 p0,.list 98 ty98 p1,.list 103 ty103 p2,.list 68 ty68 p3,.int .i64 p4],.fn 132 [.ptr 2500 0]] [(2500,.box 43 [.list 47 ty47 p5])] k n=T223 B c132 p0 p1 p2 p3 p4 p5 (fun s=>A223 B c132 p0 p1 p2 p3 p4 p5 k s n) (K43 k) none:=by kernel_rfl
theorem el223 {R:Type} (B:Ops) (c132:C132) (p0:L94) (p1:L98) (p2:L103) (p3:L68) (p4:Int) (p5:L47) (k:AV→Objs→Option R) (n:Nat):∀ s,A223 B c132 p0 p1 p2 p3 p4 p5 k s (n+1)=T223 B c132 p0 p1 p2 p3 p4 p5 (fun s=>A223 B c132 p0 p1 p2 p3 p4 p5 k s n) (K43 k) (some s):=by
 intro s
 cases s<;>kernel_rfl
theorem nt223 {R R':Type} (B:Ops) (c132:C132) (p0:L94) (p1:L98) (p2:L103) (p3:L68) (p4:Int) (p5:L47) (again:S223→Option R) (again':S223→Option R') (k0:(L4×L47)→Option R') (k:R'→Option R) (h:∀ s,again s=ob (again' s) k):∀ s,T223 B c132 p0 p1 p2 p3 p4 p5 again (fun y=>ob (k0 y) k) s=ob (T223 B c132 p0 p1 p2 p3 p4 p5 again' k0 s) k:=by
 rintro (_ | x)
 all_goals try cases x
 all_goals (unfold T223;repeat' first | exact rfl | exact h _ | apply qad | (apply qaj;intro))
def R223 (c132:C132) (p0:L94) (p1:L98) (p2:L103) (p3:L68) (p4:Int) (p5:L47):Nat→S223→Option (L4×L47)
 | 0,_=>none
 | n+1,s=>T223 Ops.std c132 p0 p1 p2 p3 p4 p5 (R223 c132 p0 p1 p2 p3 p4 p5 n) some (some s)
theorem rr223 {R:Type} (c132:C132) (p0:L94) (p1:L98) (p2:L103) (p3:L68) (p4:Int) (p5:L47) (k:AV→Objs→Option R):∀ (n:Nat) (s:S223),A223 Ops.std c132 p0 p1 p2 p3 p4 p5 k s n=ob (R223 c132 p0 p1 p2 p3 p4 p5 n s) (K43 k)
 | 0,s=>by cases s<;>rfl
 | n+1,s=>by rw [el223];exact nt223 Ops.std c132 p0 p1 p2 p3 p4 p5 _ _ some (K43 k) (rr223 c132 p0 p1 p2 p3 p4 p5 k n) (some s)
def F223 (c132:C132) (p0:L94) (p1:L98) (p2:L103) (p3:L68) (p4:Int) (p5:L47):Option (L4×L47):=T223 Ops.std c132 p0 p1 p2 p3 p4 p5 (R223 c132 p0 p1 p2 p3 p4 p5 1000000) some none
abbrev C223:Type:=L94→L98→L103→L68→Int→L47→Option (L4×L47)
def e223 {R:Type} (c:C223):Ent R:=eG [.aG [.cL 94 ty94,.cL 98 ty98,.cL 103 ty103,.cL 68 ty68,.cI .i64],.aF 132 [.cP 2500]] [.oB 2500 43 [.cL 47 ty47]] fun v k=>ob (c v.1 v.2.1 v.2.2.1 v.2.2.2.1 v.2.2.2.2.1 v.2.2.2.2.2.1) (K43 k)
abbrev Sp223 (c:C223):Prop:=∀ (p0:L94) (p1:L98) (p2:L103) (p3:L68) (p4:Int) (p5:L47) (y:L4×L47),c p0 p1 p2 p3 p4 p5=some y→Spec Tryz.prog gl0 125 [.agg [.list 94 ty94 p0,.list 98 ty98 p1,.list 103 ty103 p2,.list 68 ty68 p3,.int .i64 p4],.fn 132 [.ptr 2500 0]] [(2500,.box 43 [.list 47 ty47 p5])] (.c (.own 500)) [(500,.row 4 ty4 y.1),(2500,.box 43 [.list 47 ty47 y.2])]
theorem ek223 {R:Type} {c:C223} (hs:Sp223 c):EOk 125 (e223 (R:=R) c):=qal fun v=>hs v.1 v.2.1 v.2.2.1 v.2.2.2.1 v.2.2.2.2.1 v.2.2.2.2.2.1
theorem sf223 {c132:C132} (h132:Sp132 c132):Sp223 (F223 c132):=fun p0 p1 p2 p3 p4 p5 y hy=>by
 refine qai (qac (ek132 h132) qah) 1000000 (fn:=Tryz.f125) (by kernel_rfl) (by kernel_rfl) (X:=X223) (by kernel_rfl) ?_
 rw [eq223]
 exact (nt223 Ops.std c132 p0 p1 p2 p3 p4 p5 _ _ some (K43 k0) (rr223 c132 p0 p1 p2 p3 p4 p5 k0 1000000) none).trans (by show ob (F223 c132 p0 p1 p2 p3 p4 p5) _=_;rw [hy];rfl)
noncomputable def M223:C223:=F223 M132
theorem sm223:Sp223 M223:=sf223 sm132
def X134:Aux:=⟨[],[]⟩
def T134 {R:Type} (B:Ops) (p0:L94) (p1:L98) (p2:L103) (p3:L68) (p4 p5:Int) (k:(Int)→Option R):Option R:=cond (B.lt (IntKind.wrap .i64 (p5+1)) (↑p3.length)) (k (IntKind.wrap .i64 (p5+1))) (k p4)
theorem eq134 {R:Type} (B:Ops) (p0:L94) (p1:L98) (p2:L103) (p3:L68) (p4 p5:Int) (k:AV→Objs→Option R) (n:Nat):afun tau B gl0 X134 gnil ow Tryz.f134 [.agg [.list 94 ty94 p0,.list 98 ty98 p1,.list 103 ty103 p2,.list 68 ty68 p3,.int .i64 p4],.c (.int .i64 p5)] [] k n=T134 B p0 p1 p2 p3 p4 p5 (K1 k):=by kernel_rfl
theorem nt134 {R R':Type} (B:Ops) (p0:L94) (p1:L98) (p2:L103) (p3:L68) (p4 p5:Int) (k0:(Int)→Option R') (k:R'→Option R):T134 B p0 p1 p2 p3 p4 p5 (fun y=>ob (k0 y) k)=ob (T134 B p0 p1 p2 p3 p4 p5 k0) k:=by
 unfold T134
 repeat' first | exact rfl | apply qad | (apply qaj;intro)
def F134 (p0:L94) (p1:L98) (p2:L103) (p3:L68) (p4 p5:Int):Option (Int):=T134 Ops.std p0 p1 p2 p3 p4 p5 some
abbrev C134:Type:=L94→L98→L103→L68→Int→Int→Option (Int)
def e134 {R:Type} (c:C134):Ent R:=eG [.aG [.cL 94 ty94,.cL 98 ty98,.cL 103 ty103,.cL 68 ty68,.cI .i64],.aC (.cI .i64)] [] fun v k=>ob (c v.1 v.2.1 v.2.2.1 v.2.2.2.1 v.2.2.2.2.1 v.2.2.2.2.2.1) (K1 k)
abbrev Sp134 (c:C134):Prop:=∀ (p0:L94) (p1:L98) (p2:L103) (p3:L68) (p4 p5 y:Int),c p0 p1 p2 p3 p4 p5=some y→Spec Tryz.prog gl0 134 [.agg [.list 94 ty94 p0,.list 98 ty98 p1,.list 103 ty103 p2,.list 68 ty68 p3,.int .i64 p4],.c (.int .i64 p5)] [] (.c (.int .i64 y)) []
theorem ek134 {R:Type} {c:C134} (hs:Sp134 c):EOk 134 (e134 (R:=R) c):=qal fun v=>hs v.1 v.2.1 v.2.2.1 v.2.2.2.1 v.2.2.2.2.1 v.2.2.2.2.2.1
theorem sf134:Sp134 (F134):=fun p0 p1 p2 p3 p4 p5 y hy=>by
 refine qai qah 1000000 (fn:=Tryz.f134) (by kernel_rfl) (by kernel_rfl) (X:=X134) (by kernel_rfl) ?_
 rw [eq134]
 exact (nt134 Ops.std p0 p1 p2 p3 p4 p5 some (K1 k0)).trans (by show ob (F134 p0 p1 p2 p3 p4 p5) _=_;rw [hy];rfl)
noncomputable def M134:C134:=F134
theorem sm134:Sp134 M134:=sf134
end Go.Proofs.YtccnmhdgghjgoaaGreatDoor.Av
