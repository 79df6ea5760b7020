/- Twins of functions,printed by gen.py. Conditions: none. -/
import Derived.Test.YtccnmhdgghjgoaaGreatDoorTt6
import Derived.KernelRfl
set_option linter.unusedSimpArgs false
set_option linter.unusedVariables false
set_option maxRecDepth 100000
set_option maxHeartbeats 8000000
namespace Go.Proofs.YtccnmhdgghjgoaaGreatDoor.Av
open Go
def X31:Aux:=⟨[(6,([0,3,5,6,8,9,10]++rg 12 34++rg 49 66)),(12,([0,2,3,5,6,8,9,10,12,13]++rg 15 47++rg 65 50)),(16,([0,2,3,5,6,8,9,10,12,13,16]++rg 18 44++[65,66,67,68]++rg 72 43))],[(20,.lin (rg 0 18)),(21,.lin (rg 0 14))]⟩
inductive S31 where
 | l0 (v2 v3:Int) (v9:List (Int×Bool)) (v10:L3)
 | l1 (v1 v2:Int) (v8:List (Int×Bool)) (v9:L4) (v10:L22)
 | l2 (v1 v2 v3:Int) (v4:L3) (v5 v6:Int) (v12:List (Int×Bool)) (v13 v14:L4) (v15:L22)
def T31 {R:Type} (B:Ops) (c26:C26) (c67:C67) (c52:C52) (c68:C68) (c69:C69) (p0:L94) (p1:L98) (p2:L103) (p3:L66) (p4:Int) (p5 p6:L3) (again:S31→Option R) (k:(L4)→Option R):Option S31→Option R | none=>ob (c26 p3) fun y0=>cond (!B.eq y0.1 0) (k (mt (Ty.den Ty.bool))) (ob (c67 p0 p1 p2 p3) fun y1=>cond (!y1) (k (mt (Ty.den Ty.bool))) (cond (B.lt p4 0) (k (mt (Ty.den Ty.bool))) (cond (B.lt (Nat.cast (List.length y0.2)) 0) none (cond (B.lt 0 (bif false then shlI IntKind.i64 p4 (Nat.cast (List.length y0.2)) else shrI IntKind.i64 p4 (Nat.cast (List.length y0.2)))) (k (mt (Ty.den Ty.bool))) (again (.l0 (Nat.cast (List.length y0.2)) 0 (mt (Ty.den (Ty.int .i64)×Ty.den Ty.bool)) y0.2)))))) | some (.l0 v2 v3 v9 v10)=>cond (B.lt v3 v2) (cond (B.inb v3 v10.length) (cond (B.lt v3 0) none (again (.l0 v2 (IntKind.wrap .i64 (v3+1)) (mput (Ty.int .i64) v9 (v10.getD v3.toNat ty3.dflt) (B.lt 0 (bitAnd IntKind.i64 (bif false then shlI IntKind.i64 p4 v3 else shrI IntKind.i64 p4 v3) 1))) v10))) none) (ob (c52 p3) fun y0=>again (.l1 (↑y0.length) 0 v9 (mt (Ty.den Ty.bool)) y0)) | some (.l1 v1 v2 v8 v9 v10)=>cond (B.lt v2 v1) (cond (B.inb v2 v10.length) (again (.l2 v2 v1 v2 (v10.getD v2.toNat ty22.dflt) (Nat.cast (List.length (v10.getD v2.toNat ty22.dflt))) 0 v8 v9 (mt (Ty.den Ty.bool)) v10)) none) (k v9) | some (.l2 v1 v2 v3 v4 v5 v6 v12 v13 v14 v15)=>cond (B.lt v6 v5) (cond (B.inb v6 v4.length) (cond (B.inb (v4.getD v6.toNat ty3.dflt) v13.length) (cond (B.lim (List.length v14+List.length (v13.getD (Int.toNat (v4.getD v6.toNat ty3.dflt)) ty4.dflt::mt (Ty.den Ty.bool))) 1) (again (.l2 v1 v2 v3 v4 v5 (IntKind.wrap .i64 (v6+1)) v12 v13 (v14++v13.getD (Int.toNat (v4.getD v6.toNat ty3.dflt)) ty4.dflt::mt (Ty.den Ty.bool)) v15)) none) none) none) (cond (B.inb v1 p3.length) (cond (B.eq (p3.getD v1.toNat ty66.dflt).1 3) (cond (B.inb v1 p3.length) (ob (c68 p0 p1 p2 p5 p6 (p3.getD v1.toNat ty66.dflt).2) fun y0=>cond (B.inb v1 p3.length) (ob (c69 (p3.getD v1.toNat ty66.dflt).1 (p3.getD v1.toNat ty66.dflt).2 v14 (!B.eq y0 0) (Option.getD (mget (Ty.int .i64) v12 v1) (Ty.dflt Ty.bool))) fun y1=>cond (B.lim (List.length v13+List.length (y1::mt (Ty.den Ty.bool))) 1) (again (.l1 v2 (IntKind.wrap .i64 (v3+1)) v12 (v13++y1::mt (Ty.den Ty.bool)) v15)) none) none) none) (cond (B.inb v1 p3.length) (ob (c69 (p3.getD v1.toNat ty66.dflt).1 (p3.getD v1.toNat ty66.dflt).2 v14 false (Option.getD (mget (Ty.int .i64) v12 v1) (Ty.dflt Ty.bool))) fun y0=>cond (B.lim (List.length v13+List.length (y0::mt (Ty.den Ty.bool))) 1) (again (.l1 v2 (IntKind.wrap .i64 (v3+1)) v12 (v13++y0::mt (Ty.den Ty.bool)) v15)) none) none)) none)
def E31 (p0:L94) (p1:L98) (p2:L103) (p3:L66) (p4:Int) (p5 p6:L3):S31→List AV×Objs
 | .l0 v2 v3 v9 v10=>(mk 115 [(1,.c (.list 66 ty66 p3)),(2,.c (.int .i64 p4)),(4,.c (.ptr 4 0)),(7,.c (.ptr 7 0)),(11,.c (.own 11)),(46,.c (.own 46)),(47,.c (.int .i64 v2)),(48,.c (.int .i64 v3))],[(4,.box 31 [.list 94 ty94 p0,.list 98 ty98 p1,.list 103 ty103 p2]),(7,.box 57 [.list 3 ty3 p5,.list 3 ty3 p6]),(11,.mp 108 (.int .i64) .bool v9),(46,.row 3 ty3 v10)])
 | .l1 v1 v2 v8 v9 v10=>(mk 115 [(1,.c (.list 66 ty66 p3)),(4,.c (.ptr 4 0)),(7,.c (.ptr 7 0)),(11,.c (.own 11)),(14,.c (.own 14)),(62,.c (.own 62)),(63,.c (.int .i64 v1)),(64,.c (.int .i64 v2))],[(4,.box 31 [.list 94 ty94 p0,.list 98 ty98 p1,.list 103 ty103 p2]),(7,.box 57 [.list 3 ty3 p5,.list 3 ty3 p6]),(11,.mp 108 (.int .i64) .bool v8),(14,.row 4 ty4 v9),(62,.row 22 ty22 v10)])
 | .l2 v1 v2 v3 v4 v5 v6 v12 v13 v14 v15=>(mk 115 [(1,.c (.list 66 ty66 p3)),(4,.c (.ptr 4 0)),(7,.c (.ptr 7 0)),(11,.c (.own 11)),(14,.c (.own 14)),(15,.c (.int .i64 v1)),(17,.c (.own 17)),(62,.c (.own 62)),(63,.c (.int .i64 v2)),(64,.c (.int .i64 v3)),(69,.c (.list 3 ty3 v4)),(70,.c (.int .i64 v5)),(71,.c (.int .i64 v6))],[(4,.box 31 [.list 94 ty94 p0,.list 98 ty98 p1,.list 103 ty103 p2]),(7,.box 57 [.list 3 ty3 p5,.list 3 ty3 p6]),(11,.mp 108 (.int .i64) .bool v12),(14,.row 4 ty4 v13),(17,.row 4 ty4 v14),(62,.row 22 ty22 v15)])
def I31:S31→Nat
 | .l0 _ _ _ _=>0
 | .l1 _ _ _ _ _=>1
 | .l2 _ _ _ _ _ _ _ _ _ _=>2
noncomputable abbrev A31 {R:Type} (B:Ops) (c26:C26) (c67:C67) (c52:C52) (c68:C68) (c69:C69) (p0:L94) (p1:L98) (p2:L103) (p3:L66) (p4:Int) (p5 p6:L3) (k:AV→Objs→Option R) (s:S31) (n:Nat):Option R:=aloop tau B gl0 X31 (ent 26 (e26 c26) (ent 67 (e67 c67) (ent 52 (e52 c52) (ent 68 (e68 c68) (ent 69 (e69 c69) gnil))))) ow [] Tryz.f31 k (I31 s) (E31 p0 p1 p2 p3 p4 p5 p6 s) n
theorem eq31 {R:Type} (B:Ops) (c26:C26) (c67:C67) (c52:C52) (c68:C68) (c69:C69) (p0:L94) (p1:L98) (p2:L103) (p3:L66) (p4:Int) (p5 p6:L3) (k:AV→Objs→Option R) (n:Nat):afun tau B gl0 X31 (ent 26 (e26 c26) (ent 67 (e67 c67) (ent 52 (e52 c52) (ent 68 (e68 c68) (ent 69 (e69 c69) gnil))))) ow Tryz.f31 [.agg [.list 94 ty94 p0,.list 98 ty98 p1,.list 103 ty103 p2],.c (.list 66 ty66 p3),.c (.int .i64 p4),.agg [.list 3 ty3 p5,.list 3 ty3 p6]] [] k n=T31 B c26 c67 c52 c68 c69 p0 p1 p2 p3 p4 p5 p6 (fun s=>A31 B c26 c67 c52 c68 c69 p0 p1 p2 p3 p4 p5 p6 k s n) (K31 k) none:=by kernel_rfl
theorem el31 {R:Type} (B:Ops) (c26:C26) (c67:C67) (c52:C52) (c68:C68) (c69:C69) (p0:L94) (p1:L98) (p2:L103) (p3:L66) (p4:Int) (p5 p6:L3) (k:AV→Objs→Option R) (n:Nat):∀ s,A31 B c26 c67 c52 c68 c69 p0 p1 p2 p3 p4 p5 p6 k s (n+1)=T31 B c26 c67 c52 c68 c69 p0 p1 p2 p3 p4 p5 p6 (fun s=>A31 B c26 c67 c52 c68 c69 p0 p1 p2 p3 p4 p5 p6 k s n) (K31 k) (some s):=by
 intro s
 cases s<;>kernel_rfl
theorem nt31 {R R':Type} (B:Ops) (c26:C26) (c67:C67) (c52:C52) (c68:C68) (c69:C69) (p0:L94) (p1:L98) (p2:L103) (p3:L66) (p4:Int) (p5 p6:L3) (again:S31→Option R) (again':S31→Option R') (k0:(L4)→Option R') (k:R'→Option R) (h:∀ s,again s=ob (again' s) k):∀ s,T31 B c26 c67 c52 c68 c69 p0 p1 p2 p3 p4 p5 p6 again (fun y=>ob (k0 y) k) s=ob (T31 B c26 c67 c52 c68 c69 p0 p1 p2 p3 p4 p5 p6 again' k0 s) k:=by
 rintro (_ | x)
 all_goals try cases x
 all_goals (unfold T31;repeat' first | exact rfl | exact h _ | apply qae | (apply qaj;intro))
def R31 (c26:C26) (c67:C67) (c52:C52) (c68:C68) (c69:C69) (p0:L94) (p1:L98) (p2:L103) (p3:L66) (p4:Int) (p5 p6:L3):Nat→S31→Option (L4)
 | 0,_=>none
 | n+1,s=>T31 Ops.std c26 c67 c52 c68 c69 p0 p1 p2 p3 p4 p5 p6 (R31 c26 c67 c52 c68 c69 p0 p1 p2 p3 p4 p5 p6 n) some (some s)
theorem rr31 {R:Type} (c26:C26) (c67:C67) (c52:C52) (c68:C68) (c69:C69) (p0:L94) (p1:L98) (p2:L103) (p3:L66) (p4:Int) (p5 p6:L3) (k:AV→Objs→Option R):∀ (n:Nat) (s:S31),A31 Ops.std c26 c67 c52 c68 c69 p0 p1 p2 p3 p4 p5 p6 k s n=ob (R31 c26 c67 c52 c68 c69 p0 p1 p2 p3 p4 p5 p6 n s) (K31 k)
 | 0,s=>by cases s<;>rfl
 | n+1,s=>by rw [el31];exact nt31 Ops.std c26 c67 c52 c68 c69 p0 p1 p2 p3 p4 p5 p6 _ _ some (K31 k) (rr31 c26 c67 c52 c68 c69 p0 p1 p2 p3 p4 p5 p6 k n) (some s)
def F31 (c26:C26) (c67:C67) (c52:C52) (c68:C68) (c69:C69) (p0:L94) (p1:L98) (p2:L103) (p3:L66) (p4:Int) (p5 p6:L3):Option (L4):=T31 Ops.std c26 c67 c52 c68 c69 p0 p1 p2 p3 p4 p5 p6 (R31 c26 c67 c52 c68 c69 p0 p1 p2 p3 p4 p5 p6 1000000) some none
abbrev C31:Type:=L94→L98→L103→L66→Int→L3→L3→Option (L4)
def e31 {R:Type} (c:C31):Ent R:=eG [.aG [.cL 94 ty94,.cL 98 ty98,.cL 103 ty103],.aC (.cL 66 ty66),.aC (.cI .i64),.aG [.cL 3 ty3,.cL 3 ty3]] [] fun v k=>ob (c v.1 v.2.1 v.2.2.1 v.2.2.2.1 v.2.2.2.2.1 v.2.2.2.2.2.1 v.2.2.2.2.2.2.1) (K31 k)
abbrev Sp31 (c:C31):Prop:=∀ (p0:L94) (p1:L98) (p2:L103) (p3:L66) (p4:Int) (p5 p6:L3) (y:L4),c p0 p1 p2 p3 p4 p5 p6=some y→Spec Tryz.prog gl0 31 [.agg [.list 94 ty94 p0,.list 98 ty98 p1,.list 103 ty103 p2],.c (.list 66 ty66 p3),.c (.int .i64 p4),.agg [.list 3 ty3 p5,.list 3 ty3 p6]] [] (.c (.own 500)) [(500,.row 4 ty4 y)]
theorem ek31 {R:Type} {c:C31} (hs:Sp31 c):EOk 31 (e31 (R:=R) c):=qam fun v=>hs v.1 v.2.1 v.2.2.1 v.2.2.2.1 v.2.2.2.2.1 v.2.2.2.2.2.1 v.2.2.2.2.2.2.1
theorem sf31 {c26:C26} {c67:C67} {c52:C52} {c68:C68} {c69:C69} (h26:Sp26 c26) (h67:Sp67 c67) (h52:Sp52 c52) (h68:Sp68 c68) (h69:Sp69 c69):Sp31 (F31 c26 c67 c52 c68 c69):=fun p0 p1 p2 p3 p4 p5 p6 y hy=>by
 refine qai (qac (ek26 h26) (qac (ek67 h67) (qac (ek52 h52) (qac (ek68 h68) (qac (ek69 h69) qah))))) 1000000 (fn:=Tryz.f31) (by kernel_rfl) (by kernel_rfl) (X:=X31) (by kernel_rfl) ?_
 rw [eq31]
 exact (nt31 Ops.std c26 c67 c52 c68 c69 p0 p1 p2 p3 p4 p5 p6 _ _ some (K31 k0) (rr31 c26 c67 c52 c68 c69 p0 p1 p2 p3 p4 p5 p6 k0 1000000) none).trans (by show ob (F31 c26 c67 c52 c68 c69 p0 p1 p2 p3 p4 p5 p6) _=_;rw [hy];rfl)
noncomputable def M31:C31:=F31 M26 M67 M52 M68 M69
theorem sm31:Sp31 M31:=sf31 sm26 sm67 sm52 sm68 sm69
end Go.Proofs.YtccnmhdgghjgoaaGreatDoor.Av
