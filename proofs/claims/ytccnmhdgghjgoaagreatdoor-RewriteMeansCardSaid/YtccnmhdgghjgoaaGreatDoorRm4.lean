/- Twins of functions,printed by gen.py. Conditions: none. -/
import Derived.Test.YtccnmhdgghjgoaaGreatDoorRm3
import Derived.KernelRfl
set_option linter.unusedSimpArgs false
set_option linter.unusedVariables false
set_option maxRecDepth 100000
set_option maxHeartbeats 8000000
namespace Go.Proofs.YtccnmhdgghjgoaaGreatDoor.Av
open Go
def X157:Aux:=⟨[(4,([0]++rg 3 12++rg 18 14))],[]⟩
inductive S157 where
 | l0 (v0_2:Int) (v0_3:Int)
abbrev C158:Type:=Int→L150→Int→L150→Option (Bool)
def T157 {R:Type} (B:Ops) (c158:C158) (p0:L66) (p1:L66) (again:S157→Option R) (k:(Bool)→Option R):Option S157→Option R | none=>cond (!Ops.eq B (Nat.cast (List.length p0)) (Nat.cast (List.length p1))) (k false) (again (.l0 (Nat.cast (List.length p0)) 0)) | some (.l0 v0_2 v0_3)=>cond (Ops.lt B v0_3 v0_2) (cond (Ops.inb B v0_3 (List.length p0)) (cond (Ops.inb B v0_3 (List.length p1)) (ob (c158 ((List.getD p0 (Int.toNat v0_3) (Ty.dflt ty66)).1) ((List.getD p0 (Int.toNat v0_3) (Ty.dflt ty66)).2) ((List.getD p1 (Int.toNat v0_3) (Ty.dflt ty66)).1) ((List.getD p1 (Int.toNat v0_3) (Ty.dflt ty66)).2)) fun y0=>cond (!y0) (k false) (again (.l0 v0_2 (IntKind.wrap .i64 (v0_3+1))))) (none)) (none)) (k true)
def E157 (p0:L66) (p1:L66):S157→List AV×Objs
 | .l0 v0_2 v0_3=>(mk 32 [(1,.c (.list 66 ty66 p1)),(2,.fn 158 []),(15,.c (.list 66 ty66 p0)),(16,.c (.int .i64 v0_2)),(17,.c (.int .i64 v0_3))],[])
def I157:S157→Nat
 | .l0 _ _=>0
theorem eq157 {R:Type} (B:Ops) (c158:C158) (p0:L66) (p1:L66) (k:AV→Objs→Option R) (n:Nat):afun tau B gl0 X157 (ent 158 (e158 c158) (gnil)) ow Tryz.f157 [.c (.list 66 ty66 p0),.c (.list 66 ty66 p1),.fn 158 []] [] k n=T157 B c158 p0 p1 (fun s=>aloop tau B gl0 X157 (ent 158 (e158 c158) (gnil)) ow [] Tryz.f157 k (I157 s) (E157 p0 p1 s) n) (fun y=>k (.c (.bool y)) []) none:=by kernel_rfl
theorem el157 {R:Type} (B:Ops) (c158:C158) (p0:L66) (p1:L66) (k:AV→Objs→Option R) (n:Nat):∀ s,aloop tau B gl0 X157 (ent 158 (e158 c158) (gnil)) ow [] Tryz.f157 k (I157 s) (E157 p0 p1 s) (n+1)=T157 B c158 p0 p1 (fun s=>aloop tau B gl0 X157 (ent 158 (e158 c158) (gnil)) ow [] Tryz.f157 k (I157 s) (E157 p0 p1 s) n) (fun y=>k (.c (.bool y)) []) (some s)
 | .l0 v0_2 v0_3=>by kernel_rfl
theorem nt157 {R R':Type} (B:Ops) (c158:C158) (p0:L66) (p1:L66) (again:S157→Option R) (again':S157→Option R') (k0:(Bool)→Option R') (k:R'→Option R) (h:∀ s,again s=ob (again' s) k):∀ s,T157 B c158 p0 p1 again (fun y=>ob (k0 y) k) s=ob (T157 B c158 p0 p1 again' k0 s) k
 | none=>by unfold T157;repeat' first | exact rfl | exact h _ | apply qac | (apply qah;intro)
 | some (.l0 v0_2 v0_3)=>by unfold T157;repeat' first | exact rfl | exact h _ | apply qac | (apply qah;intro)
def R157 (c158:C158) (p0:L66) (p1:L66):Nat→S157→Option (Bool)
 | 0,_=>none
 | n+1,s=>T157 Ops.std c158 p0 p1 (R157 c158 p0 p1 n) some (some s)
theorem rr157 {R:Type} (c158:C158) (p0:L66) (p1:L66) (k:AV→Objs→Option R):∀ (n:Nat) (s:S157),aloop tau Ops.std gl0 X157 (ent 158 (e158 c158) (gnil)) ow [] Tryz.f157 k (I157 s) (E157 p0 p1 s) n=ob (R157 c158 p0 p1 n s) (fun y=>k (.c (.bool y)) [])
 | 0,s=>by cases s<;>rfl
 | n+1,s=>by rw [el157];exact nt157 Ops.std c158 p0 p1 _ _ some (fun y=>k (.c (.bool y)) []) (rr157 c158 p0 p1 k n) (some s)
def F157 (c158:C158) (p0:L66) (p1:L66):Option (Bool):=T157 Ops.std c158 p0 p1 (R157 c158 p0 p1 1000000) some none
theorem fo157 {R:Type} (c158:C158) (p0:L66) (p1:L66) (k:AV→Objs→Option R):afun tau Ops.std gl0 X157 (ent 158 (e158 c158) (gnil)) ow Tryz.f157 [.c (.list 66 ty66 p0),.c (.list 66 ty66 p1),.fn 158 []] [] k 1000000=ob (F157 c158 p0 p1) (fun y=>k (.c (.bool y)) []):=by rw [eq157];exact nt157 Ops.std c158 p0 p1 _ _ some (fun y=>k (.c (.bool y)) []) (rr157 c158 p0 p1 k 1000000) none
def e157 {R:Type} (c:L66→L66→Option (Bool)):Ent R:=fun args objs k=>
 oCons args fun a0 l0=>oC a0 fun x0=>cList 66 ty66 x0 fun p0=>oCons l0 fun a1 l1=>oC a1 fun x1=>cList 66 ty66 x1 fun p1=>oCons l1 fun a2 l2=>oFn 158 a2 <| oNil l2 <| oNilO objs <| ob (c p0 p1) fun y=>k (.c (.bool y)) []
abbrev Sp157 (c:L66→L66→Option (Bool)):Prop:=∀ (p0:L66) (p1:L66) (y:Bool),c p0 p1=some y→Spec Tryz.prog gl0 157 [.c (.list 66 ty66 p0),.c (.list 66 ty66 p1),.fn 158 []] [] (.c (.bool y)) []
theorem ek157 {R:Type} {c:L66→L66→Option (Bool)} (hs:Sp157 c):EOk 157 (e157 (R:=R) c):=fun args objs k r h=>by
 unfold e157 at h
 obtain ⟨a0,l0,rfl,q1⟩:=qaa h
 obtain ⟨x0,rfl,q2⟩:=qaj q1
 obtain ⟨p0,rfl,q3⟩:=qae q2
 obtain ⟨a1,l1,rfl,q4⟩:=qaa q3
 obtain ⟨x1,rfl,q5⟩:=qaj q4
 obtain ⟨p1,rfl,q6⟩:=qae q5
 obtain ⟨a2,l2,rfl,q7⟩:=qaa q6
 obtain ⟨rfl,q8⟩:=oFn_some q7
 obtain ⟨rfl,q9⟩:=qag q8
 obtain ⟨rfl,q10⟩:=qaf q9
 exact qar (hs p0 p1) q10
theorem sf157 {c158:C158} (h158:Sp158 c158):Sp157 (F157 c158):=fun p0 p1 y hy=>by
 refine qap (G:=ent 158 (e158 c158) (gnil)) (qai (ek158 h158) (qao)) 1000000 (fn:=Tryz.f157) (by kernel_rfl) (by kernel_rfl) (X:=X157) (by kernel_rfl) ?_
 rw [fo157,hy]
 rfl
noncomputable def M157:L66→L66→Option (Bool):=F157 M158
theorem sm157:Sp157 M157:=sf157 sm158
def X98:Aux:=⟨[],[]⟩
abbrev C157:Type:=L66→L66→Option (Bool)
def T98 {R:Type} (B:Ops) (c157:C157) (c158:C158) (p0:L66) (p1:L66) (k:(Bool)→Option R):Option R:=ob (c157 p0 p1) fun y0=>k y0
theorem eq98 {R:Type} (B:Ops) (c157:C157) (c158:C158) (p0:L66) (p1:L66) (k:AV→Objs→Option R) (n:Nat):afun tau B gl0 X98 (ent 157 (e157 c157) (ent 158 (e158 c158) (gnil))) ow Tryz.f98 [.c (.list 66 ty66 p0),.c (.list 66 ty66 p1)] [] k n=T98 B c157 c158 p0 p1 (fun y=>k (.c (.bool y)) []):=by kernel_rfl
theorem nt98 {R R':Type} (B:Ops) (c157:C157) (c158:C158) (p0:L66) (p1:L66) (k0:(Bool)→Option R') (k:R'→Option R):T98 B c157 c158 p0 p1 (fun y=>ob (k0 y) k)=ob (T98 B c157 c158 p0 p1 k0) k:=by
 unfold T98
 repeat' first | exact rfl | apply qac | (apply qah;intro)
def F98 (c157:C157) (c158:C158) (p0:L66) (p1:L66):Option (Bool):=T98 Ops.std c157 c158 p0 p1 some
theorem fo98 {R:Type} (c157:C157) (c158:C158) (p0:L66) (p1:L66) (k:AV→Objs→Option R) (n:Nat):afun tau Ops.std gl0 X98 (ent 157 (e157 c157) (ent 158 (e158 c158) (gnil))) ow Tryz.f98 [.c (.list 66 ty66 p0),.c (.list 66 ty66 p1)] [] k n=ob (F98 c157 c158 p0 p1) (fun y=>k (.c (.bool y)) []):=by rw [eq98];exact nt98 Ops.std c157 c158 p0 p1 some (fun y=>k (.c (.bool y)) [])
def e98 {R:Type} (c:L66→L66→Option (Bool)):Ent R:=fun args objs k=>
 oCons args fun a0 l0=>oC a0 fun x0=>cList 66 ty66 x0 fun p0=>oCons l0 fun a1 l1=>oC a1 fun x1=>cList 66 ty66 x1 fun p1=>oNil l1 <| oNilO objs <| ob (c p0 p1) fun y=>k (.c (.bool y)) []
abbrev Sp98 (c:L66→L66→Option (Bool)):Prop:=∀ (p0:L66) (p1:L66) (y:Bool),c p0 p1=some y→Spec Tryz.prog gl0 98 [.c (.list 66 ty66 p0),.c (.list 66 ty66 p1)] [] (.c (.bool y)) []
theorem ek98 {R:Type} {c:L66→L66→Option (Bool)} (hs:Sp98 c):EOk 98 (e98 (R:=R) c):=fun args objs k r h=>by
 unfold e98 at h
 obtain ⟨a0,l0,rfl,q1⟩:=qaa h
 obtain ⟨x0,rfl,q2⟩:=qaj q1
 obtain ⟨p0,rfl,q3⟩:=qae q2
 obtain ⟨a1,l1,rfl,q4⟩:=qaa q3
 obtain ⟨x1,rfl,q5⟩:=qaj q4
 obtain ⟨p1,rfl,q6⟩:=qae q5
 obtain ⟨rfl,q7⟩:=qag q6
 obtain ⟨rfl,q8⟩:=qaf q7
 exact qar (hs p0 p1) q8
theorem sf98 {c157:C157} {c158:C158} (h157:Sp157 c157) (h158:Sp158 c158):Sp98 (F98 c157 c158):=fun p0 p1 y hy=>by
 refine qap (G:=ent 157 (e157 c157) (ent 158 (e158 c158) (gnil))) (qai (ek157 h157) (qai (ek158 h158) (qao))) 1000000 (fn:=Tryz.f98) (by kernel_rfl) (by kernel_rfl) (X:=X98) (by kernel_rfl) ?_
 rw [fo98,hy]
 rfl
noncomputable def M98:L66→L66→Option (Bool):=F98 M157 M158
theorem sm98:Sp98 M98:=sf98 sm157 sm158
def e160 {R:Type} (c:Int→Option (L66)):Ent R:=fun args objs k=>
 oCons args fun a0 l0=>oC a0 fun x0=>cNl x0 <| oCons l0 fun a1 l1=>oC a1 fun x1=>cInt .i64 x1 fun p0=>oNil l1 <| oNilO objs <| ob (c p0) fun y=>k (.c (.own 500)) [(500,.row 66 ty66 y)]
abbrev Sp160 (c:Int→Option (L66)):Prop:=∀ (p0:Int) (y:L66),c p0=some y→Spec Tryz.prog gl0 160 [.c .nil,.c (.int .i64 p0)] [] (.c (.own 500)) [(500,.row 66 ty66 y)]
theorem ek160 {R:Type} {c:Int→Option (L66)} (hs:Sp160 c):EOk 160 (e160 (R:=R) c):=fun args objs k r h=>by
 unfold e160 at h
 obtain ⟨a0,l0,rfl,q1⟩:=qaa h
 obtain ⟨x0,rfl,q2⟩:=qaj q1
 obtain ⟨rfl,q3⟩:=cNl_some q2
 obtain ⟨a1,l1,rfl,q4⟩:=qaa q3
 obtain ⟨x1,rfl,q5⟩:=qaj q4
 obtain ⟨p0,rfl,q6⟩:=qal q5
 obtain ⟨rfl,q7⟩:=qag q6
 obtain ⟨rfl,q8⟩:=qaf q7
 exact qar (hs p0) q8
def M160:Int→Option (L66):=growF160
theorem sm160:Sp160 M160:=fun p0 y hy=>grow_sp160 p0 y hy
def X100:Aux:=⟨[(3,([1,2,4,5,6,7,8]++rg 12 24)),(11,([0,1,2,3,4,5]++rg 7 18++[28,29,30,31,32,33,34,35]))],[]⟩
inductive S100 where
 | l0 (v0_1:Int) (v0_3:Int) (v0_4:Int)
 | l1 (v1_1:Int) (v1_2:Int) (v1_3:L66)
abbrev C160:Type:=Int→Option (L66)
def T100 {R:Type} (B:Ops) (c160:C160) (p0:L33) (again:S100→Option R) (k:(L66)→Option R):Option S100→Option R | none=>again (.l0 0 (Nat.cast (List.length p0)) 0) | some (.l0 v0_1 v0_3 v0_4)=>cond (Ops.lt B v0_4 v0_3) (cond (Ops.inb B v0_4 (List.length p0)) (cond (Ops.lt B (IntKind.wrap .i64 (v0_1+Nat.cast (List.length (List.getD p0 (Int.toNat v0_4) (Ty.dflt ty33))))) (0)) (none) (again (.l0 (IntKind.wrap .i64 (v0_1+Nat.cast (List.length (List.getD p0 (Int.toNat v0_4) (Ty.dflt ty33))))) v0_3 (IntKind.wrap .i64 (v0_4+1))))) (none)) (ob (c160 v0_1) fun y0=>again (.l1 (Nat.cast (List.length p0)) 0 y0)) | some (.l1 v1_1 v1_2 v1_3)=>cond (Ops.lt B v1_2 v1_1) (cond (Ops.inb B v1_2 (List.length p0)) (cond (Ops.lim B (List.length v1_3+List.length (List.getD p0 (Int.toNat v1_2) (Ty.dflt ty33))) (32)) (again (.l1 v1_1 (IntKind.wrap .i64 (v1_2+1)) (v1_3++List.getD p0 (Int.toNat v1_2) (Ty.dflt ty33)))) (none)) (none)) (k v1_3)
def E100 (p0:L33):S100→List AV×Objs
 | .l0 v0_1 v0_3 v0_4=>(mk 36 [(0,.c (.list 33 ty33 p0)),(3,.c (.int .i64 v0_1)),(9,.c (.list 33 ty33 p0)),(10,.c (.int .i64 v0_3)),(11,.c (.int .i64 v0_4))],[])
 | .l1 v1_1 v1_2 v1_3=>(mk 36 [(6,.c (.own 6)),(25,.c (.list 33 ty33 p0)),(26,.c (.int .i64 v1_1)),(27,.c (.int .i64 v1_2))],[(6,.row 66 ty66 v1_3)])
def I100:S100→Nat
 | .l0 _ _ _=>0
 | .l1 _ _ _=>1
theorem eq100 {R:Type} (B:Ops) (c160:C160) (p0:L33) (k:AV→Objs→Option R) (n:Nat):afun tau B gl0 X100 (ent 160 (e160 c160) (gnil)) ow Tryz.f100 [.c (.list 33 ty33 p0)] [] k n=T100 B c160 p0 (fun s=>aloop tau B gl0 X100 (ent 160 (e160 c160) (gnil)) ow [] Tryz.f100 k (I100 s) (E100 p0 s) n) (fun y=>k (.c (.own 500)) [(500,.row 66 ty66 y)]) none:=by kernel_rfl
theorem el100 {R:Type} (B:Ops) (c160:C160) (p0:L33) (k:AV→Objs→Option R) (n:Nat):∀ s,aloop tau B gl0 X100 (ent 160 (e160 c160) (gnil)) ow [] Tryz.f100 k (I100 s) (E100 p0 s) (n+1)=T100 B c160 p0 (fun s=>aloop tau B gl0 X100 (ent 160 (e160 c160) (gnil)) ow [] Tryz.f100 k (I100 s) (E100 p0 s) n) (fun y=>k (.c (.own 500)) [(500,.row 66 ty66 y)]) (some s)
 | .l0 v0_1 v0_3 v0_4=>by kernel_rfl
 | .l1 v1_1 v1_2 v1_3=>by kernel_rfl
theorem nt100 {R R':Type} (B:Ops) (c160:C160) (p0:L33) (again:S100→Option R) (again':S100→Option R') (k0:(L66)→Option R') (k:R'→Option R) (h:∀ s,again s=ob (again' s) k):∀ s,T100 B c160 p0 again (fun y=>ob (k0 y) k) s=ob (T100 B c160 p0 again' k0 s) k
 | none=>by unfold T100;repeat' first | exact rfl | exact h _ | apply qac | (apply qah;intro)
 | some (.l0 v0_1 v0_3 v0_4)=>by unfold T100;repeat' first | exact rfl | exact h _ | apply qac | (apply qah;intro)
 | some (.l1 v1_1 v1_2 v1_3)=>by unfold T100;repeat' first | exact rfl | exact h _ | apply qac | (apply qah;intro)
def R100 (c160:C160) (p0:L33):Nat→S100→Option (L66)
 | 0,_=>none
 | n+1,s=>T100 Ops.std c160 p0 (R100 c160 p0 n) some (some s)
theorem rr100 {R:Type} (c160:C160) (p0:L33) (k:AV→Objs→Option R):∀ (n:Nat) (s:S100),aloop tau Ops.std gl0 X100 (ent 160 (e160 c160) (gnil)) ow [] Tryz.f100 k (I100 s) (E100 p0 s) n=ob (R100 c160 p0 n s) (fun y=>k (.c (.own 500)) [(500,.row 66 ty66 y)])
 | 0,s=>by cases s<;>rfl
 | n+1,s=>by rw [el100];exact nt100 Ops.std c160 p0 _ _ some (fun y=>k (.c (.own 500)) [(500,.row 66 ty66 y)]) (rr100 c160 p0 k n) (some s)
def F100 (c160:C160) (p0:L33):Option (L66):=T100 Ops.std c160 p0 (R100 c160 p0 1000000) some none
theorem fo100 {R:Type} (c160:C160) (p0:L33) (k:AV→Objs→Option R):afun tau Ops.std gl0 X100 (ent 160 (e160 c160) (gnil)) ow Tryz.f100 [.c (.list 33 ty33 p0)] [] k 1000000=ob (F100 c160 p0) (fun y=>k (.c (.own 500)) [(500,.row 66 ty66 y)]):=by rw [eq100];exact nt100 Ops.std c160 p0 _ _ some (fun y=>k (.c (.own 500)) [(500,.row 66 ty66 y)]) (rr100 c160 p0 k 1000000) none
def e100 {R:Type} (c:L33→Option (L66)):Ent R:=fun args objs k=>
 oCons args fun a0 l0=>oC a0 fun x0=>cList 33 ty33 x0 fun p0=>oNil l0 <| oNilO objs <| ob (c p0) fun y=>k (.c (.own 500)) [(500,.row 66 ty66 y)]
abbrev Sp100 (c:L33→Option (L66)):Prop:=∀ (p0:L33) (y:L66),c p0=some y→Spec Tryz.prog gl0 100 [.c (.list 33 ty33 p0)] [] (.c (.own 500)) [(500,.row 66 ty66 y)]
theorem ek100 {R:Type} {c:L33→Option (L66)} (hs:Sp100 c):EOk 100 (e100 (R:=R) c):=fun args objs k r h=>by
 unfold e100 at h
 obtain ⟨a0,l0,rfl,q1⟩:=qaa h
 obtain ⟨x0,rfl,q2⟩:=qaj q1
 obtain ⟨p0,rfl,q3⟩:=qae q2
 obtain ⟨rfl,q4⟩:=qag q3
 obtain ⟨rfl,q5⟩:=qaf q4
 exact qar (hs p0) q5
theorem sf100 {c160:C160} (h160:Sp160 c160):Sp100 (F100 c160):=fun p0 y hy=>by
 refine qap (G:=ent 160 (e160 c160) (gnil)) (qai (ek160 h160) (qao)) 1000000 (fn:=Tryz.f100) (by kernel_rfl) (by kernel_rfl) (X:=X100) (by kernel_rfl) ?_
 rw [fo100,hy]
 rfl
noncomputable def M100:L33→Option (L66):=F100 M160
theorem sm100:Sp100 M100:=sf100 sm160
def X56:Aux:=⟨[],[]⟩
abbrev C100:Type:=L33→Option (L66)
def T56 {R:Type} (B:Ops) (c100:C100) (p0:Int) (p1:L33) (k:(L66)→Option R):Option R:=ob (c100 p1) fun y0=>cond (Ops.lim B (List.length y0+List.length ((p0,mt (Ty.den ty150))::mt (Ty.den ty66))) (32)) (k (y0++(p0,mt (Ty.den ty150))::mt (Ty.den ty66))) (none)
theorem eq56 {R:Type} (B:Ops) (c100:C100) (p0:Int) (p1:L33) (k:AV→Objs→Option R) (n:Nat):afun tau B gl0 X56 (ent 100 (e100 c100) (gnil)) ow Tryz.f56 [.c (.int .i64 p0),.c (.list 33 ty33 p1)] [] k n=T56 B c100 p0 p1 (fun y=>k (.c (.own 500)) [(500,.row 66 ty66 y)]):=by kernel_rfl
theorem nt56 {R R':Type} (B:Ops) (c100:C100) (p0:Int) (p1:L33) (k0:(L66)→Option R') (k:R'→Option R):T56 B c100 p0 p1 (fun y=>ob (k0 y) k)=ob (T56 B c100 p0 p1 k0) k:=by
 unfold T56
 repeat' first | exact rfl | apply qac | (apply qah;intro)
def F56 (c100:C100) (p0:Int) (p1:L33):Option (L66):=T56 Ops.std c100 p0 p1 some
theorem fo56 {R:Type} (c100:C100) (p0:Int) (p1:L33) (k:AV→Objs→Option R) (n:Nat):afun tau Ops.std gl0 X56 (ent 100 (e100 c100) (gnil)) ow Tryz.f56 [.c (.int .i64 p0),.c (.list 33 ty33 p1)] [] k n=ob (F56 c100 p0 p1) (fun y=>k (.c (.own 500)) [(500,.row 66 ty66 y)]):=by rw [eq56];exact nt56 Ops.std c100 p0 p1 some (fun y=>k (.c (.own 500)) [(500,.row 66 ty66 y)])
def e56 {R:Type} (c:Int→L33→Option (L66)):Ent R:=fun args objs k=>
 oCons args fun a0 l0=>oC a0 fun x0=>cInt .i64 x0 fun p0=>oCons l0 fun a1 l1=>oC a1 fun x1=>cList 33 ty33 x1 fun p1=>oNil l1 <| oNilO objs <| ob (c p0 p1) fun y=>k (.c (.own 500)) [(500,.row 66 ty66 y)]
abbrev Sp56 (c:Int→L33→Option (L66)):Prop:=∀ (p0:Int) (p1:L33) (y:L66),c p0 p1=some y→Spec Tryz.prog gl0 56 [.c (.int .i64 p0),.c (.list 33 ty33 p1)] [] (.c (.own 500)) [(500,.row 66 ty66 y)]
theorem ek56 {R:Type} {c:Int→L33→Option (L66)} (hs:Sp56 c):EOk 56 (e56 (R:=R) c):=fun args objs k r h=>by
 unfold e56 at h
 obtain ⟨a0,l0,rfl,q1⟩:=qaa h
 obtain ⟨x0,rfl,q2⟩:=qaj q1
 obtain ⟨p0,rfl,q3⟩:=qal q2
 obtain ⟨a1,l1,rfl,q4⟩:=qaa q3
 obtain ⟨x1,rfl,q5⟩:=qaj q4
 obtain ⟨p1,rfl,q6⟩:=qae q5
 obtain ⟨rfl,q7⟩:=qag q6
 obtain ⟨rfl,q8⟩:=qaf q7
 exact qar (hs p0 p1) q8
theorem sf56 {c100:C100} (h100:Sp100 c100):Sp56 (F56 c100):=fun p0 p1 y hy=>by
 refine qap (G:=ent 100 (e100 c100) (gnil)) (qai (ek100 h100) (qao)) 1000000 (fn:=Tryz.f56) (by kernel_rfl) (by kernel_rfl) (X:=X56) (by kernel_rfl) ?_
 rw [fo56,hy]
 rfl
noncomputable def M56:Int→L33→Option (L66):=F56 M100
theorem sm56:Sp56 M56:=sf56 sm100
def X53:Aux:=⟨[(2000000,[])],[]⟩
abbrev C55:Type:=L66→Int→Option (Bool)
abbrev C98:Type:=L66→L66→Option (Bool)
abbrev C56:Type:=Int→L33→Option (L66)
def T53 {R:Type} (B:Ops) (c55:C55) (c98:C98) (c56:C56) (p0:Int) (p1:L66) (p2:L66) (k:(L66)→Option R):Option R:=cond (Ops.eq B p0 (6)) (ob (c55 p1 (2)) fun y0=>cond (y0) (k p2) (ob (c55 p2 (2)) fun y1=>cond (y1) (k p1) (ob (c55 p1 (1)) fun y2=>cond (y2) (k ((1,mt (Ty.den ty150))::mt (Ty.den ty66))) (ob (c55 p2 (1)) fun y3=>cond (y3) (k ((1,mt (Ty.den ty150))::mt (Ty.den ty66))) (ob (c98 p1 p2) fun y4=>cond (y4) (k p1) (ob (c56 p0 (p1::p2::mt (Ty.den ty33))) fun y5=>k y5)))))) (ob (c55 p1 (1)) fun y0=>cond (y0) (k p2) (ob (c55 p2 (1)) fun y1=>cond (y1) (k p1) (ob (c55 p1 (2)) fun y2=>cond (y2) (k ((2,mt (Ty.den ty150))::mt (Ty.den ty66))) (ob (c55 p2 (2)) fun y3=>cond (y3) (k ((2,mt (Ty.den ty150))::mt (Ty.den ty66))) (ob (c98 p1 p2) fun y4=>cond (y4) (k p1) (ob (c56 p0 (p1::p2::mt (Ty.den ty33))) fun y5=>k y5))))))
theorem eq53 {R:Type} (B:Ops) (c55:C55) (c98:C98) (c56:C56) (p0:Int) (p1:L66) (p2:L66) (k:AV→Objs→Option R) (n:Nat):afun tau B gl0 X53 (ent 55 (e55 c55) (ent 98 (e98 c98) (ent 56 (e56 c56) (gnil)))) ow Tryz.f53 [.c (.int .i64 p0),.c (.list 66 ty66 p1),.c (.list 66 ty66 p2)] [] k n=T53 B c55 c98 c56 p0 p1 p2 (fun y=>k (.c (.list 66 ty66 y)) []):=by kernel_rfl
theorem nt53 {R R':Type} (B:Ops) (c55:C55) (c98:C98) (c56:C56) (p0:Int) (p1:L66) (p2:L66) (k0:(L66)→Option R') (k:R'→Option R):T53 B c55 c98 c56 p0 p1 p2 (fun y=>ob (k0 y) k)=ob (T53 B c55 c98 c56 p0 p1 p2 k0) k:=by
 unfold T53
 repeat' first | exact rfl | apply qac | (apply qah;intro)
def F53 (c55:C55) (c98:C98) (c56:C56) (p0:Int) (p1:L66) (p2:L66):Option (L66):=T53 Ops.std c55 c98 c56 p0 p1 p2 some
theorem fo53 {R:Type} (c55:C55) (c98:C98) (c56:C56) (p0:Int) (p1:L66) (p2:L66) (k:AV→Objs→Option R) (n:Nat):afun tau Ops.std gl0 X53 (ent 55 (e55 c55) (ent 98 (e98 c98) (ent 56 (e56 c56) (gnil)))) ow Tryz.f53 [.c (.int .i64 p0),.c (.list 66 ty66 p1),.c (.list 66 ty66 p2)] [] k n=ob (F53 c55 c98 c56 p0 p1 p2) (fun y=>k (.c (.list 66 ty66 y)) []):=by rw [eq53];exact nt53 Ops.std c55 c98 c56 p0 p1 p2 some (fun y=>k (.c (.list 66 ty66 y)) [])
def e53 {R:Type} (c:Int→L66→L66→Option (L66)):Ent R:=fun args objs k=>
 oCons args fun a0 l0=>oC a0 fun x0=>cInt .i64 x0 fun p0=>oCons l0 fun a1 l1=>oC a1 fun x1=>cList 66 ty66 x1 fun p1=>oCons l1 fun a2 l2=>oC a2 fun x2=>cList 66 ty66 x2 fun p2=>oNil l2 <| oNilO objs <| ob (c p0 p1 p2) fun y=>k (.c (.list 66 ty66 y)) []
abbrev Sp53 (c:Int→L66→L66→Option (L66)):Prop:=∀ (p0:Int) (p1:L66) (p2:L66) (y:L66),c p0 p1 p2=some y→Spec Tryz.prog gl0 53 [.c (.int .i64 p0),.c (.list 66 ty66 p1),.c (.list 66 ty66 p2)] [] (.c (.list 66 ty66 y)) []
theorem ek53 {R:Type} {c:Int→L66→L66→Option (L66)} (hs:Sp53 c):EOk 53 (e53 (R:=R) c):=fun args objs k r h=>by
 unfold e53 at h
 obtain ⟨a0,l0,rfl,q1⟩:=qaa h
 obtain ⟨x0,rfl,q2⟩:=qaj q1
 obtain ⟨p0,rfl,q3⟩:=qal q2
 obtain ⟨a1,l1,rfl,q4⟩:=qaa q3
 obtain ⟨x1,rfl,q5⟩:=qaj q4
 obtain ⟨p1,rfl,q6⟩:=qae q5
 obtain ⟨a2,l2,rfl,q7⟩:=qaa q6
 obtain ⟨x2,rfl,q8⟩:=qaj q7
 obtain ⟨p2,rfl,q9⟩:=qae q8
 obtain ⟨rfl,q10⟩:=qag q9
 obtain ⟨rfl,q11⟩:=qaf q10
 exact qar (hs p0 p1 p2) q11
theorem sf53 {c55:C55} {c98:C98} {c56:C56} (h55:Sp55 c55) (h98:Sp98 c98) (h56:Sp56 c56):Sp53 (F53 c55 c98 c56):=fun p0 p1 p2 y hy=>by
 refine qap (G:=ent 55 (e55 c55) (ent 98 (e98 c98) (ent 56 (e56 c56) (gnil)))) (qai (ek55 h55) (qai (ek98 h98) (qai (ek56 h56) (qao)))) 1000000 (fn:=Tryz.f53) (by kernel_rfl) (by kernel_rfl) (X:=X53) (by kernel_rfl) ?_
 rw [fo53,hy]
 rfl
noncomputable def M53:Int→L66→L66→Option (L66):=F53 M55 M98 M56
theorem sm53:Sp53 M53:=sf53 sm55 sm98 sm56
def X99:Aux:=⟨[],[]⟩
def T99 {R:Type} (B:Ops) (c52:C52) (c98:C98) (p0:Int) (p1:L66) (p2:L66) (k:(Bool)→Option R):Option R:=ob (c52 p2) fun y0=>cond (Ops.inb B (IntKind.wrap .i64 (Nat.cast (List.length p2)-1)) (List.length p2)) (cond (Ops.eq B ((List.getD p2 (Int.toNat (IntKind.wrap .i64 (Nat.cast (List.length p2)-1))) (Ty.dflt ty66)).1) p0) (cond (Ops.inb B (IntKind.wrap .i64 (Nat.cast (List.length p2)-1)) (List.length y0)) (cond (Ops.inb B (0) (List.length (List.getD y0 (Int.toNat (IntKind.wrap .i64 (Nat.cast (List.length p2)-1))) (Ty.dflt ty22)))) (cond (Ops.inb B (IntKind.wrap .i64 (List.getD (List.getD y0 (Int.toNat (IntKind.wrap .i64 (Nat.cast (List.length p2)-1))) (Ty.dflt ty22)) (Int.toNat (0)) (Ty.dflt (Ty.int .i64))+1)) (List.length p2+1)) (ob (c98 (List.drop (0) (List.take (Int.toNat (IntKind.wrap .i64 (List.getD (List.getD y0 (Int.toNat (IntKind.wrap .i64 (Nat.cast (List.length p2)-1))) (Ty.dflt ty22)) (Int.toNat (0)) (Ty.dflt (Ty.int .i64))+1))) p2)) p1) fun y1=>k y1) (none)) (none)) (none)) (k false)) (none)
theorem eq99 {R:Type} (B:Ops) (c52:C52) (c98:C98) (p0:Int) (p1:L66) (p2:L66) (k:AV→Objs→Option R) (n:Nat):afun tau B gl0 X99 (ent 52 (e52 c52) (ent 98 (e98 c98) (gnil))) ow Tryz.f99 [.c (.int .i64 p0),.c (.list 66 ty66 p1),.c (.list 66 ty66 p2)] [] k n=T99 B c52 c98 p0 p1 p2 (fun y=>k (.c (.bool y)) []):=by kernel_rfl
theorem nt99 {R R':Type} (B:Ops) (c52:C52) (c98:C98) (p0:Int) (p1:L66) (p2:L66) (k0:(Bool)→Option R') (k:R'→Option R):T99 B c52 c98 p0 p1 p2 (fun y=>ob (k0 y) k)=ob (T99 B c52 c98 p0 p1 p2 k0) k:=by
 unfold T99
 repeat' first | exact rfl | apply qac | (apply qah;intro)
def F99 (c52:C52) (c98:C98) (p0:Int) (p1:L66) (p2:L66):Option (Bool):=T99 Ops.std c52 c98 p0 p1 p2 some
theorem fo99 {R:Type} (c52:C52) (c98:C98) (p0:Int) (p1:L66) (p2:L66) (k:AV→Objs→Option R) (n:Nat):afun tau Ops.std gl0 X99 (ent 52 (e52 c52) (ent 98 (e98 c98) (gnil))) ow Tryz.f99 [.c (.int .i64 p0),.c (.list 66 ty66 p1),.c (.list 66 ty66 p2)] [] k n=ob (F99 c52 c98 p0 p1 p2) (fun y=>k (.c (.bool y)) []):=by rw [eq99];exact nt99 Ops.std c52 c98 p0 p1 p2 some (fun y=>k (.c (.bool y)) [])
def e99 {R:Type} (c:Int→L66→L66→Option (Bool)):Ent R:=fun args objs k=>
 oCons args fun a0 l0=>oC a0 fun x0=>cInt .i64 x0 fun p0=>oCons l0 fun a1 l1=>oC a1 fun x1=>cList 66 ty66 x1 fun p1=>oCons l1 fun a2 l2=>oC a2 fun x2=>cList 66 ty66 x2 fun p2=>oNil l2 <| oNilO objs <| ob (c p0 p1 p2) fun y=>k (.c (.bool y)) []
abbrev Sp99 (c:Int→L66→L66→Option (Bool)):Prop:=∀ (p0:Int) (p1:L66) (p2:L66) (y:Bool),c p0 p1 p2=some y→Spec Tryz.prog gl0 99 [.c (.int .i64 p0),.c (.list 66 ty66 p1),.c (.list 66 ty66 p2)] [] (.c (.bool y)) []
theorem ek99 {R:Type} {c:Int→L66→L66→Option (Bool)} (hs:Sp99 c):EOk 99 (e99 (R:=R) c):=fun args objs k r h=>by
 unfold e99 at h
 obtain ⟨a0,l0,rfl,q1⟩:=qaa h
 obtain ⟨x0,rfl,q2⟩:=qaj q1
 obtain ⟨p0,rfl,q3⟩:=qal q2
 obtain ⟨a1,l1,rfl,q4⟩:=qaa q3
 obtain ⟨x1,rfl,q5⟩:=qaj q4
 obtain ⟨p1,rfl,q6⟩:=qae q5
 obtain ⟨a2,l2,rfl,q7⟩:=qaa q6
 obtain ⟨x2,rfl,q8⟩:=qaj q7
 obtain ⟨p2,rfl,q9⟩:=qae q8
 obtain ⟨rfl,q10⟩:=qag q9
 obtain ⟨rfl,q11⟩:=qaf q10
 exact qar (hs p0 p1 p2) q11
theorem sf99 {c52:C52} {c98:C98} (h52:Sp52 c52) (h98:Sp98 c98):Sp99 (F99 c52 c98):=fun p0 p1 p2 y hy=>by
 refine qap (G:=ent 52 (e52 c52) (ent 98 (e98 c98) (gnil))) (qai (ek52 h52) (qai (ek98 h98) (qao))) 1000000 (fn:=Tryz.f99) (by kernel_rfl) (by kernel_rfl) (X:=X99) (by kernel_rfl) ?_
 rw [fo99,hy]
 rfl
noncomputable def M99:Int→L66→L66→Option (Bool):=F99 M52 M98
theorem sm99:Sp99 M99:=sf99 sm52 sm98
def X54:Aux:=⟨[(2000000,[])],[]⟩
abbrev C99:Type:=Int→L66→L66→Option (Bool)
def T54 {R:Type} (B:Ops) (c55:C55) (c98:C98) (c99:C99) (c56:C56) (p0:Int) (p1:L66) (p2:L66) (k:(L66)→Option R):Option R:=cond (Ops.eq B p0 (10)) (ob (c55 p2 (1)) fun y0=>cond (y0) (k p2) (ob (c55 p2 (2)) fun y1=>cond (y1) (k p2) (ob (c55 p1 (1)) fun y2=>cond (y2) (k p2) (ob (c98 p1 p2) fun y3=>cond (y3) (k p2) (ob (c99 p0 p1 p2) fun y4=>cond (y4) (k p2) (ob (c56 p0 (p1::p2::mt (Ty.den ty33))) fun y5=>k y5)))))) (ob (c55 p2 (1)) fun y0=>cond (y0) (k p2) (ob (c55 p2 (2)) fun y1=>cond (y1) (k p2) (ob (c55 p1 (2)) fun y2=>cond (y2) (k p2) (ob (c98 p1 p2) fun y3=>cond (y3) (k p2) (ob (c99 p0 p1 p2) fun y4=>cond (y4) (k p2) (ob (c56 p0 (p1::p2::mt (Ty.den ty33))) fun y5=>k y5))))))
theorem eq54 {R:Type} (B:Ops) (c55:C55) (c98:C98) (c99:C99) (c56:C56) (p0:Int) (p1:L66) (p2:L66) (k:AV→Objs→Option R) (n:Nat):afun tau B gl0 X54 (ent 55 (e55 c55) (ent 98 (e98 c98) (ent 99 (e99 c99) (ent 56 (e56 c56) (gnil))))) ow Tryz.f54 [.c (.int .i64 p0),.c (.list 66 ty66 p1),.c (.list 66 ty66 p2)] [] k n=T54 B c55 c98 c99 c56 p0 p1 p2 (fun y=>k (.c (.list 66 ty66 y)) []):=by kernel_rfl
theorem nt54 {R R':Type} (B:Ops) (c55:C55) (c98:C98) (c99:C99) (c56:C56) (p0:Int) (p1:L66) (p2:L66) (k0:(L66)→Option R') (k:R'→Option R):T54 B c55 c98 c99 c56 p0 p1 p2 (fun y=>ob (k0 y) k)=ob (T54 B c55 c98 c99 c56 p0 p1 p2 k0) k:=by
 unfold T54
 repeat' first | exact rfl | apply qac | (apply qah;intro)
def F54 (c55:C55) (c98:C98) (c99:C99) (c56:C56) (p0:Int) (p1:L66) (p2:L66):Option (L66):=T54 Ops.std c55 c98 c99 c56 p0 p1 p2 some
theorem fo54 {R:Type} (c55:C55) (c98:C98) (c99:C99) (c56:C56) (p0:Int) (p1:L66) (p2:L66) (k:AV→Objs→Option R) (n:Nat):afun tau Ops.std gl0 X54 (ent 55 (e55 c55) (ent 98 (e98 c98) (ent 99 (e99 c99) (ent 56 (e56 c56) (gnil))))) ow Tryz.f54 [.c (.int .i64 p0),.c (.list 66 ty66 p1),.c (.list 66 ty66 p2)] [] k n=ob (F54 c55 c98 c99 c56 p0 p1 p2) (fun y=>k (.c (.list 66 ty66 y)) []):=by rw [eq54];exact nt54 Ops.std c55 c98 c99 c56 p0 p1 p2 some (fun y=>k (.c (.list 66 ty66 y)) [])
def e54 {R:Type} (c:Int→L66→L66→Option (L66)):Ent R:=fun args objs k=>
 oCons args fun a0 l0=>oC a0 fun x0=>cInt .i64 x0 fun p0=>oCons l0 fun a1 l1=>oC a1 fun x1=>cList 66 ty66 x1 fun p1=>oCons l1 fun a2 l2=>oC a2 fun x2=>cList 66 ty66 x2 fun p2=>oNil l2 <| oNilO objs <| ob (c p0 p1 p2) fun y=>k (.c (.list 66 ty66 y)) []
abbrev Sp54 (c:Int→L66→L66→Option (L66)):Prop:=∀ (p0:Int) (p1:L66) (p2:L66) (y:L66),c p0 p1 p2=some y→Spec Tryz.prog gl0 54 [.c (.int .i64 p0),.c (.list 66 ty66 p1),.c (.list 66 ty66 p2)] [] (.c (.list 66 ty66 y)) []
theorem ek54 {R:Type} {c:Int→L66→L66→Option (L66)} (hs:Sp54 c):EOk 54 (e54 (R:=R) c):=fun args objs k r h=>by
 unfold e54 at h
 obtain ⟨a0,l0,rfl,q1⟩:=qaa h
 obtain ⟨x0,rfl,q2⟩:=qaj q1
 obtain ⟨p0,rfl,q3⟩:=qal q2
 obtain ⟨a1,l1,rfl,q4⟩:=qaa q3
 obtain ⟨x1,rfl,q5⟩:=qaj q4
 obtain ⟨p1,rfl,q6⟩:=qae q5
 obtain ⟨a2,l2,rfl,q7⟩:=qaa q6
 obtain ⟨x2,rfl,q8⟩:=qaj q7
 obtain ⟨p2,rfl,q9⟩:=qae q8
 obtain ⟨rfl,q10⟩:=qag q9
 obtain ⟨rfl,q11⟩:=qaf q10
 exact qar (hs p0 p1 p2) q11
theorem sf54 {c55:C55} {c98:C98} {c99:C99} {c56:C56} (h55:Sp55 c55) (h98:Sp98 c98) (h99:Sp99 c99) (h56:Sp56 c56):Sp54 (F54 c55 c98 c99 c56):=fun p0 p1 p2 y hy=>by
 refine qap (G:=ent 55 (e55 c55) (ent 98 (e98 c98) (ent 99 (e99 c99) (ent 56 (e56 c56) (gnil))))) (qai (ek55 h55) (qai (ek98 h98) (qai (ek99 h99) (qai (ek56 h56) (qao))))) 1000000 (fn:=Tryz.f54) (by kernel_rfl) (by kernel_rfl) (X:=X54) (by kernel_rfl) ?_
 rw [fo54,hy]
 rfl
noncomputable def M54:Int→L66→L66→Option (L66):=F54 M55 M98 M99 M56
theorem sm54:Sp54 M54:=sf54 sm55 sm98 sm99 sm56
def e101 {R:Type} (c:L66→Option (L66)):Ent R:=fun args objs k=>
 oCons args fun a0 l0=>oC a0 fun x0=>cList 66 ty66 x0 fun p0=>oNil l0 <| oNilO objs <| ob (c p0) fun y=>k (.c (.own 500)) [(500,.row 66 ty66 y)]
abbrev Sp101 (c:L66→Option (L66)):Prop:=∀ (p0:L66) (y:L66),c p0=some y→Spec Tryz.prog gl0 101 [.c (.list 66 ty66 p0)] [] (.c (.own 500)) [(500,.row 66 ty66 y)]
theorem ek101 {R:Type} {c:L66→Option (L66)} (hs:Sp101 c):EOk 101 (e101 (R:=R) c):=fun args objs k r h=>by
 unfold e101 at h
 obtain ⟨a0,l0,rfl,q1⟩:=qaa h
 obtain ⟨x0,rfl,q2⟩:=qaj q1
 obtain ⟨p0,rfl,q3⟩:=qae q2
 obtain ⟨rfl,q4⟩:=qag q3
 obtain ⟨rfl,q5⟩:=qaf q4
 exact qar (hs p0) q5
def M101:L66→Option (L66):=cloneF (t:=ty66) 32
theorem sm101:Sp101 M101:=by
 have h:∀ (B:Ops) (xs:List (Ty.den ty66)) (k:AV→Objs→Option AO),afun tau B gl0 X0 gnil ow Tryz.f101 [.c (.list 66 ty66 xs)] [] k 1=cloneT B 66 32 ty66 xs k:=fun B xs k=>by kernel_rfl
 refine clone_sp (fun xs v o h0=>?_) fun b=>?_
 ·exact qap (G:=gnil) qao 1 (fn:=Tryz.f101) (by kernel_rfl) (by kernel_rfl) (X:=X0) (by kernel_rfl) ((h _ _ _).trans h0)
 ·cases b<;>exact qap (G:=gnil) qao 1 (fn:=Tryz.f101) (by kernel_rfl) (by kernel_rfl) (X:=X0) (by kernel_rfl) (by kernel_rfl)
def e102 {R:Type} (c:L150→Option (L150)):Ent R:=fun args objs k=>
 oCons args fun a0 l0=>oC a0 fun x0=>cList 150 ty150 x0 fun p0=>oNil l0 <| oNilO objs <| ob (c p0) fun y=>k (.c (.own 500)) [(500,.row 150 ty150 y)]
abbrev Sp102 (c:L150→Option (L150)):Prop:=∀ (p0:L150) (y:L150),c p0=some y→Spec Tryz.prog gl0 102 [.c (.list 150 ty150 p0)] [] (.c (.own 500)) [(500,.row 150 ty150 y)]
theorem ek102 {R:Type} {c:L150→Option (L150)} (hs:Sp102 c):EOk 102 (e102 (R:=R) c):=fun args objs k r h=>by
 unfold e102 at h
 obtain ⟨a0,l0,rfl,q1⟩:=qaa h
 obtain ⟨x0,rfl,q2⟩:=qaj q1
 obtain ⟨p0,rfl,q3⟩:=qae q2
 obtain ⟨rfl,q4⟩:=qag q3
 obtain ⟨rfl,q5⟩:=qaf q4
 exact qar (hs p0) q5
def M102:L150→Option (L150):=cloneF (t:=ty150) 48
theorem sm102:Sp102 M102:=by
 have h:∀ (B:Ops) (xs:List (Ty.den ty150)) (k:AV→Objs→Option AO),afun tau B gl0 X0 gnil ow Tryz.f102 [.c (.list 150 ty150 xs)] [] k 1=cloneT B 150 48 ty150 xs k:=fun B xs k=>by kernel_rfl
 refine clone_sp (fun xs v o h0=>?_) fun b=>?_
 ·exact qap (G:=gnil) qao 1 (fn:=Tryz.f102) (by kernel_rfl) (by kernel_rfl) (X:=X0) (by kernel_rfl) ((h _ _ _).trans h0)
 ·cases b<;>exact qap (G:=gnil) qao 1 (fn:=Tryz.f102) (by kernel_rfl) (by kernel_rfl) (X:=X0) (by kernel_rfl) (by kernel_rfl)
def X57:Aux:=⟨[(3,([0,1,2,4,5,6,7]++rg 11 13))],[]⟩
inductive S57 where
 | l0 (v0_0:Int) (v0_1:Int) (v0_2:L66)
abbrev C101:Type:=L66→Option (L66)
abbrev C102:Type:=L150→Option (L150)
def T57 {R:Type} (B:Ops) (c101:C101) (c102:C102) (p0:L66) (again:S57→Option R) (k:(L66)→Option R):Option S57→Option R | none=>ob (c101 p0) fun y0=>again (.l0 (Nat.cast (List.length y0)) 0 y0) | some (.l0 v0_0 v0_1 v0_2)=>cond (Ops.lt B v0_1 v0_0) (cond (Ops.inb B v0_1 (List.length v0_2)) (ob (c102 ((List.getD v0_2 (Int.toNat v0_1) (Ty.dflt ty66)).2)) fun y0=>cond (Ops.inb B v0_1 (List.length v0_2)) (again (.l0 v0_0 (IntKind.wrap .i64 (v0_1+1)) (List.set v0_2 (Int.toNat v0_1) ((List.getD v0_2 (Int.toNat v0_1) (Ty.dflt ty66)).1,y0)))) (none)) (none)) (k v0_2)
def E57 (p0:L66):S57→List AV×Objs
 | .l0 v0_0 v0_1 v0_2=>(mk 24 [(3,.c (.own 3)),(8,.c (.own 3)),(9,.c (.int .i64 v0_0)),(10,.c (.int .i64 v0_1))],[(3,.row 66 ty66 v0_2)])
def I57:S57→Nat
 | .l0 _ _ _=>0
theorem eq57 {R:Type} (B:Ops) (c101:C101) (c102:C102) (p0:L66) (k:AV→Objs→Option R) (n:Nat):afun tau B gl0 X57 (ent 101 (e101 c101) (ent 102 (e102 c102) (gnil))) ow Tryz.f57 [.c (.list 66 ty66 p0)] [] k n=T57 B c101 c102 p0 (fun s=>aloop tau B gl0 X57 (ent 101 (e101 c101) (ent 102 (e102 c102) (gnil))) ow [] Tryz.f57 k (I57 s) (E57 p0 s) n) (fun y=>k (.c (.own 500)) [(500,.row 66 ty66 y)]) none:=by kernel_rfl
theorem el57 {R:Type} (B:Ops) (c101:C101) (c102:C102) (p0:L66) (k:AV→Objs→Option R) (n:Nat):∀ s,aloop tau B gl0 X57 (ent 101 (e101 c101) (ent 102 (e102 c102) (gnil))) ow [] Tryz.f57 k (I57 s) (E57 p0 s) (n+1)=T57 B c101 c102 p0 (fun s=>aloop tau B gl0 X57 (ent 101 (e101 c101) (ent 102 (e102 c102) (gnil))) ow [] Tryz.f57 k (I57 s) (E57 p0 s) n) (fun y=>k (.c (.own 500)) [(500,.row 66 ty66 y)]) (some s)
 | .l0 v0_0 v0_1 v0_2=>by kernel_rfl
theorem nt57 {R R':Type} (B:Ops) (c101:C101) (c102:C102) (p0:L66) (again:S57→Option R) (again':S57→Option R') (k0:(L66)→Option R') (k:R'→Option R) (h:∀ s,again s=ob (again' s) k):∀ s,T57 B c101 c102 p0 again (fun y=>ob (k0 y) k) s=ob (T57 B c101 c102 p0 again' k0 s) k
 | none=>by unfold T57;repeat' first | exact rfl | exact h _ | apply qac | (apply qah;intro)
 | some (.l0 v0_0 v0_1 v0_2)=>by unfold T57;repeat' first | exact rfl | exact h _ | apply qac | (apply qah;intro)
def R57 (c101:C101) (c102:C102) (p0:L66):Nat→S57→Option (L66)
 | 0,_=>none
 | n+1,s=>T57 Ops.std c101 c102 p0 (R57 c101 c102 p0 n) some (some s)
theorem rr57 {R:Type} (c101:C101) (c102:C102) (p0:L66) (k:AV→Objs→Option R):∀ (n:Nat) (s:S57),aloop tau Ops.std gl0 X57 (ent 101 (e101 c101) (ent 102 (e102 c102) (gnil))) ow [] Tryz.f57 k (I57 s) (E57 p0 s) n=ob (R57 c101 c102 p0 n s) (fun y=>k (.c (.own 500)) [(500,.row 66 ty66 y)])
 | 0,s=>by cases s<;>rfl
 | n+1,s=>by rw [el57];exact nt57 Ops.std c101 c102 p0 _ _ some (fun y=>k (.c (.own 500)) [(500,.row 66 ty66 y)]) (rr57 c101 c102 p0 k n) (some s)
def F57 (c101:C101) (c102:C102) (p0:L66):Option (L66):=T57 Ops.std c101 c102 p0 (R57 c101 c102 p0 1000000) some none
theorem fo57 {R:Type} (c101:C101) (c102:C102) (p0:L66) (k:AV→Objs→Option R):afun tau Ops.std gl0 X57 (ent 101 (e101 c101) (ent 102 (e102 c102) (gnil))) ow Tryz.f57 [.c (.list 66 ty66 p0)] [] k 1000000=ob (F57 c101 c102 p0) (fun y=>k (.c (.own 500)) [(500,.row 66 ty66 y)]):=by rw [eq57];exact nt57 Ops.std c101 c102 p0 _ _ some (fun y=>k (.c (.own 500)) [(500,.row 66 ty66 y)]) (rr57 c101 c102 p0 k 1000000) none
def e57 {R:Type} (c:L66→Option (L66)):Ent R:=fun args objs k=>
 oCons args fun a0 l0=>oC a0 fun x0=>cList 66 ty66 x0 fun p0=>oNil l0 <| oNilO objs <| ob (c p0) fun y=>k (.c (.own 500)) [(500,.row 66 ty66 y)]
abbrev Sp57 (c:L66→Option (L66)):Prop:=∀ (p0:L66) (y:L66),c p0=some y→Spec Tryz.prog gl0 57 [.c (.list 66 ty66 p0)] [] (.c (.own 500)) [(500,.row 66 ty66 y)]
theorem ek57 {R:Type} {c:L66→Option (L66)} (hs:Sp57 c):EOk 57 (e57 (R:=R) c):=fun args objs k r h=>by
 unfold e57 at h
 obtain ⟨a0,l0,rfl,q1⟩:=qaa h
 obtain ⟨x0,rfl,q2⟩:=qaj q1
 obtain ⟨p0,rfl,q3⟩:=qae q2
 obtain ⟨rfl,q4⟩:=qag q3
 obtain ⟨rfl,q5⟩:=qaf q4
 exact qar (hs p0) q5
theorem sf57 {c101:C101} {c102:C102} (h101:Sp101 c101) (h102:Sp102 c102):Sp57 (F57 c101 c102):=fun p0 y hy=>by
 refine qap (G:=ent 101 (e101 c101) (ent 102 (e102 c102) (gnil))) (qai (ek101 h101) (qai (ek102 h102) (qao))) 1000000 (fn:=Tryz.f57) (by kernel_rfl) (by kernel_rfl) (X:=X57) (by kernel_rfl) ?_
 rw [fo57,hy]
 rfl
noncomputable def M57:L66→Option (L66):=F57 M101 M102
theorem sm57:Sp57 M57:=sf57 sm101 sm102
def X17:Aux:=⟨[(5,([1,2,4,5,6,7,8,9,10]++rg 14 119)),(1000017,([1,2,4,5,6,7,8,9,10]++rg 14 119))],[(10,.lin (rg 0 18)),(12,.lin (rg 0 18))]⟩
inductive S17 where
 | l0 (v0_1:Int) (v0_2:Int) (v0_3:L33) (v0_4:L22)
 | l1017 (v1017_1:Int) (v1017_2:Int) (v1017_3:L33) (v1017_4:L22)
abbrev C51:Type:=L66→Option (Bool)
abbrev C53:Type:=Int→L66→L66→Option (L66)
abbrev C54:Type:=Int→L66→L66→Option (L66)
abbrev C57:Type:=L66→Option (L66)
def T17 {R:Type} (B:Ops) (c51:C51) (c52:C52) (c53:C53) (c54:C54) (c55:C55) (c56:C56) (c57:C57) (p0:L66) (again:S17→Option R) (k:(L66)→Option R):Option S17→Option R | none=>ob (c51 p0) fun y0=>cond (!y0) (k (mt (Ty.den ty66))) (ob (c52 p0) fun y1=>again (.l0 (Nat.cast (List.length y1)) 0 (mt (Ty.den ty33)) y1)) | some (.l0 v0_1 v0_2 v0_3 v0_4)=>cond (Ops.lt B v0_2 v0_1) (cond (Ops.inb B v0_2 (List.length v0_4)) (cond (Ops.inb B v0_2 (List.length p0)) (cond (Ops.eq B ((List.getD p0 (Int.toNat v0_2) (Ty.dflt ty66)).1) (5)) (cond (Ops.inb B (0) (List.length (List.getD v0_4 (Int.toNat v0_2) (Ty.dflt ty22)))) (cond (Ops.inb B (List.getD (List.getD v0_4 (Int.toNat v0_2) (Ty.dflt ty22)) (Int.toNat (0)) (Ty.dflt (Ty.int .i64))) (List.length v0_3)) (cond (Ops.inb B (1) (List.length (List.getD v0_4 (Int.toNat v0_2) (Ty.dflt ty22)))) (cond (Ops.inb B (List.getD (List.getD v0_4 (Int.toNat v0_2) (Ty.dflt ty22)) (Int.toNat (1)) (Ty.dflt (Ty.int .i64))) (List.length v0_3)) (ob (c53 ((List.getD p0 (Int.toNat v0_2) (Ty.dflt ty66)).1) (List.getD v0_3 (Int.toNat (List.getD (List.getD v0_4 (Int.toNat v0_2) (Ty.dflt ty22)) (Int.toNat (0)) (Ty.dflt (Ty.int .i64)))) (Ty.dflt ty33)) (List.getD v0_3 (Int.toNat (List.getD (List.getD v0_4 (Int.toNat v0_2) (Ty.dflt ty22)) (Int.toNat (1)) (Ty.dflt (Ty.int .i64)))) (Ty.dflt ty33))) fun y0=>cond (Ops.lim B (List.length v0_3+List.length (y0::mt (Ty.den ty33))) (24)) (again (.l1017 v0_1 v0_2 (v0_3++y0::mt (Ty.den ty33)) v0_4)) (none)) (none)) (none)) (none)) (none)) (cond (Ops.eq B ((List.getD p0 (Int.toNat v0_2) (Ty.dflt ty66)).1) (6)) (cond (Ops.inb B (0) (List.length (List.getD v0_4 (Int.toNat v0_2) (Ty.dflt ty22)))) (cond (Ops.inb B (List.getD (List.getD v0_4 (Int.toNat v0_2) (Ty.dflt ty22)) (Int.toNat (0)) (Ty.dflt (Ty.int .i64))) (List.length v0_3)) (cond (Ops.inb B (1) (List.length (List.getD v0_4 (Int.toNat v0_2) (Ty.dflt ty22)))) (cond (Ops.inb B (List.getD (List.getD v0_4 (Int.toNat v0_2) (Ty.dflt ty22)) (Int.toNat (1)) (Ty.dflt (Ty.int .i64))) (List.length v0_3)) (ob (c53 ((List.getD p0 (Int.toNat v0_2) (Ty.dflt ty66)).1) (List.getD v0_3 (Int.toNat (List.getD (List.getD v0_4 (Int.toNat v0_2) (Ty.dflt ty22)) (Int.toNat (0)) (Ty.dflt (Ty.int .i64)))) (Ty.dflt ty33)) (List.getD v0_3 (Int.toNat (List.getD (List.getD v0_4 (Int.toNat v0_2) (Ty.dflt ty22)) (Int.toNat (1)) (Ty.dflt (Ty.int .i64)))) (Ty.dflt ty33))) fun y0=>cond (Ops.lim B (List.length v0_3+List.length (y0::mt (Ty.den ty33))) (24)) (again (.l1017 v0_1 v0_2 (v0_3++y0::mt (Ty.den ty33)) v0_4)) (none)) (none)) (none)) (none)) (none)) (cond (Ops.eq B ((List.getD p0 (Int.toNat v0_2) (Ty.dflt ty66)).1) (9)) (cond (Ops.inb B (0) (List.length (List.getD v0_4 (Int.toNat v0_2) (Ty.dflt ty22)))) (cond (Ops.inb B (List.getD (List.getD v0_4 (Int.toNat v0_2) (Ty.dflt ty22)) (Int.toNat (0)) (Ty.dflt (Ty.int .i64))) (List.length v0_3)) (cond (Ops.inb B (1) (List.length (List.getD v0_4 (Int.toNat v0_2) (Ty.dflt ty22)))) (cond (Ops.inb B (List.getD (List.getD v0_4 (Int.toNat v0_2) (Ty.dflt ty22)) (Int.toNat (1)) (Ty.dflt (Ty.int .i64))) (List.length v0_3)) (ob (c54 ((List.getD p0 (Int.toNat v0_2) (Ty.dflt ty66)).1) (List.getD v0_3 (Int.toNat (List.getD (List.getD v0_4 (Int.toNat v0_2) (Ty.dflt ty22)) (Int.toNat (0)) (Ty.dflt (Ty.int .i64)))) (Ty.dflt ty33)) (List.getD v0_3 (Int.toNat (List.getD (List.getD v0_4 (Int.toNat v0_2) (Ty.dflt ty22)) (Int.toNat (1)) (Ty.dflt (Ty.int .i64)))) (Ty.dflt ty33))) fun y0=>cond (Ops.lim B (List.length v0_3+List.length (y0::mt (Ty.den ty33))) (24)) (again (.l1017 v0_1 v0_2 (v0_3++y0::mt (Ty.den ty33)) v0_4)) (none)) (none)) (none)) (none)) (none)) (cond (Ops.eq B ((List.getD p0 (Int.toNat v0_2) (Ty.dflt ty66)).1) (10)) (cond (Ops.inb B (0) (List.length (List.getD v0_4 (Int.toNat v0_2) (Ty.dflt ty22)))) (cond (Ops.inb B (List.getD (List.getD v0_4 (Int.toNat v0_2) (Ty.dflt ty22)) (Int.toNat (0)) (Ty.dflt (Ty.int .i64))) (List.length v0_3)) (cond (Ops.inb B (1) (List.length (List.getD v0_4 (Int.toNat v0_2) (Ty.dflt ty22)))) (cond (Ops.inb B (List.getD (List.getD v0_4 (Int.toNat v0_2) (Ty.dflt ty22)) (Int.toNat (1)) (Ty.dflt (Ty.int .i64))) (List.length v0_3)) (ob (c54 ((List.getD p0 (Int.toNat v0_2) (Ty.dflt ty66)).1) (List.getD v0_3 (Int.toNat (List.getD (List.getD v0_4 (Int.toNat v0_2) (Ty.dflt ty22)) (Int.toNat (0)) (Ty.dflt (Ty.int .i64)))) (Ty.dflt ty33)) (List.getD v0_3 (Int.toNat (List.getD (List.getD v0_4 (Int.toNat v0_2) (Ty.dflt ty22)) (Int.toNat (1)) (Ty.dflt (Ty.int .i64)))) (Ty.dflt ty33))) fun y0=>cond (Ops.lim B (List.length v0_3+List.length (y0::mt (Ty.den ty33))) (24)) (again (.l1017 v0_1 v0_2 (v0_3++y0::mt (Ty.den ty33)) v0_4)) (none)) (none)) (none)) (none)) (none)) (cond (Ops.eq B ((List.getD p0 (Int.toNat v0_2) (Ty.dflt ty66)).1) (8)) (cond (Ops.inb B (0) (List.length (List.getD v0_4 (Int.toNat v0_2) (Ty.dflt ty22)))) (cond (Ops.inb B (List.getD (List.getD v0_4 (Int.toNat v0_2) (Ty.dflt ty22)) (Int.toNat (0)) (Ty.dflt (Ty.int .i64))) (List.length v0_3)) (ob (c55 (List.getD v0_3 (Int.toNat (List.getD (List.getD v0_4 (Int.toNat v0_2) (Ty.dflt ty22)) (Int.toNat (0)) (Ty.dflt (Ty.int .i64)))) (Ty.dflt ty33)) (1)) fun y0=>cond (y0) (cond (Ops.inb B (0) (List.length (List.getD v0_4 (Int.toNat v0_2) (Ty.dflt ty22)))) (cond (Ops.inb B (List.getD (List.getD v0_4 (Int.toNat v0_2) (Ty.dflt ty22)) (Int.toNat (0)) (Ty.dflt (Ty.int .i64))) (List.length v0_3)) (cond (Ops.lim B (List.length v0_3+List.length (List.getD v0_3 (Int.toNat (List.getD (List.getD v0_4 (Int.toNat v0_2) (Ty.dflt ty22)) (Int.toNat (0)) (Ty.dflt (Ty.int .i64)))) (Ty.dflt ty33)::mt (Ty.den ty33))) (24)) (again (.l1017 v0_1 v0_2 (v0_3++List.getD v0_3 (Int.toNat (List.getD (List.getD v0_4 (Int.toNat v0_2) (Ty.dflt ty22)) (Int.toNat (0)) (Ty.dflt (Ty.int .i64)))) (Ty.dflt ty33)::mt (Ty.den ty33)) v0_4)) (none)) (none)) (none)) (cond (Ops.inb B (0) (List.length (List.getD v0_4 (Int.toNat v0_2) (Ty.dflt ty22)))) (cond (Ops.inb B (List.getD (List.getD v0_4 (Int.toNat v0_2) (Ty.dflt ty22)) (Int.toNat (0)) (Ty.dflt (Ty.int .i64))) (List.length v0_3)) (ob (c55 (List.getD v0_3 (Int.toNat (List.getD (List.getD v0_4 (Int.toNat v0_2) (Ty.dflt ty22)) (Int.toNat (0)) (Ty.dflt (Ty.int .i64)))) (Ty.dflt ty33)) (2)) fun y1=>cond (y1) (cond (Ops.inb B (0) (List.length (List.getD v0_4 (Int.toNat v0_2) (Ty.dflt ty22)))) (cond (Ops.inb B (List.getD (List.getD v0_4 (Int.toNat v0_2) (Ty.dflt ty22)) (Int.toNat (0)) (Ty.dflt (Ty.int .i64))) (List.length v0_3)) (cond (Ops.lim B (List.length v0_3+List.length (List.getD v0_3 (Int.toNat (List.getD (List.getD v0_4 (Int.toNat v0_2) (Ty.dflt ty22)) (Int.toNat (0)) (Ty.dflt (Ty.int .i64)))) (Ty.dflt ty33)::mt (Ty.den ty33))) (24)) (again (.l1017 v0_1 v0_2 (v0_3++List.getD v0_3 (Int.toNat (List.getD (List.getD v0_4 (Int.toNat v0_2) (Ty.dflt ty22)) (Int.toNat (0)) (Ty.dflt (Ty.int .i64)))) (Ty.dflt ty33)::mt (Ty.den ty33)) v0_4)) (none)) (none)) (none)) (cond (Ops.eq B (Nat.cast (List.length (List.getD v0_4 (Int.toNat v0_2) (Ty.dflt ty22)))) (1)) (cond (Ops.inb B (0) (List.length (List.getD v0_4 (Int.toNat v0_2) (Ty.dflt ty22)))) (cond (Ops.inb B (List.getD (List.getD v0_4 (Int.toNat v0_2) (Ty.dflt ty22)) (Int.toNat (0)) (Ty.dflt (Ty.int .i64))) (List.length v0_3)) (ob (c56 ((List.getD p0 (Int.toNat v0_2) (Ty.dflt ty66)).1) (List.getD v0_3 (Int.toNat (List.getD (List.getD v0_4 (Int.toNat v0_2) (Ty.dflt ty22)) (Int.toNat (0)) (Ty.dflt (Ty.int .i64)))) (Ty.dflt ty33)::mt (Ty.den ty33))) fun y2=>cond (Ops.lim B (List.length v0_3+List.length (y2::mt (Ty.den ty33))) (24)) (again (.l1017 v0_1 v0_2 (v0_3++y2::mt (Ty.den ty33)) v0_4)) (none)) (none)) (none)) (cond (Ops.inb B v0_2 (List.length p0)) (cond (Ops.lim B (List.length v0_3+List.length ((((List.getD p0 (Int.toNat v0_2) (Ty.dflt ty66)).1,(List.getD p0 (Int.toNat v0_2) (Ty.dflt ty66)).2)::mt (Ty.den ty66))::mt (Ty.den ty33))) (24)) (again (.l1017 v0_1 v0_2 (v0_3++(((List.getD p0 (Int.toNat v0_2) (Ty.dflt ty66)).1,(List.getD p0 (Int.toNat v0_2) (Ty.dflt ty66)).2)::mt (Ty.den ty66))::mt (Ty.den ty33)) v0_4)) (none)) (none)))) (none)) (none))) (none)) (none)) (cond (Ops.eq B (Nat.cast (List.length (List.getD v0_4 (Int.toNat v0_2) (Ty.dflt ty22)))) (1)) (cond (Ops.inb B (0) (List.length (List.getD v0_4 (Int.toNat v0_2) (Ty.dflt ty22)))) (cond (Ops.inb B (List.getD (List.getD v0_4 (Int.toNat v0_2) (Ty.dflt ty22)) (Int.toNat (0)) (Ty.dflt (Ty.int .i64))) (List.length v0_3)) (ob (c56 ((List.getD p0 (Int.toNat v0_2) (Ty.dflt ty66)).1) (List.getD v0_3 (Int.toNat (List.getD (List.getD v0_4 (Int.toNat v0_2) (Ty.dflt ty22)) (Int.toNat (0)) (Ty.dflt (Ty.int .i64)))) (Ty.dflt ty33)::mt (Ty.den ty33))) fun y0=>cond (Ops.lim B (List.length v0_3+List.length (y0::mt (Ty.den ty33))) (24)) (again (.l1017 v0_1 v0_2 (v0_3++y0::mt (Ty.den ty33)) v0_4)) (none)) (none)) (none)) (cond (Ops.inb B v0_2 (List.length p0)) (cond (Ops.lim B (List.length v0_3+List.length ((((List.getD p0 (Int.toNat v0_2) (Ty.dflt ty66)).1,(List.getD p0 (Int.toNat v0_2) (Ty.dflt ty66)).2)::mt (Ty.den ty66))::mt (Ty.den ty33))) (24)) (again (.l1017 v0_1 v0_2 (v0_3++(((List.getD p0 (Int.toNat v0_2) (Ty.dflt ty66)).1,(List.getD p0 (Int.toNat v0_2) (Ty.dflt ty66)).2)::mt (Ty.den ty66))::mt (Ty.den ty33)) v0_4)) (none)) (none)))))))) (none)) (none)) (cond (Ops.inb B (IntKind.wrap .i64 (Nat.cast (List.length v0_3)-1)) (List.length v0_3)) (ob (c57 (List.getD v0_3 (Int.toNat (IntKind.wrap .i64 (Nat.cast (List.length v0_3)-1))) (Ty.dflt ty33))) fun y0=>k y0) (none)) | some (.l1017 v1017_1 v1017_2 v1017_3 v1017_4)=>again (.l0 v1017_1 (IntKind.wrap .i64 (v1017_2+1)) v1017_3 v1017_4)
def E17 (p0:L66):S17→List AV×Objs
 | .l0 v0_1 v0_2 v0_3 v0_4=>(mk 133 [(0,.c (.list 66 ty66 p0)),(3,.c (.own 3)),(11,.c (.own 11)),(12,.c (.int .i64 v0_1)),(13,.c (.int .i64 v0_2))],[(3,.row 33 ty33 v0_3),(11,.row 22 ty22 v0_4)])
 | .l1017 v1017_1 v1017_2 v1017_3 v1017_4=>(mk 133 [(0,.c (.list 66 ty66 p0)),(3,.c (.own 3)),(11,.c (.own 11)),(12,.c (.int .i64 v1017_1)),(13,.c (.int .i64 v1017_2))],[(3,.row 33 ty33 v1017_3),(11,.row 22 ty22 v1017_4)])
def I17:S17→Nat
 | .l0 _ _ _ _=>0
 | .l1017 _ _ _ _=>1017
theorem eq17 {R:Type} (B:Ops) (c51:C51) (c52:C52) (c53:C53) (c54:C54) (c55:C55) (c56:C56) (c57:C57) (p0:L66) (k:AV→Objs→Option R) (n:Nat):afun tau B gl0 X17 (ent 51 (e51 c51) (ent 52 (e52 c52) (ent 53 (e53 c53) (ent 54 (e54 c54) (ent 55 (e55 c55) (ent 56 (e56 c56) (ent 57 (e57 c57) (gnil)))))))) ow Tryz.f17 [.c (.list 66 ty66 p0)] [] k n=T17 B c51 c52 c53 c54 c55 c56 c57 p0 (fun s=>aloop tau B gl0 X17 (ent 51 (e51 c51) (ent 52 (e52 c52) (ent 53 (e53 c53) (ent 54 (e54 c54) (ent 55 (e55 c55) (ent 56 (e56 c56) (ent 57 (e57 c57) (gnil)))))))) ow [] Tryz.f17 k (I17 s) (E17 p0 s) n) (fun y=>k (.c (.own 500)) [(500,.row 66 ty66 y)]) none:=by kernel_rfl
theorem el17 {R:Type} (B:Ops) (c51:C51) (c52:C52) (c53:C53) (c54:C54) (c55:C55) (c56:C56) (c57:C57) (p0:L66) (k:AV→Objs→Option R) (n:Nat):∀ s,aloop tau B gl0 X17 (ent 51 (e51 c51) (ent 52 (e52 c52) (ent 53 (e53 c53) (ent 54 (e54 c54) (ent 55 (e55 c55) (ent 56 (e56 c56) (ent 57 (e57 c57) (gnil)))))))) ow [] Tryz.f17 k (I17 s) (E17 p0 s) (n+1)=T17 B c51 c52 c53 c54 c55 c56 c57 p0 (fun s=>aloop tau B gl0 X17 (ent 51 (e51 c51) (ent 52 (e52 c52) (ent 53 (e53 c53) (ent 54 (e54 c54) (ent 55 (e55 c55) (ent 56 (e56 c56) (ent 57 (e57 c57) (gnil)))))))) ow [] Tryz.f17 k (I17 s) (E17 p0 s) n) (fun y=>k (.c (.own 500)) [(500,.row 66 ty66 y)]) (some s)
 | .l0 v0_1 v0_2 v0_3 v0_4=>by kernel_rfl
 | .l1017 v1017_1 v1017_2 v1017_3 v1017_4=>by kernel_rfl
theorem nt17 {R R':Type} (B:Ops) (c51:C51) (c52:C52) (c53:C53) (c54:C54) (c55:C55) (c56:C56) (c57:C57) (p0:L66) (again:S17→Option R) (again':S17→Option R') (k0:(L66)→Option R') (k:R'→Option R) (h:∀ s,again s=ob (again' s) k):∀ s,T17 B c51 c52 c53 c54 c55 c56 c57 p0 again (fun y=>ob (k0 y) k) s=ob (T17 B c51 c52 c53 c54 c55 c56 c57 p0 again' k0 s) k
 | none=>by unfold T17;repeat' first | exact rfl | exact h _ | apply qac | (apply qah;intro)
 | some (.l0 v0_1 v0_2 v0_3 v0_4)=>by unfold T17;repeat' first | exact rfl | exact h _ | apply qac | (apply qah;intro)
 | some (.l1017 v1017_1 v1017_2 v1017_3 v1017_4)=>by unfold T17;repeat' first | exact rfl | exact h _ | apply qac | (apply qah;intro)
def R17 (c51:C51) (c52:C52) (c53:C53) (c54:C54) (c55:C55) (c56:C56) (c57:C57) (p0:L66):Nat→S17→Option (L66)
 | 0,_=>none
 | n+1,s=>T17 Ops.std c51 c52 c53 c54 c55 c56 c57 p0 (R17 c51 c52 c53 c54 c55 c56 c57 p0 n) some (some s)
theorem rr17 {R:Type} (c51:C51) (c52:C52) (c53:C53) (c54:C54) (c55:C55) (c56:C56) (c57:C57) (p0:L66) (k:AV→Objs→Option R):∀ (n:Nat) (s:S17),aloop tau Ops.std gl0 X17 (ent 51 (e51 c51) (ent 52 (e52 c52) (ent 53 (e53 c53) (ent 54 (e54 c54) (ent 55 (e55 c55) (ent 56 (e56 c56) (ent 57 (e57 c57) (gnil)))))))) ow [] Tryz.f17 k (I17 s) (E17 p0 s) n=ob (R17 c51 c52 c53 c54 c55 c56 c57 p0 n s) (fun y=>k (.c (.own 500)) [(500,.row 66 ty66 y)])
 | 0,s=>by cases s<;>rfl
 | n+1,s=>by rw [el17];exact nt17 Ops.std c51 c52 c53 c54 c55 c56 c57 p0 _ _ some (fun y=>k (.c (.own 500)) [(500,.row 66 ty66 y)]) (rr17 c51 c52 c53 c54 c55 c56 c57 p0 k n) (some s)
def F17 (c51:C51) (c52:C52) (c53:C53) (c54:C54) (c55:C55) (c56:C56) (c57:C57) (p0:L66):Option (L66):=T17 Ops.std c51 c52 c53 c54 c55 c56 c57 p0 (R17 c51 c52 c53 c54 c55 c56 c57 p0 1000000) some none
theorem fo17 {R:Type} (c51:C51) (c52:C52) (c53:C53) (c54:C54) (c55:C55) (c56:C56) (c57:C57) (p0:L66) (k:AV→Objs→Option R):afun tau Ops.std gl0 X17 (ent 51 (e51 c51) (ent 52 (e52 c52) (ent 53 (e53 c53) (ent 54 (e54 c54) (ent 55 (e55 c55) (ent 56 (e56 c56) (ent 57 (e57 c57) (gnil)))))))) ow Tryz.f17 [.c (.list 66 ty66 p0)] [] k 1000000=ob (F17 c51 c52 c53 c54 c55 c56 c57 p0) (fun y=>k (.c (.own 500)) [(500,.row 66 ty66 y)]):=by rw [eq17];exact nt17 Ops.std c51 c52 c53 c54 c55 c56 c57 p0 _ _ some (fun y=>k (.c (.own 500)) [(500,.row 66 ty66 y)]) (rr17 c51 c52 c53 c54 c55 c56 c57 p0 k 1000000) none
def e17 {R:Type} (c:L66→Option (L66)):Ent R:=fun args objs k=>
 oCons args fun a0 l0=>oC a0 fun x0=>cList 66 ty66 x0 fun p0=>oNil l0 <| oNilO objs <| ob (c p0) fun y=>k (.c (.own 500)) [(500,.row 66 ty66 y)]
abbrev Sp17 (c:L66→Option (L66)):Prop:=∀ (p0:L66) (y:L66),c p0=some y→Spec Tryz.prog gl0 17 [.c (.list 66 ty66 p0)] [] (.c (.own 500)) [(500,.row 66 ty66 y)]
theorem ek17 {R:Type} {c:L66→Option (L66)} (hs:Sp17 c):EOk 17 (e17 (R:=R) c):=fun args objs k r h=>by
 unfold e17 at h
 obtain ⟨a0,l0,rfl,q1⟩:=qaa h
 obtain ⟨x0,rfl,q2⟩:=qaj q1
 obtain ⟨p0,rfl,q3⟩:=qae q2
 obtain ⟨rfl,q4⟩:=qag q3
 obtain ⟨rfl,q5⟩:=qaf q4
 exact qar (hs p0) q5
theorem sf17 {c51:C51} {c52:C52} {c53:C53} {c54:C54} {c55:C55} {c56:C56} {c57:C57} (h51:Sp51 c51) (h52:Sp52 c52) (h53:Sp53 c53) (h54:Sp54 c54) (h55:Sp55 c55) (h56:Sp56 c56) (h57:Sp57 c57):Sp17 (F17 c51 c52 c53 c54 c55 c56 c57):=fun p0 y hy=>by
 refine qap (G:=ent 51 (e51 c51) (ent 52 (e52 c52) (ent 53 (e53 c53) (ent 54 (e54 c54) (ent 55 (e55 c55) (ent 56 (e56 c56) (ent 57 (e57 c57) (gnil)))))))) (qai (ek51 h51) (qai (ek52 h52) (qai (ek53 h53) (qai (ek54 h54) (qai (ek55 h55) (qai (ek56 h56) (qai (ek57 h57) (qao)))))))) 1000000 (fn:=Tryz.f17) (by kernel_rfl) (by kernel_rfl) (X:=X17) (by kernel_rfl) ?_
 rw [fo17,hy]
 rfl
noncomputable def M17:L66→Option (L66):=F17 M51 M52 M53 M54 M55 M56 M57
theorem sm17:Sp17 M17:=sf17 sm51 sm52 sm53 sm54 sm55 sm56 sm57
def X73:Aux:=⟨[],[]⟩
def T73 {R:Type} (B:Ops) (p0:Int) (k:(Int)→Option R):Option R:=cond (Ops.eq B p0 (1)) (k 0) (cond (Ops.eq B p0 (2)) (k 0) (cond (Ops.eq B p0 (3)) (k 0) (cond (Ops.eq B p0 (4)) (k 1) (cond (Ops.eq B p0 (8)) (k 1) (cond (Ops.eq B p0 (11)) (k 1) (cond (Ops.eq B p0 (12)) (k 1) (cond (Ops.eq B p0 (5)) (k 2) (cond (Ops.eq B p0 (6)) (k 2) (cond (Ops.eq B p0 (7)) (k 2) (cond (Ops.eq B p0 (9)) (k 2) (cond (Ops.eq B p0 (10)) (k 2) (k (-1)))))))))))))
theorem eq73 {R:Type} (B:Ops) (p0:Int) (k:AV→Objs→Option R) (n:Nat):afun tau B gl0 X73 (gnil) ow Tryz.f73 [.c (.int .i64 p0)] [] k n=T73 B p0 (fun y=>k (.c (.int .i64 y)) []):=by kernel_rfl
theorem nt73 {R R':Type} (B:Ops) (p0:Int) (k0:(Int)→Option R') (k:R'→Option R):T73 B p0 (fun y=>ob (k0 y) k)=ob (T73 B p0 k0) k:=by
 unfold T73
 repeat' first | exact rfl | apply qac | (apply qah;intro)
def F73 (p0:Int):Option (Int):=T73 Ops.std p0 some
theorem fo73 {R:Type} (p0:Int) (k:AV→Objs→Option R) (n:Nat):afun tau Ops.std gl0 X73 (gnil) ow Tryz.f73 [.c (.int .i64 p0)] [] k n=ob (F73 p0) (fun y=>k (.c (.int .i64 y)) []):=by rw [eq73];exact nt73 Ops.std p0 some (fun y=>k (.c (.int .i64 y)) [])
def e73 {R:Type} (c:Int→Option (Int)):Ent R:=fun args objs k=>
 oCons args fun a0 l0=>oC a0 fun x0=>cInt .i64 x0 fun p0=>oNil l0 <| oNilO objs <| ob (c p0) fun y=>k (.c (.int .i64 y)) []
abbrev Sp73 (c:Int→Option (Int)):Prop:=∀ (p0:Int) (y:Int),c p0=some y→Spec Tryz.prog gl0 73 [.c (.int .i64 p0)] [] (.c (.int .i64 y)) []
theorem ek73 {R:Type} {c:Int→Option (Int)} (hs:Sp73 c):EOk 73 (e73 (R:=R) c):=fun args objs k r h=>by
 unfold e73 at h
 obtain ⟨a0,l0,rfl,q1⟩:=qaa h
 obtain ⟨x0,rfl,q2⟩:=qaj q1
 obtain ⟨p0,rfl,q3⟩:=qal q2
 obtain ⟨rfl,q4⟩:=qag q3
 obtain ⟨rfl,q5⟩:=qaf q4
 exact qar (hs p0) q5
theorem sf73:Sp73 (F73):=fun p0 y hy=>by
 refine qap (G:=gnil) (qao) 1000000 (fn:=Tryz.f73) (by kernel_rfl) (by kernel_rfl) (X:=X73) (by kernel_rfl) ?_
 rw [fo73,hy]
 rfl
noncomputable def M73:Int→Option (Int):=F73
theorem sm73:Sp73 M73:=sf73
def X63:Aux:=⟨[(3,([1,2]++rg 5 65))],[]⟩
inductive S63 where
 | l0 (v0_1:Int) (v0_2:Int)
abbrev C73:Type:=Int→Option (Int)
def T63 {R:Type} (B:Ops) (c73:C73) (c110:C110) (p0:L66) (again:S63→Option R) (k:(Bool)→Option R):Option S63→Option R | none=>again (.l0 0 0) | some (.l0 v0_1 v0_2)=>cond (Ops.lt B v0_2 (Nat.cast (List.length p0))) (cond (Ops.inb B v0_2 (List.length p0)) (ob (c73 ((List.getD p0 (Int.toNat v0_2) (Ty.dflt ty66)).1)) fun y0=>cond (Ops.lt B y0 (0)) (k false) (cond (Ops.lt B v0_1 y0) (k false) (cond (Ops.inb B v0_2 (List.length p0)) (cond (Ops.eq B ((List.getD p0 (Int.toNat v0_2) (Ty.dflt ty66)).1) (3)) (cond (Ops.inb B v0_2 (List.length p0)) (ob (c110 ((List.getD p0 (Int.toNat v0_2) (Ty.dflt ty66)).2)) fun y1=>cond (!y1) (k false) (cond (Ops.inb B v0_2 (List.length p0)) (cond (!Ops.eq B ((List.getD p0 (Int.toNat v0_2) (Ty.dflt ty66)).1) (3)) (cond (Ops.inb B v0_2 (List.length p0)) (cond (Ops.lt B (0) (Nat.cast (List.length ((List.getD p0 (Int.toNat v0_2) (Ty.dflt ty66)).2)))) (k false) (again (.l0 (IntKind.wrap .i64 (IntKind.wrap .i64 (v0_1-y0)+1)) (IntKind.wrap .i64 (v0_2+1))))) (none)) (again (.l0 (IntKind.wrap .i64 (IntKind.wrap .i64 (v0_1-y0)+1)) (IntKind.wrap .i64 (v0_2+1))))) (none))) (none)) (cond (Ops.inb B v0_2 (List.length p0)) (cond (!Ops.eq B ((List.getD p0 (Int.toNat v0_2) (Ty.dflt ty66)).1) (3)) (cond (Ops.inb B v0_2 (List.length p0)) (cond (Ops.lt B (0) (Nat.cast (List.length ((List.getD p0 (Int.toNat v0_2) (Ty.dflt ty66)).2)))) (k false) (again (.l0 (IntKind.wrap .i64 (IntKind.wrap .i64 (v0_1-y0)+1)) (IntKind.wrap .i64 (v0_2+1))))) (none)) (again (.l0 (IntKind.wrap .i64 (IntKind.wrap .i64 (v0_1-y0)+1)) (IntKind.wrap .i64 (v0_2+1))))) (none))) (none)))) (none)) (cond (Ops.eq B v0_1 (1)) (k (Ops.le B (Nat.cast (List.length p0)) (60))) (k false))
def E63 (p0:L66):S63→List AV×Objs
 | .l0 v0_1 v0_2=>(mk 70 [(0,.c (.list 66 ty66 p0)),(3,.c (.int .i64 v0_1)),(4,.c (.int .i64 v0_2))],[])
def I63:S63→Nat
 | .l0 _ _=>0
theorem eq63 {R:Type} (B:Ops) (c73:C73) (c110:C110) (p0:L66) (k:AV→Objs→Option R) (n:Nat):afun tau B gl0 X63 (ent 73 (e73 c73) (ent 110 (e110 c110) (gnil))) ow Tryz.f63 [.c (.list 66 ty66 p0)] [] k n=T63 B c73 c110 p0 (fun s=>aloop tau B gl0 X63 (ent 73 (e73 c73) (ent 110 (e110 c110) (gnil))) ow [] Tryz.f63 k (I63 s) (E63 p0 s) n) (fun y=>k (.c (.bool y)) []) none:=by kernel_rfl
theorem el63 {R:Type} (B:Ops) (c73:C73) (c110:C110) (p0:L66) (k:AV→Objs→Option R) (n:Nat):∀ s,aloop tau B gl0 X63 (ent 73 (e73 c73) (ent 110 (e110 c110) (gnil))) ow [] Tryz.f63 k (I63 s) (E63 p0 s) (n+1)=T63 B c73 c110 p0 (fun s=>aloop tau B gl0 X63 (ent 73 (e73 c73) (ent 110 (e110 c110) (gnil))) ow [] Tryz.f63 k (I63 s) (E63 p0 s) n) (fun y=>k (.c (.bool y)) []) (some s)
 | .l0 v0_1 v0_2=>by kernel_rfl
theorem nt63 {R R':Type} (B:Ops) (c73:C73) (c110:C110) (p0:L66) (again:S63→Option R) (again':S63→Option R') (k0:(Bool)→Option R') (k:R'→Option R) (h:∀ s,again s=ob (again' s) k):∀ s,T63 B c73 c110 p0 again (fun y=>ob (k0 y) k) s=ob (T63 B c73 c110 p0 again' k0 s) k
 | none=>by unfold T63;repeat' first | exact rfl | exact h _ | apply qac | (apply qah;intro)
 | some (.l0 v0_1 v0_2)=>by unfold T63;repeat' first | exact rfl | exact h _ | apply qac | (apply qah;intro)
def R63 (c73:C73) (c110:C110) (p0:L66):Nat→S63→Option (Bool)
 | 0,_=>none
 | n+1,s=>T63 Ops.std c73 c110 p0 (R63 c73 c110 p0 n) some (some s)
theorem rr63 {R:Type} (c73:C73) (c110:C110) (p0:L66) (k:AV→Objs→Option R):∀ (n:Nat) (s:S63),aloop tau Ops.std gl0 X63 (ent 73 (e73 c73) (ent 110 (e110 c110) (gnil))) ow [] Tryz.f63 k (I63 s) (E63 p0 s) n=ob (R63 c73 c110 p0 n s) (fun y=>k (.c (.bool y)) [])
 | 0,s=>by cases s<;>rfl
 | n+1,s=>by rw [el63];exact nt63 Ops.std c73 c110 p0 _ _ some (fun y=>k (.c (.bool y)) []) (rr63 c73 c110 p0 k n) (some s)
def F63 (c73:C73) (c110:C110) (p0:L66):Option (Bool):=T63 Ops.std c73 c110 p0 (R63 c73 c110 p0 1000000) some none
theorem fo63 {R:Type} (c73:C73) (c110:C110) (p0:L66) (k:AV→Objs→Option R):afun tau Ops.std gl0 X63 (ent 73 (e73 c73) (ent 110 (e110 c110) (gnil))) ow Tryz.f63 [.c (.list 66 ty66 p0)] [] k 1000000=ob (F63 c73 c110 p0) (fun y=>k (.c (.bool y)) []):=by rw [eq63];exact nt63 Ops.std c73 c110 p0 _ _ some (fun y=>k (.c (.bool y)) []) (rr63 c73 c110 p0 k 1000000) none
def e63 {R:Type} (c:L66→Option (Bool)):Ent R:=fun args objs k=>
 oCons args fun a0 l0=>oC a0 fun x0=>cList 66 ty66 x0 fun p0=>oNil l0 <| oNilO objs <| ob (c p0) fun y=>k (.c (.bool y)) []
abbrev Sp63 (c:L66→Option (Bool)):Prop:=∀ (p0:L66) (y:Bool),c p0=some y→Spec Tryz.prog gl0 63 [.c (.list 66 ty66 p0)] [] (.c (.bool y)) []
theorem ek63 {R:Type} {c:L66→Option (Bool)} (hs:Sp63 c):EOk 63 (e63 (R:=R) c):=fun args objs k r h=>by
 unfold e63 at h
 obtain ⟨a0,l0,rfl,q1⟩:=qaa h
 obtain ⟨x0,rfl,q2⟩:=qaj q1
 obtain ⟨p0,rfl,q3⟩:=qae q2
 obtain ⟨rfl,q4⟩:=qag q3
 obtain ⟨rfl,q5⟩:=qaf q4
 exact qar (hs p0) q5
theorem sf63 {c73:C73} {c110:C110} (h73:Sp73 c73) (h110:Sp110 c110):Sp63 (F63 c73 c110):=fun p0 y hy=>by
 refine qap (G:=ent 73 (e73 c73) (ent 110 (e110 c110) (gnil))) (qai (ek73 h73) (qai (ek110 h110) (qao))) 1000000 (fn:=Tryz.f63) (by kernel_rfl) (by kernel_rfl) (X:=X63) (by kernel_rfl) ?_
 rw [fo63,hy]
 rfl
noncomputable def M63:L66→Option (Bool):=F63 M73 M110
theorem sm63:Sp63 M63:=sf63 sm73 sm110
def X143:Aux:=⟨[],[]⟩
def T143 {R:Type} (B:Ops) (p0:Int) (k:(Int)→Option R):Option R:=cond (Ops.eq B p0 (7)) (k 1) (cond (Ops.eq B p0 (6)) (k 2) (cond (Ops.eq B p0 (5)) (k 3) (cond (Ops.eq B p0 (9)) (k 4) (cond (Ops.eq B p0 (10)) (k 4) (cond (Ops.eq B p0 (4)) (k 5) (cond (Ops.eq B p0 (8)) (k 5) (cond (Ops.eq B p0 (11)) (k 5) (cond (Ops.eq B p0 (12)) (k 5) (k 6)))))))))
theorem eq143 {R:Type} (B:Ops) (p0:Int) (k:AV→Objs→Option R) (n:Nat):afun tau B gl0 X143 (gnil) ow Tryz.f143 [.c (.int .i64 p0)] [] k n=T143 B p0 (fun y=>k (.c (.int .i64 y)) []):=by kernel_rfl
theorem nt143 {R R':Type} (B:Ops) (p0:Int) (k0:(Int)→Option R') (k:R'→Option R):T143 B p0 (fun y=>ob (k0 y) k)=ob (T143 B p0 k0) k:=by
 unfold T143
 repeat' first | exact rfl | apply qac | (apply qah;intro)
def F143 (p0:Int):Option (Int):=T143 Ops.std p0 some
theorem fo143 {R:Type} (p0:Int) (k:AV→Objs→Option R) (n:Nat):afun tau Ops.std gl0 X143 (gnil) ow Tryz.f143 [.c (.int .i64 p0)] [] k n=ob (F143 p0) (fun y=>k (.c (.int .i64 y)) []):=by rw [eq143];exact nt143 Ops.std p0 some (fun y=>k (.c (.int .i64 y)) [])
def e143 {R:Type} (c:Int→Option (Int)):Ent R:=fun args objs k=>
 oCons args fun a0 l0=>oC a0 fun x0=>cInt .i64 x0 fun p0=>oNil l0 <| oNilO objs <| ob (c p0) fun y=>k (.c (.int .i64 y)) []
abbrev Sp143 (c:Int→Option (Int)):Prop:=∀ (p0:Int) (y:Int),c p0=some y→Spec Tryz.prog gl0 143 [.c (.int .i64 p0)] [] (.c (.int .i64 y)) []
theorem ek143 {R:Type} {c:Int→Option (Int)} (hs:Sp143 c):EOk 143 (e143 (R:=R) c):=fun args objs k r h=>by
 unfold e143 at h
 obtain ⟨a0,l0,rfl,q1⟩:=qaa h
 obtain ⟨x0,rfl,q2⟩:=qaj q1
 obtain ⟨p0,rfl,q3⟩:=qal q2
 obtain ⟨rfl,q4⟩:=qag q3
 obtain ⟨rfl,q5⟩:=qaf q4
 exact qar (hs p0) q5
theorem sf143:Sp143 (F143):=fun p0 y hy=>by
 refine qap (G:=gnil) (qao) 1000000 (fn:=Tryz.f143) (by kernel_rfl) (by kernel_rfl) (X:=X143) (by kernel_rfl) ?_
 rw [fo143,hy]
 rfl
noncomputable def M143:Int→Option (Int):=F143
theorem sm143:Sp143 M143:=sf143
def X144:Aux:=⟨[],[]⟩
def T144 {R:Type} (B:Ops) (p0:Int) (k:(LB)→Option R):Option R:=cond (Ops.eq B p0 (1)) (k ([116,114,117,101]:LB)) (cond (Ops.eq B p0 (2)) (k ([102,97,108,115,101]:LB)) (cond (Ops.eq B p0 (4)) (k ([33]:LB)) (cond (Ops.eq B p0 (5)) (k ([32,38,38,32]:LB)) (cond (Ops.eq B p0 (6)) (k ([32,124,124,32]:LB)) (cond (Ops.eq B p0 (7)) (k ([32,45,62,32]:LB)) (cond (Ops.eq B p0 (8)) (k ([88,32]:LB)) (cond (Ops.eq B p0 (9)) (k ([32,85,32]:LB)) (cond (Ops.eq B p0 (10)) (k ([32,82,32]:LB)) (cond (Ops.eq B p0 (11)) (k ([70,32]:LB)) (cond (Ops.eq B p0 (12)) (k ([71,32]:LB)) (k (mt UInt8))))))))))))
theorem eq144 {R:Type} (B:Ops) (p0:Int) (k:AV→Objs→Option R) (n:Nat):afun tau B gl0 X144 (gnil) ow Tryz.f144 [.c (.int .i64 p0)] [] k n=T144 B p0 (fun y=>k (.c (.str y)) []):=by kernel_rfl
theorem nt144 {R R':Type} (B:Ops) (p0:Int) (k0:(LB)→Option R') (k:R'→Option R):T144 B p0 (fun y=>ob (k0 y) k)=ob (T144 B p0 k0) k:=by
 unfold T144
 repeat' first | exact rfl | apply qac | (apply qah;intro)
def F144 (p0:Int):Option (LB):=T144 Ops.std p0 some
theorem fo144 {R:Type} (p0:Int) (k:AV→Objs→Option R) (n:Nat):afun tau Ops.std gl0 X144 (gnil) ow Tryz.f144 [.c (.int .i64 p0)] [] k n=ob (F144 p0) (fun y=>k (.c (.str y)) []):=by rw [eq144];exact nt144 Ops.std p0 some (fun y=>k (.c (.str y)) [])
def e144 {R:Type} (c:Int→Option (LB)):Ent R:=fun args objs k=>
 oCons args fun a0 l0=>oC a0 fun x0=>cInt .i64 x0 fun p0=>oNil l0 <| oNilO objs <| ob (c p0) fun y=>k (.c (.str y)) []
abbrev Sp144 (c:Int→Option (LB)):Prop:=∀ (p0:Int) (y:LB),c p0=some y→Spec Tryz.prog gl0 144 [.c (.int .i64 p0)] [] (.c (.str y)) []
theorem ek144 {R:Type} {c:Int→Option (LB)} (hs:Sp144 c):EOk 144 (e144 (R:=R) c):=fun args objs k r h=>by
 unfold e144 at h
 obtain ⟨a0,l0,rfl,q1⟩:=qaa h
 obtain ⟨x0,rfl,q2⟩:=qaj q1
 obtain ⟨p0,rfl,q3⟩:=qal q2
 obtain ⟨rfl,q4⟩:=qag q3
 obtain ⟨rfl,q5⟩:=qaf q4
 exact qar (hs p0) q5
theorem sf144:Sp144 (F144):=fun p0 y hy=>by
 refine qap (G:=gnil) (qao) 1000000 (fn:=Tryz.f144) (by kernel_rfl) (by kernel_rfl) (X:=X144) (by kernel_rfl) ?_
 rw [fo144,hy]
 rfl
noncomputable def M144:Int→Option (LB):=F144
theorem sm144:Sp144 M144:=sf144
def X146:Aux:=⟨[],[]⟩
def T146 {R:Type} (B:Ops) (p0:LB) (p1:Int) (p2:Int) (k:(LB)→Option R):Option R:=cond (Ops.lt B p1 p2) (cond (Ops.lim B (1+List.length p0) (1)) (cond (Ops.lim B (List.length (([40]:LB)++p0)+1) (1)) (k (([40]:LB)++p0++([41]:LB))) (none)) (none)) (k p0)
theorem eq146 {R:Type} (B:Ops) (p0:LB) (p1:Int) (p2:Int) (k:AV→Objs→Option R) (n:Nat):afun tau B gl0 X146 (gnil) ow Tryz.f146 [.agg [.str p0,.int .i64 p1],.c (.int .i64 p2)] [] k n=T146 B p0 p1 p2 (fun y=>k (.c (.str y)) []):=by kernel_rfl
theorem nt146 {R R':Type} (B:Ops) (p0:LB) (p1:Int) (p2:Int) (k0:(LB)→Option R') (k:R'→Option R):T146 B p0 p1 p2 (fun y=>ob (k0 y) k)=ob (T146 B p0 p1 p2 k0) k:=by
 unfold T146
 repeat' first | exact rfl | apply qac | (apply qah;intro)
def F146 (p0:LB) (p1:Int) (p2:Int):Option (LB):=T146 Ops.std p0 p1 p2 some
theorem fo146 {R:Type} (p0:LB) (p1:Int) (p2:Int) (k:AV→Objs→Option R) (n:Nat):afun tau Ops.std gl0 X146 (gnil) ow Tryz.f146 [.agg [.str p0,.int .i64 p1],.c (.int .i64 p2)] [] k n=ob (F146 p0 p1 p2) (fun y=>k (.c (.str y)) []):=by rw [eq146];exact nt146 Ops.std p0 p1 p2 some (fun y=>k (.c (.str y)) [])
def e146 {R:Type} (c:LB→Int→Int→Option (LB)):Ent R:=fun args objs k=>
 oCons args fun a0 l0=>oAgg a0 fun x0=>cCons x0 fun z0_0 w0_0=>cStr z0_0 fun p0=>cCons w0_0 fun z0_1 w0_1=>cInt .i64 z0_1 fun p1=>cNil w0_1 <| oCons l0 fun a1 l1=>oC a1 fun x1=>cInt .i64 x1 fun p2=>oNil l1 <| oNilO objs <| ob (c p0 p1 p2) fun y=>k (.c (.str y)) []
abbrev Sp146 (c:LB→Int→Int→Option (LB)):Prop:=∀ (p0:LB) (p1:Int) (p2:Int) (y:LB),c p0 p1 p2=some y→Spec Tryz.prog gl0 146 [.agg [.str p0,.int .i64 p1],.c (.int .i64 p2)] [] (.c (.str y)) []
theorem ek146 {R:Type} {c:LB→Int→Int→Option (LB)} (hs:Sp146 c):EOk 146 (e146 (R:=R) c):=fun args objs k r h=>by
 unfold e146 at h
 obtain ⟨a0,l0,rfl,q1⟩:=qaa h
 obtain ⟨x0,rfl,q2⟩:=qax q1
 obtain ⟨z0_0,w0_0,rfl,q3⟩:=qad q2
 obtain ⟨p0,rfl,q4⟩:=qav q3
 obtain ⟨z0_1,w0_1,rfl,q5⟩:=qad q4
 obtain ⟨p1,rfl,q6⟩:=qal q5
 obtain ⟨rfl,q7⟩:=qat q6
 obtain ⟨a1,l1,rfl,q8⟩:=qaa q7
 obtain ⟨x1,rfl,q9⟩:=qaj q8
 obtain ⟨p2,rfl,q10⟩:=qal q9
 obtain ⟨rfl,q11⟩:=qag q10
 obtain ⟨rfl,q12⟩:=qaf q11
 exact qar (hs p0 p1 p2) q12
theorem sf146:Sp146 (F146):=fun p0 p1 p2 y hy=>by
 refine qap (G:=gnil) (qao) 1000000 (fn:=Tryz.f146) (by kernel_rfl) (by kernel_rfl) (X:=X146) (by kernel_rfl) ?_
 rw [fo146,hy]
 rfl
noncomputable def M146:LB→Int→Int→Option (LB):=F146
theorem sm146:Sp146 M146:=sf146
def X85:Aux:=⟨[(5,([1,2]++rg 5 130))],[(27,.lin (rg 0 12)),(28,.lin (rg 0 10)),(18,.lin ([0,1,2,3,4,5,7,8,10,11,12,13,14,15,6,9,16,17,18,19])),(19,.lin (rg 0 10))]⟩
inductive S85 where
 | l0 (v0_1:Int) (v0_2:L176)
abbrev C63:Type:=L66→Option (Bool)
abbrev C143:Type:=Int→Option (Int)
abbrev C144:Type:=Int→Option (LB)
abbrev C146:Type:=LB→Int→Int→Option (LB)
def T85 {R:Type} (B:Ops) (c63:C63) (c143:C143) (c144:C144) (c73:C73) (c145:C145) (c146:C146) (p0:L66) (again:S85→Option R) (k:(LB)→Option R):Option S85→Option R | none=>ob (c63 p0) fun y0=>cond (!y0) (k (mt UInt8)) (again (.l0 0 (mt (Ty.den ty176)))) | some (.l0 v0_1 v0_2)=>cond (Ops.lt B v0_1 (Nat.cast (List.length p0))) (cond (Ops.inb B v0_1 (List.length p0)) (ob (c143 ((List.getD p0 (Int.toNat v0_1) (Ty.dflt ty66)).1)) fun y0=>cond (Ops.inb B v0_1 (List.length p0)) (ob (c144 ((List.getD p0 (Int.toNat v0_1) (Ty.dflt ty66)).1)) fun y1=>cond (Ops.inb B v0_1 (List.length p0)) (ob (c73 ((List.getD p0 (Int.toNat v0_1) (Ty.dflt ty66)).1)) fun y2=>cond (Ops.eq B y2 (0)) (cond (Ops.inb B v0_1 (List.length p0)) (cond (Ops.eq B ((List.getD p0 (Int.toNat v0_1) (Ty.dflt ty66)).1) (3)) (cond (Ops.inb B v0_1 (List.length p0)) (ob (c145 ((List.getD p0 (Int.toNat v0_1) (Ty.dflt ty66)).2)) fun y3=>cond (Ops.lim B (1+List.length y3) (1)) (cond (Ops.lim B (List.length (([91]:LB)++y3)+1) (1)) (cond (Ops.lim B (List.length v0_2+List.length ((([91]:LB)++y3++([93]:LB),y0)::mt (Ty.den ty176))) (24)) (again (.l0 (IntKind.wrap .i64 (v0_1+1)) (v0_2++(([91]:LB)++y3++([93]:LB),y0)::mt (Ty.den ty176)))) (none)) (none)) (none)) (none)) (cond (Ops.lim B (List.length v0_2+List.length ((y1,y0)::mt (Ty.den ty176))) (24)) (again (.l0 (IntKind.wrap .i64 (v0_1+1)) (v0_2++(y1,y0)::mt (Ty.den ty176)))) (none))) (none)) (cond (Ops.eq B y2 (1)) (cond (Ops.lt B (Nat.cast (List.length v0_2)) (1)) (k (mt UInt8)) (cond (Ops.inb B (IntKind.wrap .i64 (Nat.cast (List.length v0_2)-1)) (List.length v0_2)) (ob (c146 ((List.getD v0_2 (Int.toNat (IntKind.wrap .i64 (Nat.cast (List.length v0_2)-1))) (Ty.dflt ty176)).1) ((List.getD v0_2 (Int.toNat (IntKind.wrap .i64 (Nat.cast (List.length v0_2)-1))) (Ty.dflt ty176)).2) y0) fun y3=>cond (Ops.lim B (List.length y1+List.length y3) (1)) (cond (Ops.eq B (IntKind.wrap .i64 (Nat.cast (List.length v0_2)-1)) (IntKind.wrap .i64 (Nat.cast (List.length v0_2)-1))) (cond (Ops.inb B (IntKind.wrap .i64 (Nat.cast (List.length v0_2)-1)) (List.length v0_2+1)) (cond (Ops.lt B (0) (Nat.cast (List.length ((y1++y3,y0)::mt (Ty.den ty176))))) (cond (Ops.lim B (List.length (List.take (Int.toNat (IntKind.wrap .i64 (Nat.cast (List.length v0_2)-1))) v0_2)+List.length ((y1++y3,y0)::mt (Ty.den ty176))) (24)) (again (.l0 (IntKind.wrap .i64 (v0_1+1)) (List.take (Int.toNat (IntKind.wrap .i64 (Nat.cast (List.length v0_2)-1))) v0_2++(y1++y3,y0)::mt (Ty.den ty176)))) (none)) (none)) (none)) (none)) (none)) (none))) (cond (Ops.lt B (Nat.cast (List.length v0_2)) (2)) (k (mt UInt8)) (cond (Ops.eq B y0 (1)) (cond (Ops.inb B (IntKind.wrap .i64 (Nat.cast (List.length v0_2)-2)) (List.length v0_2)) (cond (Ops.inb B (IntKind.wrap .i64 (Nat.cast (List.length v0_2)-1)) (List.length v0_2)) (ob (c146 ((List.getD v0_2 (Int.toNat (IntKind.wrap .i64 (Nat.cast (List.length v0_2)-2))) (Ty.dflt ty176)).1) ((List.getD v0_2 (Int.toNat (IntKind.wrap .i64 (Nat.cast (List.length v0_2)-2))) (Ty.dflt ty176)).2) (IntKind.wrap .i64 (y0+1))) fun y3=>cond (Ops.lim B (List.length y3+List.length y1) (1)) (ob (c146 ((List.getD v0_2 (Int.toNat (IntKind.wrap .i64 (Nat.cast (List.length v0_2)-1))) (Ty.dflt ty176)).1) ((List.getD v0_2 (Int.toNat (IntKind.wrap .i64 (Nat.cast (List.length v0_2)-1))) (Ty.dflt ty176)).2) y0) fun y4=>cond (Ops.lim B (List.length (y3++y1)+List.length y4) (1)) (cond (Ops.eq B (IntKind.wrap .i64 (Nat.cast (List.length v0_2)-2)) (IntKind.wrap .i64 (Nat.cast (List.length v0_2)-2))) (cond (Ops.inb B (IntKind.wrap .i64 (Nat.cast (List.length v0_2)-2)) (List.length v0_2+1)) (cond (Ops.lt B (0) (Nat.cast (List.length ((y3++y1++y4,y0)::mt (Ty.den ty176))))) (cond (Ops.lim B (List.length (List.take (Int.toNat (IntKind.wrap .i64 (Nat.cast (List.length v0_2)-2))) v0_2)+List.length ((y3++y1++y4,y0)::mt (Ty.den ty176))) (24)) (again (.l0 (IntKind.wrap .i64 (v0_1+1)) (List.take (Int.toNat (IntKind.wrap .i64 (Nat.cast (List.length v0_2)-2))) v0_2++(y3++y1++y4,y0)::mt (Ty.den ty176)))) (none)) (none)) (none)) (none)) (none)) (none)) (none)) (none)) (cond (Ops.eq B y0 (4)) (cond (Ops.inb B (IntKind.wrap .i64 (Nat.cast (List.length v0_2)-2)) (List.length v0_2)) (cond (Ops.inb B (IntKind.wrap .i64 (Nat.cast (List.length v0_2)-1)) (List.length v0_2)) (ob (c146 ((List.getD v0_2 (Int.toNat (IntKind.wrap .i64 (Nat.cast (List.length v0_2)-2))) (Ty.dflt ty176)).1) ((List.getD v0_2 (Int.toNat (IntKind.wrap .i64 (Nat.cast (List.length v0_2)-2))) (Ty.dflt ty176)).2) (IntKind.wrap .i64 (y0+1))) fun y3=>cond (Ops.lim B (List.length y3+List.length y1) (1)) (ob (c146 ((List.getD v0_2 (Int.toNat (IntKind.wrap .i64 (Nat.cast (List.length v0_2)-1))) (Ty.dflt ty176)).1) ((List.getD v0_2 (Int.toNat (IntKind.wrap .i64 (Nat.cast (List.length v0_2)-1))) (Ty.dflt ty176)).2) y0) fun y4=>cond (Ops.lim B (List.length (y3++y1)+List.length y4) (1)) (cond (Ops.eq B (IntKind.wrap .i64 (Nat.cast (List.length v0_2)-2)) (IntKind.wrap .i64 (Nat.cast (List.length v0_2)-2))) (cond (Ops.inb B (IntKind.wrap .i64 (Nat.cast (List.length v0_2)-2)) (List.length v0_2+1)) (cond (Ops.lt B (0) (Nat.cast (List.length ((y3++y1++y4,y0)::mt (Ty.den ty176))))) (cond (Ops.lim B (List.length (List.take (Int.toNat (IntKind.wrap .i64 (Nat.cast (List.length v0_2)-2))) v0_2)+List.length ((y3++y1++y4,y0)::mt (Ty.den ty176))) (24)) (again (.l0 (IntKind.wrap .i64 (v0_1+1)) (List.take (Int.toNat (IntKind.wrap .i64 (Nat.cast (List.length v0_2)-2))) v0_2++(y3++y1++y4,y0)::mt (Ty.den ty176)))) (none)) (none)) (none)) (none)) (none)) (none)) (none)) (none)) (cond (Ops.inb B (IntKind.wrap .i64 (Nat.cast (List.length v0_2)-2)) (List.length v0_2)) (cond (Ops.inb B (IntKind.wrap .i64 (Nat.cast (List.length v0_2)-1)) (List.length v0_2)) (ob (c146 ((List.getD v0_2 (Int.toNat (IntKind.wrap .i64 (Nat.cast (List.length v0_2)-2))) (Ty.dflt ty176)).1) ((List.getD v0_2 (Int.toNat (IntKind.wrap .i64 (Nat.cast (List.length v0_2)-2))) (Ty.dflt ty176)).2) y0) fun y3=>cond (Ops.lim B (List.length y3+List.length y1) (1)) (ob (c146 ((List.getD v0_2 (Int.toNat (IntKind.wrap .i64 (Nat.cast (List.length v0_2)-1))) (Ty.dflt ty176)).1) ((List.getD v0_2 (Int.toNat (IntKind.wrap .i64 (Nat.cast (List.length v0_2)-1))) (Ty.dflt ty176)).2) (IntKind.wrap .i64 (y0+1))) fun y4=>cond (Ops.lim B (List.length (y3++y1)+List.length y4) (1)) (cond (Ops.eq B (IntKind.wrap .i64 (Nat.cast (List.length v0_2)-2)) (IntKind.wrap .i64 (Nat.cast (List.length v0_2)-2))) (cond (Ops.inb B (IntKind.wrap .i64 (Nat.cast (List.length v0_2)-2)) (List.length v0_2+1)) (cond (Ops.lt B (0) (Nat.cast (List.length ((y3++y1++y4,y0)::mt (Ty.den ty176))))) (cond (Ops.lim B (List.length (List.take (Int.toNat (IntKind.wrap .i64 (Nat.cast (List.length v0_2)-2))) v0_2)+List.length ((y3++y1++y4,y0)::mt (Ty.den ty176))) (24)) (again (.l0 (IntKind.wrap .i64 (v0_1+1)) (List.take (Int.toNat (IntKind.wrap .i64 (Nat.cast (List.length v0_2)-2))) v0_2++(y3++y1++y4,y0)::mt (Ty.den ty176)))) (none)) (none)) (none)) (none)) (none)) (none)) (none)) (none))))))) (none)) (none)) (none)) (cond (Ops.eq B (Nat.cast (List.length v0_2)) (0)) (k (mt UInt8)) (cond (Ops.inb B (0) (List.length v0_2)) (k ((List.getD v0_2 (Int.toNat (0)) (Ty.dflt ty176)).1)) (none)))
def E85 (p0:L66):S85→List AV×Objs
 | .l0 v0_1 v0_2=>(mk 135 [(0,.c (.list 66 ty66 p0)),(3,.c (.own 3)),(4,.c (.int .i64 v0_1))],[(3,.row 176 ty176 v0_2)])
def I85:S85→Nat
 | .l0 _ _=>0
theorem eq85 {R:Type} (B:Ops) (c63:C63) (c143:C143) (c144:C144) (c73:C73) (c145:C145) (c146:C146) (p0:L66) (k:AV→Objs→Option R) (n:Nat):afun tau B gl0 X85 (ent 63 (e63 c63) (ent 143 (e143 c143) (ent 144 (e144 c144) (ent 73 (e73 c73) (ent 145 (e145 c145) (ent 146 (e146 c146) (gnil))))))) ow Tryz.f85 [.c (.list 66 ty66 p0)] [] k n=T85 B c63 c143 c144 c73 c145 c146 p0 (fun s=>aloop tau B gl0 X85 (ent 63 (e63 c63) (ent 143 (e143 c143) (ent 144 (e144 c144) (ent 73 (e73 c73) (ent 145 (e145 c145) (ent 146 (e146 c146) (gnil))))))) ow [] Tryz.f85 k (I85 s) (E85 p0 s) n) (fun y=>k (.c (.str y)) []) none:=by kernel_rfl
theorem el85 {R:Type} (B:Ops) (c63:C63) (c143:C143) (c144:C144) (c73:C73) (c145:C145) (c146:C146) (p0:L66) (k:AV→Objs→Option R) (n:Nat):∀ s,aloop tau B gl0 X85 (ent 63 (e63 c63) (ent 143 (e143 c143) (ent 144 (e144 c144) (ent 73 (e73 c73) (ent 145 (e145 c145) (ent 146 (e146 c146) (gnil))))))) ow [] Tryz.f85 k (I85 s) (E85 p0 s) (n+1)=T85 B c63 c143 c144 c73 c145 c146 p0 (fun s=>aloop tau B gl0 X85 (ent 63 (e63 c63) (ent 143 (e143 c143) (ent 144 (e144 c144) (ent 73 (e73 c73) (ent 145 (e145 c145) (ent 146 (e146 c146) (gnil))))))) ow [] Tryz.f85 k (I85 s) (E85 p0 s) n) (fun y=>k (.c (.str y)) []) (some s)
 | .l0 v0_1 v0_2=>by kernel_rfl
theorem nt85 {R R':Type} (B:Ops) (c63:C63) (c143:C143) (c144:C144) (c73:C73) (c145:C145) (c146:C146) (p0:L66) (again:S85→Option R) (again':S85→Option R') (k0:(LB)→Option R') (k:R'→Option R) (h:∀ s,again s=ob (again' s) k):∀ s,T85 B c63 c143 c144 c73 c145 c146 p0 again (fun y=>ob (k0 y) k) s=ob (T85 B c63 c143 c144 c73 c145 c146 p0 again' k0 s) k
 | none=>by unfold T85;repeat' first | exact rfl | exact h _ | apply qac | (apply qah;intro)
 | some (.l0 v0_1 v0_2)=>by unfold T85;repeat' first | exact rfl | exact h _ | apply qac | (apply qah;intro)
def R85 (c63:C63) (c143:C143) (c144:C144) (c73:C73) (c145:C145) (c146:C146) (p0:L66):Nat→S85→Option (LB)
 | 0,_=>none
 | n+1,s=>T85 Ops.std c63 c143 c144 c73 c145 c146 p0 (R85 c63 c143 c144 c73 c145 c146 p0 n) some (some s)
theorem rr85 {R:Type} (c63:C63) (c143:C143) (c144:C144) (c73:C73) (c145:C145) (c146:C146) (p0:L66) (k:AV→Objs→Option R):∀ (n:Nat) (s:S85),aloop tau Ops.std gl0 X85 (ent 63 (e63 c63) (ent 143 (e143 c143) (ent 144 (e144 c144) (ent 73 (e73 c73) (ent 145 (e145 c145) (ent 146 (e146 c146) (gnil))))))) ow [] Tryz.f85 k (I85 s) (E85 p0 s) n=ob (R85 c63 c143 c144 c73 c145 c146 p0 n s) (fun y=>k (.c (.str y)) [])
 | 0,s=>by cases s<;>rfl
 | n+1,s=>by rw [el85];exact nt85 Ops.std c63 c143 c144 c73 c145 c146 p0 _ _ some (fun y=>k (.c (.str y)) []) (rr85 c63 c143 c144 c73 c145 c146 p0 k n) (some s)
def F85 (c63:C63) (c143:C143) (c144:C144) (c73:C73) (c145:C145) (c146:C146) (p0:L66):Option (LB):=T85 Ops.std c63 c143 c144 c73 c145 c146 p0 (R85 c63 c143 c144 c73 c145 c146 p0 1000000) some none
theorem fo85 {R:Type} (c63:C63) (c143:C143) (c144:C144) (c73:C73) (c145:C145) (c146:C146) (p0:L66) (k:AV→Objs→Option R):afun tau Ops.std gl0 X85 (ent 63 (e63 c63) (ent 143 (e143 c143) (ent 144 (e144 c144) (ent 73 (e73 c73) (ent 145 (e145 c145) (ent 146 (e146 c146) (gnil))))))) ow Tryz.f85 [.c (.list 66 ty66 p0)] [] k 1000000=ob (F85 c63 c143 c144 c73 c145 c146 p0) (fun y=>k (.c (.str y)) []):=by rw [eq85];exact nt85 Ops.std c63 c143 c144 c73 c145 c146 p0 _ _ some (fun y=>k (.c (.str y)) []) (rr85 c63 c143 c144 c73 c145 c146 p0 k 1000000) none
def e85 {R:Type} (c:L66→Option (LB)):Ent R:=fun args objs k=>
 oCons args fun a0 l0=>oC a0 fun x0=>cList 66 ty66 x0 fun p0=>oNil l0 <| oNilO objs <| ob (c p0) fun y=>k (.c (.str y)) []
abbrev Sp85 (c:L66→Option (LB)):Prop:=∀ (p0:L66) (y:LB),c p0=some y→Spec Tryz.prog gl0 85 [.c (.list 66 ty66 p0)] [] (.c (.str y)) []
theorem ek85 {R:Type} {c:L66→Option (LB)} (hs:Sp85 c):EOk 85 (e85 (R:=R) c):=fun args objs k r h=>by
 unfold e85 at h
 obtain ⟨a0,l0,rfl,q1⟩:=qaa h
 obtain ⟨x0,rfl,q2⟩:=qaj q1
 obtain ⟨p0,rfl,q3⟩:=qae q2
 obtain ⟨rfl,q4⟩:=qag q3
 obtain ⟨rfl,q5⟩:=qaf q4
 exact qar (hs p0) q5
theorem sf85 {c63:C63} {c143:C143} {c144:C144} {c73:C73} {c145:C145} {c146:C146} (h63:Sp63 c63) (h143:Sp143 c143) (h144:Sp144 c144) (h73:Sp73 c73) (h145:Sp145 c145) (h146:Sp146 c146):Sp85 (F85 c63 c143 c144 c73 c145 c146):=fun p0 y hy=>by
 refine qap (G:=ent 63 (e63 c63) (ent 143 (e143 c143) (ent 144 (e144 c144) (ent 73 (e73 c73) (ent 145 (e145 c145) (ent 146 (e146 c146) (gnil))))))) (qai (ek63 h63) (qai (ek143 h143) (qai (ek144 h144) (qai (ek73 h73) (qai (ek145 h145) (qai (ek146 h146) (qao))))))) 1000000 (fn:=Tryz.f85) (by kernel_rfl) (by kernel_rfl) (X:=X85) (by kernel_rfl) ?_
 rw [fo85,hy]
 rfl
noncomputable def M85:L66→Option (LB):=F85 M63 M143 M144 M73 M145 M146
theorem sm85:Sp85 M85:=sf85 sm63 sm143 sm144 sm73 sm145 sm146
def X46:Aux:=⟨[],[]⟩
abbrev C14:Type:=LB→Option (L66)
abbrev C17:Type:=L66→Option (L66)
abbrev C85:Type:=L66→Option (LB)
def T46 {R:Type} (B:Ops) (c14:C14) (c17:C17) (c85:C85) (p0:LB) (p1:LB) (k:(Bool)→Option R):Option R:=ob (c14 p0) fun y0=>ob (c17 y0) fun y1=>ob (c85 y1) fun y2=>k (y2 == p1)
theorem eq46 {R:Type} (B:Ops) (c14:C14) (c17:C17) (c85:C85) (p0:LB) (p1:LB) (k:AV→Objs→Option R) (n:Nat):afun tau B gl0 X46 (ent 14 (e14 c14) (ent 17 (e17 c17) (ent 85 (e85 c85) (gnil)))) ow Tryz.f46 [.c (.str p0),.c (.str p1)] [] k n=T46 B c14 c17 c85 p0 p1 (fun y=>k (.c (.bool y)) []):=by kernel_rfl
theorem nt46 {R R':Type} (B:Ops) (c14:C14) (c17:C17) (c85:C85) (p0:LB) (p1:LB) (k0:(Bool)→Option R') (k:R'→Option R):T46 B c14 c17 c85 p0 p1 (fun y=>ob (k0 y) k)=ob (T46 B c14 c17 c85 p0 p1 k0) k:=by
 unfold T46
 repeat' first | exact rfl | apply qac | (apply qah;intro)
def F46 (c14:C14) (c17:C17) (c85:C85) (p0:LB) (p1:LB):Option (Bool):=T46 Ops.std c14 c17 c85 p0 p1 some
theorem fo46 {R:Type} (c14:C14) (c17:C17) (c85:C85) (p0:LB) (p1:LB) (k:AV→Objs→Option R) (n:Nat):afun tau Ops.std gl0 X46 (ent 14 (e14 c14) (ent 17 (e17 c17) (ent 85 (e85 c85) (gnil)))) ow Tryz.f46 [.c (.str p0),.c (.str p1)] [] k n=ob (F46 c14 c17 c85 p0 p1) (fun y=>k (.c (.bool y)) []):=by rw [eq46];exact nt46 Ops.std c14 c17 c85 p0 p1 some (fun y=>k (.c (.bool y)) [])
def e46 {R:Type} (c:LB→LB→Option (Bool)):Ent R:=fun args objs k=>
 oCons args fun a0 l0=>oC a0 fun x0=>cStr x0 fun p0=>oCons l0 fun a1 l1=>oC a1 fun x1=>cStr x1 fun p1=>oNil l1 <| oNilO objs <| ob (c p0 p1) fun y=>k (.c (.bool y)) []
abbrev Sp46 (c:LB→LB→Option (Bool)):Prop:=∀ (p0:LB) (p1:LB) (y:Bool),c p0 p1=some y→Spec Tryz.prog gl0 46 [.c (.str p0),.c (.str p1)] [] (.c (.bool y)) []
theorem ek46 {R:Type} {c:LB→LB→Option (Bool)} (hs:Sp46 c):EOk 46 (e46 (R:=R) c):=fun args objs k r h=>by
 unfold e46 at h
 obtain ⟨a0,l0,rfl,q1⟩:=qaa h
 obtain ⟨x0,rfl,q2⟩:=qaj q1
 obtain ⟨p0,rfl,q3⟩:=qav q2
 obtain ⟨a1,l1,rfl,q4⟩:=qaa q3
 obtain ⟨x1,rfl,q5⟩:=qaj q4
 obtain ⟨p1,rfl,q6⟩:=qav q5
 obtain ⟨rfl,q7⟩:=qag q6
 obtain ⟨rfl,q8⟩:=qaf q7
 exact qar (hs p0 p1) q8
theorem sf46 {c14:C14} {c17:C17} {c85:C85} (h14:Sp14 c14) (h17:Sp17 c17) (h85:Sp85 c85):Sp46 (F46 c14 c17 c85):=fun p0 p1 y hy=>by
 refine qap (G:=ent 14 (e14 c14) (ent 17 (e17 c17) (ent 85 (e85 c85) (gnil)))) (qai (ek14 h14) (qai (ek17 h17) (qai (ek85 h85) (qao)))) 1000000 (fn:=Tryz.f46) (by kernel_rfl) (by kernel_rfl) (X:=X46) (by kernel_rfl) ?_
 rw [fo46,hy]
 rfl
noncomputable def M46:LB→LB→Option (Bool):=F46 M14 M17 M85
theorem sm46:Sp46 M46:=sf46 sm14 sm17 sm85
def X11:Aux:=⟨[],[]⟩
abbrev C46:Type:=LB→LB→Option (Bool)
def T11 {R:Type} (B:Ops) (c46:C46) (k:(Bool)→Option R):Option R:=ob (c46 ([116,114,117,101,32,38,38,32,88,32,102,97,108,115,101]:LB) ([102,97,108,115,101]:LB)) fun y0=>cond (y0) (ob (c46 ([91,120,93]:LB) ([91,120,93]:LB)) fun y1=>k y1) (k false)
theorem eq11 {R:Type} (B:Ops) (c46:C46) (k:AV→Objs→Option R) (n:Nat):afun tau B gl0 X11 (ent 46 (e46 c46) (gnil)) ow Tryz.f11 [] [] k n=T11 B c46 (fun y=>k (.c (.bool y)) []):=by kernel_rfl
theorem nt11 {R R':Type} (B:Ops) (c46:C46) (k0:(Bool)→Option R') (k:R'→Option R):T11 B c46 (fun y=>ob (k0 y) k)=ob (T11 B c46 k0) k:=by
 unfold T11
 repeat' first | exact rfl | apply qac | (apply qah;intro)
def F11 (c46:C46):Option (Bool):=T11 Ops.std c46 some
theorem fo11 {R:Type} (c46:C46) (k:AV→Objs→Option R) (n:Nat):afun tau Ops.std gl0 X11 (ent 46 (e46 c46) (gnil)) ow Tryz.f11 [] [] k n=ob (F11 c46) (fun y=>k (.c (.bool y)) []):=by rw [eq11];exact nt11 Ops.std c46 some (fun y=>k (.c (.bool y)) [])
def e11 {R:Type} (c:Option (Bool)):Ent R:=fun args objs k=>
 oNil args <| oNilO objs <| ob (c ) fun y=>k (.c (.bool y)) []
abbrev Sp11 (c:Option (Bool)):Prop:=∀ (y:Bool),c=some y→Spec Tryz.prog gl0 11 [] [] (.c (.bool y)) []
theorem ek11 {R:Type} {c:Option (Bool)} (hs:Sp11 c):EOk 11 (e11 (R:=R) c):=fun args objs k r h=>by
 unfold e11 at h
 obtain ⟨rfl,q1⟩:=qag h
 obtain ⟨rfl,q2⟩:=qaf q1
 exact qar (hs ) q2
theorem sf11 {c46:C46} (h46:Sp46 c46):Sp11 (F11 c46):=fun y hy=>by
 refine qap (G:=ent 46 (e46 c46) (gnil)) (qai (ek46 h46) (qao)) 1000000 (fn:=Tryz.f11) (by kernel_rfl) (by kernel_rfl) (X:=X11) (by kernel_rfl) ?_
 rw [fo11,hy]
 rfl
noncomputable def M11:Option (Bool):=F11 M46
theorem sm11:Sp11 M11:=sf11 sm46
def e50 {R:Type} (c:Int→L3→Int→Option (LB×L3×Int)):Ent R:=fun args objs k=>
 oCons args fun a0 l0=>oC a0 fun x0=>cPtr 0 x0 <| oCons l0 fun a1 l1=>oC a1 fun x1=>cInt .i64 x1 fun p0=>oNil l1 <| oBox 0 86 objs fun b0 o0=>cCons b0 fun u0_0 v0_0=>cList 3 ty3 u0_0 fun p1=>cCons v0_0 fun u0_1 v0_1=>cInt .i64 u0_1 fun p2=>cNil v0_1 <| oNilO o0 <| ob (c p0 p1 p2) fun y=>k (.c (.str y.1)) [(0,.box 86 [.list 3 ty3 y.2.1,.int .i64 y.2.2])]
abbrev Sp50 (c:Int→L3→Int→Option (LB×L3×Int)):Prop:=∀ (p0:Int) (p1:L3) (p2:Int) (y:LB×L3×Int),c p0 p1 p2=some y→Spec Tryz.prog gl0 50 [.c (.ptr 0 0),.c (.int .i64 p0)] [(0,.box 86 [.list 3 ty3 p1,.int .i64 p2])] (.c (.str y.1)) [(0,.box 86 [.list 3 ty3 y.2.1,.int .i64 y.2.2])]
theorem ek50 {R:Type} {c:Int→L3→Int→Option (LB×L3×Int)} (hs:Sp50 c):EOk 50 (e50 (R:=R) c):=fun args objs k r h=>by
 unfold e50 at h
 obtain ⟨a0,l0,rfl,q1⟩:=qaa h
 obtain ⟨x0,rfl,q2⟩:=qaj q1
 obtain ⟨rfl,q3⟩:=qa4 q2
 obtain ⟨a1,l1,rfl,q4⟩:=qaa q3
 obtain ⟨x1,rfl,q5⟩:=qaj q4
 obtain ⟨p0,rfl,q6⟩:=qal q5
 obtain ⟨rfl,q7⟩:=qag q6
 obtain ⟨b0,o0,rfl,q8⟩:=qa5 q7
 obtain ⟨u0_0,v0_0,rfl,q9⟩:=qad q8
 obtain ⟨p1,rfl,q10⟩:=qae q9
 obtain ⟨u0_1,v0_1,rfl,q11⟩:=qad q10
 obtain ⟨p2,rfl,q12⟩:=qal q11
 obtain ⟨rfl,q13⟩:=qat q12
 obtain ⟨rfl,q14⟩:=qaf q13
 exact qar (hs p0 p1 p2) q14
def X50:Aux:=⟨[(1000004,([2,3,4]++rg 6 105))],[(11,.lin ([0,1,2,5,6,10,11,12,3,4,7,8,9,13,14,15,16])),(13,.lin ([0,1,2,5,6,10,11,12,3,4,7,8,9,13,14,15,16]))]⟩
inductive S50 where
 | l1004 (v1004_1:Int) (v1004_2:L3) (v1004_3:Int)
abbrev C50:Type:=Int→L3→Int→Option (LB×L3×Int)
def T50 {R:Type} (B:Ops) (c94:C94) (c50:C50) (p0:Int) (p1:L3) (p2:Int) (again:S50→Option R) (k:(LB×L3×Int)→Option R):Option S50→Option R | none=>ob (c94 (22) p1 p2) fun y0=>cond (Ops.lt B (2) p0) (cond (Ops.eq B (4) (0)) (none) (again (.l1004 (IntKind.wrap .i64 (18+Int.tmod y0.1 (4))) y0.2.1 y0.2.2))) (cond (Ops.lt B (9) y0.2.2) (cond (Ops.eq B (4) (0)) (none) (again (.l1004 (IntKind.wrap .i64 (18+Int.tmod y0.1 (4))) y0.2.1 y0.2.2))) (again (.l1004 y0.1 y0.2.1 y0.2.2))) | some (.l1004 v1004_1 v1004_2 v1004_3)=>cond (Ops.lt B v1004_1 (3)) (ob (c50 (IntKind.wrap .i64 (p0+1)) v1004_2 v1004_3) fun y0=>cond (Ops.lim B (3+List.length y0.1) (1)) (cond (Ops.lim B (List.length (([71,32,40]:LB)++y0.1)+1) (1)) (k ((([71,32,40]:LB)++y0.1++([41]:LB),y0.2.1,y0.2.2))) (none)) (none)) (cond (Ops.lt B v1004_1 (6)) (ob (c50 (IntKind.wrap .i64 (p0+1)) v1004_2 v1004_3) fun y0=>cond (Ops.lim B (3+List.length y0.1) (1)) (cond (Ops.lim B (List.length (([70,32,40]:LB)++y0.1)+1) (1)) (k ((([70,32,40]:LB)++y0.1++([41]:LB),y0.2.1,y0.2.2))) (none)) (none)) (cond (Ops.lt B v1004_1 (8)) (ob (c50 (IntKind.wrap .i64 (p0+1)) v1004_2 v1004_3) fun y0=>cond (Ops.lim B (2+List.length y0.1) (1)) (k ((([88,32]:LB)++y0.1,y0.2.1,y0.2.2))) (none)) (cond (Ops.lt B v1004_1 (11)) (ob (c50 (IntKind.wrap .i64 (p0+1)) v1004_2 v1004_3) fun y0=>cond (Ops.lim B (1+List.length y0.1) (1)) (ob (c94 (2) y0.2.1 y0.2.2) fun y1=>cond (Ops.inb B y1.1 (2)) (cond (Ops.lim B (List.length (([40]:LB)++y0.1)+List.length (List.getD (([32,85,32]:LB)::([32,82,32]:LB)::mt LB) (Int.toNat y1.1) (mt UInt8))) (1)) (ob (c50 (IntKind.wrap .i64 (p0+1)) y1.2.1 y1.2.2) fun y2=>cond (Ops.lim B (List.length (([40]:LB)++y0.1++List.getD (([32,85,32]:LB)::([32,82,32]:LB)::mt LB) (Int.toNat y1.1) (mt UInt8))+List.length y2.1) (1)) (cond (Ops.lim B (List.length (([40]:LB)++y0.1++List.getD (([32,85,32]:LB)::([32,82,32]:LB)::mt LB) (Int.toNat y1.1) (mt UInt8)++y2.1)+1) (1)) (k ((([40]:LB)++y0.1++List.getD (([32,85,32]:LB)::([32,82,32]:LB)::mt LB) (Int.toNat y1.1) (mt UInt8)++y2.1++([41]:LB),y2.2.1,y2.2.2))) (none)) (none)) (none)) (none)) (none)) (cond (Ops.lt B v1004_1 (15)) (ob (c50 (IntKind.wrap .i64 (p0+1)) v1004_2 v1004_3) fun y0=>cond (Ops.lim B (1+List.length y0.1) (1)) (ob (c94 (3) y0.2.1 y0.2.2) fun y1=>cond (Ops.inb B y1.1 (3)) (cond (Ops.lim B (List.length (([40]:LB)++y0.1)+List.length (List.getD (([32,38,38,32]:LB)::([32,124,124,32]:LB)::([32,45,62,32]:LB)::mt LB) (Int.toNat y1.1) (mt UInt8))) (1)) (ob (c50 (IntKind.wrap .i64 (p0+1)) y1.2.1 y1.2.2) fun y2=>cond (Ops.lim B (List.length (([40]:LB)++y0.1++List.getD (([32,38,38,32]:LB)::([32,124,124,32]:LB)::([32,45,62,32]:LB)::mt LB) (Int.toNat y1.1) (mt UInt8))+List.length y2.1) (1)) (cond (Ops.lim B (List.length (([40]:LB)++y0.1++List.getD (([32,38,38,32]:LB)::([32,124,124,32]:LB)::([32,45,62,32]:LB)::mt LB) (Int.toNat y1.1) (mt UInt8)++y2.1)+1) (1)) (k ((([40]:LB)++y0.1++List.getD (([32,38,38,32]:LB)::([32,124,124,32]:LB)::([32,45,62,32]:LB)::mt LB) (Int.toNat y1.1) (mt UInt8)++y2.1++([41]:LB),y2.2.1,y2.2.2))) (none)) (none)) (none)) (none)) (none)) (cond (Ops.lt B v1004_1 (17)) (ob (c50 (IntKind.wrap .i64 (p0+1)) v1004_2 v1004_3) fun y0=>cond (Ops.lim B (1+List.length y0.1) (1)) (k ((([33]:LB)++y0.1,y0.2.1,y0.2.2))) (none)) (cond (Ops.eq B v1004_1 (17)) (ob (c50 (IntKind.wrap .i64 (p0+1)) v1004_2 v1004_3) fun y0=>cond (Ops.lim B (4+List.length y0.1) (1)) (k ((([71,32,70,32]:LB)++y0.1,y0.2.1,y0.2.2))) (none)) (cond (Ops.eq B v1004_1 (18)) (ob (c94 (2) v1004_2 v1004_3) fun y0=>cond (Ops.inb B y0.1 (2)) (k ((List.getD (([116,114,117,101]:LB)::([102,97,108,115,101]:LB)::mt LB) (Int.toNat y0.1) (mt UInt8),y0.2.1,y0.2.2))) (none)) (ob (c94 (6) v1004_2 v1004_3) fun y0=>cond (Ops.inb B y0.1 (6)) (k ((List.getD (([91,120,61,61,49,93]:LB)::([91,112,64,97,93]:LB)::([91,121,60,49,93]:LB)::([91,113,64,98,38,38,120,62,48,93]:LB)::([91,120,61,61,121,93]:LB)::([91,112,64,98,93]:LB)::mt LB) (Int.toNat y0.1) (mt UInt8),y0.2.1,y0.2.2))) (none)))))))))
def E50 (p0:Int) (p1:L3) (p2:Int):S50→List AV×Objs
 | .l1004 v1004_1 v1004_2 v1004_3=>(mk 111 [(0,.c (.ptr 0 0)),(1,.c (.int .i64 p0)),(5,.c (.int .i64 v1004_1))],[(0,.box 86 [.list 3 ty3 v1004_2,.int .i64 v1004_3])])
def I50:S50→Nat
 | .l1004 _ _ _=>1004
theorem eq50 {R:Type} (B:Ops) (c94:C94) (c50:C50) (p0:Int) (p1:L3) (p2:Int) (k:AV→Objs→Option R) (n:Nat):afun tau B gl0 X50 (ent 94 (e94 c94) (ent 50 (e50 c50) (gnil))) ow Tryz.f50 [.c (.ptr 0 0),.c (.int .i64 p0)] [(0,.box 86 [.list 3 ty3 p1,.int .i64 p2])] k n=T50 B c94 c50 p0 p1 p2 (fun s=>aloop tau B gl0 X50 (ent 94 (e94 c94) (ent 50 (e50 c50) (gnil))) ow [0] Tryz.f50 k (I50 s) (E50 p0 p1 p2 s) n) (fun y=>k (.c (.str y.1)) [(0,.box 86 [.list 3 ty3 y.2.1,.int .i64 y.2.2])]) none:=by kernel_rfl
theorem el50 {R:Type} (B:Ops) (c94:C94) (c50:C50) (p0:Int) (p1:L3) (p2:Int) (k:AV→Objs→Option R) (n:Nat):∀ s,aloop tau B gl0 X50 (ent 94 (e94 c94) (ent 50 (e50 c50) (gnil))) ow [0] Tryz.f50 k (I50 s) (E50 p0 p1 p2 s) (n+1)=T50 B c94 c50 p0 p1 p2 (fun s=>aloop tau B gl0 X50 (ent 94 (e94 c94) (ent 50 (e50 c50) (gnil))) ow [0] Tryz.f50 k (I50 s) (E50 p0 p1 p2 s) n) (fun y=>k (.c (.str y.1)) [(0,.box 86 [.list 3 ty3 y.2.1,.int .i64 y.2.2])]) (some s)
 | .l1004 v1004_1 v1004_2 v1004_3=>by kernel_rfl
theorem nt50 {R R':Type} (B:Ops) (c94:C94) (c50:C50) (p0:Int) (p1:L3) (p2:Int) (again:S50→Option R) (again':S50→Option R') (k0:(LB×L3×Int)→Option R') (k:R'→Option R) (h:∀ s,again s=ob (again' s) k):∀ s,T50 B c94 c50 p0 p1 p2 again (fun y=>ob (k0 y) k) s=ob (T50 B c94 c50 p0 p1 p2 again' k0 s) k
 | none=>by unfold T50;repeat' first | exact rfl | exact h _ | apply qac | (apply qah;intro)
 | some (.l1004 v1004_1 v1004_2 v1004_3)=>by unfold T50;repeat' first | exact rfl | exact h _ | apply qac | (apply qah;intro)
def R50 (c94:C94) (c50:C50) (p0:Int) (p1:L3) (p2:Int):Nat→S50→Option (LB×L3×Int)
 | 0,_=>none
 | n+1,s=>T50 Ops.std c94 c50 p0 p1 p2 (R50 c94 c50 p0 p1 p2 n) some (some s)
theorem rr50 {R:Type} (c94:C94) (c50:C50) (p0:Int) (p1:L3) (p2:Int) (k:AV→Objs→Option R):∀ (n:Nat) (s:S50),aloop tau Ops.std gl0 X50 (ent 94 (e94 c94) (ent 50 (e50 c50) (gnil))) ow [0] Tryz.f50 k (I50 s) (E50 p0 p1 p2 s) n=ob (R50 c94 c50 p0 p1 p2 n s) (fun y=>k (.c (.str y.1)) [(0,.box 86 [.list 3 ty3 y.2.1,.int .i64 y.2.2])])
 | 0,s=>by cases s<;>rfl
 | n+1,s=>by rw [el50];exact nt50 Ops.std c94 c50 p0 p1 p2 _ _ some (fun y=>k (.c (.str y.1)) [(0,.box 86 [.list 3 ty3 y.2.1,.int .i64 y.2.2])]) (rr50 c94 c50 p0 p1 p2 k n) (some s)
def F50 (c94:C94) (c50:C50) (p0:Int) (p1:L3) (p2:Int):Option (LB×L3×Int):=T50 Ops.std c94 c50 p0 p1 p2 (R50 c94 c50 p0 p1 p2 1000000) some none
theorem fo50 {R:Type} (c94:C94) (c50:C50) (p0:Int) (p1:L3) (p2:Int) (k:AV→Objs→Option R):afun tau Ops.std gl0 X50 (ent 94 (e94 c94) (ent 50 (e50 c50) (gnil))) ow Tryz.f50 [.c (.ptr 0 0),.c (.int .i64 p0)] [(0,.box 86 [.list 3 ty3 p1,.int .i64 p2])] k 1000000=ob (F50 c94 c50 p0 p1 p2) (fun y=>k (.c (.str y.1)) [(0,.box 86 [.list 3 ty3 y.2.1,.int .i64 y.2.2])]):=by rw [eq50];exact nt50 Ops.std c94 c50 p0 p1 p2 _ _ some (fun y=>k (.c (.str y.1)) [(0,.box 86 [.list 3 ty3 y.2.1,.int .i64 y.2.2])]) (rr50 c94 c50 p0 p1 p2 k 1000000) none
theorem sf50 {c94:C94} {c50:C50} (h94:Sp94 c94) (h50:Sp50 c50):Sp50 (F50 c94 c50):=fun p0 p1 p2 y hy=>by
 refine qap (G:=ent 94 (e94 c94) (ent 50 (e50 c50) (gnil))) (qai (ek94 h94) (qai (ek50 h50) (qao))) 1000000 (fn:=Tryz.f50) (by kernel_rfl) (by kernel_rfl) (X:=X50) (by kernel_rfl) ?_
 rw [fo50,hy]
 rfl
noncomputable def Rec50:Nat→(Int→L3→Int→Option (LB×L3×Int))
 | 0=>fun _ _ _=>none
 | d+1=>F50 M94 (Rec50 d)
theorem rec50:∀ d,Sp50 (Rec50 d)
 | 0=>fun p0 p1 p2 y (h:(none:Option (LB×L3×Int))=some y)=>by cases h
 | d+1=>sf50 sm94 (rec50 d)
noncomputable def M50:Int→L3→Int→Option (LB×L3×Int):=(Rec50 1000000)
theorem sm50:Sp50 M50:=(rec50 1000000)
def X15:Aux:=⟨[],[]⟩
def T15 {R:Type} (B:Ops) (c50:C50) (p0:L3) (k:(LB)→Option R):Option R:=ob (c50 (0) p0 (0)) fun y0=>k y0.1
theorem eq15 {R:Type} (B:Ops) (c50:C50) (p0:L3) (k:AV→Objs→Option R) (n:Nat):afun tau B gl0 X15 (ent 50 (e50 c50) (gnil)) ow Tryz.f15 [.c (.list 3 ty3 p0)] [] k n=T15 B c50 p0 (fun y=>k (.c (.str y)) []):=by kernel_rfl
theorem nt15 {R R':Type} (B:Ops) (c50:C50) (p0:L3) (k0:(LB)→Option R') (k:R'→Option R):T15 B c50 p0 (fun y=>ob (k0 y) k)=ob (T15 B c50 p0 k0) k:=by
 unfold T15
 repeat' first | exact rfl | apply qac | (apply qah;intro)
def F15 (c50:C50) (p0:L3):Option (LB):=T15 Ops.std c50 p0 some
theorem fo15 {R:Type} (c50:C50) (p0:L3) (k:AV→Objs→Option R) (n:Nat):afun tau Ops.std gl0 X15 (ent 50 (e50 c50) (gnil)) ow Tryz.f15 [.c (.list 3 ty3 p0)] [] k n=ob (F15 c50 p0) (fun y=>k (.c (.str y)) []):=by rw [eq15];exact nt15 Ops.std c50 p0 some (fun y=>k (.c (.str y)) [])
def e15 {R:Type} (c:L3→Option (LB)):Ent R:=fun args objs k=>
 oCons args fun a0 l0=>oC a0 fun x0=>cList 3 ty3 x0 fun p0=>oNil l0 <| oNilO objs <| ob (c p0) fun y=>k (.c (.str y)) []
abbrev Sp15 (c:L3→Option (LB)):Prop:=∀ (p0:L3) (y:LB),c p0=some y→Spec Tryz.prog gl0 15 [.c (.list 3 ty3 p0)] [] (.c (.str y)) []
theorem ek15 {R:Type} {c:L3→Option (LB)} (hs:Sp15 c):EOk 15 (e15 (R:=R) c):=fun args objs k r h=>by
 unfold e15 at h
 obtain ⟨a0,l0,rfl,q1⟩:=qaa h
 obtain ⟨x0,rfl,q2⟩:=qaj q1
 obtain ⟨p0,rfl,q3⟩:=qae q2
 obtain ⟨rfl,q4⟩:=qag q3
 obtain ⟨rfl,q5⟩:=qaf q4
 exact qar (hs p0) q5
theorem sf15 {c50:C50} (h50:Sp50 c50):Sp15 (F15 c50):=fun p0 y hy=>by
 refine qap (G:=ent 50 (e50 c50) (gnil)) (qai (ek50 h50) (qao)) 1000000 (fn:=Tryz.f15) (by kernel_rfl) (by kernel_rfl) (X:=X15) (by kernel_rfl) ?_
 rw [fo15,hy]
 rfl
noncomputable def M15:L3→Option (LB):=F15 M50
theorem sm15:Sp15 M15:=sf15 sm50
def X37:Aux:=⟨[(6,([1,2]++rg 6 37))],[]⟩
inductive S37 where
 | l0 (v0_1:Int) (v0_2:L22) (v0_3:L3)
def T37 {R:Type} (B:Ops) (c63:C63) (c73:C73) (p0:L66) (again:S37→Option R) (k:(L22)→Option R):Option S37→Option R | none=>ob (c63 p0) fun y0=>cond (!y0) (k (mt (Ty.den ty22))) (again (.l0 0 (mt (Ty.den ty22)) (mt (Ty.den (Ty.int .i64))))) | some (.l0 v0_1 v0_2 v0_3)=>cond (Ops.lt B v0_1 (Nat.cast (List.length p0))) (cond (Ops.inb B v0_1 (List.length p0)) (ob (c73 ((List.getD p0 (Int.toNat v0_1) (Ty.dflt ty66)).1)) fun y0=>cond (Ops.lt B (IntKind.wrap .i64 (Nat.cast (List.length v0_3)-y0)) (0)) (k (mt (Ty.den ty22))) (cond (Ops.inb B (IntKind.wrap .i64 (Nat.cast (List.length v0_3)-y0)) (List.length v0_3+1)) (cond (Ops.lim B (List.length (mt (Ty.den (Ty.int .i64)))+List.length (List.drop (Int.toNat (IntKind.wrap .i64 (Nat.cast (List.length v0_3)-y0))) (List.take (List.length v0_3) v0_3))) (8)) (cond (Ops.lim B (List.length v0_2+List.length ((mt (Ty.den (Ty.int .i64))++List.drop (Int.toNat (IntKind.wrap .i64 (Nat.cast (List.length v0_3)-y0))) (List.take (List.length v0_3) v0_3))::mt (Ty.den ty22))) (24)) (cond (Ops.eq B (IntKind.wrap .i64 (Nat.cast (List.length v0_3)-y0)) (IntKind.wrap .i64 (Nat.cast (List.length v0_3)-y0))) (cond (Ops.inb B (IntKind.wrap .i64 (Nat.cast (List.length v0_3)-y0)) (List.length v0_3+1)) (cond (Ops.lt B (0) (Nat.cast (List.length (v0_1::mt (Ty.den (Ty.int .i64)))))) (cond (Ops.lim B (List.length (List.take (Int.toNat (IntKind.wrap .i64 (Nat.cast (List.length v0_3)-y0))) v0_3)+List.length (v0_1::mt (Ty.den (Ty.int .i64)))) (8)) (again (.l0 (IntKind.wrap .i64 (v0_1+1)) (v0_2++(mt (Ty.den (Ty.int .i64))++List.drop (Int.toNat (IntKind.wrap .i64 (Nat.cast (List.length v0_3)-y0))) (List.take (List.length v0_3) v0_3))::mt (Ty.den ty22)) (List.take (Int.toNat (IntKind.wrap .i64 (Nat.cast (List.length v0_3)-y0))) v0_3++v0_1::mt (Ty.den (Ty.int .i64))))) (none)) (none)) (none)) (none)) (none)) (none)) (none))) (none)) (k v0_2)
def E37 (p0:L66):S37→List AV×Objs
 | .l0 v0_1 v0_2 v0_3=>(mk 43 [(0,.c (.list 66 ty66 p0)),(3,.c (.own 3)),(4,.c (.own 4)),(5,.c (.int .i64 v0_1))],[(3,.row 22 ty22 v0_2),(4,.row 3 ty3 v0_3)])
def I37:S37→Nat
 | .l0 _ _ _=>0
theorem eq37 {R:Type} (B:Ops) (c63:C63) (c73:C73) (p0:L66) (k:AV→Objs→Option R) (n:Nat):afun tau B gl0 X37 (ent 63 (e63 c63) (ent 73 (e73 c73) (gnil))) ow Tryz.f37 [.c (.list 66 ty66 p0)] [] k n=T37 B c63 c73 p0 (fun s=>aloop tau B gl0 X37 (ent 63 (e63 c63) (ent 73 (e73 c73) (gnil))) ow [] Tryz.f37 k (I37 s) (E37 p0 s) n) (fun y=>k (.c (.own 500)) [(500,.row 22 ty22 y)]) none:=by kernel_rfl
theorem el37 {R:Type} (B:Ops) (c63:C63) (c73:C73) (p0:L66) (k:AV→Objs→Option R) (n:Nat):∀ s,aloop tau B gl0 X37 (ent 63 (e63 c63) (ent 73 (e73 c73) (gnil))) ow [] Tryz.f37 k (I37 s) (E37 p0 s) (n+1)=T37 B c63 c73 p0 (fun s=>aloop tau B gl0 X37 (ent 63 (e63 c63) (ent 73 (e73 c73) (gnil))) ow [] Tryz.f37 k (I37 s) (E37 p0 s) n) (fun y=>k (.c (.own 500)) [(500,.row 22 ty22 y)]) (some s)
 | .l0 v0_1 v0_2 v0_3=>by kernel_rfl
theorem nt37 {R R':Type} (B:Ops) (c63:C63) (c73:C73) (p0:L66) (again:S37→Option R) (again':S37→Option R') (k0:(L22)→Option R') (k:R'→Option R) (h:∀ s,again s=ob (again' s) k):∀ s,T37 B c63 c73 p0 again (fun y=>ob (k0 y) k) s=ob (T37 B c63 c73 p0 again' k0 s) k
 | none=>by unfold T37;repeat' first | exact rfl | exact h _ | apply qac | (apply qah;intro)
 | some (.l0 v0_1 v0_2 v0_3)=>by unfold T37;repeat' first | exact rfl | exact h _ | apply qac | (apply qah;intro)
def R37 (c63:C63) (c73:C73) (p0:L66):Nat→S37→Option (L22)
 | 0,_=>none
 | n+1,s=>T37 Ops.std c63 c73 p0 (R37 c63 c73 p0 n) some (some s)
theorem rr37 {R:Type} (c63:C63) (c73:C73) (p0:L66) (k:AV→Objs→Option R):∀ (n:Nat) (s:S37),aloop tau Ops.std gl0 X37 (ent 63 (e63 c63) (ent 73 (e73 c73) (gnil))) ow [] Tryz.f37 k (I37 s) (E37 p0 s) n=ob (R37 c63 c73 p0 n s) (fun y=>k (.c (.own 500)) [(500,.row 22 ty22 y)])
 | 0,s=>by cases s<;>rfl
 | n+1,s=>by rw [el37];exact nt37 Ops.std c63 c73 p0 _ _ some (fun y=>k (.c (.own 500)) [(500,.row 22 ty22 y)]) (rr37 c63 c73 p0 k n) (some s)
def F37 (c63:C63) (c73:C73) (p0:L66):Option (L22):=T37 Ops.std c63 c73 p0 (R37 c63 c73 p0 1000000) some none
theorem fo37 {R:Type} (c63:C63) (c73:C73) (p0:L66) (k:AV→Objs→Option R):afun tau Ops.std gl0 X37 (ent 63 (e63 c63) (ent 73 (e73 c73) (gnil))) ow Tryz.f37 [.c (.list 66 ty66 p0)] [] k 1000000=ob (F37 c63 c73 p0) (fun y=>k (.c (.own 500)) [(500,.row 22 ty22 y)]):=by rw [eq37];exact nt37 Ops.std c63 c73 p0 _ _ some (fun y=>k (.c (.own 500)) [(500,.row 22 ty22 y)]) (rr37 c63 c73 p0 k 1000000) none
def e37 {R:Type} (c:L66→Option (L22)):Ent R:=fun args objs k=>
 oCons args fun a0 l0=>oC a0 fun x0=>cList 66 ty66 x0 fun p0=>oNil l0 <| oNilO objs <| ob (c p0) fun y=>k (.c (.own 500)) [(500,.row 22 ty22 y)]
abbrev Sp37 (c:L66→Option (L22)):Prop:=∀ (p0:L66) (y:L22),c p0=some y→Spec Tryz.prog gl0 37 [.c (.list 66 ty66 p0)] [] (.c (.own 500)) [(500,.row 22 ty22 y)]
theorem ek37 {R:Type} {c:L66→Option (L22)} (hs:Sp37 c):EOk 37 (e37 (R:=R) c):=fun args objs k r h=>by
 unfold e37 at h
 obtain ⟨a0,l0,rfl,q1⟩:=qaa h
 obtain ⟨x0,rfl,q2⟩:=qaj q1
 obtain ⟨p0,rfl,q3⟩:=qae q2
 obtain ⟨rfl,q4⟩:=qag q3
 obtain ⟨rfl,q5⟩:=qaf q4
 exact qar (hs p0) q5
theorem sf37 {c63:C63} {c73:C73} (h63:Sp63 c63) (h73:Sp73 c73):Sp37 (F37 c63 c73):=fun p0 y hy=>by
 refine qap (G:=ent 63 (e63 c63) (ent 73 (e73 c73) (gnil))) (qai (ek63 h63) (qai (ek73 h73) (qao))) 1000000 (fn:=Tryz.f37) (by kernel_rfl) (by kernel_rfl) (X:=X37) (by kernel_rfl) ?_
 rw [fo37,hy]
 rfl
noncomputable def M37:L66→Option (L22):=F37 M63 M73
theorem sm37:Sp37 M37:=sf37 sm63 sm73
def X155:Aux:=⟨[],[]⟩
def T155 {R:Type} (B:Ops) (p0:Int) (k:(Int)→Option R):Option R:=cond (Ops.eq B p0 (5)) (k 6) (cond (Ops.eq B p0 (6)) (k 5) (cond (Ops.eq B p0 (9)) (k 10) (k 9)))
theorem eq155 {R:Type} (B:Ops) (p0:Int) (k:AV→Objs→Option R) (n:Nat):afun tau B gl0 X155 (gnil) ow Tryz.f155 [.c (.int .i64 p0)] [] k n=T155 B p0 (fun y=>k (.c (.int .i64 y)) []):=by kernel_rfl
theorem nt155 {R R':Type} (B:Ops) (p0:Int) (k0:(Int)→Option R') (k:R'→Option R):T155 B p0 (fun y=>ob (k0 y) k)=ob (T155 B p0 k0) k:=by
 unfold T155
 repeat' first | exact rfl | apply qac | (apply qah;intro)
def F155 (p0:Int):Option (Int):=T155 Ops.std p0 some
theorem fo155 {R:Type} (p0:Int) (k:AV→Objs→Option R) (n:Nat):afun tau Ops.std gl0 X155 (gnil) ow Tryz.f155 [.c (.int .i64 p0)] [] k n=ob (F155 p0) (fun y=>k (.c (.int .i64 y)) []):=by rw [eq155];exact nt155 Ops.std p0 some (fun y=>k (.c (.int .i64 y)) [])
def e155 {R:Type} (c:Int→Option (Int)):Ent R:=fun args objs k=>
 oCons args fun a0 l0=>oC a0 fun x0=>cInt .i64 x0 fun p0=>oNil l0 <| oNilO objs <| ob (c p0) fun y=>k (.c (.int .i64 y)) []
abbrev Sp155 (c:Int→Option (Int)):Prop:=∀ (p0:Int) (y:Int),c p0=some y→Spec Tryz.prog gl0 155 [.c (.int .i64 p0)] [] (.c (.int .i64 y)) []
theorem ek155 {R:Type} {c:Int→Option (Int)} (hs:Sp155 c):EOk 155 (e155 (R:=R) c):=fun args objs k r h=>by
 unfold e155 at h
 obtain ⟨a0,l0,rfl,q1⟩:=qaa h
 obtain ⟨x0,rfl,q2⟩:=qaj q1
 obtain ⟨p0,rfl,q3⟩:=qal q2
 obtain ⟨rfl,q4⟩:=qag q3
 obtain ⟨rfl,q5⟩:=qaf q4
 exact qar (hs p0) q5
theorem sf155:Sp155 (F155):=fun p0 y hy=>by
 refine qap (G:=gnil) (qao) 1000000 (fn:=Tryz.f155) (by kernel_rfl) (by kernel_rfl) (X:=X155) (by kernel_rfl) ?_
 rw [fo155,hy]
 rfl
noncomputable def M155:Int→Option (Int):=F155
theorem sm155:Sp155 M155:=sf155
def e93 {R:Type} (c:L66→L22→Int→Bool→L66→Option (L66)):Ent R:=fun args objs k=>
 oCons args fun a0 l0=>oC a0 fun x0=>cList 66 ty66 x0 fun p0=>oCons l0 fun a1 l1=>oC a1 fun x1=>cList 22 ty22 x1 fun p1=>oCons l1 fun a2 l2=>oC a2 fun x2=>cInt .i64 x2 fun p2=>oCons l2 fun a3 l3=>oC a3 fun x3=>cBool x3 fun p3=>oCons l3 fun a4 l4=>oC a4 fun x4=>cOwn 4 x4 <| oNil l4 <| oRow 4 66 ty66 objs fun p4 o0=>oNilO o0 <| ob (c p0 p1 p2 p3 p4) fun y=>k (.c (.own 500)) [(500,.row 66 ty66 y)]
abbrev Sp93 (c:L66→L22→Int→Bool→L66→Option (L66)):Prop:=∀ (p0:L66) (p1:L22) (p2:Int) (p3:Bool) (p4:L66) (y:L66),c p0 p1 p2 p3 p4=some y→Spec Tryz.prog gl0 93 [.c (.list 66 ty66 p0),.c (.list 22 ty22 p1),.c (.int .i64 p2),.c (.bool p3),.c (.own 4)] [(4,.row 66 ty66 p4)] (.c (.own 500)) [(500,.row 66 ty66 y)]
theorem ek93 {R:Type} {c:L66→L22→Int→Bool→L66→Option (L66)} (hs:Sp93 c):EOk 93 (e93 (R:=R) c):=fun args objs k r h=>by
 unfold e93 at h
 obtain ⟨a0,l0,rfl,q1⟩:=qaa h
 obtain ⟨x0,rfl,q2⟩:=qaj q1
 obtain ⟨p0,rfl,q3⟩:=qae q2
 obtain ⟨a1,l1,rfl,q4⟩:=qaa q3
 obtain ⟨x1,rfl,q5⟩:=qaj q4
 obtain ⟨p1,rfl,q6⟩:=qae q5
 obtain ⟨a2,l2,rfl,q7⟩:=qaa q6
 obtain ⟨x2,rfl,q8⟩:=qaj q7
 obtain ⟨p2,rfl,q9⟩:=qal q8
 obtain ⟨a3,l3,rfl,q10⟩:=qaa q9
 obtain ⟨x3,rfl,q11⟩:=qaj q10
 obtain ⟨p3,rfl,q12⟩:=qc4 q11
 obtain ⟨a4,l4,rfl,q13⟩:=qaa q12
 obtain ⟨x4,rfl,q14⟩:=qaj q13
 obtain ⟨rfl,q15⟩:=qbe q14
 obtain ⟨rfl,q16⟩:=qag q15
 obtain ⟨p4,o0,rfl,q17⟩:=qbf q16
 obtain ⟨rfl,q18⟩:=qaf q17
 exact qar (hs p0 p1 p2 p3 p4) q18
def X93:Aux:=⟨[(1000010,([0,1,2,3,5,6,7,8,9,10]++rg 12 145)),(1000015,([0,1,2,3]++rg 5 152)),(1000026,([2,5,6,7,8,9,10]++rg 14 143)),(1000033,([2,5,6,7,8,9,10,13]++rg 15 142)),(1000038,([0,1,2,5,6,7,8,9,10]++rg 12 145))],[(26,.seq ([0,1,2,3,4,5,6,7,8,12,13]) (.alt (.seq [9] (.alt (.seq [10] (.alt (.lin [11,14,15,16]) (.lin [14,11,15,16]))) (.lin [14,10,11,15,16]))) (.lin [14,9,10,11,15,16]))),(33,.seq ([0,1,2,3,4,5,6,7,8,12,13]) (.alt (.seq [9] (.alt (.seq [10] (.alt (.lin [11,14,15,16]) (.lin [14,11,15,16]))) (.lin [14,10,11,15,16]))) (.lin [14,9,10,11,15,16])))]⟩
inductive S93 where
 | l1010 (v1010_0:Int)
 | l1015 (v1015_0:L66)
 | l1026 (v1026_3:Int) (v1026_4:L3) (v1026_5:Int)
 | l1033 (v1033_3:Int) (v1033_4:L3) (v1033_5:Int)
 | l1038 (v1038_1:Int) (v1038_2:L66)
abbrev C93:Type:=L66→L22→Int→Bool→L66→Option (L66)
abbrev C155:Type:=Int→Option (Int)
def T93 {R:Type} (B:Ops) (c93:C93) (c155:C155) (p0:L66) (p1:L22) (p2:Int) (p3:Bool) (p4:L66) (again:S93→Option R) (k:(L66)→Option R):Option S93→Option R | none=>cond (Ops.inb B p2 (List.length p0)) (cond (Ops.inb B p2 (List.length p1)) (cond (Ops.eq B ((List.getD p0 (Int.toNat p2) (Ty.dflt ty66)).1) (1)) (cond (p3) (again (.l1010 (IntKind.wrap .i64 (3-(List.getD p0 (Int.toNat p2) (Ty.dflt ty66)).1)))) (again (.l1010 ((List.getD p0 (Int.toNat p2) (Ty.dflt ty66)).1)))) (cond (Ops.eq B ((List.getD p0 (Int.toNat p2) (Ty.dflt ty66)).1) (2)) (cond (p3) (again (.l1010 (IntKind.wrap .i64 (3-(List.getD p0 (Int.toNat p2) (Ty.dflt ty66)).1)))) (again (.l1010 ((List.getD p0 (Int.toNat p2) (Ty.dflt ty66)).1)))) (cond (Ops.eq B ((List.getD p0 (Int.toNat p2) (Ty.dflt ty66)).1) (3)) (cond (Ops.inb B p2 (List.length p0)) (cond (Ops.lim B (List.length p4+List.length (((List.getD p0 (Int.toNat p2) (Ty.dflt ty66)).1,(List.getD p0 (Int.toNat p2) (Ty.dflt ty66)).2)::mt (Ty.den ty66))) (32)) (cond (p3) (cond (Ops.lim B (List.length (p4++((List.getD p0 (Int.toNat p2) (Ty.dflt ty66)).1,(List.getD p0 (Int.toNat p2) (Ty.dflt ty66)).2)::mt (Ty.den ty66))+List.length ((4,mt (Ty.den ty150))::mt (Ty.den ty66))) (32)) (again (.l1015 (p4++((List.getD p0 (Int.toNat p2) (Ty.dflt ty66)).1,(List.getD p0 (Int.toNat p2) (Ty.dflt ty66)).2)::mt (Ty.den ty66)++(4,mt (Ty.den ty150))::mt (Ty.den ty66)))) (none)) (again (.l1015 (p4++((List.getD p0 (Int.toNat p2) (Ty.dflt ty66)).1,(List.getD p0 (Int.toNat p2) (Ty.dflt ty66)).2)::mt (Ty.den ty66))))) (none)) (none)) (cond (Ops.eq B ((List.getD p0 (Int.toNat p2) (Ty.dflt ty66)).1) (4)) (cond (Ops.inb B (0) (List.length (List.getD p1 (Int.toNat p2) (Ty.dflt ty22)))) (ob (c93 p0 p1 (List.getD (List.getD p1 (Int.toNat p2) (Ty.dflt ty22)) (Int.toNat (0)) (Ty.dflt (Ty.int .i64))) (!p3) p4) fun y0=>k y0) (none)) (cond (Ops.eq B ((List.getD p0 (Int.toNat p2) (Ty.dflt ty66)).1) (8)) (cond (Ops.inb B (0) (List.length (List.getD p1 (Int.toNat p2) (Ty.dflt ty22)))) (ob (c93 p0 p1 (List.getD (List.getD p1 (Int.toNat p2) (Ty.dflt ty22)) (Int.toNat (0)) (Ty.dflt (Ty.int .i64))) p3 p4) fun y0=>cond (Ops.lim B (List.length y0+List.length (((List.getD p0 (Int.toNat p2) (Ty.dflt ty66)).1,mt (Ty.den ty150))::mt (Ty.den ty66))) (32)) (k (y0++((List.getD p0 (Int.toNat p2) (Ty.dflt ty66)).1,mt (Ty.den ty150))::mt (Ty.den ty66))) (none)) (none)) (cond (Ops.eq B ((List.getD p0 (Int.toNat p2) (Ty.dflt ty66)).1) (11)) (cond (p3) (again (.l1026 10 (List.getD p1 (Int.toNat p2) (Ty.dflt ty22)) 2)) (again (.l1026 9 (List.getD p1 (Int.toNat p2) (Ty.dflt ty22)) 1))) (cond (Ops.eq B ((List.getD p0 (Int.toNat p2) (Ty.dflt ty66)).1) (12)) (cond (p3) (again (.l1033 9 (List.getD p1 (Int.toNat p2) (Ty.dflt ty22)) 1)) (again (.l1033 10 (List.getD p1 (Int.toNat p2) (Ty.dflt ty22)) 2))) (cond (Ops.eq B ((List.getD p0 (Int.toNat p2) (Ty.dflt ty66)).1) (7)) (cond (Ops.inb B (0) (List.length (List.getD p1 (Int.toNat p2) (Ty.dflt ty22)))) (ob (c93 p0 p1 (List.getD (List.getD p1 (Int.toNat p2) (Ty.dflt ty22)) (Int.toNat (0)) (Ty.dflt (Ty.int .i64))) (!p3) p4) fun y0=>cond (Ops.inb B (1) (List.length (List.getD p1 (Int.toNat p2) (Ty.dflt ty22)))) (ob (c93 p0 p1 (List.getD (List.getD p1 (Int.toNat p2) (Ty.dflt ty22)) (Int.toNat (1)) (Ty.dflt (Ty.int .i64))) p3 y0) fun y1=>again (.l1038 6 y1)) (none)) (none)) (cond (Ops.inb B (0) (List.length (List.getD p1 (Int.toNat p2) (Ty.dflt ty22)))) (ob (c93 p0 p1 (List.getD (List.getD p1 (Int.toNat p2) (Ty.dflt ty22)) (Int.toNat (0)) (Ty.dflt (Ty.int .i64))) p3 p4) fun y0=>cond (Ops.inb B (1) (List.length (List.getD p1 (Int.toNat p2) (Ty.dflt ty22)))) (ob (c93 p0 p1 (List.getD (List.getD p1 (Int.toNat p2) (Ty.dflt ty22)) (Int.toNat (1)) (Ty.dflt (Ty.int .i64))) p3 y0) fun y1=>again (.l1038 ((List.getD p0 (Int.toNat p2) (Ty.dflt ty66)).1) y1)) (none)) (none)))))))))) (none)) (none) | some (.l1010 v1010_0)=>cond (Ops.lim B (List.length p4+List.length ((v1010_0,mt (Ty.den ty150))::mt (Ty.den ty66))) (32)) (k (p4++(v1010_0,mt (Ty.den ty150))::mt (Ty.den ty66))) (none) | some (.l1015 v1015_0)=>k v1015_0 | some (.l1026 v1026_3 v1026_4 v1026_5)=>cond (Ops.inb B (0) (List.length v1026_4)) (cond (Ops.lim B (List.length p4+List.length ((v1026_5,mt (Ty.den ty150))::mt (Ty.den ty66))) (32)) (ob (c93 p0 p1 (List.getD v1026_4 (Int.toNat (0)) (Ty.dflt ty3)) p3 (p4++(v1026_5,mt (Ty.den ty150))::mt (Ty.den ty66))) fun y0=>cond (Ops.lim B (List.length y0+List.length ((v1026_3,mt (Ty.den ty150))::mt (Ty.den ty66))) (32)) (k (y0++(v1026_3,mt (Ty.den ty150))::mt (Ty.den ty66))) (none)) (none)) (none) | some (.l1033 v1033_3 v1033_4 v1033_5)=>cond (Ops.inb B (0) (List.length v1033_4)) (cond (Ops.lim B (List.length p4+List.length ((v1033_5,mt (Ty.den ty150))::mt (Ty.den ty66))) (32)) (ob (c93 p0 p1 (List.getD v1033_4 (Int.toNat (0)) (Ty.dflt ty3)) p3 (p4++(v1033_5,mt (Ty.den ty150))::mt (Ty.den ty66))) fun y0=>cond (Ops.lim B (List.length y0+List.length ((v1033_3,mt (Ty.den ty150))::mt (Ty.den ty66))) (32)) (k (y0++(v1033_3,mt (Ty.den ty150))::mt (Ty.den ty66))) (none)) (none)) (none) | some (.l1038 v1038_1 v1038_2)=>cond (p3) (ob (c155 v1038_1) fun y0=>cond (Ops.lim B (List.length v1038_2+List.length ((y0,mt (Ty.den ty150))::mt (Ty.den ty66))) (32)) (k (v1038_2++(y0,mt (Ty.den ty150))::mt (Ty.den ty66))) (none)) (cond (Ops.lim B (List.length v1038_2+List.length ((v1038_1,mt (Ty.den ty150))::mt (Ty.den ty66))) (32)) (k (v1038_2++(v1038_1,mt (Ty.den ty150))::mt (Ty.den ty66))) (none))
def E93 (p0:L66) (p1:L22) (p2:Int) (p3:Bool) (p4:L66):S93→List AV×Objs
 | .l1010 v1010_0=>(mk 157 [(4,.c (.own 4)),(11,.c (.int .i64 v1010_0))],[(4,.row 66 ty66 p4)])
 | .l1015 v1015_0=>(mk 157 [(4,.c (.own 4))],[(4,.row 66 ty66 v1015_0)])
 | .l1026 v1026_3 v1026_4 v1026_5=>(mk 157 [(0,.c (.list 66 ty66 p0)),(1,.c (.list 22 ty22 p1)),(3,.c (.bool p3)),(4,.c (.own 4)),(11,.c (.int .i64 v1026_3)),(12,.c (.list 3 ty3 v1026_4)),(13,.c (.int .i64 v1026_5))],[(4,.row 66 ty66 p4)])
 | .l1033 v1033_3 v1033_4 v1033_5=>(mk 157 [(0,.c (.list 66 ty66 p0)),(1,.c (.list 22 ty22 p1)),(3,.c (.bool p3)),(4,.c (.own 4)),(11,.c (.int .i64 v1033_3)),(12,.c (.list 3 ty3 v1033_4)),(14,.c (.int .i64 v1033_5))],[(4,.row 66 ty66 p4)])
 | .l1038 v1038_1 v1038_2=>(mk 157 [(3,.c (.bool p3)),(4,.c (.own 4)),(11,.c (.int .i64 v1038_1))],[(4,.row 66 ty66 v1038_2)])
def I93:S93→Nat
 | .l1010 _=>1010
 | .l1015 _=>1015
 | .l1026 _ _ _=>1026
 | .l1033 _ _ _=>1033
 | .l1038 _ _=>1038
noncomputable def Ta93 {R:Type} (B:Ops) (c93:C93) (c155:C155) (p0:L66) (p1:L22) (p2:Int) (p3:Bool) (p4:L66) (again:S93→Option R) (k:(L66)→Option R):Option S93→Option R | none=>cond (Ops.inb B p2 (List.length p0)) (cond (Ops.inb B p2 (List.length p1)) (cond (Ops.eq B ((List.getD p0 (Int.toNat p2) (Ty.dflt ty66)).1) (1)) (cond (p3) (again (.l1010 (IntKind.wrap .i64 (3-(List.getD p0 (Int.toNat p2) (Ty.dflt ty66)).1)))) (again (.l1010 ((List.getD p0 (Int.toNat p2) (Ty.dflt ty66)).1)))) (cond (Ops.eq B ((List.getD p0 (Int.toNat p2) (Ty.dflt ty66)).1) (2)) (cond (p3) (again (.l1010 (IntKind.wrap .i64 (3-(List.getD p0 (Int.toNat p2) (Ty.dflt ty66)).1)))) (again (.l1010 ((List.getD p0 (Int.toNat p2) (Ty.dflt ty66)).1)))) (cond (Ops.eq B ((List.getD p0 (Int.toNat p2) (Ty.dflt ty66)).1) (3)) (cond (Ops.inb B p2 (List.length p0)) (cond (Ops.lim B (List.length p4+List.length (((List.getD p0 (Int.toNat p2) (Ty.dflt ty66)).1,(List.getD p0 (Int.toNat p2) (Ty.dflt ty66)).2)::mt (Ty.den ty66))) (32)) (cond (p3) (cond (Ops.lim B (List.length (p4++((List.getD p0 (Int.toNat p2) (Ty.dflt ty66)).1,(List.getD p0 (Int.toNat p2) (Ty.dflt ty66)).2)::mt (Ty.den ty66))+List.length ((4,mt (Ty.den ty150))::mt (Ty.den ty66))) (32)) (again (.l1015 (p4++((List.getD p0 (Int.toNat p2) (Ty.dflt ty66)).1,(List.getD p0 (Int.toNat p2) (Ty.dflt ty66)).2)::mt (Ty.den ty66)++(4,mt (Ty.den ty150))::mt (Ty.den ty66)))) (none)) (again (.l1015 (p4++((List.getD p0 (Int.toNat p2) (Ty.dflt ty66)).1,(List.getD p0 (Int.toNat p2) (Ty.dflt ty66)).2)::mt (Ty.den ty66))))) (none)) (none)) (cond (Ops.eq B ((List.getD p0 (Int.toNat p2) (Ty.dflt ty66)).1) (4)) (cond (Ops.inb B (0) (List.length (List.getD p1 (Int.toNat p2) (Ty.dflt ty22)))) (ob (c93 p0 p1 (List.getD (List.getD p1 (Int.toNat p2) (Ty.dflt ty22)) (Int.toNat (0)) (Ty.dflt (Ty.int .i64))) (!p3) p4) fun y0=>k y0) (none)) (cond (Ops.eq B ((List.getD p0 (Int.toNat p2) (Ty.dflt ty66)).1) (8)) (cond (Ops.inb B (0) (List.length (List.getD p1 (Int.toNat p2) (Ty.dflt ty22)))) (ob (c93 p0 p1 (List.getD (List.getD p1 (Int.toNat p2) (Ty.dflt ty22)) (Int.toNat (0)) (Ty.dflt (Ty.int .i64))) p3 p4) fun y0=>cond (Ops.lim B (List.length y0+List.length (((List.getD p0 (Int.toNat p2) (Ty.dflt ty66)).1,mt (Ty.den ty150))::mt (Ty.den ty66))) (32)) (k (y0++((List.getD p0 (Int.toNat p2) (Ty.dflt ty66)).1,mt (Ty.den ty150))::mt (Ty.den ty66))) (none)) (none)) (cond (Ops.eq B ((List.getD p0 (Int.toNat p2) (Ty.dflt ty66)).1) (11)) (cond (p3) (again (.l1026 10 (List.getD p1 (Int.toNat p2) (Ty.dflt ty22)) 2)) (again (.l1026 9 (List.getD p1 (Int.toNat p2) (Ty.dflt ty22)) 1))) (cond (Ops.eq B ((List.getD p0 (Int.toNat p2) (Ty.dflt ty66)).1) (12)) (cond (p3) (again (.l1033 9 (List.getD p1 (Int.toNat p2) (Ty.dflt ty22)) 1)) (again (.l1033 10 (List.getD p1 (Int.toNat p2) (Ty.dflt ty22)) 2))) (cond (Ops.eq B ((List.getD p0 (Int.toNat p2) (Ty.dflt ty66)).1) (7)) (cond (Ops.inb B (0) (List.length (List.getD p1 (Int.toNat p2) (Ty.dflt ty22)))) (ob (c93 p0 p1 (List.getD (List.getD p1 (Int.toNat p2) (Ty.dflt ty22)) (Int.toNat (0)) (Ty.dflt (Ty.int .i64))) (!p3) p4) fun y0=>cond (Ops.inb B (1) (List.length (List.getD p1 (Int.toNat p2) (Ty.dflt ty22)))) (ob (c93 p0 p1 (List.getD (List.getD p1 (Int.toNat p2) (Ty.dflt ty22)) (Int.toNat (1)) (Ty.dflt (Ty.int .i64))) p3 y0) fun y1=>again (.l1038 6 y1)) (none)) (none)) (cond (Ops.inb B (0) (List.length (List.getD p1 (Int.toNat p2) (Ty.dflt ty22)))) (ob (c93 p0 p1 (List.getD (List.getD p1 (Int.toNat p2) (Ty.dflt ty22)) (Int.toNat (0)) (Ty.dflt (Ty.int .i64))) p3 p4) fun y0=>cond (Ops.inb B (1) (List.length (List.getD p1 (Int.toNat p2) (Ty.dflt ty22)))) (ob (c93 p0 p1 (List.getD (List.getD p1 (Int.toNat p2) (Ty.dflt ty22)) (Int.toNat (1)) (Ty.dflt (Ty.int .i64))) p3 y0) fun y1=>again (.l1038 ((List.getD p0 (Int.toNat p2) (Ty.dflt ty66)).1) y1)) (none)) (none)))))))))) (none)) (none) | some (.l1010 v1010_0)=>cond (Ops.lim B (List.length p4+List.length ((v1010_0,mt (Ty.den ty150))::mt (Ty.den ty66))) (32)) (k (p4++(v1010_0,mt (Ty.den ty150))::mt (Ty.den ty66))) (none) | some (.l1015 v1015_0)=>k v1015_0 | some (.l1026 v1026_3 v1026_4 v1026_5)=>cond (Ops.inb B (0) (List.length v1026_4)) (agree (agree (cond (Ops.lim B (List.length p4+List.length ((v1026_5,mt (Ty.den ty150))::mt (Ty.den ty66))) (32)) (agree (ob (c93 p0 p1 (List.getD v1026_4 (Int.toNat (0)) (Ty.dflt ty3)) p3 (p4++(v1026_5,mt (Ty.den ty150))::mt (Ty.den ty66))) fun y0=>cond (Ops.lim B (List.length y0+List.length ((v1026_3,mt (Ty.den ty150))::mt (Ty.den ty66))) (32)) (k (y0++(v1026_3,mt (Ty.den ty150))::mt (Ty.den ty66))) (none)) (ob (c93 p0 p1 (List.getD v1026_4 (Int.toNat (0)) (Ty.dflt ty3)) p3 (p4++(v1026_5,mt (Ty.den ty150))::mt (Ty.den ty66))) fun y0=>cond (Ops.lim B (List.length y0+List.length ((v1026_3,mt (Ty.den ty150))::mt (Ty.den ty66))) (32)) (k (y0++(v1026_3,mt (Ty.den ty150))::mt (Ty.den ty66))) (none))) (none)) (cond (Ops.lim B (List.length p4+List.length ((v1026_5,mt (Ty.den ty150))::mt (Ty.den ty66))) (32)) (ob (c93 p0 p1 (List.getD v1026_4 (Int.toNat (0)) (Ty.dflt ty3)) p3 (p4++(v1026_5,mt (Ty.den ty150))::mt (Ty.den ty66))) fun y0=>cond (Ops.lim B (List.length y0+List.length ((v1026_3,mt (Ty.den ty150))::mt (Ty.den ty66))) (32)) (k (y0++(v1026_3,mt (Ty.den ty150))::mt (Ty.den ty66))) (none)) (none))) (cond (Ops.lim B (List.length p4+List.length ((v1026_5,mt (Ty.den ty150))::mt (Ty.den ty66))) (32)) (ob (c93 p0 p1 (List.getD v1026_4 (Int.toNat (0)) (Ty.dflt ty3)) p3 (p4++(v1026_5,mt (Ty.den ty150))::mt (Ty.den ty66))) fun y0=>cond (Ops.lim B (List.length y0+List.length ((v1026_3,mt (Ty.den ty150))::mt (Ty.den ty66))) (32)) (k (y0++(v1026_3,mt (Ty.den ty150))::mt (Ty.den ty66))) (none)) (none))) (none) | some (.l1033 v1033_3 v1033_4 v1033_5)=>cond (Ops.inb B (0) (List.length v1033_4)) (agree (agree (cond (Ops.lim B (List.length p4+List.length ((v1033_5,mt (Ty.den ty150))::mt (Ty.den ty66))) (32)) (agree (ob (c93 p0 p1 (List.getD v1033_4 (Int.toNat (0)) (Ty.dflt ty3)) p3 (p4++(v1033_5,mt (Ty.den ty150))::mt (Ty.den ty66))) fun y0=>cond (Ops.lim B (List.length y0+List.length ((v1033_3,mt (Ty.den ty150))::mt (Ty.den ty66))) (32)) (k (y0++(v1033_3,mt (Ty.den ty150))::mt (Ty.den ty66))) (none)) (ob (c93 p0 p1 (List.getD v1033_4 (Int.toNat (0)) (Ty.dflt ty3)) p3 (p4++(v1033_5,mt (Ty.den ty150))::mt (Ty.den ty66))) fun y0=>cond (Ops.lim B (List.length y0+List.length ((v1033_3,mt (Ty.den ty150))::mt (Ty.den ty66))) (32)) (k (y0++(v1033_3,mt (Ty.den ty150))::mt (Ty.den ty66))) (none))) (none)) (cond (Ops.lim B (List.length p4+List.length ((v1033_5,mt (Ty.den ty150))::mt (Ty.den ty66))) (32)) (ob (c93 p0 p1 (List.getD v1033_4 (Int.toNat (0)) (Ty.dflt ty3)) p3 (p4++(v1033_5,mt (Ty.den ty150))::mt (Ty.den ty66))) fun y0=>cond (Ops.lim B (List.length y0+List.length ((v1033_3,mt (Ty.den ty150))::mt (Ty.den ty66))) (32)) (k (y0++(v1033_3,mt (Ty.den ty150))::mt (Ty.den ty66))) (none)) (none))) (cond (Ops.lim B (List.length p4+List.length ((v1033_5,mt (Ty.den ty150))::mt (Ty.den ty66))) (32)) (ob (c93 p0 p1 (List.getD v1033_4 (Int.toNat (0)) (Ty.dflt ty3)) p3 (p4++(v1033_5,mt (Ty.den ty150))::mt (Ty.den ty66))) fun y0=>cond (Ops.lim B (List.length y0+List.length ((v1033_3,mt (Ty.den ty150))::mt (Ty.den ty66))) (32)) (k (y0++(v1033_3,mt (Ty.den ty150))::mt (Ty.den ty66))) (none)) (none))) (none) | some (.l1038 v1038_1 v1038_2)=>cond (p3) (ob (c155 v1038_1) fun y0=>cond (Ops.lim B (List.length v1038_2+List.length ((y0,mt (Ty.den ty150))::mt (Ty.den ty66))) (32)) (k (v1038_2++(y0,mt (Ty.den ty150))::mt (Ty.den ty66))) (none)) (cond (Ops.lim B (List.length v1038_2+List.length ((v1038_1,mt (Ty.den ty150))::mt (Ty.den ty66))) (32)) (k (v1038_2++(v1038_1,mt (Ty.den ty150))::mt (Ty.den ty66))) (none))
theorem ta93 {R:Type} (B:Ops) (c93:C93) (c155:C155) (p0:L66) (p1:L22) (p2:Int) (p3:Bool) (p4:L66) (again:S93→Option R) (k:(L66)→Option R):∀ s,Ta93 B c93 c155 p0 p1 p2 p3 p4 again k s=T93 B c93 c155 p0 p1 p2 p3 p4 again k s
 | none=>by unfold Ta93 T93;simp only [qbp]
 | some (.l1010 v1010_0)=>by unfold Ta93 T93;simp only [qbp]
 | some (.l1015 v1015_0)=>by unfold Ta93 T93;simp only [qbp]
 | some (.l1026 v1026_3 v1026_4 v1026_5)=>by unfold Ta93 T93;simp only [qbp]
 | some (.l1033 v1033_3 v1033_4 v1033_5)=>by unfold Ta93 T93;simp only [qbp]
 | some (.l1038 v1038_1 v1038_2)=>by unfold Ta93 T93;simp only [qbp]
theorem eq93 {R:Type} (B:Ops) (c93:C93) (c155:C155) (p0:L66) (p1:L22) (p2:Int) (p3:Bool) (p4:L66) (k:AV→Objs→Option R) (n:Nat):afun tau B gl0 X93 (ent 93 (e93 c93) (ent 155 (e155 c155) (gnil))) ow Tryz.f93 [.c (.list 66 ty66 p0),.c (.list 22 ty22 p1),.c (.int .i64 p2),.c (.bool p3),.c (.own 4)] [(4,.row 66 ty66 p4)] k n=T93 B c93 c155 p0 p1 p2 p3 p4 (fun s=>aloop tau B gl0 X93 (ent 93 (e93 c93) (ent 155 (e155 c155) (gnil))) ow [] Tryz.f93 k (I93 s) (E93 p0 p1 p2 p3 p4 s) n) (fun y=>k (.c (.own 500)) [(500,.row 66 ty66 y)]) none:=by rw [←ta93];kernel_rfl
theorem el93 {R:Type} (B:Ops) (c93:C93) (c155:C155) (p0:L66) (p1:L22) (p2:Int) (p3:Bool) (p4:L66) (k:AV→Objs→Option R) (n:Nat):∀ s,aloop tau B gl0 X93 (ent 93 (e93 c93) (ent 155 (e155 c155) (gnil))) ow [] Tryz.f93 k (I93 s) (E93 p0 p1 p2 p3 p4 s) (n+1)=T93 B c93 c155 p0 p1 p2 p3 p4 (fun s=>aloop tau B gl0 X93 (ent 93 (e93 c93) (ent 155 (e155 c155) (gnil))) ow [] Tryz.f93 k (I93 s) (E93 p0 p1 p2 p3 p4 s) n) (fun y=>k (.c (.own 500)) [(500,.row 66 ty66 y)]) (some s)
 | .l1010 v1010_0=>by rw [←ta93];kernel_rfl
 | .l1015 v1015_0=>by rw [←ta93];kernel_rfl
 | .l1026 v1026_3 v1026_4 v1026_5=>by rw [←ta93];kernel_rfl
 | .l1033 v1033_3 v1033_4 v1033_5=>by rw [←ta93];kernel_rfl
 | .l1038 v1038_1 v1038_2=>by rw [←ta93];kernel_rfl
theorem nt93 {R R':Type} (B:Ops) (c93:C93) (c155:C155) (p0:L66) (p1:L22) (p2:Int) (p3:Bool) (p4:L66) (again:S93→Option R) (again':S93→Option R') (k0:(L66)→Option R') (k:R'→Option R) (h:∀ s,again s=ob (again' s) k):∀ s,T93 B c93 c155 p0 p1 p2 p3 p4 again (fun y=>ob (k0 y) k) s=ob (T93 B c93 c155 p0 p1 p2 p3 p4 again' k0 s) k
 | none=>by unfold T93;repeat' first | exact rfl | exact h _ | apply qac | (apply qah;intro)
 | some (.l1010 v1010_0)=>by unfold T93;repeat' first | exact rfl | exact h _ | apply qac | (apply qah;intro)
 | some (.l1015 v1015_0)=>by unfold T93;repeat' first | exact rfl | exact h _ | apply qac | (apply qah;intro)
 | some (.l1026 v1026_3 v1026_4 v1026_5)=>by unfold T93;repeat' first | exact rfl | exact h _ | apply qac | (apply qah;intro)
 | some (.l1033 v1033_3 v1033_4 v1033_5)=>by unfold T93;repeat' first | exact rfl | exact h _ | apply qac | (apply qah;intro)
 | some (.l1038 v1038_1 v1038_2)=>by unfold T93;repeat' first | exact rfl | exact h _ | apply qac | (apply qah;intro)
def R93 (c93:C93) (c155:C155) (p0:L66) (p1:L22) (p2:Int) (p3:Bool) (p4:L66):Nat→S93→Option (L66)
 | 0,_=>none
 | n+1,s=>T93 Ops.std c93 c155 p0 p1 p2 p3 p4 (R93 c93 c155 p0 p1 p2 p3 p4 n) some (some s)
theorem rr93 {R:Type} (c93:C93) (c155:C155) (p0:L66) (p1:L22) (p2:Int) (p3:Bool) (p4:L66) (k:AV→Objs→Option R):∀ (n:Nat) (s:S93),aloop tau Ops.std gl0 X93 (ent 93 (e93 c93) (ent 155 (e155 c155) (gnil))) ow [] Tryz.f93 k (I93 s) (E93 p0 p1 p2 p3 p4 s) n=ob (R93 c93 c155 p0 p1 p2 p3 p4 n s) (fun y=>k (.c (.own 500)) [(500,.row 66 ty66 y)])
 | 0,s=>by cases s<;>rfl
 | n+1,s=>by rw [el93];exact nt93 Ops.std c93 c155 p0 p1 p2 p3 p4 _ _ some (fun y=>k (.c (.own 500)) [(500,.row 66 ty66 y)]) (rr93 c93 c155 p0 p1 p2 p3 p4 k n) (some s)
def F93 (c93:C93) (c155:C155) (p0:L66) (p1:L22) (p2:Int) (p3:Bool) (p4:L66):Option (L66):=T93 Ops.std c93 c155 p0 p1 p2 p3 p4 (R93 c93 c155 p0 p1 p2 p3 p4 1000000) some none
theorem fo93 {R:Type} (c93:C93) (c155:C155) (p0:L66) (p1:L22) (p2:Int) (p3:Bool) (p4:L66) (k:AV→Objs→Option R):afun tau Ops.std gl0 X93 (ent 93 (e93 c93) (ent 155 (e155 c155) (gnil))) ow Tryz.f93 [.c (.list 66 ty66 p0),.c (.list 22 ty22 p1),.c (.int .i64 p2),.c (.bool p3),.c (.own 4)] [(4,.row 66 ty66 p4)] k 1000000=ob (F93 c93 c155 p0 p1 p2 p3 p4) (fun y=>k (.c (.own 500)) [(500,.row 66 ty66 y)]):=by rw [eq93];exact nt93 Ops.std c93 c155 p0 p1 p2 p3 p4 _ _ some (fun y=>k (.c (.own 500)) [(500,.row 66 ty66 y)]) (rr93 c93 c155 p0 p1 p2 p3 p4 k 1000000) none
theorem sf93 {c93:C93} {c155:C155} (h93:Sp93 c93) (h155:Sp155 c155):Sp93 (F93 c93 c155):=fun p0 p1 p2 p3 p4 y hy=>by
 refine qap (G:=ent 93 (e93 c93) (ent 155 (e155 c155) (gnil))) (qai (ek93 h93) (qai (ek155 h155) (qao))) 1000000 (fn:=Tryz.f93) (by kernel_rfl) (by kernel_rfl) (X:=X93) (by kernel_rfl) ?_
 rw [fo93,hy]
 rfl
noncomputable def Rec93:Nat→(L66→L22→Int→Bool→L66→Option (L66))
 | 0=>fun _ _ _ _ _=>none
 | d+1=>F93 (Rec93 d) M155
theorem rec93:∀ d,Sp93 (Rec93 d)
 | 0=>fun p0 p1 p2 p3 p4 y (h:(none:Option (L66))=some y)=>by cases h
 | d+1=>sf93 (rec93 d) sm155
noncomputable def M93:L66→L22→Int→Bool→L66→Option (L66):=(Rec93 1000000)
theorem sm93:Sp93 M93:=(rec93 1000000)
def X49:Aux:=⟨[],[]⟩
abbrev C37:Type:=L66→Option (L22)
def T49 {R:Type} (B:Ops) (c63:C63) (c37:C37) (c93:C93) (p0:L66) (p1:Bool) (k:(L66)→Option R):Option R:=ob (c63 p0) fun y0=>cond (!y0) (k (mt (Ty.den ty66))) (ob (c37 p0) fun y1=>ob (c93 p0 y1 (IntKind.wrap .i64 (Nat.cast (List.length p0)-1)) p1 (mt (Ty.den ty66))) fun y2=>cond (Ops.lt B (60) (Nat.cast (List.length y2))) (k (mt (Ty.den ty66))) (k y2))
theorem eq49 {R:Type} (B:Ops) (c63:C63) (c37:C37) (c93:C93) (p0:L66) (p1:Bool) (k:AV→Objs→Option R) (n:Nat):afun tau B gl0 X49 (ent 63 (e63 c63) (ent 37 (e37 c37) (ent 93 (e93 c93) (gnil)))) ow Tryz.f49 [.c (.list 66 ty66 p0),.c (.bool p1)] [] k n=T49 B c63 c37 c93 p0 p1 (fun y=>k (.c (.own 500)) [(500,.row 66 ty66 y)]):=by kernel_rfl
theorem nt49 {R R':Type} (B:Ops) (c63:C63) (c37:C37) (c93:C93) (p0:L66) (p1:Bool) (k0:(L66)→Option R') (k:R'→Option R):T49 B c63 c37 c93 p0 p1 (fun y=>ob (k0 y) k)=ob (T49 B c63 c37 c93 p0 p1 k0) k:=by
 unfold T49
 repeat' first | exact rfl | apply qac | (apply qah;intro)
def F49 (c63:C63) (c37:C37) (c93:C93) (p0:L66) (p1:Bool):Option (L66):=T49 Ops.std c63 c37 c93 p0 p1 some
theorem fo49 {R:Type} (c63:C63) (c37:C37) (c93:C93) (p0:L66) (p1:Bool) (k:AV→Objs→Option R) (n:Nat):afun tau Ops.std gl0 X49 (ent 63 (e63 c63) (ent 37 (e37 c37) (ent 93 (e93 c93) (gnil)))) ow Tryz.f49 [.c (.list 66 ty66 p0),.c (.bool p1)] [] k n=ob (F49 c63 c37 c93 p0 p1) (fun y=>k (.c (.own 500)) [(500,.row 66 ty66 y)]):=by rw [eq49];exact nt49 Ops.std c63 c37 c93 p0 p1 some (fun y=>k (.c (.own 500)) [(500,.row 66 ty66 y)])
def e49 {R:Type} (c:L66→Bool→Option (L66)):Ent R:=fun args objs k=>
 oCons args fun a0 l0=>oC a0 fun x0=>cList 66 ty66 x0 fun p0=>oCons l0 fun a1 l1=>oC a1 fun x1=>cBool x1 fun p1=>oNil l1 <| oNilO objs <| ob (c p0 p1) fun y=>k (.c (.own 500)) [(500,.row 66 ty66 y)]
abbrev Sp49 (c:L66→Bool→Option (L66)):Prop:=∀ (p0:L66) (p1:Bool) (y:L66),c p0 p1=some y→Spec Tryz.prog gl0 49 [.c (.list 66 ty66 p0),.c (.bool p1)] [] (.c (.own 500)) [(500,.row 66 ty66 y)]
theorem ek49 {R:Type} {c:L66→Bool→Option (L66)} (hs:Sp49 c):EOk 49 (e49 (R:=R) c):=fun args objs k r h=>by
 unfold e49 at h
 obtain ⟨a0,l0,rfl,q1⟩:=qaa h
 obtain ⟨x0,rfl,q2⟩:=qaj q1
 obtain ⟨p0,rfl,q3⟩:=qae q2
 obtain ⟨a1,l1,rfl,q4⟩:=qaa q3
 obtain ⟨x1,rfl,q5⟩:=qaj q4
 obtain ⟨p1,rfl,q6⟩:=qc4 q5
 obtain ⟨rfl,q7⟩:=qag q6
 obtain ⟨rfl,q8⟩:=qaf q7
 exact qar (hs p0 p1) q8
theorem sf49 {c63:C63} {c37:C37} {c93:C93} (h63:Sp63 c63) (h37:Sp37 c37) (h93:Sp93 c93):Sp49 (F49 c63 c37 c93):=fun p0 p1 y hy=>by
 refine qap (G:=ent 63 (e63 c63) (ent 37 (e37 c37) (ent 93 (e93 c93) (gnil)))) (qai (ek63 h63) (qai (ek37 h37) (qai (ek93 h93) (qao)))) 1000000 (fn:=Tryz.f49) (by kernel_rfl) (by kernel_rfl) (X:=X49) (by kernel_rfl) ?_
 rw [fo49,hy]
 rfl
noncomputable def M49:L66→Bool→Option (L66):=F49 M63 M37 M93
theorem sm49:Sp49 M49:=sf49 sm63 sm37 sm93
def X13:Aux:=⟨[],[]⟩
abbrev C49:Type:=L66→Bool→Option (L66)
def T13 {R:Type} (B:Ops) (c49:C49) (p0:L66) (k:(L66)→Option R):Option R:=ob (c49 p0 false) fun y0=>k y0
theorem eq13 {R:Type} (B:Ops) (c49:C49) (p0:L66) (k:AV→Objs→Option R) (n:Nat):afun tau B gl0 X13 (ent 49 (e49 c49) (gnil)) ow Tryz.f13 [.c (.list 66 ty66 p0)] [] k n=T13 B c49 p0 (fun y=>k (.c (.own 500)) [(500,.row 66 ty66 y)]):=by kernel_rfl
theorem nt13 {R R':Type} (B:Ops) (c49:C49) (p0:L66) (k0:(L66)→Option R') (k:R'→Option R):T13 B c49 p0 (fun y=>ob (k0 y) k)=ob (T13 B c49 p0 k0) k:=by
 unfold T13
 repeat' first | exact rfl | apply qac | (apply qah;intro)
def F13 (c49:C49) (p0:L66):Option (L66):=T13 Ops.std c49 p0 some
theorem fo13 {R:Type} (c49:C49) (p0:L66) (k:AV→Objs→Option R) (n:Nat):afun tau Ops.std gl0 X13 (ent 49 (e49 c49) (gnil)) ow Tryz.f13 [.c (.list 66 ty66 p0)] [] k n=ob (F13 c49 p0) (fun y=>k (.c (.own 500)) [(500,.row 66 ty66 y)]):=by rw [eq13];exact nt13 Ops.std c49 p0 some (fun y=>k (.c (.own 500)) [(500,.row 66 ty66 y)])
def e13 {R:Type} (c:L66→Option (L66)):Ent R:=fun args objs k=>
 oCons args fun a0 l0=>oC a0 fun x0=>cList 66 ty66 x0 fun p0=>oNil l0 <| oNilO objs <| ob (c p0) fun y=>k (.c (.own 500)) [(500,.row 66 ty66 y)]
abbrev Sp13 (c:L66→Option (L66)):Prop:=∀ (p0:L66) (y:L66),c p0=some y→Spec Tryz.prog gl0 13 [.c (.list 66 ty66 p0)] [] (.c (.own 500)) [(500,.row 66 ty66 y)]
theorem ek13 {R:Type} {c:L66→Option (L66)} (hs:Sp13 c):EOk 13 (e13 (R:=R) c):=fun args objs k r h=>by
 unfold e13 at h
 obtain ⟨a0,l0,rfl,q1⟩:=qaa h
 obtain ⟨x0,rfl,q2⟩:=qaj q1
 obtain ⟨p0,rfl,q3⟩:=qae q2
 obtain ⟨rfl,q4⟩:=qag q3
 obtain ⟨rfl,q5⟩:=qaf q4
 exact qar (hs p0) q5
theorem sf13 {c49:C49} (h49:Sp49 c49):Sp13 (F13 c49):=fun p0 y hy=>by
 refine qap (G:=ent 49 (e49 c49) (gnil)) (qai (ek49 h49) (qao)) 1000000 (fn:=Tryz.f13) (by kernel_rfl) (by kernel_rfl) (X:=X13) (by kernel_rfl) ?_
 rw [fo13,hy]
 rfl
noncomputable def M13:L66→Option (L66):=F13 M49
theorem sm13:Sp13 M13:=sf13 sm49
def X16:Aux:=⟨[],[]⟩
def T16 {R:Type} (B:Ops) (c49:C49) (p0:L66) (k:(L66)→Option R):Option R:=ob (c49 p0 true) fun y0=>k y0
theorem eq16 {R:Type} (B:Ops) (c49:C49) (p0:L66) (k:AV→Objs→Option R) (n:Nat):afun tau B gl0 X16 (ent 49 (e49 c49) (gnil)) ow Tryz.f16 [.c (.list 66 ty66 p0)] [] k n=T16 B c49 p0 (fun y=>k (.c (.own 500)) [(500,.row 66 ty66 y)]):=by kernel_rfl
theorem nt16 {R R':Type} (B:Ops) (c49:C49) (p0:L66) (k0:(L66)→Option R') (k:R'→Option R):T16 B c49 p0 (fun y=>ob (k0 y) k)=ob (T16 B c49 p0 k0) k:=by
 unfold T16
 repeat' first | exact rfl | apply qac | (apply qah;intro)
def F16 (c49:C49) (p0:L66):Option (L66):=T16 Ops.std c49 p0 some
theorem fo16 {R:Type} (c49:C49) (p0:L66) (k:AV→Objs→Option R) (n:Nat):afun tau Ops.std gl0 X16 (ent 49 (e49 c49) (gnil)) ow Tryz.f16 [.c (.list 66 ty66 p0)] [] k n=ob (F16 c49 p0) (fun y=>k (.c (.own 500)) [(500,.row 66 ty66 y)]):=by rw [eq16];exact nt16 Ops.std c49 p0 some (fun y=>k (.c (.own 500)) [(500,.row 66 ty66 y)])
def e16 {R:Type} (c:L66→Option (L66)):Ent R:=fun args objs k=>
 oCons args fun a0 l0=>oC a0 fun x0=>cList 66 ty66 x0 fun p0=>oNil l0 <| oNilO objs <| ob (c p0) fun y=>k (.c (.own 500)) [(500,.row 66 ty66 y)]
abbrev Sp16 (c:L66→Option (L66)):Prop:=∀ (p0:L66) (y:L66),c p0=some y→Spec Tryz.prog gl0 16 [.c (.list 66 ty66 p0)] [] (.c (.own 500)) [(500,.row 66 ty66 y)]
theorem ek16 {R:Type} {c:L66→Option (L66)} (hs:Sp16 c):EOk 16 (e16 (R:=R) c):=fun args objs k r h=>by
 unfold e16 at h
 obtain ⟨a0,l0,rfl,q1⟩:=qaa h
 obtain ⟨x0,rfl,q2⟩:=qaj q1
 obtain ⟨p0,rfl,q3⟩:=qae q2
 obtain ⟨rfl,q4⟩:=qag q3
 obtain ⟨rfl,q5⟩:=qaf q4
 exact qar (hs p0) q5
theorem sf16 {c49:C49} (h49:Sp49 c49):Sp16 (F16 c49):=fun p0 y hy=>by
 refine qap (G:=ent 49 (e49 c49) (gnil)) (qai (ek49 h49) (qao)) 1000000 (fn:=Tryz.f16) (by kernel_rfl) (by kernel_rfl) (X:=X16) (by kernel_rfl) ?_
 rw [fo16,hy]
 rfl
noncomputable def M16:L66→Option (L66):=F16 M49
theorem sm16:Sp16 M16:=sf16 sm49
def X19:Aux:=⟨[(2,([0,3,4]++rg 6 24))],[(4,.lin (rg 0 16))]⟩
inductive S19 where
 | l0 (v0_1:Int)
def T19 {R:Type} (B:Ops) (c62:C62) (c63:C63) (p0:L94) (p1:L98) (p2:L103) (p3:L66) (again:S19→Option R) (k:(Bool)→Option R):Option S19→Option R | none=>again (.l0 0) | some (.l0 v0_1)=>cond (Ops.lt B v0_1 (Nat.cast (List.length p3))) (cond (Ops.inb B v0_1 (List.length p3)) (cond (Ops.eq B ((List.getD p3 (Int.toNat v0_1) (Ty.dflt ty66)).1) (3)) (cond (Ops.inb B v0_1 (List.length p3)) (ob (c62 p0 p1 p2 ((List.getD p3 (Int.toNat v0_1) (Ty.dflt ty66)).2)) fun y0=>cond (!y0) (k false) (again (.l0 (IntKind.wrap .i64 (v0_1+1))))) (none)) (again (.l0 (IntKind.wrap .i64 (v0_1+1))))) (none)) (ob (c63 p3) fun y0=>k y0)
def E19 (p0:L94) (p1:L98) (p2:L103) (p3:L66):S19→List AV×Objs
 | .l0 v0_1=>(mk 30 [(1,.c (.list 66 ty66 p3)),(2,.c (.ptr 2 0)),(5,.c (.int .i64 v0_1))],[(2,.box 31 [.list 94 ty94 p0,.list 98 ty98 p1,.list 103 ty103 p2])])
def I19:S19→Nat
 | .l0 _=>0
theorem eq19 {R:Type} (B:Ops) (c62:C62) (c63:C63) (p0:L94) (p1:L98) (p2:L103) (p3:L66) (k:AV→Objs→Option R) (n:Nat):afun tau B gl0 X19 (ent 62 (e62 c62) (ent 63 (e63 c63) (gnil))) ow Tryz.f19 [.agg [.list 94 ty94 p0,.list 98 ty98 p1,.list 103 ty103 p2],.c (.list 66 ty66 p3)] [] k n=T19 B c62 c63 p0 p1 p2 p3 (fun s=>aloop tau B gl0 X19 (ent 62 (e62 c62) (ent 63 (e63 c63) (gnil))) ow [] Tryz.f19 k (I19 s) (E19 p0 p1 p2 p3 s) n) (fun y=>k (.c (.bool y)) []) none:=by kernel_rfl
theorem el19 {R:Type} (B:Ops) (c62:C62) (c63:C63) (p0:L94) (p1:L98) (p2:L103) (p3:L66) (k:AV→Objs→Option R) (n:Nat):∀ s,aloop tau B gl0 X19 (ent 62 (e62 c62) (ent 63 (e63 c63) (gnil))) ow [] Tryz.f19 k (I19 s) (E19 p0 p1 p2 p3 s) (n+1)=T19 B c62 c63 p0 p1 p2 p3 (fun s=>aloop tau B gl0 X19 (ent 62 (e62 c62) (ent 63 (e63 c63) (gnil))) ow [] Tryz.f19 k (I19 s) (E19 p0 p1 p2 p3 s) n) (fun y=>k (.c (.bool y)) []) (some s)
 | .l0 v0_1=>by kernel_rfl
theorem nt19 {R R':Type} (B:Ops) (c62:C62) (c63:C63) (p0:L94) (p1:L98) (p2:L103) (p3:L66) (again:S19→Option R) (again':S19→Option R') (k0:(Bool)→Option R') (k:R'→Option R) (h:∀ s,again s=ob (again' s) k):∀ s,T19 B c62 c63 p0 p1 p2 p3 again (fun y=>ob (k0 y) k) s=ob (T19 B c62 c63 p0 p1 p2 p3 again' k0 s) k
 | none=>by unfold T19;repeat' first | exact rfl | exact h _ | apply qac | (apply qah;intro)
 | some (.l0 v0_1)=>by unfold T19;repeat' first | exact rfl | exact h _ | apply qac | (apply qah;intro)
def R19 (c62:C62) (c63:C63) (p0:L94) (p1:L98) (p2:L103) (p3:L66):Nat→S19→Option (Bool)
 | 0,_=>none
 | n+1,s=>T19 Ops.std c62 c63 p0 p1 p2 p3 (R19 c62 c63 p0 p1 p2 p3 n) some (some s)
theorem rr19 {R:Type} (c62:C62) (c63:C63) (p0:L94) (p1:L98) (p2:L103) (p3:L66) (k:AV→Objs→Option R):∀ (n:Nat) (s:S19),aloop tau Ops.std gl0 X19 (ent 62 (e62 c62) (ent 63 (e63 c63) (gnil))) ow [] Tryz.f19 k (I19 s) (E19 p0 p1 p2 p3 s) n=ob (R19 c62 c63 p0 p1 p2 p3 n s) (fun y=>k (.c (.bool y)) [])
 | 0,s=>by cases s<;>rfl
 | n+1,s=>by rw [el19];exact nt19 Ops.std c62 c63 p0 p1 p2 p3 _ _ some (fun y=>k (.c (.bool y)) []) (rr19 c62 c63 p0 p1 p2 p3 k n) (some s)
def F19 (c62:C62) (c63:C63) (p0:L94) (p1:L98) (p2:L103) (p3:L66):Option (Bool):=T19 Ops.std c62 c63 p0 p1 p2 p3 (R19 c62 c63 p0 p1 p2 p3 1000000) some none
theorem fo19 {R:Type} (c62:C62) (c63:C63) (p0:L94) (p1:L98) (p2:L103) (p3:L66) (k:AV→Objs→Option R):afun tau Ops.std gl0 X19 (ent 62 (e62 c62) (ent 63 (e63 c63) (gnil))) ow Tryz.f19 [.agg [.list 94 ty94 p0,.list 98 ty98 p1,.list 103 ty103 p2],.c (.list 66 ty66 p3)] [] k 1000000=ob (F19 c62 c63 p0 p1 p2 p3) (fun y=>k (.c (.bool y)) []):=by rw [eq19];exact nt19 Ops.std c62 c63 p0 p1 p2 p3 _ _ some (fun y=>k (.c (.bool y)) []) (rr19 c62 c63 p0 p1 p2 p3 k 1000000) none
def e19 {R:Type} (c:L94→L98→L103→L66→Option (Bool)):Ent R:=fun args objs k=>
 oCons args fun a0 l0=>oAgg a0 fun x0=>cCons x0 fun z0_0 w0_0=>cList 94 ty94 z0_0 fun p0=>cCons w0_0 fun z0_1 w0_1=>cList 98 ty98 z0_1 fun p1=>cCons w0_1 fun z0_2 w0_2=>cList 103 ty103 z0_2 fun p2=>cNil w0_2 <| oCons l0 fun a1 l1=>oC a1 fun x1=>cList 66 ty66 x1 fun p3=>oNil l1 <| oNilO objs <| ob (c p0 p1 p2 p3) fun y=>k (.c (.bool y)) []
abbrev Sp19 (c:L94→L98→L103→L66→Option (Bool)):Prop:=∀ (p0:L94) (p1:L98) (p2:L103) (p3:L66) (y:Bool),c p0 p1 p2 p3=some y→Spec Tryz.prog gl0 19 [.agg [.list 94 ty94 p0,.list 98 ty98 p1,.list 103 ty103 p2],.c (.list 66 ty66 p3)] [] (.c (.bool y)) []
theorem ek19 {R:Type} {c:L94→L98→L103→L66→Option (Bool)} (hs:Sp19 c):EOk 19 (e19 (R:=R) c):=fun args objs k r h=>by
 unfold e19 at h
 obtain ⟨a0,l0,rfl,q1⟩:=qaa h
 obtain ⟨x0,rfl,q2⟩:=qax q1
 obtain ⟨z0_0,w0_0,rfl,q3⟩:=qad q2
 obtain ⟨p0,rfl,q4⟩:=qae q3
 obtain ⟨z0_1,w0_1,rfl,q5⟩:=qad q4
 obtain ⟨p1,rfl,q6⟩:=qae q5
 obtain ⟨z0_2,w0_2,rfl,q7⟩:=qad q6
 obtain ⟨p2,rfl,q8⟩:=qae q7
 obtain ⟨rfl,q9⟩:=qat q8
 obtain ⟨a1,l1,rfl,q10⟩:=qaa q9
 obtain ⟨x1,rfl,q11⟩:=qaj q10
 obtain ⟨p3,rfl,q12⟩:=qae q11
 obtain ⟨rfl,q13⟩:=qag q12
 obtain ⟨rfl,q14⟩:=qaf q13
 exact qar (hs p0 p1 p2 p3) q14
theorem sf19 {c62:C62} {c63:C63} (h62:Sp62 c62) (h63:Sp63 c63):Sp19 (F19 c62 c63):=fun p0 p1 p2 p3 y hy=>by
 refine qap (G:=ent 62 (e62 c62) (ent 63 (e63 c63) (gnil))) (qai (ek62 h62) (qai (ek63 h63) (qao))) 1000000 (fn:=Tryz.f19) (by kernel_rfl) (by kernel_rfl) (X:=X19) (by kernel_rfl) ?_
 rw [fo19,hy]
 rfl
noncomputable def M19:L94→L98→L103→L66→Option (Bool):=F19 M62 M63
theorem sm19:Sp19 M19:=sf19 sm62 sm63
end Go.Proofs.YtccnmhdgghjgoaaGreatDoor.Av
