/- Twins of functions,printed by gen.py. Conditions: none. -/
import Derived.Test.YtfdlgmbbflmbgaaGreatDoorCl1
import Derived.KernelRfl
set_option linter.unusedSimpArgs false
set_option linter.unusedVariables false
set_option maxRecDepth 100000
set_option maxHeartbeats 8000000
namespace Go.Proofs.YtfdlgmbbflmbgaaGreatDoor.Av
open Go
abbrev LB:=List UInt8
abbrev rg:=List.range'
abbrev L3:=List ty3.den
abbrev L4:=List ty4.den
abbrev L9:=List ty9.den
abbrev L22:=List ty22.den
abbrev L45:=List ty45.den
abbrev L61:=List ty61.den
abbrev L65:=List ty65.den
abbrev L71:=List ty71.den
abbrev L73:=List ty73.den
abbrev L79:=List ty79.den
abbrev L106:=List ty106.den
abbrev L116:=List ty116.den
abbrev L118:=List ty118.den
abbrev L129:=List ty129.den
abbrev L149:=List ty149.den
abbrev oE {R:Type} (l:List AV) (o:Objs) (x:Option R):Option R:=oNil l <| oNilO o <| x
theorem qam {R:Type} {l:List AV} {o:Objs} {x:Option R} {r:R} (h:oE l o x=some r):l=[]∧o=[]∧x=some r:=by
 obtain ⟨rfl,q1⟩:=qa2 h
 obtain ⟨rfl,q2⟩:=qay q1
 exact ⟨rfl,rfl,q2⟩
abbrev oL {R:Type} (l:List AV) (n:Nat) (t:Ty) (f:List t.den→List AV→Option R):Option R:=oCons l fun a l=>oC a fun x=>cList n t x fun p=>f p l
theorem qa1 {R:Type} {l:List AV} {n:Nat} {t:Ty} {f:List t.den→List AV→Option R} {r:R} (h:oL l n t f=some r):∃ p l',l=.c (.list n t p)::l'∧f p l'=some r:=by
 obtain ⟨a,l',rfl,q1⟩:=qak h
 obtain ⟨x,rfl,q2⟩:=qa5 q1
 obtain ⟨p,rfl,q3⟩:=qac q2
 exact ⟨p,l',rfl,q3⟩
abbrev oI {R:Type} (l:List AV) (n:IntKind) (f:Int→List AV→Option R):Option R:=oCons l fun a l=>oC a fun x=>cInt n x fun p=>f p l
theorem qas {R:Type} {l:List AV} {n:IntKind} {f:Int→List AV→Option R} {r:R} (h:oI l n f=some r):∃ p l',l=.c (.int n p)::l'∧f p l'=some r:=by
 obtain ⟨a,l',rfl,q1⟩:=qak h
 obtain ⟨x,rfl,q2⟩:=qa5 q1
 obtain ⟨p,rfl,q3⟩:=qar q2
 exact ⟨p,l',rfl,q3⟩
abbrev oS {R:Type} (l:List AV) (f:LB→List AV→Option R):Option R:=oCons l fun a l=>oC a fun x=>cStr x fun p=>f p l
theorem qa9 {R:Type} {l:List AV} {f:LB→List AV→Option R} {r:R} (h:oS l f=some r):∃ p l',l=.c (.str p)::l'∧f p l'=some r:=by
 obtain ⟨a,l',rfl,q1⟩:=qak h
 obtain ⟨x,rfl,q2⟩:=qa5 q1
 obtain ⟨p,rfl,q3⟩:=qbb q2
 exact ⟨p,l',rfl,q3⟩
def X48:Aux:=⟨[],[]⟩
def T48 {R:Type} (B:Ops) (p0:Int) (k:(Bool)→Option R):Option R:=cond (B.le (48) p0) (k (B.le p0 (57))) (k false)
abbrev K1 {R:Type} (k:AV→Objs→Option R) (y:(Bool)):Option R:=k (.c (.bool y)) []
theorem eq48 {R:Type} (B:Ops) (p0:Int) (k:AV→Objs→Option R) (n:Nat):afun tau B gl0 X48 gnil ow Tryz.f48 [.c (.int .u8 p0)] [] k n=T48 B p0 (K1 k):=by kernel_rfl
theorem nt48 {R R':Type} (B:Ops) (p0:Int) (k0:(Bool)→Option R') (k:R'→Option R):T48 B p0 (fun y=>ob (k0 y) k)=ob (T48 B p0 k0) k:=by
 unfold T48
 repeat' first | exact rfl | apply qae | (apply qao;intro)
def F48 (p0:Int):Option (Bool):=T48 Ops.std p0 some
def e48 {R:Type} (c:Int→Option (Bool)):Ent R:=fun args objs k=>
 oI args .u8 fun p0 l0=>oE l0 objs <| ob (c p0) (K1 k)
abbrev Sp48 (c:Int→Option (Bool)):Prop:=∀ (p0:Int) (y:Bool),c p0=some y→Spec Tryz.prog gl0 48 [.c (.int .u8 p0)] [] (.c (.bool y)) []
theorem ek48 {R:Type} {c:Int→Option (Bool)} (hs:Sp48 c):EOk 48 (e48 (R:=R) c):=fun args objs k r h=>by
 unfold e48 at h
 obtain ⟨p0,l0,rfl,q3⟩:=qas h
 obtain ⟨rfl,rfl,q5⟩:=qam q3
 exact qan (hs p0) q5
theorem sf48:Sp48 (F48):=fun p0 y hy=>by
 refine qai qah 1000000 (fn:=Tryz.f48) (by kernel_rfl) (by kernel_rfl) (X:=X48) (by kernel_rfl) ?_
 rw [eq48]
 exact (nt48 Ops.std p0 some (K1 k0)).trans (by show ob (F48 p0) _=_;rw [hy];rfl)
noncomputable def M48:Int→Option (Bool):=F48
theorem sm48:Sp48 M48:=sf48
def X47:Aux:=⟨[],[]⟩
def T47 {R:Type} (B:Ops) (p0:Int) (k:(Bool)→Option R):Option R:=cond (B.le (97) p0) (cond (B.le p0 (122)) (k true) (k (B.eq p0 (95)))) (k (B.eq p0 (95)))
theorem eq47 {R:Type} (B:Ops) (p0:Int) (k:AV→Objs→Option R) (n:Nat):afun tau B gl0 X47 gnil ow Tryz.f47 [.c (.int .u8 p0)] [] k n=T47 B p0 (K1 k):=by kernel_rfl
theorem nt47 {R R':Type} (B:Ops) (p0:Int) (k0:(Bool)→Option R') (k:R'→Option R):T47 B p0 (fun y=>ob (k0 y) k)=ob (T47 B p0 k0) k:=by
 unfold T47
 repeat' first | exact rfl | apply qae | (apply qao;intro)
def F47 (p0:Int):Option (Bool):=T47 Ops.std p0 some
def e47 {R:Type} (c:Int→Option (Bool)):Ent R:=fun args objs k=>
 oI args .u8 fun p0 l0=>oE l0 objs <| ob (c p0) (K1 k)
abbrev Sp47 (c:Int→Option (Bool)):Prop:=∀ (p0:Int) (y:Bool),c p0=some y→Spec Tryz.prog gl0 47 [.c (.int .u8 p0)] [] (.c (.bool y)) []
theorem ek47 {R:Type} {c:Int→Option (Bool)} (hs:Sp47 c):EOk 47 (e47 (R:=R) c):=fun args objs k r h=>by
 unfold e47 at h
 obtain ⟨p0,l0,rfl,q3⟩:=qas h
 obtain ⟨rfl,rfl,q5⟩:=qam q3
 exact qan (hs p0) q5
theorem sf47:Sp47 (F47):=fun p0 y hy=>by
 refine qai qah 1000000 (fn:=Tryz.f47) (by kernel_rfl) (by kernel_rfl) (X:=X47) (by kernel_rfl) ?_
 rw [eq47]
 exact (nt47 Ops.std p0 some (K1 k0)).trans (by show ob (F47 p0) _=_;rw [hy];rfl)
noncomputable def M47:Int→Option (Bool):=F47
theorem sm47:Sp47 M47:=sf47
def X76:Aux:=⟨[(3,([1,2]++rg 5 37)),(9,([1,2,3,4]++rg 7 35))],[(5,.lin (rg 0 11)),(11,.lin [0,1,2,3,4,5,6,7])]⟩
inductive S76 where
 | l0 (v1:Int)
 | l1 (v2:Int)
def T76 {R:Type} (B:Ops) (p0:LB) (again:S76→Option R) (k:(LB)→Option R):Option S76→Option R | none=>again (.l0 0) | some (.l0 v1)=>cond (B.lt v1 (7)) (cond (B.lt (1) (↑p0.length)) (cond (B.inb (2) (List.length p0+1)) (cond (B.inb v1 (9)) (cond (List.drop (0) (List.take (Int.toNat (2)) p0) == List.getD (([60,61]:LB)::([62,61]:LB)::([61,61]:LB)::([33,61]:LB)::([38,38]:LB)::([124,124]:LB)::([45,62]:LB)::(mt UInt8)::(mt UInt8)::mt LB) v1.toNat (mt UInt8)) (cond (B.inb v1 (9)) (k (List.getD (([60,61]:LB)::([62,61]:LB)::([61,61]:LB)::([33,61]:LB)::([38,38]:LB)::([124,124]:LB)::([45,62]:LB)::(mt UInt8)::(mt UInt8)::mt LB) v1.toNat (mt UInt8))) none) (again (.l0 (IntKind.wrap .i64 (v1+1))))) none) none) (again (.l0 (IntKind.wrap .i64 (v1+1))))) (again (.l1 0)) | some (.l1 v2)=>cond (B.lt v2 (Nat.cast (13))) (cond (B.inb (1) (List.length p0+1)) (cond (B.inb (IntKind.wrap .i64 (v2+1)) (13+1)) (cond (bif B.le (0) v2 then B.le v2 (IntKind.wrap .i64 (v2+1)) else false) (cond (List.drop (0) (List.take (Int.toNat (1)) p0) == List.drop v2.toNat (List.take (Int.toNat (IntKind.wrap .i64 (v2+1))) ([40,41,91,93,43,45,42,60,62,33,64,59,61]:LB))) (cond (B.inb (1) (List.length p0+1)) (k (List.drop (0) (List.take (Int.toNat (1)) p0))) none) (again (.l1 (IntKind.wrap .i64 (v2+1))))) none) none) none) (k (mt UInt8))
def E76 (p0:LB):S76→List AV×Objs
 | .l0 v1=>(mk 42 [(0,.c (.str p0)),(3,.c (.ptr 3 0)),(4,.c (.int .i64 v1))],[(3,.box 157 [.str ([60,61]:LB),.str ([62,61]:LB),.str ([61,61]:LB),.str ([33,61]:LB),.str ([38,38]:LB),.str ([124,124]:LB),.str ([45,62]:LB),.str (mt UInt8),.str (mt UInt8)])])
 | .l1 v2=>(mk 42 [(0,.c (.str p0)),(5,.c (.str ([40,41,91,93,43,45,42,60,62,33,64,59,61]:LB))),(6,.c (.int .i64 v2))],[])
def I76:S76→Nat
 | .l0 _=>0
 | .l1 _=>1
abbrev K2 {R:Type} (k:AV→Objs→Option R) (y:(LB)):Option R:=k (.c (.str y)) []
theorem eq76 {R:Type} (B:Ops) (p0:LB) (k:AV→Objs→Option R) (n:Nat):afun tau B gl0 X76 gnil ow Tryz.f76 [.c (.str p0)] [] k n=T76 B p0 (fun s=>aloop tau B gl0 X76 gnil ow [] Tryz.f76 k (I76 s) (E76 p0 s) n) (K2 k) none:=by kernel_rfl
theorem el76 {R:Type} (B:Ops) (p0:LB) (k:AV→Objs→Option R) (n:Nat):∀ s,aloop tau B gl0 X76 gnil ow [] Tryz.f76 k (I76 s) (E76 p0 s) (n+1)=T76 B p0 (fun s=>aloop tau B gl0 X76 gnil ow [] Tryz.f76 k (I76 s) (E76 p0 s) n) (K2 k) (some s):=by
 intro s
 cases s<;>kernel_rfl
theorem nt76 {R R':Type} (B:Ops) (p0:LB) (again:S76→Option R) (again':S76→Option R') (k0:(LB)→Option R') (k:R'→Option R) (h:∀ s,again s=ob (again' s) k):∀ s,T76 B p0 again (fun y=>ob (k0 y) k) s=ob (T76 B p0 again' k0 s) k:=by
 rintro (_ | x)
 all_goals try cases x
 all_goals (unfold T76;repeat' first | exact rfl | exact h _ | apply qae | (apply qao;intro))
def R76 (p0:LB):Nat→S76→Option (LB)
 | 0,_=>none
 | n+1,s=>T76 Ops.std p0 (R76 p0 n) some (some s)
theorem rr76 {R:Type} (p0:LB) (k:AV→Objs→Option R):∀ (n:Nat) (s:S76),aloop tau Ops.std gl0 X76 gnil ow [] Tryz.f76 k (I76 s) (E76 p0 s) n=ob (R76 p0 n s) (K2 k)
 | 0,s=>by cases s<;>rfl
 | n+1,s=>by rw [el76];exact nt76 Ops.std p0 _ _ some (K2 k) (rr76 p0 k n) (some s)
def F76 (p0:LB):Option (LB):=T76 Ops.std p0 (R76 p0 1000000) some none
def e76 {R:Type} (c:LB→Option (LB)):Ent R:=fun args objs k=>
 oS args fun p0 l0=>oE l0 objs <| ob (c p0) (K2 k)
abbrev Sp76 (c:LB→Option (LB)):Prop:=∀ (p0:LB) (y:LB),c p0=some y→Spec Tryz.prog gl0 76 [.c (.str p0)] [] (.c (.str y)) []
theorem ek76 {R:Type} {c:LB→Option (LB)} (hs:Sp76 c):EOk 76 (e76 (R:=R) c):=fun args objs k r h=>by
 unfold e76 at h
 obtain ⟨p0,l0,rfl,q3⟩:=qa9 h
 obtain ⟨rfl,rfl,q5⟩:=qam q3
 exact qan (hs p0) q5
theorem sf76:Sp76 (F76):=fun p0 y hy=>by
 refine qai qah 1000000 (fn:=Tryz.f76) (by kernel_rfl) (by kernel_rfl) (X:=X76) (by kernel_rfl) ?_
 rw [eq76]
 exact (nt76 Ops.std p0 _ _ some (K2 k0) (rr76 p0 k0 1000000) none).trans (by show ob (F76 p0) _=_;rw [hy];rfl)
noncomputable def M76:LB→Option (LB):=F76
theorem sm76:Sp76 M76:=sf76
def X43:Aux:=⟨[(5,([1,2,3,4]++rg 7 144)),(17,([1,2,3,4]++rg 9 142)),(25,([1,2,3,4]++rg 9 142)),(1000020,([1,2,3,4]++rg 9 142)),(1000026,([1,2,3,4]++rg 9 142)),(1000027,([1,2,3,4]++rg 9 142)),(1000031,([1,2,3,4,7]++rg 9 142)),(1000010,([1,2,3,4,7]++rg 9 142)),(1000032,([1,2,3,4]++rg 9 142))],[(19,.lin (rg 0 13))]⟩
inductive S43 where
 | l0 (v1:Int) (v2:L106)
 | l1 (v1:Int) (v2:Int) (v3:L106) (v6:Int) (v7:Int)
 | l2 (v1:Int) (v2:Int) (v3:L106) (v7:Int)
 | l1010 (v1:Int) (v2:L106) (v6:Int)
 | l1020 (v1:Int) (v2:Int) (v3:L106) (v6:Int) (v7:Int)
 | l1026 (v1:Int) (v2:Int) (v3:L106) (v7:Int)
 | l1027 (v1:Int) (v2:Int) (v3:L106) (v7:Int)
 | l1031 (v1:Int) (v2:L106) (v6:Int)
 | l1032 (v1:Int) (v2:Int) (v3:L106) (v4:Int) (v6:Int) (v7:Int)
abbrev C48:Type:=Int→Option (Bool)
abbrev C47:Type:=Int→Option (Bool)
abbrev C76:Type:=LB→Option (LB)
def T43 {R:Type} (B:Ops) (c48:C48) (c47:C47) (c76:C76) (p0:LB) (again:S43→Option R) (k:(Int×Int×L106)→Option R):Option S43→Option R | none=>cond (B.lt (60000) (↑p0.length)) (k ((14,0,mt (Ty.den ty106)))) (again (.l0 0 (mt (Ty.den ty106)))) | some (.l0 v1 v2)=>cond (B.lt v1 (↑p0.length)) (cond (B.inb v1 p0.length) (cond (B.eq (Nat.cast (UInt8.toNat (p0.getD v1.toNat (0)))) (32)) (again (.l0 (IntKind.wrap .i64 (v1+1)) v2)) (cond (B.eq (Nat.cast (UInt8.toNat (p0.getD v1.toNat (0)))) (9)) (again (.l0 (IntKind.wrap .i64 (v1+1)) v2)) (cond (B.eq (Nat.cast (UInt8.toNat (p0.getD v1.toNat (0)))) (10)) (again (.l0 (IntKind.wrap .i64 (v1+1)) v2)) (ob (c48 (Nat.cast (UInt8.toNat (p0.getD v1.toNat (0))))) fun y0=>cond (y0) (again (.l1 v1 0 v2 0 v1)) (ob (c47 (Nat.cast (UInt8.toNat (p0.getD v1.toNat (0))))) fun y1=>cond (y1) (again (.l2 v1 0 v2 v1)) (cond (B.eq (Nat.cast (UInt8.toNat (p0.getD v1.toNat (0)))) (88)) (again (.l1031 v1 v2 v1)) (cond (B.eq (Nat.cast (UInt8.toNat (p0.getD v1.toNat (0)))) (70)) (again (.l1031 v1 v2 v1)) (cond (B.eq (Nat.cast (UInt8.toNat (p0.getD v1.toNat (0)))) (71)) (again (.l1031 v1 v2 v1)) (cond (B.eq (Nat.cast (UInt8.toNat (p0.getD v1.toNat (0)))) (85)) (again (.l1031 v1 v2 v1)) (cond (B.eq (Nat.cast (UInt8.toNat (p0.getD v1.toNat (0)))) (82)) (again (.l1031 v1 v2 v1)) (again (.l1010 v1 v2 v1)))))))))))) none) (cond (B.lim (List.length v2+List.length ((5,mt UInt8,0,v1)::mt (Ty.den ty106))) (40)) (k ((0,0,v2++(5,mt UInt8,0,v1)::mt (Ty.den ty106)))) none) | some (.l1 v1 v2 v3 v6 v7)=>cond (B.lt (IntKind.wrap .i64 (v1+v2)) (↑p0.length)) (cond (B.inb (IntKind.wrap .i64 (v1+v2)) p0.length) (ob (c48 (Nat.cast (UInt8.toNat (p0.getD (Int.toNat (IntKind.wrap .i64 (v1+v2))) (0))))) fun y0=>cond (y0) (cond (B.lt v2 (3)) (cond (B.inb (IntKind.wrap .i64 (v1+v2)) p0.length) (again (.l1020 v1 v2 v3 (IntKind.wrap .i64 (IntKind.wrap .i64 (10*v6)+IntKind.wrap .i64 (IntKind.wrap IntKind.u8 (Nat.cast (UInt8.toNat (p0.getD (Int.toNat (IntKind.wrap .i64 (v1+v2))) (0)))-48)))) v7)) none) (again (.l1020 v1 v2 v3 v6 v7))) (cond (B.lt (3) v2) (k ((2,v1,mt (Ty.den ty106)))) (again (.l1032 v1 v2 v3 1 v6 v7)))) none) (cond (B.lt (3) v2) (k ((2,v1,mt (Ty.den ty106)))) (again (.l1032 v1 v2 v3 1 v6 v7))) | some (.l2 v1 v2 v3 v7)=>cond (B.lt (IntKind.wrap .i64 (v1+v2)) (↑p0.length)) (cond (B.inb (IntKind.wrap .i64 (v1+v2)) p0.length) (ob (c47 (Nat.cast (UInt8.toNat (p0.getD (Int.toNat (IntKind.wrap .i64 (v1+v2))) (0))))) fun y0=>cond (y0) (again (.l1026 v1 v2 v3 v7)) (cond (B.inb (IntKind.wrap .i64 (v1+v2)) p0.length) (ob (c48 (Nat.cast (UInt8.toNat (p0.getD (Int.toNat (IntKind.wrap .i64 (v1+v2))) (0))))) fun y1=>cond (y1) (again (.l1026 v1 v2 v3 v7)) (again (.l1027 v1 v2 v3 v7))) none)) none) (again (.l1027 v1 v2 v3 v7)) | some (.l1010 v1 v2 v6)=>cond (B.inb v1 (List.length p0+1)) (ob (c76 (List.drop v1.toNat (List.take p0.length p0))) fun y0=>cond (B.eq (↑y0.length) (0)) (k ((2,v1,mt (Ty.den ty106)))) (again (.l1032 v1 (↑y0.length) v2 4 0 v6))) none | some (.l1020 v1 v2 v3 v6 v7)=>again (.l1 v1 (IntKind.wrap .i64 (v2+1)) v3 v6 v7) | some (.l1026 v1 v2 v3 v7)=>again (.l2 v1 (IntKind.wrap .i64 (v2+1)) v3 v7) | some (.l1027 v1 v2 v3 v7)=>cond (B.lt (8) v2) (k ((2,v1,mt (Ty.den ty106)))) (again (.l1032 v1 v2 v3 2 0 v7)) | some (.l1031 v1 v2 v6)=>again (.l1032 v1 1 v2 3 0 v6) | some (.l1032 v1 v2 v3 v4 v6 v7)=>cond (B.inb (IntKind.wrap .i64 (v1+v2)) (List.length p0+1)) (cond (bif B.le (0) v1 then B.le v1 (IntKind.wrap .i64 (v1+v2)) else false) (cond (B.lim (List.length v3+List.length ((v4,List.drop v1.toNat (List.take (Int.toNat (IntKind.wrap .i64 (v1+v2))) p0),v6,v7)::mt (Ty.den ty106))) (40)) (again (.l0 (IntKind.wrap .i64 (v1+v2)) (v3++(v4,List.drop v1.toNat (List.take (Int.toNat (IntKind.wrap .i64 (v1+v2))) p0),v6,v7)::mt (Ty.den ty106)))) none) none) none
def E43 (p0:LB):S43→List AV×Objs
 | .l0 v1 v2=>(mk 151 [(0,.c (.str p0)),(5,.c (.own 5)),(6,.c (.int .i64 v1))],[(5,.row 106 ty106 v2)])
 | .l1 v1 v2 v3 v6 v7=>(mk 151 [(0,.c (.str p0)),(5,.c (.own 5)),(6,.c (.int .i64 v1)),(7,.c (.int .i64 v2)),(8,.c (.ptr 8 0))],[(5,.row 106 ty106 v3),(8,.box 106 [.int .i64 1,.str (mt UInt8),.int .i64 v6,.int .i64 v7])])
 | .l2 v1 v2 v3 v7=>(mk 151 [(0,.c (.str p0)),(5,.c (.own 5)),(6,.c (.int .i64 v1)),(7,.c (.int .i64 v2)),(8,.c (.ptr 8 0))],[(5,.row 106 ty106 v3),(8,.box 106 [.int .i64 2,.str (mt UInt8),.int .i64 0,.int .i64 v7])])
 | .l1010 v1 v2 v6=>(mk 151 [(0,.c (.str p0)),(5,.c (.own 5)),(6,.c (.int .i64 v1)),(8,.c (.ptr 8 0))],[(5,.row 106 ty106 v2),(8,.box 106 [.int .i64 4,.str (mt UInt8),.int .i64 0,.int .i64 v6])])
 | .l1020 v1 v2 v3 v6 v7=>(mk 151 [(0,.c (.str p0)),(5,.c (.own 5)),(6,.c (.int .i64 v1)),(7,.c (.int .i64 v2)),(8,.c (.ptr 8 0))],[(5,.row 106 ty106 v3),(8,.box 106 [.int .i64 1,.str (mt UInt8),.int .i64 v6,.int .i64 v7])])
 | .l1026 v1 v2 v3 v7=>(mk 151 [(0,.c (.str p0)),(5,.c (.own 5)),(6,.c (.int .i64 v1)),(7,.c (.int .i64 v2)),(8,.c (.ptr 8 0))],[(5,.row 106 ty106 v3),(8,.box 106 [.int .i64 2,.str (mt UInt8),.int .i64 0,.int .i64 v7])])
 | .l1027 v1 v2 v3 v7=>(mk 151 [(0,.c (.str p0)),(5,.c (.own 5)),(6,.c (.int .i64 v1)),(7,.c (.int .i64 v2)),(8,.c (.ptr 8 0))],[(5,.row 106 ty106 v3),(8,.box 106 [.int .i64 2,.str (mt UInt8),.int .i64 0,.int .i64 v7])])
 | .l1031 v1 v2 v6=>(mk 151 [(0,.c (.str p0)),(5,.c (.own 5)),(6,.c (.int .i64 v1)),(8,.c (.ptr 8 0))],[(5,.row 106 ty106 v2),(8,.box 106 [.int .i64 3,.str (mt UInt8),.int .i64 0,.int .i64 v6])])
 | .l1032 v1 v2 v3 v4 v6 v7=>(mk 151 [(0,.c (.str p0)),(5,.c (.own 5)),(6,.c (.int .i64 v1)),(7,.c (.int .i64 v2)),(8,.c (.ptr 8 0))],[(5,.row 106 ty106 v3),(8,.box 106 [.int .i64 v4,.str (mt UInt8),.int .i64 v6,.int .i64 v7])])
def I43:S43→Nat
 | .l0 _ _=>0
 | .l1 _ _ _ _ _=>1
 | .l2 _ _ _ _=>2
 | .l1010 _ _ _=>1010
 | .l1020 _ _ _ _ _=>1020
 | .l1026 _ _ _ _=>1026
 | .l1027 _ _ _ _=>1027
 | .l1031 _ _ _=>1031
 | .l1032 _ _ _ _ _ _=>1032
abbrev K3 {R:Type} (k:AV→Objs→Option R) (y:(Int×Int×L106)):Option R:=k (.tup [(false,[.own 501000]),(false,[.int .i64 y.1]),(false,[.int .i64 y.2.1])]) [(501000,.row 106 ty106 y.2.2)]
theorem eq43 {R:Type} (B:Ops) (c48:C48) (c47:C47) (c76:C76) (p0:LB) (k:AV→Objs→Option R) (n:Nat):afun tau B gl0 X43 (ent 48 (e48 c48) (ent 47 (e47 c47) (ent 76 (e76 c76) gnil))) ow Tryz.f43 [.c (.str p0)] [] k n=T43 B c48 c47 c76 p0 (fun s=>aloop tau B gl0 X43 (ent 48 (e48 c48) (ent 47 (e47 c47) (ent 76 (e76 c76) gnil))) ow [] Tryz.f43 k (I43 s) (E43 p0 s) n) (K3 k) none:=by kernel_rfl
theorem el43 {R:Type} (B:Ops) (c48:C48) (c47:C47) (c76:C76) (p0:LB) (k:AV→Objs→Option R) (n:Nat):∀ s,aloop tau B gl0 X43 (ent 48 (e48 c48) (ent 47 (e47 c47) (ent 76 (e76 c76) gnil))) ow [] Tryz.f43 k (I43 s) (E43 p0 s) (n+1)=T43 B c48 c47 c76 p0 (fun s=>aloop tau B gl0 X43 (ent 48 (e48 c48) (ent 47 (e47 c47) (ent 76 (e76 c76) gnil))) ow [] Tryz.f43 k (I43 s) (E43 p0 s) n) (K3 k) (some s):=by
 intro s
 cases s<;>kernel_rfl
theorem nt43 {R R':Type} (B:Ops) (c48:C48) (c47:C47) (c76:C76) (p0:LB) (again:S43→Option R) (again':S43→Option R') (k0:(Int×Int×L106)→Option R') (k:R'→Option R) (h:∀ s,again s=ob (again' s) k):∀ s,T43 B c48 c47 c76 p0 again (fun y=>ob (k0 y) k) s=ob (T43 B c48 c47 c76 p0 again' k0 s) k:=by
 rintro (_ | x)
 all_goals try cases x
 all_goals (unfold T43;repeat' first | exact rfl | exact h _ | apply qae | (apply qao;intro))
def R43 (c48:C48) (c47:C47) (c76:C76) (p0:LB):Nat→S43→Option (Int×Int×L106)
 | 0,_=>none
 | n+1,s=>T43 Ops.std c48 c47 c76 p0 (R43 c48 c47 c76 p0 n) some (some s)
theorem rr43 {R:Type} (c48:C48) (c47:C47) (c76:C76) (p0:LB) (k:AV→Objs→Option R):∀ (n:Nat) (s:S43),aloop tau Ops.std gl0 X43 (ent 48 (e48 c48) (ent 47 (e47 c47) (ent 76 (e76 c76) gnil))) ow [] Tryz.f43 k (I43 s) (E43 p0 s) n=ob (R43 c48 c47 c76 p0 n s) (K3 k)
 | 0,s=>by cases s<;>rfl
 | n+1,s=>by rw [el43];exact nt43 Ops.std c48 c47 c76 p0 _ _ some (K3 k) (rr43 c48 c47 c76 p0 k n) (some s)
def F43 (c48:C48) (c47:C47) (c76:C76) (p0:LB):Option (Int×Int×L106):=T43 Ops.std c48 c47 c76 p0 (R43 c48 c47 c76 p0 1000000) some none
def e43 {R:Type} (c:LB→Option (Int×Int×L106)):Ent R:=fun args objs k=>
 oS args fun p0 l0=>oE l0 objs <| ob (c p0) (K3 k)
abbrev Sp43 (c:LB→Option (Int×Int×L106)):Prop:=∀ (p0:LB) (y:Int×Int×L106),c p0=some y→Spec Tryz.prog gl0 43 [.c (.str p0)] [] (.tup [(false,[.own 501000]),(false,[.int .i64 y.1]),(false,[.int .i64 y.2.1])]) [(501000,.row 106 ty106 y.2.2)]
theorem ek43 {R:Type} {c:LB→Option (Int×Int×L106)} (hs:Sp43 c):EOk 43 (e43 (R:=R) c):=fun args objs k r h=>by
 unfold e43 at h
 obtain ⟨p0,l0,rfl,q3⟩:=qa9 h
 obtain ⟨rfl,rfl,q5⟩:=qam q3
 exact qan (hs p0) q5
theorem sf43 {c48:C48} {c47:C47} {c76:C76} (h48:Sp48 c48) (h47:Sp47 c47) (h76:Sp76 c76):Sp43 (F43 c48 c47 c76):=fun p0 y hy=>by
 refine qai (qad (ek48 h48) (qad (ek47 h47) (qad (ek76 h76) qah))) 1000000 (fn:=Tryz.f43) (by kernel_rfl) (by kernel_rfl) (X:=X43) (by kernel_rfl) ?_
 rw [eq43]
 exact (nt43 Ops.std c48 c47 c76 p0 _ _ some (K3 k0) (rr43 c48 c47 c76 p0 k0 1000000) none).trans (by show ob (F43 c48 c47 c76 p0) _=_;rw [hy];rfl)
noncomputable def M43:LB→Option (Int×Int×L106):=F43 M48 M47 M76
theorem sm43:Sp43 M43:=sf43 sm48 sm47 sm76
def X91:Aux:=⟨[],[(1,.lin (rg 0 28))]⟩
def T91 {R:Type} (B:Ops) (p0:LB) (p1:L106) (p2:Int) (p3:Int) (p4:Int) (p5:L73) (k:(Bool×L106×Int×Int×Int×L73)→Option R):Option R:=cond (B.inb p2 p1.length) (cond (B.eq ((p1.getD p2.toNat ty106.dflt).1) (4)) (cond (B.inb p2 p1.length) (k ((((p1.getD p2.toNat ty106.dflt).2).1 == p0,p1,p2,p3,p4,p5))) none) (k ((false,p1,p2,p3,p4,p5)))) none
abbrev K4 {R:Type} (k:AV→Objs→Option R) (y:(Bool×L106×Int×Int×Int×L73)):Option R:=k (.c (.bool y.1)) [(0,.box 103 [.list 106 ty106 y.2.1,.int .i64 y.2.2.1,.own 1002,.int .i64 y.2.2.2.1,.int .i64 y.2.2.2.2.1]),(1002,.row 73 ty73 y.2.2.2.2.2)]
theorem eq91 {R:Type} (B:Ops) (p0:LB) (p1:L106) (p2:Int) (p3:Int) (p4:Int) (p5:L73) (k:AV→Objs→Option R) (n:Nat):afun tau B gl0 X91 gnil ow Tryz.f91 [.c (.ptr 0 0),.c (.str p0)] [(0,.box 103 [.list 106 ty106 p1,.int .i64 p2,.own 1002,.int .i64 p3,.int .i64 p4]),(1002,.row 73 ty73 p5)] k n=T91 B p0 p1 p2 p3 p4 p5 (K4 k):=by kernel_rfl
theorem nt91 {R R':Type} (B:Ops) (p0:LB) (p1:L106) (p2:Int) (p3:Int) (p4:Int) (p5:L73) (k0:(Bool×L106×Int×Int×Int×L73)→Option R') (k:R'→Option R):T91 B p0 p1 p2 p3 p4 p5 (fun y=>ob (k0 y) k)=ob (T91 B p0 p1 p2 p3 p4 p5 k0) k:=by
 unfold T91
 repeat' first | exact rfl | apply qae | (apply qao;intro)
def F91 (p0:LB) (p1:L106) (p2:Int) (p3:Int) (p4:Int) (p5:L73):Option (Bool×L106×Int×Int×Int×L73):=T91 Ops.std p0 p1 p2 p3 p4 p5 some
def e91 {R:Type} (c:LB→L106→Int→Int→Int→L73→Option (Bool×L106×Int×Int×Int×L73)):Ent R:=fun args objs k=>
 oCons args fun a0 l0=>oC a0 fun x0=>cPtr 0 x0 <| oS l0 fun p0 l1=>oNil l1 <| oBox 0 103 objs fun b0 o0=>cCons b0 fun u0_0 v0=>cList 106 ty106 u0_0 fun p1=>cCons v0 fun u0_1 v1=>cInt .i64 u0_1 fun p2=>cCons v1 fun u0_2 v2=>cOwn 1002 u0_2 <| cCons v2 fun u0_3 v3=>cInt .i64 u0_3 fun p3=>cCons v3 fun u0_4 v4=>cInt .i64 u0_4 fun p4=>cNil v4 <| oRow 1002 73 ty73 o0 fun p5 o1=>oNilO o1 <| ob (c p0 p1 p2 p3 p4 p5) (K4 k)
abbrev Sp91 (c:LB→L106→Int→Int→Int→L73→Option (Bool×L106×Int×Int×Int×L73)):Prop:=∀ (p0:LB) (p1:L106) (p2:Int) (p3:Int) (p4:Int) (p5:L73) (y:Bool×L106×Int×Int×Int×L73),c p0 p1 p2 p3 p4 p5=some y→Spec Tryz.prog gl0 91 [.c (.ptr 0 0),.c (.str p0)] [(0,.box 103 [.list 106 ty106 p1,.int .i64 p2,.own 1002,.int .i64 p3,.int .i64 p4]),(1002,.row 73 ty73 p5)] (.c (.bool y.1)) [(0,.box 103 [.list 106 ty106 y.2.1,.int .i64 y.2.2.1,.own 1002,.int .i64 y.2.2.2.1,.int .i64 y.2.2.2.2.1]),(1002,.row 73 ty73 y.2.2.2.2.2)]
theorem ek91 {R:Type} {c:LB→L106→Int→Int→Int→L73→Option (Bool×L106×Int×Int×Int×L73)} (hs:Sp91 c):EOk 91 (e91 (R:=R) c):=fun args objs k r h=>by
 unfold e91 at h
 obtain ⟨a0,l0,rfl,q1⟩:=qak h
 obtain ⟨x0,rfl,q2⟩:=qa5 q1
 obtain ⟨rfl,q3⟩:=qa3 q2
 obtain ⟨p0,l1,rfl,q6⟩:=qa9 q3
 obtain ⟨rfl,q7⟩:=qa2 q6
 obtain ⟨b0,o0,rfl,q8⟩:=qa4 q7
 obtain ⟨u0_0,v0,rfl,q9⟩:=qaa q8
 obtain ⟨p1,rfl,q10⟩:=qac q9
 obtain ⟨u0_1,v1,rfl,q11⟩:=qaa q10
 obtain ⟨p2,rfl,q12⟩:=qar q11
 obtain ⟨u0_2,v2,rfl,q13⟩:=qaa q12
 obtain ⟨rfl,q14⟩:=qa7 q13
 obtain ⟨u0_3,v3,rfl,q15⟩:=qaa q14
 obtain ⟨p3,rfl,q16⟩:=qar q15
 obtain ⟨u0_4,v4,rfl,q17⟩:=qaa q16
 obtain ⟨p4,rfl,q18⟩:=qar q17
 obtain ⟨rfl,q19⟩:=qaq q18
 obtain ⟨p5,o1,rfl,q20⟩:=qa8 q19
 obtain ⟨rfl,q21⟩:=qay q20
 exact qan (hs p0 p1 p2 p3 p4 p5) q21
theorem sf91:Sp91 (F91):=fun p0 p1 p2 p3 p4 p5 y hy=>by
 refine qai qah 1000000 (fn:=Tryz.f91) (by kernel_rfl) (by kernel_rfl) (X:=X91) (by kernel_rfl) ?_
 rw [eq91]
 exact (nt91 Ops.std p0 p1 p2 p3 p4 p5 some (K4 k0)).trans (by show ob (F91 p0 p1 p2 p3 p4 p5) _=_;rw [hy];rfl)
noncomputable def M91:LB→L106→Int→Int→Int→L73→Option (Bool×L106×Int×Int×Int×L73):=F91
theorem sm91:Sp91 M91:=sf91
def X45:Aux:=⟨[],[]⟩
def T45 {R:Type} (B:Ops) (p0:Int) (p1:Int) (p2:L106) (p3:Int) (p4:Int) (p5:Int) (p6:L73) (k:(L106×Int×Int×Int×L73)→Option R):Option R:=cond (B.eq p4 (0)) (k ((p2,p3,p0,p1,p6))) (k ((p2,p3,p4,p5,p6)))
abbrev K5 {R:Type} (k:AV→Objs→Option R) (y:(L106×Int×Int×Int×L73)):Option R:=k (.tup []) [(0,.box 103 [.list 106 ty106 y.1,.int .i64 y.2.1,.own 1002,.int .i64 y.2.2.1,.int .i64 y.2.2.2.1]),(1002,.row 73 ty73 y.2.2.2.2)]
theorem eq45 {R:Type} (B:Ops) (p0:Int) (p1:Int) (p2:L106) (p3:Int) (p4:Int) (p5:Int) (p6:L73) (k:AV→Objs→Option R) (n:Nat):afun tau B gl0 X45 gnil ow Tryz.f45 [.c (.ptr 0 0),.c (.int .i64 p0),.c (.int .i64 p1)] [(0,.box 103 [.list 106 ty106 p2,.int .i64 p3,.own 1002,.int .i64 p4,.int .i64 p5]),(1002,.row 73 ty73 p6)] k n=T45 B p0 p1 p2 p3 p4 p5 p6 (K5 k):=by kernel_rfl
theorem nt45 {R R':Type} (B:Ops) (p0:Int) (p1:Int) (p2:L106) (p3:Int) (p4:Int) (p5:Int) (p6:L73) (k0:(L106×Int×Int×Int×L73)→Option R') (k:R'→Option R):T45 B p0 p1 p2 p3 p4 p5 p6 (fun y=>ob (k0 y) k)=ob (T45 B p0 p1 p2 p3 p4 p5 p6 k0) k:=by
 unfold T45
 repeat' first | exact rfl | apply qae | (apply qao;intro)
def F45 (p0:Int) (p1:Int) (p2:L106) (p3:Int) (p4:Int) (p5:Int) (p6:L73):Option (L106×Int×Int×Int×L73):=T45 Ops.std p0 p1 p2 p3 p4 p5 p6 some
def e45 {R:Type} (c:Int→Int→L106→Int→Int→Int→L73→Option (L106×Int×Int×Int×L73)):Ent R:=fun args objs k=>
 oCons args fun a0 l0=>oC a0 fun x0=>cPtr 0 x0 <| oI l0 .i64 fun p0 l1=>oI l1 .i64 fun p1 l2=>oNil l2 <| oBox 0 103 objs fun b0 o0=>cCons b0 fun u0_0 v0=>cList 106 ty106 u0_0 fun p2=>cCons v0 fun u0_1 v1=>cInt .i64 u0_1 fun p3=>cCons v1 fun u0_2 v2=>cOwn 1002 u0_2 <| cCons v2 fun u0_3 v3=>cInt .i64 u0_3 fun p4=>cCons v3 fun u0_4 v4=>cInt .i64 u0_4 fun p5=>cNil v4 <| oRow 1002 73 ty73 o0 fun p6 o1=>oNilO o1 <| ob (c p0 p1 p2 p3 p4 p5 p6) (K5 k)
abbrev Sp45 (c:Int→Int→L106→Int→Int→Int→L73→Option (L106×Int×Int×Int×L73)):Prop:=∀ (p0:Int) (p1:Int) (p2:L106) (p3:Int) (p4:Int) (p5:Int) (p6:L73) (y:L106×Int×Int×Int×L73),c p0 p1 p2 p3 p4 p5 p6=some y→Spec Tryz.prog gl0 45 [.c (.ptr 0 0),.c (.int .i64 p0),.c (.int .i64 p1)] [(0,.box 103 [.list 106 ty106 p2,.int .i64 p3,.own 1002,.int .i64 p4,.int .i64 p5]),(1002,.row 73 ty73 p6)] (.tup []) [(0,.box 103 [.list 106 ty106 y.1,.int .i64 y.2.1,.own 1002,.int .i64 y.2.2.1,.int .i64 y.2.2.2.1]),(1002,.row 73 ty73 y.2.2.2.2)]
theorem ek45 {R:Type} {c:Int→Int→L106→Int→Int→Int→L73→Option (L106×Int×Int×Int×L73)} (hs:Sp45 c):EOk 45 (e45 (R:=R) c):=fun args objs k r h=>by
 unfold e45 at h
 obtain ⟨a0,l0,rfl,q1⟩:=qak h
 obtain ⟨x0,rfl,q2⟩:=qa5 q1
 obtain ⟨rfl,q3⟩:=qa3 q2
 obtain ⟨p0,l1,rfl,q6⟩:=qas q3
 obtain ⟨p1,l2,rfl,q9⟩:=qas q6
 obtain ⟨rfl,q10⟩:=qa2 q9
 obtain ⟨b0,o0,rfl,q11⟩:=qa4 q10
 obtain ⟨u0_0,v0,rfl,q12⟩:=qaa q11
 obtain ⟨p2,rfl,q13⟩:=qac q12
 obtain ⟨u0_1,v1,rfl,q14⟩:=qaa q13
 obtain ⟨p3,rfl,q15⟩:=qar q14
 obtain ⟨u0_2,v2,rfl,q16⟩:=qaa q15
 obtain ⟨rfl,q17⟩:=qa7 q16
 obtain ⟨u0_3,v3,rfl,q18⟩:=qaa q17
 obtain ⟨p4,rfl,q19⟩:=qar q18
 obtain ⟨u0_4,v4,rfl,q20⟩:=qaa q19
 obtain ⟨p5,rfl,q21⟩:=qar q20
 obtain ⟨rfl,q22⟩:=qaq q21
 obtain ⟨p6,o1,rfl,q23⟩:=qa8 q22
 obtain ⟨rfl,q24⟩:=qay q23
 exact qan (hs p0 p1 p2 p3 p4 p5 p6) q24
theorem sf45:Sp45 (F45):=fun p0 p1 p2 p3 p4 p5 p6 y hy=>by
 refine qai qah 1000000 (fn:=Tryz.f45) (by kernel_rfl) (by kernel_rfl) (X:=X45) (by kernel_rfl) ?_
 rw [eq45]
 exact (nt45 Ops.std p0 p1 p2 p3 p4 p5 p6 some (K5 k0)).trans (by show ob (F45 p0 p1 p2 p3 p4 p5 p6) _=_;rw [hy];rfl)
noncomputable def M45:Int→Int→L106→Int→Int→Int→L73→Option (L106×Int×Int×Int×L73):=F45
theorem sm45:Sp45 M45:=sf45
def X92:Aux:=⟨[],[]⟩
abbrev C91:Type:=LB→L106→Int→Int→Int→L73→Option (Bool×L106×Int×Int×Int×L73)
abbrev C45:Type:=Int→Int→L106→Int→Int→Int→L73→Option (L106×Int×Int×Int×L73)
def T92 {R:Type} (B:Ops) (c91:C91) (c45:C45) (p0:LB) (p1:L106) (p2:Int) (p3:Int) (p4:Int) (p5:L73) (k:(L106×Int×Int×Int×L73)→Option R):Option R:=cond (!B.eq p3 (0)) (k ((p1,p2,p3,p4,p5))) (ob (c91 p0 p1 p2 p3 p4 p5) fun y0=>cond (!y0.1) (ob (c45 (2) ((y0.2.2).1) y0.2.1 ((y0.2.2).1) ((y0.2.2.2).1) (((y0.2.2.2).2).1) (((y0.2.2.2).2).2)) fun y1=>k ((y1.1,y1.2.1,(y1.2.2).1,(y1.2.2.2).1,(y1.2.2.2).2))) (k ((y0.2.1,IntKind.wrap .i64 ((y0.2.2).1+1),(y0.2.2.2).1,((y0.2.2.2).2).1,((y0.2.2.2).2).2))))
theorem eq92 {R:Type} (B:Ops) (c91:C91) (c45:C45) (p0:LB) (p1:L106) (p2:Int) (p3:Int) (p4:Int) (p5:L73) (k:AV→Objs→Option R) (n:Nat):afun tau B gl0 X92 (ent 91 (e91 c91) (ent 45 (e45 c45) gnil)) ow Tryz.f92 [.c (.ptr 0 0),.c (.str p0)] [(0,.box 103 [.list 106 ty106 p1,.int .i64 p2,.own 1002,.int .i64 p3,.int .i64 p4]),(1002,.row 73 ty73 p5)] k n=T92 B c91 c45 p0 p1 p2 p3 p4 p5 (K5 k):=by kernel_rfl
theorem nt92 {R R':Type} (B:Ops) (c91:C91) (c45:C45) (p0:LB) (p1:L106) (p2:Int) (p3:Int) (p4:Int) (p5:L73) (k0:(L106×Int×Int×Int×L73)→Option R') (k:R'→Option R):T92 B c91 c45 p0 p1 p2 p3 p4 p5 (fun y=>ob (k0 y) k)=ob (T92 B c91 c45 p0 p1 p2 p3 p4 p5 k0) k:=by
 unfold T92
 repeat' first | exact rfl | apply qae | (apply qao;intro)
def F92 (c91:C91) (c45:C45) (p0:LB) (p1:L106) (p2:Int) (p3:Int) (p4:Int) (p5:L73):Option (L106×Int×Int×Int×L73):=T92 Ops.std c91 c45 p0 p1 p2 p3 p4 p5 some
def e92 {R:Type} (c:LB→L106→Int→Int→Int→L73→Option (L106×Int×Int×Int×L73)):Ent R:=fun args objs k=>
 oCons args fun a0 l0=>oC a0 fun x0=>cPtr 0 x0 <| oS l0 fun p0 l1=>oNil l1 <| oBox 0 103 objs fun b0 o0=>cCons b0 fun u0_0 v0=>cList 106 ty106 u0_0 fun p1=>cCons v0 fun u0_1 v1=>cInt .i64 u0_1 fun p2=>cCons v1 fun u0_2 v2=>cOwn 1002 u0_2 <| cCons v2 fun u0_3 v3=>cInt .i64 u0_3 fun p3=>cCons v3 fun u0_4 v4=>cInt .i64 u0_4 fun p4=>cNil v4 <| oRow 1002 73 ty73 o0 fun p5 o1=>oNilO o1 <| ob (c p0 p1 p2 p3 p4 p5) (K5 k)
abbrev Sp92 (c:LB→L106→Int→Int→Int→L73→Option (L106×Int×Int×Int×L73)):Prop:=∀ (p0:LB) (p1:L106) (p2:Int) (p3:Int) (p4:Int) (p5:L73) (y:L106×Int×Int×Int×L73),c p0 p1 p2 p3 p4 p5=some y→Spec Tryz.prog gl0 92 [.c (.ptr 0 0),.c (.str p0)] [(0,.box 103 [.list 106 ty106 p1,.int .i64 p2,.own 1002,.int .i64 p3,.int .i64 p4]),(1002,.row 73 ty73 p5)] (.tup []) [(0,.box 103 [.list 106 ty106 y.1,.int .i64 y.2.1,.own 1002,.int .i64 y.2.2.1,.int .i64 y.2.2.2.1]),(1002,.row 73 ty73 y.2.2.2.2)]
theorem ek92 {R:Type} {c:LB→L106→Int→Int→Int→L73→Option (L106×Int×Int×Int×L73)} (hs:Sp92 c):EOk 92 (e92 (R:=R) c):=fun args objs k r h=>by
 unfold e92 at h
 obtain ⟨a0,l0,rfl,q1⟩:=qak h
 obtain ⟨x0,rfl,q2⟩:=qa5 q1
 obtain ⟨rfl,q3⟩:=qa3 q2
 obtain ⟨p0,l1,rfl,q6⟩:=qa9 q3
 obtain ⟨rfl,q7⟩:=qa2 q6
 obtain ⟨b0,o0,rfl,q8⟩:=qa4 q7
 obtain ⟨u0_0,v0,rfl,q9⟩:=qaa q8
 obtain ⟨p1,rfl,q10⟩:=qac q9
 obtain ⟨u0_1,v1,rfl,q11⟩:=qaa q10
 obtain ⟨p2,rfl,q12⟩:=qar q11
 obtain ⟨u0_2,v2,rfl,q13⟩:=qaa q12
 obtain ⟨rfl,q14⟩:=qa7 q13
 obtain ⟨u0_3,v3,rfl,q15⟩:=qaa q14
 obtain ⟨p3,rfl,q16⟩:=qar q15
 obtain ⟨u0_4,v4,rfl,q17⟩:=qaa q16
 obtain ⟨p4,rfl,q18⟩:=qar q17
 obtain ⟨rfl,q19⟩:=qaq q18
 obtain ⟨p5,o1,rfl,q20⟩:=qa8 q19
 obtain ⟨rfl,q21⟩:=qay q20
 exact qan (hs p0 p1 p2 p3 p4 p5) q21
theorem sf92 {c91:C91} {c45:C45} (h91:Sp91 c91) (h45:Sp45 c45):Sp92 (F92 c91 c45):=fun p0 p1 p2 p3 p4 p5 y hy=>by
 refine qai (qad (ek91 h91) (qad (ek45 h45) qah)) 1000000 (fn:=Tryz.f92) (by kernel_rfl) (by kernel_rfl) (X:=X92) (by kernel_rfl) ?_
 rw [eq92]
 exact (nt92 Ops.std c91 c45 p0 p1 p2 p3 p4 p5 some (K5 k0)).trans (by show ob (F92 c91 c45 p0 p1 p2 p3 p4 p5) _=_;rw [hy];rfl)
noncomputable def M92:LB→L106→Int→Int→Int→L73→Option (L106×Int×Int×Int×L73):=F92 M91 M45
theorem sm92:Sp92 M92:=sf92 sm91 sm45
def X104:Aux:=⟨[],[(1,.lin (rg 0 28))]⟩
def T104 {R:Type} (B:Ops) (p0:LB) (p1:L106) (p2:Int) (p3:Int) (p4:L118) (k:(Bool×L106×Int×Int×L118)→Option R):Option R:=cond (B.inb p2 p1.length) (cond (B.eq ((p1.getD p2.toNat ty106.dflt).1) (4)) (cond (B.inb p2 p1.length) (k ((((p1.getD p2.toNat ty106.dflt).2).1 == p0,p1,p2,p3,p4))) none) (k ((false,p1,p2,p3,p4)))) none
abbrev K6 {R:Type} (k:AV→Objs→Option R) (y:(Bool×L106×Int×Int×L118)):Option R:=k (.c (.bool y.1)) [(0,.box 164 [.list 106 ty106 y.2.1,.int .i64 y.2.2.1,.own 1002,.int .i64 y.2.2.2.1]),(1002,.row 118 ty118 y.2.2.2.2)]
theorem eq104 {R:Type} (B:Ops) (p0:LB) (p1:L106) (p2:Int) (p3:Int) (p4:L118) (k:AV→Objs→Option R) (n:Nat):afun tau B gl0 X104 gnil ow Tryz.f104 [.c (.ptr 0 0),.c (.str p0)] [(0,.box 164 [.list 106 ty106 p1,.int .i64 p2,.own 1002,.int .i64 p3]),(1002,.row 118 ty118 p4)] k n=T104 B p0 p1 p2 p3 p4 (K6 k):=by kernel_rfl
theorem nt104 {R R':Type} (B:Ops) (p0:LB) (p1:L106) (p2:Int) (p3:Int) (p4:L118) (k0:(Bool×L106×Int×Int×L118)→Option R') (k:R'→Option R):T104 B p0 p1 p2 p3 p4 (fun y=>ob (k0 y) k)=ob (T104 B p0 p1 p2 p3 p4 k0) k:=by
 unfold T104
 repeat' first | exact rfl | apply qae | (apply qao;intro)
def F104 (p0:LB) (p1:L106) (p2:Int) (p3:Int) (p4:L118):Option (Bool×L106×Int×Int×L118):=T104 Ops.std p0 p1 p2 p3 p4 some
def e104 {R:Type} (c:LB→L106→Int→Int→L118→Option (Bool×L106×Int×Int×L118)):Ent R:=fun args objs k=>
 oCons args fun a0 l0=>oC a0 fun x0=>cPtr 0 x0 <| oS l0 fun p0 l1=>oNil l1 <| oBox 0 164 objs fun b0 o0=>cCons b0 fun u0_0 v0=>cList 106 ty106 u0_0 fun p1=>cCons v0 fun u0_1 v1=>cInt .i64 u0_1 fun p2=>cCons v1 fun u0_2 v2=>cOwn 1002 u0_2 <| cCons v2 fun u0_3 v3=>cInt .i64 u0_3 fun p3=>cNil v3 <| oRow 1002 118 ty118 o0 fun p4 o1=>oNilO o1 <| ob (c p0 p1 p2 p3 p4) (K6 k)
abbrev Sp104 (c:LB→L106→Int→Int→L118→Option (Bool×L106×Int×Int×L118)):Prop:=∀ (p0:LB) (p1:L106) (p2:Int) (p3:Int) (p4:L118) (y:Bool×L106×Int×Int×L118),c p0 p1 p2 p3 p4=some y→Spec Tryz.prog gl0 104 [.c (.ptr 0 0),.c (.str p0)] [(0,.box 164 [.list 106 ty106 p1,.int .i64 p2,.own 1002,.int .i64 p3]),(1002,.row 118 ty118 p4)] (.c (.bool y.1)) [(0,.box 164 [.list 106 ty106 y.2.1,.int .i64 y.2.2.1,.own 1002,.int .i64 y.2.2.2.1]),(1002,.row 118 ty118 y.2.2.2.2)]
theorem ek104 {R:Type} {c:LB→L106→Int→Int→L118→Option (Bool×L106×Int×Int×L118)} (hs:Sp104 c):EOk 104 (e104 (R:=R) c):=fun args objs k r h=>by
 unfold e104 at h
 obtain ⟨a0,l0,rfl,q1⟩:=qak h
 obtain ⟨x0,rfl,q2⟩:=qa5 q1
 obtain ⟨rfl,q3⟩:=qa3 q2
 obtain ⟨p0,l1,rfl,q6⟩:=qa9 q3
 obtain ⟨rfl,q7⟩:=qa2 q6
 obtain ⟨b0,o0,rfl,q8⟩:=qa4 q7
 obtain ⟨u0_0,v0,rfl,q9⟩:=qaa q8
 obtain ⟨p1,rfl,q10⟩:=qac q9
 obtain ⟨u0_1,v1,rfl,q11⟩:=qaa q10
 obtain ⟨p2,rfl,q12⟩:=qar q11
 obtain ⟨u0_2,v2,rfl,q13⟩:=qaa q12
 obtain ⟨rfl,q14⟩:=qa7 q13
 obtain ⟨u0_3,v3,rfl,q15⟩:=qaa q14
 obtain ⟨p3,rfl,q16⟩:=qar q15
 obtain ⟨rfl,q17⟩:=qaq q16
 obtain ⟨p4,o1,rfl,q18⟩:=qa8 q17
 obtain ⟨rfl,q19⟩:=qay q18
 exact qan (hs p0 p1 p2 p3 p4) q19
theorem sf104:Sp104 (F104):=fun p0 p1 p2 p3 p4 y hy=>by
 refine qai qah 1000000 (fn:=Tryz.f104) (by kernel_rfl) (by kernel_rfl) (X:=X104) (by kernel_rfl) ?_
 rw [eq104]
 exact (nt104 Ops.std p0 p1 p2 p3 p4 some (K6 k0)).trans (by show ob (F104 p0 p1 p2 p3 p4) _=_;rw [hy];rfl)
noncomputable def M104:LB→L106→Int→Int→L118→Option (Bool×L106×Int×Int×L118):=F104
theorem sm104:Sp104 M104:=sf104
def X105:Aux:=⟨[],[]⟩
def T105 {R:Type} (B:Ops) (p0:L106) (p1:Int) (p2:Int) (p3:L118) (k:(L106×Int×Int×L118)→Option R):Option R:=cond (B.lt p2 (0)) (k ((p0,p1,p1,p3))) (k ((p0,p1,p2,p3)))
abbrev K7 {R:Type} (k:AV→Objs→Option R) (y:(L106×Int×Int×L118)):Option R:=k (.tup []) [(0,.box 164 [.list 106 ty106 y.1,.int .i64 y.2.1,.own 1002,.int .i64 y.2.2.1]),(1002,.row 118 ty118 y.2.2.2)]
theorem eq105 {R:Type} (B:Ops) (p0:L106) (p1:Int) (p2:Int) (p3:L118) (k:AV→Objs→Option R) (n:Nat):afun tau B gl0 X105 gnil ow Tryz.f105 [.c (.ptr 0 0)] [(0,.box 164 [.list 106 ty106 p0,.int .i64 p1,.own 1002,.int .i64 p2]),(1002,.row 118 ty118 p3)] k n=T105 B p0 p1 p2 p3 (K7 k):=by kernel_rfl
theorem nt105 {R R':Type} (B:Ops) (p0:L106) (p1:Int) (p2:Int) (p3:L118) (k0:(L106×Int×Int×L118)→Option R') (k:R'→Option R):T105 B p0 p1 p2 p3 (fun y=>ob (k0 y) k)=ob (T105 B p0 p1 p2 p3 k0) k:=by
 unfold T105
 repeat' first | exact rfl | apply qae | (apply qao;intro)
def F105 (p0:L106) (p1:Int) (p2:Int) (p3:L118):Option (L106×Int×Int×L118):=T105 Ops.std p0 p1 p2 p3 some
def e105 {R:Type} (c:L106→Int→Int→L118→Option (L106×Int×Int×L118)):Ent R:=fun args objs k=>
 oCons args fun a0 l0=>oC a0 fun x0=>cPtr 0 x0 <| oNil l0 <| oBox 0 164 objs fun b0 o0=>cCons b0 fun u0_0 v0=>cList 106 ty106 u0_0 fun p0=>cCons v0 fun u0_1 v1=>cInt .i64 u0_1 fun p1=>cCons v1 fun u0_2 v2=>cOwn 1002 u0_2 <| cCons v2 fun u0_3 v3=>cInt .i64 u0_3 fun p2=>cNil v3 <| oRow 1002 118 ty118 o0 fun p3 o1=>oNilO o1 <| ob (c p0 p1 p2 p3) (K7 k)
abbrev Sp105 (c:L106→Int→Int→L118→Option (L106×Int×Int×L118)):Prop:=∀ (p0:L106) (p1:Int) (p2:Int) (p3:L118) (y:L106×Int×Int×L118),c p0 p1 p2 p3=some y→Spec Tryz.prog gl0 105 [.c (.ptr 0 0)] [(0,.box 164 [.list 106 ty106 p0,.int .i64 p1,.own 1002,.int .i64 p2]),(1002,.row 118 ty118 p3)] (.tup []) [(0,.box 164 [.list 106 ty106 y.1,.int .i64 y.2.1,.own 1002,.int .i64 y.2.2.1]),(1002,.row 118 ty118 y.2.2.2)]
theorem ek105 {R:Type} {c:L106→Int→Int→L118→Option (L106×Int×Int×L118)} (hs:Sp105 c):EOk 105 (e105 (R:=R) c):=fun args objs k r h=>by
 unfold e105 at h
 obtain ⟨a0,l0,rfl,q1⟩:=qak h
 obtain ⟨x0,rfl,q2⟩:=qa5 q1
 obtain ⟨rfl,q3⟩:=qa3 q2
 obtain ⟨rfl,q4⟩:=qa2 q3
 obtain ⟨b0,o0,rfl,q5⟩:=qa4 q4
 obtain ⟨u0_0,v0,rfl,q6⟩:=qaa q5
 obtain ⟨p0,rfl,q7⟩:=qac q6
 obtain ⟨u0_1,v1,rfl,q8⟩:=qaa q7
 obtain ⟨p1,rfl,q9⟩:=qar q8
 obtain ⟨u0_2,v2,rfl,q10⟩:=qaa q9
 obtain ⟨rfl,q11⟩:=qa7 q10
 obtain ⟨u0_3,v3,rfl,q12⟩:=qaa q11
 obtain ⟨p2,rfl,q13⟩:=qar q12
 obtain ⟨rfl,q14⟩:=qaq q13
 obtain ⟨p3,o1,rfl,q15⟩:=qa8 q14
 obtain ⟨rfl,q16⟩:=qay q15
 exact qan (hs p0 p1 p2 p3) q16
theorem sf105:Sp105 (F105):=fun p0 p1 p2 p3 y hy=>by
 refine qai qah 1000000 (fn:=Tryz.f105) (by kernel_rfl) (by kernel_rfl) (X:=X105) (by kernel_rfl) ?_
 rw [eq105]
 exact (nt105 Ops.std p0 p1 p2 p3 some (K7 k0)).trans (by show ob (F105 p0 p1 p2 p3) _=_;rw [hy];rfl)
noncomputable def M105:L106→Int→Int→L118→Option (L106×Int×Int×L118):=F105
theorem sm105:Sp105 M105:=sf105
def X84:Aux:=⟨[],[]⟩
def T84 {R:Type} (B:Ops) (p0:Int) (k:(Int)→Option R):Option R:=cond (B.eq p0 (16)) (k 1) (cond (B.eq p0 (15)) (k 2) (cond (B.eq p0 (9)) (k 3) (cond (B.eq p0 (10)) (k 3) (cond (B.eq p0 (11)) (k 3) (cond (B.eq p0 (12)) (k 3) (cond (B.eq p0 (13)) (k 3) (cond (B.eq p0 (14)) (k 3) (cond (B.eq p0 (7)) (k 4) (cond (B.eq p0 (8)) (k 4) (cond (B.eq p0 (6)) (k 5) (cond (B.eq p0 (4)) (k 6) (cond (B.eq p0 (5)) (k 6) (k 7)))))))))))))
abbrev K8 {R:Type} (k:AV→Objs→Option R) (y:(Int)):Option R:=k (.c (.int .i64 y)) []
theorem eq84 {R:Type} (B:Ops) (p0:Int) (k:AV→Objs→Option R) (n:Nat):afun tau B gl0 X84 gnil ow Tryz.f84 [.c (.int .i64 p0)] [] k n=T84 B p0 (K8 k):=by kernel_rfl
theorem nt84 {R R':Type} (B:Ops) (p0:Int) (k0:(Int)→Option R') (k:R'→Option R):T84 B p0 (fun y=>ob (k0 y) k)=ob (T84 B p0 k0) k:=by
 unfold T84
 repeat' first | exact rfl | apply qae | (apply qao;intro)
def F84 (p0:Int):Option (Int):=T84 Ops.std p0 some
def e84 {R:Type} (c:Int→Option (Int)):Ent R:=fun args objs k=>
 oI args .i64 fun p0 l0=>oE l0 objs <| ob (c p0) (K8 k)
abbrev Sp84 (c:Int→Option (Int)):Prop:=∀ (p0:Int) (y:Int),c p0=some y→Spec Tryz.prog gl0 84 [.c (.int .i64 p0)] [] (.c (.int .i64 y)) []
theorem ek84 {R:Type} {c:Int→Option (Int)} (hs:Sp84 c):EOk 84 (e84 (R:=R) c):=fun args objs k r h=>by
 unfold e84 at h
 obtain ⟨p0,l0,rfl,q3⟩:=qas h
 obtain ⟨rfl,rfl,q5⟩:=qam q3
 exact qan (hs p0) q5
theorem sf84:Sp84 (F84):=fun p0 y hy=>by
 refine qai qah 1000000 (fn:=Tryz.f84) (by kernel_rfl) (by kernel_rfl) (X:=X84) (by kernel_rfl) ?_
 rw [eq84]
 exact (nt84 Ops.std p0 some (K8 k0)).trans (by show ob (F84 p0) _=_;rw [hy];rfl)
noncomputable def M84:Int→Option (Int):=F84
theorem sm84:Sp84 M84:=sf84
def X100:Aux:=⟨[(5,([0,3,4]++rg 7 21))],[(7,.lin ([0,1,2,3,4,5,6,7,9,8,10,11]))]⟩
inductive S100 where
 | l0 (v1:Int)
abbrev C84:Type:=Int→Option (Int)
def T100 {R:Type} (B:Ops) (c84:C84) (p0:Int) (p1:LB) (p2:Int) (p3:Int) (p4:Int) (again:S100→Option R) (k:(Int)→Option R):Option S100→Option R | none=>cond (!B.eq p0 (4)) (k 0) (again (.l0 6)) | some (.l0 v1)=>cond (B.le v1 (16)) (cond (B.inb v1 (17)) (cond (List.getD ((mt UInt8)::(mt UInt8)::(mt UInt8)::(mt UInt8)::(mt UInt8)::(mt UInt8)::([42]:LB)::([43]:LB)::([45]:LB)::([60]:LB)::([60,61]:LB)::([62]:LB)::([62,61]:LB)::([61,61]:LB)::([33,61]:LB)::([38,38]:LB)::([124,124]:LB)::mt LB) v1.toNat (mt UInt8) == p1) (ob (c84 v1) fun y0=>cond (B.eq y0 p4) (k v1) (again (.l0 (IntKind.wrap .i64 (v1+1))))) (again (.l0 (IntKind.wrap .i64 (v1+1))))) none) (k 0)
def E100 (p0:Int) (p1:LB) (p2:Int) (p3:Int) (p4:Int):S100→List AV×Objs
 | .l0 v1=>(mk 28 [(1,.c (.int .i64 p4)),(2,.c (.ptr 2 0)),(5,.c (.ptr 5 0)),(6,.c (.int .i64 v1))],[(2,.box 106 [.int .i64 p0,.str p1,.int .i64 p2,.int .i64 p3]),(5,.box 147 [.str (mt UInt8),.str (mt UInt8),.str (mt UInt8),.str (mt UInt8),.str (mt UInt8),.str (mt UInt8),.str ([42]:LB),.str ([43]:LB),.str ([45]:LB),.str ([60]:LB),.str ([60,61]:LB),.str ([62]:LB),.str ([62,61]:LB),.str ([61,61]:LB),.str ([33,61]:LB),.str ([38,38]:LB),.str ([124,124]:LB)])])
def I100:S100→Nat
 | .l0 _=>0
theorem eq100 {R:Type} (B:Ops) (c84:C84) (p0:Int) (p1:LB) (p2:Int) (p3:Int) (p4:Int) (k:AV→Objs→Option R) (n:Nat):afun tau B gl0 X100 (ent 84 (e84 c84) gnil) ow Tryz.f100 [.agg [.int .i64 p0,.str p1,.int .i64 p2,.int .i64 p3],.c (.int .i64 p4)] [] k n=T100 B c84 p0 p1 p2 p3 p4 (fun s=>aloop tau B gl0 X100 (ent 84 (e84 c84) gnil) ow [] Tryz.f100 k (I100 s) (E100 p0 p1 p2 p3 p4 s) n) (K8 k) none:=by kernel_rfl
theorem el100 {R:Type} (B:Ops) (c84:C84) (p0:Int) (p1:LB) (p2:Int) (p3:Int) (p4:Int) (k:AV→Objs→Option R) (n:Nat):∀ s,aloop tau B gl0 X100 (ent 84 (e84 c84) gnil) ow [] Tryz.f100 k (I100 s) (E100 p0 p1 p2 p3 p4 s) (n+1)=T100 B c84 p0 p1 p2 p3 p4 (fun s=>aloop tau B gl0 X100 (ent 84 (e84 c84) gnil) ow [] Tryz.f100 k (I100 s) (E100 p0 p1 p2 p3 p4 s) n) (K8 k) (some s):=by
 intro s
 cases s<;>kernel_rfl
theorem nt100 {R R':Type} (B:Ops) (c84:C84) (p0:Int) (p1:LB) (p2:Int) (p3:Int) (p4:Int) (again:S100→Option R) (again':S100→Option R') (k0:(Int)→Option R') (k:R'→Option R) (h:∀ s,again s=ob (again' s) k):∀ s,T100 B c84 p0 p1 p2 p3 p4 again (fun y=>ob (k0 y) k) s=ob (T100 B c84 p0 p1 p2 p3 p4 again' k0 s) k:=by
 rintro (_ | x)
 all_goals try cases x
 all_goals (unfold T100;repeat' first | exact rfl | exact h _ | apply qae | (apply qao;intro))
def R100 (c84:C84) (p0:Int) (p1:LB) (p2:Int) (p3:Int) (p4:Int):Nat→S100→Option (Int)
 | 0,_=>none
 | n+1,s=>T100 Ops.std c84 p0 p1 p2 p3 p4 (R100 c84 p0 p1 p2 p3 p4 n) some (some s)
theorem rr100 {R:Type} (c84:C84) (p0:Int) (p1:LB) (p2:Int) (p3:Int) (p4:Int) (k:AV→Objs→Option R):∀ (n:Nat) (s:S100),aloop tau Ops.std gl0 X100 (ent 84 (e84 c84) gnil) ow [] Tryz.f100 k (I100 s) (E100 p0 p1 p2 p3 p4 s) n=ob (R100 c84 p0 p1 p2 p3 p4 n s) (K8 k)
 | 0,s=>by cases s<;>rfl
 | n+1,s=>by rw [el100];exact nt100 Ops.std c84 p0 p1 p2 p3 p4 _ _ some (K8 k) (rr100 c84 p0 p1 p2 p3 p4 k n) (some s)
def F100 (c84:C84) (p0:Int) (p1:LB) (p2:Int) (p3:Int) (p4:Int):Option (Int):=T100 Ops.std c84 p0 p1 p2 p3 p4 (R100 c84 p0 p1 p2 p3 p4 1000000) some none
def e100 {R:Type} (c:Int→LB→Int→Int→Int→Option (Int)):Ent R:=fun args objs k=>
 oCons args fun a0 l0=>oAgg a0 fun x0=>cCons x0 fun z0_0 w0_0=>cInt .i64 z0_0 fun p0=>cCons w0_0 fun z0_1 w0_1=>cStr z0_1 fun p1=>cCons w0_1 fun z0_2 w0_2=>cInt .i64 z0_2 fun p2=>cCons w0_2 fun z0_3 w0_3=>cInt .i64 z0_3 fun p3=>cNil w0_3 <| oI l0 .i64 fun p4 l1=>oE l1 objs <| ob (c p0 p1 p2 p3 p4) (K8 k)
abbrev Sp100 (c:Int→LB→Int→Int→Int→Option (Int)):Prop:=∀ (p0:Int) (p1:LB) (p2:Int) (p3:Int) (p4:Int) (y:Int),c p0 p1 p2 p3 p4=some y→Spec Tryz.prog gl0 100 [.agg [.int .i64 p0,.str p1,.int .i64 p2,.int .i64 p3],.c (.int .i64 p4)] [] (.c (.int .i64 y)) []
theorem ek100 {R:Type} {c:Int→LB→Int→Int→Int→Option (Int)} (hs:Sp100 c):EOk 100 (e100 (R:=R) c):=fun args objs k r h=>by
 unfold e100 at h
 obtain ⟨a0,l0,rfl,q1⟩:=qak h
 obtain ⟨x0,rfl,q2⟩:=qav q1
 obtain ⟨z0_0,w0_0,rfl,q3⟩:=qaa q2
 obtain ⟨p0,rfl,q4⟩:=qar q3
 obtain ⟨z0_1,w0_1,rfl,q5⟩:=qaa q4
 obtain ⟨p1,rfl,q6⟩:=qbb q5
 obtain ⟨z0_2,w0_2,rfl,q7⟩:=qaa q6
 obtain ⟨p2,rfl,q8⟩:=qar q7
 obtain ⟨z0_3,w0_3,rfl,q9⟩:=qaa q8
 obtain ⟨p3,rfl,q10⟩:=qar q9
 obtain ⟨rfl,q11⟩:=qaq q10
 obtain ⟨p4,l1,rfl,q14⟩:=qas q11
 obtain ⟨rfl,rfl,q16⟩:=qam q14
 exact qan (hs p0 p1 p2 p3 p4) q16
theorem sf100 {c84:C84} (h84:Sp84 c84):Sp100 (F100 c84):=fun p0 p1 p2 p3 p4 y hy=>by
 refine qai (qad (ek84 h84) qah) 1000000 (fn:=Tryz.f100) (by kernel_rfl) (by kernel_rfl) (X:=X100) (by kernel_rfl) ?_
 rw [eq100]
 exact (nt100 Ops.std c84 p0 p1 p2 p3 p4 _ _ some (K8 k0) (rr100 c84 p0 p1 p2 p3 p4 k0 1000000) none).trans (by show ob (F100 c84 p0 p1 p2 p3 p4) _=_;rw [hy];rfl)
noncomputable def M100:Int→LB→Int→Int→Int→Option (Int):=F100 M84
theorem sm100:Sp100 M100:=sf100 sm84
def e97 {R:Type} (c:Int→L106→Int→Int→L118→Option (L106×Int×Int×L118)):Ent R:=fun args objs k=>
 oCons args fun a0 l0=>oC a0 fun x0=>cPtr 0 x0 <| oI l0 .i64 fun p0 l1=>oNil l1 <| oBox 0 164 objs fun b0 o0=>cCons b0 fun u0_0 v0=>cList 106 ty106 u0_0 fun p1=>cCons v0 fun u0_1 v1=>cInt .i64 u0_1 fun p2=>cCons v1 fun u0_2 v2=>cOwn 1002 u0_2 <| cCons v2 fun u0_3 v3=>cInt .i64 u0_3 fun p3=>cNil v3 <| oRow 1002 118 ty118 o0 fun p4 o1=>oNilO o1 <| ob (c p0 p1 p2 p3 p4) (K7 k)
abbrev Sp97 (c:Int→L106→Int→Int→L118→Option (L106×Int×Int×L118)):Prop:=∀ (p0:Int) (p1:L106) (p2:Int) (p3:Int) (p4:L118) (y:L106×Int×Int×L118),c p0 p1 p2 p3 p4=some y→Spec Tryz.prog gl0 97 [.c (.ptr 0 0),.c (.int .i64 p0)] [(0,.box 164 [.list 106 ty106 p1,.int .i64 p2,.own 1002,.int .i64 p3]),(1002,.row 118 ty118 p4)] (.tup []) [(0,.box 164 [.list 106 ty106 y.1,.int .i64 y.2.1,.own 1002,.int .i64 y.2.2.1]),(1002,.row 118 ty118 y.2.2.2)]
theorem ek97 {R:Type} {c:Int→L106→Int→Int→L118→Option (L106×Int×Int×L118)} (hs:Sp97 c):EOk 97 (e97 (R:=R) c):=fun args objs k r h=>by
 unfold e97 at h
 obtain ⟨a0,l0,rfl,q1⟩:=qak h
 obtain ⟨x0,rfl,q2⟩:=qa5 q1
 obtain ⟨rfl,q3⟩:=qa3 q2
 obtain ⟨p0,l1,rfl,q6⟩:=qas q3
 obtain ⟨rfl,q7⟩:=qa2 q6
 obtain ⟨b0,o0,rfl,q8⟩:=qa4 q7
 obtain ⟨u0_0,v0,rfl,q9⟩:=qaa q8
 obtain ⟨p1,rfl,q10⟩:=qac q9
 obtain ⟨u0_1,v1,rfl,q11⟩:=qaa q10
 obtain ⟨p2,rfl,q12⟩:=qar q11
 obtain ⟨u0_2,v2,rfl,q13⟩:=qaa q12
 obtain ⟨rfl,q14⟩:=qa7 q13
 obtain ⟨u0_3,v3,rfl,q15⟩:=qaa q14
 obtain ⟨p3,rfl,q16⟩:=qar q15
 obtain ⟨rfl,q17⟩:=qaq q16
 obtain ⟨p4,o1,rfl,q18⟩:=qa8 q17
 obtain ⟨rfl,q19⟩:=qay q18
 exact qan (hs p0 p1 p2 p3 p4) q19
def e99 {R:Type} (c:L106→Int→Int→L118→Option (L106×Int×Int×L118)):Ent R:=fun args objs k=>
 oCons args fun a0 l0=>oC a0 fun x0=>cPtr 0 x0 <| oNil l0 <| oBox 0 164 objs fun b0 o0=>cCons b0 fun u0_0 v0=>cList 106 ty106 u0_0 fun p0=>cCons v0 fun u0_1 v1=>cInt .i64 u0_1 fun p1=>cCons v1 fun u0_2 v2=>cOwn 1002 u0_2 <| cCons v2 fun u0_3 v3=>cInt .i64 u0_3 fun p2=>cNil v3 <| oRow 1002 118 ty118 o0 fun p3 o1=>oNilO o1 <| ob (c p0 p1 p2 p3) (K7 k)
abbrev Sp99 (c:L106→Int→Int→L118→Option (L106×Int×Int×L118)):Prop:=∀ (p0:L106) (p1:Int) (p2:Int) (p3:L118) (y:L106×Int×Int×L118),c p0 p1 p2 p3=some y→Spec Tryz.prog gl0 99 [.c (.ptr 0 0)] [(0,.box 164 [.list 106 ty106 p0,.int .i64 p1,.own 1002,.int .i64 p2]),(1002,.row 118 ty118 p3)] (.tup []) [(0,.box 164 [.list 106 ty106 y.1,.int .i64 y.2.1,.own 1002,.int .i64 y.2.2.1]),(1002,.row 118 ty118 y.2.2.2)]
theorem ek99 {R:Type} {c:L106→Int→Int→L118→Option (L106×Int×Int×L118)} (hs:Sp99 c):EOk 99 (e99 (R:=R) c):=fun args objs k r h=>by
 unfold e99 at h
 obtain ⟨a0,l0,rfl,q1⟩:=qak h
 obtain ⟨x0,rfl,q2⟩:=qa5 q1
 obtain ⟨rfl,q3⟩:=qa3 q2
 obtain ⟨rfl,q4⟩:=qa2 q3
 obtain ⟨b0,o0,rfl,q5⟩:=qa4 q4
 obtain ⟨u0_0,v0,rfl,q6⟩:=qaa q5
 obtain ⟨p0,rfl,q7⟩:=qac q6
 obtain ⟨u0_1,v1,rfl,q8⟩:=qaa q7
 obtain ⟨p1,rfl,q9⟩:=qar q8
 obtain ⟨u0_2,v2,rfl,q10⟩:=qaa q9
 obtain ⟨rfl,q11⟩:=qa7 q10
 obtain ⟨u0_3,v3,rfl,q12⟩:=qaa q11
 obtain ⟨p2,rfl,q13⟩:=qar q12
 obtain ⟨rfl,q14⟩:=qaq q13
 obtain ⟨p3,o1,rfl,q15⟩:=qa8 q14
 obtain ⟨rfl,q16⟩:=qay q15
 exact qan (hs p0 p1 p2 p3) q16
def X97:Aux:=⟨[(3,(rg 2 54))],[(4,.lin (rg 0 13))]⟩
inductive S97 where
 | l0 (v1:L106) (v2:Int) (v3:Int) (v4:L118)
abbrev C99:Type:=L106→Int→Int→L118→Option (L106×Int×Int×L118)
abbrev C97:Type:=Int→L106→Int→Int→L118→Option (L106×Int×Int×L118)
abbrev C100:Type:=Int→LB→Int→Int→Int→Option (Int)
def T97 {R:Type} (B:Ops) (c99:C99) (c97:C97) (c100:C100) (p0:Int) (p1:L106) (p2:Int) (p3:Int) (p4:L118) (again:S97→Option R) (k:(L106×Int×Int×L118)→Option R):Option S97→Option R | none=>cond (B.lt (5) p0) (ob (c99 p1 p2 p3 p4) fun y0=>k ((y0.1,y0.2.1,(y0.2.2).1,(y0.2.2).2))) (ob (c97 (IntKind.wrap .i64 (p0+1)) p1 p2 p3 p4) fun y0=>again (.l0 y0.1 y0.2.1 ((y0.2.2).1) ((y0.2.2).2))) | some (.l0 v1 v2 v3 v4)=>cond (B.lt v3 (0)) (cond (B.inb v2 v1.length) (ob (c100 ((v1.getD v2.toNat ty106.dflt).1) (((v1.getD v2.toNat ty106.dflt).2).1) ((((v1.getD v2.toNat ty106.dflt).2).2).1) ((((v1.getD v2.toNat ty106.dflt).2).2).2) p0) fun y0=>cond (B.eq y0 (0)) (k ((v1,v2,v3,v4))) (ob (c97 (IntKind.wrap .i64 (p0+1)) v1 (IntKind.wrap .i64 (v2+1)) v3 v4) fun y1=>cond (B.lim (List.length ((y1.2.2).2)+List.length ((y0,0,mt UInt8,mt UInt8)::mt (Ty.den ty118))) (48)) (cond (B.eq p0 (3)) (k ((y1.1,y1.2.1,(y1.2.2).1,(y1.2.2).2++(y0,0,mt UInt8,mt UInt8)::mt (Ty.den ty118)))) (again (.l0 y1.1 y1.2.1 ((y1.2.2).1) ((y1.2.2).2++(y0,0,mt UInt8,mt UInt8)::mt (Ty.den ty118))))) none)) none) (k ((v1,v2,v3,v4)))
def E97 (p0:Int) (p1:L106) (p2:Int) (p3:Int) (p4:L118):S97→List AV×Objs
 | .l0 v1 v2 v3 v4=>(mk 56 [(0,.c (.ptr 0 0)),(1,.c (.int .i64 p0))],[(0,.box 164 [.list 106 ty106 v1,.int .i64 v2,.own 1002,.int .i64 v3]),(1002,.row 118 ty118 v4)])
def I97:S97→Nat
 | .l0 _ _ _ _=>0
theorem eq97 {R:Type} (B:Ops) (c99:C99) (c97:C97) (c100:C100) (p0:Int) (p1:L106) (p2:Int) (p3:Int) (p4:L118) (k:AV→Objs→Option R) (n:Nat):afun tau B gl0 X97 (ent 99 (e99 c99) (ent 97 (e97 c97) (ent 100 (e100 c100) gnil))) ow Tryz.f97 [.c (.ptr 0 0),.c (.int .i64 p0)] [(0,.box 164 [.list 106 ty106 p1,.int .i64 p2,.own 1002,.int .i64 p3]),(1002,.row 118 ty118 p4)] k n=T97 B c99 c97 c100 p0 p1 p2 p3 p4 (fun s=>aloop tau B gl0 X97 (ent 99 (e99 c99) (ent 97 (e97 c97) (ent 100 (e100 c100) gnil))) ow [0] Tryz.f97 k (I97 s) (E97 p0 p1 p2 p3 p4 s) n) (K7 k) none:=by kernel_rfl
theorem el97 {R:Type} (B:Ops) (c99:C99) (c97:C97) (c100:C100) (p0:Int) (p1:L106) (p2:Int) (p3:Int) (p4:L118) (k:AV→Objs→Option R) (n:Nat):∀ s,aloop tau B gl0 X97 (ent 99 (e99 c99) (ent 97 (e97 c97) (ent 100 (e100 c100) gnil))) ow [0] Tryz.f97 k (I97 s) (E97 p0 p1 p2 p3 p4 s) (n+1)=T97 B c99 c97 c100 p0 p1 p2 p3 p4 (fun s=>aloop tau B gl0 X97 (ent 99 (e99 c99) (ent 97 (e97 c97) (ent 100 (e100 c100) gnil))) ow [0] Tryz.f97 k (I97 s) (E97 p0 p1 p2 p3 p4 s) n) (K7 k) (some s):=by
 intro s
 cases s<;>kernel_rfl
theorem nt97 {R R':Type} (B:Ops) (c99:C99) (c97:C97) (c100:C100) (p0:Int) (p1:L106) (p2:Int) (p3:Int) (p4:L118) (again:S97→Option R) (again':S97→Option R') (k0:(L106×Int×Int×L118)→Option R') (k:R'→Option R) (h:∀ s,again s=ob (again' s) k):∀ s,T97 B c99 c97 c100 p0 p1 p2 p3 p4 again (fun y=>ob (k0 y) k) s=ob (T97 B c99 c97 c100 p0 p1 p2 p3 p4 again' k0 s) k:=by
 rintro (_ | x)
 all_goals try cases x
 all_goals (unfold T97;repeat' first | exact rfl | exact h _ | apply qae | (apply qao;intro))
def R97 (c99:C99) (c97:C97) (c100:C100) (p0:Int) (p1:L106) (p2:Int) (p3:Int) (p4:L118):Nat→S97→Option (L106×Int×Int×L118)
 | 0,_=>none
 | n+1,s=>T97 Ops.std c99 c97 c100 p0 p1 p2 p3 p4 (R97 c99 c97 c100 p0 p1 p2 p3 p4 n) some (some s)
theorem rr97 {R:Type} (c99:C99) (c97:C97) (c100:C100) (p0:Int) (p1:L106) (p2:Int) (p3:Int) (p4:L118) (k:AV→Objs→Option R):∀ (n:Nat) (s:S97),aloop tau Ops.std gl0 X97 (ent 99 (e99 c99) (ent 97 (e97 c97) (ent 100 (e100 c100) gnil))) ow [0] Tryz.f97 k (I97 s) (E97 p0 p1 p2 p3 p4 s) n=ob (R97 c99 c97 c100 p0 p1 p2 p3 p4 n s) (K7 k)
 | 0,s=>by cases s<;>rfl
 | n+1,s=>by rw [el97];exact nt97 Ops.std c99 c97 c100 p0 p1 p2 p3 p4 _ _ some (K7 k) (rr97 c99 c97 c100 p0 p1 p2 p3 p4 k n) (some s)
def F97 (c99:C99) (c97:C97) (c100:C100) (p0:Int) (p1:L106) (p2:Int) (p3:Int) (p4:L118):Option (L106×Int×Int×L118):=T97 Ops.std c99 c97 c100 p0 p1 p2 p3 p4 (R97 c99 c97 c100 p0 p1 p2 p3 p4 1000000) some none
theorem sf97 {c99:C99} {c97:C97} {c100:C100} (h99:Sp99 c99) (h97:Sp97 c97) (h100:Sp100 c100):Sp97 (F97 c99 c97 c100):=fun p0 p1 p2 p3 p4 y hy=>by
 refine qai (qad (ek99 h99) (qad (ek97 h97) (qad (ek100 h100) qah))) 1000000 (fn:=Tryz.f97) (by kernel_rfl) (by kernel_rfl) (X:=X97) (by kernel_rfl) ?_
 rw [eq97]
 exact (nt97 Ops.std c99 c97 c100 p0 p1 p2 p3 p4 _ _ some (K7 k0) (rr97 c99 c97 c100 p0 p1 p2 p3 p4 k0 1000000) none).trans (by show ob (F97 c99 c97 c100 p0 p1 p2 p3 p4) _=_;rw [hy];rfl)
def X99:Aux:=⟨[(1000006,([1]++rg 3 167))],[(10,.lin (rg 0 12)),(14,.lin (rg 0 13)),(20,.lin (rg 0 12)),(23,.lin (rg 0 13)),(25,.lin (rg 0 11))]⟩
inductive S99 where
 | l1006 (v0:Int) (v1:L106) (v2:Int) (v3:Int) (v4:L118)
abbrev C104:Type:=LB→L106→Int→Int→L118→Option (Bool×L106×Int×Int×L118)
abbrev C105:Type:=L106→Int→Int→L118→Option (L106×Int×Int×L118)
def T99 {R:Type} (B:Ops) (c104:C104) (c99:C99) (c105:C105) (c97:C97) (p0:L106) (p1:Int) (p2:Int) (p3:L118) (again:S99→Option R) (k:(L106×Int×Int×L118)→Option R):Option S99→Option R | none=>cond (B.le (0) p2) (k ((p0,p1,p2,p3))) (ob (c104 ([33]:LB) p0 p1 p2 p3) fun y0=>cond y0.1 (again (.l1006 4 y0.2.1 ((y0.2.2).1) ((y0.2.2.2).1) ((y0.2.2.2).2))) (ob (c104 ([45]:LB) y0.2.1 ((y0.2.2).1) ((y0.2.2.2).1) ((y0.2.2.2).2)) fun y1=>cond y1.1 (again (.l1006 5 y1.2.1 ((y1.2.2).1) ((y1.2.2.2).1) ((y1.2.2.2).2))) (again (.l1006 0 y1.2.1 ((y1.2.2).1) ((y1.2.2.2).1) ((y1.2.2.2).2))))) | some (.l1006 v0 v1 v2 v3 v4)=>cond (!B.eq v0 (0)) (ob (c99 v1 (IntKind.wrap .i64 (v2+1)) v3 v4) fun y0=>cond (B.lim (List.length ((y0.2.2).2)+List.length ((v0,0,mt UInt8,mt UInt8)::mt (Ty.den ty118))) (48)) (k ((y0.1,y0.2.1,(y0.2.2).1,(y0.2.2).2++(v0,0,mt UInt8,mt UInt8)::mt (Ty.den ty118)))) none) (cond (B.inb v2 v1.length) (cond (B.eq ((v1.getD v2.toNat ty106.dflt).1) (1)) (cond (B.lim (List.length v4+List.length ((1,(((v1.getD v2.toNat ty106.dflt).2).2).1,mt UInt8,mt UInt8)::mt (Ty.den ty118))) (48)) (k ((v1,IntKind.wrap .i64 (v2+1),v3,v4++(1,(((v1.getD v2.toNat ty106.dflt).2).2).1,mt UInt8,mt UInt8)::mt (Ty.den ty118)))) none) (cond (B.eq ((v1.getD v2.toNat ty106.dflt).1) (2)) (ob (c104 ([64]:LB) v1 (IntKind.wrap .i64 (v2+1)) v3 v4) fun y0=>cond y0.1 (cond (B.inb (IntKind.wrap .i64 ((y0.2.2).1+1)) (List.length y0.2.1)) (cond (!B.eq ((List.getD y0.2.1 (Int.toNat (IntKind.wrap .i64 (y0.2.2.1+1))) ty106.dflt).1) (2)) (ob (c105 y0.2.1 (IntKind.wrap .i64 ((y0.2.2).1+1)) ((y0.2.2.2).1) ((y0.2.2.2).2)) fun y1=>k ((y1.1,y1.2.1,(y1.2.2).1,(y1.2.2).2))) (cond (B.inb (IntKind.wrap .i64 ((y0.2.2).1+1)) (List.length y0.2.1)) (cond (B.lim (List.length ((y0.2.2.2).2)+List.length ((3,0,((v1.getD v2.toNat ty106.dflt).2).1,((List.getD y0.2.1 (Int.toNat (IntKind.wrap .i64 (y0.2.2.1+1))) ty106.dflt).2).1)::mt (Ty.den ty118))) (48)) (k ((y0.2.1,IntKind.wrap .i64 (IntKind.wrap .i64 ((y0.2.2).1+1)+1),(y0.2.2.2).1,(y0.2.2.2).2++(3,0,((v1.getD v2.toNat ty106.dflt).2).1,((List.getD y0.2.1 (Int.toNat (IntKind.wrap .i64 (y0.2.2.1+1))) ty106.dflt).2).1)::mt (Ty.den ty118)))) none) none)) none) (cond (B.lim (List.length ((y0.2.2.2).2)+List.length ((2,0,((v1.getD v2.toNat ty106.dflt).2).1,mt UInt8)::mt (Ty.den ty118))) (48)) (k ((y0.2.1,(y0.2.2).1,(y0.2.2.2).1,(y0.2.2.2).2++(2,0,((v1.getD v2.toNat ty106.dflt).2).1,mt UInt8)::mt (Ty.den ty118)))) none)) (ob (c104 ([40]:LB) v1 v2 v3 v4) fun y0=>cond y0.1 (ob (c97 (1) y0.2.1 (IntKind.wrap .i64 ((y0.2.2).1+1)) ((y0.2.2.2).1) ((y0.2.2.2).2)) fun y1=>cond (B.le (0) ((y1.2.2).1)) (k ((y1.1,y1.2.1,(y1.2.2).1,(y1.2.2).2))) (ob (c104 ([41]:LB) y1.1 y1.2.1 ((y1.2.2).1) ((y1.2.2).2)) fun y2=>cond (!y2.1) (ob (c105 y2.2.1 ((y2.2.2).1) ((y2.2.2.2).1) ((y2.2.2.2).2)) fun y3=>k ((y3.1,y3.2.1,(y3.2.2).1,(y3.2.2).2))) (k ((y2.2.1,IntKind.wrap .i64 ((y2.2.2).1+1),(y2.2.2.2).1,(y2.2.2.2).2))))) (ob (c105 y0.2.1 ((y0.2.2).1) ((y0.2.2.2).1) ((y0.2.2.2).2)) fun y1=>k ((y1.1,y1.2.1,(y1.2.2).1,(y1.2.2).2)))))) none)
def E99 (p0:L106) (p1:Int) (p2:Int) (p3:L118):S99→List AV×Objs
 | .l1006 v0 v1 v2 v3 v4=>(mk 170 [(0,.c (.ptr 0 0)),(2,.c (.int .i64 v0))],[(0,.box 164 [.list 106 ty106 v1,.int .i64 v2,.own 1002,.int .i64 v3]),(1002,.row 118 ty118 v4)])
def I99:S99→Nat
 | .l1006 _ _ _ _ _=>1006
theorem eq99 {R:Type} (B:Ops) (c104:C104) (c99:C99) (c105:C105) (c97:C97) (p0:L106) (p1:Int) (p2:Int) (p3:L118) (k:AV→Objs→Option R) (n:Nat):afun tau B gl0 X99 (ent 104 (e104 c104) (ent 99 (e99 c99) (ent 105 (e105 c105) (ent 97 (e97 c97) gnil)))) ow Tryz.f99 [.c (.ptr 0 0)] [(0,.box 164 [.list 106 ty106 p0,.int .i64 p1,.own 1002,.int .i64 p2]),(1002,.row 118 ty118 p3)] k n=T99 B c104 c99 c105 c97 p0 p1 p2 p3 (fun s=>aloop tau B gl0 X99 (ent 104 (e104 c104) (ent 99 (e99 c99) (ent 105 (e105 c105) (ent 97 (e97 c97) gnil)))) ow [0] Tryz.f99 k (I99 s) (E99 p0 p1 p2 p3 s) n) (K7 k) none:=by kernel_rfl
theorem el99 {R:Type} (B:Ops) (c104:C104) (c99:C99) (c105:C105) (c97:C97) (p0:L106) (p1:Int) (p2:Int) (p3:L118) (k:AV→Objs→Option R) (n:Nat):∀ s,aloop tau B gl0 X99 (ent 104 (e104 c104) (ent 99 (e99 c99) (ent 105 (e105 c105) (ent 97 (e97 c97) gnil)))) ow [0] Tryz.f99 k (I99 s) (E99 p0 p1 p2 p3 s) (n+1)=T99 B c104 c99 c105 c97 p0 p1 p2 p3 (fun s=>aloop tau B gl0 X99 (ent 104 (e104 c104) (ent 99 (e99 c99) (ent 105 (e105 c105) (ent 97 (e97 c97) gnil)))) ow [0] Tryz.f99 k (I99 s) (E99 p0 p1 p2 p3 s) n) (K7 k) (some s):=by
 intro s
 cases s<;>kernel_rfl
theorem nt99 {R R':Type} (B:Ops) (c104:C104) (c99:C99) (c105:C105) (c97:C97) (p0:L106) (p1:Int) (p2:Int) (p3:L118) (again:S99→Option R) (again':S99→Option R') (k0:(L106×Int×Int×L118)→Option R') (k:R'→Option R) (h:∀ s,again s=ob (again' s) k):∀ s,T99 B c104 c99 c105 c97 p0 p1 p2 p3 again (fun y=>ob (k0 y) k) s=ob (T99 B c104 c99 c105 c97 p0 p1 p2 p3 again' k0 s) k:=by
 rintro (_ | x)
 all_goals try cases x
 all_goals (unfold T99;repeat' first | exact rfl | exact h _ | apply qae | (apply qao;intro))
def R99 (c104:C104) (c99:C99) (c105:C105) (c97:C97) (p0:L106) (p1:Int) (p2:Int) (p3:L118):Nat→S99→Option (L106×Int×Int×L118)
 | 0,_=>none
 | n+1,s=>T99 Ops.std c104 c99 c105 c97 p0 p1 p2 p3 (R99 c104 c99 c105 c97 p0 p1 p2 p3 n) some (some s)
theorem rr99 {R:Type} (c104:C104) (c99:C99) (c105:C105) (c97:C97) (p0:L106) (p1:Int) (p2:Int) (p3:L118) (k:AV→Objs→Option R):∀ (n:Nat) (s:S99),aloop tau Ops.std gl0 X99 (ent 104 (e104 c104) (ent 99 (e99 c99) (ent 105 (e105 c105) (ent 97 (e97 c97) gnil)))) ow [0] Tryz.f99 k (I99 s) (E99 p0 p1 p2 p3 s) n=ob (R99 c104 c99 c105 c97 p0 p1 p2 p3 n s) (K7 k)
 | 0,s=>by cases s<;>rfl
 | n+1,s=>by rw [el99];exact nt99 Ops.std c104 c99 c105 c97 p0 p1 p2 p3 _ _ some (K7 k) (rr99 c104 c99 c105 c97 p0 p1 p2 p3 k n) (some s)
def F99 (c104:C104) (c99:C99) (c105:C105) (c97:C97) (p0:L106) (p1:Int) (p2:Int) (p3:L118):Option (L106×Int×Int×L118):=T99 Ops.std c104 c99 c105 c97 p0 p1 p2 p3 (R99 c104 c99 c105 c97 p0 p1 p2 p3 1000000) some none
theorem sf99 {c104:C104} {c99:C99} {c105:C105} {c97:C97} (h104:Sp104 c104) (h99:Sp99 c99) (h105:Sp105 c105) (h97:Sp97 c97):Sp99 (F99 c104 c99 c105 c97):=fun p0 p1 p2 p3 y hy=>by
 refine qai (qad (ek104 h104) (qad (ek99 h99) (qad (ek105 h105) (qad (ek97 h97) qah)))) 1000000 (fn:=Tryz.f99) (by kernel_rfl) (by kernel_rfl) (X:=X99) (by kernel_rfl) ?_
 rw [eq99]
 exact (nt99 Ops.std c104 c99 c105 c97 p0 p1 p2 p3 _ _ some (K7 k0) (rr99 c104 c99 c105 c97 p0 p1 p2 p3 k0 1000000) none).trans (by show ob (F99 c104 c99 c105 c97 p0 p1 p2 p3) _=_;rw [hy];rfl)
noncomputable def Rec97:Nat→(Int→L106→Int→Int→L118→Option (L106×Int×Int×L118))×(L106→Int→Int→L118→Option (L106×Int×Int×L118))
 | 0=>(fun _ _ _ _ _=>none,fun _ _ _ _=>none)
 | d+1=>(F97 (Rec97 d).2 (Rec97 d).1 M100,F99 M104 (Rec97 d).2 M105 (Rec97 d).1)
theorem rec97:∀ d,Sp97 (Rec97 d).1∧Sp99 (Rec97 d).2
 | 0=>⟨(fun p0 p1 p2 p3 p4 y (h:(none:Option (L106×Int×Int×L118))=some y)=>by cases h),(fun p0 p1 p2 p3 y (h:(none:Option (L106×Int×Int×L118))=some y)=>by cases h)⟩
 | d+1=>⟨sf97 (rec97 d).2 (rec97 d).1 sm100,sf99 sm104 (rec97 d).2 sm105 (rec97 d).1⟩
noncomputable def M97:Int→L106→Int→Int→L118→Option (L106×Int×Int×L118):=(Rec97 1000000).1
theorem sm97:Sp97 M97:=(rec97 1000000).1
def X87:Aux:=⟨[],[(4,.lin [0,1,2,3,4,5,6]),(7,.lin (rg 0 11))]⟩
def T87 {R:Type} (B:Ops) (c97:C97) (p0:L106) (p1:Int) (k:(Int×Int×L118)→Option R):Option R:=ob (c97 (1) p0 p1 (-1) (mt (Ty.den ty118))) fun y0=>cond (B.le (0) ((y0.2.2).1)) (k (((y0.2.2).1,2,mt (Ty.den ty118)))) (cond (B.lt (30) (Nat.cast (List.length ((y0.2.2).2)))) (k ((p1,13,mt (Ty.den ty118)))) (k ((y0.2.1,0,(y0.2.2).2))))
abbrev K9 {R:Type} (k:AV→Objs→Option R) (y:(Int×Int×L118)):Option R:=k (.tup [(false,[.own 501000]),(false,[.int .i64 y.1]),(false,[.int .i64 y.2.1])]) [(501000,.row 118 ty118 y.2.2)]
theorem eq87 {R:Type} (B:Ops) (c97:C97) (p0:L106) (p1:Int) (k:AV→Objs→Option R) (n:Nat):afun tau B gl0 X87 (ent 97 (e97 c97) gnil) ow Tryz.f87 [.c (.list 106 ty106 p0),.c (.int .i64 p1)] [] k n=T87 B c97 p0 p1 (K9 k):=by kernel_rfl
theorem nt87 {R R':Type} (B:Ops) (c97:C97) (p0:L106) (p1:Int) (k0:(Int×Int×L118)→Option R') (k:R'→Option R):T87 B c97 p0 p1 (fun y=>ob (k0 y) k)=ob (T87 B c97 p0 p1 k0) k:=by
 unfold T87
 repeat' first | exact rfl | apply qae | (apply qao;intro)
def F87 (c97:C97) (p0:L106) (p1:Int):Option (Int×Int×L118):=T87 Ops.std c97 p0 p1 some
def e87 {R:Type} (c:L106→Int→Option (Int×Int×L118)):Ent R:=fun args objs k=>
 oL args 106 ty106 fun p0 l0=>oI l0 .i64 fun p1 l1=>oE l1 objs <| ob (c p0 p1) (K9 k)
abbrev Sp87 (c:L106→Int→Option (Int×Int×L118)):Prop:=∀ (p0:L106) (p1:Int) (y:Int×Int×L118),c p0 p1=some y→Spec Tryz.prog gl0 87 [.c (.list 106 ty106 p0),.c (.int .i64 p1)] [] (.tup [(false,[.own 501000]),(false,[.int .i64 y.1]),(false,[.int .i64 y.2.1])]) [(501000,.row 118 ty118 y.2.2)]
theorem ek87 {R:Type} {c:L106→Int→Option (Int×Int×L118)} (hs:Sp87 c):EOk 87 (e87 (R:=R) c):=fun args objs k r h=>by
 unfold e87 at h
 obtain ⟨p0,l0,rfl,q3⟩:=qa1 h
 obtain ⟨p1,l1,rfl,q6⟩:=qas q3
 obtain ⟨rfl,rfl,q8⟩:=qam q6
 exact qan (hs p0 p1) q8
theorem sf87 {c97:C97} (h97:Sp97 c97):Sp87 (F87 c97):=fun p0 p1 y hy=>by
 refine qai (qad (ek97 h97) qah) 1000000 (fn:=Tryz.f87) (by kernel_rfl) (by kernel_rfl) (X:=X87) (by kernel_rfl) ?_
 rw [eq87]
 exact (nt87 Ops.std c97 p0 p1 some (K9 k0)).trans (by show ob (F87 c97 p0 p1) _=_;rw [hy];rfl)
noncomputable def M87:L106→Int→Option (Int×Int×L118):=F87 M97
theorem sm87:Sp87 M87:=sf87 sm97
def X78:Aux:=⟨[(1000012,(rg 0 63))],[(1,.lin (rg 0 12))]⟩
inductive S78 where
 | l1012 (v0:L106) (v1:Int) (v2:Int) (v3:Int) (v4:L73)
def T78 {R:Type} (B:Ops) (c91:C91) (p0:Int) (p1:L106) (p2:Int) (p3:Int) (p4:Int) (p5:L73) (again:S78→Option R) (k:(Int×L106×Int×Int×Int×L73)→Option R):Option S78→Option R | none=>cond (B.inb p2 p1.length) (cond (B.eq p0 (1)) (ob (c91 ([45,62]:LB) p1 p2 p3 p4 p5) fun y0=>cond y0.1 (k ((7,y0.2.1,(y0.2.2).1,(y0.2.2.2).1,((y0.2.2.2).2).1,((y0.2.2.2).2).2))) (cond (B.eq p0 (2)) (ob (c91 ([124,124]:LB) y0.2.1 ((y0.2.2).1) ((y0.2.2.2).1) (((y0.2.2.2).2).1) (((y0.2.2.2).2).2)) fun y1=>cond y1.1 (k ((6,y1.2.1,(y1.2.2).1,(y1.2.2.2).1,((y1.2.2.2).2).1,((y1.2.2.2).2).2))) (cond (B.eq p0 (3)) (ob (c91 ([38,38]:LB) y1.2.1 ((y1.2.2).1) ((y1.2.2.2).1) (((y1.2.2.2).2).1) (((y1.2.2.2).2).2)) fun y2=>cond y2.1 (k ((5,y2.2.1,(y2.2.2).1,(y2.2.2.2).1,((y2.2.2.2).2).1,((y2.2.2.2).2).2))) (cond (B.eq p0 (4)) (cond (B.eq ((p1.getD p2.toNat ty106.dflt).1) (3)) (cond (((p1.getD p2.toNat ty106.dflt).2).1 == ([85]:LB)) (k ((9,y2.2.1,(y2.2.2).1,(y2.2.2.2).1,((y2.2.2.2).2).1,((y2.2.2.2).2).2))) (cond (B.eq p0 (4)) (cond (B.eq ((p1.getD p2.toNat ty106.dflt).1) (3)) (cond (((p1.getD p2.toNat ty106.dflt).2).1 == ([82]:LB)) (k ((10,y2.2.1,(y2.2.2).1,(y2.2.2.2).1,((y2.2.2.2).2).1,((y2.2.2.2).2).2))) (again (.l1012 y2.2.1 ((y2.2.2).1) ((y2.2.2.2).1) (((y2.2.2.2).2).1) (((y2.2.2.2).2).2)))) (again (.l1012 y2.2.1 ((y2.2.2).1) ((y2.2.2.2).1) (((y2.2.2.2).2).1) (((y2.2.2.2).2).2)))) (again (.l1012 y2.2.1 ((y2.2.2).1) ((y2.2.2.2).1) (((y2.2.2.2).2).1) (((y2.2.2.2).2).2))))) (cond (B.eq p0 (4)) (cond (B.eq ((p1.getD p2.toNat ty106.dflt).1) (3)) (cond (((p1.getD p2.toNat ty106.dflt).2).1 == ([82]:LB)) (k ((10,y2.2.1,(y2.2.2).1,(y2.2.2.2).1,((y2.2.2.2).2).1,((y2.2.2.2).2).2))) (again (.l1012 y2.2.1 ((y2.2.2).1) ((y2.2.2.2).1) (((y2.2.2.2).2).1) (((y2.2.2.2).2).2)))) (again (.l1012 y2.2.1 ((y2.2.2).1) ((y2.2.2.2).1) (((y2.2.2.2).2).1) (((y2.2.2.2).2).2)))) (again (.l1012 y2.2.1 ((y2.2.2).1) ((y2.2.2.2).1) (((y2.2.2.2).2).1) (((y2.2.2.2).2).2))))) (cond (B.eq p0 (4)) (cond (B.eq ((p1.getD p2.toNat ty106.dflt).1) (3)) (cond (((p1.getD p2.toNat ty106.dflt).2).1 == ([82]:LB)) (k ((10,y2.2.1,(y2.2.2).1,(y2.2.2.2).1,((y2.2.2.2).2).1,((y2.2.2.2).2).2))) (again (.l1012 y2.2.1 ((y2.2.2).1) ((y2.2.2.2).1) (((y2.2.2.2).2).1) (((y2.2.2.2).2).2)))) (again (.l1012 y2.2.1 ((y2.2.2).1) ((y2.2.2.2).1) (((y2.2.2.2).2).1) (((y2.2.2.2).2).2)))) (again (.l1012 y2.2.1 ((y2.2.2).1) ((y2.2.2.2).1) (((y2.2.2.2).2).1) (((y2.2.2.2).2).2)))))) (cond (B.eq p0 (4)) (cond (B.eq ((p1.getD p2.toNat ty106.dflt).1) (3)) (cond (((p1.getD p2.toNat ty106.dflt).2).1 == ([85]:LB)) (k ((9,y1.2.1,(y1.2.2).1,(y1.2.2.2).1,((y1.2.2.2).2).1,((y1.2.2.2).2).2))) (cond (B.eq p0 (4)) (cond (B.eq ((p1.getD p2.toNat ty106.dflt).1) (3)) (cond (((p1.getD p2.toNat ty106.dflt).2).1 == ([82]:LB)) (k ((10,y1.2.1,(y1.2.2).1,(y1.2.2.2).1,((y1.2.2.2).2).1,((y1.2.2.2).2).2))) (again (.l1012 y1.2.1 ((y1.2.2).1) ((y1.2.2.2).1) (((y1.2.2.2).2).1) (((y1.2.2.2).2).2)))) (again (.l1012 y1.2.1 ((y1.2.2).1) ((y1.2.2.2).1) (((y1.2.2.2).2).1) (((y1.2.2.2).2).2)))) (again (.l1012 y1.2.1 ((y1.2.2).1) ((y1.2.2.2).1) (((y1.2.2.2).2).1) (((y1.2.2.2).2).2))))) (cond (B.eq p0 (4)) (cond (B.eq ((p1.getD p2.toNat ty106.dflt).1) (3)) (cond (((p1.getD p2.toNat ty106.dflt).2).1 == ([82]:LB)) (k ((10,y1.2.1,(y1.2.2).1,(y1.2.2.2).1,((y1.2.2.2).2).1,((y1.2.2.2).2).2))) (again (.l1012 y1.2.1 ((y1.2.2).1) ((y1.2.2.2).1) (((y1.2.2.2).2).1) (((y1.2.2.2).2).2)))) (again (.l1012 y1.2.1 ((y1.2.2).1) ((y1.2.2.2).1) (((y1.2.2.2).2).1) (((y1.2.2.2).2).2)))) (again (.l1012 y1.2.1 ((y1.2.2).1) ((y1.2.2.2).1) (((y1.2.2.2).2).1) (((y1.2.2.2).2).2))))) (cond (B.eq p0 (4)) (cond (B.eq ((p1.getD p2.toNat ty106.dflt).1) (3)) (cond (((p1.getD p2.toNat ty106.dflt).2).1 == ([82]:LB)) (k ((10,y1.2.1,(y1.2.2).1,(y1.2.2.2).1,((y1.2.2.2).2).1,((y1.2.2.2).2).2))) (again (.l1012 y1.2.1 ((y1.2.2).1) ((y1.2.2.2).1) (((y1.2.2.2).2).1) (((y1.2.2.2).2).2)))) (again (.l1012 y1.2.1 ((y1.2.2).1) ((y1.2.2.2).1) (((y1.2.2.2).2).1) (((y1.2.2.2).2).2)))) (again (.l1012 y1.2.1 ((y1.2.2).1) ((y1.2.2.2).1) (((y1.2.2.2).2).1) (((y1.2.2.2).2).2))))))) (cond (B.eq p0 (3)) (ob (c91 ([38,38]:LB) y0.2.1 ((y0.2.2).1) ((y0.2.2.2).1) (((y0.2.2.2).2).1) (((y0.2.2.2).2).2)) fun y1=>cond y1.1 (k ((5,y1.2.1,(y1.2.2).1,(y1.2.2.2).1,((y1.2.2.2).2).1,((y1.2.2.2).2).2))) (cond (B.eq p0 (4)) (cond (B.eq ((p1.getD p2.toNat ty106.dflt).1) (3)) (cond (((p1.getD p2.toNat ty106.dflt).2).1 == ([85]:LB)) (k ((9,y1.2.1,(y1.2.2).1,(y1.2.2.2).1,((y1.2.2.2).2).1,((y1.2.2.2).2).2))) (cond (B.eq p0 (4)) (cond (B.eq ((p1.getD p2.toNat ty106.dflt).1) (3)) (cond (((p1.getD p2.toNat ty106.dflt).2).1 == ([82]:LB)) (k ((10,y1.2.1,(y1.2.2).1,(y1.2.2.2).1,((y1.2.2.2).2).1,((y1.2.2.2).2).2))) (again (.l1012 y1.2.1 ((y1.2.2).1) ((y1.2.2.2).1) (((y1.2.2.2).2).1) (((y1.2.2.2).2).2)))) (again (.l1012 y1.2.1 ((y1.2.2).1) ((y1.2.2.2).1) (((y1.2.2.2).2).1) (((y1.2.2.2).2).2)))) (again (.l1012 y1.2.1 ((y1.2.2).1) ((y1.2.2.2).1) (((y1.2.2.2).2).1) (((y1.2.2.2).2).2))))) (cond (B.eq p0 (4)) (cond (B.eq ((p1.getD p2.toNat ty106.dflt).1) (3)) (cond (((p1.getD p2.toNat ty106.dflt).2).1 == ([82]:LB)) (k ((10,y1.2.1,(y1.2.2).1,(y1.2.2.2).1,((y1.2.2.2).2).1,((y1.2.2.2).2).2))) (again (.l1012 y1.2.1 ((y1.2.2).1) ((y1.2.2.2).1) (((y1.2.2.2).2).1) (((y1.2.2.2).2).2)))) (again (.l1012 y1.2.1 ((y1.2.2).1) ((y1.2.2.2).1) (((y1.2.2.2).2).1) (((y1.2.2.2).2).2)))) (again (.l1012 y1.2.1 ((y1.2.2).1) ((y1.2.2.2).1) (((y1.2.2.2).2).1) (((y1.2.2.2).2).2))))) (cond (B.eq p0 (4)) (cond (B.eq ((p1.getD p2.toNat ty106.dflt).1) (3)) (cond (((p1.getD p2.toNat ty106.dflt).2).1 == ([82]:LB)) (k ((10,y1.2.1,(y1.2.2).1,(y1.2.2.2).1,((y1.2.2.2).2).1,((y1.2.2.2).2).2))) (again (.l1012 y1.2.1 ((y1.2.2).1) ((y1.2.2.2).1) (((y1.2.2.2).2).1) (((y1.2.2.2).2).2)))) (again (.l1012 y1.2.1 ((y1.2.2).1) ((y1.2.2.2).1) (((y1.2.2.2).2).1) (((y1.2.2.2).2).2)))) (again (.l1012 y1.2.1 ((y1.2.2).1) ((y1.2.2.2).1) (((y1.2.2.2).2).1) (((y1.2.2.2).2).2)))))) (cond (B.eq p0 (4)) (cond (B.eq ((p1.getD p2.toNat ty106.dflt).1) (3)) (cond (((p1.getD p2.toNat ty106.dflt).2).1 == ([85]:LB)) (k ((9,y0.2.1,(y0.2.2).1,(y0.2.2.2).1,((y0.2.2.2).2).1,((y0.2.2.2).2).2))) (cond (B.eq p0 (4)) (cond (B.eq ((p1.getD p2.toNat ty106.dflt).1) (3)) (cond (((p1.getD p2.toNat ty106.dflt).2).1 == ([82]:LB)) (k ((10,y0.2.1,(y0.2.2).1,(y0.2.2.2).1,((y0.2.2.2).2).1,((y0.2.2.2).2).2))) (again (.l1012 y0.2.1 ((y0.2.2).1) ((y0.2.2.2).1) (((y0.2.2.2).2).1) (((y0.2.2.2).2).2)))) (again (.l1012 y0.2.1 ((y0.2.2).1) ((y0.2.2.2).1) (((y0.2.2.2).2).1) (((y0.2.2.2).2).2)))) (again (.l1012 y0.2.1 ((y0.2.2).1) ((y0.2.2.2).1) (((y0.2.2.2).2).1) (((y0.2.2.2).2).2))))) (cond (B.eq p0 (4)) (cond (B.eq ((p1.getD p2.toNat ty106.dflt).1) (3)) (cond (((p1.getD p2.toNat ty106.dflt).2).1 == ([82]:LB)) (k ((10,y0.2.1,(y0.2.2).1,(y0.2.2.2).1,((y0.2.2.2).2).1,((y0.2.2.2).2).2))) (again (.l1012 y0.2.1 ((y0.2.2).1) ((y0.2.2.2).1) (((y0.2.2.2).2).1) (((y0.2.2.2).2).2)))) (again (.l1012 y0.2.1 ((y0.2.2).1) ((y0.2.2.2).1) (((y0.2.2.2).2).1) (((y0.2.2.2).2).2)))) (again (.l1012 y0.2.1 ((y0.2.2).1) ((y0.2.2.2).1) (((y0.2.2.2).2).1) (((y0.2.2.2).2).2))))) (cond (B.eq p0 (4)) (cond (B.eq ((p1.getD p2.toNat ty106.dflt).1) (3)) (cond (((p1.getD p2.toNat ty106.dflt).2).1 == ([82]:LB)) (k ((10,y0.2.1,(y0.2.2).1,(y0.2.2.2).1,((y0.2.2.2).2).1,((y0.2.2.2).2).2))) (again (.l1012 y0.2.1 ((y0.2.2).1) ((y0.2.2.2).1) (((y0.2.2.2).2).1) (((y0.2.2.2).2).2)))) (again (.l1012 y0.2.1 ((y0.2.2).1) ((y0.2.2.2).1) (((y0.2.2.2).2).1) (((y0.2.2.2).2).2)))) (again (.l1012 y0.2.1 ((y0.2.2).1) ((y0.2.2.2).1) (((y0.2.2.2).2).1) (((y0.2.2.2).2).2)))))))) (cond (B.eq p0 (2)) (ob (c91 ([124,124]:LB) p1 p2 p3 p4 p5) fun y0=>cond y0.1 (k ((6,y0.2.1,(y0.2.2).1,(y0.2.2.2).1,((y0.2.2.2).2).1,((y0.2.2.2).2).2))) (cond (B.eq p0 (3)) (ob (c91 ([38,38]:LB) y0.2.1 ((y0.2.2).1) ((y0.2.2.2).1) (((y0.2.2.2).2).1) (((y0.2.2.2).2).2)) fun y1=>cond y1.1 (k ((5,y1.2.1,(y1.2.2).1,(y1.2.2.2).1,((y1.2.2.2).2).1,((y1.2.2.2).2).2))) (cond (B.eq p0 (4)) (cond (B.eq ((p1.getD p2.toNat ty106.dflt).1) (3)) (cond (((p1.getD p2.toNat ty106.dflt).2).1 == ([85]:LB)) (k ((9,y1.2.1,(y1.2.2).1,(y1.2.2.2).1,((y1.2.2.2).2).1,((y1.2.2.2).2).2))) (cond (B.eq p0 (4)) (cond (B.eq ((p1.getD p2.toNat ty106.dflt).1) (3)) (cond (((p1.getD p2.toNat ty106.dflt).2).1 == ([82]:LB)) (k ((10,y1.2.1,(y1.2.2).1,(y1.2.2.2).1,((y1.2.2.2).2).1,((y1.2.2.2).2).2))) (again (.l1012 y1.2.1 ((y1.2.2).1) ((y1.2.2.2).1) (((y1.2.2.2).2).1) (((y1.2.2.2).2).2)))) (again (.l1012 y1.2.1 ((y1.2.2).1) ((y1.2.2.2).1) (((y1.2.2.2).2).1) (((y1.2.2.2).2).2)))) (again (.l1012 y1.2.1 ((y1.2.2).1) ((y1.2.2.2).1) (((y1.2.2.2).2).1) (((y1.2.2.2).2).2))))) (cond (B.eq p0 (4)) (cond (B.eq ((p1.getD p2.toNat ty106.dflt).1) (3)) (cond (((p1.getD p2.toNat ty106.dflt).2).1 == ([82]:LB)) (k ((10,y1.2.1,(y1.2.2).1,(y1.2.2.2).1,((y1.2.2.2).2).1,((y1.2.2.2).2).2))) (again (.l1012 y1.2.1 ((y1.2.2).1) ((y1.2.2.2).1) (((y1.2.2.2).2).1) (((y1.2.2.2).2).2)))) (again (.l1012 y1.2.1 ((y1.2.2).1) ((y1.2.2.2).1) (((y1.2.2.2).2).1) (((y1.2.2.2).2).2)))) (again (.l1012 y1.2.1 ((y1.2.2).1) ((y1.2.2.2).1) (((y1.2.2.2).2).1) (((y1.2.2.2).2).2))))) (cond (B.eq p0 (4)) (cond (B.eq ((p1.getD p2.toNat ty106.dflt).1) (3)) (cond (((p1.getD p2.toNat ty106.dflt).2).1 == ([82]:LB)) (k ((10,y1.2.1,(y1.2.2).1,(y1.2.2.2).1,((y1.2.2.2).2).1,((y1.2.2.2).2).2))) (again (.l1012 y1.2.1 ((y1.2.2).1) ((y1.2.2.2).1) (((y1.2.2.2).2).1) (((y1.2.2.2).2).2)))) (again (.l1012 y1.2.1 ((y1.2.2).1) ((y1.2.2.2).1) (((y1.2.2.2).2).1) (((y1.2.2.2).2).2)))) (again (.l1012 y1.2.1 ((y1.2.2).1) ((y1.2.2.2).1) (((y1.2.2.2).2).1) (((y1.2.2.2).2).2)))))) (cond (B.eq p0 (4)) (cond (B.eq ((p1.getD p2.toNat ty106.dflt).1) (3)) (cond (((p1.getD p2.toNat ty106.dflt).2).1 == ([85]:LB)) (k ((9,y0.2.1,(y0.2.2).1,(y0.2.2.2).1,((y0.2.2.2).2).1,((y0.2.2.2).2).2))) (cond (B.eq p0 (4)) (cond (B.eq ((p1.getD p2.toNat ty106.dflt).1) (3)) (cond (((p1.getD p2.toNat ty106.dflt).2).1 == ([82]:LB)) (k ((10,y0.2.1,(y0.2.2).1,(y0.2.2.2).1,((y0.2.2.2).2).1,((y0.2.2.2).2).2))) (again (.l1012 y0.2.1 ((y0.2.2).1) ((y0.2.2.2).1) (((y0.2.2.2).2).1) (((y0.2.2.2).2).2)))) (again (.l1012 y0.2.1 ((y0.2.2).1) ((y0.2.2.2).1) (((y0.2.2.2).2).1) (((y0.2.2.2).2).2)))) (again (.l1012 y0.2.1 ((y0.2.2).1) ((y0.2.2.2).1) (((y0.2.2.2).2).1) (((y0.2.2.2).2).2))))) (cond (B.eq p0 (4)) (cond (B.eq ((p1.getD p2.toNat ty106.dflt).1) (3)) (cond (((p1.getD p2.toNat ty106.dflt).2).1 == ([82]:LB)) (k ((10,y0.2.1,(y0.2.2).1,(y0.2.2.2).1,((y0.2.2.2).2).1,((y0.2.2.2).2).2))) (again (.l1012 y0.2.1 ((y0.2.2).1) ((y0.2.2.2).1) (((y0.2.2.2).2).1) (((y0.2.2.2).2).2)))) (again (.l1012 y0.2.1 ((y0.2.2).1) ((y0.2.2.2).1) (((y0.2.2.2).2).1) (((y0.2.2.2).2).2)))) (again (.l1012 y0.2.1 ((y0.2.2).1) ((y0.2.2.2).1) (((y0.2.2.2).2).1) (((y0.2.2.2).2).2))))) (cond (B.eq p0 (4)) (cond (B.eq ((p1.getD p2.toNat ty106.dflt).1) (3)) (cond (((p1.getD p2.toNat ty106.dflt).2).1 == ([82]:LB)) (k ((10,y0.2.1,(y0.2.2).1,(y0.2.2.2).1,((y0.2.2.2).2).1,((y0.2.2.2).2).2))) (again (.l1012 y0.2.1 ((y0.2.2).1) ((y0.2.2.2).1) (((y0.2.2.2).2).1) (((y0.2.2.2).2).2)))) (again (.l1012 y0.2.1 ((y0.2.2).1) ((y0.2.2.2).1) (((y0.2.2.2).2).1) (((y0.2.2.2).2).2)))) (again (.l1012 y0.2.1 ((y0.2.2).1) ((y0.2.2.2).1) (((y0.2.2.2).2).1) (((y0.2.2.2).2).2))))))) (cond (B.eq p0 (3)) (ob (c91 ([38,38]:LB) p1 p2 p3 p4 p5) fun y0=>cond y0.1 (k ((5,y0.2.1,(y0.2.2).1,(y0.2.2.2).1,((y0.2.2.2).2).1,((y0.2.2.2).2).2))) (cond (B.eq p0 (4)) (cond (B.eq ((p1.getD p2.toNat ty106.dflt).1) (3)) (cond (((p1.getD p2.toNat ty106.dflt).2).1 == ([85]:LB)) (k ((9,y0.2.1,(y0.2.2).1,(y0.2.2.2).1,((y0.2.2.2).2).1,((y0.2.2.2).2).2))) (cond (B.eq p0 (4)) (cond (B.eq ((p1.getD p2.toNat ty106.dflt).1) (3)) (cond (((p1.getD p2.toNat ty106.dflt).2).1 == ([82]:LB)) (k ((10,y0.2.1,(y0.2.2).1,(y0.2.2.2).1,((y0.2.2.2).2).1,((y0.2.2.2).2).2))) (again (.l1012 y0.2.1 ((y0.2.2).1) ((y0.2.2.2).1) (((y0.2.2.2).2).1) (((y0.2.2.2).2).2)))) (again (.l1012 y0.2.1 ((y0.2.2).1) ((y0.2.2.2).1) (((y0.2.2.2).2).1) (((y0.2.2.2).2).2)))) (again (.l1012 y0.2.1 ((y0.2.2).1) ((y0.2.2.2).1) (((y0.2.2.2).2).1) (((y0.2.2.2).2).2))))) (cond (B.eq p0 (4)) (cond (B.eq ((p1.getD p2.toNat ty106.dflt).1) (3)) (cond (((p1.getD p2.toNat ty106.dflt).2).1 == ([82]:LB)) (k ((10,y0.2.1,(y0.2.2).1,(y0.2.2.2).1,((y0.2.2.2).2).1,((y0.2.2.2).2).2))) (again (.l1012 y0.2.1 ((y0.2.2).1) ((y0.2.2.2).1) (((y0.2.2.2).2).1) (((y0.2.2.2).2).2)))) (again (.l1012 y0.2.1 ((y0.2.2).1) ((y0.2.2.2).1) (((y0.2.2.2).2).1) (((y0.2.2.2).2).2)))) (again (.l1012 y0.2.1 ((y0.2.2).1) ((y0.2.2.2).1) (((y0.2.2.2).2).1) (((y0.2.2.2).2).2))))) (cond (B.eq p0 (4)) (cond (B.eq ((p1.getD p2.toNat ty106.dflt).1) (3)) (cond (((p1.getD p2.toNat ty106.dflt).2).1 == ([82]:LB)) (k ((10,y0.2.1,(y0.2.2).1,(y0.2.2.2).1,((y0.2.2.2).2).1,((y0.2.2.2).2).2))) (again (.l1012 y0.2.1 ((y0.2.2).1) ((y0.2.2.2).1) (((y0.2.2.2).2).1) (((y0.2.2.2).2).2)))) (again (.l1012 y0.2.1 ((y0.2.2).1) ((y0.2.2.2).1) (((y0.2.2.2).2).1) (((y0.2.2.2).2).2)))) (again (.l1012 y0.2.1 ((y0.2.2).1) ((y0.2.2.2).1) (((y0.2.2.2).2).1) (((y0.2.2.2).2).2)))))) (cond (B.eq p0 (4)) (cond (B.eq ((p1.getD p2.toNat ty106.dflt).1) (3)) (cond (((p1.getD p2.toNat ty106.dflt).2).1 == ([85]:LB)) (k ((9,p1,p2,p3,p4,p5))) (cond (B.eq p0 (4)) (cond (B.eq ((p1.getD p2.toNat ty106.dflt).1) (3)) (cond (((p1.getD p2.toNat ty106.dflt).2).1 == ([82]:LB)) (k ((10,p1,p2,p3,p4,p5))) (again (.l1012 p1 p2 p3 p4 p5))) (again (.l1012 p1 p2 p3 p4 p5))) (again (.l1012 p1 p2 p3 p4 p5)))) (cond (B.eq p0 (4)) (cond (B.eq ((p1.getD p2.toNat ty106.dflt).1) (3)) (cond (((p1.getD p2.toNat ty106.dflt).2).1 == ([82]:LB)) (k ((10,p1,p2,p3,p4,p5))) (again (.l1012 p1 p2 p3 p4 p5))) (again (.l1012 p1 p2 p3 p4 p5))) (again (.l1012 p1 p2 p3 p4 p5)))) (cond (B.eq p0 (4)) (cond (B.eq ((p1.getD p2.toNat ty106.dflt).1) (3)) (cond (((p1.getD p2.toNat ty106.dflt).2).1 == ([82]:LB)) (k ((10,p1,p2,p3,p4,p5))) (again (.l1012 p1 p2 p3 p4 p5))) (again (.l1012 p1 p2 p3 p4 p5))) (again (.l1012 p1 p2 p3 p4 p5))))))) none | some (.l1012 v0 v1 v2 v3 v4)=>k ((0,v0,v1,v2,v3,v4))
def E78 (p0:Int) (p1:L106) (p2:Int) (p3:Int) (p4:Int) (p5:L73):S78→List AV×Objs
 | .l1012 v0 v1 v2 v3 v4=>(mk 63 [],[(0,.box 103 [.list 106 ty106 v0,.int .i64 v1,.own 1002,.int .i64 v2,.int .i64 v3]),(1002,.row 73 ty73 v4)])
def I78:S78→Nat
 | .l1012 _ _ _ _ _=>1012
abbrev K10 {R:Type} (k:AV→Objs→Option R) (y:(Int×L106×Int×Int×Int×L73)):Option R:=k (.c (.int .i64 y.1)) [(0,.box 103 [.list 106 ty106 y.2.1,.int .i64 y.2.2.1,.own 1002,.int .i64 y.2.2.2.1,.int .i64 y.2.2.2.2.1]),(1002,.row 73 ty73 y.2.2.2.2.2)]
theorem eq78 {R:Type} (B:Ops) (c91:C91) (p0:Int) (p1:L106) (p2:Int) (p3:Int) (p4:Int) (p5:L73) (k:AV→Objs→Option R) (n:Nat):afun tau B gl0 X78 (ent 91 (e91 c91) gnil) ow Tryz.f78 [.c (.ptr 0 0),.c (.int .i64 p0)] [(0,.box 103 [.list 106 ty106 p1,.int .i64 p2,.own 1002,.int .i64 p3,.int .i64 p4]),(1002,.row 73 ty73 p5)] k n=T78 B c91 p0 p1 p2 p3 p4 p5 (fun s=>aloop tau B gl0 X78 (ent 91 (e91 c91) gnil) ow [0] Tryz.f78 k (I78 s) (E78 p0 p1 p2 p3 p4 p5 s) n) (K10 k) none:=by kernel_rfl
theorem el78 {R:Type} (B:Ops) (c91:C91) (p0:Int) (p1:L106) (p2:Int) (p3:Int) (p4:Int) (p5:L73) (k:AV→Objs→Option R) (n:Nat):∀ s,aloop tau B gl0 X78 (ent 91 (e91 c91) gnil) ow [0] Tryz.f78 k (I78 s) (E78 p0 p1 p2 p3 p4 p5 s) (n+1)=T78 B c91 p0 p1 p2 p3 p4 p5 (fun s=>aloop tau B gl0 X78 (ent 91 (e91 c91) gnil) ow [0] Tryz.f78 k (I78 s) (E78 p0 p1 p2 p3 p4 p5 s) n) (K10 k) (some s):=by
 intro s
 cases s<;>kernel_rfl
theorem nt78 {R R':Type} (B:Ops) (c91:C91) (p0:Int) (p1:L106) (p2:Int) (p3:Int) (p4:Int) (p5:L73) (again:S78→Option R) (again':S78→Option R') (k0:(Int×L106×Int×Int×Int×L73)→Option R') (k:R'→Option R) (h:∀ s,again s=ob (again' s) k):∀ s,T78 B c91 p0 p1 p2 p3 p4 p5 again (fun y=>ob (k0 y) k) s=ob (T78 B c91 p0 p1 p2 p3 p4 p5 again' k0 s) k:=by
 rintro (_ | x)
 all_goals try cases x
 all_goals (unfold T78;repeat' first | exact rfl | exact h _ | apply qae | (apply qao;intro))
def R78 (c91:C91) (p0:Int) (p1:L106) (p2:Int) (p3:Int) (p4:Int) (p5:L73):Nat→S78→Option (Int×L106×Int×Int×Int×L73)
 | 0,_=>none
 | n+1,s=>T78 Ops.std c91 p0 p1 p2 p3 p4 p5 (R78 c91 p0 p1 p2 p3 p4 p5 n) some (some s)
theorem rr78 {R:Type} (c91:C91) (p0:Int) (p1:L106) (p2:Int) (p3:Int) (p4:Int) (p5:L73) (k:AV→Objs→Option R):∀ (n:Nat) (s:S78),aloop tau Ops.std gl0 X78 (ent 91 (e91 c91) gnil) ow [0] Tryz.f78 k (I78 s) (E78 p0 p1 p2 p3 p4 p5 s) n=ob (R78 c91 p0 p1 p2 p3 p4 p5 n s) (K10 k)
 | 0,s=>by cases s<;>rfl
 | n+1,s=>by rw [el78];exact nt78 Ops.std c91 p0 p1 p2 p3 p4 p5 _ _ some (K10 k) (rr78 c91 p0 p1 p2 p3 p4 p5 k n) (some s)
def F78 (c91:C91) (p0:Int) (p1:L106) (p2:Int) (p3:Int) (p4:Int) (p5:L73):Option (Int×L106×Int×Int×Int×L73):=T78 Ops.std c91 p0 p1 p2 p3 p4 p5 (R78 c91 p0 p1 p2 p3 p4 p5 1000000) some none
def e78 {R:Type} (c:Int→L106→Int→Int→Int→L73→Option (Int×L106×Int×Int×Int×L73)):Ent R:=fun args objs k=>
 oCons args fun a0 l0=>oC a0 fun x0=>cPtr 0 x0 <| oI l0 .i64 fun p0 l1=>oNil l1 <| oBox 0 103 objs fun b0 o0=>cCons b0 fun u0_0 v0=>cList 106 ty106 u0_0 fun p1=>cCons v0 fun u0_1 v1=>cInt .i64 u0_1 fun p2=>cCons v1 fun u0_2 v2=>cOwn 1002 u0_2 <| cCons v2 fun u0_3 v3=>cInt .i64 u0_3 fun p3=>cCons v3 fun u0_4 v4=>cInt .i64 u0_4 fun p4=>cNil v4 <| oRow 1002 73 ty73 o0 fun p5 o1=>oNilO o1 <| ob (c p0 p1 p2 p3 p4 p5) (K10 k)
abbrev Sp78 (c:Int→L106→Int→Int→Int→L73→Option (Int×L106×Int×Int×Int×L73)):Prop:=∀ (p0:Int) (p1:L106) (p2:Int) (p3:Int) (p4:Int) (p5:L73) (y:Int×L106×Int×Int×Int×L73),c p0 p1 p2 p3 p4 p5=some y→Spec Tryz.prog gl0 78 [.c (.ptr 0 0),.c (.int .i64 p0)] [(0,.box 103 [.list 106 ty106 p1,.int .i64 p2,.own 1002,.int .i64 p3,.int .i64 p4]),(1002,.row 73 ty73 p5)] (.c (.int .i64 y.1)) [(0,.box 103 [.list 106 ty106 y.2.1,.int .i64 y.2.2.1,.own 1002,.int .i64 y.2.2.2.1,.int .i64 y.2.2.2.2.1]),(1002,.row 73 ty73 y.2.2.2.2.2)]
theorem ek78 {R:Type} {c:Int→L106→Int→Int→Int→L73→Option (Int×L106×Int×Int×Int×L73)} (hs:Sp78 c):EOk 78 (e78 (R:=R) c):=fun args objs k r h=>by
 unfold e78 at h
 obtain ⟨a0,l0,rfl,q1⟩:=qak h
 obtain ⟨x0,rfl,q2⟩:=qa5 q1
 obtain ⟨rfl,q3⟩:=qa3 q2
 obtain ⟨p0,l1,rfl,q6⟩:=qas q3
 obtain ⟨rfl,q7⟩:=qa2 q6
 obtain ⟨b0,o0,rfl,q8⟩:=qa4 q7
 obtain ⟨u0_0,v0,rfl,q9⟩:=qaa q8
 obtain ⟨p1,rfl,q10⟩:=qac q9
 obtain ⟨u0_1,v1,rfl,q11⟩:=qaa q10
 obtain ⟨p2,rfl,q12⟩:=qar q11
 obtain ⟨u0_2,v2,rfl,q13⟩:=qaa q12
 obtain ⟨rfl,q14⟩:=qa7 q13
 obtain ⟨u0_3,v3,rfl,q15⟩:=qaa q14
 obtain ⟨p3,rfl,q16⟩:=qar q15
 obtain ⟨u0_4,v4,rfl,q17⟩:=qaa q16
 obtain ⟨p4,rfl,q18⟩:=qar q17
 obtain ⟨rfl,q19⟩:=qaq q18
 obtain ⟨p5,o1,rfl,q20⟩:=qa8 q19
 obtain ⟨rfl,q21⟩:=qay q20
 exact qan (hs p0 p1 p2 p3 p4 p5) q21
theorem sf78 {c91:C91} (h91:Sp91 c91):Sp78 (F78 c91):=fun p0 p1 p2 p3 p4 p5 y hy=>by
 refine qai (qad (ek91 h91) qah) 1000000 (fn:=Tryz.f78) (by kernel_rfl) (by kernel_rfl) (X:=X78) (by kernel_rfl) ?_
 rw [eq78]
 exact (nt78 Ops.std c91 p0 p1 p2 p3 p4 p5 _ _ some (K10 k0) (rr78 c91 p0 p1 p2 p3 p4 p5 k0 1000000) none).trans (by show ob (F78 c91 p0 p1 p2 p3 p4 p5) _=_;rw [hy];rfl)
noncomputable def M78:Int→L106→Int→Int→Int→L73→Option (Int×L106×Int×Int×Int×L73):=F78 M91
theorem sm78:Sp78 M78:=sf78 sm91
def e44 {R:Type} (c:Int→L106→Int→Int→Int→L73→Option (L106×Int×Int×Int×L73)):Ent R:=fun args objs k=>
 oCons args fun a0 l0=>oC a0 fun x0=>cPtr 0 x0 <| oI l0 .i64 fun p0 l1=>oNil l1 <| oBox 0 103 objs fun b0 o0=>cCons b0 fun u0_0 v0=>cList 106 ty106 u0_0 fun p1=>cCons v0 fun u0_1 v1=>cInt .i64 u0_1 fun p2=>cCons v1 fun u0_2 v2=>cOwn 1002 u0_2 <| cCons v2 fun u0_3 v3=>cInt .i64 u0_3 fun p3=>cCons v3 fun u0_4 v4=>cInt .i64 u0_4 fun p4=>cNil v4 <| oRow 1002 73 ty73 o0 fun p5 o1=>oNilO o1 <| ob (c p0 p1 p2 p3 p4 p5) (K5 k)
abbrev Sp44 (c:Int→L106→Int→Int→Int→L73→Option (L106×Int×Int×Int×L73)):Prop:=∀ (p0:Int) (p1:L106) (p2:Int) (p3:Int) (p4:Int) (p5:L73) (y:L106×Int×Int×Int×L73),c p0 p1 p2 p3 p4 p5=some y→Spec Tryz.prog gl0 44 [.c (.ptr 0 0),.c (.int .i64 p0)] [(0,.box 103 [.list 106 ty106 p1,.int .i64 p2,.own 1002,.int .i64 p3,.int .i64 p4]),(1002,.row 73 ty73 p5)] (.tup []) [(0,.box 103 [.list 106 ty106 y.1,.int .i64 y.2.1,.own 1002,.int .i64 y.2.2.1,.int .i64 y.2.2.2.1]),(1002,.row 73 ty73 y.2.2.2.2)]
theorem ek44 {R:Type} {c:Int→L106→Int→Int→Int→L73→Option (L106×Int×Int×Int×L73)} (hs:Sp44 c):EOk 44 (e44 (R:=R) c):=fun args objs k r h=>by
 unfold e44 at h
 obtain ⟨a0,l0,rfl,q1⟩:=qak h
 obtain ⟨x0,rfl,q2⟩:=qa5 q1
 obtain ⟨rfl,q3⟩:=qa3 q2
 obtain ⟨p0,l1,rfl,q6⟩:=qas q3
 obtain ⟨rfl,q7⟩:=qa2 q6
 obtain ⟨b0,o0,rfl,q8⟩:=qa4 q7
 obtain ⟨u0_0,v0,rfl,q9⟩:=qaa q8
 obtain ⟨p1,rfl,q10⟩:=qac q9
 obtain ⟨u0_1,v1,rfl,q11⟩:=qaa q10
 obtain ⟨p2,rfl,q12⟩:=qar q11
 obtain ⟨u0_2,v2,rfl,q13⟩:=qaa q12
 obtain ⟨rfl,q14⟩:=qa7 q13
 obtain ⟨u0_3,v3,rfl,q15⟩:=qaa q14
 obtain ⟨p3,rfl,q16⟩:=qar q15
 obtain ⟨u0_4,v4,rfl,q17⟩:=qaa q16
 obtain ⟨p4,rfl,q18⟩:=qar q17
 obtain ⟨rfl,q19⟩:=qaq q18
 obtain ⟨p5,o1,rfl,q20⟩:=qa8 q19
 obtain ⟨rfl,q21⟩:=qay q20
 exact qan (hs p0 p1 p2 p3 p4 p5) q21
def e77 {R:Type} (c:L106→Int→Int→Int→L73→Option (L106×Int×Int×Int×L73)):Ent R:=fun args objs k=>
 oCons args fun a0 l0=>oC a0 fun x0=>cPtr 0 x0 <| oNil l0 <| oBox 0 103 objs fun b0 o0=>cCons b0 fun u0_0 v0=>cList 106 ty106 u0_0 fun p0=>cCons v0 fun u0_1 v1=>cInt .i64 u0_1 fun p1=>cCons v1 fun u0_2 v2=>cOwn 1002 u0_2 <| cCons v2 fun u0_3 v3=>cInt .i64 u0_3 fun p2=>cCons v3 fun u0_4 v4=>cInt .i64 u0_4 fun p3=>cNil v4 <| oRow 1002 73 ty73 o0 fun p4 o1=>oNilO o1 <| ob (c p0 p1 p2 p3 p4) (K5 k)
abbrev Sp77 (c:L106→Int→Int→Int→L73→Option (L106×Int×Int×Int×L73)):Prop:=∀ (p0:L106) (p1:Int) (p2:Int) (p3:Int) (p4:L73) (y:L106×Int×Int×Int×L73),c p0 p1 p2 p3 p4=some y→Spec Tryz.prog gl0 77 [.c (.ptr 0 0)] [(0,.box 103 [.list 106 ty106 p0,.int .i64 p1,.own 1002,.int .i64 p2,.int .i64 p3]),(1002,.row 73 ty73 p4)] (.tup []) [(0,.box 103 [.list 106 ty106 y.1,.int .i64 y.2.1,.own 1002,.int .i64 y.2.2.1,.int .i64 y.2.2.2.1]),(1002,.row 73 ty73 y.2.2.2.2)]
theorem ek77 {R:Type} {c:L106→Int→Int→Int→L73→Option (L106×Int×Int×Int×L73)} (hs:Sp77 c):EOk 77 (e77 (R:=R) c):=fun args objs k r h=>by
 unfold e77 at h
 obtain ⟨a0,l0,rfl,q1⟩:=qak h
 obtain ⟨x0,rfl,q2⟩:=qa5 q1
 obtain ⟨rfl,q3⟩:=qa3 q2
 obtain ⟨rfl,q4⟩:=qa2 q3
 obtain ⟨b0,o0,rfl,q5⟩:=qa4 q4
 obtain ⟨u0_0,v0,rfl,q6⟩:=qaa q5
 obtain ⟨p0,rfl,q7⟩:=qac q6
 obtain ⟨u0_1,v1,rfl,q8⟩:=qaa q7
 obtain ⟨p1,rfl,q9⟩:=qar q8
 obtain ⟨u0_2,v2,rfl,q10⟩:=qaa q9
 obtain ⟨rfl,q11⟩:=qa7 q10
 obtain ⟨u0_3,v3,rfl,q12⟩:=qaa q11
 obtain ⟨p2,rfl,q13⟩:=qar q12
 obtain ⟨u0_4,v4,rfl,q14⟩:=qaa q13
 obtain ⟨p3,rfl,q15⟩:=qar q14
 obtain ⟨rfl,q16⟩:=qaq q15
 obtain ⟨p4,o1,rfl,q17⟩:=qa8 q16
 obtain ⟨rfl,q18⟩:=qay q17
 exact qan (hs p0 p1 p2 p3 p4) q18
def X44:Aux:=⟨[(3,(rg 2 52))],[]⟩
inductive S44 where
 | l0 (v1:L106) (v2:Int) (v3:Int) (v4:Int) (v5:L73)
abbrev C77:Type:=L106→Int→Int→Int→L73→Option (L106×Int×Int×Int×L73)
abbrev C44:Type:=Int→L106→Int→Int→Int→L73→Option (L106×Int×Int×Int×L73)
abbrev C78:Type:=Int→L106→Int→Int→Int→L73→Option (Int×L106×Int×Int×Int×L73)
def T44 {R:Type} (B:Ops) (c77:C77) (c44:C44) (c78:C78) (p0:Int) (p1:L106) (p2:Int) (p3:Int) (p4:Int) (p5:L73) (again:S44→Option R) (k:(L106×Int×Int×Int×L73)→Option R):Option S44→Option R | none=>cond (B.lt (4) p0) (ob (c77 p1 p2 p3 p4 p5) fun y0=>k ((y0.1,y0.2.1,(y0.2.2).1,(y0.2.2.2).1,(y0.2.2.2).2))) (ob (c44 (IntKind.wrap .i64 (p0+1)) p1 p2 p3 p4 p5) fun y0=>again (.l0 y0.1 y0.2.1 ((y0.2.2).1) ((y0.2.2.2).1) ((y0.2.2.2).2))) | some (.l0 v1 v2 v3 v4 v5)=>cond (B.eq v3 (0)) (ob (c78 p0 v1 v2 v3 v4 v5) fun y0=>cond (B.eq y0.1 (0)) (k ((y0.2.1,(y0.2.2).1,(y0.2.2.2).1,((y0.2.2.2).2).1,((y0.2.2.2).2).2))) (cond (B.eq p0 (1)) (ob (c44 p0 y0.2.1 (IntKind.wrap .i64 ((y0.2.2).1+1)) ((y0.2.2.2).1) (((y0.2.2.2).2).1) (((y0.2.2.2).2).2)) fun y1=>cond (B.lim (List.length ((y1.2.2.2).2)+List.length ((y0.1,mt (Ty.den ty118))::mt (Ty.den ty73))) (32)) (again (.l0 y1.1 y1.2.1 ((y1.2.2).1) ((y1.2.2.2).1) ((y1.2.2.2).2++(y0.1,mt (Ty.den ty118))::mt (Ty.den ty73)))) none) (cond (B.eq p0 (4)) (ob (c44 p0 y0.2.1 (IntKind.wrap .i64 ((y0.2.2).1+1)) ((y0.2.2.2).1) (((y0.2.2.2).2).1) (((y0.2.2.2).2).2)) fun y1=>cond (B.lim (List.length ((y1.2.2.2).2)+List.length ((y0.1,mt (Ty.den ty118))::mt (Ty.den ty73))) (32)) (again (.l0 y1.1 y1.2.1 ((y1.2.2).1) ((y1.2.2.2).1) ((y1.2.2.2).2++(y0.1,mt (Ty.den ty118))::mt (Ty.den ty73)))) none) (ob (c44 (IntKind.wrap .i64 (p0+1)) y0.2.1 (IntKind.wrap .i64 ((y0.2.2).1+1)) ((y0.2.2.2).1) (((y0.2.2.2).2).1) (((y0.2.2.2).2).2)) fun y1=>cond (B.lim (List.length ((y1.2.2.2).2)+List.length ((y0.1,mt (Ty.den ty118))::mt (Ty.den ty73))) (32)) (again (.l0 y1.1 y1.2.1 ((y1.2.2).1) ((y1.2.2.2).1) ((y1.2.2.2).2++(y0.1,mt (Ty.den ty118))::mt (Ty.den ty73)))) none)))) (k ((v1,v2,v3,v4,v5)))
def E44 (p0:Int) (p1:L106) (p2:Int) (p3:Int) (p4:Int) (p5:L73):S44→List AV×Objs
 | .l0 v1 v2 v3 v4 v5=>(mk 54 [(0,.c (.ptr 0 0)),(1,.c (.int .i64 p0))],[(0,.box 103 [.list 106 ty106 v1,.int .i64 v2,.own 1002,.int .i64 v3,.int .i64 v4]),(1002,.row 73 ty73 v5)])
def I44:S44→Nat
 | .l0 _ _ _ _ _=>0
theorem eq44 {R:Type} (B:Ops) (c77:C77) (c44:C44) (c78:C78) (p0:Int) (p1:L106) (p2:Int) (p3:Int) (p4:Int) (p5:L73) (k:AV→Objs→Option R) (n:Nat):afun tau B gl0 X44 (ent 77 (e77 c77) (ent 44 (e44 c44) (ent 78 (e78 c78) gnil))) ow Tryz.f44 [.c (.ptr 0 0),.c (.int .i64 p0)] [(0,.box 103 [.list 106 ty106 p1,.int .i64 p2,.own 1002,.int .i64 p3,.int .i64 p4]),(1002,.row 73 ty73 p5)] k n=T44 B c77 c44 c78 p0 p1 p2 p3 p4 p5 (fun s=>aloop tau B gl0 X44 (ent 77 (e77 c77) (ent 44 (e44 c44) (ent 78 (e78 c78) gnil))) ow [0] Tryz.f44 k (I44 s) (E44 p0 p1 p2 p3 p4 p5 s) n) (K5 k) none:=by kernel_rfl
theorem el44 {R:Type} (B:Ops) (c77:C77) (c44:C44) (c78:C78) (p0:Int) (p1:L106) (p2:Int) (p3:Int) (p4:Int) (p5:L73) (k:AV→Objs→Option R) (n:Nat):∀ s,aloop tau B gl0 X44 (ent 77 (e77 c77) (ent 44 (e44 c44) (ent 78 (e78 c78) gnil))) ow [0] Tryz.f44 k (I44 s) (E44 p0 p1 p2 p3 p4 p5 s) (n+1)=T44 B c77 c44 c78 p0 p1 p2 p3 p4 p5 (fun s=>aloop tau B gl0 X44 (ent 77 (e77 c77) (ent 44 (e44 c44) (ent 78 (e78 c78) gnil))) ow [0] Tryz.f44 k (I44 s) (E44 p0 p1 p2 p3 p4 p5 s) n) (K5 k) (some s):=by
 intro s
 cases s<;>kernel_rfl
theorem nt44 {R R':Type} (B:Ops) (c77:C77) (c44:C44) (c78:C78) (p0:Int) (p1:L106) (p2:Int) (p3:Int) (p4:Int) (p5:L73) (again:S44→Option R) (again':S44→Option R') (k0:(L106×Int×Int×Int×L73)→Option R') (k:R'→Option R) (h:∀ s,again s=ob (again' s) k):∀ s,T44 B c77 c44 c78 p0 p1 p2 p3 p4 p5 again (fun y=>ob (k0 y) k) s=ob (T44 B c77 c44 c78 p0 p1 p2 p3 p4 p5 again' k0 s) k:=by
 rintro (_ | x)
 all_goals try cases x
 all_goals (unfold T44;repeat' first | exact rfl | exact h _ | apply qae | (apply qao;intro))
def R44 (c77:C77) (c44:C44) (c78:C78) (p0:Int) (p1:L106) (p2:Int) (p3:Int) (p4:Int) (p5:L73):Nat→S44→Option (L106×Int×Int×Int×L73)
 | 0,_=>none
 | n+1,s=>T44 Ops.std c77 c44 c78 p0 p1 p2 p3 p4 p5 (R44 c77 c44 c78 p0 p1 p2 p3 p4 p5 n) some (some s)
theorem rr44 {R:Type} (c77:C77) (c44:C44) (c78:C78) (p0:Int) (p1:L106) (p2:Int) (p3:Int) (p4:Int) (p5:L73) (k:AV→Objs→Option R):∀ (n:Nat) (s:S44),aloop tau Ops.std gl0 X44 (ent 77 (e77 c77) (ent 44 (e44 c44) (ent 78 (e78 c78) gnil))) ow [0] Tryz.f44 k (I44 s) (E44 p0 p1 p2 p3 p4 p5 s) n=ob (R44 c77 c44 c78 p0 p1 p2 p3 p4 p5 n s) (K5 k)
 | 0,s=>by cases s<;>rfl
 | n+1,s=>by rw [el44];exact nt44 Ops.std c77 c44 c78 p0 p1 p2 p3 p4 p5 _ _ some (K5 k) (rr44 c77 c44 c78 p0 p1 p2 p3 p4 p5 k n) (some s)
def F44 (c77:C77) (c44:C44) (c78:C78) (p0:Int) (p1:L106) (p2:Int) (p3:Int) (p4:Int) (p5:L73):Option (L106×Int×Int×Int×L73):=T44 Ops.std c77 c44 c78 p0 p1 p2 p3 p4 p5 (R44 c77 c44 c78 p0 p1 p2 p3 p4 p5 1000000) some none
theorem sf44 {c77:C77} {c44:C44} {c78:C78} (h77:Sp77 c77) (h44:Sp44 c44) (h78:Sp78 c78):Sp44 (F44 c77 c44 c78):=fun p0 p1 p2 p3 p4 p5 y hy=>by
 refine qai (qad (ek77 h77) (qad (ek44 h44) (qad (ek78 h78) qah))) 1000000 (fn:=Tryz.f44) (by kernel_rfl) (by kernel_rfl) (X:=X44) (by kernel_rfl) ?_
 rw [eq44]
 exact (nt44 Ops.std c77 c44 c78 p0 p1 p2 p3 p4 p5 _ _ some (K5 k0) (rr44 c77 c44 c78 p0 p1 p2 p3 p4 p5 k0 1000000) none).trans (by show ob (F44 c77 c44 c78 p0 p1 p2 p3 p4 p5) _=_;rw [hy];rfl)
def X77:Aux:=⟨[(1000011,([1]++rg 4 194)),(1000021,(rg 1 197)),(1000024,(rg 1 197)),(1000028,([1,2,3]++rg 5 193))],[(1,.lin (rg 0 12)),(28,.lin (rg 0 17))]⟩
inductive S77 where
 | l1011 (v0:Int) (v1:L106) (v2:Int) (v3:Int) (v4:Int) (v5:Int) (v6:LB) (v7:Int) (v8:Int) (v9:L73)
 | l1021 (v0:L106) (v1:Int) (v2:Int) (v3:Int) (v4:L73)
 | l1024 (v0:L106) (v1:Int) (v2:Int) (v3:Int) (v4:L73)
 | l1028 (v0:Int) (v1:L106) (v2:Int) (v3:Int) (v4:Int) (v5:L73)
abbrev C92:Type:=LB→L106→Int→Int→Int→L73→Option (L106×Int×Int×Int×L73)
abbrev C87:Type:=L106→Int→Option (Int×Int×L118)
def T77 {R:Type} (B:Ops) (c91:C91) (c77:C77) (c44:C44) (c92:C92) (c87:C87) (c45:C45) (p0:L106) (p1:Int) (p2:Int) (p3:Int) (p4:L73) (again:S77→Option R) (k:(L106×Int×Int×Int×L73)→Option R):Option S77→Option R | none=>cond (!B.eq p2 (0)) (k ((p0,p1,p2,p3,p4))) (cond (B.inb p1 p0.length) (ob (c91 ([33]:LB) p0 p1 p2 p3 p4) fun y0=>cond y0.1 (again (.l1011 4 y0.2.1 ((y0.2.2).1) ((y0.2.2.2).1) (((y0.2.2.2).2).1) ((p0.getD p1.toNat ty106.dflt).1) (((p0.getD p1.toNat ty106.dflt).2).1) ((((p0.getD p1.toNat ty106.dflt).2).2).1) ((((p0.getD p1.toNat ty106.dflt).2).2).2) (((y0.2.2.2).2).2))) (cond (B.eq ((p0.getD p1.toNat ty106.dflt).1) (3)) (cond (((p0.getD p1.toNat ty106.dflt).2).1 == ([88]:LB)) (again (.l1011 8 y0.2.1 ((y0.2.2).1) ((y0.2.2.2).1) (((y0.2.2.2).2).1) ((p0.getD p1.toNat ty106.dflt).1) (((p0.getD p1.toNat ty106.dflt).2).1) ((((p0.getD p1.toNat ty106.dflt).2).2).1) ((((p0.getD p1.toNat ty106.dflt).2).2).2) (((y0.2.2.2).2).2))) (cond (B.eq ((p0.getD p1.toNat ty106.dflt).1) (3)) (cond (((p0.getD p1.toNat ty106.dflt).2).1 == ([70]:LB)) (again (.l1011 11 y0.2.1 ((y0.2.2).1) ((y0.2.2.2).1) (((y0.2.2.2).2).1) ((p0.getD p1.toNat ty106.dflt).1) (((p0.getD p1.toNat ty106.dflt).2).1) ((((p0.getD p1.toNat ty106.dflt).2).2).1) ((((p0.getD p1.toNat ty106.dflt).2).2).2) (((y0.2.2.2).2).2))) (cond (B.eq ((p0.getD p1.toNat ty106.dflt).1) (3)) (cond (((p0.getD p1.toNat ty106.dflt).2).1 == ([71]:LB)) (again (.l1011 12 y0.2.1 ((y0.2.2).1) ((y0.2.2.2).1) (((y0.2.2.2).2).1) ((p0.getD p1.toNat ty106.dflt).1) (((p0.getD p1.toNat ty106.dflt).2).1) ((((p0.getD p1.toNat ty106.dflt).2).2).1) ((((p0.getD p1.toNat ty106.dflt).2).2).2) (((y0.2.2.2).2).2))) (again (.l1011 0 y0.2.1 ((y0.2.2).1) ((y0.2.2.2).1) (((y0.2.2.2).2).1) ((p0.getD p1.toNat ty106.dflt).1) (((p0.getD p1.toNat ty106.dflt).2).1) ((((p0.getD p1.toNat ty106.dflt).2).2).1) ((((p0.getD p1.toNat ty106.dflt).2).2).2) (((y0.2.2.2).2).2)))) (again (.l1011 0 y0.2.1 ((y0.2.2).1) ((y0.2.2.2).1) (((y0.2.2.2).2).1) ((p0.getD p1.toNat ty106.dflt).1) (((p0.getD p1.toNat ty106.dflt).2).1) ((((p0.getD p1.toNat ty106.dflt).2).2).1) ((((p0.getD p1.toNat ty106.dflt).2).2).2) (((y0.2.2.2).2).2))))) (cond (B.eq ((p0.getD p1.toNat ty106.dflt).1) (3)) (cond (((p0.getD p1.toNat ty106.dflt).2).1 == ([71]:LB)) (again (.l1011 12 y0.2.1 ((y0.2.2).1) ((y0.2.2.2).1) (((y0.2.2.2).2).1) ((p0.getD p1.toNat ty106.dflt).1) (((p0.getD p1.toNat ty106.dflt).2).1) ((((p0.getD p1.toNat ty106.dflt).2).2).1) ((((p0.getD p1.toNat ty106.dflt).2).2).2) (((y0.2.2.2).2).2))) (again (.l1011 0 y0.2.1 ((y0.2.2).1) ((y0.2.2.2).1) (((y0.2.2.2).2).1) ((p0.getD p1.toNat ty106.dflt).1) (((p0.getD p1.toNat ty106.dflt).2).1) ((((p0.getD p1.toNat ty106.dflt).2).2).1) ((((p0.getD p1.toNat ty106.dflt).2).2).2) (((y0.2.2.2).2).2)))) (again (.l1011 0 y0.2.1 ((y0.2.2).1) ((y0.2.2.2).1) (((y0.2.2.2).2).1) ((p0.getD p1.toNat ty106.dflt).1) (((p0.getD p1.toNat ty106.dflt).2).1) ((((p0.getD p1.toNat ty106.dflt).2).2).1) ((((p0.getD p1.toNat ty106.dflt).2).2).2) (((y0.2.2.2).2).2)))))) (cond (B.eq ((p0.getD p1.toNat ty106.dflt).1) (3)) (cond (((p0.getD p1.toNat ty106.dflt).2).1 == ([70]:LB)) (again (.l1011 11 y0.2.1 ((y0.2.2).1) ((y0.2.2.2).1) (((y0.2.2.2).2).1) ((p0.getD p1.toNat ty106.dflt).1) (((p0.getD p1.toNat ty106.dflt).2).1) ((((p0.getD p1.toNat ty106.dflt).2).2).1) ((((p0.getD p1.toNat ty106.dflt).2).2).2) (((y0.2.2.2).2).2))) (cond (B.eq ((p0.getD p1.toNat ty106.dflt).1) (3)) (cond (((p0.getD p1.toNat ty106.dflt).2).1 == ([71]:LB)) (again (.l1011 12 y0.2.1 ((y0.2.2).1) ((y0.2.2.2).1) (((y0.2.2.2).2).1) ((p0.getD p1.toNat ty106.dflt).1) (((p0.getD p1.toNat ty106.dflt).2).1) ((((p0.getD p1.toNat ty106.dflt).2).2).1) ((((p0.getD p1.toNat ty106.dflt).2).2).2) (((y0.2.2.2).2).2))) (again (.l1011 0 y0.2.1 ((y0.2.2).1) ((y0.2.2.2).1) (((y0.2.2.2).2).1) ((p0.getD p1.toNat ty106.dflt).1) (((p0.getD p1.toNat ty106.dflt).2).1) ((((p0.getD p1.toNat ty106.dflt).2).2).1) ((((p0.getD p1.toNat ty106.dflt).2).2).2) (((y0.2.2.2).2).2)))) (again (.l1011 0 y0.2.1 ((y0.2.2).1) ((y0.2.2.2).1) (((y0.2.2.2).2).1) ((p0.getD p1.toNat ty106.dflt).1) (((p0.getD p1.toNat ty106.dflt).2).1) ((((p0.getD p1.toNat ty106.dflt).2).2).1) ((((p0.getD p1.toNat ty106.dflt).2).2).2) (((y0.2.2.2).2).2))))) (cond (B.eq ((p0.getD p1.toNat ty106.dflt).1) (3)) (cond (((p0.getD p1.toNat ty106.dflt).2).1 == ([71]:LB)) (again (.l1011 12 y0.2.1 ((y0.2.2).1) ((y0.2.2.2).1) (((y0.2.2.2).2).1) ((p0.getD p1.toNat ty106.dflt).1) (((p0.getD p1.toNat ty106.dflt).2).1) ((((p0.getD p1.toNat ty106.dflt).2).2).1) ((((p0.getD p1.toNat ty106.dflt).2).2).2) (((y0.2.2.2).2).2))) (again (.l1011 0 y0.2.1 ((y0.2.2).1) ((y0.2.2.2).1) (((y0.2.2.2).2).1) ((p0.getD p1.toNat ty106.dflt).1) (((p0.getD p1.toNat ty106.dflt).2).1) ((((p0.getD p1.toNat ty106.dflt).2).2).1) ((((p0.getD p1.toNat ty106.dflt).2).2).2) (((y0.2.2.2).2).2)))) (again (.l1011 0 y0.2.1 ((y0.2.2).1) ((y0.2.2.2).1) (((y0.2.2.2).2).1) ((p0.getD p1.toNat ty106.dflt).1) (((p0.getD p1.toNat ty106.dflt).2).1) ((((p0.getD p1.toNat ty106.dflt).2).2).1) ((((p0.getD p1.toNat ty106.dflt).2).2).2) (((y0.2.2.2).2).2))))))) none) | some (.l1011 v0 v1 v2 v3 v4 v5 v6 v7 v8 v9)=>cond (!B.eq v0 (0)) (ob (c77 v1 (IntKind.wrap .i64 (v2+1)) v3 v4 v9) fun y0=>cond (B.lim (List.length ((y0.2.2.2).2)+List.length ((v0,mt (Ty.den ty118))::mt (Ty.den ty73))) (32)) (k ((y0.1,y0.2.1,(y0.2.2).1,(y0.2.2.2).1,(y0.2.2.2).2++(v0,mt (Ty.den ty118))::mt (Ty.den ty73)))) none) (cond (B.eq v5 (2)) (cond (v6 == ([116,114,117,101]:LB)) (cond (B.lim (List.length v9+List.length ((1,mt (Ty.den ty118))::mt (Ty.den ty73))) (32)) (k ((v1,IntKind.wrap .i64 (v2+1),v3,v4,v9++(1,mt (Ty.den ty118))::mt (Ty.den ty73)))) none) (cond (B.eq v5 (2)) (cond (v6 == ([102,97,108,115,101]:LB)) (again (.l1021 v1 (IntKind.wrap .i64 (v2+1)) v3 v4 v9)) (ob (c91 ([40]:LB) v1 v2 v3 v4 v9) fun y0=>cond y0.1 (again (.l1024 y0.2.1 (IntKind.wrap .i64 ((y0.2.2).1+1)) ((y0.2.2.2).1) (((y0.2.2.2).2).1) (((y0.2.2.2).2).2))) (ob (c91 ([91]:LB) y0.2.1 ((y0.2.2).1) ((y0.2.2.2).1) (((y0.2.2.2).2).1) (((y0.2.2.2).2).2)) fun y1=>cond y1.1 (again (.l1028 ((y1.2.2).1) y1.2.1 ((y1.2.2).1) ((y1.2.2.2).1) (((y1.2.2.2).2).1) (((y1.2.2.2).2).2))) (ob (c45 (2) ((y1.2.2).1) y1.2.1 ((y1.2.2).1) ((y1.2.2.2).1) (((y1.2.2.2).2).1) (((y1.2.2.2).2).2)) fun y2=>k ((y2.1,y2.2.1,(y2.2.2).1,(y2.2.2.2).1,(y2.2.2.2).2)))))) (ob (c91 ([40]:LB) v1 v2 v3 v4 v9) fun y0=>cond y0.1 (again (.l1024 y0.2.1 (IntKind.wrap .i64 ((y0.2.2).1+1)) ((y0.2.2.2).1) (((y0.2.2.2).2).1) (((y0.2.2.2).2).2))) (ob (c91 ([91]:LB) y0.2.1 ((y0.2.2).1) ((y0.2.2.2).1) (((y0.2.2.2).2).1) (((y0.2.2.2).2).2)) fun y1=>cond y1.1 (again (.l1028 ((y1.2.2).1) y1.2.1 ((y1.2.2).1) ((y1.2.2.2).1) (((y1.2.2.2).2).1) (((y1.2.2.2).2).2))) (ob (c45 (2) ((y1.2.2).1) y1.2.1 ((y1.2.2).1) ((y1.2.2.2).1) (((y1.2.2.2).2).1) (((y1.2.2.2).2).2)) fun y2=>k ((y2.1,y2.2.1,(y2.2.2).1,(y2.2.2.2).1,(y2.2.2.2).2))))))) (cond (B.eq v5 (2)) (cond (v6 == ([102,97,108,115,101]:LB)) (again (.l1021 v1 (IntKind.wrap .i64 (v2+1)) v3 v4 v9)) (ob (c91 ([40]:LB) v1 v2 v3 v4 v9) fun y0=>cond y0.1 (again (.l1024 y0.2.1 (IntKind.wrap .i64 ((y0.2.2).1+1)) ((y0.2.2.2).1) (((y0.2.2.2).2).1) (((y0.2.2.2).2).2))) (ob (c91 ([91]:LB) y0.2.1 ((y0.2.2).1) ((y0.2.2.2).1) (((y0.2.2.2).2).1) (((y0.2.2.2).2).2)) fun y1=>cond y1.1 (again (.l1028 ((y1.2.2).1) y1.2.1 ((y1.2.2).1) ((y1.2.2.2).1) (((y1.2.2.2).2).1) (((y1.2.2.2).2).2))) (ob (c45 (2) ((y1.2.2).1) y1.2.1 ((y1.2.2).1) ((y1.2.2.2).1) (((y1.2.2.2).2).1) (((y1.2.2.2).2).2)) fun y2=>k ((y2.1,y2.2.1,(y2.2.2).1,(y2.2.2.2).1,(y2.2.2.2).2)))))) (ob (c91 ([40]:LB) v1 v2 v3 v4 v9) fun y0=>cond y0.1 (again (.l1024 y0.2.1 (IntKind.wrap .i64 ((y0.2.2).1+1)) ((y0.2.2.2).1) (((y0.2.2.2).2).1) (((y0.2.2.2).2).2))) (ob (c91 ([91]:LB) y0.2.1 ((y0.2.2).1) ((y0.2.2.2).1) (((y0.2.2.2).2).1) (((y0.2.2.2).2).2)) fun y1=>cond y1.1 (again (.l1028 ((y1.2.2).1) y1.2.1 ((y1.2.2).1) ((y1.2.2.2).1) (((y1.2.2.2).2).1) (((y1.2.2.2).2).2))) (ob (c45 (2) ((y1.2.2).1) y1.2.1 ((y1.2.2).1) ((y1.2.2.2).1) (((y1.2.2.2).2).1) (((y1.2.2.2).2).2)) fun y2=>k ((y2.1,y2.2.1,(y2.2.2).1,(y2.2.2.2).1,(y2.2.2.2).2))))))) | some (.l1021 v0 v1 v2 v3 v4)=>cond (B.lim (List.length v4+List.length ((2,mt (Ty.den ty118))::mt (Ty.den ty73))) (32)) (k ((v0,v1,v2,v3,v4++(2,mt (Ty.den ty118))::mt (Ty.den ty73)))) none | some (.l1024 v0 v1 v2 v3 v4)=>ob (c44 (1) v0 v1 v2 v3 v4) fun y0=>ob (c92 ([41]:LB) y0.1 y0.2.1 ((y0.2.2).1) ((y0.2.2.2).1) ((y0.2.2.2).2)) fun y1=>k ((y1.1,y1.2.1,(y1.2.2).1,(y1.2.2.2).1,(y1.2.2.2).2)) | some (.l1028 v0 v1 v2 v3 v4 v5)=>ob (c87 v1 (IntKind.wrap .i64 (v2+1))) fun y0=>cond (B.eq y0.2.1 (13)) (ob (c45 y0.2.1 v0 v1 v2 v3 v4 v5) fun y1=>k ((y1.1,y1.2.1,(y1.2.2).1,(y1.2.2.2).1,(y1.2.2.2).2))) (cond (B.eq y0.2.1 (2)) (ob (c45 y0.2.1 y0.1 v1 v2 v3 v4 v5) fun y1=>k ((y1.1,y1.2.1,(y1.2.2).1,(y1.2.2.2).1,(y1.2.2.2).2))) (cond (B.lim (List.length v5+List.length ((3,y0.2.2)::mt (Ty.den ty73))) (32)) (ob (c92 ([93]:LB) v1 y0.1 v3 v4 (v5++(3,y0.2.2)::mt (Ty.den ty73))) fun y1=>k ((y1.1,y1.2.1,(y1.2.2).1,(y1.2.2.2).1,(y1.2.2.2).2))) none))
def E77 (p0:L106) (p1:Int) (p2:Int) (p3:Int) (p4:L73):S77→List AV×Objs
 | .l1011 v0 v1 v2 v3 v4 v5 v6 v7 v8 v9=>(mk 198 [(0,.c (.ptr 0 0)),(2,.c (.ptr 2 0)),(3,.c (.int .i64 v0))],[(0,.box 103 [.list 106 ty106 v1,.int .i64 v2,.own 1002,.int .i64 v3,.int .i64 v4]),(2,.box 106 [.int .i64 v5,.str v6,.int .i64 v7,.int .i64 v8]),(1002,.row 73 ty73 v9)])
 | .l1021 v0 v1 v2 v3 v4=>(mk 198 [(0,.c (.ptr 0 0))],[(0,.box 103 [.list 106 ty106 v0,.int .i64 v1,.own 1002,.int .i64 v2,.int .i64 v3]),(1002,.row 73 ty73 v4)])
 | .l1024 v0 v1 v2 v3 v4=>(mk 198 [(0,.c (.ptr 0 0))],[(0,.box 103 [.list 106 ty106 v0,.int .i64 v1,.own 1002,.int .i64 v2,.int .i64 v3]),(1002,.row 73 ty73 v4)])
 | .l1028 v0 v1 v2 v3 v4 v5=>(mk 198 [(0,.c (.ptr 0 0)),(4,.c (.int .i64 v0))],[(0,.box 103 [.list 106 ty106 v1,.int .i64 v2,.own 1002,.int .i64 v3,.int .i64 v4]),(1002,.row 73 ty73 v5)])
def I77:S77→Nat
 | .l1011 _ _ _ _ _ _ _ _ _ _=>1011
 | .l1021 _ _ _ _ _=>1021
 | .l1024 _ _ _ _ _=>1024
 | .l1028 _ _ _ _ _ _=>1028
theorem eq77 {R:Type} (B:Ops) (c91:C91) (c77:C77) (c44:C44) (c92:C92) (c87:C87) (c45:C45) (p0:L106) (p1:Int) (p2:Int) (p3:Int) (p4:L73) (k:AV→Objs→Option R) (n:Nat):afun tau B gl0 X77 (ent 91 (e91 c91) (ent 77 (e77 c77) (ent 44 (e44 c44) (ent 92 (e92 c92) (ent 87 (e87 c87) (ent 45 (e45 c45) gnil)))))) ow Tryz.f77 [.c (.ptr 0 0)] [(0,.box 103 [.list 106 ty106 p0,.int .i64 p1,.own 1002,.int .i64 p2,.int .i64 p3]),(1002,.row 73 ty73 p4)] k n=T77 B c91 c77 c44 c92 c87 c45 p0 p1 p2 p3 p4 (fun s=>aloop tau B gl0 X77 (ent 91 (e91 c91) (ent 77 (e77 c77) (ent 44 (e44 c44) (ent 92 (e92 c92) (ent 87 (e87 c87) (ent 45 (e45 c45) gnil)))))) ow [0] Tryz.f77 k (I77 s) (E77 p0 p1 p2 p3 p4 s) n) (K5 k) none:=by kernel_rfl
theorem el77 {R:Type} (B:Ops) (c91:C91) (c77:C77) (c44:C44) (c92:C92) (c87:C87) (c45:C45) (p0:L106) (p1:Int) (p2:Int) (p3:Int) (p4:L73) (k:AV→Objs→Option R) (n:Nat):∀ s,aloop tau B gl0 X77 (ent 91 (e91 c91) (ent 77 (e77 c77) (ent 44 (e44 c44) (ent 92 (e92 c92) (ent 87 (e87 c87) (ent 45 (e45 c45) gnil)))))) ow [0] Tryz.f77 k (I77 s) (E77 p0 p1 p2 p3 p4 s) (n+1)=T77 B c91 c77 c44 c92 c87 c45 p0 p1 p2 p3 p4 (fun s=>aloop tau B gl0 X77 (ent 91 (e91 c91) (ent 77 (e77 c77) (ent 44 (e44 c44) (ent 92 (e92 c92) (ent 87 (e87 c87) (ent 45 (e45 c45) gnil)))))) ow [0] Tryz.f77 k (I77 s) (E77 p0 p1 p2 p3 p4 s) n) (K5 k) (some s):=by
 intro s
 cases s<;>kernel_rfl
theorem nt77 {R R':Type} (B:Ops) (c91:C91) (c77:C77) (c44:C44) (c92:C92) (c87:C87) (c45:C45) (p0:L106) (p1:Int) (p2:Int) (p3:Int) (p4:L73) (again:S77→Option R) (again':S77→Option R') (k0:(L106×Int×Int×Int×L73)→Option R') (k:R'→Option R) (h:∀ s,again s=ob (again' s) k):∀ s,T77 B c91 c77 c44 c92 c87 c45 p0 p1 p2 p3 p4 again (fun y=>ob (k0 y) k) s=ob (T77 B c91 c77 c44 c92 c87 c45 p0 p1 p2 p3 p4 again' k0 s) k:=by
 rintro (_ | x)
 all_goals try cases x
 all_goals (unfold T77;repeat' first | exact rfl | exact h _ | apply qae | (apply qao;intro))
def R77 (c91:C91) (c77:C77) (c44:C44) (c92:C92) (c87:C87) (c45:C45) (p0:L106) (p1:Int) (p2:Int) (p3:Int) (p4:L73):Nat→S77→Option (L106×Int×Int×Int×L73)
 | 0,_=>none
 | n+1,s=>T77 Ops.std c91 c77 c44 c92 c87 c45 p0 p1 p2 p3 p4 (R77 c91 c77 c44 c92 c87 c45 p0 p1 p2 p3 p4 n) some (some s)
theorem rr77 {R:Type} (c91:C91) (c77:C77) (c44:C44) (c92:C92) (c87:C87) (c45:C45) (p0:L106) (p1:Int) (p2:Int) (p3:Int) (p4:L73) (k:AV→Objs→Option R):∀ (n:Nat) (s:S77),aloop tau Ops.std gl0 X77 (ent 91 (e91 c91) (ent 77 (e77 c77) (ent 44 (e44 c44) (ent 92 (e92 c92) (ent 87 (e87 c87) (ent 45 (e45 c45) gnil)))))) ow [0] Tryz.f77 k (I77 s) (E77 p0 p1 p2 p3 p4 s) n=ob (R77 c91 c77 c44 c92 c87 c45 p0 p1 p2 p3 p4 n s) (K5 k)
 | 0,s=>by cases s<;>rfl
 | n+1,s=>by rw [el77];exact nt77 Ops.std c91 c77 c44 c92 c87 c45 p0 p1 p2 p3 p4 _ _ some (K5 k) (rr77 c91 c77 c44 c92 c87 c45 p0 p1 p2 p3 p4 k n) (some s)
def F77 (c91:C91) (c77:C77) (c44:C44) (c92:C92) (c87:C87) (c45:C45) (p0:L106) (p1:Int) (p2:Int) (p3:Int) (p4:L73):Option (L106×Int×Int×Int×L73):=T77 Ops.std c91 c77 c44 c92 c87 c45 p0 p1 p2 p3 p4 (R77 c91 c77 c44 c92 c87 c45 p0 p1 p2 p3 p4 1000000) some none
theorem sf77 {c91:C91} {c77:C77} {c44:C44} {c92:C92} {c87:C87} {c45:C45} (h91:Sp91 c91) (h77:Sp77 c77) (h44:Sp44 c44) (h92:Sp92 c92) (h87:Sp87 c87) (h45:Sp45 c45):Sp77 (F77 c91 c77 c44 c92 c87 c45):=fun p0 p1 p2 p3 p4 y hy=>by
 refine qai (qad (ek91 h91) (qad (ek77 h77) (qad (ek44 h44) (qad (ek92 h92) (qad (ek87 h87) (qad (ek45 h45) qah)))))) 1000000 (fn:=Tryz.f77) (by kernel_rfl) (by kernel_rfl) (X:=X77) (by kernel_rfl) ?_
 rw [eq77]
 exact (nt77 Ops.std c91 c77 c44 c92 c87 c45 p0 p1 p2 p3 p4 _ _ some (K5 k0) (rr77 c91 c77 c44 c92 c87 c45 p0 p1 p2 p3 p4 k0 1000000) none).trans (by show ob (F77 c91 c77 c44 c92 c87 c45 p0 p1 p2 p3 p4) _=_;rw [hy];rfl)
end Go.Proofs.YtfdlgmbbflmbgaaGreatDoor.Av
