/- Twins of functions,printed by gen.py. Conditions: none. -/
import Derived.Test.YtkmpkebaloejhaaGreatDoorFr3
import Derived.KernelRfl
set_option linter.unusedSimpArgs false
set_option linter.unusedVariables false
set_option maxRecDepth 100000
set_option maxHeartbeats 8000000
namespace Go.Proofs.YtkmpkebaloejhaaGreatDoor.Av
open Go
def X18:Aux:=⟨[(5,([1,2,3,4]++rg 7 144)),(17,([1,2,3,4]++rg 9 142)),(25,([1,2,3,4]++rg 9 142)),(1000020,([1,2,3,4]++rg 9 142)),(1000026,([1,2,3,4]++rg 9 142)),(1000027,([1,2,3,4]++rg 9 142)),(1000031,([1,2,3,4,7]++rg 9 142)),(1000010,([1,2,3,4,7]++rg 9 142)),(1000032,([1,2,3,4]++rg 9 142))],[(19,.lin (rg 0 13))]⟩
inductive S18 where
 | l0 (v1:Int) (v2:L52)
 | l1 (v1 v2:Int) (v3:L52) (v6 v7:Int)
 | l2 (v1 v2:Int) (v3:L52) (v7:Int)
 | l1010 (v1:Int) (v2:L52) (v6:Int)
 | l1020 (v1 v2:Int) (v3:L52) (v6 v7:Int)
 | l1026 (v1 v2:Int) (v3:L52) (v7:Int)
 | l1027 (v1 v2:Int) (v3:L52) (v7:Int)
 | l1031 (v1:Int) (v2:L52) (v6:Int)
 | l1032 (v1 v2:Int) (v3:L52) (v4 v6 v7:Int)
def T18 {R:Type} (B:Ops) (c45:C45) (c46:C46) (c47:C47) (p0:LB) (again:S18→Option R) (k:(Int×Int×L52)→Option R):Option S18→Option R | none=>cond (B.lt 60000 (↑p0.length)) (k ((14,0,mt (Ty.den ty52)))) (again (.l0 0 (mt (Ty.den ty52)))) | some (.l0 v1 v2)=>cond (B.lt v1 (↑p0.length)) (cond (B.inb v1 p0.length) (cond (B.eq (Nat.cast (UInt8.toNat (p0.getD v1.toNat 0))) 32) (again (.l0 (IntKind.wrap .i64 (v1+1)) v2)) (cond (B.eq (Nat.cast (UInt8.toNat (p0.getD v1.toNat 0))) 9) (again (.l0 (IntKind.wrap .i64 (v1+1)) v2)) (cond (B.eq (Nat.cast (UInt8.toNat (p0.getD v1.toNat 0))) 10) (again (.l0 (IntKind.wrap .i64 (v1+1)) v2)) (ob (c45 (Nat.cast (UInt8.toNat (p0.getD v1.toNat 0)))) fun y0=>cond (y0) (again (.l1 v1 0 v2 0 v1)) (ob (c46 (Nat.cast (UInt8.toNat (p0.getD v1.toNat 0)))) fun y1=>cond (y1) (again (.l2 v1 0 v2 v1)) (cond (B.eq (Nat.cast (UInt8.toNat (p0.getD v1.toNat 0))) 88) (again (.l1031 v1 v2 v1)) (cond (B.eq (Nat.cast (UInt8.toNat (p0.getD v1.toNat 0))) 70) (again (.l1031 v1 v2 v1)) (cond (B.eq (Nat.cast (UInt8.toNat (p0.getD v1.toNat 0))) 71) (again (.l1031 v1 v2 v1)) (cond (B.eq (Nat.cast (UInt8.toNat (p0.getD v1.toNat 0))) 85) (again (.l1031 v1 v2 v1)) (cond (B.eq (Nat.cast (UInt8.toNat (p0.getD v1.toNat 0))) 82) (again (.l1031 v1 v2 v1)) (again (.l1010 v1 v2 v1)))))))))))) none) (cond (B.lim (List.length v2+List.length ((5,mt UInt8,0,v1)::mt (Ty.den ty52))) 40) (k ((0,0,v2++(5,mt UInt8,0,v1)::mt (Ty.den ty52)))) none) | some (.l1 v1 v2 v3 v6 v7)=>cond (B.lt (IntKind.wrap .i64 (v1+v2)) (↑p0.length)) (cond (B.inb (IntKind.wrap .i64 (v1+v2)) p0.length) (ob (c45 (Nat.cast (UInt8.toNat (p0.getD (Int.toNat (IntKind.wrap .i64 (v1+v2))) 0)))) fun y0=>cond (y0) (cond (B.lt v2 3) (cond (B.inb (IntKind.wrap .i64 (v1+v2)) p0.length) (again (.l1020 v1 v2 v3 (IntKind.wrap .i64 (IntKind.wrap .i64 (10*v6)+IntKind.wrap .i64 (IntKind.wrap IntKind.u8 (Nat.cast (UInt8.toNat (p0.getD (Int.toNat (IntKind.wrap .i64 (v1+v2))) 0))-48)))) v7)) none) (again (.l1020 v1 v2 v3 v6 v7))) (cond (B.lt 3 v2) (k ((2,v1,mt (Ty.den ty52)))) (again (.l1032 v1 v2 v3 1 v6 v7)))) none) (cond (B.lt 3 v2) (k ((2,v1,mt (Ty.den ty52)))) (again (.l1032 v1 v2 v3 1 v6 v7))) | some (.l2 v1 v2 v3 v7)=>cond (B.lt (IntKind.wrap .i64 (v1+v2)) (↑p0.length)) (cond (B.inb (IntKind.wrap .i64 (v1+v2)) p0.length) (ob (c46 (Nat.cast (UInt8.toNat (p0.getD (Int.toNat (IntKind.wrap .i64 (v1+v2))) 0)))) fun y0=>cond (y0) (again (.l1026 v1 v2 v3 v7)) (cond (B.inb (IntKind.wrap .i64 (v1+v2)) p0.length) (ob (c45 (Nat.cast (UInt8.toNat (p0.getD (Int.toNat (IntKind.wrap .i64 (v1+v2))) 0)))) fun y1=>cond (y1) (again (.l1026 v1 v2 v3 v7)) (again (.l1027 v1 v2 v3 v7))) none)) none) (again (.l1027 v1 v2 v3 v7)) | some (.l1010 v1 v2 v6)=>cond (B.inb v1 (List.length p0+1)) (ob (c47 (List.drop v1.toNat (List.take p0.length p0))) fun y0=>cond (B.eq (↑y0.length) 0) (k ((2,v1,mt (Ty.den ty52)))) (again (.l1032 v1 (↑y0.length) v2 4 0 v6))) none | some (.l1020 v1 v2 v3 v6 v7)=>again (.l1 v1 (IntKind.wrap .i64 (v2+1)) v3 v6 v7) | some (.l1026 v1 v2 v3 v7)=>again (.l2 v1 (IntKind.wrap .i64 (v2+1)) v3 v7) | some (.l1027 v1 v2 v3 v7)=>cond (B.lt 8 v2) (k ((2,v1,mt (Ty.den ty52)))) (again (.l1032 v1 v2 v3 2 0 v7)) | some (.l1031 v1 v2 v6)=>again (.l1032 v1 1 v2 3 0 v6) | some (.l1032 v1 v2 v3 v4 v6 v7)=>cond (B.inb (IntKind.wrap .i64 (v1+v2)) (List.length p0+1)) (cond (bif B.le 0 v1 then B.le v1 (IntKind.wrap .i64 (v1+v2)) else false) (cond (B.lim (List.length v3+List.length ((v4,List.drop v1.toNat (List.take (Int.toNat (IntKind.wrap .i64 (v1+v2))) p0),v6,v7)::mt (Ty.den ty52))) 40) (again (.l0 (IntKind.wrap .i64 (v1+v2)) (v3++(v4,List.drop v1.toNat (List.take (Int.toNat (IntKind.wrap .i64 (v1+v2))) p0),v6,v7)::mt (Ty.den ty52)))) none) none) none
def E18 (p0:LB):S18→List AV×Objs
 | .l0 v1 v2=>(mk 151 [(0,.c (.str p0)),(5,.c (.own 5)),(6,.c (.int .i64 v1))],[(5,.row 52 ty52 v2)])
 | .l1 v1 v2 v3 v6 v7=>(mk 151 [(0,.c (.str p0)),(5,.c (.own 5)),(6,.c (.int .i64 v1)),(7,.c (.int .i64 v2)),(8,.c (.ptr 8 0))],[(5,.row 52 ty52 v3),(8,.box 52 [.int .i64 1,.str (mt UInt8),.int .i64 v6,.int .i64 v7])])
 | .l2 v1 v2 v3 v7=>(mk 151 [(0,.c (.str p0)),(5,.c (.own 5)),(6,.c (.int .i64 v1)),(7,.c (.int .i64 v2)),(8,.c (.ptr 8 0))],[(5,.row 52 ty52 v3),(8,.box 52 [.int .i64 2,.str (mt UInt8),.int .i64 0,.int .i64 v7])])
 | .l1010 v1 v2 v6=>(mk 151 [(0,.c (.str p0)),(5,.c (.own 5)),(6,.c (.int .i64 v1)),(8,.c (.ptr 8 0))],[(5,.row 52 ty52 v2),(8,.box 52 [.int .i64 4,.str (mt UInt8),.int .i64 0,.int .i64 v6])])
 | .l1020 v1 v2 v3 v6 v7=>(mk 151 [(0,.c (.str p0)),(5,.c (.own 5)),(6,.c (.int .i64 v1)),(7,.c (.int .i64 v2)),(8,.c (.ptr 8 0))],[(5,.row 52 ty52 v3),(8,.box 52 [.int .i64 1,.str (mt UInt8),.int .i64 v6,.int .i64 v7])])
 | .l1026 v1 v2 v3 v7=>(mk 151 [(0,.c (.str p0)),(5,.c (.own 5)),(6,.c (.int .i64 v1)),(7,.c (.int .i64 v2)),(8,.c (.ptr 8 0))],[(5,.row 52 ty52 v3),(8,.box 52 [.int .i64 2,.str (mt UInt8),.int .i64 0,.int .i64 v7])])
 | .l1027 v1 v2 v3 v7=>(mk 151 [(0,.c (.str p0)),(5,.c (.own 5)),(6,.c (.int .i64 v1)),(7,.c (.int .i64 v2)),(8,.c (.ptr 8 0))],[(5,.row 52 ty52 v3),(8,.box 52 [.int .i64 2,.str (mt UInt8),.int .i64 0,.int .i64 v7])])
 | .l1031 v1 v2 v6=>(mk 151 [(0,.c (.str p0)),(5,.c (.own 5)),(6,.c (.int .i64 v1)),(8,.c (.ptr 8 0))],[(5,.row 52 ty52 v2),(8,.box 52 [.int .i64 3,.str (mt UInt8),.int .i64 0,.int .i64 v6])])
 | .l1032 v1 v2 v3 v4 v6 v7=>(mk 151 [(0,.c (.str p0)),(5,.c (.own 5)),(6,.c (.int .i64 v1)),(7,.c (.int .i64 v2)),(8,.c (.ptr 8 0))],[(5,.row 52 ty52 v3),(8,.box 52 [.int .i64 v4,.str (mt UInt8),.int .i64 v6,.int .i64 v7])])
def I18:S18→Nat
 | .l0 _ _=>0
 | .l1 _ _ _ _ _=>1
 | .l2 _ _ _ _=>2
 | .l1010 _ _ _=>1010
 | .l1020 _ _ _ _ _=>1020
 | .l1026 _ _ _ _=>1026
 | .l1027 _ _ _ _=>1027
 | .l1031 _ _ _=>1031
 | .l1032 _ _ _ _ _ _=>1032
noncomputable abbrev A18 {R:Type} (B:Ops) (c45:C45) (c46:C46) (c47:C47) (p0:LB) (k:AV→Objs→Option R) (s:S18) (n:Nat):Option R:=aloop tau B gl0 X18 (ent 45 (e45 c45) (ent 46 (e46 c46) (ent 47 (e47 c47) gnil))) ow [] Tryz.f18 k (I18 s) (E18 p0 s) n
theorem eq18 {R:Type} (B:Ops) (c45:C45) (c46:C46) (c47:C47) (p0:LB) (k:AV→Objs→Option R) (n:Nat):afun tau B gl0 X18 (ent 45 (e45 c45) (ent 46 (e46 c46) (ent 47 (e47 c47) gnil))) ow Tryz.f18 [.c (.str p0)] [] k n=T18 B c45 c46 c47 p0 (fun s=>A18 B c45 c46 c47 p0 k s n) (K17 k) none:=by kernel_rfl
theorem el18 {R:Type} (B:Ops) (c45:C45) (c46:C46) (c47:C47) (p0:LB) (k:AV→Objs→Option R) (n:Nat):∀ s,A18 B c45 c46 c47 p0 k s (n+1)=T18 B c45 c46 c47 p0 (fun s=>A18 B c45 c46 c47 p0 k s n) (K17 k) (some s):=by
 intro s
 cases s<;>kernel_rfl
theorem nt18 {R R':Type} (B:Ops) (c45:C45) (c46:C46) (c47:C47) (p0:LB) (again:S18→Option R) (again':S18→Option R') (k0:(Int×Int×L52)→Option R') (k:R'→Option R) (h:∀ s,again s=ob (again' s) k):∀ s,T18 B c45 c46 c47 p0 again (fun y=>ob (k0 y) k) s=ob (T18 B c45 c46 c47 p0 again' k0 s) k:=by
 rintro (_ | x)
 all_goals try cases x
 all_goals (unfold T18;repeat' first | exact rfl | exact h _ | apply qac | (apply qai;intro))
def R18 (c45:C45) (c46:C46) (c47:C47) (p0:LB):Nat→S18→Option (Int×Int×L52)
 | 0,_=>none
 | n+1,s=>T18 Ops.std c45 c46 c47 p0 (R18 c45 c46 c47 p0 n) some (some s)
theorem rr18 {R:Type} (c45:C45) (c46:C46) (c47:C47) (p0:LB) (k:AV→Objs→Option R):∀ (n:Nat) (s:S18),A18 Ops.std c45 c46 c47 p0 k s n=ob (R18 c45 c46 c47 p0 n s) (K17 k)
 | 0,s=>by cases s<;>rfl
 | n+1,s=>by rw [el18];exact nt18 Ops.std c45 c46 c47 p0 _ _ some (K17 k) (rr18 c45 c46 c47 p0 k n) (some s)
def F18 (c45:C45) (c46:C46) (c47:C47) (p0:LB):Option (Int×Int×L52):=T18 Ops.std c45 c46 c47 p0 (R18 c45 c46 c47 p0 1000000) some none
abbrev C18:Type:=LB→Option (Int×Int×L52)
def e18 {R:Type} (c:C18):Ent R:=eG [.aC .cS] [] fun v k=>ob (c v.1) (K17 k)
abbrev Sp18 (c:C18):Prop:=∀ (p0:LB) (y:Int×Int×L52),c p0=some y→Spec Tryz.prog gl0 18 [.c (.str p0)] [] (.tup [(false,[.own 501000]),(false,[.int .i64 y.1]),(false,[.int .i64 y.2.1])]) [(501000,.row 52 ty52 y.2.2)]
theorem ek18 {R:Type} {c:C18} (hs:Sp18 c):EOk 18 (e18 (R:=R) c):=qak fun v=>hs v.1
theorem sf18 {c45:C45} {c46:C46} {c47:C47} (h45:Sp45 c45) (h46:Sp46 c46) (h47:Sp47 c47):Sp18 (F18 c45 c46 c47):=fun p0 y hy=>by
 refine qae (qab (ek45 h45) (qab (ek46 h46) (qab (ek47 h47) qad))) 1000000 (fn:=Tryz.f18) (by kernel_rfl) (by kernel_rfl) (X:=X18) (by kernel_rfl) ?_
 rw [eq18]
 exact (nt18 Ops.std c45 c46 c47 p0 _ _ some (K17 k0) (rr18 c45 c46 c47 p0 k0 1000000) none).trans (by show ob (F18 c45 c46 c47 p0) _=_;rw [hy];rfl)
noncomputable def M18:C18:=F18 M45 M46 M47
theorem sm18:Sp18 M18:=sf18 sm45 sm46 sm47
def X5:Aux:=⟨[],[(9,.lin (rg 0 15))]⟩
def T5 {R:Type} (B:Ops) (c18:C18) (c19:C19) (c20:C20) (p0:LB) (k:(Int×Int×L61)→Option R):Option R:=ob (c18 p0) fun y0=>cond (!B.eq y0.1 0) (k ((y0.1,y0.2.1,mt (Ty.den ty61)))) (ob (c19 1 y0.2.2 0 0 0 (mt (Ty.den ty61))) fun y1=>cond (B.eq y1.2.2.1 0) (cond (B.inb y1.2.1 (List.length y0.2.2)) (cond (!B.eq (List.getD y0.2.2 (Int.toNat y1.2.1) ty52.dflt).1 5) (ob (c20 2 y1.2.1 y1.1 y1.2.1 y1.2.2.1 y1.2.2.2.1 y1.2.2.2.2) fun y2=>cond (!B.eq y2.2.2.1 0) (cond (B.inb y2.2.2.2.1 (List.length y0.2.2)) (k ((y2.2.2.1,(((List.getD y0.2.2 (Int.toNat y2.2.2.2.1) ty52.dflt).2).2).2,mt (Ty.den ty61)))) none) (cond (B.lt 24 (Nat.cast (List.length y2.2.2.2.2))) (k ((13,0,mt (Ty.den ty61)))) (k (0,0,y2.2.2.2.2)))) (cond (!B.eq y1.2.2.1 0) (cond (B.inb y1.2.2.2.1 (List.length y0.2.2)) (k ((y1.2.2.1,(((List.getD y0.2.2 (Int.toNat y1.2.2.2.1) ty52.dflt).2).2).2,mt (Ty.den ty61)))) none) (cond (B.lt 24 (Nat.cast (List.length y1.2.2.2.2))) (k ((13,0,mt (Ty.den ty61)))) (k (0,0,y1.2.2.2.2))))) none) (cond (!B.eq y1.2.2.1 0) (cond (B.inb y1.2.2.2.1 (List.length y0.2.2)) (k ((y1.2.2.1,(((List.getD y0.2.2 (Int.toNat y1.2.2.2.1) ty52.dflt).2).2).2,mt (Ty.den ty61)))) none) (cond (B.lt 24 (Nat.cast (List.length y1.2.2.2.2))) (k ((13,0,mt (Ty.den ty61)))) (k (0,0,y1.2.2.2.2)))))
theorem eq5 {R:Type} (B:Ops) (c18:C18) (c19:C19) (c20:C20) (p0:LB) (k:AV→Objs→Option R) (n:Nat):afun tau B gl0 X5 (ent 18 (e18 c18) (ent 19 (e19 c19) (ent 20 (e20 c20) gnil))) ow Tryz.f5 [.c (.str p0)] [] k n=T5 B c18 c19 c20 p0 (K24 k):=by kernel_rfl
theorem nt5 {R R':Type} (B:Ops) (c18:C18) (c19:C19) (c20:C20) (p0:LB) (k0:(Int×Int×L61)→Option R') (k:R'→Option R):T5 B c18 c19 c20 p0 (fun y=>ob (k0 y) k)=ob (T5 B c18 c19 c20 p0 k0) k:=by
 unfold T5
 repeat' first | exact rfl | apply qac | (apply qai;intro)
def F5 (c18:C18) (c19:C19) (c20:C20) (p0:LB):Option (Int×Int×L61):=T5 Ops.std c18 c19 c20 p0 some
abbrev C5:Type:=LB→Option (Int×Int×L61)
def e5 {R:Type} (c:C5):Ent R:=eG [.aC .cS] [] fun v k=>ob (c v.1) (K24 k)
abbrev Sp5 (c:C5):Prop:=∀ (p0:LB) (y:Int×Int×L61),c p0=some y→Spec Tryz.prog gl0 5 [.c (.str p0)] [] (.tup [(false,[.own 501000]),(false,[.int .i64 y.1]),(false,[.int .i64 y.2.1])]) [(501000,.row 61 ty61 y.2.2)]
theorem ek5 {R:Type} {c:C5} (hs:Sp5 c):EOk 5 (e5 (R:=R) c):=qak fun v=>hs v.1
theorem sf5 {c18:C18} {c19:C19} {c20:C20} (h18:Sp18 c18) (h19:Sp19 c19) (h20:Sp20 c20):Sp5 (F5 c18 c19 c20):=fun p0 y hy=>by
 refine qae (qab (ek18 h18) (qab (ek19 h19) (qab (ek20 h20) qad))) 1000000 (fn:=Tryz.f5) (by kernel_rfl) (by kernel_rfl) (X:=X5) (by kernel_rfl) ?_
 rw [eq5]
 exact (nt5 Ops.std c18 c19 c20 p0 some (K24 k0)).trans (by show ob (F5 c18 c19 c20 p0) _=_;rw [hy];rfl)
noncomputable def M5:C5:=F5 M18 M19 M20
theorem sm5:Sp5 M5:=sf5 sm18 sm19 sm20
def X27:Aux:=⟨[],[]⟩
def T27 {R:Type} (B:Ops) (p0:Int) (k:(Int)→Option R):Option R:=cond (B.eq p0 1) (k 0) (cond (B.eq p0 2) (k 0) (cond (B.eq p0 3) (k 0) (cond (B.eq p0 4) (k 1) (cond (B.eq p0 8) (k 1) (cond (B.eq p0 11) (k 1) (cond (B.eq p0 12) (k 1) (cond (B.eq p0 5) (k 2) (cond (B.eq p0 6) (k 2) (cond (B.eq p0 7) (k 2) (cond (B.eq p0 9) (k 2) (cond (B.eq p0 10) (k 2) (k (-1)))))))))))))
theorem eq27 {R:Type} (B:Ops) (p0:Int) (k:AV→Objs→Option R) (n:Nat):afun tau B gl0 X27 gnil ow Tryz.f27 [.c (.int .i64 p0)] [] k n=T27 B p0 (K1 k):=by kernel_rfl
theorem nt27 {R R':Type} (B:Ops) (p0:Int) (k0:(Int)→Option R') (k:R'→Option R):T27 B p0 (fun y=>ob (k0 y) k)=ob (T27 B p0 k0) k:=by
 unfold T27
 repeat' first | exact rfl | apply qac | (apply qai;intro)
def F27 (p0:Int):Option (Int):=T27 Ops.std p0 some
abbrev C27:Type:=Int→Option (Int)
def e27 {R:Type} (c:C27):Ent R:=eG [.aC (.cI .i64)] [] fun v k=>ob (c v.1) (K1 k)
abbrev Sp27 (c:C27):Prop:=∀ (p0 y:Int),c p0=some y→Spec Tryz.prog gl0 27 [.c (.int .i64 p0)] [] (.c (.int .i64 y)) []
theorem ek27 {R:Type} {c:C27} (hs:Sp27 c):EOk 27 (e27 (R:=R) c):=qak fun v=>hs v.1
theorem sf27:Sp27 (F27):=fun p0 y hy=>by
 refine qae qad 1000000 (fn:=Tryz.f27) (by kernel_rfl) (by kernel_rfl) (X:=X27) (by kernel_rfl) ?_
 rw [eq27]
 exact (nt27 Ops.std p0 some (K1 k0)).trans (by show ob (F27 p0) _=_;rw [hy];rfl)
noncomputable def M27:C27:=F27
theorem sm27:Sp27 M27:=sf27
def X61:Aux:=⟨[],[]⟩
def T61 {R:Type} (B:Ops) (p0:Int) (k:(Int)→Option R):Option R:=cond (B.le 1 p0) (cond (B.le p0 3) (k 0) (cond (B.eq p0 4) (k 1) (cond (B.eq p0 5) (k 1) (cond (B.le 6 p0) (cond (B.le p0 16) (k 2) (k (-1))) (k (-1)))))) (cond (B.eq p0 4) (k 1) (cond (B.eq p0 5) (k 1) (cond (B.le 6 p0) (cond (B.le p0 16) (k 2) (k (-1))) (k (-1)))))
theorem eq61 {R:Type} (B:Ops) (p0:Int) (k:AV→Objs→Option R) (n:Nat):afun tau B gl0 X61 gnil ow Tryz.f61 [.c (.int .i64 p0)] [] k n=T61 B p0 (K1 k):=by kernel_rfl
theorem nt61 {R R':Type} (B:Ops) (p0:Int) (k0:(Int)→Option R') (k:R'→Option R):T61 B p0 (fun y=>ob (k0 y) k)=ob (T61 B p0 k0) k:=by
 unfold T61
 repeat' first | exact rfl | apply qac | (apply qai;intro)
def F61 (p0:Int):Option (Int):=T61 Ops.std p0 some
abbrev C61:Type:=Int→Option (Int)
def e61 {R:Type} (c:C61):Ent R:=eG [.aC (.cI .i64)] [] fun v k=>ob (c v.1) (K1 k)
abbrev Sp61 (c:C61):Prop:=∀ (p0 y:Int),c p0=some y→Spec Tryz.prog gl0 61 [.c (.int .i64 p0)] [] (.c (.int .i64 y)) []
theorem ek61 {R:Type} {c:C61} (hs:Sp61 c):EOk 61 (e61 (R:=R) c):=qak fun v=>hs v.1
theorem sf61:Sp61 (F61):=fun p0 y hy=>by
 refine qae qad 1000000 (fn:=Tryz.f61) (by kernel_rfl) (by kernel_rfl) (X:=X61) (by kernel_rfl) ?_
 rw [eq61]
 exact (nt61 Ops.std p0 some (K1 k0)).trans (by show ob (F61 p0) _=_;rw [hy];rfl)
noncomputable def M61:C61:=F61
theorem sm61:Sp61 M61:=sf61
def X62:Aux:=⟨[(2,([1,2]++rg 4 30))],[]⟩
inductive S62 where
 | l0 (v1:Int)
def T62 {R:Type} (B:Ops) (c46:C46) (c45:C45) (p0:LB) (again:S62→Option R) (k:(Bool)→Option R):Option S62→Option R | none=>again (.l0 0) | some (.l0 v1)=>cond (B.lt v1 (↑p0.length)) (cond (B.inb v1 p0.length) (ob (c46 (Nat.cast (UInt8.toNat (p0.getD v1.toNat 0)))) fun y0=>cond (!y0) (cond (B.eq v1 0) (k false) (cond (B.inb v1 p0.length) (ob (c45 (Nat.cast (UInt8.toNat (p0.getD v1.toNat 0)))) fun y1=>cond (!y1) (k false) (again (.l0 (IntKind.wrap .i64 (v1+1))))) none)) (again (.l0 (IntKind.wrap .i64 (v1+1))))) none) (cond (B.le 1 (↑p0.length)) (k (B.le (↑p0.length) 8)) (k false))
def E62 (p0:LB):S62→List AV×Objs
 | .l0 v1=>(mk 34 [(0,.c (.str p0)),(3,.c (.int .i64 v1))],[])
def I62:S62→Nat
 | .l0 _=>0
noncomputable abbrev A62 {R:Type} (B:Ops) (c46:C46) (c45:C45) (p0:LB) (k:AV→Objs→Option R) (s:S62) (n:Nat):Option R:=aloop tau B gl0 X62 (ent 46 (e46 c46) (ent 45 (e45 c45) gnil)) ow [] Tryz.f62 k (I62 s) (E62 p0 s) n
theorem eq62 {R:Type} (B:Ops) (c46:C46) (c45:C45) (p0:LB) (k:AV→Objs→Option R) (n:Nat):afun tau B gl0 X62 (ent 46 (e46 c46) (ent 45 (e45 c45) gnil)) ow Tryz.f62 [.c (.str p0)] [] k n=T62 B c46 c45 p0 (fun s=>A62 B c46 c45 p0 k s n) (K2 k) none:=by kernel_rfl
theorem el62 {R:Type} (B:Ops) (c46:C46) (c45:C45) (p0:LB) (k:AV→Objs→Option R) (n:Nat):∀ s,A62 B c46 c45 p0 k s (n+1)=T62 B c46 c45 p0 (fun s=>A62 B c46 c45 p0 k s n) (K2 k) (some s):=by
 intro s
 cases s<;>kernel_rfl
theorem nt62 {R R':Type} (B:Ops) (c46:C46) (c45:C45) (p0:LB) (again:S62→Option R) (again':S62→Option R') (k0:(Bool)→Option R') (k:R'→Option R) (h:∀ s,again s=ob (again' s) k):∀ s,T62 B c46 c45 p0 again (fun y=>ob (k0 y) k) s=ob (T62 B c46 c45 p0 again' k0 s) k:=by
 rintro (_ | x)
 all_goals try cases x
 all_goals (unfold T62;repeat' first | exact rfl | exact h _ | apply qac | (apply qai;intro))
def R62 (c46:C46) (c45:C45) (p0:LB):Nat→S62→Option (Bool)
 | 0,_=>none
 | n+1,s=>T62 Ops.std c46 c45 p0 (R62 c46 c45 p0 n) some (some s)
theorem rr62 {R:Type} (c46:C46) (c45:C45) (p0:LB) (k:AV→Objs→Option R):∀ (n:Nat) (s:S62),A62 Ops.std c46 c45 p0 k s n=ob (R62 c46 c45 p0 n s) (K2 k)
 | 0,s=>by cases s<;>rfl
 | n+1,s=>by rw [el62];exact nt62 Ops.std c46 c45 p0 _ _ some (K2 k) (rr62 c46 c45 p0 k n) (some s)
def F62 (c46:C46) (c45:C45) (p0:LB):Option (Bool):=T62 Ops.std c46 c45 p0 (R62 c46 c45 p0 10000000000000000000) some none
abbrev C62:Type:=LB→Option (Bool)
def e62 {R:Type} (c:C62):Ent R:=eG [.aC .cS] [] fun v k=>ob (c v.1) (K2 k)
abbrev Sp62 (c:C62):Prop:=∀ (p0:LB) (y:Bool),c p0=some y→Spec Tryz.prog gl0 62 [.c (.str p0)] [] (.c (.bool y)) []
theorem ek62 {R:Type} {c:C62} (hs:Sp62 c):EOk 62 (e62 (R:=R) c):=qak fun v=>hs v.1
theorem sf62 {c46:C46} {c45:C45} (h46:Sp46 c46) (h45:Sp45 c45):Sp62 (F62 c46 c45):=fun p0 y hy=>by
 refine qae (qab (ek46 h46) (qab (ek45 h45) qad)) 10000000000000000000 (fn:=Tryz.f62) (by kernel_rfl) (by kernel_rfl) (X:=X62) (by kernel_rfl) ?_
 rw [eq62]
 exact (nt62 Ops.std c46 c45 p0 _ _ some (K2 k0) (rr62 c46 c45 p0 k0 10000000000000000000) none).trans (by show ob (F62 c46 c45 p0) _=_;rw [hy];rfl)
noncomputable def M62:C62:=F62 M46 M45
theorem sm62:Sp62 M62:=sf62 sm46 sm45
def X28:Aux:=⟨[(3,([1,2]++rg 5 99)),(1000016,([1,2]++rg 8 96)),(1000018,([1,2,5]++rg 7 97))],[]⟩
inductive S28 where
 | l0 (v1 v2:Int)
 | l1016 (v1 v2 v3 v4 v5:Int) (v6 v7:LB) (v8 v9:Int) (v10 v11:LB)
 | l1018 (v1 v2 v3:Int)
def T28 {R:Type} (B:Ops) (c61:C61) (c62:C62) (p0:L63) (again:S28→Option R) (k:(Bool)→Option R):Option S28→Option R | none=>again (.l0 0 0) | some (.l0 v1 v2)=>cond (B.lt v2 (↑p0.length)) (cond (B.inb v2 p0.length) (ob (c61 (p0.getD v2.toNat ty63.dflt).1) fun y0=>cond (B.eq (p0.getD v2.toNat ty63.dflt).1 1) (again (.l1016 v1 v2 y0 (p0.getD v2.toNat ty63.dflt).1 ((p0.getD v2.toNat ty63.dflt).2).1 (((p0.getD v2.toNat ty63.dflt).2).2).1 (((p0.getD v2.toNat ty63.dflt).2).2).2 (p0.getD v2.toNat ty63.dflt).1 ((p0.getD v2.toNat ty63.dflt).2).1 (mt UInt8) (mt UInt8))) (cond (B.eq (p0.getD v2.toNat ty63.dflt).1 2) (again (.l1016 v1 v2 y0 (p0.getD v2.toNat ty63.dflt).1 ((p0.getD v2.toNat ty63.dflt).2).1 (((p0.getD v2.toNat ty63.dflt).2).2).1 (((p0.getD v2.toNat ty63.dflt).2).2).2 (p0.getD v2.toNat ty63.dflt).1 0 (((p0.getD v2.toNat ty63.dflt).2).2).1 (mt UInt8))) (cond (B.eq (p0.getD v2.toNat ty63.dflt).1 3) (again (.l1016 v1 v2 y0 (p0.getD v2.toNat ty63.dflt).1 ((p0.getD v2.toNat ty63.dflt).2).1 (((p0.getD v2.toNat ty63.dflt).2).2).1 (((p0.getD v2.toNat ty63.dflt).2).2).2 (p0.getD v2.toNat ty63.dflt).1 0 (((p0.getD v2.toNat ty63.dflt).2).2).1 (((p0.getD v2.toNat ty63.dflt).2).2).2)) (again (.l1016 v1 v2 y0 (p0.getD v2.toNat ty63.dflt).1 ((p0.getD v2.toNat ty63.dflt).2).1 (((p0.getD v2.toNat ty63.dflt).2).2).1 (((p0.getD v2.toNat ty63.dflt).2).2).2 (p0.getD v2.toNat ty63.dflt).1 0 (mt UInt8) (mt UInt8)))))) none) (cond (B.eq v1 1) (k (B.le (↑p0.length) 30)) (k false)) | some (.l1016 v1 v2 v3 v4 v5 v6 v7 v8 v9 v10 v11)=>cond (B.lt v3 0) (k false) (cond (B.lt v1 v3) (k false) (cond (!(B.eq v4 v8 && (B.eq v5 v9 && (v6 == v10 && (v7 == v11 && true))))) (k false) (cond (B.lt v5 0) (k false) (cond (B.lt 999 v5) (k false) (cond (B.eq v4 2) (ob (c62 v6) fun y0=>cond (!y0) (k false) (cond (B.eq v4 3) (ob (c62 v7) fun y1=>cond (!y1) (k false) (again (.l1018 v1 v2 v3))) (again (.l1018 v1 v2 v3)))) (cond (B.eq v4 3) (ob (c62 v6) fun y0=>cond (!y0) (k false) (cond (B.eq v4 3) (ob (c62 v7) fun y1=>cond (!y1) (k false) (again (.l1018 v1 v2 v3))) (again (.l1018 v1 v2 v3)))) (cond (B.eq v4 3) (ob (c62 v7) fun y0=>cond (!y0) (k false) (again (.l1018 v1 v2 v3))) (again (.l1018 v1 v2 v3))))))))) | some (.l1018 v1 v2 v3)=>again (.l0 (IntKind.wrap .i64 (IntKind.wrap .i64 (v1-v3)+1)) (IntKind.wrap .i64 (v2+1)))
def E28 (p0:L63):S28→List AV×Objs
 | .l0 v1 v2=>(mk 104 [(0,.c (.list 63 ty63 p0)),(3,.c (.int .i64 v1)),(4,.c (.int .i64 v2))],[])
 | .l1016 v1 v2 v3 v4 v5 v6 v7 v8 v9 v10 v11=>(mk 104 [(0,.c (.list 63 ty63 p0)),(3,.c (.int .i64 v1)),(4,.c (.int .i64 v2)),(5,.c (.ptr 5 0)),(6,.c (.int .i64 v3)),(7,.c (.ptr 7 0))],[(5,.box 63 [.int .i64 v4,.int .i64 v5,.str v6,.str v7]),(7,.box 63 [.int .i64 v8,.int .i64 v9,.str v10,.str v11])])
 | .l1018 v1 v2 v3=>(mk 104 [(0,.c (.list 63 ty63 p0)),(3,.c (.int .i64 v1)),(4,.c (.int .i64 v2)),(6,.c (.int .i64 v3))],[])
def I28:S28→Nat
 | .l0 _ _=>0
 | .l1016 _ _ _ _ _ _ _ _ _ _ _=>1016
 | .l1018 _ _ _=>1018
noncomputable abbrev A28 {R:Type} (B:Ops) (c61:C61) (c62:C62) (p0:L63) (k:AV→Objs→Option R) (s:S28) (n:Nat):Option R:=aloop tau B gl0 X28 (ent 61 (e61 c61) (ent 62 (e62 c62) gnil)) ow [] Tryz.f28 k (I28 s) (E28 p0 s) n
theorem eq28 {R:Type} (B:Ops) (c61:C61) (c62:C62) (p0:L63) (k:AV→Objs→Option R) (n:Nat):afun tau B gl0 X28 (ent 61 (e61 c61) (ent 62 (e62 c62) gnil)) ow Tryz.f28 [.c (.list 63 ty63 p0)] [] k n=T28 B c61 c62 p0 (fun s=>A28 B c61 c62 p0 k s n) (K2 k) none:=by kernel_rfl
theorem el28 {R:Type} (B:Ops) (c61:C61) (c62:C62) (p0:L63) (k:AV→Objs→Option R) (n:Nat):∀ s,A28 B c61 c62 p0 k s (n+1)=T28 B c61 c62 p0 (fun s=>A28 B c61 c62 p0 k s n) (K2 k) (some s):=by
 intro s
 cases s<;>kernel_rfl
theorem nt28 {R R':Type} (B:Ops) (c61:C61) (c62:C62) (p0:L63) (again:S28→Option R) (again':S28→Option R') (k0:(Bool)→Option R') (k:R'→Option R) (h:∀ s,again s=ob (again' s) k):∀ s,T28 B c61 c62 p0 again (fun y=>ob (k0 y) k) s=ob (T28 B c61 c62 p0 again' k0 s) k:=by
 rintro (_ | x)
 all_goals try cases x
 all_goals (unfold T28;repeat' first | exact rfl | exact h _ | apply qac | (apply qai;intro))
def R28 (c61:C61) (c62:C62) (p0:L63):Nat→S28→Option (Bool)
 | 0,_=>none
 | n+1,s=>T28 Ops.std c61 c62 p0 (R28 c61 c62 p0 n) some (some s)
theorem rr28 {R:Type} (c61:C61) (c62:C62) (p0:L63) (k:AV→Objs→Option R):∀ (n:Nat) (s:S28),A28 Ops.std c61 c62 p0 k s n=ob (R28 c61 c62 p0 n s) (K2 k)
 | 0,s=>by cases s<;>rfl
 | n+1,s=>by rw [el28];exact nt28 Ops.std c61 c62 p0 _ _ some (K2 k) (rr28 c61 c62 p0 k n) (some s)
def F28 (c61:C61) (c62:C62) (p0:L63):Option (Bool):=T28 Ops.std c61 c62 p0 (R28 c61 c62 p0 1000000) some none
abbrev C28:Type:=L63→Option (Bool)
def e28 {R:Type} (c:C28):Ent R:=eG [.aC (.cL 63 ty63)] [] fun v k=>ob (c v.1) (K2 k)
abbrev Sp28 (c:C28):Prop:=∀ (p0:L63) (y:Bool),c p0=some y→Spec Tryz.prog gl0 28 [.c (.list 63 ty63 p0)] [] (.c (.bool y)) []
theorem ek28 {R:Type} {c:C28} (hs:Sp28 c):EOk 28 (e28 (R:=R) c):=qak fun v=>hs v.1
theorem sf28 {c61:C61} {c62:C62} (h61:Sp61 c61) (h62:Sp62 c62):Sp28 (F28 c61 c62):=fun p0 y hy=>by
 refine qae (qab (ek61 h61) (qab (ek62 h62) qad)) 1000000 (fn:=Tryz.f28) (by kernel_rfl) (by kernel_rfl) (X:=X28) (by kernel_rfl) ?_
 rw [eq28]
 exact (nt28 Ops.std c61 c62 p0 _ _ some (K2 k0) (rr28 c61 c62 p0 k0 1000000) none).trans (by show ob (F28 c61 c62 p0) _=_;rw [hy];rfl)
noncomputable def M28:C28:=F28 M61 M62
theorem sm28:Sp28 M28:=sf28 sm61 sm62
def X10:Aux:=⟨[(3,([1,2]++rg 5 65))],[]⟩
inductive S10 where
 | l0 (v1 v2:Int)
def T10 {R:Type} (B:Ops) (c27:C27) (c28:C28) (p0:L61) (again:S10→Option R) (k:(Bool)→Option R):Option S10→Option R | none=>again (.l0 0 0) | some (.l0 v1 v2)=>cond (B.lt v2 (↑p0.length)) (cond (B.inb v2 p0.length) (ob (c27 (p0.getD v2.toNat ty61.dflt).1) fun y0=>cond (B.lt y0 0) (k false) (cond (B.lt v1 y0) (k false) (cond (B.inb v2 p0.length) (cond (B.eq (p0.getD v2.toNat ty61.dflt).1 3) (cond (B.inb v2 p0.length) (ob (c28 (p0.getD v2.toNat ty61.dflt).2) fun y1=>cond (!y1) (k false) (cond (B.inb v2 p0.length) (cond (!B.eq (p0.getD v2.toNat ty61.dflt).1 3) (cond (B.inb v2 p0.length) (cond (B.lt 0 (Nat.cast (List.length (p0.getD v2.toNat ty61.dflt).2))) (k false) (again (.l0 (IntKind.wrap .i64 (IntKind.wrap .i64 (v1-y0)+1)) (IntKind.wrap .i64 (v2+1))))) none) (again (.l0 (IntKind.wrap .i64 (IntKind.wrap .i64 (v1-y0)+1)) (IntKind.wrap .i64 (v2+1))))) none)) none) (cond (B.inb v2 p0.length) (cond (!B.eq (p0.getD v2.toNat ty61.dflt).1 3) (cond (B.inb v2 p0.length) (cond (B.lt 0 (Nat.cast (List.length (p0.getD v2.toNat ty61.dflt).2))) (k false) (again (.l0 (IntKind.wrap .i64 (IntKind.wrap .i64 (v1-y0)+1)) (IntKind.wrap .i64 (v2+1))))) none) (again (.l0 (IntKind.wrap .i64 (IntKind.wrap .i64 (v1-y0)+1)) (IntKind.wrap .i64 (v2+1))))) none)) none))) none) (cond (B.eq v1 1) (k (B.le (↑p0.length) 60)) (k false))
def E10 (p0:L61):S10→List AV×Objs
 | .l0 v1 v2=>(mk 70 [(0,.c (.list 61 ty61 p0)),(3,.c (.int .i64 v1)),(4,.c (.int .i64 v2))],[])
def I10:S10→Nat
 | .l0 _ _=>0
noncomputable abbrev A10 {R:Type} (B:Ops) (c27:C27) (c28:C28) (p0:L61) (k:AV→Objs→Option R) (s:S10) (n:Nat):Option R:=aloop tau B gl0 X10 (ent 27 (e27 c27) (ent 28 (e28 c28) gnil)) ow [] Tryz.f10 k (I10 s) (E10 p0 s) n
theorem eq10 {R:Type} (B:Ops) (c27:C27) (c28:C28) (p0:L61) (k:AV→Objs→Option R) (n:Nat):afun tau B gl0 X10 (ent 27 (e27 c27) (ent 28 (e28 c28) gnil)) ow Tryz.f10 [.c (.list 61 ty61 p0)] [] k n=T10 B c27 c28 p0 (fun s=>A10 B c27 c28 p0 k s n) (K2 k) none:=by kernel_rfl
theorem el10 {R:Type} (B:Ops) (c27:C27) (c28:C28) (p0:L61) (k:AV→Objs→Option R) (n:Nat):∀ s,A10 B c27 c28 p0 k s (n+1)=T10 B c27 c28 p0 (fun s=>A10 B c27 c28 p0 k s n) (K2 k) (some s):=by
 intro s
 cases s<;>kernel_rfl
theorem nt10 {R R':Type} (B:Ops) (c27:C27) (c28:C28) (p0:L61) (again:S10→Option R) (again':S10→Option R') (k0:(Bool)→Option R') (k:R'→Option R) (h:∀ s,again s=ob (again' s) k):∀ s,T10 B c27 c28 p0 again (fun y=>ob (k0 y) k) s=ob (T10 B c27 c28 p0 again' k0 s) k:=by
 rintro (_ | x)
 all_goals try cases x
 all_goals (unfold T10;repeat' first | exact rfl | exact h _ | apply qac | (apply qai;intro))
def R10 (c27:C27) (c28:C28) (p0:L61):Nat→S10→Option (Bool)
 | 0,_=>none
 | n+1,s=>T10 Ops.std c27 c28 p0 (R10 c27 c28 p0 n) some (some s)
theorem rr10 {R:Type} (c27:C27) (c28:C28) (p0:L61) (k:AV→Objs→Option R):∀ (n:Nat) (s:S10),A10 Ops.std c27 c28 p0 k s n=ob (R10 c27 c28 p0 n s) (K2 k)
 | 0,s=>by cases s<;>rfl
 | n+1,s=>by rw [el10];exact nt10 Ops.std c27 c28 p0 _ _ some (K2 k) (rr10 c27 c28 p0 k n) (some s)
def F10 (c27:C27) (c28:C28) (p0:L61):Option (Bool):=T10 Ops.std c27 c28 p0 (R10 c27 c28 p0 1000000) some none
abbrev C10:Type:=L61→Option (Bool)
def e10 {R:Type} (c:C10):Ent R:=eG [.aC (.cL 61 ty61)] [] fun v k=>ob (c v.1) (K2 k)
abbrev Sp10 (c:C10):Prop:=∀ (p0:L61) (y:Bool),c p0=some y→Spec Tryz.prog gl0 10 [.c (.list 61 ty61 p0)] [] (.c (.bool y)) []
theorem ek10 {R:Type} {c:C10} (hs:Sp10 c):EOk 10 (e10 (R:=R) c):=qak fun v=>hs v.1
theorem sf10 {c27:C27} {c28:C28} (h27:Sp27 c27) (h28:Sp28 c28):Sp10 (F10 c27 c28):=fun p0 y hy=>by
 refine qae (qab (ek27 h27) (qab (ek28 h28) qad)) 1000000 (fn:=Tryz.f10) (by kernel_rfl) (by kernel_rfl) (X:=X10) (by kernel_rfl) ?_
 rw [eq10]
 exact (nt10 Ops.std c27 c28 p0 _ _ some (K2 k0) (rr10 c27 c28 p0 k0 1000000) none).trans (by show ob (F10 c27 c28 p0) _=_;rw [hy];rfl)
noncomputable def M10:C10:=F10 M27 M28
theorem sm10:Sp10 M10:=sf10 sm27 sm28
def X39:Aux:=⟨[],[]⟩
def T39 {R:Type} (B:Ops) (p0:Int) (k:(Int)→Option R):Option R:=cond (B.eq p0 7) (k 1) (cond (B.eq p0 6) (k 2) (cond (B.eq p0 5) (k 3) (cond (B.eq p0 9) (k 4) (cond (B.eq p0 10) (k 4) (cond (B.eq p0 4) (k 5) (cond (B.eq p0 8) (k 5) (cond (B.eq p0 11) (k 5) (cond (B.eq p0 12) (k 5) (k 6)))))))))
theorem eq39 {R:Type} (B:Ops) (p0:Int) (k:AV→Objs→Option R) (n:Nat):afun tau B gl0 X39 gnil ow Tryz.f39 [.c (.int .i64 p0)] [] k n=T39 B p0 (K1 k):=by kernel_rfl
theorem nt39 {R R':Type} (B:Ops) (p0:Int) (k0:(Int)→Option R') (k:R'→Option R):T39 B p0 (fun y=>ob (k0 y) k)=ob (T39 B p0 k0) k:=by
 unfold T39
 repeat' first | exact rfl | apply qac | (apply qai;intro)
def F39 (p0:Int):Option (Int):=T39 Ops.std p0 some
abbrev C39:Type:=Int→Option (Int)
def e39 {R:Type} (c:C39):Ent R:=eG [.aC (.cI .i64)] [] fun v k=>ob (c v.1) (K1 k)
abbrev Sp39 (c:C39):Prop:=∀ (p0 y:Int),c p0=some y→Spec Tryz.prog gl0 39 [.c (.int .i64 p0)] [] (.c (.int .i64 y)) []
theorem ek39 {R:Type} {c:C39} (hs:Sp39 c):EOk 39 (e39 (R:=R) c):=qak fun v=>hs v.1
theorem sf39:Sp39 (F39):=fun p0 y hy=>by
 refine qae qad 1000000 (fn:=Tryz.f39) (by kernel_rfl) (by kernel_rfl) (X:=X39) (by kernel_rfl) ?_
 rw [eq39]
 exact (nt39 Ops.std p0 some (K1 k0)).trans (by show ob (F39 p0) _=_;rw [hy];rfl)
noncomputable def M39:C39:=F39
theorem sm39:Sp39 M39:=sf39
def X40:Aux:=⟨[],[]⟩
def T40 {R:Type} (B:Ops) (p0:Int) (k:(LB)→Option R):Option R:=cond (B.eq p0 1) (k ([116,114,117,101]:LB)) (cond (B.eq p0 2) (k ([102,97,108,115,101]:LB)) (cond (B.eq p0 4) (k ([33]:LB)) (cond (B.eq p0 5) (k ([32,38,38,32]:LB)) (cond (B.eq p0 6) (k ([32,124,124,32]:LB)) (cond (B.eq p0 7) (k ([32,45,62,32]:LB)) (cond (B.eq p0 8) (k ([88,32]:LB)) (cond (B.eq p0 9) (k ([32,85,32]:LB)) (cond (B.eq p0 10) (k ([32,82,32]:LB)) (cond (B.eq p0 11) (k ([70,32]:LB)) (cond (B.eq p0 12) (k ([71,32]:LB)) (k (mt UInt8))))))))))))
theorem eq40 {R:Type} (B:Ops) (p0:Int) (k:AV→Objs→Option R) (n:Nat):afun tau B gl0 X40 gnil ow Tryz.f40 [.c (.int .i64 p0)] [] k n=T40 B p0 (K3 k):=by kernel_rfl
theorem nt40 {R R':Type} (B:Ops) (p0:Int) (k0:(LB)→Option R') (k:R'→Option R):T40 B p0 (fun y=>ob (k0 y) k)=ob (T40 B p0 k0) k:=by
 unfold T40
 repeat' first | exact rfl | apply qac | (apply qai;intro)
def F40 (p0:Int):Option (LB):=T40 Ops.std p0 some
abbrev C40:Type:=Int→Option (LB)
def e40 {R:Type} (c:C40):Ent R:=eG [.aC (.cI .i64)] [] fun v k=>ob (c v.1) (K3 k)
abbrev Sp40 (c:C40):Prop:=∀ (p0:Int) (y:LB),c p0=some y→Spec Tryz.prog gl0 40 [.c (.int .i64 p0)] [] (.c (.str y)) []
theorem ek40 {R:Type} {c:C40} (hs:Sp40 c):EOk 40 (e40 (R:=R) c):=qak fun v=>hs v.1
theorem sf40:Sp40 (F40):=fun p0 y hy=>by
 refine qae qad 1000000 (fn:=Tryz.f40) (by kernel_rfl) (by kernel_rfl) (X:=X40) (by kernel_rfl) ?_
 rw [eq40]
 exact (nt40 Ops.std p0 some (K3 k0)).trans (by show ob (F40 p0) _=_;rw [hy];rfl)
noncomputable def M40:C40:=F40
theorem sm40:Sp40 M40:=sf40
def X42:Aux:=⟨[],[]⟩
def T42 {R:Type} (B:Ops) (p0:LB) (p1 p2:Int) (k:(LB)→Option R):Option R:=cond (B.lt p1 p2) (cond (B.lim (1+List.length p0) 1) (cond (B.lim (List.length (([40]:LB)++p0)+1) 1) (k (([40]:LB)++p0++([41]:LB))) none) none) (k p0)
theorem eq42 {R:Type} (B:Ops) (p0:LB) (p1 p2:Int) (k:AV→Objs→Option R) (n:Nat):afun tau B gl0 X42 gnil ow Tryz.f42 [.agg [.str p0,.int .i64 p1],.c (.int .i64 p2)] [] k n=T42 B p0 p1 p2 (K3 k):=by kernel_rfl
theorem nt42 {R R':Type} (B:Ops) (p0:LB) (p1 p2:Int) (k0:(LB)→Option R') (k:R'→Option R):T42 B p0 p1 p2 (fun y=>ob (k0 y) k)=ob (T42 B p0 p1 p2 k0) k:=by
 unfold T42
 repeat' first | exact rfl | apply qac | (apply qai;intro)
def F42 (p0:LB) (p1 p2:Int):Option (LB):=T42 Ops.std p0 p1 p2 some
abbrev C42:Type:=LB→Int→Int→Option (LB)
def e42 {R:Type} (c:C42):Ent R:=eG [.aG [.cS,.cI .i64],.aC (.cI .i64)] [] fun v k=>ob (c v.1 v.2.1 v.2.2.1) (K3 k)
abbrev Sp42 (c:C42):Prop:=∀ (p0:LB) (p1 p2:Int) (y:LB),c p0 p1 p2=some y→Spec Tryz.prog gl0 42 [.agg [.str p0,.int .i64 p1],.c (.int .i64 p2)] [] (.c (.str y)) []
theorem ek42 {R:Type} {c:C42} (hs:Sp42 c):EOk 42 (e42 (R:=R) c):=qak fun v=>hs v.1 v.2.1 v.2.2.1
theorem sf42:Sp42 (F42):=fun p0 p1 p2 y hy=>by
 refine qae qad 1000000 (fn:=Tryz.f42) (by kernel_rfl) (by kernel_rfl) (X:=X42) (by kernel_rfl) ?_
 rw [eq42]
 exact (nt42 Ops.std p0 p1 p2 some (K3 k0)).trans (by show ob (F42 p0 p1 p2) _=_;rw [hy];rfl)
noncomputable def M42:C42:=F42
theorem sm42:Sp42 M42:=sf42
abbrev C105:Type:=Int→Option (LB)
def e105 {R:Type} (c:C105):Ent R:=eG [.aC (.cI .u64)] [] fun v k=>ob (c v.1) (K3 k)
abbrev Sp105 (c:C105):Prop:=∀ (p0:Int) (y:LB),c p0=some y→Spec Tryz.prog gl0 105 [.c (.int .u64 p0)] [] (.c (.str y)) []
theorem ek105 {R:Type} {c:C105} (hs:Sp105 c):EOk 105 (e105 (R:=R) c):=qak fun v=>hs v.1
def X105:Aux:=⟨[],[]⟩
def T105 {R:Type} (B:Ops) (c105:C105) (p0:Int) (k:(LB)→Option R):Option R:=cond (B.eq 10 0) none (cond (B.eq 10 0) none (cond (B.inb (IntKind.wrap IntKind.u64 (Int.tmod p0 (10)+1)) (10+1)) (cond (bif B.le 0 (Int.tmod p0 10) then B.le (Int.tmod p0 10) (IntKind.wrap IntKind.u64 (Int.tmod p0 (10)+1)) else false) (cond (B.lt p0 10) (k (List.drop (Int.toNat (Int.tmod p0 10)) (List.take (Int.toNat (IntKind.wrap IntKind.u64 (Int.tmod p0 (10)+1))) ([48,49,50,51,52,53,54,55,56,57]:LB)))) (cond (B.eq 10 0) none (ob (c105 (IntKind.wrap IntKind.u64 (Int.tdiv p0 10))) fun y0=>cond (B.lim (List.length y0+List.length (List.drop (Int.toNat (Int.tmod p0 10)) (List.take (Int.toNat (IntKind.wrap IntKind.u64 (Int.tmod p0 (10)+1))) ([48,49,50,51,52,53,54,55,56,57]:LB)))) 1) (k (y0++List.drop (Int.toNat (Int.tmod p0 10)) (List.take (Int.toNat (IntKind.wrap IntKind.u64 (Int.tmod p0 (10)+1))) ([48,49,50,51,52,53,54,55,56,57]:LB)))) none))) none) none))
theorem eq105 {R:Type} (B:Ops) (c105:C105) (p0:Int) (k:AV→Objs→Option R) (n:Nat):afun tau B gl0 X105 (ent 105 (e105 c105) gnil) ow Tryz.f105 [.c (.int .u64 p0)] [] k n=T105 B c105 p0 (K3 k):=by kernel_rfl
theorem nt105 {R R':Type} (B:Ops) (c105:C105) (p0:Int) (k0:(LB)→Option R') (k:R'→Option R):T105 B c105 p0 (fun y=>ob (k0 y) k)=ob (T105 B c105 p0 k0) k:=by
 unfold T105
 repeat' first | exact rfl | apply qac | (apply qai;intro)
def F105 (c105:C105) (p0:Int):Option (LB):=T105 Ops.std c105 p0 some
theorem sf105 {c105:C105} (h105:Sp105 c105):Sp105 (F105 c105):=fun p0 y hy=>by
 refine qae (qab (ek105 h105) qad) 1000000 (fn:=Tryz.f105) (by kernel_rfl) (by kernel_rfl) (X:=X105) (by kernel_rfl) ?_
 rw [eq105]
 exact (nt105 Ops.std c105 p0 some (K3 k0)).trans (by show ob (F105 c105 p0) _=_;rw [hy];rfl)
noncomputable def Rec105:Nat→(Int→Option (LB))
 | 0=>fun _=>none
 | d+1=>F105 (Rec105 d)
theorem rec105:∀ d,Sp105 (Rec105 d)
 | 0=>fun p0 y (h:(none:Option (LB))=some y)=>by cases h
 | d+1=>sf105 (rec105 d)
noncomputable def M105:C105:=(Rec105 1000000)
theorem sm105:Sp105 M105:=(rec105 1000000)
def X75:Aux:=⟨[],[]⟩
def T75 {R:Type} (B:Ops) (c105:C105) (p0:Int) (k:(LB)→Option R):Option R:=cond (B.lt p0 0) (ob (c105 (IntKind.wrap IntKind.u64 (IntKind.wrap IntKind.u64 (IntKind.wrap .i64 (0-IntKind.wrap .i64 (p0+1)))+1))) fun y0=>cond (B.lim (1+List.length y0) 1) (k (([45]:LB)++y0)) none) (ob (c105 (IntKind.wrap IntKind.u64 p0)) fun y0=>k y0)
theorem eq75 {R:Type} (B:Ops) (c105:C105) (p0:Int) (k:AV→Objs→Option R) (n:Nat):afun tau B gl0 X75 (ent 105 (e105 c105) gnil) ow Tryz.f75 [.c (.int .i64 p0)] [] k n=T75 B c105 p0 (K3 k):=by kernel_rfl
theorem nt75 {R R':Type} (B:Ops) (c105:C105) (p0:Int) (k0:(LB)→Option R') (k:R'→Option R):T75 B c105 p0 (fun y=>ob (k0 y) k)=ob (T75 B c105 p0 k0) k:=by
 unfold T75
 repeat' first | exact rfl | apply qac | (apply qai;intro)
def F75 (c105:C105) (p0:Int):Option (LB):=T75 Ops.std c105 p0 some
abbrev C75:Type:=Int→Option (LB)
def e75 {R:Type} (c:C75):Ent R:=eG [.aC (.cI .i64)] [] fun v k=>ob (c v.1) (K3 k)
abbrev Sp75 (c:C75):Prop:=∀ (p0:Int) (y:LB),c p0=some y→Spec Tryz.prog gl0 75 [.c (.int .i64 p0)] [] (.c (.str y)) []
theorem ek75 {R:Type} {c:C75} (hs:Sp75 c):EOk 75 (e75 (R:=R) c):=qak fun v=>hs v.1
theorem sf75 {c105:C105} (h105:Sp105 c105):Sp75 (F75 c105):=fun p0 y hy=>by
 refine qae (qab (ek105 h105) qad) 1000000 (fn:=Tryz.f75) (by kernel_rfl) (by kernel_rfl) (X:=X75) (by kernel_rfl) ?_
 rw [eq75]
 exact (nt75 Ops.std c105 p0 some (K3 k0)).trans (by show ob (F75 c105 p0) _=_;rw [hy];rfl)
noncomputable def M75:C75:=F75 M105
theorem sm75:Sp75 M75:=sf75 sm105
def X76:Aux:=⟨[],[]⟩
def T76 {R:Type} (B:Ops) (p0:LB) (p1 p2:Int) (k:(LB)→Option R):Option R:=cond (B.lt p1 p2) (cond (B.lim (1+List.length p0) 1) (cond (B.lim (List.length (([40]:LB)++p0)+1) 1) (k (([40]:LB)++p0++([41]:LB))) none) none) (k p0)
theorem eq76 {R:Type} (B:Ops) (p0:LB) (p1 p2:Int) (k:AV→Objs→Option R) (n:Nat):afun tau B gl0 X76 gnil ow Tryz.f76 [.agg [.str p0,.int .i64 p1],.c (.int .i64 p2)] [] k n=T76 B p0 p1 p2 (K3 k):=by kernel_rfl
theorem nt76 {R R':Type} (B:Ops) (p0:LB) (p1 p2:Int) (k0:(LB)→Option R') (k:R'→Option R):T76 B p0 p1 p2 (fun y=>ob (k0 y) k)=ob (T76 B p0 p1 p2 k0) k:=by
 unfold T76
 repeat' first | exact rfl | apply qac | (apply qai;intro)
def F76 (p0:LB) (p1 p2:Int):Option (LB):=T76 Ops.std p0 p1 p2 some
abbrev C76:Type:=LB→Int→Int→Option (LB)
def e76 {R:Type} (c:C76):Ent R:=eG [.aG [.cS,.cI .i64],.aC (.cI .i64)] [] fun v k=>ob (c v.1 v.2.1 v.2.2.1) (K3 k)
abbrev Sp76 (c:C76):Prop:=∀ (p0:LB) (p1 p2:Int) (y:LB),c p0 p1 p2=some y→Spec Tryz.prog gl0 76 [.agg [.str p0,.int .i64 p1],.c (.int .i64 p2)] [] (.c (.str y)) []
theorem ek76 {R:Type} {c:C76} (hs:Sp76 c):EOk 76 (e76 (R:=R) c):=qak fun v=>hs v.1 v.2.1 v.2.2.1
theorem sf76:Sp76 (F76):=fun p0 p1 p2 y hy=>by
 refine qae qad 1000000 (fn:=Tryz.f76) (by kernel_rfl) (by kernel_rfl) (X:=X76) (by kernel_rfl) ?_
 rw [eq76]
 exact (nt76 Ops.std p0 p1 p2 some (K3 k0)).trans (by show ob (F76 p0 p1 p2) _=_;rw [hy];rfl)
noncomputable def M76:C76:=F76
theorem sm76:Sp76 M76:=sf76
def X41:Aux:=⟨[(6,([1,2]++rg 6 120))],[(31,.lin (rg 0 14)),(32,.lin [0,1,2,3,4,5,6,7]),(18,.lin ([0,1,2,3,4,5,7,8,9,10,12,13,14,15,16,17,18,6,11,19,20,21,22])),(19,.lin [0,1,2,3,4,5,6,7])]⟩
inductive S41 where
 | l0 (v1:Int) (v2:L122)
def T41 {R:Type} (B:Ops) (c28:C28) (c74:C74) (c61:C61) (c75:C75) (c76:C76) (p0:L63) (again:S41→Option R) (k:(LB)→Option R):Option S41→Option R | none=>ob (c28 p0) fun y0=>cond (!y0) (k (mt UInt8)) (again (.l0 0 (mt (Ty.den ty77)))) | some (.l0 v1 v2)=>cond (B.lt v1 (↑p0.length)) (cond (B.inb v1 p0.length) (ob (c74 (p0.getD v1.toNat ty63.dflt).1) fun y0=>ob (c61 (p0.getD v1.toNat ty63.dflt).1) fun y1=>cond (B.eq y1 0) (cond (B.eq (p0.getD v1.toNat ty63.dflt).1 1) (ob (c75 ((p0.getD v1.toNat ty63.dflt).2).1) fun y2=>cond (B.lim (List.length v2+List.length ((y2,y0)::mt (Ty.den ty77))) 24) (again (.l0 (IntKind.wrap .i64 (v1+1)) (v2++(y2,y0)::mt (Ty.den ty77)))) none) (cond (B.eq (p0.getD v1.toNat ty63.dflt).1 2) (cond (B.lim (List.length v2+List.length (((((p0.getD v1.toNat ty63.dflt).2).2).1,y0)::mt (Ty.den ty77))) 24) (again (.l0 (IntKind.wrap .i64 (v1+1)) (v2++((((p0.getD v1.toNat ty63.dflt).2).2).1,y0)::mt (Ty.den ty77)))) none) (cond (B.lim (List.length ((((p0.getD v1.toNat ty63.dflt).2).2).1)+1) 1) (cond (B.lim (List.length ((((p0.getD v1.toNat ty63.dflt).2).2).1++([64]:LB))+List.length (((p0.getD v1.toNat ty63.dflt).2).2).2) 1) (cond (B.lim (List.length v2+List.length (((((p0.getD v1.toNat ty63.dflt).2).2).1++([64]:LB)++(((p0.getD v1.toNat ty63.dflt).2).2).2,y0)::mt (Ty.den ty77))) 24) (again (.l0 (IntKind.wrap .i64 (v1+1)) (v2++((((p0.getD v1.toNat ty63.dflt).2).2).1++([64]:LB)++(((p0.getD v1.toNat ty63.dflt).2).2).2,y0)::mt (Ty.den ty77)))) none) none) none))) (cond (B.eq y1 1) (cond (B.lt (↑v2.length) 1) (k (mt UInt8)) (cond (B.inb (p0.getD v1.toNat ty63.dflt).1 17) (cond (B.inb (IntKind.wrap .i64 (Nat.cast v2.length-1)) v2.length) (ob (c76 (v2.getD (Int.toNat (IntKind.wrap .i64 (Nat.cast v2.length-1))) ty122.dflt).1 (v2.getD (Int.toNat (IntKind.wrap .i64 (Nat.cast v2.length-1))) ty122.dflt).2 y0) fun y2=>cond (B.lim (List.length (List.getD ((mt UInt8)::(mt UInt8)::(mt UInt8)::(mt UInt8)::([33]:LB)::([45]:LB)::([42]:LB)::([43]:LB)::([45]:LB)::([60]:LB)::([60,61]:LB)::([62]:LB)::([62,61]:LB)::([61,61]:LB)::([33,61]:LB)::([38,38]:LB)::([124,124]:LB)::mt LB) (Int.toNat (p0.getD v1.toNat ty63.dflt).1) (mt UInt8))+List.length y2) 1) (cond (B.inb (IntKind.wrap .i64 (Nat.cast v2.length-1)) (List.length v2+1)) (cond (B.lim (List.length (List.take (Int.toNat (IntKind.wrap .i64 (Nat.cast v2.length-1))) v2)+List.length ((List.getD ((mt UInt8)::(mt UInt8)::(mt UInt8)::(mt UInt8)::([33]:LB)::([45]:LB)::([42]:LB)::([43]:LB)::([45]:LB)::([60]:LB)::([60,61]:LB)::([62]:LB)::([62,61]:LB)::([61,61]:LB)::([33,61]:LB)::([38,38]:LB)::([124,124]:LB)::mt LB) (Int.toNat (p0.getD v1.toNat ty63.dflt).1) (mt UInt8)++y2,y0)::mt (Ty.den ty77))) 24) (again (.l0 (IntKind.wrap .i64 (v1+1)) (List.take (Int.toNat (IntKind.wrap .i64 (Nat.cast v2.length-1))) v2++(List.getD ((mt UInt8)::(mt UInt8)::(mt UInt8)::(mt UInt8)::([33]:LB)::([45]:LB)::([42]:LB)::([43]:LB)::([45]:LB)::([60]:LB)::([60,61]:LB)::([62]:LB)::([62,61]:LB)::([61,61]:LB)::([33,61]:LB)::([38,38]:LB)::([124,124]:LB)::mt LB) (Int.toNat (p0.getD v1.toNat ty63.dflt).1) (mt UInt8)++y2,y0)::mt (Ty.den ty77)))) none) none) none) none) none)) (cond (B.lt (↑v2.length) 2) (k (mt UInt8)) (cond (B.eq y0 3) (cond (B.inb (IntKind.wrap .i64 (Nat.cast v2.length-2)) v2.length) (cond (B.inb (p0.getD v1.toNat ty63.dflt).1 17) (cond (B.inb (IntKind.wrap .i64 (Nat.cast v2.length-1)) v2.length) (ob (c76 (v2.getD (Int.toNat (IntKind.wrap .i64 (Nat.cast v2.length-2))) ty122.dflt).1 (v2.getD (Int.toNat (IntKind.wrap .i64 (Nat.cast v2.length-2))) ty122.dflt).2 4) fun y2=>cond (B.lim (List.length y2+List.length (List.getD ((mt UInt8)::(mt UInt8)::(mt UInt8)::(mt UInt8)::([33]:LB)::([45]:LB)::([42]:LB)::([43]:LB)::([45]:LB)::([60]:LB)::([60,61]:LB)::([62]:LB)::([62,61]:LB)::([61,61]:LB)::([33,61]:LB)::([38,38]:LB)::([124,124]:LB)::mt LB) (Int.toNat (p0.getD v1.toNat ty63.dflt).1) (mt UInt8))) 1) (ob (c76 (v2.getD (Int.toNat (IntKind.wrap .i64 (Nat.cast v2.length-1))) ty122.dflt).1 (v2.getD (Int.toNat (IntKind.wrap .i64 (Nat.cast v2.length-1))) ty122.dflt).2 (IntKind.wrap .i64 (y0+1))) fun y3=>cond (B.lim (List.length (y2++List.getD ((mt UInt8)::(mt UInt8)::(mt UInt8)::(mt UInt8)::([33]:LB)::([45]:LB)::([42]:LB)::([43]:LB)::([45]:LB)::([60]:LB)::([60,61]:LB)::([62]:LB)::([62,61]:LB)::([61,61]:LB)::([33,61]:LB)::([38,38]:LB)::([124,124]:LB)::mt LB) (Int.toNat (p0.getD v1.toNat ty63.dflt).1) (mt UInt8))+List.length y3) 1) (cond (B.inb (IntKind.wrap .i64 (Nat.cast v2.length-2)) (List.length v2+1)) (cond (B.lim (List.length (List.take (Int.toNat (IntKind.wrap .i64 (Nat.cast v2.length-2))) v2)+List.length ((y2++List.getD ((mt UInt8)::(mt UInt8)::(mt UInt8)::(mt UInt8)::([33]:LB)::([45]:LB)::([42]:LB)::([43]:LB)::([45]:LB)::([60]:LB)::([60,61]:LB)::([62]:LB)::([62,61]:LB)::([61,61]:LB)::([33,61]:LB)::([38,38]:LB)::([124,124]:LB)::mt LB) (Int.toNat (p0.getD v1.toNat ty63.dflt).1) (mt UInt8)++y3,y0)::mt (Ty.den ty77))) 24) (again (.l0 (IntKind.wrap .i64 (v1+1)) (List.take (Int.toNat (IntKind.wrap .i64 (Nat.cast v2.length-2))) v2++(y2++List.getD ((mt UInt8)::(mt UInt8)::(mt UInt8)::(mt UInt8)::([33]:LB)::([45]:LB)::([42]:LB)::([43]:LB)::([45]:LB)::([60]:LB)::([60,61]:LB)::([62]:LB)::([62,61]:LB)::([61,61]:LB)::([33,61]:LB)::([38,38]:LB)::([124,124]:LB)::mt LB) (Int.toNat (p0.getD v1.toNat ty63.dflt).1) (mt UInt8)++y3,y0)::mt (Ty.den ty77)))) none) none) none) none) none) none) none) (cond (B.inb (IntKind.wrap .i64 (Nat.cast v2.length-2)) v2.length) (cond (B.inb (p0.getD v1.toNat ty63.dflt).1 17) (cond (B.inb (IntKind.wrap .i64 (Nat.cast v2.length-1)) v2.length) (ob (c76 (v2.getD (Int.toNat (IntKind.wrap .i64 (Nat.cast v2.length-2))) ty122.dflt).1 (v2.getD (Int.toNat (IntKind.wrap .i64 (Nat.cast v2.length-2))) ty122.dflt).2 y0) fun y2=>cond (B.lim (List.length y2+List.length (List.getD ((mt UInt8)::(mt UInt8)::(mt UInt8)::(mt UInt8)::([33]:LB)::([45]:LB)::([42]:LB)::([43]:LB)::([45]:LB)::([60]:LB)::([60,61]:LB)::([62]:LB)::([62,61]:LB)::([61,61]:LB)::([33,61]:LB)::([38,38]:LB)::([124,124]:LB)::mt LB) (Int.toNat (p0.getD v1.toNat ty63.dflt).1) (mt UInt8))) 1) (ob (c76 (v2.getD (Int.toNat (IntKind.wrap .i64 (Nat.cast v2.length-1))) ty122.dflt).1 (v2.getD (Int.toNat (IntKind.wrap .i64 (Nat.cast v2.length-1))) ty122.dflt).2 (IntKind.wrap .i64 (y0+1))) fun y3=>cond (B.lim (List.length (y2++List.getD ((mt UInt8)::(mt UInt8)::(mt UInt8)::(mt UInt8)::([33]:LB)::([45]:LB)::([42]:LB)::([43]:LB)::([45]:LB)::([60]:LB)::([60,61]:LB)::([62]:LB)::([62,61]:LB)::([61,61]:LB)::([33,61]:LB)::([38,38]:LB)::([124,124]:LB)::mt LB) (Int.toNat (p0.getD v1.toNat ty63.dflt).1) (mt UInt8))+List.length y3) 1) (cond (B.inb (IntKind.wrap .i64 (Nat.cast v2.length-2)) (List.length v2+1)) (cond (B.lim (List.length (List.take (Int.toNat (IntKind.wrap .i64 (Nat.cast v2.length-2))) v2)+List.length ((y2++List.getD ((mt UInt8)::(mt UInt8)::(mt UInt8)::(mt UInt8)::([33]:LB)::([45]:LB)::([42]:LB)::([43]:LB)::([45]:LB)::([60]:LB)::([60,61]:LB)::([62]:LB)::([62,61]:LB)::([61,61]:LB)::([33,61]:LB)::([38,38]:LB)::([124,124]:LB)::mt LB) (Int.toNat (p0.getD v1.toNat ty63.dflt).1) (mt UInt8)++y3,y0)::mt (Ty.den ty77))) 24) (again (.l0 (IntKind.wrap .i64 (v1+1)) (List.take (Int.toNat (IntKind.wrap .i64 (Nat.cast v2.length-2))) v2++(y2++List.getD ((mt UInt8)::(mt UInt8)::(mt UInt8)::(mt UInt8)::([33]:LB)::([45]:LB)::([42]:LB)::([43]:LB)::([45]:LB)::([60]:LB)::([60,61]:LB)::([62]:LB)::([62,61]:LB)::([61,61]:LB)::([33,61]:LB)::([38,38]:LB)::([124,124]:LB)::mt LB) (Int.toNat (p0.getD v1.toNat ty63.dflt).1) (mt UInt8)++y3,y0)::mt (Ty.den ty77)))) none) none) none) none) none) none) none))))) none) (cond (B.eq (↑v2.length) 0) (k (mt UInt8)) (cond (B.inb 0 v2.length) (k (v2.getD (Int.toNat 0) ty122.dflt).1) none))
def E41 (p0:L63):S41→List AV×Objs
 | .l0 v1 v2=>(mk 126 [(0,.c (.list 63 ty63 p0)),(3,.c (.own 3)),(4,.c (.ptr 4 0)),(5,.c (.int .i64 v1))],[(3,.row 122 ty122 v2),(4,.box 120 [.str (mt UInt8),.str (mt UInt8),.str (mt UInt8),.str (mt UInt8),.str ([33]:LB),.str ([45]:LB),.str ([42]:LB),.str ([43]:LB),.str ([45]:LB),.str ([60]:LB),.str ([60,61]:LB),.str ([62]:LB),.str ([62,61]:LB),.str ([61,61]:LB),.str ([33,61]:LB),.str ([38,38]:LB),.str ([124,124]:LB)])])
def I41:S41→Nat
 | .l0 _ _=>0
noncomputable abbrev A41 {R:Type} (B:Ops) (c28:C28) (c74:C74) (c61:C61) (c75:C75) (c76:C76) (p0:L63) (k:AV→Objs→Option R) (s:S41) (n:Nat):Option R:=aloop tau B gl0 X41 (ent 28 (e28 c28) (ent 74 (e74 c74) (ent 61 (e61 c61) (ent 75 (e75 c75) (ent 76 (e76 c76) gnil))))) ow [] Tryz.f41 k (I41 s) (E41 p0 s) n
theorem eq41 {R:Type} (B:Ops) (c28:C28) (c74:C74) (c61:C61) (c75:C75) (c76:C76) (p0:L63) (k:AV→Objs→Option R) (n:Nat):afun tau B gl0 X41 (ent 28 (e28 c28) (ent 74 (e74 c74) (ent 61 (e61 c61) (ent 75 (e75 c75) (ent 76 (e76 c76) gnil))))) ow Tryz.f41 [.c (.list 63 ty63 p0)] [] k n=T41 B c28 c74 c61 c75 c76 p0 (fun s=>A41 B c28 c74 c61 c75 c76 p0 k s n) (K3 k) none:=by kernel_rfl
theorem el41 {R:Type} (B:Ops) (c28:C28) (c74:C74) (c61:C61) (c75:C75) (c76:C76) (p0:L63) (k:AV→Objs→Option R) (n:Nat):∀ s,A41 B c28 c74 c61 c75 c76 p0 k s (n+1)=T41 B c28 c74 c61 c75 c76 p0 (fun s=>A41 B c28 c74 c61 c75 c76 p0 k s n) (K3 k) (some s):=by
 intro s
 cases s<;>kernel_rfl
theorem nt41 {R R':Type} (B:Ops) (c28:C28) (c74:C74) (c61:C61) (c75:C75) (c76:C76) (p0:L63) (again:S41→Option R) (again':S41→Option R') (k0:(LB)→Option R') (k:R'→Option R) (h:∀ s,again s=ob (again' s) k):∀ s,T41 B c28 c74 c61 c75 c76 p0 again (fun y=>ob (k0 y) k) s=ob (T41 B c28 c74 c61 c75 c76 p0 again' k0 s) k:=by
 rintro (_ | x)
 all_goals try cases x
 all_goals (unfold T41;repeat' first | exact rfl | exact h _ | apply qac | (apply qai;intro))
def R41 (c28:C28) (c74:C74) (c61:C61) (c75:C75) (c76:C76) (p0:L63):Nat→S41→Option (LB)
 | 0,_=>none
 | n+1,s=>T41 Ops.std c28 c74 c61 c75 c76 p0 (R41 c28 c74 c61 c75 c76 p0 n) some (some s)
theorem rr41 {R:Type} (c28:C28) (c74:C74) (c61:C61) (c75:C75) (c76:C76) (p0:L63) (k:AV→Objs→Option R):∀ (n:Nat) (s:S41),A41 Ops.std c28 c74 c61 c75 c76 p0 k s n=ob (R41 c28 c74 c61 c75 c76 p0 n s) (K3 k)
 | 0,s=>by cases s<;>rfl
 | n+1,s=>by rw [el41];exact nt41 Ops.std c28 c74 c61 c75 c76 p0 _ _ some (K3 k) (rr41 c28 c74 c61 c75 c76 p0 k n) (some s)
def F41 (c28:C28) (c74:C74) (c61:C61) (c75:C75) (c76:C76) (p0:L63):Option (LB):=T41 Ops.std c28 c74 c61 c75 c76 p0 (R41 c28 c74 c61 c75 c76 p0 1000000) some none
abbrev C41:Type:=L63→Option (LB)
def e41 {R:Type} (c:C41):Ent R:=eG [.aC (.cL 63 ty63)] [] fun v k=>ob (c v.1) (K3 k)
abbrev Sp41 (c:C41):Prop:=∀ (p0:L63) (y:LB),c p0=some y→Spec Tryz.prog gl0 41 [.c (.list 63 ty63 p0)] [] (.c (.str y)) []
theorem ek41 {R:Type} {c:C41} (hs:Sp41 c):EOk 41 (e41 (R:=R) c):=qak fun v=>hs v.1
theorem sf41 {c28:C28} {c74:C74} {c61:C61} {c75:C75} {c76:C76} (h28:Sp28 c28) (h74:Sp74 c74) (h61:Sp61 c61) (h75:Sp75 c75) (h76:Sp76 c76):Sp41 (F41 c28 c74 c61 c75 c76):=fun p0 y hy=>by
 refine qae (qab (ek28 h28) (qab (ek74 h74) (qab (ek61 h61) (qab (ek75 h75) (qab (ek76 h76) qad))))) 1000000 (fn:=Tryz.f41) (by kernel_rfl) (by kernel_rfl) (X:=X41) (by kernel_rfl) ?_
 rw [eq41]
 exact (nt41 Ops.std c28 c74 c61 c75 c76 p0 _ _ some (K3 k0) (rr41 c28 c74 c61 c75 c76 p0 k0 1000000) none).trans (by show ob (F41 c28 c74 c61 c75 c76 p0) _=_;rw [hy];rfl)
noncomputable def M41:C41:=F41 M28 M74 M61 M75 M76
theorem sm41:Sp41 M41:=sf41 sm28 sm74 sm61 sm75 sm76
def X16:Aux:=⟨[(5,([1,2]++rg 5 130))],[(27,.lin (rg 0 12)),(28,.lin (rg 0 10)),(18,.lin ([0,1,2,3,4,5,7,8,10,11,12,13,14,15,6,9,16,17,18,19])),(19,.lin (rg 0 10))]⟩
inductive S16 where
 | l0 (v1:Int) (v2:L82)
def T16 {R:Type} (B:Ops) (c10:C10) (c39:C39) (c40:C40) (c27:C27) (c41:C41) (c42:C42) (p0:L61) (again:S16→Option R) (k:(LB)→Option R):Option S16→Option R | none=>ob (c10 p0) fun y0=>cond (!y0) (k (mt UInt8)) (again (.l0 0 (mt (Ty.den ty77)))) | some (.l0 v1 v2)=>cond (B.lt v1 (↑p0.length)) (cond (B.inb v1 p0.length) (ob (c39 (p0.getD v1.toNat ty61.dflt).1) fun y0=>cond (B.inb v1 p0.length) (ob (c40 (p0.getD v1.toNat ty61.dflt).1) fun y1=>cond (B.inb v1 p0.length) (ob (c27 (p0.getD v1.toNat ty61.dflt).1) fun y2=>cond (B.eq y2 0) (cond (B.inb v1 p0.length) (cond (B.eq (p0.getD v1.toNat ty61.dflt).1 3) (cond (B.inb v1 p0.length) (ob (c41 (p0.getD v1.toNat ty61.dflt).2) fun y3=>cond (B.lim (1+List.length y3) 1) (cond (B.lim (List.length (([91]:LB)++y3)+1) 1) (cond (B.lim (List.length v2+List.length ((([91]:LB)++y3++([93]:LB),y0)::mt (Ty.den ty77))) 24) (again (.l0 (IntKind.wrap .i64 (v1+1)) (v2++(([91]:LB)++y3++([93]:LB),y0)::mt (Ty.den ty77)))) none) none) none) none) (cond (B.lim (List.length v2+List.length ((y1,y0)::mt (Ty.den ty77))) 24) (again (.l0 (IntKind.wrap .i64 (v1+1)) (v2++(y1,y0)::mt (Ty.den ty77)))) none)) none) (cond (B.eq y2 1) (cond (B.lt (↑v2.length) 1) (k (mt UInt8)) (cond (B.inb (IntKind.wrap .i64 (Nat.cast v2.length-1)) v2.length) (ob (c42 (v2.getD (Int.toNat (IntKind.wrap .i64 (Nat.cast v2.length-1))) ty82.dflt).1 (v2.getD (Int.toNat (IntKind.wrap .i64 (Nat.cast v2.length-1))) ty82.dflt).2 y0) fun y3=>cond (B.lim (List.length y1+List.length y3) 1) (cond (B.eq (IntKind.wrap .i64 (Nat.cast v2.length-1)) (IntKind.wrap .i64 (Nat.cast v2.length-1))) (cond (B.inb (IntKind.wrap .i64 (Nat.cast v2.length-1)) (List.length v2+1)) (cond (B.lt 0 (Nat.cast (List.length ((y1++y3,y0)::mt (Ty.den ty77))))) (cond (B.lim (List.length (List.take (Int.toNat (IntKind.wrap .i64 (Nat.cast v2.length-1))) v2)+List.length ((y1++y3,y0)::mt (Ty.den ty77))) 24) (again (.l0 (IntKind.wrap .i64 (v1+1)) (List.take (Int.toNat (IntKind.wrap .i64 (Nat.cast v2.length-1))) v2++(y1++y3,y0)::mt (Ty.den ty77)))) none) none) none) none) none) none)) (cond (B.lt (↑v2.length) 2) (k (mt UInt8)) (cond (B.eq y0 1) (cond (B.inb (IntKind.wrap .i64 (Nat.cast v2.length-2)) v2.length) (cond (B.inb (IntKind.wrap .i64 (Nat.cast v2.length-1)) v2.length) (ob (c42 (v2.getD (Int.toNat (IntKind.wrap .i64 (Nat.cast v2.length-2))) ty82.dflt).1 (v2.getD (Int.toNat (IntKind.wrap .i64 (Nat.cast v2.length-2))) ty82.dflt).2 (IntKind.wrap .i64 (y0+1))) fun y3=>cond (B.lim (List.length y3+List.length y1) 1) (ob (c42 (v2.getD (Int.toNat (IntKind.wrap .i64 (Nat.cast v2.length-1))) ty82.dflt).1 (v2.getD (Int.toNat (IntKind.wrap .i64 (Nat.cast v2.length-1))) ty82.dflt).2 y0) fun y4=>cond (B.lim (List.length (y3++y1)+List.length y4) 1) (cond (B.eq (IntKind.wrap .i64 (Nat.cast v2.length-2)) (IntKind.wrap .i64 (Nat.cast v2.length-2))) (cond (B.inb (IntKind.wrap .i64 (Nat.cast v2.length-2)) (List.length v2+1)) (cond (B.lt 0 (Nat.cast (List.length ((y3++y1++y4,y0)::mt (Ty.den ty77))))) (cond (B.lim (List.length (List.take (Int.toNat (IntKind.wrap .i64 (Nat.cast v2.length-2))) v2)+List.length ((y3++y1++y4,y0)::mt (Ty.den ty77))) 24) (again (.l0 (IntKind.wrap .i64 (v1+1)) (List.take (Int.toNat (IntKind.wrap .i64 (Nat.cast v2.length-2))) v2++(y3++y1++y4,y0)::mt (Ty.den ty77)))) none) none) none) none) none) none) none) none) (cond (B.eq y0 4) (cond (B.inb (IntKind.wrap .i64 (Nat.cast v2.length-2)) v2.length) (cond (B.inb (IntKind.wrap .i64 (Nat.cast v2.length-1)) v2.length) (ob (c42 (v2.getD (Int.toNat (IntKind.wrap .i64 (Nat.cast v2.length-2))) ty82.dflt).1 (v2.getD (Int.toNat (IntKind.wrap .i64 (Nat.cast v2.length-2))) ty82.dflt).2 (IntKind.wrap .i64 (y0+1))) fun y3=>cond (B.lim (List.length y3+List.length y1) 1) (ob (c42 (v2.getD (Int.toNat (IntKind.wrap .i64 (Nat.cast v2.length-1))) ty82.dflt).1 (v2.getD (Int.toNat (IntKind.wrap .i64 (Nat.cast v2.length-1))) ty82.dflt).2 y0) fun y4=>cond (B.lim (List.length (y3++y1)+List.length y4) 1) (cond (B.eq (IntKind.wrap .i64 (Nat.cast v2.length-2)) (IntKind.wrap .i64 (Nat.cast v2.length-2))) (cond (B.inb (IntKind.wrap .i64 (Nat.cast v2.length-2)) (List.length v2+1)) (cond (B.lt 0 (Nat.cast (List.length ((y3++y1++y4,y0)::mt (Ty.den ty77))))) (cond (B.lim (List.length (List.take (Int.toNat (IntKind.wrap .i64 (Nat.cast v2.length-2))) v2)+List.length ((y3++y1++y4,y0)::mt (Ty.den ty77))) 24) (again (.l0 (IntKind.wrap .i64 (v1+1)) (List.take (Int.toNat (IntKind.wrap .i64 (Nat.cast v2.length-2))) v2++(y3++y1++y4,y0)::mt (Ty.den ty77)))) none) none) none) none) none) none) none) none) (cond (B.inb (IntKind.wrap .i64 (Nat.cast v2.length-2)) v2.length) (cond (B.inb (IntKind.wrap .i64 (Nat.cast v2.length-1)) v2.length) (ob (c42 (v2.getD (Int.toNat (IntKind.wrap .i64 (Nat.cast v2.length-2))) ty82.dflt).1 (v2.getD (Int.toNat (IntKind.wrap .i64 (Nat.cast v2.length-2))) ty82.dflt).2 y0) fun y3=>cond (B.lim (List.length y3+List.length y1) 1) (ob (c42 (v2.getD (Int.toNat (IntKind.wrap .i64 (Nat.cast v2.length-1))) ty82.dflt).1 (v2.getD (Int.toNat (IntKind.wrap .i64 (Nat.cast v2.length-1))) ty82.dflt).2 (IntKind.wrap .i64 (y0+1))) fun y4=>cond (B.lim (List.length (y3++y1)+List.length y4) 1) (cond (B.eq (IntKind.wrap .i64 (Nat.cast v2.length-2)) (IntKind.wrap .i64 (Nat.cast v2.length-2))) (cond (B.inb (IntKind.wrap .i64 (Nat.cast v2.length-2)) (List.length v2+1)) (cond (B.lt 0 (Nat.cast (List.length ((y3++y1++y4,y0)::mt (Ty.den ty77))))) (cond (B.lim (List.length (List.take (Int.toNat (IntKind.wrap .i64 (Nat.cast v2.length-2))) v2)+List.length ((y3++y1++y4,y0)::mt (Ty.den ty77))) 24) (again (.l0 (IntKind.wrap .i64 (v1+1)) (List.take (Int.toNat (IntKind.wrap .i64 (Nat.cast v2.length-2))) v2++(y3++y1++y4,y0)::mt (Ty.den ty77)))) none) none) none) none) none) none) none) none)))))) none) none) none) (cond (B.eq (↑v2.length) 0) (k (mt UInt8)) (cond (B.inb 0 v2.length) (k (v2.getD (Int.toNat 0) ty82.dflt).1) none))
def E16 (p0:L61):S16→List AV×Objs
 | .l0 v1 v2=>(mk 135 [(0,.c (.list 61 ty61 p0)),(3,.c (.own 3)),(4,.c (.int .i64 v1))],[(3,.row 82 ty82 v2)])
def I16:S16→Nat
 | .l0 _ _=>0
noncomputable abbrev A16 {R:Type} (B:Ops) (c10:C10) (c39:C39) (c40:C40) (c27:C27) (c41:C41) (c42:C42) (p0:L61) (k:AV→Objs→Option R) (s:S16) (n:Nat):Option R:=aloop tau B gl0 X16 (ent 10 (e10 c10) (ent 39 (e39 c39) (ent 40 (e40 c40) (ent 27 (e27 c27) (ent 41 (e41 c41) (ent 42 (e42 c42) gnil)))))) ow [] Tryz.f16 k (I16 s) (E16 p0 s) n
theorem eq16 {R:Type} (B:Ops) (c10:C10) (c39:C39) (c40:C40) (c27:C27) (c41:C41) (c42:C42) (p0:L61) (k:AV→Objs→Option R) (n:Nat):afun tau B gl0 X16 (ent 10 (e10 c10) (ent 39 (e39 c39) (ent 40 (e40 c40) (ent 27 (e27 c27) (ent 41 (e41 c41) (ent 42 (e42 c42) gnil)))))) ow Tryz.f16 [.c (.list 61 ty61 p0)] [] k n=T16 B c10 c39 c40 c27 c41 c42 p0 (fun s=>A16 B c10 c39 c40 c27 c41 c42 p0 k s n) (K3 k) none:=by kernel_rfl
theorem el16 {R:Type} (B:Ops) (c10:C10) (c39:C39) (c40:C40) (c27:C27) (c41:C41) (c42:C42) (p0:L61) (k:AV→Objs→Option R) (n:Nat):∀ s,A16 B c10 c39 c40 c27 c41 c42 p0 k s (n+1)=T16 B c10 c39 c40 c27 c41 c42 p0 (fun s=>A16 B c10 c39 c40 c27 c41 c42 p0 k s n) (K3 k) (some s):=by
 intro s
 cases s<;>kernel_rfl
theorem nt16 {R R':Type} (B:Ops) (c10:C10) (c39:C39) (c40:C40) (c27:C27) (c41:C41) (c42:C42) (p0:L61) (again:S16→Option R) (again':S16→Option R') (k0:(LB)→Option R') (k:R'→Option R) (h:∀ s,again s=ob (again' s) k):∀ s,T16 B c10 c39 c40 c27 c41 c42 p0 again (fun y=>ob (k0 y) k) s=ob (T16 B c10 c39 c40 c27 c41 c42 p0 again' k0 s) k:=by
 rintro (_ | x)
 all_goals try cases x
 all_goals (unfold T16;repeat' first | exact rfl | exact h _ | apply qac | (apply qai;intro))
def R16 (c10:C10) (c39:C39) (c40:C40) (c27:C27) (c41:C41) (c42:C42) (p0:L61):Nat→S16→Option (LB)
 | 0,_=>none
 | n+1,s=>T16 Ops.std c10 c39 c40 c27 c41 c42 p0 (R16 c10 c39 c40 c27 c41 c42 p0 n) some (some s)
theorem rr16 {R:Type} (c10:C10) (c39:C39) (c40:C40) (c27:C27) (c41:C41) (c42:C42) (p0:L61) (k:AV→Objs→Option R):∀ (n:Nat) (s:S16),A16 Ops.std c10 c39 c40 c27 c41 c42 p0 k s n=ob (R16 c10 c39 c40 c27 c41 c42 p0 n s) (K3 k)
 | 0,s=>by cases s<;>rfl
 | n+1,s=>by rw [el16];exact nt16 Ops.std c10 c39 c40 c27 c41 c42 p0 _ _ some (K3 k) (rr16 c10 c39 c40 c27 c41 c42 p0 k n) (some s)
def F16 (c10:C10) (c39:C39) (c40:C40) (c27:C27) (c41:C41) (c42:C42) (p0:L61):Option (LB):=T16 Ops.std c10 c39 c40 c27 c41 c42 p0 (R16 c10 c39 c40 c27 c41 c42 p0 1000000) some none
abbrev C16:Type:=L61→Option (LB)
def e16 {R:Type} (c:C16):Ent R:=eG [.aC (.cL 61 ty61)] [] fun v k=>ob (c v.1) (K3 k)
abbrev Sp16 (c:C16):Prop:=∀ (p0:L61) (y:LB),c p0=some y→Spec Tryz.prog gl0 16 [.c (.list 61 ty61 p0)] [] (.c (.str y)) []
theorem ek16 {R:Type} {c:C16} (hs:Sp16 c):EOk 16 (e16 (R:=R) c):=qak fun v=>hs v.1
theorem sf16 {c10:C10} {c39:C39} {c40:C40} {c27:C27} {c41:C41} {c42:C42} (h10:Sp10 c10) (h39:Sp39 c39) (h40:Sp40 c40) (h27:Sp27 c27) (h41:Sp41 c41) (h42:Sp42 c42):Sp16 (F16 c10 c39 c40 c27 c41 c42):=fun p0 y hy=>by
 refine qae (qab (ek10 h10) (qab (ek39 h39) (qab (ek40 h40) (qab (ek27 h27) (qab (ek41 h41) (qab (ek42 h42) qad)))))) 1000000 (fn:=Tryz.f16) (by kernel_rfl) (by kernel_rfl) (X:=X16) (by kernel_rfl) ?_
 rw [eq16]
 exact (nt16 Ops.std c10 c39 c40 c27 c41 c42 p0 _ _ some (K3 k0) (rr16 c10 c39 c40 c27 c41 c42 p0 k0 1000000) none).trans (by show ob (F16 c10 c39 c40 c27 c41 c42 p0) _=_;rw [hy];rfl)
noncomputable def M16:C16:=F16 M10 M39 M40 M27 M41 M42
theorem sm16:Sp16 M16:=sf16 sm10 sm39 sm40 sm27 sm41 sm42
def X66:Aux:=⟨[(2,([0,3,4]++rg 6 16))],[]⟩
inductive S66 where
 | l0 (v1:Int)
def T66 {R:Type} (B:Ops) (p0:L97) (p1:L101) (p2:L104) (p3:LB) (again:S66→Option R) (k:(Int)→Option R):Option S66→Option R | none=>again (.l0 0) | some (.l0 v1)=>cond (B.lt v1 (↑p0.length)) (cond (B.inb v1 p0.length) (cond ((p0.getD v1.toNat ty97.dflt).1 == p3) (k v1) (again (.l0 (IntKind.wrap .i64 (v1+1))))) none) (k (-1))
def E66 (p0:L97) (p1:L101) (p2:L104) (p3:LB):S66→List AV×Objs
 | .l0 v1=>(mk 22 [(1,.c (.str p3)),(2,.c (.ptr 2 0)),(5,.c (.int .i64 v1))],[(2,.box 37 [.list 97 ty97 p0,.list 101 ty101 p1,.list 104 ty104 p2])])
def I66:S66→Nat
 | .l0 _=>0
noncomputable abbrev A66 {R:Type} (B:Ops) (p0:L97) (p1:L101) (p2:L104) (p3:LB) (k:AV→Objs→Option R) (s:S66) (n:Nat):Option R:=aloop tau B gl0 X66 gnil ow [] Tryz.f66 k (I66 s) (E66 p0 p1 p2 p3 s) n
theorem eq66 {R:Type} (B:Ops) (p0:L97) (p1:L101) (p2:L104) (p3:LB) (k:AV→Objs→Option R) (n:Nat):afun tau B gl0 X66 gnil ow Tryz.f66 [.agg [.list 97 ty97 p0,.list 101 ty101 p1,.list 104 ty104 p2],.c (.str p3)] [] k n=T66 B p0 p1 p2 p3 (fun s=>A66 B p0 p1 p2 p3 k s n) (K1 k) none:=by kernel_rfl
theorem el66 {R:Type} (B:Ops) (p0:L97) (p1:L101) (p2:L104) (p3:LB) (k:AV→Objs→Option R) (n:Nat):∀ s,A66 B p0 p1 p2 p3 k s (n+1)=T66 B p0 p1 p2 p3 (fun s=>A66 B p0 p1 p2 p3 k s n) (K1 k) (some s):=by
 intro s
 cases s<;>kernel_rfl
theorem nt66 {R R':Type} (B:Ops) (p0:L97) (p1:L101) (p2:L104) (p3:LB) (again:S66→Option R) (again':S66→Option R') (k0:(Int)→Option R') (k:R'→Option R) (h:∀ s,again s=ob (again' s) k):∀ s,T66 B p0 p1 p2 p3 again (fun y=>ob (k0 y) k) s=ob (T66 B p0 p1 p2 p3 again' k0 s) k:=by
 rintro (_ | x)
 all_goals try cases x
 all_goals (unfold T66;repeat' first | exact rfl | exact h _ | apply qac | (apply qai;intro))
def R66 (p0:L97) (p1:L101) (p2:L104) (p3:LB):Nat→S66→Option (Int)
 | 0,_=>none
 | n+1,s=>T66 Ops.std p0 p1 p2 p3 (R66 p0 p1 p2 p3 n) some (some s)
theorem rr66 {R:Type} (p0:L97) (p1:L101) (p2:L104) (p3:LB) (k:AV→Objs→Option R):∀ (n:Nat) (s:S66),A66 Ops.std p0 p1 p2 p3 k s n=ob (R66 p0 p1 p2 p3 n s) (K1 k)
 | 0,s=>by cases s<;>rfl
 | n+1,s=>by rw [el66];exact nt66 Ops.std p0 p1 p2 p3 _ _ some (K1 k) (rr66 p0 p1 p2 p3 k n) (some s)
def F66 (p0:L97) (p1:L101) (p2:L104) (p3:LB):Option (Int):=T66 Ops.std p0 p1 p2 p3 (R66 p0 p1 p2 p3 1000000) some none
abbrev C66:Type:=L97→L101→L104→LB→Option (Int)
def e66 {R:Type} (c:C66):Ent R:=eG [.aG [.cL 97 ty97,.cL 101 ty101,.cL 104 ty104],.aC .cS] [] fun v k=>ob (c v.1 v.2.1 v.2.2.1 v.2.2.2.1) (K1 k)
abbrev Sp66 (c:C66):Prop:=∀ (p0:L97) (p1:L101) (p2:L104) (p3:LB) (y:Int),c p0 p1 p2 p3=some y→Spec Tryz.prog gl0 66 [.agg [.list 97 ty97 p0,.list 101 ty101 p1,.list 104 ty104 p2],.c (.str p3)] [] (.c (.int .i64 y)) []
theorem ek66 {R:Type} {c:C66} (hs:Sp66 c):EOk 66 (e66 (R:=R) c):=qak fun v=>hs v.1 v.2.1 v.2.2.1 v.2.2.2.1
theorem sf66:Sp66 (F66):=fun p0 p1 p2 p3 y hy=>by
 refine qae qad 1000000 (fn:=Tryz.f66) (by kernel_rfl) (by kernel_rfl) (X:=X66) (by kernel_rfl) ?_
 rw [eq66]
 exact (nt66 Ops.std p0 p1 p2 p3 _ _ some (K1 k0) (rr66 p0 p1 p2 p3 k0 1000000) none).trans (by show ob (F66 p0 p1 p2 p3) _=_;rw [hy];rfl)
noncomputable def M66:C66:=F66
theorem sm66:Sp66 M66:=sf66
def X68:Aux:=⟨[(2,([0,3,4]++rg 6 16))],[]⟩
inductive S68 where
 | l0 (v1:Int)
def T68 {R:Type} (B:Ops) (p0:L97) (p1:L101) (p2:L104) (p3:LB) (again:S68→Option R) (k:(Int)→Option R):Option S68→Option R | none=>again (.l0 0) | some (.l0 v1)=>cond (B.lt v1 (↑p1.length)) (cond (B.inb v1 p1.length) (cond ((p1.getD v1.toNat ty101.dflt).1 == p3) (k v1) (again (.l0 (IntKind.wrap .i64 (v1+1))))) none) (k (-1))
def E68 (p0:L97) (p1:L101) (p2:L104) (p3:LB):S68→List AV×Objs
 | .l0 v1=>(mk 22 [(1,.c (.str p3)),(2,.c (.ptr 2 0)),(5,.c (.int .i64 v1))],[(2,.box 37 [.list 97 ty97 p0,.list 101 ty101 p1,.list 104 ty104 p2])])
def I68:S68→Nat
 | .l0 _=>0
noncomputable abbrev A68 {R:Type} (B:Ops) (p0:L97) (p1:L101) (p2:L104) (p3:LB) (k:AV→Objs→Option R) (s:S68) (n:Nat):Option R:=aloop tau B gl0 X68 gnil ow [] Tryz.f68 k (I68 s) (E68 p0 p1 p2 p3 s) n
theorem eq68 {R:Type} (B:Ops) (p0:L97) (p1:L101) (p2:L104) (p3:LB) (k:AV→Objs→Option R) (n:Nat):afun tau B gl0 X68 gnil ow Tryz.f68 [.agg [.list 97 ty97 p0,.list 101 ty101 p1,.list 104 ty104 p2],.c (.str p3)] [] k n=T68 B p0 p1 p2 p3 (fun s=>A68 B p0 p1 p2 p3 k s n) (K1 k) none:=by kernel_rfl
theorem el68 {R:Type} (B:Ops) (p0:L97) (p1:L101) (p2:L104) (p3:LB) (k:AV→Objs→Option R) (n:Nat):∀ s,A68 B p0 p1 p2 p3 k s (n+1)=T68 B p0 p1 p2 p3 (fun s=>A68 B p0 p1 p2 p3 k s n) (K1 k) (some s):=by
 intro s
 cases s<;>kernel_rfl
theorem nt68 {R R':Type} (B:Ops) (p0:L97) (p1:L101) (p2:L104) (p3:LB) (again:S68→Option R) (again':S68→Option R') (k0:(Int)→Option R') (k:R'→Option R) (h:∀ s,again s=ob (again' s) k):∀ s,T68 B p0 p1 p2 p3 again (fun y=>ob (k0 y) k) s=ob (T68 B p0 p1 p2 p3 again' k0 s) k:=by
 rintro (_ | x)
 all_goals try cases x
 all_goals (unfold T68;repeat' first | exact rfl | exact h _ | apply qac | (apply qai;intro))
def R68 (p0:L97) (p1:L101) (p2:L104) (p3:LB):Nat→S68→Option (Int)
 | 0,_=>none
 | n+1,s=>T68 Ops.std p0 p1 p2 p3 (R68 p0 p1 p2 p3 n) some (some s)
theorem rr68 {R:Type} (p0:L97) (p1:L101) (p2:L104) (p3:LB) (k:AV→Objs→Option R):∀ (n:Nat) (s:S68),A68 Ops.std p0 p1 p2 p3 k s n=ob (R68 p0 p1 p2 p3 n s) (K1 k)
 | 0,s=>by cases s<;>rfl
 | n+1,s=>by rw [el68];exact nt68 Ops.std p0 p1 p2 p3 _ _ some (K1 k) (rr68 p0 p1 p2 p3 k n) (some s)
def F68 (p0:L97) (p1:L101) (p2:L104) (p3:LB):Option (Int):=T68 Ops.std p0 p1 p2 p3 (R68 p0 p1 p2 p3 1000000) some none
abbrev C68:Type:=L97→L101→L104→LB→Option (Int)
def e68 {R:Type} (c:C68):Ent R:=eG [.aG [.cL 97 ty97,.cL 101 ty101,.cL 104 ty104],.aC .cS] [] fun v k=>ob (c v.1 v.2.1 v.2.2.1 v.2.2.2.1) (K1 k)
abbrev Sp68 (c:C68):Prop:=∀ (p0:L97) (p1:L101) (p2:L104) (p3:LB) (y:Int),c p0 p1 p2 p3=some y→Spec Tryz.prog gl0 68 [.agg [.list 97 ty97 p0,.list 101 ty101 p1,.list 104 ty104 p2],.c (.str p3)] [] (.c (.int .i64 y)) []
theorem ek68 {R:Type} {c:C68} (hs:Sp68 c):EOk 68 (e68 (R:=R) c):=qak fun v=>hs v.1 v.2.1 v.2.2.1 v.2.2.2.1
theorem sf68:Sp68 (F68):=fun p0 p1 p2 p3 y hy=>by
 refine qae qad 1000000 (fn:=Tryz.f68) (by kernel_rfl) (by kernel_rfl) (X:=X68) (by kernel_rfl) ?_
 rw [eq68]
 exact (nt68 Ops.std p0 p1 p2 p3 _ _ some (K1 k0) (rr68 p0 p1 p2 p3 k0 1000000) none).trans (by show ob (F68 p0 p1 p2 p3) _=_;rw [hy];rfl)
noncomputable def M68:C68:=F68
theorem sm68:Sp68 M68:=sf68
def X67:Aux:=⟨[(4,([0,4,5,6]++rg 8 25))],[]⟩
inductive S67 where
 | l0 (v2:Int)
def T67 {R:Type} (B:Ops) (p0:L97) (p1:L101) (p2:L104) (p3:Int) (p4:LB) (again:S67→Option R) (k:(Int)→Option R):Option S67→Option R | none=>cond (B.lt p3 0) (k (-1)) (again (.l0 0)) | some (.l0 v2)=>cond (B.inb p3 p1.length) (cond (B.lt v2 (Nat.cast (List.length (p1.getD p3.toNat ty101.dflt).2))) (cond (B.inb p3 p1.length) (cond (B.inb v2 (List.length (p1.getD p3.toNat ty101.dflt).2)) (cond (List.getD (p1.getD p3.toNat ty101.dflt).2 v2.toNat (Ty.dflt Ty.str) == p4) (k v2) (again (.l0 (IntKind.wrap .i64 (v2+1))))) none) none) (k (-1))) none
def E67 (p0:L97) (p1:L101) (p2:L104) (p3:Int) (p4:LB):S67→List AV×Objs
 | .l0 v2=>(mk 33 [(1,.c (.int .i64 p3)),(2,.c (.str p4)),(3,.c (.ptr 3 0)),(7,.c (.int .i64 v2))],[(3,.box 37 [.list 97 ty97 p0,.list 101 ty101 p1,.list 104 ty104 p2])])
def I67:S67→Nat
 | .l0 _=>0
noncomputable abbrev A67 {R:Type} (B:Ops) (p0:L97) (p1:L101) (p2:L104) (p3:Int) (p4:LB) (k:AV→Objs→Option R) (s:S67) (n:Nat):Option R:=aloop tau B gl0 X67 gnil ow [] Tryz.f67 k (I67 s) (E67 p0 p1 p2 p3 p4 s) n
theorem eq67 {R:Type} (B:Ops) (p0:L97) (p1:L101) (p2:L104) (p3:Int) (p4:LB) (k:AV→Objs→Option R) (n:Nat):afun tau B gl0 X67 gnil ow Tryz.f67 [.agg [.list 97 ty97 p0,.list 101 ty101 p1,.list 104 ty104 p2],.c (.int .i64 p3),.c (.str p4)] [] k n=T67 B p0 p1 p2 p3 p4 (fun s=>A67 B p0 p1 p2 p3 p4 k s n) (K1 k) none:=by kernel_rfl
theorem el67 {R:Type} (B:Ops) (p0:L97) (p1:L101) (p2:L104) (p3:Int) (p4:LB) (k:AV→Objs→Option R) (n:Nat):∀ s,A67 B p0 p1 p2 p3 p4 k s (n+1)=T67 B p0 p1 p2 p3 p4 (fun s=>A67 B p0 p1 p2 p3 p4 k s n) (K1 k) (some s):=by
 intro s
 cases s<;>kernel_rfl
theorem nt67 {R R':Type} (B:Ops) (p0:L97) (p1:L101) (p2:L104) (p3:Int) (p4:LB) (again:S67→Option R) (again':S67→Option R') (k0:(Int)→Option R') (k:R'→Option R) (h:∀ s,again s=ob (again' s) k):∀ s,T67 B p0 p1 p2 p3 p4 again (fun y=>ob (k0 y) k) s=ob (T67 B p0 p1 p2 p3 p4 again' k0 s) k:=by
 rintro (_ | x)
 all_goals try cases x
 all_goals (unfold T67;repeat' first | exact rfl | exact h _ | apply qac | (apply qai;intro))
def R67 (p0:L97) (p1:L101) (p2:L104) (p3:Int) (p4:LB):Nat→S67→Option (Int)
 | 0,_=>none
 | n+1,s=>T67 Ops.std p0 p1 p2 p3 p4 (R67 p0 p1 p2 p3 p4 n) some (some s)
theorem rr67 {R:Type} (p0:L97) (p1:L101) (p2:L104) (p3:Int) (p4:LB) (k:AV→Objs→Option R):∀ (n:Nat) (s:S67),A67 Ops.std p0 p1 p2 p3 p4 k s n=ob (R67 p0 p1 p2 p3 p4 n s) (K1 k)
 | 0,s=>by cases s<;>rfl
 | n+1,s=>by rw [el67];exact nt67 Ops.std p0 p1 p2 p3 p4 _ _ some (K1 k) (rr67 p0 p1 p2 p3 p4 k n) (some s)
def F67 (p0:L97) (p1:L101) (p2:L104) (p3:Int) (p4:LB):Option (Int):=T67 Ops.std p0 p1 p2 p3 p4 (R67 p0 p1 p2 p3 p4 1000000) some none
abbrev C67:Type:=L97→L101→L104→Int→LB→Option (Int)
def e67 {R:Type} (c:C67):Ent R:=eG [.aG [.cL 97 ty97,.cL 101 ty101,.cL 104 ty104],.aC (.cI .i64),.aC .cS] [] fun v k=>ob (c v.1 v.2.1 v.2.2.1 v.2.2.2.1 v.2.2.2.2.1) (K1 k)
abbrev Sp67 (c:C67):Prop:=∀ (p0:L97) (p1:L101) (p2:L104) (p3:Int) (p4:LB) (y:Int),c p0 p1 p2 p3 p4=some y→Spec Tryz.prog gl0 67 [.agg [.list 97 ty97 p0,.list 101 ty101 p1,.list 104 ty104 p2],.c (.int .i64 p3),.c (.str p4)] [] (.c (.int .i64 y)) []
theorem ek67 {R:Type} {c:C67} (hs:Sp67 c):EOk 67 (e67 (R:=R) c):=qak fun v=>hs v.1 v.2.1 v.2.2.1 v.2.2.2.1 v.2.2.2.2.1
theorem sf67:Sp67 (F67):=fun p0 p1 p2 p3 p4 y hy=>by
 refine qae qad 1000000 (fn:=Tryz.f67) (by kernel_rfl) (by kernel_rfl) (X:=X67) (by kernel_rfl) ?_
 rw [eq67]
 exact (nt67 Ops.std p0 p1 p2 p3 p4 _ _ some (K1 k0) (rr67 p0 p1 p2 p3 p4 k0 1000000) none).trans (by show ob (F67 p0 p1 p2 p3 p4) _=_;rw [hy];rfl)
noncomputable def M67:C67:=F67
theorem sm67:Sp67 M67:=sf67
def X32:Aux:=⟨[(2,([0,3,4]++rg 6 49))],[(4,.lin (rg 0 31++[32,33,34,35,36,31,37,38,39,40]))]⟩
inductive S32 where
 | l0 (v1:Int)
def T32 {R:Type} (B:Ops) (c66:C66) (c68:C68) (c67:C67) (c28:C28) (p0:L97) (p1:L101) (p2:L104) (p3:L63) (again:S32→Option R) (k:(Bool)→Option R):Option S32→Option R | none=>again (.l0 0) | some (.l0 v1)=>cond (B.lt v1 (↑p3.length)) (cond (B.inb v1 p3.length) (cond (B.eq (p3.getD v1.toNat ty63.dflt).1 2) (cond (B.inb v1 p3.length) (ob (c66 p0 p1 p2 (((p3.getD v1.toNat ty63.dflt).2).2).1) fun y0=>cond (B.lt y0 0) (k false) (cond (B.inb v1 p3.length) (cond (B.eq (p3.getD v1.toNat ty63.dflt).1 3) (cond (B.inb v1 p3.length) (cond (B.inb v1 p3.length) (ob (c68 p0 p1 p2 (((p3.getD v1.toNat ty63.dflt).2).2).1) fun y1=>ob (c67 p0 p1 p2 y1 (((p3.getD v1.toNat ty63.dflt).2).2).2) fun y2=>cond (B.lt y2 0) (k false) (again (.l0 (IntKind.wrap .i64 (v1+1))))) none) none) (again (.l0 (IntKind.wrap .i64 (v1+1))))) none)) none) (cond (B.inb v1 p3.length) (cond (B.eq (p3.getD v1.toNat ty63.dflt).1 3) (cond (B.inb v1 p3.length) (cond (B.inb v1 p3.length) (ob (c68 p0 p1 p2 (((p3.getD v1.toNat ty63.dflt).2).2).1) fun y0=>ob (c67 p0 p1 p2 y0 (((p3.getD v1.toNat ty63.dflt).2).2).2) fun y1=>cond (B.lt y1 0) (k false) (again (.l0 (IntKind.wrap .i64 (v1+1))))) none) none) (again (.l0 (IntKind.wrap .i64 (v1+1))))) none)) none) (ob (c28 p3) fun y0=>k y0)
def E32 (p0:L97) (p1:L101) (p2:L104) (p3:L63):S32→List AV×Objs
 | .l0 v1=>(mk 55 [(1,.c (.list 63 ty63 p3)),(2,.c (.ptr 2 0)),(5,.c (.int .i64 v1))],[(2,.box 37 [.list 97 ty97 p0,.list 101 ty101 p1,.list 104 ty104 p2])])
def I32:S32→Nat
 | .l0 _=>0
noncomputable abbrev A32 {R:Type} (B:Ops) (c66:C66) (c68:C68) (c67:C67) (c28:C28) (p0:L97) (p1:L101) (p2:L104) (p3:L63) (k:AV→Objs→Option R) (s:S32) (n:Nat):Option R:=aloop tau B gl0 X32 (ent 66 (e66 c66) (ent 68 (e68 c68) (ent 67 (e67 c67) (ent 28 (e28 c28) gnil)))) ow [] Tryz.f32 k (I32 s) (E32 p0 p1 p2 p3 s) n
theorem eq32 {R:Type} (B:Ops) (c66:C66) (c68:C68) (c67:C67) (c28:C28) (p0:L97) (p1:L101) (p2:L104) (p3:L63) (k:AV→Objs→Option R) (n:Nat):afun tau B gl0 X32 (ent 66 (e66 c66) (ent 68 (e68 c68) (ent 67 (e67 c67) (ent 28 (e28 c28) gnil)))) ow Tryz.f32 [.agg [.list 97 ty97 p0,.list 101 ty101 p1,.list 104 ty104 p2],.c (.list 63 ty63 p3)] [] k n=T32 B c66 c68 c67 c28 p0 p1 p2 p3 (fun s=>A32 B c66 c68 c67 c28 p0 p1 p2 p3 k s n) (K2 k) none:=by kernel_rfl
theorem el32 {R:Type} (B:Ops) (c66:C66) (c68:C68) (c67:C67) (c28:C28) (p0:L97) (p1:L101) (p2:L104) (p3:L63) (k:AV→Objs→Option R) (n:Nat):∀ s,A32 B c66 c68 c67 c28 p0 p1 p2 p3 k s (n+1)=T32 B c66 c68 c67 c28 p0 p1 p2 p3 (fun s=>A32 B c66 c68 c67 c28 p0 p1 p2 p3 k s n) (K2 k) (some s):=by
 intro s
 cases s<;>kernel_rfl
theorem nt32 {R R':Type} (B:Ops) (c66:C66) (c68:C68) (c67:C67) (c28:C28) (p0:L97) (p1:L101) (p2:L104) (p3:L63) (again:S32→Option R) (again':S32→Option R') (k0:(Bool)→Option R') (k:R'→Option R) (h:∀ s,again s=ob (again' s) k):∀ s,T32 B c66 c68 c67 c28 p0 p1 p2 p3 again (fun y=>ob (k0 y) k) s=ob (T32 B c66 c68 c67 c28 p0 p1 p2 p3 again' k0 s) k:=by
 rintro (_ | x)
 all_goals try cases x
 all_goals (unfold T32;repeat' first | exact rfl | exact h _ | apply qac | (apply qai;intro))
def R32 (c66:C66) (c68:C68) (c67:C67) (c28:C28) (p0:L97) (p1:L101) (p2:L104) (p3:L63):Nat→S32→Option (Bool)
 | 0,_=>none
 | n+1,s=>T32 Ops.std c66 c68 c67 c28 p0 p1 p2 p3 (R32 c66 c68 c67 c28 p0 p1 p2 p3 n) some (some s)
theorem rr32 {R:Type} (c66:C66) (c68:C68) (c67:C67) (c28:C28) (p0:L97) (p1:L101) (p2:L104) (p3:L63) (k:AV→Objs→Option R):∀ (n:Nat) (s:S32),A32 Ops.std c66 c68 c67 c28 p0 p1 p2 p3 k s n=ob (R32 c66 c68 c67 c28 p0 p1 p2 p3 n s) (K2 k)
 | 0,s=>by cases s<;>rfl
 | n+1,s=>by rw [el32];exact nt32 Ops.std c66 c68 c67 c28 p0 p1 p2 p3 _ _ some (K2 k) (rr32 c66 c68 c67 c28 p0 p1 p2 p3 k n) (some s)
def F32 (c66:C66) (c68:C68) (c67:C67) (c28:C28) (p0:L97) (p1:L101) (p2:L104) (p3:L63):Option (Bool):=T32 Ops.std c66 c68 c67 c28 p0 p1 p2 p3 (R32 c66 c68 c67 c28 p0 p1 p2 p3 1000000) some none
abbrev C32:Type:=L97→L101→L104→L63→Option (Bool)
def e32 {R:Type} (c:C32):Ent R:=eG [.aG [.cL 97 ty97,.cL 101 ty101,.cL 104 ty104],.aC (.cL 63 ty63)] [] fun v k=>ob (c v.1 v.2.1 v.2.2.1 v.2.2.2.1) (K2 k)
abbrev Sp32 (c:C32):Prop:=∀ (p0:L97) (p1:L101) (p2:L104) (p3:L63) (y:Bool),c p0 p1 p2 p3=some y→Spec Tryz.prog gl0 32 [.agg [.list 97 ty97 p0,.list 101 ty101 p1,.list 104 ty104 p2],.c (.list 63 ty63 p3)] [] (.c (.bool y)) []
theorem ek32 {R:Type} {c:C32} (hs:Sp32 c):EOk 32 (e32 (R:=R) c):=qak fun v=>hs v.1 v.2.1 v.2.2.1 v.2.2.2.1
theorem sf32 {c66:C66} {c68:C68} {c67:C67} {c28:C28} (h66:Sp66 c66) (h68:Sp68 c68) (h67:Sp67 c67) (h28:Sp28 c28):Sp32 (F32 c66 c68 c67 c28):=fun p0 p1 p2 p3 y hy=>by
 refine qae (qab (ek66 h66) (qab (ek68 h68) (qab (ek67 h67) (qab (ek28 h28) qad)))) 1000000 (fn:=Tryz.f32) (by kernel_rfl) (by kernel_rfl) (X:=X32) (by kernel_rfl) ?_
 rw [eq32]
 exact (nt32 Ops.std c66 c68 c67 c28 p0 p1 p2 p3 _ _ some (K2 k0) (rr32 c66 c68 c67 c28 p0 p1 p2 p3 k0 1000000) none).trans (by show ob (F32 c66 c68 c67 c28 p0 p1 p2 p3) _=_;rw [hy];rfl)
noncomputable def M32:C32:=F32 M66 M68 M67 M28
theorem sm32:Sp32 M32:=sf32 sm66 sm68 sm67 sm28
def X12:Aux:=⟨[(2,([0,3,4]++rg 6 24))],[(4,.lin (rg 0 16))]⟩
inductive S12 where
 | l0 (v1:Int)
def T12 {R:Type} (B:Ops) (c32:C32) (c10:C10) (p0:L97) (p1:L101) (p2:L104) (p3:L61) (again:S12→Option R) (k:(Bool)→Option R):Option S12→Option R | none=>again (.l0 0) | some (.l0 v1)=>cond (B.lt v1 (↑p3.length)) (cond (B.inb v1 p3.length) (cond (B.eq (p3.getD v1.toNat ty61.dflt).1 3) (cond (B.inb v1 p3.length) (ob (c32 p0 p1 p2 (p3.getD v1.toNat ty61.dflt).2) fun y0=>cond (!y0) (k false) (again (.l0 (IntKind.wrap .i64 (v1+1))))) none) (again (.l0 (IntKind.wrap .i64 (v1+1))))) none) (ob (c10 p3) fun y0=>k y0)
def E12 (p0:L97) (p1:L101) (p2:L104) (p3:L61):S12→List AV×Objs
 | .l0 v1=>(mk 30 [(1,.c (.list 61 ty61 p3)),(2,.c (.ptr 2 0)),(5,.c (.int .i64 v1))],[(2,.box 37 [.list 97 ty97 p0,.list 101 ty101 p1,.list 104 ty104 p2])])
def I12:S12→Nat
 | .l0 _=>0
noncomputable abbrev A12 {R:Type} (B:Ops) (c32:C32) (c10:C10) (p0:L97) (p1:L101) (p2:L104) (p3:L61) (k:AV→Objs→Option R) (s:S12) (n:Nat):Option R:=aloop tau B gl0 X12 (ent 32 (e32 c32) (ent 10 (e10 c10) gnil)) ow [] Tryz.f12 k (I12 s) (E12 p0 p1 p2 p3 s) n
theorem eq12 {R:Type} (B:Ops) (c32:C32) (c10:C10) (p0:L97) (p1:L101) (p2:L104) (p3:L61) (k:AV→Objs→Option R) (n:Nat):afun tau B gl0 X12 (ent 32 (e32 c32) (ent 10 (e10 c10) gnil)) ow Tryz.f12 [.agg [.list 97 ty97 p0,.list 101 ty101 p1,.list 104 ty104 p2],.c (.list 61 ty61 p3)] [] k n=T12 B c32 c10 p0 p1 p2 p3 (fun s=>A12 B c32 c10 p0 p1 p2 p3 k s n) (K2 k) none:=by kernel_rfl
theorem el12 {R:Type} (B:Ops) (c32:C32) (c10:C10) (p0:L97) (p1:L101) (p2:L104) (p3:L61) (k:AV→Objs→Option R) (n:Nat):∀ s,A12 B c32 c10 p0 p1 p2 p3 k s (n+1)=T12 B c32 c10 p0 p1 p2 p3 (fun s=>A12 B c32 c10 p0 p1 p2 p3 k s n) (K2 k) (some s):=by
 intro s
 cases s<;>kernel_rfl
theorem nt12 {R R':Type} (B:Ops) (c32:C32) (c10:C10) (p0:L97) (p1:L101) (p2:L104) (p3:L61) (again:S12→Option R) (again':S12→Option R') (k0:(Bool)→Option R') (k:R'→Option R) (h:∀ s,again s=ob (again' s) k):∀ s,T12 B c32 c10 p0 p1 p2 p3 again (fun y=>ob (k0 y) k) s=ob (T12 B c32 c10 p0 p1 p2 p3 again' k0 s) k:=by
 rintro (_ | x)
 all_goals try cases x
 all_goals (unfold T12;repeat' first | exact rfl | exact h _ | apply qac | (apply qai;intro))
def R12 (c32:C32) (c10:C10) (p0:L97) (p1:L101) (p2:L104) (p3:L61):Nat→S12→Option (Bool)
 | 0,_=>none
 | n+1,s=>T12 Ops.std c32 c10 p0 p1 p2 p3 (R12 c32 c10 p0 p1 p2 p3 n) some (some s)
theorem rr12 {R:Type} (c32:C32) (c10:C10) (p0:L97) (p1:L101) (p2:L104) (p3:L61) (k:AV→Objs→Option R):∀ (n:Nat) (s:S12),A12 Ops.std c32 c10 p0 p1 p2 p3 k s n=ob (R12 c32 c10 p0 p1 p2 p3 n s) (K2 k)
 | 0,s=>by cases s<;>rfl
 | n+1,s=>by rw [el12];exact nt12 Ops.std c32 c10 p0 p1 p2 p3 _ _ some (K2 k) (rr12 c32 c10 p0 p1 p2 p3 k n) (some s)
def F12 (c32:C32) (c10:C10) (p0:L97) (p1:L101) (p2:L104) (p3:L61):Option (Bool):=T12 Ops.std c32 c10 p0 p1 p2 p3 (R12 c32 c10 p0 p1 p2 p3 1000000) some none
abbrev C12:Type:=L97→L101→L104→L61→Option (Bool)
def e12 {R:Type} (c:C12):Ent R:=eG [.aG [.cL 97 ty97,.cL 101 ty101,.cL 104 ty104],.aC (.cL 61 ty61)] [] fun v k=>ob (c v.1 v.2.1 v.2.2.1 v.2.2.2.1) (K2 k)
abbrev Sp12 (c:C12):Prop:=∀ (p0:L97) (p1:L101) (p2:L104) (p3:L61) (y:Bool),c p0 p1 p2 p3=some y→Spec Tryz.prog gl0 12 [.agg [.list 97 ty97 p0,.list 101 ty101 p1,.list 104 ty104 p2],.c (.list 61 ty61 p3)] [] (.c (.bool y)) []
theorem ek12 {R:Type} {c:C12} (hs:Sp12 c):EOk 12 (e12 (R:=R) c):=qak fun v=>hs v.1 v.2.1 v.2.2.1 v.2.2.2.1
theorem sf12 {c32:C32} {c10:C10} (h32:Sp32 c32) (h10:Sp10 c10):Sp12 (F12 c32 c10):=fun p0 p1 p2 p3 y hy=>by
 refine qae (qab (ek32 h32) (qab (ek10 h10) qad)) 1000000 (fn:=Tryz.f12) (by kernel_rfl) (by kernel_rfl) (X:=X12) (by kernel_rfl) ?_
 rw [eq12]
 exact (nt12 Ops.std c32 c10 p0 p1 p2 p3 _ _ some (K2 k0) (rr12 c32 c10 p0 p1 p2 p3 k0 1000000) none).trans (by show ob (F12 c32 c10 p0 p1 p2 p3) _=_;rw [hy];rfl)
noncomputable def M12:C12:=F12 M32 M10
theorem sm12:Sp12 M12:=sf12 sm32 sm10
def X36:Aux:=⟨[(4,([2,3,4]++rg 6 20))],[(6,.lin [0,1,2,3,4,5,6,7,8])]⟩
inductive S36 where
 | l0 (v2:Int)
def T36 {R:Type} (B:Ops) (p0 p1:L63) (again:S36→Option R) (k:(Bool)→Option R):Option S36→Option R | none=>cond (!B.eq (↑p0.length) (↑p1.length)) (k false) (again (.l0 0)) | some (.l0 v2)=>cond (B.lt v2 (↑p0.length)) (cond (B.inb v2 p0.length) (cond (B.inb v2 p1.length) (cond (!(B.eq (p0.getD v2.toNat ty63.dflt).1 (p1.getD v2.toNat ty63.dflt).1 && (B.eq ((p0.getD v2.toNat ty63.dflt).2).1 ((p1.getD v2.toNat ty63.dflt).2).1 && ((((p0.getD v2.toNat ty63.dflt).2).2).1 == (((p1.getD v2.toNat ty63.dflt).2).2).1 && ((((p0.getD v2.toNat ty63.dflt).2).2).2 == (((p1.getD v2.toNat ty63.dflt).2).2).2 && true))))) (k false) (again (.l0 (IntKind.wrap .i64 (v2+1))))) none) none) (k true)
def E36 (p0 p1:L63):S36→List AV×Objs
 | .l0 v2=>(mk 26 [(0,.c (.list 63 ty63 p0)),(1,.c (.list 63 ty63 p1)),(5,.c (.int .i64 v2))],[])
def I36:S36→Nat
 | .l0 _=>0
noncomputable abbrev A36 {R:Type} (B:Ops) (p0 p1:L63) (k:AV→Objs→Option R) (s:S36) (n:Nat):Option R:=aloop tau B gl0 X36 gnil ow [] Tryz.f36 k (I36 s) (E36 p0 p1 s) n
theorem eq36 {R:Type} (B:Ops) (p0 p1:L63) (k:AV→Objs→Option R) (n:Nat):afun tau B gl0 X36 gnil ow Tryz.f36 [.c (.list 63 ty63 p0),.c (.list 63 ty63 p1)] [] k n=T36 B p0 p1 (fun s=>A36 B p0 p1 k s n) (K2 k) none:=by kernel_rfl
theorem el36 {R:Type} (B:Ops) (p0 p1:L63) (k:AV→Objs→Option R) (n:Nat):∀ s,A36 B p0 p1 k s (n+1)=T36 B p0 p1 (fun s=>A36 B p0 p1 k s n) (K2 k) (some s):=by
 intro s
 cases s<;>kernel_rfl
theorem nt36 {R R':Type} (B:Ops) (p0 p1:L63) (again:S36→Option R) (again':S36→Option R') (k0:(Bool)→Option R') (k:R'→Option R) (h:∀ s,again s=ob (again' s) k):∀ s,T36 B p0 p1 again (fun y=>ob (k0 y) k) s=ob (T36 B p0 p1 again' k0 s) k:=by
 rintro (_ | x)
 all_goals try cases x
 all_goals (unfold T36;repeat' first | exact rfl | exact h _ | apply qac | (apply qai;intro))
def R36 (p0 p1:L63):Nat→S36→Option (Bool)
 | 0,_=>none
 | n+1,s=>T36 Ops.std p0 p1 (R36 p0 p1 n) some (some s)
theorem rr36 {R:Type} (p0 p1:L63) (k:AV→Objs→Option R):∀ (n:Nat) (s:S36),A36 Ops.std p0 p1 k s n=ob (R36 p0 p1 n s) (K2 k)
 | 0,s=>by cases s<;>rfl
 | n+1,s=>by rw [el36];exact nt36 Ops.std p0 p1 _ _ some (K2 k) (rr36 p0 p1 k n) (some s)
def F36 (p0 p1:L63):Option (Bool):=T36 Ops.std p0 p1 (R36 p0 p1 1000000) some none
abbrev C36:Type:=L63→L63→Option (Bool)
def e36 {R:Type} (c:C36):Ent R:=eG [.aC (.cL 63 ty63),.aC (.cL 63 ty63)] [] fun v k=>ob (c v.1 v.2.1) (K2 k)
abbrev Sp36 (c:C36):Prop:=∀ (p0 p1:L63) (y:Bool),c p0 p1=some y→Spec Tryz.prog gl0 36 [.c (.list 63 ty63 p0),.c (.list 63 ty63 p1)] [] (.c (.bool y)) []
theorem ek36 {R:Type} {c:C36} (hs:Sp36 c):EOk 36 (e36 (R:=R) c):=qak fun v=>hs v.1 v.2.1
theorem sf36:Sp36 (F36):=fun p0 p1 y hy=>by
 refine qae qad 1000000 (fn:=Tryz.f36) (by kernel_rfl) (by kernel_rfl) (X:=X36) (by kernel_rfl) ?_
 rw [eq36]
 exact (nt36 Ops.std p0 p1 _ _ some (K2 k0) (rr36 p0 p1 k0 1000000) none).trans (by show ob (F36 p0 p1) _=_;rw [hy];rfl)
noncomputable def M36:C36:=F36
theorem sm36:Sp36 M36:=sf36
def X14:Aux:=⟨[(4,([2,3,4]++rg 6 36))],[(6,.lin (rg 0 25))]⟩
inductive S14 where
 | l0 (v2:Int)
def T14 {R:Type} (B:Ops) (c36:C36) (p0 p1:L61) (again:S14→Option R) (k:(Bool)→Option R):Option S14→Option R | none=>cond (!B.eq (↑p0.length) (↑p1.length)) (k false) (again (.l0 0)) | some (.l0 v2)=>cond (B.lt v2 (↑p0.length)) (cond (B.inb v2 p0.length) (cond (B.inb v2 p1.length) (cond (!B.eq (p0.getD v2.toNat ty61.dflt).1 (p1.getD v2.toNat ty61.dflt).1) (k false) (cond (B.inb v2 p0.length) (cond (B.inb v2 p1.length) (ob (c36 (p0.getD v2.toNat ty61.dflt).2 (p1.getD v2.toNat ty61.dflt).2) fun y0=>cond (!y0) (k false) (again (.l0 (IntKind.wrap .i64 (v2+1))))) none) none)) none) none) (k true)
def E14 (p0 p1:L61):S14→List AV×Objs
 | .l0 v2=>(mk 42 [(0,.c (.list 61 ty61 p0)),(1,.c (.list 61 ty61 p1)),(5,.c (.int .i64 v2))],[])
def I14:S14→Nat
 | .l0 _=>0
noncomputable abbrev A14 {R:Type} (B:Ops) (c36:C36) (p0 p1:L61) (k:AV→Objs→Option R) (s:S14) (n:Nat):Option R:=aloop tau B gl0 X14 (ent 36 (e36 c36) gnil) ow [] Tryz.f14 k (I14 s) (E14 p0 p1 s) n
theorem eq14 {R:Type} (B:Ops) (c36:C36) (p0 p1:L61) (k:AV→Objs→Option R) (n:Nat):afun tau B gl0 X14 (ent 36 (e36 c36) gnil) ow Tryz.f14 [.c (.list 61 ty61 p0),.c (.list 61 ty61 p1)] [] k n=T14 B c36 p0 p1 (fun s=>A14 B c36 p0 p1 k s n) (K2 k) none:=by kernel_rfl
theorem el14 {R:Type} (B:Ops) (c36:C36) (p0 p1:L61) (k:AV→Objs→Option R) (n:Nat):∀ s,A14 B c36 p0 p1 k s (n+1)=T14 B c36 p0 p1 (fun s=>A14 B c36 p0 p1 k s n) (K2 k) (some s):=by
 intro s
 cases s<;>kernel_rfl
theorem nt14 {R R':Type} (B:Ops) (c36:C36) (p0 p1:L61) (again:S14→Option R) (again':S14→Option R') (k0:(Bool)→Option R') (k:R'→Option R) (h:∀ s,again s=ob (again' s) k):∀ s,T14 B c36 p0 p1 again (fun y=>ob (k0 y) k) s=ob (T14 B c36 p0 p1 again' k0 s) k:=by
 rintro (_ | x)
 all_goals try cases x
 all_goals (unfold T14;repeat' first | exact rfl | exact h _ | apply qac | (apply qai;intro))
def R14 (c36:C36) (p0 p1:L61):Nat→S14→Option (Bool)
 | 0,_=>none
 | n+1,s=>T14 Ops.std c36 p0 p1 (R14 c36 p0 p1 n) some (some s)
theorem rr14 {R:Type} (c36:C36) (p0 p1:L61) (k:AV→Objs→Option R):∀ (n:Nat) (s:S14),A14 Ops.std c36 p0 p1 k s n=ob (R14 c36 p0 p1 n s) (K2 k)
 | 0,s=>by cases s<;>rfl
 | n+1,s=>by rw [el14];exact nt14 Ops.std c36 p0 p1 _ _ some (K2 k) (rr14 c36 p0 p1 k n) (some s)
def F14 (c36:C36) (p0 p1:L61):Option (Bool):=T14 Ops.std c36 p0 p1 (R14 c36 p0 p1 1000000) some none
abbrev C14:Type:=L61→L61→Option (Bool)
def e14 {R:Type} (c:C14):Ent R:=eG [.aC (.cL 61 ty61),.aC (.cL 61 ty61)] [] fun v k=>ob (c v.1 v.2.1) (K2 k)
abbrev Sp14 (c:C14):Prop:=∀ (p0 p1:L61) (y:Bool),c p0 p1=some y→Spec Tryz.prog gl0 14 [.c (.list 61 ty61 p0),.c (.list 61 ty61 p1)] [] (.c (.bool y)) []
theorem ek14 {R:Type} {c:C14} (hs:Sp14 c):EOk 14 (e14 (R:=R) c):=qak fun v=>hs v.1 v.2.1
theorem sf14 {c36:C36} (h36:Sp36 c36):Sp14 (F14 c36):=fun p0 p1 y hy=>by
 refine qae (qab (ek36 h36) qad) 1000000 (fn:=Tryz.f14) (by kernel_rfl) (by kernel_rfl) (X:=X14) (by kernel_rfl) ?_
 rw [eq14]
 exact (nt14 Ops.std c36 p0 p1 _ _ some (K2 k0) (rr14 c36 p0 p1 k0 1000000) none).trans (by show ob (F14 c36 p0 p1) _=_;rw [hy];rfl)
noncomputable def M14:C14:=F14 M36
theorem sm14:Sp14 M14:=sf14 sm36
def X22:Aux:=⟨[],[]⟩
def T22 {R:Type} (B:Ops) (p0 p1:Int) (k:(Int)→Option R):Option R:=cond (B.eq p1 0) none (cond (B.lt (Int.tmod p0 p1) 0) (k (IntKind.wrap .i64 (Int.tmod p0 p1+p1))) (k (Int.tmod p0 p1)))
theorem eq22 {R:Type} (B:Ops) (p0 p1:Int) (k:AV→Objs→Option R) (n:Nat):afun tau B gl0 X22 gnil ow Tryz.f22 [.c (.int .i64 p0),.c (.int .i64 p1)] [] k n=T22 B p0 p1 (K1 k):=by kernel_rfl
theorem nt22 {R R':Type} (B:Ops) (p0 p1:Int) (k0:(Int)→Option R') (k:R'→Option R):T22 B p0 p1 (fun y=>ob (k0 y) k)=ob (T22 B p0 p1 k0) k:=by
 unfold T22
 repeat' first | exact rfl | apply qac | (apply qai;intro)
def F22 (p0 p1:Int):Option (Int):=T22 Ops.std p0 p1 some
abbrev C22:Type:=Int→Int→Option (Int)
def e22 {R:Type} (c:C22):Ent R:=eG [.aC (.cI .i64),.aC (.cI .i64)] [] fun v k=>ob (c v.1 v.2.1) (K1 k)
abbrev Sp22 (c:C22):Prop:=∀ (p0 p1 y:Int),c p0 p1=some y→Spec Tryz.prog gl0 22 [.c (.int .i64 p0),.c (.int .i64 p1)] [] (.c (.int .i64 y)) []
theorem ek22 {R:Type} {c:C22} (hs:Sp22 c):EOk 22 (e22 (R:=R) c):=qak fun v=>hs v.1 v.2.1
theorem sf22:Sp22 (F22):=fun p0 p1 y hy=>by
 refine qae qad 1000000 (fn:=Tryz.f22) (by kernel_rfl) (by kernel_rfl) (X:=X22) (by kernel_rfl) ?_
 rw [eq22]
 exact (nt22 Ops.std p0 p1 some (K1 k0)).trans (by show ob (F22 p0 p1) _=_;rw [hy];rfl)
noncomputable def M22:C22:=F22
theorem sm22:Sp22 M22:=sf22
def X7:Aux:=⟨[],[(13,.lin [0,1,2,3,4,5,6,7,8])]⟩
def T7 {R:Type} (B:Ops) (c22:C22) (p0:L61) (p1 p2 p3:Int) (k:(L61)→Option R):Option R:=cond (B.lim (List.length (mt (Ty.den ty61))+List.length p0) 32) (cond (B.eq (Nat.cast (List.length (mt (Ty.den ty61)++p0))) 0) (k (mt (Ty.den ty61)++p0)) (ob (c22 p2 (Nat.cast (List.length (mt (Ty.den ty61)++p0)))) fun y0=>ob (c22 p1 8) fun y1=>cond (B.eq y1 0) (ob (c22 p3 14) fun y2=>cond (B.inb y0 (List.length (mt (Ty.den ty61)++p0))) (k (List.set (mt (Ty.den ty61)++p0) y0.toNat (IntKind.wrap .i64 (y2-1),Prod.snd (List.getD (mt (Ty.den ty61)++p0) y0.toNat (Ty.dflt ty61))))) none) (cond (B.eq y1 1) (cond (B.inb y0 (List.length (mt (Ty.den ty61)++p0))) (k (List.set (mt (Ty.den ty61)++p0) y0.toNat (Prod.fst (List.getD (mt (Ty.den ty61)++p0) y0.toNat (Ty.dflt ty61)),(1,p3,mt UInt8,mt UInt8)::mt (Ty.den ty63)))) none) (cond (B.eq y1 2) (cond (B.inb y0 (List.length (mt (Ty.den ty61)++p0))) (k (List.set (mt (Ty.den ty61)++p0) y0.toNat (Prod.fst (List.getD (mt (Ty.den ty61)++p0) y0.toNat (Ty.dflt ty61)),mt (Ty.den ty63)))) none) (cond (B.eq y1 3) (cond (B.inb y0 (List.length (mt (Ty.den ty61)++p0)+1)) (cond (B.inb (IntKind.wrap .i64 (y0+1)) (List.length (mt (Ty.den ty61)++p0)+1)) (cond (B.lim (List.length (List.take y0.toNat (mt (Ty.den ty61)++p0))+List.length (List.take (List.length (mt (Ty.den ty61)++p0)-Int.toNat (IntKind.wrap .i64 (y0+1))) (List.drop (Int.toNat (IntKind.wrap .i64 (y0+1))) (mt (Ty.den ty61)++p0)))) 32) (k (List.take y0.toNat (mt (Ty.den ty61)++p0)++List.take (List.length (mt (Ty.den ty61)++p0)-Int.toNat (IntKind.wrap .i64 (y0+1))) (List.drop (Int.toNat (IntKind.wrap .i64 (y0+1))) (mt (Ty.den ty61)++p0)))) none) none) none) (cond (B.eq y1 4) (cond (B.inb y0 (List.length (mt (Ty.den ty61)++p0))) (cond (B.lim (List.length (mt (Ty.den ty61)++p0)+List.length ((Prod.fst (List.getD (mt (Ty.den ty61)++p0) y0.toNat (Ty.dflt ty61)),Prod.snd (List.getD (mt (Ty.den ty61)++p0) y0.toNat (Ty.dflt ty61)))::mt (Ty.den ty61))) 32) (k (mt (Ty.den ty61)++p0++(Prod.fst (List.getD (mt (Ty.den ty61)++p0) y0.toNat (Ty.dflt ty61)),Prod.snd (List.getD (mt (Ty.den ty61)++p0) y0.toNat (Ty.dflt ty61)))::mt (Ty.den ty61))) none) none) (k (mt (Ty.den ty61)++p0)))))))) none
abbrev K30 {R:Type} (k:AV→Objs→Option R) (y:(L61)):Option R:=k (.c (.own 500)) [(500,.row 61 ty61 y)]
theorem eq7 {R:Type} (B:Ops) (c22:C22) (p0:L61) (p1 p2 p3:Int) (k:AV→Objs→Option R) (n:Nat):afun tau B gl0 X7 (ent 22 (e22 c22) gnil) ow Tryz.f7 [.c (.list 61 ty61 p0),.c (.int .i64 p1),.c (.int .i64 p2),.c (.int .i64 p3)] [] k n=T7 B c22 p0 p1 p2 p3 (K30 k):=by kernel_rfl
theorem nt7 {R R':Type} (B:Ops) (c22:C22) (p0:L61) (p1 p2 p3:Int) (k0:(L61)→Option R') (k:R'→Option R):T7 B c22 p0 p1 p2 p3 (fun y=>ob (k0 y) k)=ob (T7 B c22 p0 p1 p2 p3 k0) k:=by
 unfold T7
 repeat' first | exact rfl | apply qac | (apply qai;intro)
def F7 (c22:C22) (p0:L61) (p1 p2 p3:Int):Option (L61):=T7 Ops.std c22 p0 p1 p2 p3 some
abbrev C7:Type:=L61→Int→Int→Int→Option (L61)
def e7 {R:Type} (c:C7):Ent R:=eG [.aC (.cL 61 ty61),.aC (.cI .i64),.aC (.cI .i64),.aC (.cI .i64)] [] fun v k=>ob (c v.1 v.2.1 v.2.2.1 v.2.2.2.1) (K30 k)
abbrev Sp7 (c:C7):Prop:=∀ (p0:L61) (p1 p2 p3:Int) (y:L61),c p0 p1 p2 p3=some y→Spec Tryz.prog gl0 7 [.c (.list 61 ty61 p0),.c (.int .i64 p1),.c (.int .i64 p2),.c (.int .i64 p3)] [] (.c (.own 500)) [(500,.row 61 ty61 y)]
theorem ek7 {R:Type} {c:C7} (hs:Sp7 c):EOk 7 (e7 (R:=R) c):=qak fun v=>hs v.1 v.2.1 v.2.2.1 v.2.2.2.1
theorem sf7 {c22:C22} (h22:Sp22 c22):Sp7 (F7 c22):=fun p0 p1 p2 p3 y hy=>by
 refine qae (qab (ek22 h22) qad) 1000000 (fn:=Tryz.f7) (by kernel_rfl) (by kernel_rfl) (X:=X7) (by kernel_rfl) ?_
 rw [eq7]
 exact (nt7 Ops.std c22 p0 p1 p2 p3 some (K30 k0)).trans (by show ob (F7 c22 p0 p1 p2 p3) _=_;rw [hy];rfl)
noncomputable def M7:C7:=F7 M22
theorem sm7:Sp7 M7:=sf7 sm22
def X50:Aux:=⟨[],[(4,.lin (rg 0 31))]⟩
def T50 {R:Type} (B:Ops) (c22:C22) (p0:Int) (p1:L3) (p2:Int) (k:(Int×L3×Int)→Option R):Option R:=cond (B.eq (↑p1.length) 0) (k (0,p1,p2)) (cond (B.eq (↑p1.length) 0) none (cond (B.inb (Int.tmod (IntKind.wrap .i64 (p2+1)) (↑p1.length)) p1.length) (cond (B.eq (↑p1.length) 0) none (cond (B.eq (IntKind.wrap .i64 (1+IntKind.wrap .i64 (Int.tdiv (IntKind.wrap .i64 (p2+1)) (↑p1.length)))) 0) none (ob (c22 (IntKind.wrap .i64 (Int.tdiv (p1.getD (Int.toNat (Int.tmod (IntKind.wrap .i64 (p2+1)) (↑p1.length))) ty3.dflt) (IntKind.wrap .i64 (1+IntKind.wrap .i64 (Int.tdiv (IntKind.wrap .i64 (p2+1)) (↑p1.length)))))) p0) fun y0=>k ((y0,p1,IntKind.wrap .i64 (p2+1)))))) none))
abbrev K31 {R:Type} (k:AV→Objs→Option R) (y:(Int×L3×Int)):Option R:=k (.c (.int .i64 y.1)) [(0,.box 56 [.list 3 ty3 y.2.1,.int .i64 y.2.2])]
theorem eq50 {R:Type} (B:Ops) (c22:C22) (p0:Int) (p1:L3) (p2:Int) (k:AV→Objs→Option R) (n:Nat):afun tau B gl0 X50 (ent 22 (e22 c22) gnil) ow Tryz.f50 [.c (.ptr 0 0),.c (.int .i64 p0)] [(0,.box 56 [.list 3 ty3 p1,.int .i64 p2])] k n=T50 B c22 p0 p1 p2 (K31 k):=by kernel_rfl
theorem nt50 {R R':Type} (B:Ops) (c22:C22) (p0:Int) (p1:L3) (p2:Int) (k0:(Int×L3×Int)→Option R') (k:R'→Option R):T50 B c22 p0 p1 p2 (fun y=>ob (k0 y) k)=ob (T50 B c22 p0 p1 p2 k0) k:=by
 unfold T50
 repeat' first | exact rfl | apply qac | (apply qai;intro)
def F50 (c22:C22) (p0:Int) (p1:L3) (p2:Int):Option (Int×L3×Int):=T50 Ops.std c22 p0 p1 p2 some
abbrev C50:Type:=Int→L3→Int→Option (Int×L3×Int)
def e50 {R:Type} (c:C50):Ent R:=eG [.aC (.cP 0),.aC (.cI .i64)] [.oB 0 56 [.cL 3 ty3,.cI .i64]] fun v k=>ob (c v.1 v.2.1 v.2.2.1) (K31 k)
abbrev Sp50 (c:C50):Prop:=∀ (p0:Int) (p1:L3) (p2:Int) (y:Int×L3×Int),c p0 p1 p2=some y→Spec Tryz.prog gl0 50 [.c (.ptr 0 0),.c (.int .i64 p0)] [(0,.box 56 [.list 3 ty3 p1,.int .i64 p2])] (.c (.int .i64 y.1)) [(0,.box 56 [.list 3 ty3 y.2.1,.int .i64 y.2.2])]
theorem ek50 {R:Type} {c:C50} (hs:Sp50 c):EOk 50 (e50 (R:=R) c):=qak fun v=>hs v.1 v.2.1 v.2.2.1
theorem sf50 {c22:C22} (h22:Sp22 c22):Sp50 (F50 c22):=fun p0 p1 p2 y hy=>by
 refine qae (qab (ek22 h22) qad) 1000000 (fn:=Tryz.f50) (by kernel_rfl) (by kernel_rfl) (X:=X50) (by kernel_rfl) ?_
 rw [eq50]
 exact (nt50 Ops.std c22 p0 p1 p2 some (K31 k0)).trans (by show ob (F50 c22 p0 p1 p2) _=_;rw [hy];rfl)
noncomputable def M50:C50:=F50 M22
theorem sm50:Sp50 M50:=sf50 sm22
abbrev K32 {R:Type} (k:AV→Objs→Option R) (y:(LB×L3×Int)):Option R:=k (.c (.str y.1)) [(0,.box 56 [.list 3 ty3 y.2.1,.int .i64 y.2.2])]
abbrev C21:Type:=Int→L3→Int→Option (LB×L3×Int)
def e21 {R:Type} (c:C21):Ent R:=eG [.aC (.cP 0),.aC (.cI .i64)] [.oB 0 56 [.cL 3 ty3,.cI .i64]] fun v k=>ob (c v.1 v.2.1 v.2.2.1) (K32 k)
abbrev Sp21 (c:C21):Prop:=∀ (p0:Int) (p1:L3) (p2:Int) (y:LB×L3×Int),c p0 p1 p2=some y→Spec Tryz.prog gl0 21 [.c (.ptr 0 0),.c (.int .i64 p0)] [(0,.box 56 [.list 3 ty3 p1,.int .i64 p2])] (.c (.str y.1)) [(0,.box 56 [.list 3 ty3 y.2.1,.int .i64 y.2.2])]
theorem ek21 {R:Type} {c:C21} (hs:Sp21 c):EOk 21 (e21 (R:=R) c):=qak fun v=>hs v.1 v.2.1 v.2.2.1
def X21:Aux:=⟨[(1000004,([2,3,4]++rg 6 105))],[(11,.lin ([0,1,2,5,6,10,11,12,3,4,7,8,9,13,14,15,16])),(13,.lin ([0,1,2,5,6,10,11,12,3,4,7,8,9,13,14,15,16]))]⟩
inductive S21 where
 | l1004 (v1:Int) (v2:L3) (v3:Int)
def T21 {R:Type} (B:Ops) (c50:C50) (c21:C21) (p0:Int) (p1:L3) (p2:Int) (again:S21→Option R) (k:(LB×L3×Int)→Option R):Option S21→Option R | none=>ob (c50 22 p1 p2) fun y0=>cond (B.lt 2 p0) (cond (B.eq 4 0) none (again (.l1004 (IntKind.wrap .i64 (18+Int.tmod y0.1 4)) y0.2.1 y0.2.2))) (cond (B.lt 9 y0.2.2) (cond (B.eq 4 0) none (again (.l1004 (IntKind.wrap .i64 (18+Int.tmod y0.1 4)) y0.2.1 y0.2.2))) (again (.l1004 y0.1 y0.2.1 y0.2.2))) | some (.l1004 v1 v2 v3)=>cond (B.lt v1 3) (ob (c21 (IntKind.wrap .i64 (p0+1)) v2 v3) fun y0=>cond (B.lim (3+List.length y0.1) 1) (cond (B.lim (List.length (([71,32,40]:LB)++y0.1)+1) 1) (k ((([71,32,40]:LB)++y0.1++([41]:LB),y0.2.1,y0.2.2))) none) none) (cond (B.lt v1 6) (ob (c21 (IntKind.wrap .i64 (p0+1)) v2 v3) fun y0=>cond (B.lim (3+List.length y0.1) 1) (cond (B.lim (List.length (([70,32,40]:LB)++y0.1)+1) 1) (k ((([70,32,40]:LB)++y0.1++([41]:LB),y0.2.1,y0.2.2))) none) none) (cond (B.lt v1 8) (ob (c21 (IntKind.wrap .i64 (p0+1)) v2 v3) fun y0=>cond (B.lim (2+List.length y0.1) 1) (k ((([88,32]:LB)++y0.1,y0.2.1,y0.2.2))) none) (cond (B.lt v1 11) (ob (c21 (IntKind.wrap .i64 (p0+1)) v2 v3) fun y0=>cond (B.lim (1+List.length y0.1) 1) (ob (c50 2 y0.2.1 y0.2.2) fun y1=>cond (B.inb y1.1 2) (cond (B.lim (List.length (([40]:LB)++y0.1)+List.length (List.getD (([32,85,32]:LB)::([32,82,32]:LB)::mt LB) (Int.toNat y1.1) (mt UInt8))) 1) (ob (c21 (IntKind.wrap .i64 (p0+1)) y1.2.1 y1.2.2) fun y2=>cond (B.lim (List.length (([40]:LB)++y0.1++List.getD (([32,85,32]:LB)::([32,82,32]:LB)::mt LB) (Int.toNat y1.1) (mt UInt8))+List.length y2.1) 1) (cond (B.lim (List.length (([40]:LB)++y0.1++List.getD (([32,85,32]:LB)::([32,82,32]:LB)::mt LB) (Int.toNat y1.1) (mt UInt8)++y2.1)+1) 1) (k ((([40]:LB)++y0.1++List.getD (([32,85,32]:LB)::([32,82,32]:LB)::mt LB) (Int.toNat y1.1) (mt UInt8)++y2.1++([41]:LB),y2.2.1,y2.2.2))) none) none) none) none) none) (cond (B.lt v1 15) (ob (c21 (IntKind.wrap .i64 (p0+1)) v2 v3) fun y0=>cond (B.lim (1+List.length y0.1) 1) (ob (c50 3 y0.2.1 y0.2.2) fun y1=>cond (B.inb y1.1 3) (cond (B.lim (List.length (([40]:LB)++y0.1)+List.length (List.getD (([32,38,38,32]:LB)::([32,124,124,32]:LB)::([32,45,62,32]:LB)::mt LB) (Int.toNat y1.1) (mt UInt8))) 1) (ob (c21 (IntKind.wrap .i64 (p0+1)) y1.2.1 y1.2.2) fun y2=>cond (B.lim (List.length (([40]:LB)++y0.1++List.getD (([32,38,38,32]:LB)::([32,124,124,32]:LB)::([32,45,62,32]:LB)::mt LB) (Int.toNat y1.1) (mt UInt8))+List.length y2.1) 1) (cond (B.lim (List.length (([40]:LB)++y0.1++List.getD (([32,38,38,32]:LB)::([32,124,124,32]:LB)::([32,45,62,32]:LB)::mt LB) (Int.toNat y1.1) (mt UInt8)++y2.1)+1) 1) (k ((([40]:LB)++y0.1++List.getD (([32,38,38,32]:LB)::([32,124,124,32]:LB)::([32,45,62,32]:LB)::mt LB) (Int.toNat y1.1) (mt UInt8)++y2.1++([41]:LB),y2.2.1,y2.2.2))) none) none) none) none) none) (cond (B.lt v1 17) (ob (c21 (IntKind.wrap .i64 (p0+1)) v2 v3) fun y0=>cond (B.lim (1+List.length y0.1) 1) (k ((([33]:LB)++y0.1,y0.2.1,y0.2.2))) none) (cond (B.eq v1 17) (ob (c21 (IntKind.wrap .i64 (p0+1)) v2 v3) fun y0=>cond (B.lim (4+List.length y0.1) 1) (k ((([71,32,70,32]:LB)++y0.1,y0.2.1,y0.2.2))) none) (cond (B.eq v1 18) (ob (c50 2 v2 v3) fun y0=>cond (B.inb y0.1 2) (k ((List.getD (([116,114,117,101]:LB)::([102,97,108,115,101]:LB)::mt LB) (Int.toNat y0.1) (mt UInt8),y0.2.1,y0.2.2))) none) (ob (c50 6 v2 v3) fun y0=>cond (B.inb y0.1 6) (k ((List.getD (([91,120,61,61,49,93]:LB)::([91,112,64,97,93]:LB)::([91,121,60,49,93]:LB)::([91,113,64,98,38,38,120,62,48,93]:LB)::([91,120,61,61,121,93]:LB)::([91,112,64,98,93]:LB)::mt LB) (Int.toNat y0.1) (mt UInt8),y0.2.1,y0.2.2))) none))))))))
def E21 (p0:Int) (p1:L3) (p2:Int):S21→List AV×Objs
 | .l1004 v1 v2 v3=>(mk 111 [(0,.c (.ptr 0 0)),(1,.c (.int .i64 p0)),(5,.c (.int .i64 v1))],[(0,.box 56 [.list 3 ty3 v2,.int .i64 v3])])
def I21:S21→Nat
 | .l1004 _ _ _=>1004
noncomputable abbrev A21 {R:Type} (B:Ops) (c50:C50) (c21:C21) (p0:Int) (p1:L3) (p2:Int) (k:AV→Objs→Option R) (s:S21) (n:Nat):Option R:=aloop tau B gl0 X21 (ent 50 (e50 c50) (ent 21 (e21 c21) gnil)) ow [0] Tryz.f21 k (I21 s) (E21 p0 p1 p2 s) n
theorem eq21 {R:Type} (B:Ops) (c50:C50) (c21:C21) (p0:Int) (p1:L3) (p2:Int) (k:AV→Objs→Option R) (n:Nat):afun tau B gl0 X21 (ent 50 (e50 c50) (ent 21 (e21 c21) gnil)) ow Tryz.f21 [.c (.ptr 0 0),.c (.int .i64 p0)] [(0,.box 56 [.list 3 ty3 p1,.int .i64 p2])] k n=T21 B c50 c21 p0 p1 p2 (fun s=>A21 B c50 c21 p0 p1 p2 k s n) (K32 k) none:=by kernel_rfl
theorem el21 {R:Type} (B:Ops) (c50:C50) (c21:C21) (p0:Int) (p1:L3) (p2:Int) (k:AV→Objs→Option R) (n:Nat):∀ s,A21 B c50 c21 p0 p1 p2 k s (n+1)=T21 B c50 c21 p0 p1 p2 (fun s=>A21 B c50 c21 p0 p1 p2 k s n) (K32 k) (some s):=by
 intro s
 cases s<;>kernel_rfl
theorem nt21 {R R':Type} (B:Ops) (c50:C50) (c21:C21) (p0:Int) (p1:L3) (p2:Int) (again:S21→Option R) (again':S21→Option R') (k0:(LB×L3×Int)→Option R') (k:R'→Option R) (h:∀ s,again s=ob (again' s) k):∀ s,T21 B c50 c21 p0 p1 p2 again (fun y=>ob (k0 y) k) s=ob (T21 B c50 c21 p0 p1 p2 again' k0 s) k:=by
 rintro (_ | x)
 all_goals try cases x
 all_goals (unfold T21;repeat' first | exact rfl | exact h _ | apply qac | (apply qai;intro))
def R21 (c50:C50) (c21:C21) (p0:Int) (p1:L3) (p2:Int):Nat→S21→Option (LB×L3×Int)
 | 0,_=>none
 | n+1,s=>T21 Ops.std c50 c21 p0 p1 p2 (R21 c50 c21 p0 p1 p2 n) some (some s)
theorem rr21 {R:Type} (c50:C50) (c21:C21) (p0:Int) (p1:L3) (p2:Int) (k:AV→Objs→Option R):∀ (n:Nat) (s:S21),A21 Ops.std c50 c21 p0 p1 p2 k s n=ob (R21 c50 c21 p0 p1 p2 n s) (K32 k)
 | 0,s=>by cases s<;>rfl
 | n+1,s=>by rw [el21];exact nt21 Ops.std c50 c21 p0 p1 p2 _ _ some (K32 k) (rr21 c50 c21 p0 p1 p2 k n) (some s)
def F21 (c50:C50) (c21:C21) (p0:Int) (p1:L3) (p2:Int):Option (LB×L3×Int):=T21 Ops.std c50 c21 p0 p1 p2 (R21 c50 c21 p0 p1 p2 1000000) some none
theorem sf21 {c50:C50} {c21:C21} (h50:Sp50 c50) (h21:Sp21 c21):Sp21 (F21 c50 c21):=fun p0 p1 p2 y hy=>by
 refine qae (qab (ek50 h50) (qab (ek21 h21) qad)) 1000000 (fn:=Tryz.f21) (by kernel_rfl) (by kernel_rfl) (X:=X21) (by kernel_rfl) ?_
 rw [eq21]
 exact (nt21 Ops.std c50 c21 p0 p1 p2 _ _ some (K32 k0) (rr21 c50 c21 p0 p1 p2 k0 1000000) none).trans (by show ob (F21 c50 c21 p0 p1 p2) _=_;rw [hy];rfl)
noncomputable def Rec21:Nat→(Int→L3→Int→Option (LB×L3×Int))
 | 0=>fun _ _ _=>none
 | d+1=>F21 M50 (Rec21 d)
theorem rec21:∀ d,Sp21 (Rec21 d)
 | 0=>fun p0 p1 p2 y (h:(none:Option (LB×L3×Int))=some y)=>by cases h
 | d+1=>sf21 sm50 (rec21 d)
noncomputable def M21:C21:=(Rec21 1000000)
theorem sm21:Sp21 M21:=(rec21 1000000)
def X6:Aux:=⟨[],[]⟩
def T6 {R:Type} (B:Ops) (c21:C21) (p0:L3) (k:(LB)→Option R):Option R:=ob (c21 0 p0 0) fun y0=>k y0.1
theorem eq6 {R:Type} (B:Ops) (c21:C21) (p0:L3) (k:AV→Objs→Option R) (n:Nat):afun tau B gl0 X6 (ent 21 (e21 c21) gnil) ow Tryz.f6 [.c (.list 3 ty3 p0)] [] k n=T6 B c21 p0 (K3 k):=by kernel_rfl
theorem nt6 {R R':Type} (B:Ops) (c21:C21) (p0:L3) (k0:(LB)→Option R') (k:R'→Option R):T6 B c21 p0 (fun y=>ob (k0 y) k)=ob (T6 B c21 p0 k0) k:=by
 unfold T6
 repeat' first | exact rfl | apply qac | (apply qai;intro)
def F6 (c21:C21) (p0:L3):Option (LB):=T6 Ops.std c21 p0 some
abbrev C6:Type:=L3→Option (LB)
def e6 {R:Type} (c:C6):Ent R:=eG [.aC (.cL 3 ty3)] [] fun v k=>ob (c v.1) (K3 k)
abbrev Sp6 (c:C6):Prop:=∀ (p0:L3) (y:LB),c p0=some y→Spec Tryz.prog gl0 6 [.c (.list 3 ty3 p0)] [] (.c (.str y)) []
theorem ek6 {R:Type} {c:C6} (hs:Sp6 c):EOk 6 (e6 (R:=R) c):=qak fun v=>hs v.1
theorem sf6 {c21:C21} (h21:Sp21 c21):Sp6 (F6 c21):=fun p0 y hy=>by
 refine qae (qab (ek21 h21) qad) 1000000 (fn:=Tryz.f6) (by kernel_rfl) (by kernel_rfl) (X:=X6) (by kernel_rfl) ?_
 rw [eq6]
 exact (nt6 Ops.std c21 p0 some (K3 k0)).trans (by show ob (F6 c21 p0) _=_;rw [hy];rfl)
noncomputable def M6:C6:=F6 M21
theorem sm6:Sp6 M6:=sf6 sm21
def X57:Aux:=⟨[],[]⟩
def T57 {R:Type} (B:Ops) (c75:C75) (p0:Int) (k:(LB)→Option R):Option R:=ob (c75 p0) fun y0=>k y0
theorem eq57 {R:Type} (B:Ops) (c75:C75) (p0:Int) (k:AV→Objs→Option R) (n:Nat):afun tau B gl0 X57 (ent 75 (e75 c75) gnil) ow Tryz.f57 [.c (.int .i64 p0)] [] k n=T57 B c75 p0 (K3 k):=by kernel_rfl
theorem nt57 {R R':Type} (B:Ops) (c75:C75) (p0:Int) (k0:(LB)→Option R') (k:R'→Option R):T57 B c75 p0 (fun y=>ob (k0 y) k)=ob (T57 B c75 p0 k0) k:=by
 unfold T57
 repeat' first | exact rfl | apply qac | (apply qai;intro)
def F57 (c75:C75) (p0:Int):Option (LB):=T57 Ops.std c75 p0 some
abbrev C57:Type:=Int→Option (LB)
def e57 {R:Type} (c:C57):Ent R:=eG [.aC (.cI .i64)] [] fun v k=>ob (c v.1) (K3 k)
abbrev Sp57 (c:C57):Prop:=∀ (p0:Int) (y:LB),c p0=some y→Spec Tryz.prog gl0 57 [.c (.int .i64 p0)] [] (.c (.str y)) []
theorem ek57 {R:Type} {c:C57} (hs:Sp57 c):EOk 57 (e57 (R:=R) c):=qak fun v=>hs v.1
theorem sf57 {c75:C75} (h75:Sp75 c75):Sp57 (F57 c75):=fun p0 y hy=>by
 refine qae (qab (ek75 h75) qad) 1000000 (fn:=Tryz.f57) (by kernel_rfl) (by kernel_rfl) (X:=X57) (by kernel_rfl) ?_
 rw [eq57]
 exact (nt57 Ops.std c75 p0 some (K3 k0)).trans (by show ob (F57 c75 p0) _=_;rw [hy];rfl)
noncomputable def M57:C57:=F57 M75
theorem sm57:Sp57 M57:=sf57 sm75
def X93:Aux:=⟨[],[]⟩
def T93 {R:Type} (B:Ops) (c50:C50) (p0:L3) (p1:Int) (k:(LB×L3×Int)→Option R):Option R:=ob (c50 2 p0 p1) fun y0=>cond (B.inb y0.1 3) (cond (B.lim (List.length (List.getD ((120::mt UInt8)::(121::mt UInt8)::(122::mt UInt8)::mt LB) (Int.toNat y0.1) (mt UInt8))+2) 1) (cond (B.lim (List.length (List.getD ((120::mt UInt8)::(121::mt UInt8)::(122::mt UInt8)::mt LB) (Int.toNat y0.1) (mt UInt8))+2) 1) (cond (B.lim (List.length (List.getD ((120::mt UInt8)::(121::mt UInt8)::(122::mt UInt8)::mt LB) (Int.toNat y0.1) (mt UInt8))+3) 1) (cond (B.lim (List.length (List.getD ((120::mt UInt8)::(121::mt UInt8)::(122::mt UInt8)::mt LB) (Int.toNat y0.1) (mt UInt8))+2) 1) (ob (c50 9 y0.2.1 y0.2.2) fun y1=>cond (B.inb y1.1 9) (k ((List.getD (([49]:LB)::([49]:LB)::(List.getD ((120::mt UInt8)::(121::mt UInt8)::(122::mt UInt8)::mt LB) (Int.toNat y0.1) (mt UInt8)++([60,49]:LB))::(List.getD ((120::mt UInt8)::(121::mt UInt8)::(122::mt UInt8)::mt LB) (Int.toNat y0.1) (mt UInt8)++([62,48]:LB))::(List.getD ((120::mt UInt8)::(121::mt UInt8)::(122::mt UInt8)::mt LB) (Int.toNat y0.1) (mt UInt8)++([61,61,49]:LB))::([120,33,61,121]:LB)::([112,64,97,124,124,120,60,50]:LB)::([33,40,113,64,98,41]:LB)::(List.getD ((120::mt UInt8)::(121::mt UInt8)::(122::mt UInt8)::mt LB) (Int.toNat y0.1) (mt UInt8)++([60,50]:LB))::mt LB) (Int.toNat y1.1) (mt UInt8),y1.2.1,y1.2.2))) none) none) none) none) none) none
theorem eq93 {R:Type} (B:Ops) (c50:C50) (p0:L3) (p1:Int) (k:AV→Objs→Option R) (n:Nat):afun tau B gl0 X93 (ent 50 (e50 c50) gnil) ow Tryz.f93 [.c (.ptr 0 0)] [(0,.box 56 [.list 3 ty3 p0,.int .i64 p1])] k n=T93 B c50 p0 p1 (K32 k):=by kernel_rfl
theorem nt93 {R R':Type} (B:Ops) (c50:C50) (p0:L3) (p1:Int) (k0:(LB×L3×Int)→Option R') (k:R'→Option R):T93 B c50 p0 p1 (fun y=>ob (k0 y) k)=ob (T93 B c50 p0 p1 k0) k:=by
 unfold T93
 repeat' first | exact rfl | apply qac | (apply qai;intro)
def F93 (c50:C50) (p0:L3) (p1:Int):Option (LB×L3×Int):=T93 Ops.std c50 p0 p1 some
abbrev C93:Type:=L3→Int→Option (LB×L3×Int)
def e93 {R:Type} (c:C93):Ent R:=eG [.aC (.cP 0)] [.oB 0 56 [.cL 3 ty3,.cI .i64]] fun v k=>ob (c v.1 v.2.1) (K32 k)
abbrev Sp93 (c:C93):Prop:=∀ (p0:L3) (p1:Int) (y:LB×L3×Int),c p0 p1=some y→Spec Tryz.prog gl0 93 [.c (.ptr 0 0)] [(0,.box 56 [.list 3 ty3 p0,.int .i64 p1])] (.c (.str y.1)) [(0,.box 56 [.list 3 ty3 y.2.1,.int .i64 y.2.2])]
theorem ek93 {R:Type} {c:C93} (hs:Sp93 c):EOk 93 (e93 (R:=R) c):=qak fun v=>hs v.1 v.2.1
theorem sf93 {c50:C50} (h50:Sp50 c50):Sp93 (F93 c50):=fun p0 p1 y hy=>by
 refine qae (qab (ek50 h50) qad) 1000000 (fn:=Tryz.f93) (by kernel_rfl) (by kernel_rfl) (X:=X93) (by kernel_rfl) ?_
 rw [eq93]
 exact (nt93 Ops.std c50 p0 p1 some (K32 k0)).trans (by show ob (F93 c50 p0 p1) _=_;rw [hy];rfl)
noncomputable def M93:C93:=F93 M50
theorem sm93:Sp93 M93:=sf93 sm50
abbrev C94:Type:=Int→L3→Int→Option (LB×L3×Int)
def e94 {R:Type} (c:C94):Ent R:=eG [.aC (.cP 0),.aC (.cI .i64)] [.oB 0 56 [.cL 3 ty3,.cI .i64]] fun v k=>ob (c v.1 v.2.1 v.2.2.1) (K32 k)
abbrev Sp94 (c:C94):Prop:=∀ (p0:Int) (p1:L3) (p2:Int) (y:LB×L3×Int),c p0 p1 p2=some y→Spec Tryz.prog gl0 94 [.c (.ptr 0 0),.c (.int .i64 p0)] [(0,.box 56 [.list 3 ty3 p1,.int .i64 p2])] (.c (.str y.1)) [(0,.box 56 [.list 3 ty3 y.2.1,.int .i64 y.2.2])]
theorem ek94 {R:Type} {c:C94} (hs:Sp94 c):EOk 94 (e94 (R:=R) c):=qak fun v=>hs v.1 v.2.1 v.2.2.1
end Go.Proofs.YtkmpkebaloejhaaGreatDoor.Av
