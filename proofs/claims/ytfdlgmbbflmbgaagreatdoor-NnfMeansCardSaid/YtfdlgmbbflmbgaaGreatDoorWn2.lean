/- Twins of functions,printed by gen.py. Conditions: none. -/
import Derived.Test.YtfdlgmbbflmbgaaGreatDoorWn1
import Derived.KernelRfl
set_option linter.unusedSimpArgs false
set_option linter.unusedVariables false
set_option maxRecDepth 100000
set_option maxHeartbeats 8000000
namespace Go.Proofs.YtfdlgmbbflmbgaaGreatDoor.Av
open Go
noncomputable def Rec44:Nat→(Int→L106→Int→Int→Int→L73→Option (L106×Int×Int×Int×L73))×(L106→Int→Int→Int→L73→Option (L106×Int×Int×Int×L73))
 | 0=>(fun _ _ _ _ _ _=>none,fun _ _ _ _ _=>none)
 | d+1=>(F44 (Rec44 d).2 (Rec44 d).1 M78,F77 M91 (Rec44 d).2 (Rec44 d).1 M92 M87 M45)
theorem rec44:∀ d,Sp44 (Rec44 d).1∧Sp77 (Rec44 d).2
 | 0=>⟨(fun p0 p1 p2 p3 p4 p5 y (h:(none:Option (L106×Int×Int×Int×L73))=some y)=>by cases h),(fun p0 p1 p2 p3 p4 y (h:(none:Option (L106×Int×Int×Int×L73))=some y)=>by cases h)⟩
 | d+1=>⟨sf44 (rec44 d).2 (rec44 d).1 sm78,sf77 sm91 (rec44 d).2 (rec44 d).1 sm92 sm87 sm45⟩
noncomputable def M44:Int→L106→Int→Int→Int→L73→Option (L106×Int×Int×Int×L73):=(Rec44 1000000).1
theorem sm44:Sp44 M44:=(rec44 1000000).1
def X18:Aux:=⟨[],[(9,.lin (rg 0 15))]⟩
abbrev C43:Type:=LB→Option (Int×Int×L106)
def T18 {R:Type} (B:Ops) (c43:C43) (c44:C44) (c45:C45) (p0:LB) (k:(Int×Int×L73)→Option R):Option R:=ob (c43 p0) fun y0=>cond (!B.eq y0.1 (0)) (k ((y0.1,y0.2.1,mt (Ty.den ty73)))) (ob (c44 (1) y0.2.2 (0) (0) (0) (mt (Ty.den ty73))) fun y1=>cond (B.eq ((y1.2.2).1) (0)) (cond (B.inb y1.2.1 (List.length y0.2.2)) (cond (!B.eq ((List.getD y0.2.2 (Int.toNat y1.2.1) ty106.dflt).1) (5)) (ob (c45 (2) y1.2.1 y1.1 y1.2.1 ((y1.2.2).1) ((y1.2.2.2).1) ((y1.2.2.2).2)) fun y2=>cond (!B.eq ((y2.2.2).1) (0)) (cond (B.inb ((y2.2.2.2).1) (List.length y0.2.2)) (k (((y2.2.2).1,(((List.getD y0.2.2 (Int.toNat y2.2.2.2.1) ty106.dflt).2).2).2,mt (Ty.den ty73)))) none) (cond (B.lt (24) (Nat.cast (List.length ((y2.2.2.2).2)))) (k ((13,0,mt (Ty.den ty73)))) (k ((0,0,(y2.2.2.2).2))))) (cond (!B.eq ((y1.2.2).1) (0)) (cond (B.inb ((y1.2.2.2).1) (List.length y0.2.2)) (k (((y1.2.2).1,(((List.getD y0.2.2 (Int.toNat y1.2.2.2.1) ty106.dflt).2).2).2,mt (Ty.den ty73)))) none) (cond (B.lt (24) (Nat.cast (List.length ((y1.2.2.2).2)))) (k ((13,0,mt (Ty.den ty73)))) (k ((0,0,(y1.2.2.2).2)))))) none) (cond (!B.eq ((y1.2.2).1) (0)) (cond (B.inb ((y1.2.2.2).1) (List.length y0.2.2)) (k (((y1.2.2).1,(((List.getD y0.2.2 (Int.toNat y1.2.2.2.1) ty106.dflt).2).2).2,mt (Ty.den ty73)))) none) (cond (B.lt (24) (Nat.cast (List.length ((y1.2.2.2).2)))) (k ((13,0,mt (Ty.den ty73)))) (k ((0,0,(y1.2.2.2).2))))))
abbrev K11 {R:Type} (k:AV→Objs→Option R) (y:(Int×Int×L73)):Option R:=k (.tup [(false,[.own 501000]),(false,[.int .i64 y.1]),(false,[.int .i64 y.2.1])]) [(501000,.row 73 ty73 y.2.2)]
theorem eq18 {R:Type} (B:Ops) (c43:C43) (c44:C44) (c45:C45) (p0:LB) (k:AV→Objs→Option R) (n:Nat):afun tau B gl0 X18 (ent 43 (e43 c43) (ent 44 (e44 c44) (ent 45 (e45 c45) gnil))) ow Tryz.f18 [.c (.str p0)] [] k n=T18 B c43 c44 c45 p0 (K11 k):=by kernel_rfl
theorem nt18 {R R':Type} (B:Ops) (c43:C43) (c44:C44) (c45:C45) (p0:LB) (k0:(Int×Int×L73)→Option R') (k:R'→Option R):T18 B c43 c44 c45 p0 (fun y=>ob (k0 y) k)=ob (T18 B c43 c44 c45 p0 k0) k:=by
 unfold T18
 repeat' first | exact rfl | apply qae | (apply qao;intro)
def F18 (c43:C43) (c44:C44) (c45:C45) (p0:LB):Option (Int×Int×L73):=T18 Ops.std c43 c44 c45 p0 some
def e18 {R:Type} (c:LB→Option (Int×Int×L73)):Ent R:=fun args objs k=>
 oS args fun p0 l0=>oE l0 objs <| ob (c p0) (K11 k)
abbrev Sp18 (c:LB→Option (Int×Int×L73)):Prop:=∀ (p0:LB) (y:Int×Int×L73),c p0=some y→Spec Tryz.prog gl0 18 [.c (.str p0)] [] (.tup [(false,[.own 501000]),(false,[.int .i64 y.1]),(false,[.int .i64 y.2.1])]) [(501000,.row 73 ty73 y.2.2)]
theorem ek18 {R:Type} {c:LB→Option (Int×Int×L73)} (hs:Sp18 c):EOk 18 (e18 (R:=R) c):=fun args objs k r h=>by
 unfold e18 at h
 obtain ⟨p0,l0,rfl,q3⟩:=qa9 h
 obtain ⟨rfl,rfl,q5⟩:=qam q3
 exact qan (hs p0) q5
theorem sf18 {c43:C43} {c44:C44} {c45:C45} (h43:Sp43 c43) (h44:Sp44 c44) (h45:Sp45 c45):Sp18 (F18 c43 c44 c45):=fun p0 y hy=>by
 refine qai (qad (ek43 h43) (qad (ek44 h44) (qad (ek45 h45) qah))) 1000000 (fn:=Tryz.f18) (by kernel_rfl) (by kernel_rfl) (X:=X18) (by kernel_rfl) ?_
 rw [eq18]
 exact (nt18 Ops.std c43 c44 c45 p0 some (K11 k0)).trans (by show ob (F18 c43 c44 c45 p0) _=_;rw [hy];rfl)
noncomputable def M18:LB→Option (Int×Int×L73):=F18 M43 M44 M45
theorem sm18:Sp18 M18:=sf18 sm43 sm44 sm45
def X6:Aux:=⟨[],[]⟩
abbrev C18:Type:=LB→Option (Int×Int×L73)
def T6 {R:Type} (B:Ops) (c18:C18) (p0:LB) (k:(L73)→Option R):Option R:=ob (c18 p0) fun y0=>k y0.2.2
abbrev K12 {R:Type} (k:AV→Objs→Option R) (y:(L73)):Option R:=k (.c (.own 500)) [(500,.row 73 ty73 y)]
theorem eq6 {R:Type} (B:Ops) (c18:C18) (p0:LB) (k:AV→Objs→Option R) (n:Nat):afun tau B gl0 X6 (ent 18 (e18 c18) gnil) ow Tryz.f6 [.c (.str p0)] [] k n=T6 B c18 p0 (K12 k):=by kernel_rfl
theorem nt6 {R R':Type} (B:Ops) (c18:C18) (p0:LB) (k0:(L73)→Option R') (k:R'→Option R):T6 B c18 p0 (fun y=>ob (k0 y) k)=ob (T6 B c18 p0 k0) k:=by
 unfold T6
 repeat' first | exact rfl | apply qae | (apply qao;intro)
def F6 (c18:C18) (p0:LB):Option (L73):=T6 Ops.std c18 p0 some
def e6 {R:Type} (c:LB→Option (L73)):Ent R:=fun args objs k=>
 oS args fun p0 l0=>oE l0 objs <| ob (c p0) (K12 k)
abbrev Sp6 (c:LB→Option (L73)):Prop:=∀ (p0:LB) (y:L73),c p0=some y→Spec Tryz.prog gl0 6 [.c (.str p0)] [] (.c (.own 500)) [(500,.row 73 ty73 y)]
theorem ek6 {R:Type} {c:LB→Option (L73)} (hs:Sp6 c):EOk 6 (e6 (R:=R) c):=fun args objs k r h=>by
 unfold e6 at h
 obtain ⟨p0,l0,rfl,q3⟩:=qa9 h
 obtain ⟨rfl,rfl,q5⟩:=qam q3
 exact qan (hs p0) q5
theorem sf6 {c18:C18} (h18:Sp18 c18):Sp6 (F6 c18):=fun p0 y hy=>by
 refine qai (qad (ek18 h18) qah) 1000000 (fn:=Tryz.f6) (by kernel_rfl) (by kernel_rfl) (X:=X6) (by kernel_rfl) ?_
 rw [eq6]
 exact (nt6 Ops.std c18 p0 some (K12 k0)).trans (by show ob (F6 c18 p0) _=_;rw [hy];rfl)
noncomputable def M6:LB→Option (L73):=F6 M18
theorem sm6:Sp6 M6:=sf6 sm18
def X66:Aux:=⟨[],[]⟩
def T66 {R:Type} (B:Ops) (p0:Int) (k:(Int)→Option R):Option R:=cond (B.eq p0 (1)) (k 0) (cond (B.eq p0 (2)) (k 0) (cond (B.eq p0 (3)) (k 0) (cond (B.eq p0 (4)) (k 1) (cond (B.eq p0 (8)) (k 1) (cond (B.eq p0 (11)) (k 1) (cond (B.eq p0 (12)) (k 1) (cond (B.eq p0 (5)) (k 2) (cond (B.eq p0 (6)) (k 2) (cond (B.eq p0 (7)) (k 2) (cond (B.eq p0 (9)) (k 2) (cond (B.eq p0 (10)) (k 2) (k (-1)))))))))))))
theorem eq66 {R:Type} (B:Ops) (p0:Int) (k:AV→Objs→Option R) (n:Nat):afun tau B gl0 X66 gnil ow Tryz.f66 [.c (.int .i64 p0)] [] k n=T66 B p0 (K8 k):=by kernel_rfl
theorem nt66 {R R':Type} (B:Ops) (p0:Int) (k0:(Int)→Option R') (k:R'→Option R):T66 B p0 (fun y=>ob (k0 y) k)=ob (T66 B p0 k0) k:=by
 unfold T66
 repeat' first | exact rfl | apply qae | (apply qao;intro)
def F66 (p0:Int):Option (Int):=T66 Ops.std p0 some
def e66 {R:Type} (c:Int→Option (Int)):Ent R:=fun args objs k=>
 oI args .i64 fun p0 l0=>oE l0 objs <| ob (c p0) (K8 k)
abbrev Sp66 (c:Int→Option (Int)):Prop:=∀ (p0:Int) (y:Int),c p0=some y→Spec Tryz.prog gl0 66 [.c (.int .i64 p0)] [] (.c (.int .i64 y)) []
theorem ek66 {R:Type} {c:Int→Option (Int)} (hs:Sp66 c):EOk 66 (e66 (R:=R) c):=fun args objs k r h=>by
 unfold e66 at h
 obtain ⟨p0,l0,rfl,q3⟩:=qas h
 obtain ⟨rfl,rfl,q5⟩:=qam q3
 exact qan (hs p0) q5
theorem sf66:Sp66 (F66):=fun p0 y hy=>by
 refine qai qah 1000000 (fn:=Tryz.f66) (by kernel_rfl) (by kernel_rfl) (X:=X66) (by kernel_rfl) ?_
 rw [eq66]
 exact (nt66 Ops.std p0 some (K8 k0)).trans (by show ob (F66 p0) _=_;rw [hy];rfl)
noncomputable def M66:Int→Option (Int):=F66
theorem sm66:Sp66 M66:=sf66
def X95:Aux:=⟨[],[]⟩
def T95 {R:Type} (B:Ops) (p0:Int) (k:(Int)→Option R):Option R:=cond (B.lt p0 (1)) (k (-1)) (cond (B.lt (16) p0) (k (-1)) (cond (B.le p0 (3)) (k 0) (cond (B.le p0 (5)) (k 1) (k 2))))
theorem eq95 {R:Type} (B:Ops) (p0:Int) (k:AV→Objs→Option R) (n:Nat):afun tau B gl0 X95 gnil ow Tryz.f95 [.c (.int .i64 p0)] [] k n=T95 B p0 (K8 k):=by kernel_rfl
theorem nt95 {R R':Type} (B:Ops) (p0:Int) (k0:(Int)→Option R') (k:R'→Option R):T95 B p0 (fun y=>ob (k0 y) k)=ob (T95 B p0 k0) k:=by
 unfold T95
 repeat' first | exact rfl | apply qae | (apply qao;intro)
def F95 (p0:Int):Option (Int):=T95 Ops.std p0 some
def e95 {R:Type} (c:Int→Option (Int)):Ent R:=fun args objs k=>
 oI args .i64 fun p0 l0=>oE l0 objs <| ob (c p0) (K8 k)
abbrev Sp95 (c:Int→Option (Int)):Prop:=∀ (p0:Int) (y:Int),c p0=some y→Spec Tryz.prog gl0 95 [.c (.int .i64 p0)] [] (.c (.int .i64 y)) []
theorem ek95 {R:Type} {c:Int→Option (Int)} (hs:Sp95 c):EOk 95 (e95 (R:=R) c):=fun args objs k r h=>by
 unfold e95 at h
 obtain ⟨p0,l0,rfl,q3⟩:=qas h
 obtain ⟨rfl,rfl,q5⟩:=qam q3
 exact qan (hs p0) q5
theorem sf95:Sp95 (F95):=fun p0 y hy=>by
 refine qai qah 1000000 (fn:=Tryz.f95) (by kernel_rfl) (by kernel_rfl) (X:=X95) (by kernel_rfl) ?_
 rw [eq95]
 exact (nt95 Ops.std p0 some (K8 k0)).trans (by show ob (F95 p0) _=_;rw [hy];rfl)
noncomputable def M95:Int→Option (Int):=F95
theorem sm95:Sp95 M95:=sf95
def X101:Aux:=⟨[],[]⟩
def T101 {R:Type} (B:Ops) (p0:Int) (k:(Bool)→Option R):Option R:=cond (B.le (97) p0) (cond (B.le p0 (122)) (k true) (k (B.eq p0 (95)))) (k (B.eq p0 (95)))
theorem eq101 {R:Type} (B:Ops) (p0:Int) (k:AV→Objs→Option R) (n:Nat):afun tau B gl0 X101 gnil ow Tryz.f101 [.c (.int .u8 p0)] [] k n=T101 B p0 (K1 k):=by kernel_rfl
theorem nt101 {R R':Type} (B:Ops) (p0:Int) (k0:(Bool)→Option R') (k:R'→Option R):T101 B p0 (fun y=>ob (k0 y) k)=ob (T101 B p0 k0) k:=by
 unfold T101
 repeat' first | exact rfl | apply qae | (apply qao;intro)
def F101 (p0:Int):Option (Bool):=T101 Ops.std p0 some
def e101 {R:Type} (c:Int→Option (Bool)):Ent R:=fun args objs k=>
 oI args .u8 fun p0 l0=>oE l0 objs <| ob (c p0) (K1 k)
abbrev Sp101 (c:Int→Option (Bool)):Prop:=∀ (p0:Int) (y:Bool),c p0=some y→Spec Tryz.prog gl0 101 [.c (.int .u8 p0)] [] (.c (.bool y)) []
theorem ek101 {R:Type} {c:Int→Option (Bool)} (hs:Sp101 c):EOk 101 (e101 (R:=R) c):=fun args objs k r h=>by
 unfold e101 at h
 obtain ⟨p0,l0,rfl,q3⟩:=qas h
 obtain ⟨rfl,rfl,q5⟩:=qam q3
 exact qan (hs p0) q5
theorem sf101:Sp101 (F101):=fun p0 y hy=>by
 refine qai qah 1000000 (fn:=Tryz.f101) (by kernel_rfl) (by kernel_rfl) (X:=X101) (by kernel_rfl) ?_
 rw [eq101]
 exact (nt101 Ops.std p0 some (K1 k0)).trans (by show ob (F101 p0) _=_;rw [hy];rfl)
noncomputable def M101:Int→Option (Bool):=F101
theorem sm101:Sp101 M101:=sf101
def X106:Aux:=⟨[],[]⟩
def T106 {R:Type} (B:Ops) (p0:Int) (k:(Bool)→Option R):Option R:=cond (B.le (48) p0) (k (B.le p0 (57))) (k false)
theorem eq106 {R:Type} (B:Ops) (p0:Int) (k:AV→Objs→Option R) (n:Nat):afun tau B gl0 X106 gnil ow Tryz.f106 [.c (.int .u8 p0)] [] k n=T106 B p0 (K1 k):=by kernel_rfl
theorem nt106 {R R':Type} (B:Ops) (p0:Int) (k0:(Bool)→Option R') (k:R'→Option R):T106 B p0 (fun y=>ob (k0 y) k)=ob (T106 B p0 k0) k:=by
 unfold T106
 repeat' first | exact rfl | apply qae | (apply qao;intro)
def F106 (p0:Int):Option (Bool):=T106 Ops.std p0 some
def e106 {R:Type} (c:Int→Option (Bool)):Ent R:=fun args objs k=>
 oI args .u8 fun p0 l0=>oE l0 objs <| ob (c p0) (K1 k)
abbrev Sp106 (c:Int→Option (Bool)):Prop:=∀ (p0:Int) (y:Bool),c p0=some y→Spec Tryz.prog gl0 106 [.c (.int .u8 p0)] [] (.c (.bool y)) []
theorem ek106 {R:Type} {c:Int→Option (Bool)} (hs:Sp106 c):EOk 106 (e106 (R:=R) c):=fun args objs k r h=>by
 unfold e106 at h
 obtain ⟨p0,l0,rfl,q3⟩:=qas h
 obtain ⟨rfl,rfl,q5⟩:=qam q3
 exact qan (hs p0) q5
theorem sf106:Sp106 (F106):=fun p0 y hy=>by
 refine qai qah 1000000 (fn:=Tryz.f106) (by kernel_rfl) (by kernel_rfl) (X:=X106) (by kernel_rfl) ?_
 rw [eq106]
 exact (nt106 Ops.std p0 some (K1 k0)).trans (by show ob (F106 p0) _=_;rw [hy];rfl)
noncomputable def M106:Int→Option (Bool):=F106
theorem sm106:Sp106 M106:=sf106
def X103:Aux:=⟨[],[]⟩
abbrev C101:Type:=Int→Option (Bool)
abbrev C106:Type:=Int→Option (Bool)
def T103 {R:Type} (B:Ops) (c101:C101) (c106:C106) (p0:Int) (k:(Bool)→Option R):Option R:=ob (c101 p0) fun y0=>cond (y0) (k true) (ob (c106 p0) fun y1=>k y1)
theorem eq103 {R:Type} (B:Ops) (c101:C101) (c106:C106) (p0:Int) (k:AV→Objs→Option R) (n:Nat):afun tau B gl0 X103 (ent 101 (e101 c101) (ent 106 (e106 c106) gnil)) ow Tryz.f103 [.c (.int .u8 p0)] [] k n=T103 B c101 c106 p0 (K1 k):=by kernel_rfl
theorem nt103 {R R':Type} (B:Ops) (c101:C101) (c106:C106) (p0:Int) (k0:(Bool)→Option R') (k:R'→Option R):T103 B c101 c106 p0 (fun y=>ob (k0 y) k)=ob (T103 B c101 c106 p0 k0) k:=by
 unfold T103
 repeat' first | exact rfl | apply qae | (apply qao;intro)
def F103 (c101:C101) (c106:C106) (p0:Int):Option (Bool):=T103 Ops.std c101 c106 p0 some
def e103 {R:Type} (c:Int→Option (Bool)):Ent R:=fun args objs k=>
 oI args .u8 fun p0 l0=>oE l0 objs <| ob (c p0) (K1 k)
abbrev Sp103 (c:Int→Option (Bool)):Prop:=∀ (p0:Int) (y:Bool),c p0=some y→Spec Tryz.prog gl0 103 [.c (.int .u8 p0)] [] (.c (.bool y)) []
theorem ek103 {R:Type} {c:Int→Option (Bool)} (hs:Sp103 c):EOk 103 (e103 (R:=R) c):=fun args objs k r h=>by
 unfold e103 at h
 obtain ⟨p0,l0,rfl,q3⟩:=qas h
 obtain ⟨rfl,rfl,q5⟩:=qam q3
 exact qan (hs p0) q5
theorem sf103 {c101:C101} {c106:C106} (h101:Sp101 c101) (h106:Sp106 c106):Sp103 (F103 c101 c106):=fun p0 y hy=>by
 refine qai (qad (ek101 h101) (qad (ek106 h106) qah)) 1000000 (fn:=Tryz.f103) (by kernel_rfl) (by kernel_rfl) (X:=X103) (by kernel_rfl) ?_
 rw [eq103]
 exact (nt103 Ops.std c101 c106 p0 some (K1 k0)).trans (by show ob (F103 c101 c106 p0) _=_;rw [hy];rfl)
noncomputable def M103:Int→Option (Bool):=F103 M101 M106
theorem sm103:Sp103 M103:=sf103 sm101 sm106
def X102:Aux:=⟨[(2,([2,3,4]++rg 6 16))],[]⟩
inductive S102 where
 | l0 (v1:Int)
abbrev C103:Type:=Int→Option (Bool)
def T102 {R:Type} (B:Ops) (c103:C103) (p0:LB) (again:S102→Option R) (k:(LB)→Option R):Option S102→Option R | none=>again (.l0 0) | some (.l0 v1)=>cond (B.lt v1 (↑p0.length)) (cond (B.inb v1 p0.length) (ob (c103 (Nat.cast (UInt8.toNat (p0.getD v1.toNat (0))))) fun y0=>cond (y0) (again (.l0 (IntKind.wrap .i64 (v1+1)))) (cond (B.inb v1 (List.length p0+1)) (k (List.drop (0) (List.take v1.toNat p0))) none)) none) (cond (B.inb v1 (List.length p0+1)) (k (List.drop (0) (List.take v1.toNat p0))) none)
def E102 (p0:LB):S102→List AV×Objs
 | .l0 v1=>(mk 22 [(0,.c (.str p0)),(1,.fn 103 []),(5,.c (.int .i64 v1))],[])
def I102:S102→Nat
 | .l0 _=>0
theorem eq102 {R:Type} (B:Ops) (c103:C103) (p0:LB) (k:AV→Objs→Option R) (n:Nat):afun tau B gl0 X102 (ent 103 (e103 c103) gnil) ow Tryz.f102 [.c (.str p0),.fn 103 []] [] k n=T102 B c103 p0 (fun s=>aloop tau B gl0 X102 (ent 103 (e103 c103) gnil) ow [] Tryz.f102 k (I102 s) (E102 p0 s) n) (K2 k) none:=by kernel_rfl
theorem el102 {R:Type} (B:Ops) (c103:C103) (p0:LB) (k:AV→Objs→Option R) (n:Nat):∀ s,aloop tau B gl0 X102 (ent 103 (e103 c103) gnil) ow [] Tryz.f102 k (I102 s) (E102 p0 s) (n+1)=T102 B c103 p0 (fun s=>aloop tau B gl0 X102 (ent 103 (e103 c103) gnil) ow [] Tryz.f102 k (I102 s) (E102 p0 s) n) (K2 k) (some s):=by
 intro s
 cases s<;>kernel_rfl
theorem nt102 {R R':Type} (B:Ops) (c103:C103) (p0:LB) (again:S102→Option R) (again':S102→Option R') (k0:(LB)→Option R') (k:R'→Option R) (h:∀ s,again s=ob (again' s) k):∀ s,T102 B c103 p0 again (fun y=>ob (k0 y) k) s=ob (T102 B c103 p0 again' k0 s) k:=by
 rintro (_ | x)
 all_goals try cases x
 all_goals (unfold T102;repeat' first | exact rfl | exact h _ | apply qae | (apply qao;intro))
def R102 (c103:C103) (p0:LB):Nat→S102→Option (LB)
 | 0,_=>none
 | n+1,s=>T102 Ops.std c103 p0 (R102 c103 p0 n) some (some s)
theorem rr102 {R:Type} (c103:C103) (p0:LB) (k:AV→Objs→Option R):∀ (n:Nat) (s:S102),aloop tau Ops.std gl0 X102 (ent 103 (e103 c103) gnil) ow [] Tryz.f102 k (I102 s) (E102 p0 s) n=ob (R102 c103 p0 n s) (K2 k)
 | 0,s=>by cases s<;>rfl
 | n+1,s=>by rw [el102];exact nt102 Ops.std c103 p0 _ _ some (K2 k) (rr102 c103 p0 k n) (some s)
def F102 (c103:C103) (p0:LB):Option (LB):=T102 Ops.std c103 p0 (R102 c103 p0 1000000) some none
def e102 {R:Type} (c:LB→Option (LB)):Ent R:=fun args objs k=>
 oS args fun p0 l0=>oCons l0 fun a1 l1=>oFn 103 a1 <| oE l1 objs <| ob (c p0) (K2 k)
abbrev Sp102 (c:LB→Option (LB)):Prop:=∀ (p0:LB) (y:LB),c p0=some y→Spec Tryz.prog gl0 102 [.c (.str p0),.fn 103 []] [] (.c (.str y)) []
theorem ek102 {R:Type} {c:LB→Option (LB)} (hs:Sp102 c):EOk 102 (e102 (R:=R) c):=fun args objs k r h=>by
 unfold e102 at h
 obtain ⟨p0,l0,rfl,q3⟩:=qa9 h
 obtain ⟨a1,l1,rfl,q4⟩:=qak q3
 obtain ⟨rfl,q5⟩:=oFn_some q4
 obtain ⟨rfl,rfl,q7⟩:=qam q5
 exact qan (hs p0) q7
theorem sf102 {c103:C103} (h103:Sp103 c103):Sp102 (F102 c103):=fun p0 y hy=>by
 refine qai (qad (ek103 h103) qah) 1000000 (fn:=Tryz.f102) (by kernel_rfl) (by kernel_rfl) (X:=X102) (by kernel_rfl) ?_
 rw [eq102]
 exact (nt102 Ops.std c103 p0 _ _ some (K2 k0) (rr102 c103 p0 k0 1000000) none).trans (by show ob (F102 c103 p0) _=_;rw [hy];rfl)
noncomputable def M102:LB→Option (LB):=F102 M103
theorem sm102:Sp102 M102:=sf102 sm103
def X129:Aux:=⟨[(2,([2,3,4]++rg 6 16))],[]⟩
inductive S129 where
 | l0 (v1:Int)
def T129 {R:Type} (B:Ops) (c106:C106) (p0:LB) (again:S129→Option R) (k:(LB)→Option R):Option S129→Option R | none=>again (.l0 0) | some (.l0 v1)=>cond (B.lt v1 (↑p0.length)) (cond (B.inb v1 p0.length) (ob (c106 (Nat.cast (UInt8.toNat (p0.getD v1.toNat (0))))) fun y0=>cond (y0) (again (.l0 (IntKind.wrap .i64 (v1+1)))) (cond (B.inb v1 (List.length p0+1)) (k (List.drop (0) (List.take v1.toNat p0))) none)) none) (cond (B.inb v1 (List.length p0+1)) (k (List.drop (0) (List.take v1.toNat p0))) none)
def E129 (p0:LB):S129→List AV×Objs
 | .l0 v1=>(mk 22 [(0,.c (.str p0)),(1,.fn 106 []),(5,.c (.int .i64 v1))],[])
def I129:S129→Nat
 | .l0 _=>0
theorem eq129 {R:Type} (B:Ops) (c106:C106) (p0:LB) (k:AV→Objs→Option R) (n:Nat):afun tau B gl0 X129 (ent 106 (e106 c106) gnil) ow Tryz.f102 [.c (.str p0),.fn 106 []] [] k n=T129 B c106 p0 (fun s=>aloop tau B gl0 X129 (ent 106 (e106 c106) gnil) ow [] Tryz.f102 k (I129 s) (E129 p0 s) n) (K2 k) none:=by kernel_rfl
theorem el129 {R:Type} (B:Ops) (c106:C106) (p0:LB) (k:AV→Objs→Option R) (n:Nat):∀ s,aloop tau B gl0 X129 (ent 106 (e106 c106) gnil) ow [] Tryz.f102 k (I129 s) (E129 p0 s) (n+1)=T129 B c106 p0 (fun s=>aloop tau B gl0 X129 (ent 106 (e106 c106) gnil) ow [] Tryz.f102 k (I129 s) (E129 p0 s) n) (K2 k) (some s):=by
 intro s
 cases s<;>kernel_rfl
theorem nt129 {R R':Type} (B:Ops) (c106:C106) (p0:LB) (again:S129→Option R) (again':S129→Option R') (k0:(LB)→Option R') (k:R'→Option R) (h:∀ s,again s=ob (again' s) k):∀ s,T129 B c106 p0 again (fun y=>ob (k0 y) k) s=ob (T129 B c106 p0 again' k0 s) k:=by
 rintro (_ | x)
 all_goals try cases x
 all_goals (unfold T129;repeat' first | exact rfl | exact h _ | apply qae | (apply qao;intro))
def R129 (c106:C106) (p0:LB):Nat→S129→Option (LB)
 | 0,_=>none
 | n+1,s=>T129 Ops.std c106 p0 (R129 c106 p0 n) some (some s)
theorem rr129 {R:Type} (c106:C106) (p0:LB) (k:AV→Objs→Option R):∀ (n:Nat) (s:S129),aloop tau Ops.std gl0 X129 (ent 106 (e106 c106) gnil) ow [] Tryz.f102 k (I129 s) (E129 p0 s) n=ob (R129 c106 p0 n s) (K2 k)
 | 0,s=>by cases s<;>rfl
 | n+1,s=>by rw [el129];exact nt129 Ops.std c106 p0 _ _ some (K2 k) (rr129 c106 p0 k n) (some s)
def F129 (c106:C106) (p0:LB):Option (LB):=T129 Ops.std c106 p0 (R129 c106 p0 1000000) some none
def e129 {R:Type} (c:LB→Option (LB)):Ent R:=fun args objs k=>
 oS args fun p0 l0=>oCons l0 fun a1 l1=>oFn 106 a1 <| oE l1 objs <| ob (c p0) (K2 k)
abbrev Sp129 (c:LB→Option (LB)):Prop:=∀ (p0:LB) (y:LB),c p0=some y→Spec Tryz.prog gl0 102 [.c (.str p0),.fn 106 []] [] (.c (.str y)) []
theorem ek129 {R:Type} {c:LB→Option (LB)} (hs:Sp129 c):EOk 102 (e129 (R:=R) c):=fun args objs k r h=>by
 unfold e129 at h
 obtain ⟨p0,l0,rfl,q3⟩:=qa9 h
 obtain ⟨a1,l1,rfl,q4⟩:=qak q3
 obtain ⟨rfl,q5⟩:=oFn_some q4
 obtain ⟨rfl,rfl,q7⟩:=qam q5
 exact qan (hs p0) q7
theorem sf129 {c106:C106} (h106:Sp106 c106):Sp129 (F129 c106):=fun p0 y hy=>by
 refine qai (qad (ek106 h106) qah) 1000000 (fn:=Tryz.f102) (by kernel_rfl) (by kernel_rfl) (X:=X129) (by kernel_rfl) ?_
 rw [eq129]
 exact (nt129 Ops.std c106 p0 _ _ some (K2 k0) (rr129 c106 p0 k0 1000000) none).trans (by show ob (F129 c106 p0) _=_;rw [hy];rfl)
noncomputable def M129:LB→Option (LB):=F129 M106
theorem sm129:Sp129 M129:=sf129 sm106
def X98:Aux:=⟨[],[]⟩
abbrev C102:Type:=LB→Option (LB)
abbrev C129:Type:=LB→Option (LB)
def T98 {R:Type} (B:Ops) (c101:C101) (c102:C102) (c129:C129) (c103:C103) (p0:LB) (k:(Bool)→Option R):Option R:=cond (!p0 == mt UInt8) (cond (B.le (↑p0.length) (8)) (cond (B.inb (0) p0.length) (ob (c101 (Nat.cast (UInt8.toNat (p0.getD (Int.toNat (0)) (0))))) fun y0=>cond (y0) (ob (c102 p0) fun y1=>k (y1 == p0)) (k false)) none) (k false)) (k false)
theorem eq98 {R:Type} (B:Ops) (c101:C101) (c102:C102) (c129:C129) (c103:C103) (p0:LB) (k:AV→Objs→Option R) (n:Nat):afun tau B gl0 X98 (ent 101 (e101 c101) (ent 102 (eAlt 1 103 (e102 c102) (e129 c129)) (ent 103 (e103 c103) gnil))) ow Tryz.f98 [.c (.str p0)] [] k n=T98 B c101 c102 c129 c103 p0 (K1 k):=by kernel_rfl
theorem nt98 {R R':Type} (B:Ops) (c101:C101) (c102:C102) (c129:C129) (c103:C103) (p0:LB) (k0:(Bool)→Option R') (k:R'→Option R):T98 B c101 c102 c129 c103 p0 (fun y=>ob (k0 y) k)=ob (T98 B c101 c102 c129 c103 p0 k0) k:=by
 unfold T98
 repeat' first | exact rfl | apply qae | (apply qao;intro)
def F98 (c101:C101) (c102:C102) (c129:C129) (c103:C103) (p0:LB):Option (Bool):=T98 Ops.std c101 c102 c129 c103 p0 some
def e98 {R:Type} (c:LB→Option (Bool)):Ent R:=fun args objs k=>
 oS args fun p0 l0=>oE l0 objs <| ob (c p0) (K1 k)
abbrev Sp98 (c:LB→Option (Bool)):Prop:=∀ (p0:LB) (y:Bool),c p0=some y→Spec Tryz.prog gl0 98 [.c (.str p0)] [] (.c (.bool y)) []
theorem ek98 {R:Type} {c:LB→Option (Bool)} (hs:Sp98 c):EOk 98 (e98 (R:=R) c):=fun args objs k r h=>by
 unfold e98 at h
 obtain ⟨p0,l0,rfl,q3⟩:=qa9 h
 obtain ⟨rfl,rfl,q5⟩:=qam q3
 exact qan (hs p0) q5
theorem sf98 {c101:C101} {c102:C102} {c129:C129} {c103:C103} (h101:Sp101 c101) (h102:Sp102 c102) (h129:Sp129 c129) (h103:Sp103 c103):Sp98 (F98 c101 c102 c129 c103):=fun p0 y hy=>by
 refine qai (G:=ent 101 (e101 c101) (ent 102 (eAlt 1 103 (e102 c102) (e129 c129)) (ent 103 (e103 c103) gnil))) (qad (ek101 h101) (qad (eAlt_ok (ek102 h102) (ek129 h129)) (qad (ek103 h103) qah))) 1000000 (fn:=Tryz.f98) (by kernel_rfl) (by kernel_rfl) (X:=X98) (by kernel_rfl) ?_
 rw [eq98]
 exact (nt98 Ops.std c101 c102 c129 c103 p0 some (K1 k0)).trans (by show ob (F98 c101 c102 c129 c103 p0) _=_;rw [hy];rfl)
noncomputable def M98:LB→Option (Bool):=F98 M101 M102 M129 M103
theorem sm98:Sp98 M98:=sf98 sm101 sm102 sm129 sm103
def X96:Aux:=⟨[],[]⟩
abbrev C98:Type:=LB→Option (Bool)
abbrev C95:Type:=Int→Option (Int)
def T96 {R:Type} (B:Ops) (c98:C98) (c95:C95) (p0:Int) (p1:Int) (p2:LB) (p3:LB) (k:(Bool)→Option R):Option R:=cond (B.eq p0 (1)) (cond (B.le (0) p1) (cond (B.le p1 (999)) (cond (p2 == mt UInt8) (k (p3 == mt UInt8)) (k false)) (k false)) (k false)) (cond (B.eq p0 (2)) (cond (B.eq p1 (0)) (ob (c98 p2) fun y0=>cond (y0) (k (p3 == mt UInt8)) (k false)) (k false)) (cond (B.eq p0 (3)) (cond (B.eq p1 (0)) (ob (c98 p2) fun y0=>cond (y0) (ob (c98 p3) fun y1=>k y1) (k false)) (k false)) (ob (c95 p0) fun y0=>cond (B.lt (0) y0) (cond (B.eq p1 (0)) (cond (p2 == mt UInt8) (k (p3 == mt UInt8)) (k false)) (k false)) (k false))))
theorem eq96 {R:Type} (B:Ops) (c98:C98) (c95:C95) (p0:Int) (p1:Int) (p2:LB) (p3:LB) (k:AV→Objs→Option R) (n:Nat):afun tau B gl0 X96 (ent 98 (e98 c98) (ent 95 (e95 c95) gnil)) ow Tryz.f96 [.agg [.int .i64 p0,.int .i64 p1,.str p2,.str p3]] [] k n=T96 B c98 c95 p0 p1 p2 p3 (K1 k):=by kernel_rfl
theorem nt96 {R R':Type} (B:Ops) (c98:C98) (c95:C95) (p0:Int) (p1:Int) (p2:LB) (p3:LB) (k0:(Bool)→Option R') (k:R'→Option R):T96 B c98 c95 p0 p1 p2 p3 (fun y=>ob (k0 y) k)=ob (T96 B c98 c95 p0 p1 p2 p3 k0) k:=by
 unfold T96
 repeat' first | exact rfl | apply qae | (apply qao;intro)
def F96 (c98:C98) (c95:C95) (p0:Int) (p1:Int) (p2:LB) (p3:LB):Option (Bool):=T96 Ops.std c98 c95 p0 p1 p2 p3 some
def e96 {R:Type} (c:Int→Int→LB→LB→Option (Bool)):Ent R:=fun args objs k=>
 oCons args fun a0 l0=>oAgg a0 fun x0=>cCons x0 fun z0_0 w0_0=>cInt .i64 z0_0 fun p0=>cCons w0_0 fun z0_1 w0_1=>cInt .i64 z0_1 fun p1=>cCons w0_1 fun z0_2 w0_2=>cStr z0_2 fun p2=>cCons w0_2 fun z0_3 w0_3=>cStr z0_3 fun p3=>cNil w0_3 <| oE l0 objs <| ob (c p0 p1 p2 p3) (K1 k)
abbrev Sp96 (c:Int→Int→LB→LB→Option (Bool)):Prop:=∀ (p0:Int) (p1:Int) (p2:LB) (p3:LB) (y:Bool),c p0 p1 p2 p3=some y→Spec Tryz.prog gl0 96 [.agg [.int .i64 p0,.int .i64 p1,.str p2,.str p3]] [] (.c (.bool y)) []
theorem ek96 {R:Type} {c:Int→Int→LB→LB→Option (Bool)} (hs:Sp96 c):EOk 96 (e96 (R:=R) c):=fun args objs k r h=>by
 unfold e96 at h
 obtain ⟨a0,l0,rfl,q1⟩:=qak h
 obtain ⟨x0,rfl,q2⟩:=qav q1
 obtain ⟨z0_0,w0_0,rfl,q3⟩:=qaa q2
 obtain ⟨p0,rfl,q4⟩:=qar q3
 obtain ⟨z0_1,w0_1,rfl,q5⟩:=qaa q4
 obtain ⟨p1,rfl,q6⟩:=qar q5
 obtain ⟨z0_2,w0_2,rfl,q7⟩:=qaa q6
 obtain ⟨p2,rfl,q8⟩:=qbb q7
 obtain ⟨z0_3,w0_3,rfl,q9⟩:=qaa q8
 obtain ⟨p3,rfl,q10⟩:=qbb q9
 obtain ⟨rfl,q11⟩:=qaq q10
 obtain ⟨rfl,rfl,q13⟩:=qam q11
 exact qan (hs p0 p1 p2 p3) q13
theorem sf96 {c98:C98} {c95:C95} (h98:Sp98 c98) (h95:Sp95 c95):Sp96 (F96 c98 c95):=fun p0 p1 p2 p3 y hy=>by
 refine qai (qad (ek98 h98) (qad (ek95 h95) qah)) 1000000 (fn:=Tryz.f96) (by kernel_rfl) (by kernel_rfl) (X:=X96) (by kernel_rfl) ?_
 rw [eq96]
 exact (nt96 Ops.std c98 c95 p0 p1 p2 p3 some (K1 k0)).trans (by show ob (F96 c98 c95 p0 p1 p2 p3) _=_;rw [hy];rfl)
noncomputable def M96:Int→Int→LB→LB→Option (Bool):=F96 M98 M95
theorem sm96:Sp96 M96:=sf96 sm98 sm95
def X86:Aux:=⟨[(3,([1,2,4,5,6]++rg 10 26))],[]⟩
inductive S86 where
 | l0 (v1:Int) (v3:Int) (v4:Int)
abbrev C96:Type:=Int→Int→LB→LB→Option (Bool)
def T86 {R:Type} (B:Ops) (c95:C95) (c96:C96) (p0:L118) (again:S86→Option R) (k:(Bool)→Option R):Option S86→Option R | none=>again (.l0 0 (↑p0.length) 0) | some (.l0 v1 v3 v4)=>cond (B.lt v4 v3) (cond (B.inb v4 p0.length) (ob (c95 ((p0.getD v4.toNat ty118.dflt).1)) fun y0=>ob (c96 ((p0.getD v4.toNat ty118.dflt).1) (((p0.getD v4.toNat ty118.dflt).2).1) ((((p0.getD v4.toNat ty118.dflt).2).2).1) ((((p0.getD v4.toNat ty118.dflt).2).2).2)) fun y1=>cond (!y1) (k false) (cond (B.lt v1 y0) (k false) (again (.l0 (IntKind.wrap .i64 (v1+IntKind.wrap .i64 (1-y0))) v3 (IntKind.wrap .i64 (v4+1)))))) none) (cond (B.eq v1 (1)) (k (B.le (↑p0.length) (30))) (k false))
def E86 (p0:L118):S86→List AV×Objs
 | .l0 v1 v3 v4=>(mk 36 [(0,.c (.list 118 ty118 p0)),(3,.c (.int .i64 v1)),(7,.c (.list 118 ty118 p0)),(8,.c (.int .i64 v3)),(9,.c (.int .i64 v4))],[])
def I86:S86→Nat
 | .l0 _ _ _=>0
theorem eq86 {R:Type} (B:Ops) (c95:C95) (c96:C96) (p0:L118) (k:AV→Objs→Option R) (n:Nat):afun tau B gl0 X86 (ent 95 (e95 c95) (ent 96 (e96 c96) gnil)) ow Tryz.f86 [.c (.list 118 ty118 p0)] [] k n=T86 B c95 c96 p0 (fun s=>aloop tau B gl0 X86 (ent 95 (e95 c95) (ent 96 (e96 c96) gnil)) ow [] Tryz.f86 k (I86 s) (E86 p0 s) n) (K1 k) none:=by kernel_rfl
theorem el86 {R:Type} (B:Ops) (c95:C95) (c96:C96) (p0:L118) (k:AV→Objs→Option R) (n:Nat):∀ s,aloop tau B gl0 X86 (ent 95 (e95 c95) (ent 96 (e96 c96) gnil)) ow [] Tryz.f86 k (I86 s) (E86 p0 s) (n+1)=T86 B c95 c96 p0 (fun s=>aloop tau B gl0 X86 (ent 95 (e95 c95) (ent 96 (e96 c96) gnil)) ow [] Tryz.f86 k (I86 s) (E86 p0 s) n) (K1 k) (some s):=by
 intro s
 cases s<;>kernel_rfl
theorem nt86 {R R':Type} (B:Ops) (c95:C95) (c96:C96) (p0:L118) (again:S86→Option R) (again':S86→Option R') (k0:(Bool)→Option R') (k:R'→Option R) (h:∀ s,again s=ob (again' s) k):∀ s,T86 B c95 c96 p0 again (fun y=>ob (k0 y) k) s=ob (T86 B c95 c96 p0 again' k0 s) k:=by
 rintro (_ | x)
 all_goals try cases x
 all_goals (unfold T86;repeat' first | exact rfl | exact h _ | apply qae | (apply qao;intro))
def R86 (c95:C95) (c96:C96) (p0:L118):Nat→S86→Option (Bool)
 | 0,_=>none
 | n+1,s=>T86 Ops.std c95 c96 p0 (R86 c95 c96 p0 n) some (some s)
theorem rr86 {R:Type} (c95:C95) (c96:C96) (p0:L118) (k:AV→Objs→Option R):∀ (n:Nat) (s:S86),aloop tau Ops.std gl0 X86 (ent 95 (e95 c95) (ent 96 (e96 c96) gnil)) ow [] Tryz.f86 k (I86 s) (E86 p0 s) n=ob (R86 c95 c96 p0 n s) (K1 k)
 | 0,s=>by cases s<;>rfl
 | n+1,s=>by rw [el86];exact nt86 Ops.std c95 c96 p0 _ _ some (K1 k) (rr86 c95 c96 p0 k n) (some s)
def F86 (c95:C95) (c96:C96) (p0:L118):Option (Bool):=T86 Ops.std c95 c96 p0 (R86 c95 c96 p0 1000000) some none
def e86 {R:Type} (c:L118→Option (Bool)):Ent R:=fun args objs k=>
 oL args 118 ty118 fun p0 l0=>oE l0 objs <| ob (c p0) (K1 k)
abbrev Sp86 (c:L118→Option (Bool)):Prop:=∀ (p0:L118) (y:Bool),c p0=some y→Spec Tryz.prog gl0 86 [.c (.list 118 ty118 p0)] [] (.c (.bool y)) []
theorem ek86 {R:Type} {c:L118→Option (Bool)} (hs:Sp86 c):EOk 86 (e86 (R:=R) c):=fun args objs k r h=>by
 unfold e86 at h
 obtain ⟨p0,l0,rfl,q3⟩:=qa1 h
 obtain ⟨rfl,rfl,q5⟩:=qam q3
 exact qan (hs p0) q5
theorem sf86 {c95:C95} {c96:C96} (h95:Sp95 c95) (h96:Sp96 c96):Sp86 (F86 c95 c96):=fun p0 y hy=>by
 refine qai (qad (ek95 h95) (qad (ek96 h96) qah)) 1000000 (fn:=Tryz.f86) (by kernel_rfl) (by kernel_rfl) (X:=X86) (by kernel_rfl) ?_
 rw [eq86]
 exact (nt86 Ops.std c95 c96 p0 _ _ some (K1 k0) (rr86 c95 c96 p0 k0 1000000) none).trans (by show ob (F86 c95 c96 p0) _=_;rw [hy];rfl)
noncomputable def M86:L118→Option (Bool):=F86 M95 M96
theorem sm86:Sp86 M86:=sf86 sm95 sm96
def X65:Aux:=⟨[(3,([1,2,4,5,6]++rg 10 47))],[]⟩
inductive S65 where
 | l0 (v1:Int) (v3:Int) (v4:Int)
abbrev C66:Type:=Int→Option (Int)
abbrev C86:Type:=L118→Option (Bool)
def T65 {R:Type} (B:Ops) (c66:C66) (c86:C86) (p0:L73) (again:S65→Option R) (k:(Bool)→Option R):Option S65→Option R | none=>again (.l0 0 (↑p0.length) 0) | some (.l0 v1 v3 v4)=>cond (B.lt v4 v3) (cond (B.inb v4 p0.length) (ob (c66 ((p0.getD v4.toNat ty73.dflt).1)) fun y0=>cond (B.lt y0 (0)) (k false) (cond (B.lt v1 y0) (k false) (cond (B.eq ((p0.getD v4.toNat ty73.dflt).1) (3)) (ob (c86 ((p0.getD v4.toNat ty73.dflt).2)) fun y1=>cond (!y1) (k false) (cond (!B.eq ((p0.getD v4.toNat ty73.dflt).1) (3)) (cond (B.lt (0) (Nat.cast (List.length ((p0.getD v4.toNat ty73.dflt).2)))) (k false) (again (.l0 (IntKind.wrap .i64 (v1+IntKind.wrap .i64 (1-y0))) v3 (IntKind.wrap .i64 (v4+1))))) (again (.l0 (IntKind.wrap .i64 (v1+IntKind.wrap .i64 (1-y0))) v3 (IntKind.wrap .i64 (v4+1)))))) (cond (!B.eq ((p0.getD v4.toNat ty73.dflt).1) (3)) (cond (B.lt (0) (Nat.cast (List.length ((p0.getD v4.toNat ty73.dflt).2)))) (k false) (again (.l0 (IntKind.wrap .i64 (v1+IntKind.wrap .i64 (1-y0))) v3 (IntKind.wrap .i64 (v4+1))))) (again (.l0 (IntKind.wrap .i64 (v1+IntKind.wrap .i64 (1-y0))) v3 (IntKind.wrap .i64 (v4+1)))))))) none) (cond (B.eq v1 (1)) (k (B.le (↑p0.length) (60))) (k false))
def E65 (p0:L73):S65→List AV×Objs
 | .l0 v1 v3 v4=>(mk 57 [(0,.c (.list 73 ty73 p0)),(3,.c (.int .i64 v1)),(7,.c (.list 73 ty73 p0)),(8,.c (.int .i64 v3)),(9,.c (.int .i64 v4))],[])
def I65:S65→Nat
 | .l0 _ _ _=>0
theorem eq65 {R:Type} (B:Ops) (c66:C66) (c86:C86) (p0:L73) (k:AV→Objs→Option R) (n:Nat):afun tau B gl0 X65 (ent 66 (e66 c66) (ent 86 (e86 c86) gnil)) ow Tryz.f65 [.c (.list 73 ty73 p0)] [] k n=T65 B c66 c86 p0 (fun s=>aloop tau B gl0 X65 (ent 66 (e66 c66) (ent 86 (e86 c86) gnil)) ow [] Tryz.f65 k (I65 s) (E65 p0 s) n) (K1 k) none:=by kernel_rfl
theorem el65 {R:Type} (B:Ops) (c66:C66) (c86:C86) (p0:L73) (k:AV→Objs→Option R) (n:Nat):∀ s,aloop tau B gl0 X65 (ent 66 (e66 c66) (ent 86 (e86 c86) gnil)) ow [] Tryz.f65 k (I65 s) (E65 p0 s) (n+1)=T65 B c66 c86 p0 (fun s=>aloop tau B gl0 X65 (ent 66 (e66 c66) (ent 86 (e86 c86) gnil)) ow [] Tryz.f65 k (I65 s) (E65 p0 s) n) (K1 k) (some s):=by
 intro s
 cases s<;>kernel_rfl
theorem nt65 {R R':Type} (B:Ops) (c66:C66) (c86:C86) (p0:L73) (again:S65→Option R) (again':S65→Option R') (k0:(Bool)→Option R') (k:R'→Option R) (h:∀ s,again s=ob (again' s) k):∀ s,T65 B c66 c86 p0 again (fun y=>ob (k0 y) k) s=ob (T65 B c66 c86 p0 again' k0 s) k:=by
 rintro (_ | x)
 all_goals try cases x
 all_goals (unfold T65;repeat' first | exact rfl | exact h _ | apply qae | (apply qao;intro))
def R65 (c66:C66) (c86:C86) (p0:L73):Nat→S65→Option (Bool)
 | 0,_=>none
 | n+1,s=>T65 Ops.std c66 c86 p0 (R65 c66 c86 p0 n) some (some s)
theorem rr65 {R:Type} (c66:C66) (c86:C86) (p0:L73) (k:AV→Objs→Option R):∀ (n:Nat) (s:S65),aloop tau Ops.std gl0 X65 (ent 66 (e66 c66) (ent 86 (e86 c86) gnil)) ow [] Tryz.f65 k (I65 s) (E65 p0 s) n=ob (R65 c66 c86 p0 n s) (K1 k)
 | 0,s=>by cases s<;>rfl
 | n+1,s=>by rw [el65];exact nt65 Ops.std c66 c86 p0 _ _ some (K1 k) (rr65 c66 c86 p0 k n) (some s)
def F65 (c66:C66) (c86:C86) (p0:L73):Option (Bool):=T65 Ops.std c66 c86 p0 (R65 c66 c86 p0 1000000) some none
def e65 {R:Type} (c:L73→Option (Bool)):Ent R:=fun args objs k=>
 oL args 73 ty73 fun p0 l0=>oE l0 objs <| ob (c p0) (K1 k)
abbrev Sp65 (c:L73→Option (Bool)):Prop:=∀ (p0:L73) (y:Bool),c p0=some y→Spec Tryz.prog gl0 65 [.c (.list 73 ty73 p0)] [] (.c (.bool y)) []
theorem ek65 {R:Type} {c:L73→Option (Bool)} (hs:Sp65 c):EOk 65 (e65 (R:=R) c):=fun args objs k r h=>by
 unfold e65 at h
 obtain ⟨p0,l0,rfl,q3⟩:=qa1 h
 obtain ⟨rfl,rfl,q5⟩:=qam q3
 exact qan (hs p0) q5
theorem sf65 {c66:C66} {c86:C86} (h66:Sp66 c66) (h86:Sp86 c86):Sp65 (F65 c66 c86):=fun p0 y hy=>by
 refine qai (qad (ek66 h66) (qad (ek86 h86) qah)) 1000000 (fn:=Tryz.f65) (by kernel_rfl) (by kernel_rfl) (X:=X65) (by kernel_rfl) ?_
 rw [eq65]
 exact (nt65 Ops.std c66 c86 p0 _ _ some (K1 k0) (rr65 c66 c86 p0 k0 1000000) none).trans (by show ob (F65 c66 c86 p0) _=_;rw [hy];rfl)
noncomputable def M65:L73→Option (Bool):=F65 M66 M86
theorem sm65:Sp65 M65:=sf65 sm66 sm86
abbrev K13 {R:Type} (k:AV→Objs→Option R) (y:(L3)):Option R:=k (.c (.own 500)) [(500,.row 3 ty3 y)]
def e67 {R:Type} (c:L3→Option (L3)):Ent R:=fun args objs k=>
 oL args 3 ty3 fun p0 l0=>oE l0 objs <| ob (c p0) (K13 k)
abbrev Sp67 (c:L3→Option (L3)):Prop:=∀ (p0:L3) (y:L3),c p0=some y→Spec Tryz.prog gl0 67 [.c (.list 3 ty3 p0)] [] (.c (.own 500)) [(500,.row 3 ty3 y)]
theorem ek67 {R:Type} {c:L3→Option (L3)} (hs:Sp67 c):EOk 67 (e67 (R:=R) c):=fun args objs k r h=>by
 unfold e67 at h
 obtain ⟨p0,l0,rfl,q3⟩:=qa1 h
 obtain ⟨rfl,rfl,q5⟩:=qam q3
 exact qan (hs p0) q5
def M67:L3→Option (L3):=cloneF (t:=ty3) 8
theorem sm67:Sp67 M67:=by
 have h:∀ (B:Ops) (xs:List (Ty.den ty3)) (k:AV→Objs→Option AO),afun tau B gl0 X0 gnil ow Tryz.f67 [.c (.list 3 ty3 xs)] [] k 1=cloneT B 3 8 ty3 xs k:=fun B xs k=>by kernel_rfl
 refine clone_sp (fun xs v o h0=>?_) fun b=>?_
 ·exact qai (G:=gnil) qah 1 (fn:=Tryz.f67) (by kernel_rfl) (by kernel_rfl) (X:=X0) (by kernel_rfl) ((h _ _ _).trans h0)
 ·cases b<;>exact qai (G:=gnil) qah 1 (fn:=Tryz.f67) (by kernel_rfl) (by kernel_rfl) (X:=X0) (by kernel_rfl) (by kernel_rfl)
def X34:Aux:=⟨[(6,([0,1,2,5,6,7,8,9,10]++rg 14 25))],[]⟩
inductive S34 where
 | l0 (v1:Int) (v2:Int) (v3:L22) (v4:L3)
abbrev C65:Type:=L73→Option (Bool)
abbrev C67:Type:=L3→Option (L3)
def T34 {R:Type} (B:Ops) (c65:C65) (c66:C66) (c67:C67) (p0:L73) (again:S34→Option R) (k:(L22)→Option R):Option S34→Option R | none=>ob (c65 p0) fun y0=>cond (!y0) (k (mt (Ty.den ty22))) (again (.l0 (↑p0.length) 0 (mt (Ty.den ty22)) (mt (Ty.den (Ty.int .i64))))) | some (.l0 v1 v2 v3 v4)=>cond (B.lt v2 v1) (cond (B.inb v2 p0.length) (ob (c66 ((p0.getD v2.toNat ty73.dflt).1)) fun y0=>cond (B.inb (IntKind.wrap .i64 (Nat.cast v4.length-y0)) (List.length v4+1)) (ob (c67 (List.drop (Int.toNat (IntKind.wrap .i64 (Nat.cast v4.length-y0))) (List.take v4.length v4))) fun y1=>cond (B.lim (List.length v3+List.length (y1::mt (Ty.den ty22))) (24)) (cond (B.inb (IntKind.wrap .i64 (Nat.cast v4.length-y0)) (List.length v4+1)) (cond (B.lim (List.length (List.take (Int.toNat (IntKind.wrap .i64 (Nat.cast v4.length-y0))) v4)+List.length (v2::mt (Ty.den (Ty.int .i64)))) (8)) (again (.l0 v1 (IntKind.wrap .i64 (v2+1)) (v3++y1::mt (Ty.den ty22)) (List.take (Int.toNat (IntKind.wrap .i64 (Nat.cast v4.length-y0))) v4++v2::mt (Ty.den (Ty.int .i64))))) none) none) none) none) none) (k v3)
def E34 (p0:L73):S34→List AV×Objs
 | .l0 v1 v2 v3 v4=>(mk 39 [(3,.c (.own 3)),(4,.c (.own 4)),(11,.c (.list 73 ty73 p0)),(12,.c (.int .i64 v1)),(13,.c (.int .i64 v2))],[(3,.row 22 ty22 v3),(4,.row 3 ty3 v4)])
def I34:S34→Nat
 | .l0 _ _ _ _=>0
abbrev K14 {R:Type} (k:AV→Objs→Option R) (y:(L22)):Option R:=k (.c (.own 500)) [(500,.row 22 ty22 y)]
theorem eq34 {R:Type} (B:Ops) (c65:C65) (c66:C66) (c67:C67) (p0:L73) (k:AV→Objs→Option R) (n:Nat):afun tau B gl0 X34 (ent 65 (e65 c65) (ent 66 (e66 c66) (ent 67 (e67 c67) gnil))) ow Tryz.f34 [.c (.list 73 ty73 p0)] [] k n=T34 B c65 c66 c67 p0 (fun s=>aloop tau B gl0 X34 (ent 65 (e65 c65) (ent 66 (e66 c66) (ent 67 (e67 c67) gnil))) ow [] Tryz.f34 k (I34 s) (E34 p0 s) n) (K14 k) none:=by kernel_rfl
theorem el34 {R:Type} (B:Ops) (c65:C65) (c66:C66) (c67:C67) (p0:L73) (k:AV→Objs→Option R) (n:Nat):∀ s,aloop tau B gl0 X34 (ent 65 (e65 c65) (ent 66 (e66 c66) (ent 67 (e67 c67) gnil))) ow [] Tryz.f34 k (I34 s) (E34 p0 s) (n+1)=T34 B c65 c66 c67 p0 (fun s=>aloop tau B gl0 X34 (ent 65 (e65 c65) (ent 66 (e66 c66) (ent 67 (e67 c67) gnil))) ow [] Tryz.f34 k (I34 s) (E34 p0 s) n) (K14 k) (some s):=by
 intro s
 cases s<;>kernel_rfl
theorem nt34 {R R':Type} (B:Ops) (c65:C65) (c66:C66) (c67:C67) (p0:L73) (again:S34→Option R) (again':S34→Option R') (k0:(L22)→Option R') (k:R'→Option R) (h:∀ s,again s=ob (again' s) k):∀ s,T34 B c65 c66 c67 p0 again (fun y=>ob (k0 y) k) s=ob (T34 B c65 c66 c67 p0 again' k0 s) k:=by
 rintro (_ | x)
 all_goals try cases x
 all_goals (unfold T34;repeat' first | exact rfl | exact h _ | apply qae | (apply qao;intro))
def R34 (c65:C65) (c66:C66) (c67:C67) (p0:L73):Nat→S34→Option (L22)
 | 0,_=>none
 | n+1,s=>T34 Ops.std c65 c66 c67 p0 (R34 c65 c66 c67 p0 n) some (some s)
theorem rr34 {R:Type} (c65:C65) (c66:C66) (c67:C67) (p0:L73) (k:AV→Objs→Option R):∀ (n:Nat) (s:S34),aloop tau Ops.std gl0 X34 (ent 65 (e65 c65) (ent 66 (e66 c66) (ent 67 (e67 c67) gnil))) ow [] Tryz.f34 k (I34 s) (E34 p0 s) n=ob (R34 c65 c66 c67 p0 n s) (K14 k)
 | 0,s=>by cases s<;>rfl
 | n+1,s=>by rw [el34];exact nt34 Ops.std c65 c66 c67 p0 _ _ some (K14 k) (rr34 c65 c66 c67 p0 k n) (some s)
def F34 (c65:C65) (c66:C66) (c67:C67) (p0:L73):Option (L22):=T34 Ops.std c65 c66 c67 p0 (R34 c65 c66 c67 p0 1000000) some none
def e34 {R:Type} (c:L73→Option (L22)):Ent R:=fun args objs k=>
 oL args 73 ty73 fun p0 l0=>oE l0 objs <| ob (c p0) (K14 k)
abbrev Sp34 (c:L73→Option (L22)):Prop:=∀ (p0:L73) (y:L22),c p0=some y→Spec Tryz.prog gl0 34 [.c (.list 73 ty73 p0)] [] (.c (.own 500)) [(500,.row 22 ty22 y)]
theorem ek34 {R:Type} {c:L73→Option (L22)} (hs:Sp34 c):EOk 34 (e34 (R:=R) c):=fun args objs k r h=>by
 unfold e34 at h
 obtain ⟨p0,l0,rfl,q3⟩:=qa1 h
 obtain ⟨rfl,rfl,q5⟩:=qam q3
 exact qan (hs p0) q5
theorem sf34 {c65:C65} {c66:C66} {c67:C67} (h65:Sp65 c65) (h66:Sp66 c66) (h67:Sp67 c67):Sp34 (F34 c65 c66 c67):=fun p0 y hy=>by
 refine qai (qad (ek65 h65) (qad (ek66 h66) (qad (ek67 h67) qah))) 1000000 (fn:=Tryz.f34) (by kernel_rfl) (by kernel_rfl) (X:=X34) (by kernel_rfl) ?_
 rw [eq34]
 exact (nt34 Ops.std c65 c66 c67 p0 _ _ some (K14 k0) (rr34 c65 c66 c67 p0 k0 1000000) none).trans (by show ob (F34 c65 c66 c67 p0) _=_;rw [hy];rfl)
noncomputable def M34:L73→Option (L22):=F34 M65 M66 M67
theorem sm34:Sp34 M34:=sf34 sm65 sm66 sm67
abbrev K15 {R:Type} (k:AV→Objs→Option R) (y:(L118)):Option R:=k (.c (.own 500)) [(500,.row 118 ty118 y)]
def e93 {R:Type} (c:L118→Option (L118)):Ent R:=fun args objs k=>
 oL args 118 ty118 fun p0 l0=>oE l0 objs <| ob (c p0) (K15 k)
abbrev Sp93 (c:L118→Option (L118)):Prop:=∀ (p0:L118) (y:L118),c p0=some y→Spec Tryz.prog gl0 93 [.c (.list 118 ty118 p0)] [] (.c (.own 500)) [(500,.row 118 ty118 y)]
theorem ek93 {R:Type} {c:L118→Option (L118)} (hs:Sp93 c):EOk 93 (e93 (R:=R) c):=fun args objs k r h=>by
 unfold e93 at h
 obtain ⟨p0,l0,rfl,q3⟩:=qa1 h
 obtain ⟨rfl,rfl,q5⟩:=qam q3
 exact qan (hs p0) q5
def M93:L118→Option (L118):=cloneF (t:=ty118) 48
theorem sm93:Sp93 M93:=by
 have h:∀ (B:Ops) (xs:List (Ty.den ty118)) (k:AV→Objs→Option AO),afun tau B gl0 X0 gnil ow Tryz.f93 [.c (.list 118 ty118 xs)] [] k 1=cloneT B 118 48 ty118 xs k:=fun B xs k=>by kernel_rfl
 refine clone_sp (fun xs v o h0=>?_) fun b=>?_
 ·exact qai (G:=gnil) qah 1 (fn:=Tryz.f93) (by kernel_rfl) (by kernel_rfl) (X:=X0) (by kernel_rfl) ((h _ _ _).trans h0)
 ·cases b<;>exact qai (G:=gnil) qah 1 (fn:=Tryz.f93) (by kernel_rfl) (by kernel_rfl) (X:=X0) (by kernel_rfl) (by kernel_rfl)
def X82:Aux:=⟨[],[]⟩
def T82 {R:Type} (B:Ops) (p0:Int) (p1:L73) (p2:L22) (p3:L73) (k:(Bool×L73×L22×L73)→Option R):Option R:=cond (B.lim (List.length p3+List.length ((p0,mt (Ty.den ty118))::mt (Ty.den ty73))) (32)) (k ((B.le (Nat.cast (List.length (p3++(p0,mt (Ty.den ty118))::mt (Ty.den ty73)))) (60),p1,p2,p3++(p0,mt (Ty.den ty118))::mt (Ty.den ty73)))) none
abbrev K16 {R:Type} (k:AV→Objs→Option R) (y:(Bool×L73×L22×L73)):Option R:=k (.c (.bool y.1)) [(0,.box 125 [.list 73 ty73 y.2.1,.own 1001,.own 1002]),(1001,.row 22 ty22 y.2.2.1),(1002,.row 73 ty73 y.2.2.2)]
theorem eq82 {R:Type} (B:Ops) (p0:Int) (p1:L73) (p2:L22) (p3:L73) (k:AV→Objs→Option R) (n:Nat):afun tau B gl0 X82 gnil ow Tryz.f82 [.c (.ptr 0 0),.c (.int .i64 p0)] [(0,.box 125 [.list 73 ty73 p1,.own 1001,.own 1002]),(1001,.row 22 ty22 p2),(1002,.row 73 ty73 p3)] k n=T82 B p0 p1 p2 p3 (K16 k):=by kernel_rfl
theorem nt82 {R R':Type} (B:Ops) (p0:Int) (p1:L73) (p2:L22) (p3:L73) (k0:(Bool×L73×L22×L73)→Option R') (k:R'→Option R):T82 B p0 p1 p2 p3 (fun y=>ob (k0 y) k)=ob (T82 B p0 p1 p2 p3 k0) k:=by
 unfold T82
 repeat' first | exact rfl | apply qae | (apply qao;intro)
def F82 (p0:Int) (p1:L73) (p2:L22) (p3:L73):Option (Bool×L73×L22×L73):=T82 Ops.std p0 p1 p2 p3 some
def e82 {R:Type} (c:Int→L73→L22→L73→Option (Bool×L73×L22×L73)):Ent R:=fun args objs k=>
 oCons args fun a0 l0=>oC a0 fun x0=>cPtr 0 x0 <| oI l0 .i64 fun p0 l1=>oNil l1 <| oBox 0 125 objs fun b0 o0=>cCons b0 fun u0_0 v0=>cList 73 ty73 u0_0 fun p1=>cCons v0 fun u0_1 v1=>cOwn 1001 u0_1 <| cCons v1 fun u0_2 v2=>cOwn 1002 u0_2 <| cNil v2 <| oRow 1001 22 ty22 o0 fun p2 o1=>oRow 1002 73 ty73 o1 fun p3 o2=>oNilO o2 <| ob (c p0 p1 p2 p3) (K16 k)
abbrev Sp82 (c:Int→L73→L22→L73→Option (Bool×L73×L22×L73)):Prop:=∀ (p0:Int) (p1:L73) (p2:L22) (p3:L73) (y:Bool×L73×L22×L73),c p0 p1 p2 p3=some y→Spec Tryz.prog gl0 82 [.c (.ptr 0 0),.c (.int .i64 p0)] [(0,.box 125 [.list 73 ty73 p1,.own 1001,.own 1002]),(1001,.row 22 ty22 p2),(1002,.row 73 ty73 p3)] (.c (.bool y.1)) [(0,.box 125 [.list 73 ty73 y.2.1,.own 1001,.own 1002]),(1001,.row 22 ty22 y.2.2.1),(1002,.row 73 ty73 y.2.2.2)]
theorem ek82 {R:Type} {c:Int→L73→L22→L73→Option (Bool×L73×L22×L73)} (hs:Sp82 c):EOk 82 (e82 (R:=R) c):=fun args objs k r h=>by
 unfold e82 at h
 obtain ⟨a0,l0,rfl,q1⟩:=qak h
 obtain ⟨x0,rfl,q2⟩:=qa5 q1
 obtain ⟨rfl,q3⟩:=qa3 q2
 obtain ⟨p0,l1,rfl,q6⟩:=qas q3
 obtain ⟨rfl,q7⟩:=qa2 q6
 obtain ⟨b0,o0,rfl,q8⟩:=qa4 q7
 obtain ⟨u0_0,v0,rfl,q9⟩:=qaa q8
 obtain ⟨p1,rfl,q10⟩:=qac q9
 obtain ⟨u0_1,v1,rfl,q11⟩:=qaa q10
 obtain ⟨rfl,q12⟩:=qa7 q11
 obtain ⟨u0_2,v2,rfl,q13⟩:=qaa q12
 obtain ⟨rfl,q14⟩:=qa7 q13
 obtain ⟨rfl,q15⟩:=qaq q14
 obtain ⟨p2,o1,rfl,q16⟩:=qa8 q15
 obtain ⟨p3,o2,rfl,q17⟩:=qa8 q16
 obtain ⟨rfl,q18⟩:=qay q17
 exact qan (hs p0 p1 p2 p3) q18
theorem sf82:Sp82 (F82):=fun p0 p1 p2 p3 y hy=>by
 refine qai qah 1000000 (fn:=Tryz.f82) (by kernel_rfl) (by kernel_rfl) (X:=X82) (by kernel_rfl) ?_
 rw [eq82]
 exact (nt82 Ops.std p0 p1 p2 p3 some (K16 k0)).trans (by show ob (F82 p0 p1 p2 p3) _=_;rw [hy];rfl)
noncomputable def M82:Int→L73→L22→L73→Option (Bool×L73×L22×L73):=F82
theorem sm82:Sp82 M82:=sf82
def X81:Aux:=⟨[],[(1,.lin (rg 0 20))]⟩
abbrev C93:Type:=L118→Option (L118)
abbrev C82:Type:=Int→L73→L22→L73→Option (Bool×L73×L22×L73)
def T81 {R:Type} (B:Ops) (c93:C93) (c82:C82) (p0:Int) (p1:Bool) (p2:L73) (p3:L22) (p4:L73) (k:(Bool×L73×L22×L73)→Option R):Option R:=cond (B.inb p0 p2.length) (ob (c93 ((p2.getD p0.toNat ty73.dflt).2)) fun y0=>cond (B.lim (List.length p4+List.length ((3,y0)::mt (Ty.den ty73))) (32)) (cond (B.le (Nat.cast (List.length (p4++(3,y0)::mt (Ty.den ty73)))) (60)) (cond (!p1) (k ((true,p2,p3,p4++(3,y0)::mt (Ty.den ty73)))) (ob (c82 (4) p2 p3 (p4++(3,y0)::mt (Ty.den ty73))) fun y1=>k ((y1.1,y1.2.1,(y1.2.2).1,(y1.2.2).2)))) (k ((false,p2,p3,p4++(3,y0)::mt (Ty.den ty73))))) none) none
theorem eq81 {R:Type} (B:Ops) (c93:C93) (c82:C82) (p0:Int) (p1:Bool) (p2:L73) (p3:L22) (p4:L73) (k:AV→Objs→Option R) (n:Nat):afun tau B gl0 X81 (ent 93 (e93 c93) (ent 82 (e82 c82) gnil)) ow Tryz.f81 [.c (.ptr 0 0),.c (.int .i64 p0),.c (.bool p1)] [(0,.box 125 [.list 73 ty73 p2,.own 1001,.own 1002]),(1001,.row 22 ty22 p3),(1002,.row 73 ty73 p4)] k n=T81 B c93 c82 p0 p1 p2 p3 p4 (K16 k):=by kernel_rfl
theorem nt81 {R R':Type} (B:Ops) (c93:C93) (c82:C82) (p0:Int) (p1:Bool) (p2:L73) (p3:L22) (p4:L73) (k0:(Bool×L73×L22×L73)→Option R') (k:R'→Option R):T81 B c93 c82 p0 p1 p2 p3 p4 (fun y=>ob (k0 y) k)=ob (T81 B c93 c82 p0 p1 p2 p3 p4 k0) k:=by
 unfold T81
 repeat' first | exact rfl | apply qae | (apply qao;intro)
def F81 (c93:C93) (c82:C82) (p0:Int) (p1:Bool) (p2:L73) (p3:L22) (p4:L73):Option (Bool×L73×L22×L73):=T81 Ops.std c93 c82 p0 p1 p2 p3 p4 some
def e81 {R:Type} (c:Int→Bool→L73→L22→L73→Option (Bool×L73×L22×L73)):Ent R:=fun args objs k=>
 oCons args fun a0 l0=>oC a0 fun x0=>cPtr 0 x0 <| oI l0 .i64 fun p0 l1=>oCons l1 fun a2 l2=>oC a2 fun x2=>cBool x2 fun p1=>oNil l2 <| oBox 0 125 objs fun b0 o0=>cCons b0 fun u0_0 v0=>cList 73 ty73 u0_0 fun p2=>cCons v0 fun u0_1 v1=>cOwn 1001 u0_1 <| cCons v1 fun u0_2 v2=>cOwn 1002 u0_2 <| cNil v2 <| oRow 1001 22 ty22 o0 fun p3 o1=>oRow 1002 73 ty73 o1 fun p4 o2=>oNilO o2 <| ob (c p0 p1 p2 p3 p4) (K16 k)
abbrev Sp81 (c:Int→Bool→L73→L22→L73→Option (Bool×L73×L22×L73)):Prop:=∀ (p0:Int) (p1:Bool) (p2:L73) (p3:L22) (p4:L73) (y:Bool×L73×L22×L73),c p0 p1 p2 p3 p4=some y→Spec Tryz.prog gl0 81 [.c (.ptr 0 0),.c (.int .i64 p0),.c (.bool p1)] [(0,.box 125 [.list 73 ty73 p2,.own 1001,.own 1002]),(1001,.row 22 ty22 p3),(1002,.row 73 ty73 p4)] (.c (.bool y.1)) [(0,.box 125 [.list 73 ty73 y.2.1,.own 1001,.own 1002]),(1001,.row 22 ty22 y.2.2.1),(1002,.row 73 ty73 y.2.2.2)]
theorem ek81 {R:Type} {c:Int→Bool→L73→L22→L73→Option (Bool×L73×L22×L73)} (hs:Sp81 c):EOk 81 (e81 (R:=R) c):=fun args objs k r h=>by
 unfold e81 at h
 obtain ⟨a0,l0,rfl,q1⟩:=qak h
 obtain ⟨x0,rfl,q2⟩:=qa5 q1
 obtain ⟨rfl,q3⟩:=qa3 q2
 obtain ⟨p0,l1,rfl,q6⟩:=qas q3
 obtain ⟨a2,l2,rfl,q7⟩:=qak q6
 obtain ⟨x2,rfl,q8⟩:=qa5 q7
 obtain ⟨p1,rfl,q9⟩:=qbv q8
 obtain ⟨rfl,q10⟩:=qa2 q9
 obtain ⟨b0,o0,rfl,q11⟩:=qa4 q10
 obtain ⟨u0_0,v0,rfl,q12⟩:=qaa q11
 obtain ⟨p2,rfl,q13⟩:=qac q12
 obtain ⟨u0_1,v1,rfl,q14⟩:=qaa q13
 obtain ⟨rfl,q15⟩:=qa7 q14
 obtain ⟨u0_2,v2,rfl,q16⟩:=qaa q15
 obtain ⟨rfl,q17⟩:=qa7 q16
 obtain ⟨rfl,q18⟩:=qaq q17
 obtain ⟨p3,o1,rfl,q19⟩:=qa8 q18
 obtain ⟨p4,o2,rfl,q20⟩:=qa8 q19
 obtain ⟨rfl,q21⟩:=qay q20
 exact qan (hs p0 p1 p2 p3 p4) q21
theorem sf81 {c93:C93} {c82:C82} (h93:Sp93 c93) (h82:Sp82 c82):Sp81 (F81 c93 c82):=fun p0 p1 p2 p3 p4 y hy=>by
 refine qai (qad (ek93 h93) (qad (ek82 h82) qah)) 1000000 (fn:=Tryz.f81) (by kernel_rfl) (by kernel_rfl) (X:=X81) (by kernel_rfl) ?_
 rw [eq81]
 exact (nt81 Ops.std c93 c82 p0 p1 p2 p3 p4 some (K16 k0)).trans (by show ob (F81 c93 c82 p0 p1 p2 p3 p4) _=_;rw [hy];rfl)
noncomputable def M81:Int→Bool→L73→L22→L73→Option (Bool×L73×L22×L73):=F81 M93 M82
theorem sm81:Sp81 M81:=sf81 sm93 sm82
def X94:Aux:=⟨[],[]⟩
def T94 {R:Type} (B:Ops) (p0:Int) (k:(Int)→Option R):Option R:=cond (B.eq p0 (1)) (k 2) (cond (B.eq p0 (2)) (k 1) (cond (B.eq p0 (5)) (k 6) (cond (B.eq p0 (6)) (k 5) (cond (B.eq p0 (9)) (k 10) (cond (B.eq p0 (10)) (k 9) (k p0))))))
theorem eq94 {R:Type} (B:Ops) (p0:Int) (k:AV→Objs→Option R) (n:Nat):afun tau B gl0 X94 gnil ow Tryz.f94 [.c (.int .i64 p0)] [] k n=T94 B p0 (K8 k):=by kernel_rfl
theorem nt94 {R R':Type} (B:Ops) (p0:Int) (k0:(Int)→Option R') (k:R'→Option R):T94 B p0 (fun y=>ob (k0 y) k)=ob (T94 B p0 k0) k:=by
 unfold T94
 repeat' first | exact rfl | apply qae | (apply qao;intro)
def F94 (p0:Int):Option (Int):=T94 Ops.std p0 some
def e94 {R:Type} (c:Int→Option (Int)):Ent R:=fun args objs k=>
 oI args .i64 fun p0 l0=>oE l0 objs <| ob (c p0) (K8 k)
abbrev Sp94 (c:Int→Option (Int)):Prop:=∀ (p0:Int) (y:Int),c p0=some y→Spec Tryz.prog gl0 94 [.c (.int .i64 p0)] [] (.c (.int .i64 y)) []
theorem ek94 {R:Type} {c:Int→Option (Int)} (hs:Sp94 c):EOk 94 (e94 (R:=R) c):=fun args objs k r h=>by
 unfold e94 at h
 obtain ⟨p0,l0,rfl,q3⟩:=qas h
 obtain ⟨rfl,rfl,q5⟩:=qam q3
 exact qan (hs p0) q5
theorem sf94:Sp94 (F94):=fun p0 y hy=>by
 refine qai qah 1000000 (fn:=Tryz.f94) (by kernel_rfl) (by kernel_rfl) (X:=X94) (by kernel_rfl) ?_
 rw [eq94]
 exact (nt94 Ops.std p0 some (K8 k0)).trans (by show ob (F94 p0) _=_;rw [hy];rfl)
noncomputable def M94:Int→Option (Int):=F94
theorem sm94:Sp94 M94:=sf94
def X83:Aux:=⟨[],[]⟩
abbrev C94:Type:=Int→Option (Int)
def T83 {R:Type} (B:Ops) (c94:C94) (p0:Int) (p1:Bool) (k:(Int)→Option R):Option R:=cond (p1) (ob (c94 p0) fun y0=>k y0) (k p0)
theorem eq83 {R:Type} (B:Ops) (c94:C94) (p0:Int) (p1:Bool) (k:AV→Objs→Option R) (n:Nat):afun tau B gl0 X83 (ent 94 (e94 c94) gnil) ow Tryz.f83 [.c (.int .i64 p0),.c (.bool p1)] [] k n=T83 B c94 p0 p1 (K8 k):=by kernel_rfl
theorem nt83 {R R':Type} (B:Ops) (c94:C94) (p0:Int) (p1:Bool) (k0:(Int)→Option R') (k:R'→Option R):T83 B c94 p0 p1 (fun y=>ob (k0 y) k)=ob (T83 B c94 p0 p1 k0) k:=by
 unfold T83
 repeat' first | exact rfl | apply qae | (apply qao;intro)
def F83 (c94:C94) (p0:Int) (p1:Bool):Option (Int):=T83 Ops.std c94 p0 p1 some
def e83 {R:Type} (c:Int→Bool→Option (Int)):Ent R:=fun args objs k=>
 oI args .i64 fun p0 l0=>oCons l0 fun a1 l1=>oC a1 fun x1=>cBool x1 fun p1=>oE l1 objs <| ob (c p0 p1) (K8 k)
abbrev Sp83 (c:Int→Bool→Option (Int)):Prop:=∀ (p0:Int) (p1:Bool) (y:Int),c p0 p1=some y→Spec Tryz.prog gl0 83 [.c (.int .i64 p0),.c (.bool p1)] [] (.c (.int .i64 y)) []
theorem ek83 {R:Type} {c:Int→Bool→Option (Int)} (hs:Sp83 c):EOk 83 (e83 (R:=R) c):=fun args objs k r h=>by
 unfold e83 at h
 obtain ⟨p0,l0,rfl,q3⟩:=qas h
 obtain ⟨a1,l1,rfl,q4⟩:=qak q3
 obtain ⟨x1,rfl,q5⟩:=qa5 q4
 obtain ⟨p1,rfl,q6⟩:=qbv q5
 obtain ⟨rfl,rfl,q8⟩:=qam q6
 exact qan (hs p0 p1) q8
theorem sf83 {c94:C94} (h94:Sp94 c94):Sp83 (F83 c94):=fun p0 p1 y hy=>by
 refine qai (qad (ek94 h94) qah) 1000000 (fn:=Tryz.f83) (by kernel_rfl) (by kernel_rfl) (X:=X83) (by kernel_rfl) ?_
 rw [eq83]
 exact (nt83 Ops.std c94 p0 p1 some (K8 k0)).trans (by show ob (F83 c94 p0 p1) _=_;rw [hy];rfl)
noncomputable def M83:Int→Bool→Option (Int):=F83 M94
theorem sm83:Sp83 M83:=sf83 sm94
def e60 {R:Type} (c:Int→Bool→L73→L22→L73→Option (Bool×L73×L22×L73)):Ent R:=fun args objs k=>
 oCons args fun a0 l0=>oC a0 fun x0=>cPtr 0 x0 <| oI l0 .i64 fun p0 l1=>oCons l1 fun a2 l2=>oC a2 fun x2=>cBool x2 fun p1=>oNil l2 <| oBox 0 125 objs fun b0 o0=>cCons b0 fun u0_0 v0=>cList 73 ty73 u0_0 fun p2=>cCons v0 fun u0_1 v1=>cOwn 1001 u0_1 <| cCons v1 fun u0_2 v2=>cOwn 1002 u0_2 <| cNil v2 <| oRow 1001 22 ty22 o0 fun p3 o1=>oRow 1002 73 ty73 o1 fun p4 o2=>oNilO o2 <| ob (c p0 p1 p2 p3 p4) (K16 k)
abbrev Sp60 (c:Int→Bool→L73→L22→L73→Option (Bool×L73×L22×L73)):Prop:=∀ (p0:Int) (p1:Bool) (p2:L73) (p3:L22) (p4:L73) (y:Bool×L73×L22×L73),c p0 p1 p2 p3 p4=some y→Spec Tryz.prog gl0 60 [.c (.ptr 0 0),.c (.int .i64 p0),.c (.bool p1)] [(0,.box 125 [.list 73 ty73 p2,.own 1001,.own 1002]),(1001,.row 22 ty22 p3),(1002,.row 73 ty73 p4)] (.c (.bool y.1)) [(0,.box 125 [.list 73 ty73 y.2.1,.own 1001,.own 1002]),(1001,.row 22 ty22 y.2.2.1),(1002,.row 73 ty73 y.2.2.2)]
theorem ek60 {R:Type} {c:Int→Bool→L73→L22→L73→Option (Bool×L73×L22×L73)} (hs:Sp60 c):EOk 60 (e60 (R:=R) c):=fun args objs k r h=>by
 unfold e60 at h
 obtain ⟨a0,l0,rfl,q1⟩:=qak h
 obtain ⟨x0,rfl,q2⟩:=qa5 q1
 obtain ⟨rfl,q3⟩:=qa3 q2
 obtain ⟨p0,l1,rfl,q6⟩:=qas q3
 obtain ⟨a2,l2,rfl,q7⟩:=qak q6
 obtain ⟨x2,rfl,q8⟩:=qa5 q7
 obtain ⟨p1,rfl,q9⟩:=qbv q8
 obtain ⟨rfl,q10⟩:=qa2 q9
 obtain ⟨b0,o0,rfl,q11⟩:=qa4 q10
 obtain ⟨u0_0,v0,rfl,q12⟩:=qaa q11
 obtain ⟨p2,rfl,q13⟩:=qac q12
 obtain ⟨u0_1,v1,rfl,q14⟩:=qaa q13
 obtain ⟨rfl,q15⟩:=qa7 q14
 obtain ⟨u0_2,v2,rfl,q16⟩:=qaa q15
 obtain ⟨rfl,q17⟩:=qa7 q16
 obtain ⟨rfl,q18⟩:=qaq q17
 obtain ⟨p3,o1,rfl,q19⟩:=qa8 q18
 obtain ⟨p4,o2,rfl,q20⟩:=qa8 q19
 obtain ⟨rfl,q21⟩:=qay q20
 exact qan (hs p0 p1 p2 p3 p4) q21
def X60:Aux:=⟨[(5,([1,3,4,5,6,7]++rg 9 18++rg 30 92))],[]⟩
inductive S60 where
 | l0 (v1:Int) (v2:L3) (v3:Int) (v4:Int) (v5:L73) (v6:L22) (v7:L73)
abbrev C81:Type:=Int→Bool→L73→L22→L73→Option (Bool×L73×L22×L73)
abbrev C60:Type:=Int→Bool→L73→L22→L73→Option (Bool×L73×L22×L73)
abbrev C83:Type:=Int→Bool→Option (Int)
def T60 {R:Type} (B:Ops) (c81:C81) (c60:C60) (c83:C83) (c82:C82) (p0:Int) (p1:Bool) (p2:L73) (p3:L22) (p4:L73) (again:S60→Option R) (k:(Bool×L73×L22×L73)→Option R):Option S60→Option R | none=>cond (B.inb p0 p3.length) (cond (B.inb p0 p2.length) (cond (B.eq ((p2.getD p0.toNat ty73.dflt).1) (3)) (ob (c81 p0 p1 p2 p3 p4) fun y0=>k ((y0.1,y0.2.1,(y0.2.2).1,(y0.2.2).2))) (cond (B.eq ((p2.getD p0.toNat ty73.dflt).1) (4)) (cond (B.inb (0) (List.length (p3.getD p0.toNat ty22.dflt))) (ob (c60 (List.getD (p3.getD p0.toNat ty22.dflt) (Int.toNat (0)) (Ty.dflt (Ty.int .i64))) (!p1) p2 p3 p4) fun y0=>k ((y0.1,y0.2.1,(y0.2.2).1,(y0.2.2).2))) none) (cond (B.eq ((p2.getD p0.toNat ty73.dflt).1) (7)) (cond (B.inb (0) (List.length (p3.getD p0.toNat ty22.dflt))) (ob (c60 (List.getD (p3.getD p0.toNat ty22.dflt) (Int.toNat (0)) (Ty.dflt (Ty.int .i64))) (!p1) p2 p3 p4) fun y0=>cond y0.1 (cond (B.inb (1) (List.length (p3.getD p0.toNat ty22.dflt))) (ob (c60 (List.getD (p3.getD p0.toNat ty22.dflt) (Int.toNat (1)) (Ty.dflt (Ty.int .i64))) p1 y0.2.1 ((y0.2.2).1) ((y0.2.2).2)) fun y1=>cond y1.1 (ob (c83 (6) p1) fun y2=>ob (c82 y2 y1.2.1 ((y1.2.2).1) ((y1.2.2).2)) fun y3=>k ((y3.1,y3.2.1,(y3.2.2).1,(y3.2.2).2))) (k ((false,y1.2.1,(y1.2.2).1,(y1.2.2).2)))) none) (k ((false,y0.2.1,(y0.2.2).1,(y0.2.2).2)))) none) (cond (B.eq ((p2.getD p0.toNat ty73.dflt).1) (11)) (ob (c83 (1) p1) fun y0=>ob (c82 y0 p2 p3 p4) fun y1=>cond y1.1 (cond (B.inb (0) (List.length (p3.getD p0.toNat ty22.dflt))) (ob (c60 (List.getD (p3.getD p0.toNat ty22.dflt) (Int.toNat (0)) (Ty.dflt (Ty.int .i64))) p1 y1.2.1 ((y1.2.2).1) ((y1.2.2).2)) fun y2=>cond y2.1 (ob (c83 (9) p1) fun y3=>ob (c82 y3 y2.2.1 ((y2.2.2).1) ((y2.2.2).2)) fun y4=>k ((y4.1,y4.2.1,(y4.2.2).1,(y4.2.2).2))) (k ((false,y2.2.1,(y2.2.2).1,(y2.2.2).2)))) none) (k ((false,y1.2.1,(y1.2.2).1,(y1.2.2).2)))) (cond (B.eq ((p2.getD p0.toNat ty73.dflt).1) (12)) (ob (c83 (2) p1) fun y0=>ob (c82 y0 p2 p3 p4) fun y1=>cond y1.1 (cond (B.inb (0) (List.length (p3.getD p0.toNat ty22.dflt))) (ob (c60 (List.getD (p3.getD p0.toNat ty22.dflt) (Int.toNat (0)) (Ty.dflt (Ty.int .i64))) p1 y1.2.1 ((y1.2.2).1) ((y1.2.2).2)) fun y2=>cond y2.1 (ob (c83 (10) p1) fun y3=>ob (c82 y3 y2.2.1 ((y2.2.2).1) ((y2.2.2).2)) fun y4=>k ((y4.1,y4.2.1,(y4.2.2).1,(y4.2.2).2))) (k ((false,y2.2.1,(y2.2.2).1,(y2.2.2).2)))) none) (k ((false,y1.2.1,(y1.2.2).1,(y1.2.2).2)))) (again (.l0 ((p2.getD p0.toNat ty73.dflt).1) (p3.getD p0.toNat ty22.dflt) (Nat.cast (List.length (p3.getD p0.toNat ty22.dflt))) 0 p2 p3 p4))))))) none) none | some (.l0 v1 v2 v3 v4 v5 v6 v7)=>cond (B.lt v4 v3) (cond (B.inb v4 v2.length) (ob (c60 (v2.getD v4.toNat ty3.dflt) p1 v5 v6 v7) fun y0=>cond (!y0.1) (k ((false,y0.2.1,(y0.2.2).1,(y0.2.2).2))) (again (.l0 v1 v2 v3 (IntKind.wrap .i64 (v4+1)) y0.2.1 ((y0.2.2).1) ((y0.2.2).2)))) none) (ob (c83 v1 p1) fun y0=>ob (c82 y0 v5 v6 v7) fun y1=>k ((y1.1,y1.2.1,(y1.2.2).1,(y1.2.2).2)))
def E60 (p0:Int) (p1:Bool) (p2:L73) (p3:L22) (p4:L73):S60→List AV×Objs
 | .l0 v1 v2 v3 v4 v5 v6 v7=>(mk 122 [(0,.c (.ptr 0 0)),(2,.c (.bool p1)),(8,.c (.int .i64 v1)),(27,.c (.list 3 ty3 v2)),(28,.c (.int .i64 v3)),(29,.c (.int .i64 v4))],[(0,.box 125 [.list 73 ty73 v5,.own 1001,.own 1002]),(1001,.row 22 ty22 v6),(1002,.row 73 ty73 v7)])
def I60:S60→Nat
 | .l0 _ _ _ _ _ _ _=>0
theorem eq60 {R:Type} (B:Ops) (c81:C81) (c60:C60) (c83:C83) (c82:C82) (p0:Int) (p1:Bool) (p2:L73) (p3:L22) (p4:L73) (k:AV→Objs→Option R) (n:Nat):afun tau B gl0 X60 (ent 81 (e81 c81) (ent 60 (e60 c60) (ent 83 (e83 c83) (ent 82 (e82 c82) gnil)))) ow Tryz.f60 [.c (.ptr 0 0),.c (.int .i64 p0),.c (.bool p1)] [(0,.box 125 [.list 73 ty73 p2,.own 1001,.own 1002]),(1001,.row 22 ty22 p3),(1002,.row 73 ty73 p4)] k n=T60 B c81 c60 c83 c82 p0 p1 p2 p3 p4 (fun s=>aloop tau B gl0 X60 (ent 81 (e81 c81) (ent 60 (e60 c60) (ent 83 (e83 c83) (ent 82 (e82 c82) gnil)))) ow [0] Tryz.f60 k (I60 s) (E60 p0 p1 p2 p3 p4 s) n) (K16 k) none:=by kernel_rfl
theorem el60 {R:Type} (B:Ops) (c81:C81) (c60:C60) (c83:C83) (c82:C82) (p0:Int) (p1:Bool) (p2:L73) (p3:L22) (p4:L73) (k:AV→Objs→Option R) (n:Nat):∀ s,aloop tau B gl0 X60 (ent 81 (e81 c81) (ent 60 (e60 c60) (ent 83 (e83 c83) (ent 82 (e82 c82) gnil)))) ow [0] Tryz.f60 k (I60 s) (E60 p0 p1 p2 p3 p4 s) (n+1)=T60 B c81 c60 c83 c82 p0 p1 p2 p3 p4 (fun s=>aloop tau B gl0 X60 (ent 81 (e81 c81) (ent 60 (e60 c60) (ent 83 (e83 c83) (ent 82 (e82 c82) gnil)))) ow [0] Tryz.f60 k (I60 s) (E60 p0 p1 p2 p3 p4 s) n) (K16 k) (some s):=by
 intro s
 cases s<;>kernel_rfl
theorem nt60 {R R':Type} (B:Ops) (c81:C81) (c60:C60) (c83:C83) (c82:C82) (p0:Int) (p1:Bool) (p2:L73) (p3:L22) (p4:L73) (again:S60→Option R) (again':S60→Option R') (k0:(Bool×L73×L22×L73)→Option R') (k:R'→Option R) (h:∀ s,again s=ob (again' s) k):∀ s,T60 B c81 c60 c83 c82 p0 p1 p2 p3 p4 again (fun y=>ob (k0 y) k) s=ob (T60 B c81 c60 c83 c82 p0 p1 p2 p3 p4 again' k0 s) k:=by
 rintro (_ | x)
 all_goals try cases x
 all_goals (unfold T60;repeat' first | exact rfl | exact h _ | apply qae | (apply qao;intro))
def R60 (c81:C81) (c60:C60) (c83:C83) (c82:C82) (p0:Int) (p1:Bool) (p2:L73) (p3:L22) (p4:L73):Nat→S60→Option (Bool×L73×L22×L73)
 | 0,_=>none
 | n+1,s=>T60 Ops.std c81 c60 c83 c82 p0 p1 p2 p3 p4 (R60 c81 c60 c83 c82 p0 p1 p2 p3 p4 n) some (some s)
theorem rr60 {R:Type} (c81:C81) (c60:C60) (c83:C83) (c82:C82) (p0:Int) (p1:Bool) (p2:L73) (p3:L22) (p4:L73) (k:AV→Objs→Option R):∀ (n:Nat) (s:S60),aloop tau Ops.std gl0 X60 (ent 81 (e81 c81) (ent 60 (e60 c60) (ent 83 (e83 c83) (ent 82 (e82 c82) gnil)))) ow [0] Tryz.f60 k (I60 s) (E60 p0 p1 p2 p3 p4 s) n=ob (R60 c81 c60 c83 c82 p0 p1 p2 p3 p4 n s) (K16 k)
 | 0,s=>by cases s<;>rfl
 | n+1,s=>by rw [el60];exact nt60 Ops.std c81 c60 c83 c82 p0 p1 p2 p3 p4 _ _ some (K16 k) (rr60 c81 c60 c83 c82 p0 p1 p2 p3 p4 k n) (some s)
def F60 (c81:C81) (c60:C60) (c83:C83) (c82:C82) (p0:Int) (p1:Bool) (p2:L73) (p3:L22) (p4:L73):Option (Bool×L73×L22×L73):=T60 Ops.std c81 c60 c83 c82 p0 p1 p2 p3 p4 (R60 c81 c60 c83 c82 p0 p1 p2 p3 p4 1000000) some none
theorem sf60 {c81:C81} {c60:C60} {c83:C83} {c82:C82} (h81:Sp81 c81) (h60:Sp60 c60) (h83:Sp83 c83) (h82:Sp82 c82):Sp60 (F60 c81 c60 c83 c82):=fun p0 p1 p2 p3 p4 y hy=>by
 refine qai (qad (ek81 h81) (qad (ek60 h60) (qad (ek83 h83) (qad (ek82 h82) qah)))) 1000000 (fn:=Tryz.f60) (by kernel_rfl) (by kernel_rfl) (X:=X60) (by kernel_rfl) ?_
 rw [eq60]
 exact (nt60 Ops.std c81 c60 c83 c82 p0 p1 p2 p3 p4 _ _ some (K16 k0) (rr60 c81 c60 c83 c82 p0 p1 p2 p3 p4 k0 1000000) none).trans (by show ob (F60 c81 c60 c83 c82 p0 p1 p2 p3 p4) _=_;rw [hy];rfl)
noncomputable def Rec60:Nat→(Int→Bool→L73→L22→L73→Option (Bool×L73×L22×L73))
 | 0=>fun _ _ _ _ _=>none
 | d+1=>F60 M81 (Rec60 d) M83 M82
theorem rec60:∀ d,Sp60 (Rec60 d)
 | 0=>fun p0 p1 p2 p3 p4 y (h:(none:Option (Bool×L73×L22×L73))=some y)=>by cases h
 | d+1=>sf60 sm81 (rec60 d) sm83 sm82
noncomputable def M60:Int→Bool→L73→L22→L73→Option (Bool×L73×L22×L73):=(Rec60 1000000)
theorem sm60:Sp60 M60:=(rec60 1000000)
def X32:Aux:=⟨[],[]⟩
abbrev C34:Type:=L73→Option (L22)
def T32 {R:Type} (B:Ops) (c34:C34) (c60:C60) (p0:L73) (p1:Bool) (k:(L73)→Option R):Option R:=ob (c34 p0) fun y0=>cond (B.eq (↑y0.length) (0)) (k (mt (Ty.den ty73))) (ob (c60 (IntKind.wrap .i64 (Nat.cast p0.length-1)) p1 p0 y0 (mt (Ty.den ty73))) fun y1=>cond (!y1.1) (k (mt (Ty.den ty73))) (k ((y1.2.2).2)))
theorem eq32 {R:Type} (B:Ops) (c34:C34) (c60:C60) (p0:L73) (p1:Bool) (k:AV→Objs→Option R) (n:Nat):afun tau B gl0 X32 (ent 34 (e34 c34) (ent 60 (e60 c60) gnil)) ow Tryz.f32 [.c (.list 73 ty73 p0),.c (.bool p1)] [] k n=T32 B c34 c60 p0 p1 (K12 k):=by kernel_rfl
theorem nt32 {R R':Type} (B:Ops) (c34:C34) (c60:C60) (p0:L73) (p1:Bool) (k0:(L73)→Option R') (k:R'→Option R):T32 B c34 c60 p0 p1 (fun y=>ob (k0 y) k)=ob (T32 B c34 c60 p0 p1 k0) k:=by
 unfold T32
 repeat' first | exact rfl | apply qae | (apply qao;intro)
def F32 (c34:C34) (c60:C60) (p0:L73) (p1:Bool):Option (L73):=T32 Ops.std c34 c60 p0 p1 some
def e32 {R:Type} (c:L73→Bool→Option (L73)):Ent R:=fun args objs k=>
 oL args 73 ty73 fun p0 l0=>oCons l0 fun a1 l1=>oC a1 fun x1=>cBool x1 fun p1=>oE l1 objs <| ob (c p0 p1) (K12 k)
abbrev Sp32 (c:L73→Bool→Option (L73)):Prop:=∀ (p0:L73) (p1:Bool) (y:L73),c p0 p1=some y→Spec Tryz.prog gl0 32 [.c (.list 73 ty73 p0),.c (.bool p1)] [] (.c (.own 500)) [(500,.row 73 ty73 y)]
theorem ek32 {R:Type} {c:L73→Bool→Option (L73)} (hs:Sp32 c):EOk 32 (e32 (R:=R) c):=fun args objs k r h=>by
 unfold e32 at h
 obtain ⟨p0,l0,rfl,q3⟩:=qa1 h
 obtain ⟨a1,l1,rfl,q4⟩:=qak q3
 obtain ⟨x1,rfl,q5⟩:=qa5 q4
 obtain ⟨p1,rfl,q6⟩:=qbv q5
 obtain ⟨rfl,rfl,q8⟩:=qam q6
 exact qan (hs p0 p1) q8
theorem sf32 {c34:C34} {c60:C60} (h34:Sp34 c34) (h60:Sp60 c60):Sp32 (F32 c34 c60):=fun p0 p1 y hy=>by
 refine qai (qad (ek34 h34) (qad (ek60 h60) qah)) 1000000 (fn:=Tryz.f32) (by kernel_rfl) (by kernel_rfl) (X:=X32) (by kernel_rfl) ?_
 rw [eq32]
 exact (nt32 Ops.std c34 c60 p0 p1 some (K12 k0)).trans (by show ob (F32 c34 c60 p0 p1) _=_;rw [hy];rfl)
noncomputable def M32:L73→Bool→Option (L73):=F32 M34 M60
theorem sm32:Sp32 M32:=sf32 sm34 sm60
def X12:Aux:=⟨[],[]⟩
abbrev C32:Type:=L73→Bool→Option (L73)
def T12 {R:Type} (B:Ops) (c32:C32) (p0:L73) (k:(L73)→Option R):Option R:=ob (c32 p0 false) fun y0=>k y0
theorem eq12 {R:Type} (B:Ops) (c32:C32) (p0:L73) (k:AV→Objs→Option R) (n:Nat):afun tau B gl0 X12 (ent 32 (e32 c32) gnil) ow Tryz.f12 [.c (.list 73 ty73 p0)] [] k n=T12 B c32 p0 (K12 k):=by kernel_rfl
theorem nt12 {R R':Type} (B:Ops) (c32:C32) (p0:L73) (k0:(L73)→Option R') (k:R'→Option R):T12 B c32 p0 (fun y=>ob (k0 y) k)=ob (T12 B c32 p0 k0) k:=by
 unfold T12
 repeat' first | exact rfl | apply qae | (apply qao;intro)
def F12 (c32:C32) (p0:L73):Option (L73):=T12 Ops.std c32 p0 some
def e12 {R:Type} (c:L73→Option (L73)):Ent R:=fun args objs k=>
 oL args 73 ty73 fun p0 l0=>oE l0 objs <| ob (c p0) (K12 k)
abbrev Sp12 (c:L73→Option (L73)):Prop:=∀ (p0:L73) (y:L73),c p0=some y→Spec Tryz.prog gl0 12 [.c (.list 73 ty73 p0)] [] (.c (.own 500)) [(500,.row 73 ty73 y)]
theorem ek12 {R:Type} {c:L73→Option (L73)} (hs:Sp12 c):EOk 12 (e12 (R:=R) c):=fun args objs k r h=>by
 unfold e12 at h
 obtain ⟨p0,l0,rfl,q3⟩:=qa1 h
 obtain ⟨rfl,rfl,q5⟩:=qam q3
 exact qan (hs p0) q5
theorem sf12 {c32:C32} (h32:Sp32 c32):Sp12 (F12 c32):=fun p0 y hy=>by
 refine qai (qad (ek32 h32) qah) 1000000 (fn:=Tryz.f12) (by kernel_rfl) (by kernel_rfl) (X:=X12) (by kernel_rfl) ?_
 rw [eq12]
 exact (nt12 Ops.std c32 p0 some (K12 k0)).trans (by show ob (F12 c32 p0) _=_;rw [hy];rfl)
noncomputable def M12:L73→Option (L73):=F12 M32
theorem sm12:Sp12 M12:=sf12 sm32
def X55:Aux:=⟨[],[]⟩
def T55 {R:Type} (B:Ops) (p0:Int) (k:(Int)→Option R):Option R:=cond (B.eq p0 (1)) (k 0) (cond (B.eq p0 (2)) (k 0) (cond (B.eq p0 (3)) (k 0) (cond (B.eq p0 (4)) (k 1) (cond (B.eq p0 (8)) (k 1) (cond (B.eq p0 (11)) (k 1) (cond (B.eq p0 (12)) (k 1) (cond (B.eq p0 (5)) (k 2) (cond (B.eq p0 (6)) (k 2) (cond (B.eq p0 (7)) (k 2) (cond (B.eq p0 (9)) (k 2) (cond (B.eq p0 (10)) (k 2) (k (-1)))))))))))))
theorem eq55 {R:Type} (B:Ops) (p0:Int) (k:AV→Objs→Option R) (n:Nat):afun tau B gl0 X55 gnil ow Tryz.f55 [.c (.int .i64 p0)] [] k n=T55 B p0 (K8 k):=by kernel_rfl
theorem nt55 {R R':Type} (B:Ops) (p0:Int) (k0:(Int)→Option R') (k:R'→Option R):T55 B p0 (fun y=>ob (k0 y) k)=ob (T55 B p0 k0) k:=by
 unfold T55
 repeat' first | exact rfl | apply qae | (apply qao;intro)
def F55 (p0:Int):Option (Int):=T55 Ops.std p0 some
def e55 {R:Type} (c:Int→Option (Int)):Ent R:=fun args objs k=>
 oI args .i64 fun p0 l0=>oE l0 objs <| ob (c p0) (K8 k)
abbrev Sp55 (c:Int→Option (Int)):Prop:=∀ (p0:Int) (y:Int),c p0=some y→Spec Tryz.prog gl0 55 [.c (.int .i64 p0)] [] (.c (.int .i64 y)) []
theorem ek55 {R:Type} {c:Int→Option (Int)} (hs:Sp55 c):EOk 55 (e55 (R:=R) c):=fun args objs k r h=>by
 unfold e55 at h
 obtain ⟨p0,l0,rfl,q3⟩:=qas h
 obtain ⟨rfl,rfl,q5⟩:=qam q3
 exact qan (hs p0) q5
theorem sf55:Sp55 (F55):=fun p0 y hy=>by
 refine qai qah 1000000 (fn:=Tryz.f55) (by kernel_rfl) (by kernel_rfl) (X:=X55) (by kernel_rfl) ?_
 rw [eq55]
 exact (nt55 Ops.std p0 some (K8 k0)).trans (by show ob (F55 p0) _=_;rw [hy];rfl)
noncomputable def M55:Int→Option (Int):=F55
theorem sm55:Sp55 M55:=sf55
def X79:Aux:=⟨[],[]⟩
def T79 {R:Type} (B:Ops) (p0:Int) (k:(Int)→Option R):Option R:=cond (B.le (1) p0) (cond (B.le p0 (3)) (k 0) (cond (B.eq p0 (4)) (k 1) (cond (B.eq p0 (5)) (k 1) (cond (B.le (6) p0) (cond (B.le p0 (16)) (k 2) (k (-1))) (k (-1)))))) (cond (B.eq p0 (4)) (k 1) (cond (B.eq p0 (5)) (k 1) (cond (B.le (6) p0) (cond (B.le p0 (16)) (k 2) (k (-1))) (k (-1)))))
theorem eq79 {R:Type} (B:Ops) (p0:Int) (k:AV→Objs→Option R) (n:Nat):afun tau B gl0 X79 gnil ow Tryz.f79 [.c (.int .i64 p0)] [] k n=T79 B p0 (K8 k):=by kernel_rfl
theorem nt79 {R R':Type} (B:Ops) (p0:Int) (k0:(Int)→Option R') (k:R'→Option R):T79 B p0 (fun y=>ob (k0 y) k)=ob (T79 B p0 k0) k:=by
 unfold T79
 repeat' first | exact rfl | apply qae | (apply qao;intro)
def F79 (p0:Int):Option (Int):=T79 Ops.std p0 some
def e79 {R:Type} (c:Int→Option (Int)):Ent R:=fun args objs k=>
 oI args .i64 fun p0 l0=>oE l0 objs <| ob (c p0) (K8 k)
abbrev Sp79 (c:Int→Option (Int)):Prop:=∀ (p0:Int) (y:Int),c p0=some y→Spec Tryz.prog gl0 79 [.c (.int .i64 p0)] [] (.c (.int .i64 y)) []
theorem ek79 {R:Type} {c:Int→Option (Int)} (hs:Sp79 c):EOk 79 (e79 (R:=R) c):=fun args objs k r h=>by
 unfold e79 at h
 obtain ⟨p0,l0,rfl,q3⟩:=qas h
 obtain ⟨rfl,rfl,q5⟩:=qam q3
 exact qan (hs p0) q5
theorem sf79:Sp79 (F79):=fun p0 y hy=>by
 refine qai qah 1000000 (fn:=Tryz.f79) (by kernel_rfl) (by kernel_rfl) (X:=X79) (by kernel_rfl) ?_
 rw [eq79]
 exact (nt79 Ops.std p0 some (K8 k0)).trans (by show ob (F79 p0) _=_;rw [hy];rfl)
noncomputable def M79:Int→Option (Int):=F79
theorem sm79:Sp79 M79:=sf79
def X20:Aux:=⟨[(2,([1,2]++rg 4 30))],[]⟩
inductive S20 where
 | l0 (v1:Int)
def T20 {R:Type} (B:Ops) (c47:C47) (c48:C48) (p0:LB) (again:S20→Option R) (k:(Bool)→Option R):Option S20→Option R | none=>again (.l0 0) | some (.l0 v1)=>cond (B.lt v1 (↑p0.length)) (cond (B.inb v1 p0.length) (ob (c47 (Nat.cast (UInt8.toNat (p0.getD v1.toNat (0))))) fun y0=>cond (!y0) (cond (B.eq v1 (0)) (k false) (cond (B.inb v1 p0.length) (ob (c48 (Nat.cast (UInt8.toNat (p0.getD v1.toNat (0))))) fun y1=>cond (!y1) (k false) (again (.l0 (IntKind.wrap .i64 (v1+1))))) none)) (again (.l0 (IntKind.wrap .i64 (v1+1))))) none) (cond (B.le (1) (↑p0.length)) (k (B.le (↑p0.length) (8))) (k false))
def E20 (p0:LB):S20→List AV×Objs
 | .l0 v1=>(mk 34 [(0,.c (.str p0)),(3,.c (.int .i64 v1))],[])
def I20:S20→Nat
 | .l0 _=>0
theorem eq20 {R:Type} (B:Ops) (c47:C47) (c48:C48) (p0:LB) (k:AV→Objs→Option R) (n:Nat):afun tau B gl0 X20 (ent 47 (e47 c47) (ent 48 (e48 c48) gnil)) ow Tryz.f20 [.c (.str p0)] [] k n=T20 B c47 c48 p0 (fun s=>aloop tau B gl0 X20 (ent 47 (e47 c47) (ent 48 (e48 c48) gnil)) ow [] Tryz.f20 k (I20 s) (E20 p0 s) n) (K1 k) none:=by kernel_rfl
theorem el20 {R:Type} (B:Ops) (c47:C47) (c48:C48) (p0:LB) (k:AV→Objs→Option R) (n:Nat):∀ s,aloop tau B gl0 X20 (ent 47 (e47 c47) (ent 48 (e48 c48) gnil)) ow [] Tryz.f20 k (I20 s) (E20 p0 s) (n+1)=T20 B c47 c48 p0 (fun s=>aloop tau B gl0 X20 (ent 47 (e47 c47) (ent 48 (e48 c48) gnil)) ow [] Tryz.f20 k (I20 s) (E20 p0 s) n) (K1 k) (some s):=by
 intro s
 cases s<;>kernel_rfl
theorem nt20 {R R':Type} (B:Ops) (c47:C47) (c48:C48) (p0:LB) (again:S20→Option R) (again':S20→Option R') (k0:(Bool)→Option R') (k:R'→Option R) (h:∀ s,again s=ob (again' s) k):∀ s,T20 B c47 c48 p0 again (fun y=>ob (k0 y) k) s=ob (T20 B c47 c48 p0 again' k0 s) k:=by
 rintro (_ | x)
 all_goals try cases x
 all_goals (unfold T20;repeat' first | exact rfl | exact h _ | apply qae | (apply qao;intro))
def R20 (c47:C47) (c48:C48) (p0:LB):Nat→S20→Option (Bool)
 | 0,_=>none
 | n+1,s=>T20 Ops.std c47 c48 p0 (R20 c47 c48 p0 n) some (some s)
theorem rr20 {R:Type} (c47:C47) (c48:C48) (p0:LB) (k:AV→Objs→Option R):∀ (n:Nat) (s:S20),aloop tau Ops.std gl0 X20 (ent 47 (e47 c47) (ent 48 (e48 c48) gnil)) ow [] Tryz.f20 k (I20 s) (E20 p0 s) n=ob (R20 c47 c48 p0 n s) (K1 k)
 | 0,s=>by cases s<;>rfl
 | n+1,s=>by rw [el20];exact nt20 Ops.std c47 c48 p0 _ _ some (K1 k) (rr20 c47 c48 p0 k n) (some s)
def F20 (c47:C47) (c48:C48) (p0:LB):Option (Bool):=T20 Ops.std c47 c48 p0 (R20 c47 c48 p0 10000000000000000000) some none
def e20 {R:Type} (c:LB→Option (Bool)):Ent R:=fun args objs k=>
 oS args fun p0 l0=>oE l0 objs <| ob (c p0) (K1 k)
abbrev Sp20 (c:LB→Option (Bool)):Prop:=∀ (p0:LB) (y:Bool),c p0=some y→Spec Tryz.prog gl0 20 [.c (.str p0)] [] (.c (.bool y)) []
theorem ek20 {R:Type} {c:LB→Option (Bool)} (hs:Sp20 c):EOk 20 (e20 (R:=R) c):=fun args objs k r h=>by
 unfold e20 at h
 obtain ⟨p0,l0,rfl,q3⟩:=qa9 h
 obtain ⟨rfl,rfl,q5⟩:=qam q3
 exact qan (hs p0) q5
theorem sf20 {c47:C47} {c48:C48} (h47:Sp47 c47) (h48:Sp48 c48):Sp20 (F20 c47 c48):=fun p0 y hy=>by
 refine qai (qad (ek47 h47) (qad (ek48 h48) qah)) 10000000000000000000 (fn:=Tryz.f20) (by kernel_rfl) (by kernel_rfl) (X:=X20) (by kernel_rfl) ?_
 rw [eq20]
 exact (nt20 Ops.std c47 c48 p0 _ _ some (K1 k0) (rr20 c47 c48 p0 k0 10000000000000000000) none).trans (by show ob (F20 c47 c48 p0) _=_;rw [hy];rfl)
noncomputable def M20:LB→Option (Bool):=F20 M47 M48
theorem sm20:Sp20 M20:=sf20 sm47 sm48
def X54:Aux:=⟨[(3,([1,2]++rg 5 99)),(1000016,([1,2]++rg 8 96)),(1000018,([1,2,5]++rg 7 97))],[]⟩
inductive S54 where
 | l0 (v1:Int) (v2:Int)
 | l1016 (v1:Int) (v2:Int) (v3:Int) (v4:Int) (v5:Int) (v6:LB) (v7:LB) (v8:Int) (v9:Int) (v10:LB) (v11:LB)
 | l1018 (v1:Int) (v2:Int) (v3:Int)
abbrev C79:Type:=Int→Option (Int)
abbrev C20:Type:=LB→Option (Bool)
def T54 {R:Type} (B:Ops) (c79:C79) (c20:C20) (p0:L118) (again:S54→Option R) (k:(Bool)→Option R):Option S54→Option R | none=>again (.l0 0 0) | some (.l0 v1 v2)=>cond (B.lt v2 (↑p0.length)) (cond (B.inb v2 p0.length) (ob (c79 ((p0.getD v2.toNat ty118.dflt).1)) fun y0=>cond (B.eq ((p0.getD v2.toNat ty118.dflt).1) (1)) (again (.l1016 v1 v2 y0 ((p0.getD v2.toNat ty118.dflt).1) (((p0.getD v2.toNat ty118.dflt).2).1) ((((p0.getD v2.toNat ty118.dflt).2).2).1) ((((p0.getD v2.toNat ty118.dflt).2).2).2) ((p0.getD v2.toNat ty118.dflt).1) (((p0.getD v2.toNat ty118.dflt).2).1) (mt UInt8) (mt UInt8))) (cond (B.eq ((p0.getD v2.toNat ty118.dflt).1) (2)) (again (.l1016 v1 v2 y0 ((p0.getD v2.toNat ty118.dflt).1) (((p0.getD v2.toNat ty118.dflt).2).1) ((((p0.getD v2.toNat ty118.dflt).2).2).1) ((((p0.getD v2.toNat ty118.dflt).2).2).2) ((p0.getD v2.toNat ty118.dflt).1) 0 ((((p0.getD v2.toNat ty118.dflt).2).2).1) (mt UInt8))) (cond (B.eq ((p0.getD v2.toNat ty118.dflt).1) (3)) (again (.l1016 v1 v2 y0 ((p0.getD v2.toNat ty118.dflt).1) (((p0.getD v2.toNat ty118.dflt).2).1) ((((p0.getD v2.toNat ty118.dflt).2).2).1) ((((p0.getD v2.toNat ty118.dflt).2).2).2) ((p0.getD v2.toNat ty118.dflt).1) 0 ((((p0.getD v2.toNat ty118.dflt).2).2).1) ((((p0.getD v2.toNat ty118.dflt).2).2).2))) (again (.l1016 v1 v2 y0 ((p0.getD v2.toNat ty118.dflt).1) (((p0.getD v2.toNat ty118.dflt).2).1) ((((p0.getD v2.toNat ty118.dflt).2).2).1) ((((p0.getD v2.toNat ty118.dflt).2).2).2) ((p0.getD v2.toNat ty118.dflt).1) 0 (mt UInt8) (mt UInt8)))))) none) (cond (B.eq v1 (1)) (k (B.le (↑p0.length) (30))) (k false)) | some (.l1016 v1 v2 v3 v4 v5 v6 v7 v8 v9 v10 v11)=>cond (B.lt v3 (0)) (k false) (cond (B.lt v1 v3) (k false) (cond (!(B.eq v4 v8 && (B.eq v5 v9 && (v6 == v10 && (v7 == v11 && true))))) (k false) (cond (B.lt v5 (0)) (k false) (cond (B.lt (999) v5) (k false) (cond (B.eq v4 (2)) (ob (c20 v6) fun y0=>cond (!y0) (k false) (cond (B.eq v4 (3)) (ob (c20 v7) fun y1=>cond (!y1) (k false) (again (.l1018 v1 v2 v3))) (again (.l1018 v1 v2 v3)))) (cond (B.eq v4 (3)) (ob (c20 v6) fun y0=>cond (!y0) (k false) (cond (B.eq v4 (3)) (ob (c20 v7) fun y1=>cond (!y1) (k false) (again (.l1018 v1 v2 v3))) (again (.l1018 v1 v2 v3)))) (cond (B.eq v4 (3)) (ob (c20 v7) fun y0=>cond (!y0) (k false) (again (.l1018 v1 v2 v3))) (again (.l1018 v1 v2 v3))))))))) | some (.l1018 v1 v2 v3)=>again (.l0 (IntKind.wrap .i64 (IntKind.wrap .i64 (v1-v3)+1)) (IntKind.wrap .i64 (v2+1)))
def E54 (p0:L118):S54→List AV×Objs
 | .l0 v1 v2=>(mk 104 [(0,.c (.list 118 ty118 p0)),(3,.c (.int .i64 v1)),(4,.c (.int .i64 v2))],[])
 | .l1016 v1 v2 v3 v4 v5 v6 v7 v8 v9 v10 v11=>(mk 104 [(0,.c (.list 118 ty118 p0)),(3,.c (.int .i64 v1)),(4,.c (.int .i64 v2)),(5,.c (.ptr 5 0)),(6,.c (.int .i64 v3)),(7,.c (.ptr 7 0))],[(5,.box 118 [.int .i64 v4,.int .i64 v5,.str v6,.str v7]),(7,.box 118 [.int .i64 v8,.int .i64 v9,.str v10,.str v11])])
 | .l1018 v1 v2 v3=>(mk 104 [(0,.c (.list 118 ty118 p0)),(3,.c (.int .i64 v1)),(4,.c (.int .i64 v2)),(6,.c (.int .i64 v3))],[])
def I54:S54→Nat
 | .l0 _ _=>0
 | .l1016 _ _ _ _ _ _ _ _ _ _ _=>1016
 | .l1018 _ _ _=>1018
theorem eq54 {R:Type} (B:Ops) (c79:C79) (c20:C20) (p0:L118) (k:AV→Objs→Option R) (n:Nat):afun tau B gl0 X54 (ent 79 (e79 c79) (ent 20 (e20 c20) gnil)) ow Tryz.f54 [.c (.list 118 ty118 p0)] [] k n=T54 B c79 c20 p0 (fun s=>aloop tau B gl0 X54 (ent 79 (e79 c79) (ent 20 (e20 c20) gnil)) ow [] Tryz.f54 k (I54 s) (E54 p0 s) n) (K1 k) none:=by kernel_rfl
theorem el54 {R:Type} (B:Ops) (c79:C79) (c20:C20) (p0:L118) (k:AV→Objs→Option R) (n:Nat):∀ s,aloop tau B gl0 X54 (ent 79 (e79 c79) (ent 20 (e20 c20) gnil)) ow [] Tryz.f54 k (I54 s) (E54 p0 s) (n+1)=T54 B c79 c20 p0 (fun s=>aloop tau B gl0 X54 (ent 79 (e79 c79) (ent 20 (e20 c20) gnil)) ow [] Tryz.f54 k (I54 s) (E54 p0 s) n) (K1 k) (some s):=by
 intro s
 cases s<;>kernel_rfl
theorem nt54 {R R':Type} (B:Ops) (c79:C79) (c20:C20) (p0:L118) (again:S54→Option R) (again':S54→Option R') (k0:(Bool)→Option R') (k:R'→Option R) (h:∀ s,again s=ob (again' s) k):∀ s,T54 B c79 c20 p0 again (fun y=>ob (k0 y) k) s=ob (T54 B c79 c20 p0 again' k0 s) k:=by
 rintro (_ | x)
 all_goals try cases x
 all_goals (unfold T54;repeat' first | exact rfl | exact h _ | apply qae | (apply qao;intro))
def R54 (c79:C79) (c20:C20) (p0:L118):Nat→S54→Option (Bool)
 | 0,_=>none
 | n+1,s=>T54 Ops.std c79 c20 p0 (R54 c79 c20 p0 n) some (some s)
theorem rr54 {R:Type} (c79:C79) (c20:C20) (p0:L118) (k:AV→Objs→Option R):∀ (n:Nat) (s:S54),aloop tau Ops.std gl0 X54 (ent 79 (e79 c79) (ent 20 (e20 c20) gnil)) ow [] Tryz.f54 k (I54 s) (E54 p0 s) n=ob (R54 c79 c20 p0 n s) (K1 k)
 | 0,s=>by cases s<;>rfl
 | n+1,s=>by rw [el54];exact nt54 Ops.std c79 c20 p0 _ _ some (K1 k) (rr54 c79 c20 p0 k n) (some s)
def F54 (c79:C79) (c20:C20) (p0:L118):Option (Bool):=T54 Ops.std c79 c20 p0 (R54 c79 c20 p0 1000000) some none
def e54 {R:Type} (c:L118→Option (Bool)):Ent R:=fun args objs k=>
 oL args 118 ty118 fun p0 l0=>oE l0 objs <| ob (c p0) (K1 k)
abbrev Sp54 (c:L118→Option (Bool)):Prop:=∀ (p0:L118) (y:Bool),c p0=some y→Spec Tryz.prog gl0 54 [.c (.list 118 ty118 p0)] [] (.c (.bool y)) []
theorem ek54 {R:Type} {c:L118→Option (Bool)} (hs:Sp54 c):EOk 54 (e54 (R:=R) c):=fun args objs k r h=>by
 unfold e54 at h
 obtain ⟨p0,l0,rfl,q3⟩:=qa1 h
 obtain ⟨rfl,rfl,q5⟩:=qam q3
 exact qan (hs p0) q5
theorem sf54 {c79:C79} {c20:C20} (h79:Sp79 c79) (h20:Sp20 c20):Sp54 (F54 c79 c20):=fun p0 y hy=>by
 refine qai (qad (ek79 h79) (qad (ek20 h20) qah)) 1000000 (fn:=Tryz.f54) (by kernel_rfl) (by kernel_rfl) (X:=X54) (by kernel_rfl) ?_
 rw [eq54]
 exact (nt54 Ops.std c79 c20 p0 _ _ some (K1 k0) (rr54 c79 c20 p0 k0 1000000) none).trans (by show ob (F54 c79 c20 p0) _=_;rw [hy];rfl)
noncomputable def M54:L118→Option (Bool):=F54 M79 M20
theorem sm54:Sp54 M54:=sf54 sm79 sm20
def X25:Aux:=⟨[(3,([1,2]++rg 5 65))],[]⟩
inductive S25 where
 | l0 (v1:Int) (v2:Int)
abbrev C55:Type:=Int→Option (Int)
abbrev C54:Type:=L118→Option (Bool)
def T25 {R:Type} (B:Ops) (c55:C55) (c54:C54) (p0:L73) (again:S25→Option R) (k:(Bool)→Option R):Option S25→Option R | none=>again (.l0 0 0) | some (.l0 v1 v2)=>cond (B.lt v2 (↑p0.length)) (cond (B.inb v2 p0.length) (ob (c55 ((p0.getD v2.toNat ty73.dflt).1)) fun y0=>cond (B.lt y0 (0)) (k false) (cond (B.lt v1 y0) (k false) (cond (B.inb v2 p0.length) (cond (B.eq ((p0.getD v2.toNat ty73.dflt).1) (3)) (cond (B.inb v2 p0.length) (ob (c54 ((p0.getD v2.toNat ty73.dflt).2)) fun y1=>cond (!y1) (k false) (cond (B.inb v2 p0.length) (cond (!B.eq ((p0.getD v2.toNat ty73.dflt).1) (3)) (cond (B.inb v2 p0.length) (cond (B.lt (0) (Nat.cast (List.length ((p0.getD v2.toNat ty73.dflt).2)))) (k false) (again (.l0 (IntKind.wrap .i64 (IntKind.wrap .i64 (v1-y0)+1)) (IntKind.wrap .i64 (v2+1))))) none) (again (.l0 (IntKind.wrap .i64 (IntKind.wrap .i64 (v1-y0)+1)) (IntKind.wrap .i64 (v2+1))))) none)) none) (cond (B.inb v2 p0.length) (cond (!B.eq ((p0.getD v2.toNat ty73.dflt).1) (3)) (cond (B.inb v2 p0.length) (cond (B.lt (0) (Nat.cast (List.length ((p0.getD v2.toNat ty73.dflt).2)))) (k false) (again (.l0 (IntKind.wrap .i64 (IntKind.wrap .i64 (v1-y0)+1)) (IntKind.wrap .i64 (v2+1))))) none) (again (.l0 (IntKind.wrap .i64 (IntKind.wrap .i64 (v1-y0)+1)) (IntKind.wrap .i64 (v2+1))))) none)) none))) none) (cond (B.eq v1 (1)) (k (B.le (↑p0.length) (60))) (k false))
def E25 (p0:L73):S25→List AV×Objs
 | .l0 v1 v2=>(mk 70 [(0,.c (.list 73 ty73 p0)),(3,.c (.int .i64 v1)),(4,.c (.int .i64 v2))],[])
def I25:S25→Nat
 | .l0 _ _=>0
theorem eq25 {R:Type} (B:Ops) (c55:C55) (c54:C54) (p0:L73) (k:AV→Objs→Option R) (n:Nat):afun tau B gl0 X25 (ent 55 (e55 c55) (ent 54 (e54 c54) gnil)) ow Tryz.f25 [.c (.list 73 ty73 p0)] [] k n=T25 B c55 c54 p0 (fun s=>aloop tau B gl0 X25 (ent 55 (e55 c55) (ent 54 (e54 c54) gnil)) ow [] Tryz.f25 k (I25 s) (E25 p0 s) n) (K1 k) none:=by kernel_rfl
theorem el25 {R:Type} (B:Ops) (c55:C55) (c54:C54) (p0:L73) (k:AV→Objs→Option R) (n:Nat):∀ s,aloop tau B gl0 X25 (ent 55 (e55 c55) (ent 54 (e54 c54) gnil)) ow [] Tryz.f25 k (I25 s) (E25 p0 s) (n+1)=T25 B c55 c54 p0 (fun s=>aloop tau B gl0 X25 (ent 55 (e55 c55) (ent 54 (e54 c54) gnil)) ow [] Tryz.f25 k (I25 s) (E25 p0 s) n) (K1 k) (some s):=by
 intro s
 cases s<;>kernel_rfl
theorem nt25 {R R':Type} (B:Ops) (c55:C55) (c54:C54) (p0:L73) (again:S25→Option R) (again':S25→Option R') (k0:(Bool)→Option R') (k:R'→Option R) (h:∀ s,again s=ob (again' s) k):∀ s,T25 B c55 c54 p0 again (fun y=>ob (k0 y) k) s=ob (T25 B c55 c54 p0 again' k0 s) k:=by
 rintro (_ | x)
 all_goals try cases x
 all_goals (unfold T25;repeat' first | exact rfl | exact h _ | apply qae | (apply qao;intro))
def R25 (c55:C55) (c54:C54) (p0:L73):Nat→S25→Option (Bool)
 | 0,_=>none
 | n+1,s=>T25 Ops.std c55 c54 p0 (R25 c55 c54 p0 n) some (some s)
theorem rr25 {R:Type} (c55:C55) (c54:C54) (p0:L73) (k:AV→Objs→Option R):∀ (n:Nat) (s:S25),aloop tau Ops.std gl0 X25 (ent 55 (e55 c55) (ent 54 (e54 c54) gnil)) ow [] Tryz.f25 k (I25 s) (E25 p0 s) n=ob (R25 c55 c54 p0 n s) (K1 k)
 | 0,s=>by cases s<;>rfl
 | n+1,s=>by rw [el25];exact nt25 Ops.std c55 c54 p0 _ _ some (K1 k) (rr25 c55 c54 p0 k n) (some s)
def F25 (c55:C55) (c54:C54) (p0:L73):Option (Bool):=T25 Ops.std c55 c54 p0 (R25 c55 c54 p0 1000000) some none
def e25 {R:Type} (c:L73→Option (Bool)):Ent R:=fun args objs k=>
 oL args 73 ty73 fun p0 l0=>oE l0 objs <| ob (c p0) (K1 k)
abbrev Sp25 (c:L73→Option (Bool)):Prop:=∀ (p0:L73) (y:Bool),c p0=some y→Spec Tryz.prog gl0 25 [.c (.list 73 ty73 p0)] [] (.c (.bool y)) []
theorem ek25 {R:Type} {c:L73→Option (Bool)} (hs:Sp25 c):EOk 25 (e25 (R:=R) c):=fun args objs k r h=>by
 unfold e25 at h
 obtain ⟨p0,l0,rfl,q3⟩:=qa1 h
 obtain ⟨rfl,rfl,q5⟩:=qam q3
 exact qan (hs p0) q5
theorem sf25 {c55:C55} {c54:C54} (h55:Sp55 c55) (h54:Sp54 c54):Sp25 (F25 c55 c54):=fun p0 y hy=>by
 refine qai (qad (ek55 h55) (qad (ek54 h54) qah)) 1000000 (fn:=Tryz.f25) (by kernel_rfl) (by kernel_rfl) (X:=X25) (by kernel_rfl) ?_
 rw [eq25]
 exact (nt25 Ops.std c55 c54 p0 _ _ some (K1 k0) (rr25 c55 c54 p0 k0 1000000) none).trans (by show ob (F25 c55 c54 p0) _=_;rw [hy];rfl)
noncomputable def M25:L73→Option (Bool):=F25 M55 M54
theorem sm25:Sp25 M25:=sf25 sm55 sm54
def X61:Aux:=⟨[],[]⟩
def T61 {R:Type} (B:Ops) (p0:Int) (k:(Int)→Option R):Option R:=cond (B.eq p0 (7)) (k 1) (cond (B.eq p0 (6)) (k 2) (cond (B.eq p0 (5)) (k 3) (cond (B.eq p0 (9)) (k 4) (cond (B.eq p0 (10)) (k 4) (cond (B.eq p0 (4)) (k 5) (cond (B.eq p0 (8)) (k 5) (cond (B.eq p0 (11)) (k 5) (cond (B.eq p0 (12)) (k 5) (k 6)))))))))
theorem eq61 {R:Type} (B:Ops) (p0:Int) (k:AV→Objs→Option R) (n:Nat):afun tau B gl0 X61 gnil ow Tryz.f61 [.c (.int .i64 p0)] [] k n=T61 B p0 (K8 k):=by kernel_rfl
theorem nt61 {R R':Type} (B:Ops) (p0:Int) (k0:(Int)→Option R') (k:R'→Option R):T61 B p0 (fun y=>ob (k0 y) k)=ob (T61 B p0 k0) k:=by
 unfold T61
 repeat' first | exact rfl | apply qae | (apply qao;intro)
def F61 (p0:Int):Option (Int):=T61 Ops.std p0 some
def e61 {R:Type} (c:Int→Option (Int)):Ent R:=fun args objs k=>
 oI args .i64 fun p0 l0=>oE l0 objs <| ob (c p0) (K8 k)
abbrev Sp61 (c:Int→Option (Int)):Prop:=∀ (p0:Int) (y:Int),c p0=some y→Spec Tryz.prog gl0 61 [.c (.int .i64 p0)] [] (.c (.int .i64 y)) []
theorem ek61 {R:Type} {c:Int→Option (Int)} (hs:Sp61 c):EOk 61 (e61 (R:=R) c):=fun args objs k r h=>by
 unfold e61 at h
 obtain ⟨p0,l0,rfl,q3⟩:=qas h
 obtain ⟨rfl,rfl,q5⟩:=qam q3
 exact qan (hs p0) q5
theorem sf61:Sp61 (F61):=fun p0 y hy=>by
 refine qai qah 1000000 (fn:=Tryz.f61) (by kernel_rfl) (by kernel_rfl) (X:=X61) (by kernel_rfl) ?_
 rw [eq61]
 exact (nt61 Ops.std p0 some (K8 k0)).trans (by show ob (F61 p0) _=_;rw [hy];rfl)
noncomputable def M61:Int→Option (Int):=F61
theorem sm61:Sp61 M61:=sf61
def X62:Aux:=⟨[],[]⟩
def T62 {R:Type} (B:Ops) (p0:Int) (k:(LB)→Option R):Option R:=cond (B.eq p0 (1)) (k ([116,114,117,101]:LB)) (cond (B.eq p0 (2)) (k ([102,97,108,115,101]:LB)) (cond (B.eq p0 (4)) (k ([33]:LB)) (cond (B.eq p0 (5)) (k ([32,38,38,32]:LB)) (cond (B.eq p0 (6)) (k ([32,124,124,32]:LB)) (cond (B.eq p0 (7)) (k ([32,45,62,32]:LB)) (cond (B.eq p0 (8)) (k ([88,32]:LB)) (cond (B.eq p0 (9)) (k ([32,85,32]:LB)) (cond (B.eq p0 (10)) (k ([32,82,32]:LB)) (cond (B.eq p0 (11)) (k ([70,32]:LB)) (cond (B.eq p0 (12)) (k ([71,32]:LB)) (k (mt UInt8))))))))))))
theorem eq62 {R:Type} (B:Ops) (p0:Int) (k:AV→Objs→Option R) (n:Nat):afun tau B gl0 X62 gnil ow Tryz.f62 [.c (.int .i64 p0)] [] k n=T62 B p0 (K2 k):=by kernel_rfl
theorem nt62 {R R':Type} (B:Ops) (p0:Int) (k0:(LB)→Option R') (k:R'→Option R):T62 B p0 (fun y=>ob (k0 y) k)=ob (T62 B p0 k0) k:=by
 unfold T62
 repeat' first | exact rfl | apply qae | (apply qao;intro)
def F62 (p0:Int):Option (LB):=T62 Ops.std p0 some
def e62 {R:Type} (c:Int→Option (LB)):Ent R:=fun args objs k=>
 oI args .i64 fun p0 l0=>oE l0 objs <| ob (c p0) (K2 k)
abbrev Sp62 (c:Int→Option (LB)):Prop:=∀ (p0:Int) (y:LB),c p0=some y→Spec Tryz.prog gl0 62 [.c (.int .i64 p0)] [] (.c (.str y)) []
theorem ek62 {R:Type} {c:Int→Option (LB)} (hs:Sp62 c):EOk 62 (e62 (R:=R) c):=fun args objs k r h=>by
 unfold e62 at h
 obtain ⟨p0,l0,rfl,q3⟩:=qas h
 obtain ⟨rfl,rfl,q5⟩:=qam q3
 exact qan (hs p0) q5
theorem sf62:Sp62 (F62):=fun p0 y hy=>by
 refine qai qah 1000000 (fn:=Tryz.f62) (by kernel_rfl) (by kernel_rfl) (X:=X62) (by kernel_rfl) ?_
 rw [eq62]
 exact (nt62 Ops.std p0 some (K2 k0)).trans (by show ob (F62 p0) _=_;rw [hy];rfl)
noncomputable def M62:Int→Option (LB):=F62
theorem sm62:Sp62 M62:=sf62
def e90 {R:Type} (c:Int→Option (LB)):Ent R:=fun args objs k=>
 oI args .u64 fun p0 l0=>oE l0 objs <| ob (c p0) (K2 k)
abbrev Sp90 (c:Int→Option (LB)):Prop:=∀ (p0:Int) (y:LB),c p0=some y→Spec Tryz.prog gl0 90 [.c (.int .u64 p0)] [] (.c (.str y)) []
theorem ek90 {R:Type} {c:Int→Option (LB)} (hs:Sp90 c):EOk 90 (e90 (R:=R) c):=fun args objs k r h=>by
 unfold e90 at h
 obtain ⟨p0,l0,rfl,q3⟩:=qas h
 obtain ⟨rfl,rfl,q5⟩:=qam q3
 exact qan (hs p0) q5
def X90:Aux:=⟨[],[]⟩
abbrev C90:Type:=Int→Option (LB)
def T90 {R:Type} (B:Ops) (c90:C90) (p0:Int) (k:(LB)→Option R):Option R:=cond (B.eq (10) (0)) none (cond (B.eq (10) (0)) none (cond (B.inb (IntKind.wrap IntKind.u64 (Int.tmod p0 (10)+1)) (10+1)) (cond (bif B.le (0) (Int.tmod p0 (10)) then B.le (Int.tmod p0 (10)) (IntKind.wrap IntKind.u64 (Int.tmod p0 (10)+1)) else false) (cond (B.lt p0 (10)) (k (List.drop (Int.toNat (Int.tmod p0 (10))) (List.take (Int.toNat (IntKind.wrap IntKind.u64 (Int.tmod p0 (10)+1))) ([48,49,50,51,52,53,54,55,56,57]:LB)))) (cond (B.eq (10) (0)) none (ob (c90 (IntKind.wrap IntKind.u64 (Int.tdiv p0 (10)))) fun y0=>cond (B.lim (List.length y0+List.length (List.drop (Int.toNat (Int.tmod p0 (10))) (List.take (Int.toNat (IntKind.wrap IntKind.u64 (Int.tmod p0 (10)+1))) ([48,49,50,51,52,53,54,55,56,57]:LB)))) (1)) (k (y0++List.drop (Int.toNat (Int.tmod p0 (10))) (List.take (Int.toNat (IntKind.wrap IntKind.u64 (Int.tmod p0 (10)+1))) ([48,49,50,51,52,53,54,55,56,57]:LB)))) none))) none) none))
theorem eq90 {R:Type} (B:Ops) (c90:C90) (p0:Int) (k:AV→Objs→Option R) (n:Nat):afun tau B gl0 X90 (ent 90 (e90 c90) gnil) ow Tryz.f90 [.c (.int .u64 p0)] [] k n=T90 B c90 p0 (K2 k):=by kernel_rfl
theorem nt90 {R R':Type} (B:Ops) (c90:C90) (p0:Int) (k0:(LB)→Option R') (k:R'→Option R):T90 B c90 p0 (fun y=>ob (k0 y) k)=ob (T90 B c90 p0 k0) k:=by
 unfold T90
 repeat' first | exact rfl | apply qae | (apply qao;intro)
def F90 (c90:C90) (p0:Int):Option (LB):=T90 Ops.std c90 p0 some
theorem sf90 {c90:C90} (h90:Sp90 c90):Sp90 (F90 c90):=fun p0 y hy=>by
 refine qai (qad (ek90 h90) qah) 1000000 (fn:=Tryz.f90) (by kernel_rfl) (by kernel_rfl) (X:=X90) (by kernel_rfl) ?_
 rw [eq90]
 exact (nt90 Ops.std c90 p0 some (K2 k0)).trans (by show ob (F90 c90 p0) _=_;rw [hy];rfl)
noncomputable def Rec90:Nat→(Int→Option (LB))
 | 0=>fun _=>none
 | d+1=>F90 (Rec90 d)
theorem rec90:∀ d,Sp90 (Rec90 d)
 | 0=>fun p0 y (h:(none:Option (LB))=some y)=>by cases h
 | d+1=>sf90 (rec90 d)
noncomputable def M90:Int→Option (LB):=(Rec90 1000000)
theorem sm90:Sp90 M90:=(rec90 1000000)
def X72:Aux:=⟨[],[]⟩
def T72 {R:Type} (B:Ops) (c90:C90) (p0:Int) (k:(LB)→Option R):Option R:=cond (B.lt p0 (0)) (ob (c90 (IntKind.wrap IntKind.u64 (IntKind.wrap IntKind.u64 (IntKind.wrap .i64 (0-IntKind.wrap .i64 (p0+1)))+1))) fun y0=>cond (B.lim (1+List.length y0) (1)) (k (([45]:LB)++y0)) none) (ob (c90 (IntKind.wrap IntKind.u64 p0)) fun y0=>k y0)
theorem eq72 {R:Type} (B:Ops) (c90:C90) (p0:Int) (k:AV→Objs→Option R) (n:Nat):afun tau B gl0 X72 (ent 90 (e90 c90) gnil) ow Tryz.f72 [.c (.int .i64 p0)] [] k n=T72 B c90 p0 (K2 k):=by kernel_rfl
theorem nt72 {R R':Type} (B:Ops) (c90:C90) (p0:Int) (k0:(LB)→Option R') (k:R'→Option R):T72 B c90 p0 (fun y=>ob (k0 y) k)=ob (T72 B c90 p0 k0) k:=by
 unfold T72
 repeat' first | exact rfl | apply qae | (apply qao;intro)
def F72 (c90:C90) (p0:Int):Option (LB):=T72 Ops.std c90 p0 some
def e72 {R:Type} (c:Int→Option (LB)):Ent R:=fun args objs k=>
 oI args .i64 fun p0 l0=>oE l0 objs <| ob (c p0) (K2 k)
abbrev Sp72 (c:Int→Option (LB)):Prop:=∀ (p0:Int) (y:LB),c p0=some y→Spec Tryz.prog gl0 72 [.c (.int .i64 p0)] [] (.c (.str y)) []
theorem ek72 {R:Type} {c:Int→Option (LB)} (hs:Sp72 c):EOk 72 (e72 (R:=R) c):=fun args objs k r h=>by
 unfold e72 at h
 obtain ⟨p0,l0,rfl,q3⟩:=qas h
 obtain ⟨rfl,rfl,q5⟩:=qam q3
 exact qan (hs p0) q5
theorem sf72 {c90:C90} (h90:Sp90 c90):Sp72 (F72 c90):=fun p0 y hy=>by
 refine qai (qad (ek90 h90) qah) 1000000 (fn:=Tryz.f72) (by kernel_rfl) (by kernel_rfl) (X:=X72) (by kernel_rfl) ?_
 rw [eq72]
 exact (nt72 Ops.std c90 p0 some (K2 k0)).trans (by show ob (F72 c90 p0) _=_;rw [hy];rfl)
noncomputable def M72:Int→Option (LB):=F72 M90
theorem sm72:Sp72 M72:=sf72 sm90
def X85:Aux:=⟨[],[]⟩
def T85 {R:Type} (B:Ops) (p0:LB) (p1:Int) (p2:Int) (k:(LB)→Option R):Option R:=cond (B.lt p1 p2) (cond (B.lim (1+List.length p0) (1)) (cond (B.lim (List.length (([40]:LB)++p0)+1) (1)) (k (([40]:LB)++p0++([41]:LB))) none) none) (k p0)
theorem eq85 {R:Type} (B:Ops) (p0:LB) (p1:Int) (p2:Int) (k:AV→Objs→Option R) (n:Nat):afun tau B gl0 X85 gnil ow Tryz.f85 [.agg [.str p0,.int .i64 p1],.c (.int .i64 p2)] [] k n=T85 B p0 p1 p2 (K2 k):=by kernel_rfl
theorem nt85 {R R':Type} (B:Ops) (p0:LB) (p1:Int) (p2:Int) (k0:(LB)→Option R') (k:R'→Option R):T85 B p0 p1 p2 (fun y=>ob (k0 y) k)=ob (T85 B p0 p1 p2 k0) k:=by
 unfold T85
 repeat' first | exact rfl | apply qae | (apply qao;intro)
def F85 (p0:LB) (p1:Int) (p2:Int):Option (LB):=T85 Ops.std p0 p1 p2 some
def e85 {R:Type} (c:LB→Int→Int→Option (LB)):Ent R:=fun args objs k=>
 oCons args fun a0 l0=>oAgg a0 fun x0=>cCons x0 fun z0_0 w0_0=>cStr z0_0 fun p0=>cCons w0_0 fun z0_1 w0_1=>cInt .i64 z0_1 fun p1=>cNil w0_1 <| oI l0 .i64 fun p2 l1=>oE l1 objs <| ob (c p0 p1 p2) (K2 k)
abbrev Sp85 (c:LB→Int→Int→Option (LB)):Prop:=∀ (p0:LB) (p1:Int) (p2:Int) (y:LB),c p0 p1 p2=some y→Spec Tryz.prog gl0 85 [.agg [.str p0,.int .i64 p1],.c (.int .i64 p2)] [] (.c (.str y)) []
theorem ek85 {R:Type} {c:LB→Int→Int→Option (LB)} (hs:Sp85 c):EOk 85 (e85 (R:=R) c):=fun args objs k r h=>by
 unfold e85 at h
 obtain ⟨a0,l0,rfl,q1⟩:=qak h
 obtain ⟨x0,rfl,q2⟩:=qav q1
 obtain ⟨z0_0,w0_0,rfl,q3⟩:=qaa q2
 obtain ⟨p0,rfl,q4⟩:=qbb q3
 obtain ⟨z0_1,w0_1,rfl,q5⟩:=qaa q4
 obtain ⟨p1,rfl,q6⟩:=qar q5
 obtain ⟨rfl,q7⟩:=qaq q6
 obtain ⟨p2,l1,rfl,q10⟩:=qas q7
 obtain ⟨rfl,rfl,q12⟩:=qam q10
 exact qan (hs p0 p1 p2) q12
theorem sf85:Sp85 (F85):=fun p0 p1 p2 y hy=>by
 refine qai qah 1000000 (fn:=Tryz.f85) (by kernel_rfl) (by kernel_rfl) (X:=X85) (by kernel_rfl) ?_
 rw [eq85]
 exact (nt85 Ops.std p0 p1 p2 some (K2 k0)).trans (by show ob (F85 p0 p1 p2) _=_;rw [hy];rfl)
noncomputable def M85:LB→Int→Int→Option (LB):=F85
theorem sm85:Sp85 M85:=sf85
def X63:Aux:=⟨[(6,([1,2]++rg 6 120))],[(31,.lin (rg 0 14)),(32,.lin [0,1,2,3,4,5,6,7]),(18,.lin ([0,1,2,3,4,5,7,8,9,10,12,13,14,15,16,17,18,6,11,19,20,21,22])),(19,.lin [0,1,2,3,4,5,6,7])]⟩
inductive S63 where
 | l0 (v1:Int) (v2:L149)
abbrev C72:Type:=Int→Option (LB)
abbrev C85:Type:=LB→Int→Int→Option (LB)
def T63 {R:Type} (B:Ops) (c54:C54) (c84:C84) (c79:C79) (c72:C72) (c85:C85) (p0:L118) (again:S63→Option R) (k:(LB)→Option R):Option S63→Option R | none=>ob (c54 p0) fun y0=>cond (!y0) (k (mt UInt8)) (again (.l0 0 (mt (Ty.den ty129)))) | some (.l0 v1 v2)=>cond (B.lt v1 (↑p0.length)) (cond (B.inb v1 p0.length) (ob (c84 ((p0.getD v1.toNat ty118.dflt).1)) fun y0=>ob (c79 ((p0.getD v1.toNat ty118.dflt).1)) fun y1=>cond (B.eq y1 (0)) (cond (B.eq ((p0.getD v1.toNat ty118.dflt).1) (1)) (ob (c72 (((p0.getD v1.toNat ty118.dflt).2).1)) fun y2=>cond (B.lim (List.length v2+List.length ((y2,y0)::mt (Ty.den ty129))) (24)) (again (.l0 (IntKind.wrap .i64 (v1+1)) (v2++(y2,y0)::mt (Ty.den ty129)))) none) (cond (B.eq ((p0.getD v1.toNat ty118.dflt).1) (2)) (cond (B.lim (List.length v2+List.length (((((p0.getD v1.toNat ty118.dflt).2).2).1,y0)::mt (Ty.den ty129))) (24)) (again (.l0 (IntKind.wrap .i64 (v1+1)) (v2++((((p0.getD v1.toNat ty118.dflt).2).2).1,y0)::mt (Ty.den ty129)))) none) (cond (B.lim (List.length ((((p0.getD v1.toNat ty118.dflt).2).2).1)+1) (1)) (cond (B.lim (List.length ((((p0.getD v1.toNat ty118.dflt).2).2).1++([64]:LB))+List.length ((((p0.getD v1.toNat ty118.dflt).2).2).2)) (1)) (cond (B.lim (List.length v2+List.length (((((p0.getD v1.toNat ty118.dflt).2).2).1++([64]:LB)++(((p0.getD v1.toNat ty118.dflt).2).2).2,y0)::mt (Ty.den ty129))) (24)) (again (.l0 (IntKind.wrap .i64 (v1+1)) (v2++((((p0.getD v1.toNat ty118.dflt).2).2).1++([64]:LB)++(((p0.getD v1.toNat ty118.dflt).2).2).2,y0)::mt (Ty.den ty129)))) none) none) none))) (cond (B.eq y1 (1)) (cond (B.lt (↑v2.length) (1)) (k (mt UInt8)) (cond (B.inb ((p0.getD v1.toNat ty118.dflt).1) (17)) (cond (B.inb (IntKind.wrap .i64 (Nat.cast v2.length-1)) v2.length) (ob (c85 ((v2.getD (Int.toNat (IntKind.wrap .i64 (Nat.cast v2.length-1))) ty149.dflt).1) ((v2.getD (Int.toNat (IntKind.wrap .i64 (Nat.cast v2.length-1))) ty149.dflt).2) y0) fun y2=>cond (B.lim (List.length (List.getD ((mt UInt8)::(mt UInt8)::(mt UInt8)::(mt UInt8)::([33]:LB)::([45]:LB)::([42]:LB)::([43]:LB)::([45]:LB)::([60]:LB)::([60,61]:LB)::([62]:LB)::([62,61]:LB)::([61,61]:LB)::([33,61]:LB)::([38,38]:LB)::([124,124]:LB)::mt LB) (Int.toNat ((p0.getD v1.toNat ty118.dflt).1)) (mt UInt8))+List.length y2) (1)) (cond (B.inb (IntKind.wrap .i64 (Nat.cast v2.length-1)) (List.length v2+1)) (cond (B.lim (List.length (List.take (Int.toNat (IntKind.wrap .i64 (Nat.cast v2.length-1))) v2)+List.length ((List.getD ((mt UInt8)::(mt UInt8)::(mt UInt8)::(mt UInt8)::([33]:LB)::([45]:LB)::([42]:LB)::([43]:LB)::([45]:LB)::([60]:LB)::([60,61]:LB)::([62]:LB)::([62,61]:LB)::([61,61]:LB)::([33,61]:LB)::([38,38]:LB)::([124,124]:LB)::mt LB) (Int.toNat ((p0.getD v1.toNat ty118.dflt).1)) (mt UInt8)++y2,y0)::mt (Ty.den ty129))) (24)) (again (.l0 (IntKind.wrap .i64 (v1+1)) (List.take (Int.toNat (IntKind.wrap .i64 (Nat.cast v2.length-1))) v2++(List.getD ((mt UInt8)::(mt UInt8)::(mt UInt8)::(mt UInt8)::([33]:LB)::([45]:LB)::([42]:LB)::([43]:LB)::([45]:LB)::([60]:LB)::([60,61]:LB)::([62]:LB)::([62,61]:LB)::([61,61]:LB)::([33,61]:LB)::([38,38]:LB)::([124,124]:LB)::mt LB) (Int.toNat ((p0.getD v1.toNat ty118.dflt).1)) (mt UInt8)++y2,y0)::mt (Ty.den ty129)))) none) none) none) none) none)) (cond (B.lt (↑v2.length) (2)) (k (mt UInt8)) (cond (B.eq y0 (3)) (cond (B.inb (IntKind.wrap .i64 (Nat.cast v2.length-2)) v2.length) (cond (B.inb ((p0.getD v1.toNat ty118.dflt).1) (17)) (cond (B.inb (IntKind.wrap .i64 (Nat.cast v2.length-1)) v2.length) (ob (c85 ((v2.getD (Int.toNat (IntKind.wrap .i64 (Nat.cast v2.length-2))) ty149.dflt).1) ((v2.getD (Int.toNat (IntKind.wrap .i64 (Nat.cast v2.length-2))) ty149.dflt).2) (4)) fun y2=>cond (B.lim (List.length y2+List.length (List.getD ((mt UInt8)::(mt UInt8)::(mt UInt8)::(mt UInt8)::([33]:LB)::([45]:LB)::([42]:LB)::([43]:LB)::([45]:LB)::([60]:LB)::([60,61]:LB)::([62]:LB)::([62,61]:LB)::([61,61]:LB)::([33,61]:LB)::([38,38]:LB)::([124,124]:LB)::mt LB) (Int.toNat ((p0.getD v1.toNat ty118.dflt).1)) (mt UInt8))) (1)) (ob (c85 ((v2.getD (Int.toNat (IntKind.wrap .i64 (Nat.cast v2.length-1))) ty149.dflt).1) ((v2.getD (Int.toNat (IntKind.wrap .i64 (Nat.cast v2.length-1))) ty149.dflt).2) (IntKind.wrap .i64 (y0+1))) fun y3=>cond (B.lim (List.length (y2++List.getD ((mt UInt8)::(mt UInt8)::(mt UInt8)::(mt UInt8)::([33]:LB)::([45]:LB)::([42]:LB)::([43]:LB)::([45]:LB)::([60]:LB)::([60,61]:LB)::([62]:LB)::([62,61]:LB)::([61,61]:LB)::([33,61]:LB)::([38,38]:LB)::([124,124]:LB)::mt LB) (Int.toNat ((p0.getD v1.toNat ty118.dflt).1)) (mt UInt8))+List.length y3) (1)) (cond (B.inb (IntKind.wrap .i64 (Nat.cast v2.length-2)) (List.length v2+1)) (cond (B.lim (List.length (List.take (Int.toNat (IntKind.wrap .i64 (Nat.cast v2.length-2))) v2)+List.length ((y2++List.getD ((mt UInt8)::(mt UInt8)::(mt UInt8)::(mt UInt8)::([33]:LB)::([45]:LB)::([42]:LB)::([43]:LB)::([45]:LB)::([60]:LB)::([60,61]:LB)::([62]:LB)::([62,61]:LB)::([61,61]:LB)::([33,61]:LB)::([38,38]:LB)::([124,124]:LB)::mt LB) (Int.toNat ((p0.getD v1.toNat ty118.dflt).1)) (mt UInt8)++y3,y0)::mt (Ty.den ty129))) (24)) (again (.l0 (IntKind.wrap .i64 (v1+1)) (List.take (Int.toNat (IntKind.wrap .i64 (Nat.cast v2.length-2))) v2++(y2++List.getD ((mt UInt8)::(mt UInt8)::(mt UInt8)::(mt UInt8)::([33]:LB)::([45]:LB)::([42]:LB)::([43]:LB)::([45]:LB)::([60]:LB)::([60,61]:LB)::([62]:LB)::([62,61]:LB)::([61,61]:LB)::([33,61]:LB)::([38,38]:LB)::([124,124]:LB)::mt LB) (Int.toNat ((p0.getD v1.toNat ty118.dflt).1)) (mt UInt8)++y3,y0)::mt (Ty.den ty129)))) none) none) none) none) none) none) none) (cond (B.inb (IntKind.wrap .i64 (Nat.cast v2.length-2)) v2.length) (cond (B.inb ((p0.getD v1.toNat ty118.dflt).1) (17)) (cond (B.inb (IntKind.wrap .i64 (Nat.cast v2.length-1)) v2.length) (ob (c85 ((v2.getD (Int.toNat (IntKind.wrap .i64 (Nat.cast v2.length-2))) ty149.dflt).1) ((v2.getD (Int.toNat (IntKind.wrap .i64 (Nat.cast v2.length-2))) ty149.dflt).2) y0) fun y2=>cond (B.lim (List.length y2+List.length (List.getD ((mt UInt8)::(mt UInt8)::(mt UInt8)::(mt UInt8)::([33]:LB)::([45]:LB)::([42]:LB)::([43]:LB)::([45]:LB)::([60]:LB)::([60,61]:LB)::([62]:LB)::([62,61]:LB)::([61,61]:LB)::([33,61]:LB)::([38,38]:LB)::([124,124]:LB)::mt LB) (Int.toNat ((p0.getD v1.toNat ty118.dflt).1)) (mt UInt8))) (1)) (ob (c85 ((v2.getD (Int.toNat (IntKind.wrap .i64 (Nat.cast v2.length-1))) ty149.dflt).1) ((v2.getD (Int.toNat (IntKind.wrap .i64 (Nat.cast v2.length-1))) ty149.dflt).2) (IntKind.wrap .i64 (y0+1))) fun y3=>cond (B.lim (List.length (y2++List.getD ((mt UInt8)::(mt UInt8)::(mt UInt8)::(mt UInt8)::([33]:LB)::([45]:LB)::([42]:LB)::([43]:LB)::([45]:LB)::([60]:LB)::([60,61]:LB)::([62]:LB)::([62,61]:LB)::([61,61]:LB)::([33,61]:LB)::([38,38]:LB)::([124,124]:LB)::mt LB) (Int.toNat ((p0.getD v1.toNat ty118.dflt).1)) (mt UInt8))+List.length y3) (1)) (cond (B.inb (IntKind.wrap .i64 (Nat.cast v2.length-2)) (List.length v2+1)) (cond (B.lim (List.length (List.take (Int.toNat (IntKind.wrap .i64 (Nat.cast v2.length-2))) v2)+List.length ((y2++List.getD ((mt UInt8)::(mt UInt8)::(mt UInt8)::(mt UInt8)::([33]:LB)::([45]:LB)::([42]:LB)::([43]:LB)::([45]:LB)::([60]:LB)::([60,61]:LB)::([62]:LB)::([62,61]:LB)::([61,61]:LB)::([33,61]:LB)::([38,38]:LB)::([124,124]:LB)::mt LB) (Int.toNat ((p0.getD v1.toNat ty118.dflt).1)) (mt UInt8)++y3,y0)::mt (Ty.den ty129))) (24)) (again (.l0 (IntKind.wrap .i64 (v1+1)) (List.take (Int.toNat (IntKind.wrap .i64 (Nat.cast v2.length-2))) v2++(y2++List.getD ((mt UInt8)::(mt UInt8)::(mt UInt8)::(mt UInt8)::([33]:LB)::([45]:LB)::([42]:LB)::([43]:LB)::([45]:LB)::([60]:LB)::([60,61]:LB)::([62]:LB)::([62,61]:LB)::([61,61]:LB)::([33,61]:LB)::([38,38]:LB)::([124,124]:LB)::mt LB) (Int.toNat ((p0.getD v1.toNat ty118.dflt).1)) (mt UInt8)++y3,y0)::mt (Ty.den ty129)))) none) none) none) none) none) none) none))))) none) (cond (B.eq (↑v2.length) (0)) (k (mt UInt8)) (cond (B.inb (0) v2.length) (k ((v2.getD (Int.toNat (0)) ty149.dflt).1)) none))
def E63 (p0:L118):S63→List AV×Objs
 | .l0 v1 v2=>(mk 126 [(0,.c (.list 118 ty118 p0)),(3,.c (.own 3)),(4,.c (.ptr 4 0)),(5,.c (.int .i64 v1))],[(3,.row 149 ty149 v2),(4,.box 147 [.str (mt UInt8),.str (mt UInt8),.str (mt UInt8),.str (mt UInt8),.str ([33]:LB),.str ([45]:LB),.str ([42]:LB),.str ([43]:LB),.str ([45]:LB),.str ([60]:LB),.str ([60,61]:LB),.str ([62]:LB),.str ([62,61]:LB),.str ([61,61]:LB),.str ([33,61]:LB),.str ([38,38]:LB),.str ([124,124]:LB)])])
def I63:S63→Nat
 | .l0 _ _=>0
theorem eq63 {R:Type} (B:Ops) (c54:C54) (c84:C84) (c79:C79) (c72:C72) (c85:C85) (p0:L118) (k:AV→Objs→Option R) (n:Nat):afun tau B gl0 X63 (ent 54 (e54 c54) (ent 84 (e84 c84) (ent 79 (e79 c79) (ent 72 (e72 c72) (ent 85 (e85 c85) gnil))))) ow Tryz.f63 [.c (.list 118 ty118 p0)] [] k n=T63 B c54 c84 c79 c72 c85 p0 (fun s=>aloop tau B gl0 X63 (ent 54 (e54 c54) (ent 84 (e84 c84) (ent 79 (e79 c79) (ent 72 (e72 c72) (ent 85 (e85 c85) gnil))))) ow [] Tryz.f63 k (I63 s) (E63 p0 s) n) (K2 k) none:=by kernel_rfl
theorem el63 {R:Type} (B:Ops) (c54:C54) (c84:C84) (c79:C79) (c72:C72) (c85:C85) (p0:L118) (k:AV→Objs→Option R) (n:Nat):∀ s,aloop tau B gl0 X63 (ent 54 (e54 c54) (ent 84 (e84 c84) (ent 79 (e79 c79) (ent 72 (e72 c72) (ent 85 (e85 c85) gnil))))) ow [] Tryz.f63 k (I63 s) (E63 p0 s) (n+1)=T63 B c54 c84 c79 c72 c85 p0 (fun s=>aloop tau B gl0 X63 (ent 54 (e54 c54) (ent 84 (e84 c84) (ent 79 (e79 c79) (ent 72 (e72 c72) (ent 85 (e85 c85) gnil))))) ow [] Tryz.f63 k (I63 s) (E63 p0 s) n) (K2 k) (some s):=by
 intro s
 cases s<;>kernel_rfl
theorem nt63 {R R':Type} (B:Ops) (c54:C54) (c84:C84) (c79:C79) (c72:C72) (c85:C85) (p0:L118) (again:S63→Option R) (again':S63→Option R') (k0:(LB)→Option R') (k:R'→Option R) (h:∀ s,again s=ob (again' s) k):∀ s,T63 B c54 c84 c79 c72 c85 p0 again (fun y=>ob (k0 y) k) s=ob (T63 B c54 c84 c79 c72 c85 p0 again' k0 s) k:=by
 rintro (_ | x)
 all_goals try cases x
 all_goals (unfold T63;repeat' first | exact rfl | exact h _ | apply qae | (apply qao;intro))
def R63 (c54:C54) (c84:C84) (c79:C79) (c72:C72) (c85:C85) (p0:L118):Nat→S63→Option (LB)
 | 0,_=>none
 | n+1,s=>T63 Ops.std c54 c84 c79 c72 c85 p0 (R63 c54 c84 c79 c72 c85 p0 n) some (some s)
theorem rr63 {R:Type} (c54:C54) (c84:C84) (c79:C79) (c72:C72) (c85:C85) (p0:L118) (k:AV→Objs→Option R):∀ (n:Nat) (s:S63),aloop tau Ops.std gl0 X63 (ent 54 (e54 c54) (ent 84 (e84 c84) (ent 79 (e79 c79) (ent 72 (e72 c72) (ent 85 (e85 c85) gnil))))) ow [] Tryz.f63 k (I63 s) (E63 p0 s) n=ob (R63 c54 c84 c79 c72 c85 p0 n s) (K2 k)
 | 0,s=>by cases s<;>rfl
 | n+1,s=>by rw [el63];exact nt63 Ops.std c54 c84 c79 c72 c85 p0 _ _ some (K2 k) (rr63 c54 c84 c79 c72 c85 p0 k n) (some s)
def F63 (c54:C54) (c84:C84) (c79:C79) (c72:C72) (c85:C85) (p0:L118):Option (LB):=T63 Ops.std c54 c84 c79 c72 c85 p0 (R63 c54 c84 c79 c72 c85 p0 1000000) some none
def e63 {R:Type} (c:L118→Option (LB)):Ent R:=fun args objs k=>
 oL args 118 ty118 fun p0 l0=>oE l0 objs <| ob (c p0) (K2 k)
abbrev Sp63 (c:L118→Option (LB)):Prop:=∀ (p0:L118) (y:LB),c p0=some y→Spec Tryz.prog gl0 63 [.c (.list 118 ty118 p0)] [] (.c (.str y)) []
theorem ek63 {R:Type} {c:L118→Option (LB)} (hs:Sp63 c):EOk 63 (e63 (R:=R) c):=fun args objs k r h=>by
 unfold e63 at h
 obtain ⟨p0,l0,rfl,q3⟩:=qa1 h
 obtain ⟨rfl,rfl,q5⟩:=qam q3
 exact qan (hs p0) q5
theorem sf63 {c54:C54} {c84:C84} {c79:C79} {c72:C72} {c85:C85} (h54:Sp54 c54) (h84:Sp84 c84) (h79:Sp79 c79) (h72:Sp72 c72) (h85:Sp85 c85):Sp63 (F63 c54 c84 c79 c72 c85):=fun p0 y hy=>by
 refine qai (qad (ek54 h54) (qad (ek84 h84) (qad (ek79 h79) (qad (ek72 h72) (qad (ek85 h85) qah))))) 1000000 (fn:=Tryz.f63) (by kernel_rfl) (by kernel_rfl) (X:=X63) (by kernel_rfl) ?_
 rw [eq63]
 exact (nt63 Ops.std c54 c84 c79 c72 c85 p0 _ _ some (K2 k0) (rr63 c54 c84 c79 c72 c85 p0 k0 1000000) none).trans (by show ob (F63 c54 c84 c79 c72 c85 p0) _=_;rw [hy];rfl)
noncomputable def M63:L118→Option (LB):=F63 M54 M84 M79 M72 M85
theorem sm63:Sp63 M63:=sf63 sm54 sm84 sm79 sm72 sm85
def X64:Aux:=⟨[],[]⟩
def T64 {R:Type} (B:Ops) (p0:LB) (p1:Int) (p2:Int) (k:(LB)→Option R):Option R:=cond (B.lt p1 p2) (cond (B.lim (1+List.length p0) (1)) (cond (B.lim (List.length (([40]:LB)++p0)+1) (1)) (k (([40]:LB)++p0++([41]:LB))) none) none) (k p0)
theorem eq64 {R:Type} (B:Ops) (p0:LB) (p1:Int) (p2:Int) (k:AV→Objs→Option R) (n:Nat):afun tau B gl0 X64 gnil ow Tryz.f64 [.agg [.str p0,.int .i64 p1],.c (.int .i64 p2)] [] k n=T64 B p0 p1 p2 (K2 k):=by kernel_rfl
theorem nt64 {R R':Type} (B:Ops) (p0:LB) (p1:Int) (p2:Int) (k0:(LB)→Option R') (k:R'→Option R):T64 B p0 p1 p2 (fun y=>ob (k0 y) k)=ob (T64 B p0 p1 p2 k0) k:=by
 unfold T64
 repeat' first | exact rfl | apply qae | (apply qao;intro)
def F64 (p0:LB) (p1:Int) (p2:Int):Option (LB):=T64 Ops.std p0 p1 p2 some
def e64 {R:Type} (c:LB→Int→Int→Option (LB)):Ent R:=fun args objs k=>
 oCons args fun a0 l0=>oAgg a0 fun x0=>cCons x0 fun z0_0 w0_0=>cStr z0_0 fun p0=>cCons w0_0 fun z0_1 w0_1=>cInt .i64 z0_1 fun p1=>cNil w0_1 <| oI l0 .i64 fun p2 l1=>oE l1 objs <| ob (c p0 p1 p2) (K2 k)
abbrev Sp64 (c:LB→Int→Int→Option (LB)):Prop:=∀ (p0:LB) (p1:Int) (p2:Int) (y:LB),c p0 p1 p2=some y→Spec Tryz.prog gl0 64 [.agg [.str p0,.int .i64 p1],.c (.int .i64 p2)] [] (.c (.str y)) []
theorem ek64 {R:Type} {c:LB→Int→Int→Option (LB)} (hs:Sp64 c):EOk 64 (e64 (R:=R) c):=fun args objs k r h=>by
 unfold e64 at h
 obtain ⟨a0,l0,rfl,q1⟩:=qak h
 obtain ⟨x0,rfl,q2⟩:=qav q1
 obtain ⟨z0_0,w0_0,rfl,q3⟩:=qaa q2
 obtain ⟨p0,rfl,q4⟩:=qbb q3
 obtain ⟨z0_1,w0_1,rfl,q5⟩:=qaa q4
 obtain ⟨p1,rfl,q6⟩:=qar q5
 obtain ⟨rfl,q7⟩:=qaq q6
 obtain ⟨p2,l1,rfl,q10⟩:=qas q7
 obtain ⟨rfl,rfl,q12⟩:=qam q10
 exact qan (hs p0 p1 p2) q12
theorem sf64:Sp64 (F64):=fun p0 p1 p2 y hy=>by
 refine qai qah 1000000 (fn:=Tryz.f64) (by kernel_rfl) (by kernel_rfl) (X:=X64) (by kernel_rfl) ?_
 rw [eq64]
 exact (nt64 Ops.std p0 p1 p2 some (K2 k0)).trans (by show ob (F64 p0 p1 p2) _=_;rw [hy];rfl)
noncomputable def M64:LB→Int→Int→Option (LB):=F64
theorem sm64:Sp64 M64:=sf64
def X33:Aux:=⟨[(5,([1,2]++rg 5 130))],[(27,.lin (rg 0 12)),(28,.lin (rg 0 10)),(18,.lin ([0,1,2,3,4,5,7,8,10,11,12,13,14,15,6,9,16,17,18,19])),(19,.lin (rg 0 10))]⟩
inductive S33 where
 | l0 (v1:Int) (v2:L129)
abbrev C25:Type:=L73→Option (Bool)
abbrev C61:Type:=Int→Option (Int)
abbrev C62:Type:=Int→Option (LB)
abbrev C63:Type:=L118→Option (LB)
abbrev C64:Type:=LB→Int→Int→Option (LB)
def T33 {R:Type} (B:Ops) (c25:C25) (c61:C61) (c62:C62) (c55:C55) (c63:C63) (c64:C64) (p0:L73) (again:S33→Option R) (k:(LB)→Option R):Option S33→Option R | none=>ob (c25 p0) fun y0=>cond (!y0) (k (mt UInt8)) (again (.l0 0 (mt (Ty.den ty129)))) | some (.l0 v1 v2)=>cond (B.lt v1 (↑p0.length)) (cond (B.inb v1 p0.length) (ob (c61 ((p0.getD v1.toNat ty73.dflt).1)) fun y0=>cond (B.inb v1 p0.length) (ob (c62 ((p0.getD v1.toNat ty73.dflt).1)) fun y1=>cond (B.inb v1 p0.length) (ob (c55 ((p0.getD v1.toNat ty73.dflt).1)) fun y2=>cond (B.eq y2 (0)) (cond (B.inb v1 p0.length) (cond (B.eq ((p0.getD v1.toNat ty73.dflt).1) (3)) (cond (B.inb v1 p0.length) (ob (c63 ((p0.getD v1.toNat ty73.dflt).2)) fun y3=>cond (B.lim (1+List.length y3) (1)) (cond (B.lim (List.length (([91]:LB)++y3)+1) (1)) (cond (B.lim (List.length v2+List.length ((([91]:LB)++y3++([93]:LB),y0)::mt (Ty.den ty129))) (24)) (again (.l0 (IntKind.wrap .i64 (v1+1)) (v2++(([91]:LB)++y3++([93]:LB),y0)::mt (Ty.den ty129)))) none) none) none) none) (cond (B.lim (List.length v2+List.length ((y1,y0)::mt (Ty.den ty129))) (24)) (again (.l0 (IntKind.wrap .i64 (v1+1)) (v2++(y1,y0)::mt (Ty.den ty129)))) none)) none) (cond (B.eq y2 (1)) (cond (B.lt (↑v2.length) (1)) (k (mt UInt8)) (cond (B.inb (IntKind.wrap .i64 (Nat.cast v2.length-1)) v2.length) (ob (c64 ((v2.getD (Int.toNat (IntKind.wrap .i64 (Nat.cast v2.length-1))) ty129.dflt).1) ((v2.getD (Int.toNat (IntKind.wrap .i64 (Nat.cast v2.length-1))) ty129.dflt).2) y0) fun y3=>cond (B.lim (List.length y1+List.length y3) (1)) (cond (B.eq (IntKind.wrap .i64 (Nat.cast v2.length-1)) (IntKind.wrap .i64 (Nat.cast v2.length-1))) (cond (B.inb (IntKind.wrap .i64 (Nat.cast v2.length-1)) (List.length v2+1)) (cond (B.lt (0) (Nat.cast (List.length ((y1++y3,y0)::mt (Ty.den ty129))))) (cond (B.lim (List.length (List.take (Int.toNat (IntKind.wrap .i64 (Nat.cast v2.length-1))) v2)+List.length ((y1++y3,y0)::mt (Ty.den ty129))) (24)) (again (.l0 (IntKind.wrap .i64 (v1+1)) (List.take (Int.toNat (IntKind.wrap .i64 (Nat.cast v2.length-1))) v2++(y1++y3,y0)::mt (Ty.den ty129)))) none) none) none) none) none) none)) (cond (B.lt (↑v2.length) (2)) (k (mt UInt8)) (cond (B.eq y0 (1)) (cond (B.inb (IntKind.wrap .i64 (Nat.cast v2.length-2)) v2.length) (cond (B.inb (IntKind.wrap .i64 (Nat.cast v2.length-1)) v2.length) (ob (c64 ((v2.getD (Int.toNat (IntKind.wrap .i64 (Nat.cast v2.length-2))) ty129.dflt).1) ((v2.getD (Int.toNat (IntKind.wrap .i64 (Nat.cast v2.length-2))) ty129.dflt).2) (IntKind.wrap .i64 (y0+1))) fun y3=>cond (B.lim (List.length y3+List.length y1) (1)) (ob (c64 ((v2.getD (Int.toNat (IntKind.wrap .i64 (Nat.cast v2.length-1))) ty129.dflt).1) ((v2.getD (Int.toNat (IntKind.wrap .i64 (Nat.cast v2.length-1))) ty129.dflt).2) y0) fun y4=>cond (B.lim (List.length (y3++y1)+List.length y4) (1)) (cond (B.eq (IntKind.wrap .i64 (Nat.cast v2.length-2)) (IntKind.wrap .i64 (Nat.cast v2.length-2))) (cond (B.inb (IntKind.wrap .i64 (Nat.cast v2.length-2)) (List.length v2+1)) (cond (B.lt (0) (Nat.cast (List.length ((y3++y1++y4,y0)::mt (Ty.den ty129))))) (cond (B.lim (List.length (List.take (Int.toNat (IntKind.wrap .i64 (Nat.cast v2.length-2))) v2)+List.length ((y3++y1++y4,y0)::mt (Ty.den ty129))) (24)) (again (.l0 (IntKind.wrap .i64 (v1+1)) (List.take (Int.toNat (IntKind.wrap .i64 (Nat.cast v2.length-2))) v2++(y3++y1++y4,y0)::mt (Ty.den ty129)))) none) none) none) none) none) none) none) none) (cond (B.eq y0 (4)) (cond (B.inb (IntKind.wrap .i64 (Nat.cast v2.length-2)) v2.length) (cond (B.inb (IntKind.wrap .i64 (Nat.cast v2.length-1)) v2.length) (ob (c64 ((v2.getD (Int.toNat (IntKind.wrap .i64 (Nat.cast v2.length-2))) ty129.dflt).1) ((v2.getD (Int.toNat (IntKind.wrap .i64 (Nat.cast v2.length-2))) ty129.dflt).2) (IntKind.wrap .i64 (y0+1))) fun y3=>cond (B.lim (List.length y3+List.length y1) (1)) (ob (c64 ((v2.getD (Int.toNat (IntKind.wrap .i64 (Nat.cast v2.length-1))) ty129.dflt).1) ((v2.getD (Int.toNat (IntKind.wrap .i64 (Nat.cast v2.length-1))) ty129.dflt).2) y0) fun y4=>cond (B.lim (List.length (y3++y1)+List.length y4) (1)) (cond (B.eq (IntKind.wrap .i64 (Nat.cast v2.length-2)) (IntKind.wrap .i64 (Nat.cast v2.length-2))) (cond (B.inb (IntKind.wrap .i64 (Nat.cast v2.length-2)) (List.length v2+1)) (cond (B.lt (0) (Nat.cast (List.length ((y3++y1++y4,y0)::mt (Ty.den ty129))))) (cond (B.lim (List.length (List.take (Int.toNat (IntKind.wrap .i64 (Nat.cast v2.length-2))) v2)+List.length ((y3++y1++y4,y0)::mt (Ty.den ty129))) (24)) (again (.l0 (IntKind.wrap .i64 (v1+1)) (List.take (Int.toNat (IntKind.wrap .i64 (Nat.cast v2.length-2))) v2++(y3++y1++y4,y0)::mt (Ty.den ty129)))) none) none) none) none) none) none) none) none) (cond (B.inb (IntKind.wrap .i64 (Nat.cast v2.length-2)) v2.length) (cond (B.inb (IntKind.wrap .i64 (Nat.cast v2.length-1)) v2.length) (ob (c64 ((v2.getD (Int.toNat (IntKind.wrap .i64 (Nat.cast v2.length-2))) ty129.dflt).1) ((v2.getD (Int.toNat (IntKind.wrap .i64 (Nat.cast v2.length-2))) ty129.dflt).2) y0) fun y3=>cond (B.lim (List.length y3+List.length y1) (1)) (ob (c64 ((v2.getD (Int.toNat (IntKind.wrap .i64 (Nat.cast v2.length-1))) ty129.dflt).1) ((v2.getD (Int.toNat (IntKind.wrap .i64 (Nat.cast v2.length-1))) ty129.dflt).2) (IntKind.wrap .i64 (y0+1))) fun y4=>cond (B.lim (List.length (y3++y1)+List.length y4) (1)) (cond (B.eq (IntKind.wrap .i64 (Nat.cast v2.length-2)) (IntKind.wrap .i64 (Nat.cast v2.length-2))) (cond (B.inb (IntKind.wrap .i64 (Nat.cast v2.length-2)) (List.length v2+1)) (cond (B.lt (0) (Nat.cast (List.length ((y3++y1++y4,y0)::mt (Ty.den ty129))))) (cond (B.lim (List.length (List.take (Int.toNat (IntKind.wrap .i64 (Nat.cast v2.length-2))) v2)+List.length ((y3++y1++y4,y0)::mt (Ty.den ty129))) (24)) (again (.l0 (IntKind.wrap .i64 (v1+1)) (List.take (Int.toNat (IntKind.wrap .i64 (Nat.cast v2.length-2))) v2++(y3++y1++y4,y0)::mt (Ty.den ty129)))) none) none) none) none) none) none) none) none)))))) none) none) none) (cond (B.eq (↑v2.length) (0)) (k (mt UInt8)) (cond (B.inb (0) v2.length) (k ((v2.getD (Int.toNat (0)) ty129.dflt).1)) none))
def E33 (p0:L73):S33→List AV×Objs
 | .l0 v1 v2=>(mk 135 [(0,.c (.list 73 ty73 p0)),(3,.c (.own 3)),(4,.c (.int .i64 v1))],[(3,.row 129 ty129 v2)])
def I33:S33→Nat
 | .l0 _ _=>0
theorem eq33 {R:Type} (B:Ops) (c25:C25) (c61:C61) (c62:C62) (c55:C55) (c63:C63) (c64:C64) (p0:L73) (k:AV→Objs→Option R) (n:Nat):afun tau B gl0 X33 (ent 25 (e25 c25) (ent 61 (e61 c61) (ent 62 (e62 c62) (ent 55 (e55 c55) (ent 63 (e63 c63) (ent 64 (e64 c64) gnil)))))) ow Tryz.f33 [.c (.list 73 ty73 p0)] [] k n=T33 B c25 c61 c62 c55 c63 c64 p0 (fun s=>aloop tau B gl0 X33 (ent 25 (e25 c25) (ent 61 (e61 c61) (ent 62 (e62 c62) (ent 55 (e55 c55) (ent 63 (e63 c63) (ent 64 (e64 c64) gnil)))))) ow [] Tryz.f33 k (I33 s) (E33 p0 s) n) (K2 k) none:=by kernel_rfl
theorem el33 {R:Type} (B:Ops) (c25:C25) (c61:C61) (c62:C62) (c55:C55) (c63:C63) (c64:C64) (p0:L73) (k:AV→Objs→Option R) (n:Nat):∀ s,aloop tau B gl0 X33 (ent 25 (e25 c25) (ent 61 (e61 c61) (ent 62 (e62 c62) (ent 55 (e55 c55) (ent 63 (e63 c63) (ent 64 (e64 c64) gnil)))))) ow [] Tryz.f33 k (I33 s) (E33 p0 s) (n+1)=T33 B c25 c61 c62 c55 c63 c64 p0 (fun s=>aloop tau B gl0 X33 (ent 25 (e25 c25) (ent 61 (e61 c61) (ent 62 (e62 c62) (ent 55 (e55 c55) (ent 63 (e63 c63) (ent 64 (e64 c64) gnil)))))) ow [] Tryz.f33 k (I33 s) (E33 p0 s) n) (K2 k) (some s):=by
 intro s
 cases s<;>kernel_rfl
theorem nt33 {R R':Type} (B:Ops) (c25:C25) (c61:C61) (c62:C62) (c55:C55) (c63:C63) (c64:C64) (p0:L73) (again:S33→Option R) (again':S33→Option R') (k0:(LB)→Option R') (k:R'→Option R) (h:∀ s,again s=ob (again' s) k):∀ s,T33 B c25 c61 c62 c55 c63 c64 p0 again (fun y=>ob (k0 y) k) s=ob (T33 B c25 c61 c62 c55 c63 c64 p0 again' k0 s) k:=by
 rintro (_ | x)
 all_goals try cases x
 all_goals (unfold T33;repeat' first | exact rfl | exact h _ | apply qae | (apply qao;intro))
def R33 (c25:C25) (c61:C61) (c62:C62) (c55:C55) (c63:C63) (c64:C64) (p0:L73):Nat→S33→Option (LB)
 | 0,_=>none
 | n+1,s=>T33 Ops.std c25 c61 c62 c55 c63 c64 p0 (R33 c25 c61 c62 c55 c63 c64 p0 n) some (some s)
theorem rr33 {R:Type} (c25:C25) (c61:C61) (c62:C62) (c55:C55) (c63:C63) (c64:C64) (p0:L73) (k:AV→Objs→Option R):∀ (n:Nat) (s:S33),aloop tau Ops.std gl0 X33 (ent 25 (e25 c25) (ent 61 (e61 c61) (ent 62 (e62 c62) (ent 55 (e55 c55) (ent 63 (e63 c63) (ent 64 (e64 c64) gnil)))))) ow [] Tryz.f33 k (I33 s) (E33 p0 s) n=ob (R33 c25 c61 c62 c55 c63 c64 p0 n s) (K2 k)
 | 0,s=>by cases s<;>rfl
 | n+1,s=>by rw [el33];exact nt33 Ops.std c25 c61 c62 c55 c63 c64 p0 _ _ some (K2 k) (rr33 c25 c61 c62 c55 c63 c64 p0 k n) (some s)
def F33 (c25:C25) (c61:C61) (c62:C62) (c55:C55) (c63:C63) (c64:C64) (p0:L73):Option (LB):=T33 Ops.std c25 c61 c62 c55 c63 c64 p0 (R33 c25 c61 c62 c55 c63 c64 p0 1000000) some none
def e33 {R:Type} (c:L73→Option (LB)):Ent R:=fun args objs k=>
 oL args 73 ty73 fun p0 l0=>oE l0 objs <| ob (c p0) (K2 k)
abbrev Sp33 (c:L73→Option (LB)):Prop:=∀ (p0:L73) (y:LB),c p0=some y→Spec Tryz.prog gl0 33 [.c (.list 73 ty73 p0)] [] (.c (.str y)) []
theorem ek33 {R:Type} {c:L73→Option (LB)} (hs:Sp33 c):EOk 33 (e33 (R:=R) c):=fun args objs k r h=>by
 unfold e33 at h
 obtain ⟨p0,l0,rfl,q3⟩:=qa1 h
 obtain ⟨rfl,rfl,q5⟩:=qam q3
 exact qan (hs p0) q5
theorem sf33 {c25:C25} {c61:C61} {c62:C62} {c55:C55} {c63:C63} {c64:C64} (h25:Sp25 c25) (h61:Sp61 c61) (h62:Sp62 c62) (h55:Sp55 c55) (h63:Sp63 c63) (h64:Sp64 c64):Sp33 (F33 c25 c61 c62 c55 c63 c64):=fun p0 y hy=>by
 refine qai (qad (ek25 h25) (qad (ek61 h61) (qad (ek62 h62) (qad (ek55 h55) (qad (ek63 h63) (qad (ek64 h64) qah)))))) 1000000 (fn:=Tryz.f33) (by kernel_rfl) (by kernel_rfl) (X:=X33) (by kernel_rfl) ?_
 rw [eq33]
 exact (nt33 Ops.std c25 c61 c62 c55 c63 c64 p0 _ _ some (K2 k0) (rr33 c25 c61 c62 c55 c63 c64 p0 k0 1000000) none).trans (by show ob (F33 c25 c61 c62 c55 c63 c64 p0) _=_;rw [hy];rfl)
noncomputable def M33:L73→Option (LB):=F33 M25 M61 M62 M55 M63 M64
theorem sm33:Sp33 M33:=sf33 sm25 sm61 sm62 sm55 sm63 sm64
def X14:Aux:=⟨[],[]⟩
abbrev C6:Type:=LB→Option (L73)
abbrev C12:Type:=L73→Option (L73)
abbrev C33:Type:=L73→Option (LB)
def T14 {R:Type} (B:Ops) (c6:C6) (c12:C12) (c33:C33) (p0:LB) (p1:LB) (k:(Bool)→Option R):Option R:=ob (c6 p0) fun y0=>ob (c12 y0) fun y1=>ob (c33 y1) fun y2=>k (y2 == p1)
theorem eq14 {R:Type} (B:Ops) (c6:C6) (c12:C12) (c33:C33) (p0:LB) (p1:LB) (k:AV→Objs→Option R) (n:Nat):afun tau B gl0 X14 (ent 6 (e6 c6) (ent 12 (e12 c12) (ent 33 (e33 c33) gnil))) ow Tryz.f14 [.c (.str p0),.c (.str p1)] [] k n=T14 B c6 c12 c33 p0 p1 (K1 k):=by kernel_rfl
theorem nt14 {R R':Type} (B:Ops) (c6:C6) (c12:C12) (c33:C33) (p0:LB) (p1:LB) (k0:(Bool)→Option R') (k:R'→Option R):T14 B c6 c12 c33 p0 p1 (fun y=>ob (k0 y) k)=ob (T14 B c6 c12 c33 p0 p1 k0) k:=by
 unfold T14
 repeat' first | exact rfl | apply qae | (apply qao;intro)
def F14 (c6:C6) (c12:C12) (c33:C33) (p0:LB) (p1:LB):Option (Bool):=T14 Ops.std c6 c12 c33 p0 p1 some
def e14 {R:Type} (c:LB→LB→Option (Bool)):Ent R:=fun args objs k=>
 oS args fun p0 l0=>oS l0 fun p1 l1=>oE l1 objs <| ob (c p0 p1) (K1 k)
abbrev Sp14 (c:LB→LB→Option (Bool)):Prop:=∀ (p0:LB) (p1:LB) (y:Bool),c p0 p1=some y→Spec Tryz.prog gl0 14 [.c (.str p0),.c (.str p1)] [] (.c (.bool y)) []
theorem ek14 {R:Type} {c:LB→LB→Option (Bool)} (hs:Sp14 c):EOk 14 (e14 (R:=R) c):=fun args objs k r h=>by
 unfold e14 at h
 obtain ⟨p0,l0,rfl,q3⟩:=qa9 h
 obtain ⟨p1,l1,rfl,q6⟩:=qa9 q3
 obtain ⟨rfl,rfl,q8⟩:=qam q6
 exact qan (hs p0 p1) q8
theorem sf14 {c6:C6} {c12:C12} {c33:C33} (h6:Sp6 c6) (h12:Sp12 c12) (h33:Sp33 c33):Sp14 (F14 c6 c12 c33):=fun p0 p1 y hy=>by
 refine qai (qad (ek6 h6) (qad (ek12 h12) (qad (ek33 h33) qah))) 1000000 (fn:=Tryz.f14) (by kernel_rfl) (by kernel_rfl) (X:=X14) (by kernel_rfl) ?_
 rw [eq14]
 exact (nt14 Ops.std c6 c12 c33 p0 p1 some (K1 k0)).trans (by show ob (F14 c6 c12 c33 p0 p1) _=_;rw [hy];rfl)
noncomputable def M14:LB→LB→Option (Bool):=F14 M6 M12 M33
theorem sm14:Sp14 M14:=sf14 sm6 sm12 sm33
def X15:Aux:=⟨[(3,([1,2,4,5,6,7]++rg 11 32))],[]⟩
inductive S15 where
 | l0 (v2:Int) (v3:Int) (v4:L22)
def T15 {R:Type} (B:Ops) (c34:C34) (p0:L73) (again:S15→Option R) (k:(Bool)→Option R):Option S15→Option R | none=>ob (c34 p0) fun y0=>again (.l0 (↑p0.length) 0 y0) | some (.l0 v2 v3 v4)=>cond (B.lt v3 v2) (cond (B.inb v3 p0.length) (cond (B.eq ((p0.getD v3.toNat ty73.dflt).1) (7)) (k false) (cond (B.eq ((p0.getD v3.toNat ty73.dflt).1) (11)) (k false) (cond (B.eq ((p0.getD v3.toNat ty73.dflt).1) (12)) (k false) (cond (B.eq ((p0.getD v3.toNat ty73.dflt).1) (4)) (cond (B.eq (↑v4.length) (0)) (k false) (cond (B.inb v3 v4.length) (cond (B.inb (0) (List.length (v4.getD v3.toNat ty22.dflt))) (cond (B.inb (List.getD (v4.getD v3.toNat ty22.dflt) (Int.toNat (0)) (Ty.dflt (Ty.int .i64))) p0.length) (cond (!B.eq ((p0.getD (Int.toNat (List.getD (v4.getD v3.toNat ty22.dflt) (Int.toNat (0)) (Ty.dflt (Ty.int .i64)))) ty73.dflt).1) (3)) (k false) (again (.l0 v2 (IntKind.wrap .i64 (v3+1)) v4))) none) none) none)) (again (.l0 v2 (IntKind.wrap .i64 (v3+1)) v4)))))) none) (k (B.lt (0) (↑v4.length)))
def E15 (p0:L73):S15→List AV×Objs
 | .l0 v2 v3 v4=>(mk 43 [(0,.c (.list 73 ty73 p0)),(3,.c (.own 3)),(8,.c (.list 73 ty73 p0)),(9,.c (.int .i64 v2)),(10,.c (.int .i64 v3))],[(3,.row 22 ty22 v4)])
def I15:S15→Nat
 | .l0 _ _ _=>0
theorem eq15 {R:Type} (B:Ops) (c34:C34) (p0:L73) (k:AV→Objs→Option R) (n:Nat):afun tau B gl0 X15 (ent 34 (e34 c34) gnil) ow Tryz.f15 [.c (.list 73 ty73 p0)] [] k n=T15 B c34 p0 (fun s=>aloop tau B gl0 X15 (ent 34 (e34 c34) gnil) ow [] Tryz.f15 k (I15 s) (E15 p0 s) n) (K1 k) none:=by kernel_rfl
theorem el15 {R:Type} (B:Ops) (c34:C34) (p0:L73) (k:AV→Objs→Option R) (n:Nat):∀ s,aloop tau B gl0 X15 (ent 34 (e34 c34) gnil) ow [] Tryz.f15 k (I15 s) (E15 p0 s) (n+1)=T15 B c34 p0 (fun s=>aloop tau B gl0 X15 (ent 34 (e34 c34) gnil) ow [] Tryz.f15 k (I15 s) (E15 p0 s) n) (K1 k) (some s):=by
 intro s
 cases s<;>kernel_rfl
theorem nt15 {R R':Type} (B:Ops) (c34:C34) (p0:L73) (again:S15→Option R) (again':S15→Option R') (k0:(Bool)→Option R') (k:R'→Option R) (h:∀ s,again s=ob (again' s) k):∀ s,T15 B c34 p0 again (fun y=>ob (k0 y) k) s=ob (T15 B c34 p0 again' k0 s) k:=by
 rintro (_ | x)
 all_goals try cases x
 all_goals (unfold T15;repeat' first | exact rfl | exact h _ | apply qae | (apply qao;intro))
def R15 (c34:C34) (p0:L73):Nat→S15→Option (Bool)
 | 0,_=>none
 | n+1,s=>T15 Ops.std c34 p0 (R15 c34 p0 n) some (some s)
theorem rr15 {R:Type} (c34:C34) (p0:L73) (k:AV→Objs→Option R):∀ (n:Nat) (s:S15),aloop tau Ops.std gl0 X15 (ent 34 (e34 c34) gnil) ow [] Tryz.f15 k (I15 s) (E15 p0 s) n=ob (R15 c34 p0 n s) (K1 k)
 | 0,s=>by cases s<;>rfl
 | n+1,s=>by rw [el15];exact nt15 Ops.std c34 p0 _ _ some (K1 k) (rr15 c34 p0 k n) (some s)
def F15 (c34:C34) (p0:L73):Option (Bool):=T15 Ops.std c34 p0 (R15 c34 p0 1000000) some none
def e15 {R:Type} (c:L73→Option (Bool)):Ent R:=fun args objs k=>
 oL args 73 ty73 fun p0 l0=>oE l0 objs <| ob (c p0) (K1 k)
abbrev Sp15 (c:L73→Option (Bool)):Prop:=∀ (p0:L73) (y:Bool),c p0=some y→Spec Tryz.prog gl0 15 [.c (.list 73 ty73 p0)] [] (.c (.bool y)) []
theorem ek15 {R:Type} {c:L73→Option (Bool)} (hs:Sp15 c):EOk 15 (e15 (R:=R) c):=fun args objs k r h=>by
 unfold e15 at h
 obtain ⟨p0,l0,rfl,q3⟩:=qa1 h
 obtain ⟨rfl,rfl,q5⟩:=qam q3
 exact qan (hs p0) q5
theorem sf15 {c34:C34} (h34:Sp34 c34):Sp15 (F15 c34):=fun p0 y hy=>by
 refine qai (qad (ek34 h34) qah) 1000000 (fn:=Tryz.f15) (by kernel_rfl) (by kernel_rfl) (X:=X15) (by kernel_rfl) ?_
 rw [eq15]
 exact (nt15 Ops.std c34 p0 _ _ some (K1 k0) (rr15 c34 p0 k0 1000000) none).trans (by show ob (F15 c34 p0) _=_;rw [hy];rfl)
noncomputable def M15:L73→Option (Bool):=F15 M34
theorem sm15:Sp15 M15:=sf15 sm34
def X4:Aux:=⟨[],[]⟩
abbrev C14:Type:=LB→LB→Option (Bool)
abbrev C15:Type:=L73→Option (Bool)
def T4 {R:Type} (B:Ops) (c14:C14) (c6:C6) (c15:C15) (k:(Bool)→Option R):Option R:=ob (c14 ([33,71,32,91,120,61,61,49,93]:LB) ([116,114,117,101,32,85,32,33,91,120,61,61,49,93]:LB)) fun y0=>cond (y0) (ob (c6 ([116,114,117,101,32,85,32,33,91,120,61,61,49,93]:LB)) fun y1=>ob (c15 y1) fun y2=>k y2) (k false)
theorem eq4 {R:Type} (B:Ops) (c14:C14) (c6:C6) (c15:C15) (k:AV→Objs→Option R) (n:Nat):afun tau B gl0 X4 (ent 14 (e14 c14) (ent 6 (e6 c6) (ent 15 (e15 c15) gnil))) ow Tryz.f4 [] [] k n=T4 B c14 c6 c15 (K1 k):=by kernel_rfl
theorem nt4 {R R':Type} (B:Ops) (c14:C14) (c6:C6) (c15:C15) (k0:(Bool)→Option R') (k:R'→Option R):T4 B c14 c6 c15 (fun y=>ob (k0 y) k)=ob (T4 B c14 c6 c15 k0) k:=by
 unfold T4
 repeat' first | exact rfl | apply qae | (apply qao;intro)
def F4 (c14:C14) (c6:C6) (c15:C15):Option (Bool):=T4 Ops.std c14 c6 c15 some
def e4 {R:Type} (c:Option (Bool)):Ent R:=fun args objs k=>
 oNil args <| oNilO objs <| ob (c ) (K1 k)
abbrev Sp4 (c:Option (Bool)):Prop:=∀ (y:Bool),c=some y→Spec Tryz.prog gl0 4 [] [] (.c (.bool y)) []
theorem ek4 {R:Type} {c:Option (Bool)} (hs:Sp4 c):EOk 4 (e4 (R:=R) c):=fun args objs k r h=>by
 unfold e4 at h
 obtain ⟨rfl,rfl,q2⟩:=qam h
 exact qan (hs ) q2
theorem sf4 {c14:C14} {c6:C6} {c15:C15} (h14:Sp14 c14) (h6:Sp6 c6) (h15:Sp15 c15):Sp4 (F4 c14 c6 c15):=fun y hy=>by
 refine qai (qad (ek14 h14) (qad (ek6 h6) (qad (ek15 h15) qah))) 1000000 (fn:=Tryz.f4) (by kernel_rfl) (by kernel_rfl) (X:=X4) (by kernel_rfl) ?_
 rw [eq4]
 exact (nt4 Ops.std c14 c6 c15 some (K1 k0)).trans (by show ob (F4 c14 c6 c15) _=_;rw [hy];rfl)
noncomputable def M4:Option (Bool):=F4 M14 M6 M15
theorem sm4:Sp4 M4:=sf4 sm14 sm6 sm15
def X40:Aux:=⟨[],[]⟩
def T40 {R:Type} (B:Ops) (p0:Int) (p1:Int) (k:(Int)→Option R):Option R:=cond (B.eq p1 (0)) none (cond (B.lt (Int.tmod p0 p1) (0)) (k (IntKind.wrap .i64 (Int.tmod p0 p1+p1))) (k (Int.tmod p0 p1)))
theorem eq40 {R:Type} (B:Ops) (p0:Int) (p1:Int) (k:AV→Objs→Option R) (n:Nat):afun tau B gl0 X40 gnil ow Tryz.f40 [.c (.int .i64 p0),.c (.int .i64 p1)] [] k n=T40 B p0 p1 (K8 k):=by kernel_rfl
theorem nt40 {R R':Type} (B:Ops) (p0:Int) (p1:Int) (k0:(Int)→Option R') (k:R'→Option R):T40 B p0 p1 (fun y=>ob (k0 y) k)=ob (T40 B p0 p1 k0) k:=by
 unfold T40
 repeat' first | exact rfl | apply qae | (apply qao;intro)
def F40 (p0:Int) (p1:Int):Option (Int):=T40 Ops.std p0 p1 some
def e40 {R:Type} (c:Int→Int→Option (Int)):Ent R:=fun args objs k=>
 oI args .i64 fun p0 l0=>oI l0 .i64 fun p1 l1=>oE l1 objs <| ob (c p0 p1) (K8 k)
abbrev Sp40 (c:Int→Int→Option (Int)):Prop:=∀ (p0:Int) (p1:Int) (y:Int),c p0 p1=some y→Spec Tryz.prog gl0 40 [.c (.int .i64 p0),.c (.int .i64 p1)] [] (.c (.int .i64 y)) []
theorem ek40 {R:Type} {c:Int→Int→Option (Int)} (hs:Sp40 c):EOk 40 (e40 (R:=R) c):=fun args objs k r h=>by
 unfold e40 at h
 obtain ⟨p0,l0,rfl,q3⟩:=qas h
 obtain ⟨p1,l1,rfl,q6⟩:=qas q3
 obtain ⟨rfl,rfl,q8⟩:=qam q6
 exact qan (hs p0 p1) q8
theorem sf40:Sp40 (F40):=fun p0 p1 y hy=>by
 refine qai qah 1000000 (fn:=Tryz.f40) (by kernel_rfl) (by kernel_rfl) (X:=X40) (by kernel_rfl) ?_
 rw [eq40]
 exact (nt40 Ops.std p0 p1 some (K8 k0)).trans (by show ob (F40 p0 p1) _=_;rw [hy];rfl)
noncomputable def M40:Int→Int→Option (Int):=F40
theorem sm40:Sp40 M40:=sf40
def X41:Aux:=⟨[],[]⟩
def T41 {R:Type} (B:Ops) (c72:C72) (p0:Int) (k:(LB)→Option R):Option R:=ob (c72 p0) fun y0=>k y0
theorem eq41 {R:Type} (B:Ops) (c72:C72) (p0:Int) (k:AV→Objs→Option R) (n:Nat):afun tau B gl0 X41 (ent 72 (e72 c72) gnil) ow Tryz.f41 [.c (.int .i64 p0)] [] k n=T41 B c72 p0 (K2 k):=by kernel_rfl
theorem nt41 {R R':Type} (B:Ops) (c72:C72) (p0:Int) (k0:(LB)→Option R') (k:R'→Option R):T41 B c72 p0 (fun y=>ob (k0 y) k)=ob (T41 B c72 p0 k0) k:=by
 unfold T41
 repeat' first | exact rfl | apply qae | (apply qao;intro)
def F41 (c72:C72) (p0:Int):Option (LB):=T41 Ops.std c72 p0 some
def e41 {R:Type} (c:Int→Option (LB)):Ent R:=fun args objs k=>
 oI args .i64 fun p0 l0=>oE l0 objs <| ob (c p0) (K2 k)
abbrev Sp41 (c:Int→Option (LB)):Prop:=∀ (p0:Int) (y:LB),c p0=some y→Spec Tryz.prog gl0 41 [.c (.int .i64 p0)] [] (.c (.str y)) []
theorem ek41 {R:Type} {c:Int→Option (LB)} (hs:Sp41 c):EOk 41 (e41 (R:=R) c):=fun args objs k r h=>by
 unfold e41 at h
 obtain ⟨p0,l0,rfl,q3⟩:=qas h
 obtain ⟨rfl,rfl,q5⟩:=qam q3
 exact qan (hs p0) q5
theorem sf41 {c72:C72} (h72:Sp72 c72):Sp41 (F41 c72):=fun p0 y hy=>by
 refine qai (qad (ek72 h72) qah) 1000000 (fn:=Tryz.f41) (by kernel_rfl) (by kernel_rfl) (X:=X41) (by kernel_rfl) ?_
 rw [eq41]
 exact (nt41 Ops.std c72 p0 some (K2 k0)).trans (by show ob (F41 c72 p0) _=_;rw [hy];rfl)
noncomputable def M41:Int→Option (LB):=F41 M72
theorem sm41:Sp41 M41:=sf41 sm72
end Go.Proofs.YtfdlgmbbflmbgaaGreatDoor.Av
