/- Twins of functions,printed by gen.py. Conditions: none. -/
import Derived.Test.YtimcngbieedlcaaSk2
import Derived.KernelRfl
set_option linter.unusedSimpArgs false
set_option linter.unusedVariables false
set_option maxRecDepth 100000
set_option maxHeartbeats 8000000
namespace Go.Proofs.Ytimcngbieedlcaa.Av
open Go
def X31:Aux:=⟨[],[]⟩
def T31 {R:Type} (B:Ops) (c53:C53) (c113:C113) (p0:L62) (p1:L66) (p2:L43) (p3:Int) (p4 p5 p6 p7:LB) (p8:L95) (p9:L73) (k:(Int)→Option R):Option R:=ob (c113 p1 p3 p4 p5 p6 p7 p8 p9) fun y0=>k y0.1
theorem eq31 {R:Type} (B:Ops) (c53:C53) (c113:C113) (p0:L62) (p1:L66) (p2:L43) (p3:Int) (p4 p5 p6 p7:LB) (p8:L95) (p9:L73) (k:AV→Objs→Option R) (n:Nat):afun tau B gl0 X31 (ent 53 (e53 c53) (ent 52 (e113 c113) gnil)) ow Try.f31 [.agg [.list 62 ty62 p0,.list 66 ty66 p1,.list 43 ty43 p2],.agg [.int .i64 p3,.str p4,.str p5,.str p6,.str p7,.list 95 ty95 p8,.list 73 ty73 p9]] [] k n=T31 B c53 c113 p0 p1 p2 p3 p4 p5 p6 p7 p8 p9 (K9 k):=by kernel_rfl
theorem nt31 {R R':Type} (B:Ops) (c53:C53) (c113:C113) (p0:L62) (p1:L66) (p2:L43) (p3:Int) (p4 p5 p6 p7:LB) (p8:L95) (p9:L73) (k0:(Int)→Option R') (k:R'→Option R):T31 B c53 c113 p0 p1 p2 p3 p4 p5 p6 p7 p8 p9 (fun y=>ob (k0 y) k)=ob (T31 B c53 c113 p0 p1 p2 p3 p4 p5 p6 p7 p8 p9 k0) k:=by
 unfold T31
 repeat' first | exact rfl | apply qab | (apply qae;intro)
def F31 (c53:C53) (c113:C113) (p0:L62) (p1:L66) (p2:L43) (p3:Int) (p4 p5 p6 p7:LB) (p8:L95) (p9:L73):Option (Int):=T31 Ops.std c53 c113 p0 p1 p2 p3 p4 p5 p6 p7 p8 p9 some
abbrev C31:Type:=L62→L66→L43→Int→LB→LB→LB→LB→L95→L73→Option (Int)
def e31 {R:Type} (c:C31):Ent R:=eG [.aG [.cL 62 ty62,.cL 66 ty66,.cL 43 ty43],.aG [.cI .i64,.cS,.cS,.cS,.cS,.cL 95 ty95,.cL 73 ty73]] [] fun v k=>ob (c v.1 v.2.1 v.2.2.1 v.2.2.2.1 v.2.2.2.2.1 v.2.2.2.2.2.1 v.2.2.2.2.2.2.1 v.2.2.2.2.2.2.2.1 v.2.2.2.2.2.2.2.2.1 v.2.2.2.2.2.2.2.2.2.1) (K9 k)
abbrev Sp31 (c:C31):Prop:=∀ (p0:L62) (p1:L66) (p2:L43) (p3:Int) (p4 p5 p6 p7:LB) (p8:L95) (p9:L73) (y:Int),c p0 p1 p2 p3 p4 p5 p6 p7 p8 p9=some y→Spec Try.prog gl0 31 [.agg [.list 62 ty62 p0,.list 66 ty66 p1,.list 43 ty43 p2],.agg [.int .i64 p3,.str p4,.str p5,.str p6,.str p7,.list 95 ty95 p8,.list 73 ty73 p9]] [] (.c (.int .i64 y)) []
theorem ek31 {R:Type} {c:C31} (hs:Sp31 c):EOk 31 (e31 (R:=R) c):=qag fun v=>hs v.1 v.2.1 v.2.2.1 v.2.2.2.1 v.2.2.2.2.1 v.2.2.2.2.2.1 v.2.2.2.2.2.2.1 v.2.2.2.2.2.2.2.1 v.2.2.2.2.2.2.2.2.1 v.2.2.2.2.2.2.2.2.2.1
theorem sf31 {c53:C53} {c113:C113} (h53:Sp53 c53) (h113:Sp113 c113):Sp31 (F31 c53 c113):=fun p0 p1 p2 p3 p4 p5 p6 p7 p8 p9 y hy=>by
 refine qad (qaa (ek53 h53) (qaa (ek113 h113) qac)) 1000000 (fn:=Try.f31) (by kernel_rfl) (by kernel_rfl) (X:=X31) (by kernel_rfl) ?_
 rw [eq31]
 exact (nt31 Ops.std c53 c113 p0 p1 p2 p3 p4 p5 p6 p7 p8 p9 some (K9 k0)).trans (by show ob (F31 c53 c113 p0 p1 p2 p3 p4 p5 p6 p7 p8 p9) _=_;rw [hy];rfl)
noncomputable def M31:C31:=F31 M53 M113
theorem sm31:Sp31 M31:=sf31 sm53 sm113
def X47:Aux:=⟨[],[]⟩
def T47 {R:Type} (B:Ops) (p0:Int) (k:(Int)→Option R):Option R:=k (bif true then bif B.lt (-99999) (bif false then bif B.lt p0 99999 then 99999 else p0 else bif B.lt 99999 p0 then 99999 else p0) then bif false then bif B.lt p0 99999 then 99999 else p0 else bif B.lt 99999 p0 then 99999 else p0 else -99999 else bif B.lt (bif false then bif B.lt p0 99999 then 99999 else p0 else bif B.lt 99999 p0 then 99999 else p0) (-99999) then bif false then bif B.lt p0 99999 then 99999 else p0 else bif B.lt 99999 p0 then 99999 else p0 else -99999)
theorem eq47 {R:Type} (B:Ops) (p0:Int) (k:AV→Objs→Option R) (n:Nat):afun tau B gl0 X47 gnil ow Try.f47 [.c (.int .i64 p0)] [] k n=T47 B p0 (K9 k):=by kernel_rfl
theorem nt47 {R R':Type} (B:Ops) (p0:Int) (k0:(Int)→Option R') (k:R'→Option R):T47 B p0 (fun y=>ob (k0 y) k)=ob (T47 B p0 k0) k:=by
 unfold T47
 repeat' first | exact rfl | apply qab | (apply qae;intro)
def F47 (p0:Int):Option (Int):=T47 Ops.std p0 some
abbrev C47:Type:=Int→Option (Int)
def e47 {R:Type} (c:C47):Ent R:=eG [.aC (.cI .i64)] [] fun v k=>ob (c v.1) (K9 k)
abbrev Sp47 (c:C47):Prop:=∀ (p0 y:Int),c p0=some y→Spec Try.prog gl0 47 [.c (.int .i64 p0)] [] (.c (.int .i64 y)) []
theorem ek47 {R:Type} {c:C47} (hs:Sp47 c):EOk 47 (e47 (R:=R) c):=qag fun v=>hs v.1
theorem sf47:Sp47 (F47):=fun p0 y hy=>by
 refine qad qac 1000000 (fn:=Try.f47) (by kernel_rfl) (by kernel_rfl) (X:=X47) (by kernel_rfl) ?_
 rw [eq47]
 exact (nt47 Ops.std p0 some (K9 k0)).trans (by show ob (F47 p0) _=_;rw [hy];rfl)
noncomputable def M47:C47:=F47
theorem sm47:Sp47 M47:=sf47
def X50:Aux:=⟨[],[]⟩
def T50 {R:Type} (B:Ops) (p0:Bool) (k:(Int)→Option R):Option R:=cond (p0) (k 1) (k 0)
theorem eq50 {R:Type} (B:Ops) (p0:Bool) (k:AV→Objs→Option R) (n:Nat):afun tau B gl0 X50 gnil ow Try.f50 [.c (.bool p0)] [] k n=T50 B p0 (K9 k):=by kernel_rfl
theorem nt50 {R R':Type} (B:Ops) (p0:Bool) (k0:(Int)→Option R') (k:R'→Option R):T50 B p0 (fun y=>ob (k0 y) k)=ob (T50 B p0 k0) k:=by
 unfold T50
 repeat' first | exact rfl | apply qab | (apply qae;intro)
def F50 (p0:Bool):Option (Int):=T50 Ops.std p0 some
abbrev C50:Type:=Bool→Option (Int)
def e50 {R:Type} (c:C50):Ent R:=eG [.aC .cB] [] fun v k=>ob (c v.1) (K9 k)
abbrev Sp50 (c:C50):Prop:=∀ (p0:Bool) (y:Int),c p0=some y→Spec Try.prog gl0 50 [.c (.bool p0)] [] (.c (.int .i64 y)) []
theorem ek50 {R:Type} {c:C50} (hs:Sp50 c):EOk 50 (e50 (R:=R) c):=qag fun v=>hs v.1
theorem sf50:Sp50 (F50):=fun p0 y hy=>by
 refine qad qac 1000000 (fn:=Try.f50) (by kernel_rfl) (by kernel_rfl) (X:=X50) (by kernel_rfl) ?_
 rw [eq50]
 exact (nt50 Ops.std p0 some (K9 k0)).trans (by show ob (F50 p0) _=_;rw [hy];rfl)
noncomputable def M50:C50:=F50
theorem sm50:Sp50 M50:=sf50
def X51:Aux:=⟨[],[]⟩
def T51 {R:Type} (B:Ops) (c47:C47) (c50:C50) (p0 p1 p2:Int) (k:(Int)→Option R):Option R:=cond (B.eq p0 6) (ob (c47 (IntKind.wrap .i64 (p1*p2))) fun y0=>k y0) (cond (B.eq p0 7) (ob (c47 (IntKind.wrap .i64 (p1+p2))) fun y0=>k y0) (cond (B.eq p0 8) (ob (c47 (IntKind.wrap .i64 (p1-p2))) fun y0=>k y0) (cond (B.eq p0 9) (ob (c50 (B.lt p1 p2)) fun y0=>k y0) (cond (B.eq p0 10) (ob (c50 (B.le p1 p2)) fun y0=>k y0) (cond (B.eq p0 11) (ob (c50 (B.lt p2 p1)) fun y0=>k y0) (cond (B.eq p0 12) (ob (c50 (B.le p2 p1)) fun y0=>k y0) (cond (B.eq p0 13) (ob (c50 (B.eq p1 p2)) fun y0=>k y0) (cond (B.eq p0 14) (ob (c50 !B.eq p1 p2) fun y0=>k y0) (cond (B.eq p0 15) (cond (!B.eq p1 0) (ob (c50 !B.eq p2 0) fun y0=>k y0) (ob (c50 false) fun y0=>k y0)) (cond (!B.eq p1 0) (ob (c50 true) fun y0=>k y0) (ob (c50 !B.eq p2 0) fun y0=>k y0)))))))))))
theorem eq51 {R:Type} (B:Ops) (c47:C47) (c50:C50) (p0 p1 p2:Int) (k:AV→Objs→Option R) (n:Nat):afun tau B gl0 X51 (ent 47 (e47 c47) (ent 50 (e50 c50) gnil)) ow Try.f51 [.c (.int .i64 p0),.c (.int .i64 p1),.c (.int .i64 p2)] [] k n=T51 B c47 c50 p0 p1 p2 (K9 k):=by kernel_rfl
theorem nt51 {R R':Type} (B:Ops) (c47:C47) (c50:C50) (p0 p1 p2:Int) (k0:(Int)→Option R') (k:R'→Option R):T51 B c47 c50 p0 p1 p2 (fun y=>ob (k0 y) k)=ob (T51 B c47 c50 p0 p1 p2 k0) k:=by
 unfold T51
 repeat' first | exact rfl | apply qab | (apply qae;intro)
def F51 (c47:C47) (c50:C50) (p0 p1 p2:Int):Option (Int):=T51 Ops.std c47 c50 p0 p1 p2 some
abbrev C51:Type:=Int→Int→Int→Option (Int)
def e51 {R:Type} (c:C51):Ent R:=eG [.aC (.cI .i64),.aC (.cI .i64),.aC (.cI .i64)] [] fun v k=>ob (c v.1 v.2.1 v.2.2.1) (K9 k)
abbrev Sp51 (c:C51):Prop:=∀ (p0 p1 p2 y:Int),c p0 p1 p2=some y→Spec Try.prog gl0 51 [.c (.int .i64 p0),.c (.int .i64 p1),.c (.int .i64 p2)] [] (.c (.int .i64 y)) []
theorem ek51 {R:Type} {c:C51} (hs:Sp51 c):EOk 51 (e51 (R:=R) c):=qag fun v=>hs v.1 v.2.1 v.2.2.1
theorem sf51 {c47:C47} {c50:C50} (h47:Sp47 c47) (h50:Sp50 c50):Sp51 (F51 c47 c50):=fun p0 p1 p2 y hy=>by
 refine qad (qaa (ek47 h47) (qaa (ek50 h50) qac)) 1000000 (fn:=Try.f51) (by kernel_rfl) (by kernel_rfl) (X:=X51) (by kernel_rfl) ?_
 rw [eq51]
 exact (nt51 Ops.std c47 c50 p0 p1 p2 some (K9 k0)).trans (by show ob (F51 c47 c50 p0 p1 p2) _=_;rw [hy];rfl)
noncomputable def M51:C51:=F51 M47 M50
theorem sm51:Sp51 M51:=sf51 sm47 sm50
def X30:Aux:=⟨[(5,([0,1,2,5,6]++rg 8 28++rg 39 83))],[(14,.lin (rg 0 10)),(10,.lin (rg 0 13))]⟩
inductive S30 where
 | l0 (v1 v2:Int) (v8:L3)
def T30 {R:Type} (B:Ops) (c45:C45) (c46:C46) (c48:C48) (c47:C47) (c49:C49) (c50:C50) (c51:C51) (p0:L62) (p1:L66) (p2:L43) (p3 p4:L3) (p5:L95) (again:S30→Option R) (k:(Int)→Option R):Option S30→Option R | none=>ob (c45 p0 p1 p2 p5) fun y0=>cond (!y0) (k 0) (cond (!B.eq (↑p3.length) (↑p1.length)) (k 0) (cond (!B.eq (↑p4.length) (↑p0.length)) (k 0) (again (.l0 (↑p5.length) 0 (mt (Ty.den (Ty.int .i64))))))) | some (.l0 v1 v2 v8)=>cond (B.lt v2 v1) (cond (B.inb v2 p5.length) (ob (c46 ((p5.getD v2.toNat ty95.dflt).1)) fun y0=>cond (B.eq ((p5.getD v2.toNat ty95.dflt).1) 1) (cond (B.inb (IntKind.wrap .i64 (Nat.cast v8.length-y0)) (List.length v8+1)) (cond (B.lim (List.length (List.take (Int.toNat (IntKind.wrap .i64 (Nat.cast v8.length-y0))) v8)+List.length (((p5.getD v2.toNat ty95.dflt).2).1::mt (Ty.den (Ty.int .i64)))) 8) (again (.l0 v1 (IntKind.wrap .i64 (v2+1)) (List.take (Int.toNat (IntKind.wrap .i64 (Nat.cast v8.length-y0))) v8++((p5.getD v2.toNat ty95.dflt).2).1::mt (Ty.den (Ty.int .i64))))) none) none) (cond (B.eq ((p5.getD v2.toNat ty95.dflt).1) 2) (ob (c48 p0 p1 p2 ((((p5.getD v2.toNat ty95.dflt).2).2).1)) fun y1=>cond (B.inb y1 p4.length) (ob (c47 (p4.getD y1.toNat ty3.dflt)) fun y2=>cond (B.inb (IntKind.wrap .i64 (Nat.cast v8.length-y0)) (List.length v8+1)) (cond (B.lim (List.length (List.take (Int.toNat (IntKind.wrap .i64 (Nat.cast v8.length-y0))) v8)+List.length (y2::mt (Ty.den (Ty.int .i64)))) 8) (again (.l0 v1 (IntKind.wrap .i64 (v2+1)) (List.take (Int.toNat (IntKind.wrap .i64 (Nat.cast v8.length-y0))) v8++y2::mt (Ty.den (Ty.int .i64))))) none) none) none) (cond (B.eq ((p5.getD v2.toNat ty95.dflt).1) 3) (ob (c49 p0 p1 p2 ((((p5.getD v2.toNat ty95.dflt).2).2).1) ((((p5.getD v2.toNat ty95.dflt).2).2).2)) fun y1=>cond (B.inb y1.1 p3.length) (ob (c50 (B.eq (p3.getD (Int.toNat y1.1) ty3.dflt) y1.2)) fun y2=>cond (B.inb (IntKind.wrap .i64 (Nat.cast v8.length-y0)) (List.length v8+1)) (cond (B.lim (List.length (List.take (Int.toNat (IntKind.wrap .i64 (Nat.cast v8.length-y0))) v8)+List.length (y2::mt (Ty.den (Ty.int .i64)))) 8) (again (.l0 v1 (IntKind.wrap .i64 (v2+1)) (List.take (Int.toNat (IntKind.wrap .i64 (Nat.cast v8.length-y0))) v8++y2::mt (Ty.den (Ty.int .i64))))) none) none) none) (cond (B.eq ((p5.getD v2.toNat ty95.dflt).1) 4) (cond (B.inb (IntKind.wrap .i64 (Nat.cast v8.length-y0)) v8.length) (ob (c50 (B.eq (v8.getD (Int.toNat (IntKind.wrap .i64 (Nat.cast v8.length-y0))) ty3.dflt) 0)) fun y1=>cond (B.inb (IntKind.wrap .i64 (Nat.cast v8.length-y0)) (List.length v8+1)) (cond (B.lim (List.length (List.take (Int.toNat (IntKind.wrap .i64 (Nat.cast v8.length-y0))) v8)+List.length (y1::mt (Ty.den (Ty.int .i64)))) 8) (again (.l0 v1 (IntKind.wrap .i64 (v2+1)) (List.take (Int.toNat (IntKind.wrap .i64 (Nat.cast v8.length-y0))) v8++y1::mt (Ty.den (Ty.int .i64))))) none) none) none) (cond (B.eq ((p5.getD v2.toNat ty95.dflt).1) 5) (cond (B.inb (IntKind.wrap .i64 (Nat.cast v8.length-y0)) v8.length) (ob (c47 (IntKind.wrap .i64 (0-v8.getD (Int.toNat (IntKind.wrap .i64 (Nat.cast v8.length-y0))) ty3.dflt))) fun y1=>cond (B.inb (IntKind.wrap .i64 (Nat.cast v8.length-y0)) (List.length v8+1)) (cond (B.lim (List.length (List.take (Int.toNat (IntKind.wrap .i64 (Nat.cast v8.length-y0))) v8)+List.length (y1::mt (Ty.den (Ty.int .i64)))) 8) (again (.l0 v1 (IntKind.wrap .i64 (v2+1)) (List.take (Int.toNat (IntKind.wrap .i64 (Nat.cast v8.length-y0))) v8++y1::mt (Ty.den (Ty.int .i64))))) none) none) none) (cond (B.inb (IntKind.wrap .i64 (Nat.cast v8.length-y0)) v8.length) (cond (B.inb (IntKind.wrap .i64 (IntKind.wrap .i64 (Nat.cast v8.length-y0)+1)) v8.length) (ob (c51 ((p5.getD v2.toNat ty95.dflt).1) (v8.getD (Int.toNat (IntKind.wrap .i64 (Nat.cast v8.length-y0))) ty3.dflt) (v8.getD (Int.toNat (IntKind.wrap .i64 (IntKind.wrap .i64 (Nat.cast v8.length-y0)+1))) ty3.dflt)) fun y1=>cond (B.inb (IntKind.wrap .i64 (Nat.cast v8.length-y0)) (List.length v8+1)) (cond (B.lim (List.length (List.take (Int.toNat (IntKind.wrap .i64 (Nat.cast v8.length-y0))) v8)+List.length (y1::mt (Ty.den (Ty.int .i64)))) 8) (again (.l0 v1 (IntKind.wrap .i64 (v2+1)) (List.take (Int.toNat (IntKind.wrap .i64 (Nat.cast v8.length-y0))) v8++y1::mt (Ty.den (Ty.int .i64))))) none) none) none) none)))))) none) (cond (B.inb 0 v8.length) (k (v8.getD (Int.toNat 0) ty3.dflt)) none)
def E30 (p0:L62) (p1:L66) (p2:L43) (p3 p4:L3) (p5:L95):S30→List AV×Objs
 | .l0 v1 v2 v8=>(mk 122 [(3,.c (.ptr 3 0)),(4,.c (.ptr 4 0)),(7,.c (.own 7)),(36,.c (.list 95 ty95 p5)),(37,.c (.int .i64 v1)),(38,.c (.int .i64 v2))],[(3,.box 27 [.list 62 ty62 p0,.list 66 ty66 p1,.list 43 ty43 p2]),(4,.box 31 [.list 3 ty3 p3,.list 3 ty3 p4]),(7,.row 3 ty3 v8)])
def I30:S30→Nat
 | .l0 _ _ _=>0
theorem eq30 {R:Type} (B:Ops) (c45:C45) (c46:C46) (c48:C48) (c47:C47) (c49:C49) (c50:C50) (c51:C51) (p0:L62) (p1:L66) (p2:L43) (p3 p4:L3) (p5:L95) (k:AV→Objs→Option R) (n:Nat):afun tau B gl0 X30 (ent 45 (e45 c45) (ent 46 (e46 c46) (ent 48 (e48 c48) (ent 47 (e47 c47) (ent 49 (e49 c49) (ent 50 (e50 c50) (ent 51 (e51 c51) gnil))))))) ow Try.f30 [.agg [.list 62 ty62 p0,.list 66 ty66 p1,.list 43 ty43 p2],.agg [.list 3 ty3 p3,.list 3 ty3 p4],.c (.list 95 ty95 p5)] [] k n=T30 B c45 c46 c48 c47 c49 c50 c51 p0 p1 p2 p3 p4 p5 (fun s=>aloop tau B gl0 X30 (ent 45 (e45 c45) (ent 46 (e46 c46) (ent 48 (e48 c48) (ent 47 (e47 c47) (ent 49 (e49 c49) (ent 50 (e50 c50) (ent 51 (e51 c51) gnil))))))) ow [] Try.f30 k (I30 s) (E30 p0 p1 p2 p3 p4 p5 s) n) (K9 k) none:=by kernel_rfl
theorem el30 {R:Type} (B:Ops) (c45:C45) (c46:C46) (c48:C48) (c47:C47) (c49:C49) (c50:C50) (c51:C51) (p0:L62) (p1:L66) (p2:L43) (p3 p4:L3) (p5:L95) (k:AV→Objs→Option R) (n:Nat):∀ s,aloop tau B gl0 X30 (ent 45 (e45 c45) (ent 46 (e46 c46) (ent 48 (e48 c48) (ent 47 (e47 c47) (ent 49 (e49 c49) (ent 50 (e50 c50) (ent 51 (e51 c51) gnil))))))) ow [] Try.f30 k (I30 s) (E30 p0 p1 p2 p3 p4 p5 s) (n+1)=T30 B c45 c46 c48 c47 c49 c50 c51 p0 p1 p2 p3 p4 p5 (fun s=>aloop tau B gl0 X30 (ent 45 (e45 c45) (ent 46 (e46 c46) (ent 48 (e48 c48) (ent 47 (e47 c47) (ent 49 (e49 c49) (ent 50 (e50 c50) (ent 51 (e51 c51) gnil))))))) ow [] Try.f30 k (I30 s) (E30 p0 p1 p2 p3 p4 p5 s) n) (K9 k) (some s):=by
 intro s
 cases s<;>kernel_rfl
theorem nt30 {R R':Type} (B:Ops) (c45:C45) (c46:C46) (c48:C48) (c47:C47) (c49:C49) (c50:C50) (c51:C51) (p0:L62) (p1:L66) (p2:L43) (p3 p4:L3) (p5:L95) (again:S30→Option R) (again':S30→Option R') (k0:(Int)→Option R') (k:R'→Option R) (h:∀ s,again s=ob (again' s) k):∀ s,T30 B c45 c46 c48 c47 c49 c50 c51 p0 p1 p2 p3 p4 p5 again (fun y=>ob (k0 y) k) s=ob (T30 B c45 c46 c48 c47 c49 c50 c51 p0 p1 p2 p3 p4 p5 again' k0 s) k:=by
 rintro (_ | x)
 all_goals try cases x
 all_goals (unfold T30;repeat' first | exact rfl | exact h _ | apply qab | (apply qae;intro))
def R30 (c45:C45) (c46:C46) (c48:C48) (c47:C47) (c49:C49) (c50:C50) (c51:C51) (p0:L62) (p1:L66) (p2:L43) (p3 p4:L3) (p5:L95):Nat→S30→Option (Int)
 | 0,_=>none
 | n+1,s=>T30 Ops.std c45 c46 c48 c47 c49 c50 c51 p0 p1 p2 p3 p4 p5 (R30 c45 c46 c48 c47 c49 c50 c51 p0 p1 p2 p3 p4 p5 n) some (some s)
theorem rr30 {R:Type} (c45:C45) (c46:C46) (c48:C48) (c47:C47) (c49:C49) (c50:C50) (c51:C51) (p0:L62) (p1:L66) (p2:L43) (p3 p4:L3) (p5:L95) (k:AV→Objs→Option R):∀ (n:Nat) (s:S30),aloop tau Ops.std gl0 X30 (ent 45 (e45 c45) (ent 46 (e46 c46) (ent 48 (e48 c48) (ent 47 (e47 c47) (ent 49 (e49 c49) (ent 50 (e50 c50) (ent 51 (e51 c51) gnil))))))) ow [] Try.f30 k (I30 s) (E30 p0 p1 p2 p3 p4 p5 s) n=ob (R30 c45 c46 c48 c47 c49 c50 c51 p0 p1 p2 p3 p4 p5 n s) (K9 k)
 | 0,s=>by cases s<;>rfl
 | n+1,s=>by rw [el30];exact nt30 Ops.std c45 c46 c48 c47 c49 c50 c51 p0 p1 p2 p3 p4 p5 _ _ some (K9 k) (rr30 c45 c46 c48 c47 c49 c50 c51 p0 p1 p2 p3 p4 p5 k n) (some s)
def F30 (c45:C45) (c46:C46) (c48:C48) (c47:C47) (c49:C49) (c50:C50) (c51:C51) (p0:L62) (p1:L66) (p2:L43) (p3 p4:L3) (p5:L95):Option (Int):=T30 Ops.std c45 c46 c48 c47 c49 c50 c51 p0 p1 p2 p3 p4 p5 (R30 c45 c46 c48 c47 c49 c50 c51 p0 p1 p2 p3 p4 p5 1000000) some none
abbrev C30:Type:=L62→L66→L43→L3→L3→L95→Option (Int)
def e30 {R:Type} (c:C30):Ent R:=eG [.aG [.cL 62 ty62,.cL 66 ty66,.cL 43 ty43],.aG [.cL 3 ty3,.cL 3 ty3],.aC (.cL 95 ty95)] [] fun v k=>ob (c v.1 v.2.1 v.2.2.1 v.2.2.2.1 v.2.2.2.2.1 v.2.2.2.2.2.1) (K9 k)
abbrev Sp30 (c:C30):Prop:=∀ (p0:L62) (p1:L66) (p2:L43) (p3 p4:L3) (p5:L95) (y:Int),c p0 p1 p2 p3 p4 p5=some y→Spec Try.prog gl0 30 [.agg [.list 62 ty62 p0,.list 66 ty66 p1,.list 43 ty43 p2],.agg [.list 3 ty3 p3,.list 3 ty3 p4],.c (.list 95 ty95 p5)] [] (.c (.int .i64 y)) []
theorem ek30 {R:Type} {c:C30} (hs:Sp30 c):EOk 30 (e30 (R:=R) c):=qag fun v=>hs v.1 v.2.1 v.2.2.1 v.2.2.2.1 v.2.2.2.2.1 v.2.2.2.2.2.1
theorem sf30 {c45:C45} {c46:C46} {c48:C48} {c47:C47} {c49:C49} {c50:C50} {c51:C51} (h45:Sp45 c45) (h46:Sp46 c46) (h48:Sp48 c48) (h47:Sp47 c47) (h49:Sp49 c49) (h50:Sp50 c50) (h51:Sp51 c51):Sp30 (F30 c45 c46 c48 c47 c49 c50 c51):=fun p0 p1 p2 p3 p4 p5 y hy=>by
 refine qad (qaa (ek45 h45) (qaa (ek46 h46) (qaa (ek48 h48) (qaa (ek47 h47) (qaa (ek49 h49) (qaa (ek50 h50) (qaa (ek51 h51) qac))))))) 1000000 (fn:=Try.f30) (by kernel_rfl) (by kernel_rfl) (X:=X30) (by kernel_rfl) ?_
 rw [eq30]
 exact (nt30 Ops.std c45 c46 c48 c47 c49 c50 c51 p0 p1 p2 p3 p4 p5 _ _ some (K9 k0) (rr30 c45 c46 c48 c47 c49 c50 c51 p0 p1 p2 p3 p4 p5 k0 1000000) none).trans (by show ob (F30 c45 c46 c48 c47 c49 c50 c51 p0 p1 p2 p3 p4 p5) _=_;rw [hy];rfl)
noncomputable def M30:C30:=F30 M45 M46 M48 M47 M49 M50 M51
theorem sm30:Sp30 M30:=sf30 sm45 sm46 sm48 sm47 sm49 sm50 sm51
def X19:Aux:=⟨[],[(2,.lin (rg 0 29))]⟩
def T19 {R:Type} (B:Ops) (c31:C31) (c30:C30) (p0:L62) (p1:L66) (p2:L43) (p3 p4:L3) (p5:Int) (p6 p7 p8 p9:LB) (p10:L95) (p11:L73) (k:(Bool)→Option R):Option R:=ob (c31 p0 p1 p2 p5 p6 p7 p8 p9 p10 p11) fun y0=>cond (B.le 0 y0) (cond (B.inb y0 p1.length) (cond (B.inb y0 p3.length) (cond (B.inb (p3.getD y0.toNat ty3.dflt) (List.length ((p1.getD y0.toNat ty66.dflt).2))) (cond (List.getD ((p1.getD y0.toNat ty66.dflt).2) (Int.toNat (p3.getD y0.toNat ty3.dflt)) (Ty.dflt Ty.str) == p7) (ob (c30 p0 p1 p2 p3 p4 p10) fun y1=>k (!B.eq y1 0)) (k false)) none) none) none) (k false)
theorem eq19 {R:Type} (B:Ops) (c31:C31) (c30:C30) (p0:L62) (p1:L66) (p2:L43) (p3 p4:L3) (p5:Int) (p6 p7 p8 p9:LB) (p10:L95) (p11:L73) (k:AV→Objs→Option R) (n:Nat):afun tau B gl0 X19 (ent 31 (e31 c31) (ent 30 (e30 c30) gnil)) ow Try.f19 [.agg [.list 62 ty62 p0,.list 66 ty66 p1,.list 43 ty43 p2],.agg [.list 3 ty3 p3,.list 3 ty3 p4],.agg [.int .i64 p5,.str p6,.str p7,.str p8,.str p9,.list 95 ty95 p10,.list 73 ty73 p11]] [] k n=T19 B c31 c30 p0 p1 p2 p3 p4 p5 p6 p7 p8 p9 p10 p11 (K2 k):=by kernel_rfl
theorem nt19 {R R':Type} (B:Ops) (c31:C31) (c30:C30) (p0:L62) (p1:L66) (p2:L43) (p3 p4:L3) (p5:Int) (p6 p7 p8 p9:LB) (p10:L95) (p11:L73) (k0:(Bool)→Option R') (k:R'→Option R):T19 B c31 c30 p0 p1 p2 p3 p4 p5 p6 p7 p8 p9 p10 p11 (fun y=>ob (k0 y) k)=ob (T19 B c31 c30 p0 p1 p2 p3 p4 p5 p6 p7 p8 p9 p10 p11 k0) k:=by
 unfold T19
 repeat' first | exact rfl | apply qab | (apply qae;intro)
def F19 (c31:C31) (c30:C30) (p0:L62) (p1:L66) (p2:L43) (p3 p4:L3) (p5:Int) (p6 p7 p8 p9:LB) (p10:L95) (p11:L73):Option (Bool):=T19 Ops.std c31 c30 p0 p1 p2 p3 p4 p5 p6 p7 p8 p9 p10 p11 some
abbrev C19:Type:=L62→L66→L43→L3→L3→Int→LB→LB→LB→LB→L95→L73→Option (Bool)
def e19 {R:Type} (c:C19):Ent R:=eG [.aG [.cL 62 ty62,.cL 66 ty66,.cL 43 ty43],.aG [.cL 3 ty3,.cL 3 ty3],.aG [.cI .i64,.cS,.cS,.cS,.cS,.cL 95 ty95,.cL 73 ty73]] [] fun v k=>ob (c v.1 v.2.1 v.2.2.1 v.2.2.2.1 v.2.2.2.2.1 v.2.2.2.2.2.1 v.2.2.2.2.2.2.1 v.2.2.2.2.2.2.2.1 v.2.2.2.2.2.2.2.2.1 v.2.2.2.2.2.2.2.2.2.1 v.2.2.2.2.2.2.2.2.2.2.1 v.2.2.2.2.2.2.2.2.2.2.2.1) (K2 k)
abbrev Sp19 (c:C19):Prop:=∀ (p0:L62) (p1:L66) (p2:L43) (p3 p4:L3) (p5:Int) (p6 p7 p8 p9:LB) (p10:L95) (p11:L73) (y:Bool),c p0 p1 p2 p3 p4 p5 p6 p7 p8 p9 p10 p11=some y→Spec Try.prog gl0 19 [.agg [.list 62 ty62 p0,.list 66 ty66 p1,.list 43 ty43 p2],.agg [.list 3 ty3 p3,.list 3 ty3 p4],.agg [.int .i64 p5,.str p6,.str p7,.str p8,.str p9,.list 95 ty95 p10,.list 73 ty73 p11]] [] (.c (.bool y)) []
theorem ek19 {R:Type} {c:C19} (hs:Sp19 c):EOk 19 (e19 (R:=R) c):=qag fun v=>hs v.1 v.2.1 v.2.2.1 v.2.2.2.1 v.2.2.2.2.1 v.2.2.2.2.2.1 v.2.2.2.2.2.2.1 v.2.2.2.2.2.2.2.1 v.2.2.2.2.2.2.2.2.1 v.2.2.2.2.2.2.2.2.2.1 v.2.2.2.2.2.2.2.2.2.2.1 v.2.2.2.2.2.2.2.2.2.2.2.1
theorem sf19 {c31:C31} {c30:C30} (h31:Sp31 c31) (h30:Sp30 c30):Sp19 (F19 c31 c30):=fun p0 p1 p2 p3 p4 p5 p6 p7 p8 p9 p10 p11 y hy=>by
 refine qad (qaa (ek31 h31) (qaa (ek30 h30) qac)) 1000000 (fn:=Try.f19) (by kernel_rfl) (by kernel_rfl) (X:=X19) (by kernel_rfl) ?_
 rw [eq19]
 exact (nt19 Ops.std c31 c30 p0 p1 p2 p3 p4 p5 p6 p7 p8 p9 p10 p11 some (K2 k0)).trans (by show ob (F19 c31 c30 p0 p1 p2 p3 p4 p5 p6 p7 p8 p9 p10 p11) _=_;rw [hy];rfl)
noncomputable def M19:C19:=F19 M31 M30
theorem sm19:Sp19 M19:=sf19 sm31 sm30
def X27:Aux:=⟨[],[(4,.lin (rg 0 10))]⟩
def T27 {R:Type} (B:Ops) (p0:Int) (p1 p2 p3 p4:LB) (p5:L95) (p6:L73) (k:(LB×Int)→Option R):Option R:=cond (p4 == mt UInt8) (k (mt UInt8,0)) (cond (B.inb (IntKind.wrap .i64 (Nat.cast p4.length-1)) (List.length p4+1)) (cond (B.inb (IntKind.wrap .i64 (Nat.cast p4.length-1)) p4.length) (k ((List.drop 0 (List.take (Int.toNat (IntKind.wrap .i64 (Nat.cast p4.length-1))) p4),Nat.cast (UInt8.toNat (p4.getD (Int.toNat (IntKind.wrap .i64 (Nat.cast p4.length-1))) 0))))) none) none)
abbrev K20 {R:Type} (k:AV→Objs→Option R) (y:(LB×Int)):Option R:=k (.tup [(false,[.str y.1]),(false,[.int .u8 y.2])]) []
theorem eq27 {R:Type} (B:Ops) (p0:Int) (p1 p2 p3 p4:LB) (p5:L95) (p6:L73) (k:AV→Objs→Option R) (n:Nat):afun tau B gl0 X27 gnil ow Try.f27 [.agg [.int .i64 p0,.str p1,.str p2,.str p3,.str p4,.list 95 ty95 p5,.list 73 ty73 p6]] [] k n=T27 B p0 p1 p2 p3 p4 p5 p6 (K20 k):=by kernel_rfl
theorem nt27 {R R':Type} (B:Ops) (p0:Int) (p1 p2 p3 p4:LB) (p5:L95) (p6:L73) (k0:(LB×Int)→Option R') (k:R'→Option R):T27 B p0 p1 p2 p3 p4 p5 p6 (fun y=>ob (k0 y) k)=ob (T27 B p0 p1 p2 p3 p4 p5 p6 k0) k:=by
 unfold T27
 repeat' first | exact rfl | apply qab | (apply qae;intro)
def F27 (p0:Int) (p1 p2 p3 p4:LB) (p5:L95) (p6:L73):Option (LB×Int):=T27 Ops.std p0 p1 p2 p3 p4 p5 p6 some
abbrev C27:Type:=Int→LB→LB→LB→LB→L95→L73→Option (LB×Int)
def e27 {R:Type} (c:C27):Ent R:=eG [.aG [.cI .i64,.cS,.cS,.cS,.cS,.cL 95 ty95,.cL 73 ty73]] [] fun v k=>ob (c v.1 v.2.1 v.2.2.1 v.2.2.2.1 v.2.2.2.2.1 v.2.2.2.2.2.1 v.2.2.2.2.2.2.1) (K20 k)
abbrev Sp27 (c:C27):Prop:=∀ (p0:Int) (p1 p2 p3 p4:LB) (p5:L95) (p6:L73) (y:LB×Int),c p0 p1 p2 p3 p4 p5 p6=some y→Spec Try.prog gl0 27 [.agg [.int .i64 p0,.str p1,.str p2,.str p3,.str p4,.list 95 ty95 p5,.list 73 ty73 p6]] [] (.tup [(false,[.str y.1]),(false,[.int .u8 y.2])]) []
theorem ek27 {R:Type} {c:C27} (hs:Sp27 c):EOk 27 (e27 (R:=R) c):=qag fun v=>hs v.1 v.2.1 v.2.2.1 v.2.2.2.1 v.2.2.2.2.1 v.2.2.2.2.2.1 v.2.2.2.2.2.2.1
theorem sf27:Sp27 (F27):=fun p0 p1 p2 p3 p4 p5 p6 y hy=>by
 refine qad qac 1000000 (fn:=Try.f27) (by kernel_rfl) (by kernel_rfl) (X:=X27) (by kernel_rfl) ?_
 rw [eq27]
 exact (nt27 Ops.std p0 p1 p2 p3 p4 p5 p6 some (K20 k0)).trans (by show ob (F27 p0 p1 p2 p3 p4 p5 p6) _=_;rw [hy];rfl)
noncomputable def M27:C27:=F27
theorem sm27:Sp27 M27:=sf27
def X14:Aux:=⟨[(3,([0,1,4]++rg 6 12++rg 21 68)),(10,([0,1,2,3,4,6,7]++rg 9 24++rg 36 53)),(16,([0,1,2,3,4,6,7,9]++rg 13 20++rg 36 15++rg 54 35))],[]⟩
inductive S14 where
 | l0 (v1 v2:Int) (v8:L43)
 | l1 (v0 v1:Int) (v2:L43) (v3:L25)
 | l2 (v0:LB) (v1 v2 v3 v4 v5:Int) (v6:L43) (v7:L25) (v8:Int) (v9 v10 v11 v12:LB) (v13:L95) (v14:L73)
def T14 {R:Type} (B:Ops) (c19:C19) (c27:C27) (p0:L62) (p1:L66) (p2:L43) (p3 p4:L3) (again:S14→Option R) (k:(L25)→Option R):Option S14→Option R | none=>again (.l0 (↑p2.length) 0 (mt (Ty.den ty43))) | some (.l0 v1 v2 v8)=>cond (B.lt v2 v1) (cond (B.inb v2 p2.length) (ob (c19 p0 p1 p2 p3 p4 ((p2.getD v2.toNat ty43.dflt).1) (((p2.getD v2.toNat ty43.dflt).2).1) ((((p2.getD v2.toNat ty43.dflt).2).2).1) (((((p2.getD v2.toNat ty43.dflt).2).2).2).1) ((((((p2.getD v2.toNat ty43.dflt).2).2).2).2).1) (Prod.fst ((((((p2.getD v2.toNat ty43.dflt).2).2).2).2).2)) (Prod.snd ((((((p2.getD v2.toNat ty43.dflt).2).2).2).2).2))) fun y0=>cond (y0) (cond (B.lim (List.length v8+List.length (((p2.getD v2.toNat ty43.dflt).1,((p2.getD v2.toNat ty43.dflt).2).1,(((p2.getD v2.toNat ty43.dflt).2).2).1,((((p2.getD v2.toNat ty43.dflt).2).2).2).1,(((((p2.getD v2.toNat ty43.dflt).2).2).2).2).1,Prod.fst ((((((p2.getD v2.toNat ty43.dflt).2).2).2).2).2),Prod.snd ((((((p2.getD v2.toNat ty43.dflt).2).2).2).2).2))::mt (Ty.den ty43))) 120) (again (.l0 v1 (IntKind.wrap .i64 (v2+1)) (v8++((p2.getD v2.toNat ty43.dflt).1,((p2.getD v2.toNat ty43.dflt).2).1,(((p2.getD v2.toNat ty43.dflt).2).2).1,((((p2.getD v2.toNat ty43.dflt).2).2).2).1,(((((p2.getD v2.toNat ty43.dflt).2).2).2).2).1,Prod.fst ((((((p2.getD v2.toNat ty43.dflt).2).2).2).2).2),Prod.snd ((((((p2.getD v2.toNat ty43.dflt).2).2).2).2).2))::mt (Ty.den ty43)))) none) (again (.l0 v1 (IntKind.wrap .i64 (v2+1)) v8))) none) (again (.l1 (↑v8.length) 0 v8 (mt (Ty.den ty25)))) | some (.l1 v0 v1 v2 v3)=>cond (B.lt v1 v0) (cond (B.inb v1 v2.length) (ob (c27 ((v2.getD v1.toNat ty43.dflt).1) (((v2.getD v1.toNat ty43.dflt).2).1) ((((v2.getD v1.toNat ty43.dflt).2).2).1) (((((v2.getD v1.toNat ty43.dflt).2).2).2).1) ((((((v2.getD v1.toNat ty43.dflt).2).2).2).2).1) (Prod.fst ((((((v2.getD v1.toNat ty43.dflt).2).2).2).2).2)) (Prod.snd ((((((v2.getD v1.toNat ty43.dflt).2).2).2).2).2))) fun y0=>cond (B.eq y0.2 0) (cond (B.lim (List.length v3+List.length ((((v2.getD v1.toNat ty43.dflt).1,((v2.getD v1.toNat ty43.dflt).2).1,(((v2.getD v1.toNat ty43.dflt).2).2).1,((((v2.getD v1.toNat ty43.dflt).2).2).2).1,(((((v2.getD v1.toNat ty43.dflt).2).2).2).2).1,Prod.fst ((((((v2.getD v1.toNat ty43.dflt).2).2).2).2).2),Prod.snd ((((((v2.getD v1.toNat ty43.dflt).2).2).2).2).2))::mt (Ty.den ty43))::mt (Ty.den ty25))) 24) (again (.l2 y0.1 y0.2 v0 v1 (↑v2.length) 0 v2 (v3++(((v2.getD v1.toNat ty43.dflt).1,((v2.getD v1.toNat ty43.dflt).2).1,(((v2.getD v1.toNat ty43.dflt).2).2).1,((((v2.getD v1.toNat ty43.dflt).2).2).2).1,(((((v2.getD v1.toNat ty43.dflt).2).2).2).2).1,Prod.fst ((((((v2.getD v1.toNat ty43.dflt).2).2).2).2).2),Prod.snd ((((((v2.getD v1.toNat ty43.dflt).2).2).2).2).2))::mt (Ty.den ty43))::mt (Ty.den ty25)) ((v2.getD v1.toNat ty43.dflt).1) (((v2.getD v1.toNat ty43.dflt).2).1) ((((v2.getD v1.toNat ty43.dflt).2).2).1) (((((v2.getD v1.toNat ty43.dflt).2).2).2).1) ((((((v2.getD v1.toNat ty43.dflt).2).2).2).2).1) (Prod.fst ((((((v2.getD v1.toNat ty43.dflt).2).2).2).2).2)) (Prod.snd ((((((v2.getD v1.toNat ty43.dflt).2).2).2).2).2)))) none) (again (.l2 y0.1 y0.2 v0 v1 (↑v2.length) 0 v2 v3 ((v2.getD v1.toNat ty43.dflt).1) (((v2.getD v1.toNat ty43.dflt).2).1) ((((v2.getD v1.toNat ty43.dflt).2).2).1) (((((v2.getD v1.toNat ty43.dflt).2).2).2).1) ((((((v2.getD v1.toNat ty43.dflt).2).2).2).2).1) (Prod.fst ((((((v2.getD v1.toNat ty43.dflt).2).2).2).2).2)) (Prod.snd ((((((v2.getD v1.toNat ty43.dflt).2).2).2).2).2))))) none) (k v3) | some (.l2 v0 v1 v2 v3 v4 v5 v6 v7 v8 v9 v10 v11 v12 v13 v14)=>cond (B.lt v5 v4) (cond (B.inb v5 v6.length) (ob (c27 ((v6.getD v5.toNat ty43.dflt).1) (((v6.getD v5.toNat ty43.dflt).2).1) ((((v6.getD v5.toNat ty43.dflt).2).2).1) (((((v6.getD v5.toNat ty43.dflt).2).2).2).1) ((((((v6.getD v5.toNat ty43.dflt).2).2).2).2).1) (Prod.fst ((((((v6.getD v5.toNat ty43.dflt).2).2).2).2).2)) (Prod.snd ((((((v6.getD v5.toNat ty43.dflt).2).2).2).2).2))) fun y0=>cond (B.eq v1 33) (cond (B.eq y0.2 63) (cond (y0.1 == v0) (cond (!((v6.getD v5.toNat ty43.dflt).2).1 == v9) (cond (B.lim (List.length v7+List.length (((v8,v9,v10,v11,v12,v13,v14)::((v6.getD v5.toNat ty43.dflt).1,((v6.getD v5.toNat ty43.dflt).2).1,(((v6.getD v5.toNat ty43.dflt).2).2).1,((((v6.getD v5.toNat ty43.dflt).2).2).2).1,(((((v6.getD v5.toNat ty43.dflt).2).2).2).2).1,Prod.fst ((((((v6.getD v5.toNat ty43.dflt).2).2).2).2).2),Prod.snd ((((((v6.getD v5.toNat ty43.dflt).2).2).2).2).2))::mt (Ty.den ty43))::mt (Ty.den ty25))) 24) (again (.l2 v0 v1 v2 v3 v4 (IntKind.wrap .i64 (v5+1)) v6 (v7++((v8,v9,v10,v11,v12,v13,v14)::((v6.getD v5.toNat ty43.dflt).1,((v6.getD v5.toNat ty43.dflt).2).1,(((v6.getD v5.toNat ty43.dflt).2).2).1,((((v6.getD v5.toNat ty43.dflt).2).2).2).1,(((((v6.getD v5.toNat ty43.dflt).2).2).2).2).1,Prod.fst ((((((v6.getD v5.toNat ty43.dflt).2).2).2).2).2),Prod.snd ((((((v6.getD v5.toNat ty43.dflt).2).2).2).2).2))::mt (Ty.den ty43))::mt (Ty.den ty25)) v8 v9 v10 v11 v12 v13 v14)) none) (again (.l2 v0 v1 v2 v3 v4 (IntKind.wrap .i64 (v5+1)) v6 v7 v8 v9 v10 v11 v12 v13 v14))) (again (.l2 v0 v1 v2 v3 v4 (IntKind.wrap .i64 (v5+1)) v6 v7 v8 v9 v10 v11 v12 v13 v14))) (again (.l2 v0 v1 v2 v3 v4 (IntKind.wrap .i64 (v5+1)) v6 v7 v8 v9 v10 v11 v12 v13 v14))) (again (.l2 v0 v1 v2 v3 v4 (IntKind.wrap .i64 (v5+1)) v6 v7 v8 v9 v10 v11 v12 v13 v14))) none) (again (.l1 v2 (IntKind.wrap .i64 (v3+1)) v6 v7))
def E14 (p0:L62) (p1:L66) (p2:L43) (p3 p4:L3):S14→List AV×Objs
 | .l0 v1 v2 v8=>(mk 89 [(2,.c (.ptr 2 0)),(3,.c (.ptr 3 0)),(5,.c (.own 5)),(18,.c (.list 43 ty43 p2)),(19,.c (.int .i64 v1)),(20,.c (.int .i64 v2))],[(2,.box 27 [.list 62 ty62 p0,.list 66 ty66 p1,.list 43 ty43 p2]),(3,.box 31 [.list 3 ty3 p3,.list 3 ty3 p4]),(5,.row 43 ty43 v8)])
 | .l1 v0 v1 v2 v3=>(mk 89 [(5,.c (.own 5)),(8,.c (.own 8)),(33,.c (.own 5)),(34,.c (.int .i64 v0)),(35,.c (.int .i64 v1))],[(5,.row 43 ty43 v2),(8,.row 25 ty25 v3)])
 | .l2 v0 v1 v2 v3 v4 v5 v6 v7 v8 v9 v10 v11 v12 v13 v14=>(mk 89 [(5,.c (.own 5)),(8,.c (.own 8)),(10,.c (.ptr 10 0)),(11,.c (.str v0)),(12,.c (.int .u8 v1)),(33,.c (.own 5)),(34,.c (.int .i64 v2)),(35,.c (.int .i64 v3)),(51,.c (.own 5)),(52,.c (.int .i64 v4)),(53,.c (.int .i64 v5))],[(5,.row 43 ty43 v6),(8,.row 25 ty25 v7),(10,.box 43 [.int .i64 v8,.str v9,.str v10,.str v11,.str v12,.list 95 ty95 v13,.list 73 ty73 v14])])
def I14:S14→Nat
 | .l0 _ _ _=>0
 | .l1 _ _ _ _=>1
 | .l2 _ _ _ _ _ _ _ _ _ _ _ _ _ _ _=>2
abbrev K21 {R:Type} (k:AV→Objs→Option R) (y:(L25)):Option R:=k (.c (.own 500)) [(500,.row 25 ty25 y)]
theorem eq14 {R:Type} (B:Ops) (c19:C19) (c27:C27) (p0:L62) (p1:L66) (p2:L43) (p3 p4:L3) (k:AV→Objs→Option R) (n:Nat):afun tau B gl0 X14 (ent 19 (e19 c19) (ent 27 (e27 c27) gnil)) ow Try.f14 [.agg [.list 62 ty62 p0,.list 66 ty66 p1,.list 43 ty43 p2],.agg [.list 3 ty3 p3,.list 3 ty3 p4]] [] k n=T14 B c19 c27 p0 p1 p2 p3 p4 (fun s=>aloop tau B gl0 X14 (ent 19 (e19 c19) (ent 27 (e27 c27) gnil)) ow [] Try.f14 k (I14 s) (E14 p0 p1 p2 p3 p4 s) n) (K21 k) none:=by kernel_rfl
theorem el14 {R:Type} (B:Ops) (c19:C19) (c27:C27) (p0:L62) (p1:L66) (p2:L43) (p3 p4:L3) (k:AV→Objs→Option R) (n:Nat):∀ s,aloop tau B gl0 X14 (ent 19 (e19 c19) (ent 27 (e27 c27) gnil)) ow [] Try.f14 k (I14 s) (E14 p0 p1 p2 p3 p4 s) (n+1)=T14 B c19 c27 p0 p1 p2 p3 p4 (fun s=>aloop tau B gl0 X14 (ent 19 (e19 c19) (ent 27 (e27 c27) gnil)) ow [] Try.f14 k (I14 s) (E14 p0 p1 p2 p3 p4 s) n) (K21 k) (some s):=by
 intro s
 cases s<;>kernel_rfl
theorem nt14 {R R':Type} (B:Ops) (c19:C19) (c27:C27) (p0:L62) (p1:L66) (p2:L43) (p3 p4:L3) (again:S14→Option R) (again':S14→Option R') (k0:(L25)→Option R') (k:R'→Option R) (h:∀ s,again s=ob (again' s) k):∀ s,T14 B c19 c27 p0 p1 p2 p3 p4 again (fun y=>ob (k0 y) k) s=ob (T14 B c19 c27 p0 p1 p2 p3 p4 again' k0 s) k:=by
 rintro (_ | x)
 all_goals try cases x
 all_goals (unfold T14;repeat' first | exact rfl | exact h _ | apply qab | (apply qae;intro))
def R14 (c19:C19) (c27:C27) (p0:L62) (p1:L66) (p2:L43) (p3 p4:L3):Nat→S14→Option (L25)
 | 0,_=>none
 | n+1,s=>T14 Ops.std c19 c27 p0 p1 p2 p3 p4 (R14 c19 c27 p0 p1 p2 p3 p4 n) some (some s)
theorem rr14 {R:Type} (c19:C19) (c27:C27) (p0:L62) (p1:L66) (p2:L43) (p3 p4:L3) (k:AV→Objs→Option R):∀ (n:Nat) (s:S14),aloop tau Ops.std gl0 X14 (ent 19 (e19 c19) (ent 27 (e27 c27) gnil)) ow [] Try.f14 k (I14 s) (E14 p0 p1 p2 p3 p4 s) n=ob (R14 c19 c27 p0 p1 p2 p3 p4 n s) (K21 k)
 | 0,s=>by cases s<;>rfl
 | n+1,s=>by rw [el14];exact nt14 Ops.std c19 c27 p0 p1 p2 p3 p4 _ _ some (K21 k) (rr14 c19 c27 p0 p1 p2 p3 p4 k n) (some s)
def F14 (c19:C19) (c27:C27) (p0:L62) (p1:L66) (p2:L43) (p3 p4:L3):Option (L25):=T14 Ops.std c19 c27 p0 p1 p2 p3 p4 (R14 c19 c27 p0 p1 p2 p3 p4 1000000) some none
abbrev C14:Type:=L62→L66→L43→L3→L3→Option (L25)
def e14 {R:Type} (c:C14):Ent R:=eG [.aG [.cL 62 ty62,.cL 66 ty66,.cL 43 ty43],.aG [.cL 3 ty3,.cL 3 ty3]] [] fun v k=>ob (c v.1 v.2.1 v.2.2.1 v.2.2.2.1 v.2.2.2.2.1) (K21 k)
abbrev Sp14 (c:C14):Prop:=∀ (p0:L62) (p1:L66) (p2:L43) (p3 p4:L3) (y:L25),c p0 p1 p2 p3 p4=some y→Spec Try.prog gl0 14 [.agg [.list 62 ty62 p0,.list 66 ty66 p1,.list 43 ty43 p2],.agg [.list 3 ty3 p3,.list 3 ty3 p4]] [] (.c (.own 500)) [(500,.row 25 ty25 y)]
theorem ek14 {R:Type} {c:C14} (hs:Sp14 c):EOk 14 (e14 (R:=R) c):=qag fun v=>hs v.1 v.2.1 v.2.2.1 v.2.2.2.1 v.2.2.2.2.1
theorem sf14 {c19:C19} {c27:C27} (h19:Sp19 c19) (h27:Sp27 c27):Sp14 (F14 c19 c27):=fun p0 p1 p2 p3 p4 y hy=>by
 refine qad (qaa (ek19 h19) (qaa (ek27 h27) qac)) 1000000 (fn:=Try.f14) (by kernel_rfl) (by kernel_rfl) (X:=X14) (by kernel_rfl) ?_
 rw [eq14]
 exact (nt14 Ops.std c19 c27 p0 p1 p2 p3 p4 _ _ some (K21 k0) (rr14 c19 c27 p0 p1 p2 p3 p4 k0 1000000) none).trans (by show ob (F14 c19 c27 p0 p1 p2 p3 p4) _=_;rw [hy];rfl)
noncomputable def M14:C14:=F14 M19 M27
theorem sm14:Sp14 M14:=sf14 sm19 sm27
abbrev K22 {R:Type} (k:AV→Objs→Option R) (y:(L3)):Option R:=k (.c (.own 500)) [(500,.row 3 ty3 y)]
abbrev C33:Type:=L3→Option (L3)
def e33 {R:Type} (c:C33):Ent R:=eG [.aC (.cL 3 ty3)] [] fun v k=>ob (c v.1) (K22 k)
abbrev Sp33 (c:C33):Prop:=∀ (p0 y:L3),c p0=some y→Spec Try.prog gl0 33 [.c (.list 3 ty3 p0)] [] (.c (.own 500)) [(500,.row 3 ty3 y)]
theorem ek33 {R:Type} {c:C33} (hs:Sp33 c):EOk 33 (e33 (R:=R) c):=qag fun v=>hs v.1
def M33:L3→Option (L3):=cloneF (t:=ty3) 8
theorem sm33:Sp33 M33:=by
 have h:∀ (B:Ops) (xs:List (Ty.den ty3)) (k:AV→Objs→Option AO),afun tau B gl0 X0 gnil ow Try.f33 [.c (.list 3 ty3 xs)] [] k 1=cloneT B 3 8 ty3 xs k:=fun B xs k=>by kernel_rfl
 refine clone_sp (fun xs v o h0=>?_) fun b=>?_
 ·exact qad (G:=gnil) qac 1 (fn:=Try.f33) (by kernel_rfl) (by kernel_rfl) (X:=X0) (by kernel_rfl) ((h _ _ _).trans h0)
 ·cases b<;>exact qad (G:=gnil) qac 1 (fn:=Try.f33) (by kernel_rfl) (by kernel_rfl) (X:=X0) (by kernel_rfl) (by kernel_rfl)
def X17:Aux:=⟨[],[(1,.lin [0,1,3,4,2,5,6,7])]⟩
def T17 {R:Type} (B:Ops) (c33:C33) (p0 p1:L3) (k:(L3×L3)→Option R):Option R:=ob (c33 p0) fun y0=>ob (c33 p1) fun y1=>k (y0,y1)
abbrev K23 {R:Type} (k:AV→Objs→Option R) (y:(L3×L3)):Option R:=k (.agg [.own 501000,.own 501001]) [(501000,.row 3 ty3 y.1),(501001,.row 3 ty3 y.2)]
theorem eq17 {R:Type} (B:Ops) (c33:C33) (p0 p1:L3) (k:AV→Objs→Option R) (n:Nat):afun tau B gl0 X17 (ent 33 (e33 c33) gnil) ow Try.f17 [.agg [.list 3 ty3 p0,.list 3 ty3 p1]] [] k n=T17 B c33 p0 p1 (K23 k):=by kernel_rfl
theorem nt17 {R R':Type} (B:Ops) (c33:C33) (p0 p1:L3) (k0:(L3×L3)→Option R') (k:R'→Option R):T17 B c33 p0 p1 (fun y=>ob (k0 y) k)=ob (T17 B c33 p0 p1 k0) k:=by
 unfold T17
 repeat' first | exact rfl | apply qab | (apply qae;intro)
def F17 (c33:C33) (p0 p1:L3):Option (L3×L3):=T17 Ops.std c33 p0 p1 some
abbrev C17:Type:=L3→L3→Option (L3×L3)
def e17 {R:Type} (c:C17):Ent R:=eG [.aG [.cL 3 ty3,.cL 3 ty3]] [] fun v k=>ob (c v.1 v.2.1) (K23 k)
abbrev Sp17 (c:C17):Prop:=∀ (p0 p1:L3) (y:L3×L3),c p0 p1=some y→Spec Try.prog gl0 17 [.agg [.list 3 ty3 p0,.list 3 ty3 p1]] [] (.agg [.own 501000,.own 501001]) [(501000,.row 3 ty3 y.1),(501001,.row 3 ty3 y.2)]
theorem ek17 {R:Type} {c:C17} (hs:Sp17 c):EOk 17 (e17 (R:=R) c):=qag fun v=>hs v.1 v.2.1
theorem sf17 {c33:C33} (h33:Sp33 c33):Sp17 (F17 c33):=fun p0 p1 y hy=>by
 refine qad (qaa (ek33 h33) qac) 1000000 (fn:=Try.f17) (by kernel_rfl) (by kernel_rfl) (X:=X17) (by kernel_rfl) ?_
 rw [eq17]
 exact (nt17 Ops.std c33 p0 p1 some (K23 k0)).trans (by show ob (F17 c33 p0 p1) _=_;rw [hy];rfl)
noncomputable def M17:C17:=F17 M33
theorem sm17:Sp17 M17:=sf17 sm33
def X29:Aux:=⟨[],[]⟩
def T29 {R:Type} (B:Ops) (p0:LB) (p1 p2 p3:Int) (p4:LB) (p5:L95) (k:(Bool×LB×L95)→Option R):Option R:=k (p0 == p4,p4,p5)
theorem eq29 {R:Type} (B:Ops) (p0:LB) (p1 p2 p3:Int) (p4:LB) (p5:L95) (k:AV→Objs→Option R) (n:Nat):afun tau B gl0 X29 gnil ow Try.f29 [.agg [.str p0,.int .i64 p1,.int .i64 p2,.int .i64 p3],.c (.ptr 1 0)] [(1,.box 73 [.str p4,.list 95 ty95 p5])] k n=T29 B p0 p1 p2 p3 p4 p5 (K12 k):=by kernel_rfl
theorem nt29 {R R':Type} (B:Ops) (p0:LB) (p1 p2 p3:Int) (p4:LB) (p5:L95) (k0:(Bool×LB×L95)→Option R') (k:R'→Option R):T29 B p0 p1 p2 p3 p4 p5 (fun y=>ob (k0 y) k)=ob (T29 B p0 p1 p2 p3 p4 p5 k0) k:=by
 unfold T29
 repeat' first | exact rfl | apply qab | (apply qae;intro)
def F29 (p0:LB) (p1 p2 p3:Int) (p4:LB) (p5:L95):Option (Bool×LB×L95):=T29 Ops.std p0 p1 p2 p3 p4 p5 some
abbrev C29:Type:=LB→Int→Int→Int→LB→L95→Option (Bool×LB×L95)
def e29 {R:Type} (c:C29):Ent R:=eG [.aG [.cS,.cI .i64,.cI .i64,.cI .i64],.aC (.cP 1)] [.oB 1 73 [.cS,.cL 95 ty95]] fun v k=>ob (c v.1 v.2.1 v.2.2.1 v.2.2.2.1 v.2.2.2.2.1 v.2.2.2.2.2.1) (K12 k)
abbrev Sp29 (c:C29):Prop:=∀ (p0:LB) (p1 p2 p3:Int) (p4:LB) (p5:L95) (y:Bool×LB×L95),c p0 p1 p2 p3 p4 p5=some y→Spec Try.prog gl0 29 [.agg [.str p0,.int .i64 p1,.int .i64 p2,.int .i64 p3],.c (.ptr 1 0)] [(1,.box 73 [.str p4,.list 95 ty95 p5])] (.c (.bool y.1)) [(1,.box 73 [.str y.2.1,.list 95 ty95 y.2.2])]
theorem ek29 {R:Type} {c:C29} (hs:Sp29 c):EOk 29 (e29 (R:=R) c):=qag fun v=>hs v.1 v.2.1 v.2.2.1 v.2.2.2.1 v.2.2.2.2.1 v.2.2.2.2.2.1
theorem sf29:Sp29 (F29):=fun p0 p1 p2 p3 p4 p5 y hy=>by
 refine qad qac 1000000 (fn:=Try.f29) (by kernel_rfl) (by kernel_rfl) (X:=X29) (by kernel_rfl) ?_
 rw [eq29]
 exact (nt29 Ops.std p0 p1 p2 p3 p4 p5 some (K12 k0)).trans (by show ob (F29 p0 p1 p2 p3 p4 p5) _=_;rw [hy];rfl)
noncomputable def M29:C29:=F29
theorem sm29:Sp29 M29:=sf29
def X112:Aux:=⟨[(2,([2,3,4,5,6]++rg 9 10))],[]⟩
inductive S112 where
 | l0 (v1 v2:Int) (v3:LB) (v4:L95)
def T112 {R:Type} (B:Ops) (c29:C29) (p0:L62) (p1:LB) (p2:L95) (again:S112→Option R) (k:(Int×LB×L95)→Option R):Option S112→Option R | none=>again (.l0 (↑p0.length) 0 p1 p2) | some (.l0 v1 v2 v3 v4)=>cond (B.lt v2 v1) (cond (B.inb v2 p0.length) (ob (c29 ((p0.getD v2.toNat ty62.dflt).1) (((p0.getD v2.toNat ty62.dflt).2).1) ((((p0.getD v2.toNat ty62.dflt).2).2).1) ((((p0.getD v2.toNat ty62.dflt).2).2).2) v3 v4) fun y0=>cond y0.1 (k (v2,y0.2.1,y0.2.2)) (again (.l0 v1 (IntKind.wrap .i64 (v2+1)) y0.2.1 y0.2.2))) none) (k (-1,v3,v4))
def E112 (p0:L62) (p1:LB) (p2:L95):S112→List AV×Objs
 | .l0 v1 v2 v3 v4=>(mk 19 [(0,.c (.list 62 ty62 p0)),(1,.fn 29 [.ptr 2500 0]),(7,.c (.int .i64 v1)),(8,.c (.int .i64 v2))],[(2500,.box 73 [.str v3,.list 95 ty95 v4])])
def I112:S112→Nat
 | .l0 _ _ _ _=>0
theorem eq112 {R:Type} (B:Ops) (c29:C29) (p0:L62) (p1:LB) (p2:L95) (k:AV→Objs→Option R) (n:Nat):afun tau B gl0 X112 (ent 29 (e29 c29) gnil) ow Try.f28 [.c (.list 62 ty62 p0),.fn 29 [.ptr 2500 0]] [(2500,.box 73 [.str p1,.list 95 ty95 p2])] k n=T112 B c29 p0 p1 p2 (fun s=>aloop tau B gl0 X112 (ent 29 (e29 c29) gnil) ow [2500] Try.f28 k (I112 s) (E112 p0 p1 p2 s) n) (K13 k) none:=by kernel_rfl
theorem el112 {R:Type} (B:Ops) (c29:C29) (p0:L62) (p1:LB) (p2:L95) (k:AV→Objs→Option R) (n:Nat):∀ s,aloop tau B gl0 X112 (ent 29 (e29 c29) gnil) ow [2500] Try.f28 k (I112 s) (E112 p0 p1 p2 s) (n+1)=T112 B c29 p0 p1 p2 (fun s=>aloop tau B gl0 X112 (ent 29 (e29 c29) gnil) ow [2500] Try.f28 k (I112 s) (E112 p0 p1 p2 s) n) (K13 k) (some s):=by
 intro s
 cases s<;>kernel_rfl
theorem nt112 {R R':Type} (B:Ops) (c29:C29) (p0:L62) (p1:LB) (p2:L95) (again:S112→Option R) (again':S112→Option R') (k0:(Int×LB×L95)→Option R') (k:R'→Option R) (h:∀ s,again s=ob (again' s) k):∀ s,T112 B c29 p0 p1 p2 again (fun y=>ob (k0 y) k) s=ob (T112 B c29 p0 p1 p2 again' k0 s) k:=by
 rintro (_ | x)
 all_goals try cases x
 all_goals (unfold T112;repeat' first | exact rfl | exact h _ | apply qab | (apply qae;intro))
def R112 (c29:C29) (p0:L62) (p1:LB) (p2:L95):Nat→S112→Option (Int×LB×L95)
 | 0,_=>none
 | n+1,s=>T112 Ops.std c29 p0 p1 p2 (R112 c29 p0 p1 p2 n) some (some s)
theorem rr112 {R:Type} (c29:C29) (p0:L62) (p1:LB) (p2:L95) (k:AV→Objs→Option R):∀ (n:Nat) (s:S112),aloop tau Ops.std gl0 X112 (ent 29 (e29 c29) gnil) ow [2500] Try.f28 k (I112 s) (E112 p0 p1 p2 s) n=ob (R112 c29 p0 p1 p2 n s) (K13 k)
 | 0,s=>by cases s<;>rfl
 | n+1,s=>by rw [el112];exact nt112 Ops.std c29 p0 p1 p2 _ _ some (K13 k) (rr112 c29 p0 p1 p2 k n) (some s)
def F112 (c29:C29) (p0:L62) (p1:LB) (p2:L95):Option (Int×LB×L95):=T112 Ops.std c29 p0 p1 p2 (R112 c29 p0 p1 p2 1000000) some none
abbrev C112:Type:=L62→LB→L95→Option (Int×LB×L95)
def e112 {R:Type} (c:C112):Ent R:=eG [.aC (.cL 62 ty62),.aF 29 [.cP 2500]] [.oB 2500 73 [.cS,.cL 95 ty95]] fun v k=>ob (c v.1 v.2.1 v.2.2.1) (K13 k)
abbrev Sp112 (c:C112):Prop:=∀ (p0:L62) (p1:LB) (p2:L95) (y:Int×LB×L95),c p0 p1 p2=some y→Spec Try.prog gl0 28 [.c (.list 62 ty62 p0),.fn 29 [.ptr 2500 0]] [(2500,.box 73 [.str p1,.list 95 ty95 p2])] (.c (.int .i64 y.1)) [(2500,.box 73 [.str y.2.1,.list 95 ty95 y.2.2])]
theorem ek112 {R:Type} {c:C112} (hs:Sp112 c):EOk 28 (e112 (R:=R) c):=qag fun v=>hs v.1 v.2.1 v.2.2.1
theorem sf112 {c29:C29} (h29:Sp29 c29):Sp112 (F112 c29):=fun p0 p1 p2 y hy=>by
 refine qad (qaa (ek29 h29) qac) 1000000 (fn:=Try.f28) (by kernel_rfl) (by kernel_rfl) (X:=X112) (by kernel_rfl) ?_
 rw [eq112]
 exact (nt112 Ops.std c29 p0 p1 p2 _ _ some (K13 k0) (rr112 c29 p0 p1 p2 k0 1000000) none).trans (by show ob (F112 c29 p0 p1 p2) _=_;rw [hy];rfl)
noncomputable def M112:C112:=F112 M29
theorem sm112:Sp112 M112:=sf112 sm29
def X15:Aux:=⟨[(3,([0,1,4,5,7]++rg 9 10++rg 22 76)),(6,([0,1,4,5,7]++rg 9 10++[22,23,24,25]++rg 29 69)),(15,([0,1,2,4,5,7]++rg 9 65++rg 77 21)),(2000000,[])],[(9,.lin (rg 0 10)),(10,.lin (rg 0 26)),(18,.lin (rg 0 14))]⟩
inductive S15 where
 | l0 (v2 v3:Int) (v9 v10:L3)
 | l1 (v2 v3:Int) (v4:L73) (v5 v6:Int) (v12 v13:L3)
 | l2 (v1 v2:Int) (v8 v9:L3)
def T15 {R:Type} (B:Ops) (c17:C17) (c29:C29) (c112:C112) (c30:C30) (c31:C31) (c32:C32) (p0:L62) (p1:L66) (p2:L43) (p3 p4:L3) (p5:L43) (again:S15→Option R) (k:(L3×L3×Bool)→Option R):Option S15→Option R | none=>ob (c17 p3 p4) fun y0=>again (.l0 (↑p5.length) 0 y0.1 y0.2) | some (.l0 v2 v3 v9 v10)=>cond (B.lt v3 v2) (cond (B.inb v3 p5.length) (again (.l1 v2 v3 (Prod.snd ((((((p5.getD v3.toNat ty43.dflt).2).2).2).2).2)) (Nat.cast (List.length (Prod.snd ((((((p5.getD v3.toNat ty43.dflt).2).2).2).2).2)))) 0 v9 v10)) none) (again (.l2 (↑p5.length) 0 v9 v10)) | some (.l1 v2 v3 v4 v5 v6 v12 v13)=>cond (B.lt v6 v5) (cond (B.inb v6 v4.length) (ob (c112 p0 ((v4.getD v6.toNat ty73.dflt).1) ((v4.getD v6.toNat ty73.dflt).2)) fun y0=>ob (c30 p0 p1 p2 v12 v13 y0.2.2) fun y1=>cond (B.inb y0.1 v13.length) (cond (B.inb y0.1 (List.length (List.set v13 (Int.toNat y0.1) y1))) (cond (B.inb y0.1 p0.length) (cond (B.lt (List.getD (List.set v13 (Int.toNat y0.1) y1) (Int.toNat y0.1) ty3.dflt) (((p0.getD (Int.toNat y0.1) ty62.dflt).2).1)) (k ((mt (Ty.den (Ty.int .i64)),mt (Ty.den (Ty.int .i64)),false))) (cond (B.inb y0.1 (List.length (List.set v13 (Int.toNat y0.1) y1))) (cond (B.inb y0.1 p0.length) (cond (B.lt ((((p0.getD (Int.toNat y0.1) ty62.dflt).2).2).1) (List.getD (List.set v13 (Int.toNat y0.1) y1) (Int.toNat y0.1) ty3.dflt)) (k ((mt (Ty.den (Ty.int .i64)),mt (Ty.den (Ty.int .i64)),false))) (again (.l1 v2 v3 v4 v5 (IntKind.wrap .i64 (v6+1)) v12 (List.set v13 (Int.toNat y0.1) y1)))) none) none)) none) none) none) none) (again (.l0 v2 (IntKind.wrap .i64 (v3+1)) v12 v13)) | some (.l2 v1 v2 v8 v9)=>cond (B.lt v2 v1) (cond (B.inb v2 p5.length) (ob (c31 p0 p1 p2 ((p5.getD v2.toNat ty43.dflt).1) (((p5.getD v2.toNat ty43.dflt).2).1) ((((p5.getD v2.toNat ty43.dflt).2).2).1) (((((p5.getD v2.toNat ty43.dflt).2).2).2).1) ((((((p5.getD v2.toNat ty43.dflt).2).2).2).2).1) (Prod.fst ((((((p5.getD v2.toNat ty43.dflt).2).2).2).2).2)) (Prod.snd ((((((p5.getD v2.toNat ty43.dflt).2).2).2).2).2))) fun y0=>cond (B.inb y0 p1.length) (ob (c32 ((p1.getD y0.toNat ty66.dflt).2) (((((p5.getD v2.toNat ty43.dflt).2).2).2).1)) fun y1=>cond (B.inb y0 v8.length) (again (.l2 v1 (IntKind.wrap .i64 (v2+1)) (List.set v8 y0.toNat y1) v9)) none) none) none) (k (v8,v9,true))
def E15 (p0:L62) (p1:L66) (p2:L43) (p3 p4:L3) (p5:L43):S15→List AV×Objs
 | .l0 v2 v3 v9 v10=>(mk 98 [(2,.c (.list 43 ty43 p5)),(3,.c (.ptr 3 0)),(6,.c (.ptr 6 0)),(8,.c (.ptr 8 0)),(19,.c (.list 43 ty43 p5)),(20,.c (.int .i64 v2)),(21,.c (.int .i64 v3))],[(3,.box 27 [.list 62 ty62 p0,.list 66 ty66 p1,.list 43 ty43 p2]),(6,.box 31 [.own 7000,.own 7001]),(8,.box 31 [.own 9000,.own 9001]),(7000,.row 3 ty3 (mt (Ty.den (Ty.int .i64)))),(7001,.row 3 ty3 (mt (Ty.den (Ty.int .i64)))),(9000,.row 3 ty3 v9),(9001,.row 3 ty3 v10)])
 | .l1 v2 v3 v4 v5 v6 v12 v13=>(mk 98 [(2,.c (.list 43 ty43 p5)),(3,.c (.ptr 3 0)),(6,.c (.ptr 6 0)),(8,.c (.ptr 8 0)),(19,.c (.list 43 ty43 p5)),(20,.c (.int .i64 v2)),(21,.c (.int .i64 v3)),(26,.c (.list 73 ty73 v4)),(27,.c (.int .i64 v5)),(28,.c (.int .i64 v6))],[(3,.box 27 [.list 62 ty62 p0,.list 66 ty66 p1,.list 43 ty43 p2]),(6,.box 31 [.own 7000,.own 7001]),(8,.box 31 [.own 9000,.own 9001]),(7000,.row 3 ty3 (mt (Ty.den (Ty.int .i64)))),(7001,.row 3 ty3 (mt (Ty.den (Ty.int .i64)))),(9000,.row 3 ty3 v12),(9001,.row 3 ty3 v13)])
 | .l2 v1 v2 v8 v9=>(mk 98 [(3,.c (.ptr 3 0)),(6,.c (.ptr 6 0)),(8,.c (.ptr 8 0)),(74,.c (.list 43 ty43 p5)),(75,.c (.int .i64 v1)),(76,.c (.int .i64 v2))],[(3,.box 27 [.list 62 ty62 p0,.list 66 ty66 p1,.list 43 ty43 p2]),(6,.box 31 [.own 7000,.own 7001]),(8,.box 31 [.own 9000,.own 9001]),(7000,.row 3 ty3 (mt (Ty.den (Ty.int .i64)))),(7001,.row 3 ty3 (mt (Ty.den (Ty.int .i64)))),(9000,.row 3 ty3 v8),(9001,.row 3 ty3 v9)])
def I15:S15→Nat
 | .l0 _ _ _ _=>0
 | .l1 _ _ _ _ _ _ _=>1
 | .l2 _ _ _ _=>2
abbrev K24 {R:Type} (k:AV→Objs→Option R) (y:(L3×L3×Bool)):Option R:=k (.tup [(true,[.list 3 ty3 y.1,.list 3 ty3 y.2.1]),(false,[.bool y.2.2])]) []
theorem eq15 {R:Type} (B:Ops) (c17:C17) (c29:C29) (c112:C112) (c30:C30) (c31:C31) (c32:C32) (p0:L62) (p1:L66) (p2:L43) (p3 p4:L3) (p5:L43) (k:AV→Objs→Option R) (n:Nat):afun tau B gl0 X15 (ent 17 (e17 c17) (ent 29 (e29 c29) (ent 28 (e112 c112) (ent 30 (e30 c30) (ent 31 (e31 c31) (ent 32 (e32 c32) gnil)))))) ow Try.f15 [.agg [.list 62 ty62 p0,.list 66 ty66 p1,.list 43 ty43 p2],.agg [.list 3 ty3 p3,.list 3 ty3 p4],.c (.list 43 ty43 p5)] [] k n=T15 B c17 c29 c112 c30 c31 c32 p0 p1 p2 p3 p4 p5 (fun s=>aloop tau B gl0 X15 (ent 17 (e17 c17) (ent 29 (e29 c29) (ent 28 (e112 c112) (ent 30 (e30 c30) (ent 31 (e31 c31) (ent 32 (e32 c32) gnil)))))) ow [] Try.f15 k (I15 s) (E15 p0 p1 p2 p3 p4 p5 s) n) (K24 k) none:=by kernel_rfl
theorem el15 {R:Type} (B:Ops) (c17:C17) (c29:C29) (c112:C112) (c30:C30) (c31:C31) (c32:C32) (p0:L62) (p1:L66) (p2:L43) (p3 p4:L3) (p5:L43) (k:AV→Objs→Option R) (n:Nat):∀ s,aloop tau B gl0 X15 (ent 17 (e17 c17) (ent 29 (e29 c29) (ent 28 (e112 c112) (ent 30 (e30 c30) (ent 31 (e31 c31) (ent 32 (e32 c32) gnil)))))) ow [] Try.f15 k (I15 s) (E15 p0 p1 p2 p3 p4 p5 s) (n+1)=T15 B c17 c29 c112 c30 c31 c32 p0 p1 p2 p3 p4 p5 (fun s=>aloop tau B gl0 X15 (ent 17 (e17 c17) (ent 29 (e29 c29) (ent 28 (e112 c112) (ent 30 (e30 c30) (ent 31 (e31 c31) (ent 32 (e32 c32) gnil)))))) ow [] Try.f15 k (I15 s) (E15 p0 p1 p2 p3 p4 p5 s) n) (K24 k) (some s):=by
 intro s
 cases s<;>kernel_rfl
theorem nt15 {R R':Type} (B:Ops) (c17:C17) (c29:C29) (c112:C112) (c30:C30) (c31:C31) (c32:C32) (p0:L62) (p1:L66) (p2:L43) (p3 p4:L3) (p5:L43) (again:S15→Option R) (again':S15→Option R') (k0:(L3×L3×Bool)→Option R') (k:R'→Option R) (h:∀ s,again s=ob (again' s) k):∀ s,T15 B c17 c29 c112 c30 c31 c32 p0 p1 p2 p3 p4 p5 again (fun y=>ob (k0 y) k) s=ob (T15 B c17 c29 c112 c30 c31 c32 p0 p1 p2 p3 p4 p5 again' k0 s) k:=by
 rintro (_ | x)
 all_goals try cases x
 all_goals (unfold T15;repeat' first | exact rfl | exact h _ | apply qab | (apply qae;intro))
def R15 (c17:C17) (c29:C29) (c112:C112) (c30:C30) (c31:C31) (c32:C32) (p0:L62) (p1:L66) (p2:L43) (p3 p4:L3) (p5:L43):Nat→S15→Option (L3×L3×Bool)
 | 0,_=>none
 | n+1,s=>T15 Ops.std c17 c29 c112 c30 c31 c32 p0 p1 p2 p3 p4 p5 (R15 c17 c29 c112 c30 c31 c32 p0 p1 p2 p3 p4 p5 n) some (some s)
theorem rr15 {R:Type} (c17:C17) (c29:C29) (c112:C112) (c30:C30) (c31:C31) (c32:C32) (p0:L62) (p1:L66) (p2:L43) (p3 p4:L3) (p5:L43) (k:AV→Objs→Option R):∀ (n:Nat) (s:S15),aloop tau Ops.std gl0 X15 (ent 17 (e17 c17) (ent 29 (e29 c29) (ent 28 (e112 c112) (ent 30 (e30 c30) (ent 31 (e31 c31) (ent 32 (e32 c32) gnil)))))) ow [] Try.f15 k (I15 s) (E15 p0 p1 p2 p3 p4 p5 s) n=ob (R15 c17 c29 c112 c30 c31 c32 p0 p1 p2 p3 p4 p5 n s) (K24 k)
 | 0,s=>by cases s<;>rfl
 | n+1,s=>by rw [el15];exact nt15 Ops.std c17 c29 c112 c30 c31 c32 p0 p1 p2 p3 p4 p5 _ _ some (K24 k) (rr15 c17 c29 c112 c30 c31 c32 p0 p1 p2 p3 p4 p5 k n) (some s)
def F15 (c17:C17) (c29:C29) (c112:C112) (c30:C30) (c31:C31) (c32:C32) (p0:L62) (p1:L66) (p2:L43) (p3 p4:L3) (p5:L43):Option (L3×L3×Bool):=T15 Ops.std c17 c29 c112 c30 c31 c32 p0 p1 p2 p3 p4 p5 (R15 c17 c29 c112 c30 c31 c32 p0 p1 p2 p3 p4 p5 1000000) some none
abbrev C15:Type:=L62→L66→L43→L3→L3→L43→Option (L3×L3×Bool)
def e15 {R:Type} (c:C15):Ent R:=eG [.aG [.cL 62 ty62,.cL 66 ty66,.cL 43 ty43],.aG [.cL 3 ty3,.cL 3 ty3],.aC (.cL 43 ty43)] [] fun v k=>ob (c v.1 v.2.1 v.2.2.1 v.2.2.2.1 v.2.2.2.2.1 v.2.2.2.2.2.1) (K24 k)
abbrev Sp15 (c:C15):Prop:=∀ (p0:L62) (p1:L66) (p2:L43) (p3 p4:L3) (p5:L43) (y:L3×L3×Bool),c p0 p1 p2 p3 p4 p5=some y→Spec Try.prog gl0 15 [.agg [.list 62 ty62 p0,.list 66 ty66 p1,.list 43 ty43 p2],.agg [.list 3 ty3 p3,.list 3 ty3 p4],.c (.list 43 ty43 p5)] [] (.tup [(true,[.list 3 ty3 y.1,.list 3 ty3 y.2.1]),(false,[.bool y.2.2])]) []
theorem ek15 {R:Type} {c:C15} (hs:Sp15 c):EOk 15 (e15 (R:=R) c):=qag fun v=>hs v.1 v.2.1 v.2.2.1 v.2.2.2.1 v.2.2.2.2.1 v.2.2.2.2.2.1
theorem sf15 {c17:C17} {c29:C29} {c112:C112} {c30:C30} {c31:C31} {c32:C32} (h17:Sp17 c17) (h29:Sp29 c29) (h112:Sp112 c112) (h30:Sp30 c30) (h31:Sp31 c31) (h32:Sp32 c32):Sp15 (F15 c17 c29 c112 c30 c31 c32):=fun p0 p1 p2 p3 p4 p5 y hy=>by
 refine qad (qaa (ek17 h17) (qaa (ek29 h29) (qaa (ek112 h112) (qaa (ek30 h30) (qaa (ek31 h31) (qaa (ek32 h32) qac)))))) 1000000 (fn:=Try.f15) (by kernel_rfl) (by kernel_rfl) (X:=X15) (by kernel_rfl) ?_
 rw [eq15]
 exact (nt15 Ops.std c17 c29 c112 c30 c31 c32 p0 p1 p2 p3 p4 p5 _ _ some (K24 k0) (rr15 c17 c29 c112 c30 c31 c32 p0 p1 p2 p3 p4 p5 k0 1000000) none).trans (by show ob (F15 c17 c29 c112 c30 c31 c32 p0 p1 p2 p3 p4 p5) _=_;rw [hy];rfl)
noncomputable def M15:C15:=F15 M17 M29 M112 M30 M31 M32
theorem sm15:Sp15 M15:=sf15 sm17 sm29 sm112 sm30 sm31 sm32
def X16:Aux:=⟨[(3,([0,1,2,4,5]++rg 9 10))],[]⟩
inductive S16 where
 | l0 (v1 v2:Int) (v3:L3)
def T16 {R:Type} (B:Ops) (p0:L43) (again:S16→Option R) (k:(L3)→Option R):Option S16→Option R | none=>again (.l0 (↑p0.length) 0 (mt (Ty.den (Ty.int .i64)))) | some (.l0 v1 v2 v3)=>cond (B.lt v2 v1) (cond (B.inb v2 p0.length) (cond (B.lim (List.length v3+List.length ((p0.getD v2.toNat ty43.dflt).1::mt (Ty.den (Ty.int .i64)))) 8) (again (.l0 v1 (IntKind.wrap .i64 (v2+1)) (v3++(p0.getD v2.toNat ty43.dflt).1::mt (Ty.den (Ty.int .i64))))) none) none) (k v3)
def E16 (p0:L43):S16→List AV×Objs
 | .l0 v1 v2 v3=>(mk 19 [(3,.c (.own 3)),(6,.c (.list 43 ty43 p0)),(7,.c (.int .i64 v1)),(8,.c (.int .i64 v2))],[(3,.row 3 ty3 v3)])
def I16:S16→Nat
 | .l0 _ _ _=>0
theorem eq16 {R:Type} (B:Ops) (p0:L43) (k:AV→Objs→Option R) (n:Nat):afun tau B gl0 X16 gnil ow Try.f16 [.c (.list 43 ty43 p0)] [] k n=T16 B p0 (fun s=>aloop tau B gl0 X16 gnil ow [] Try.f16 k (I16 s) (E16 p0 s) n) (K22 k) none:=by kernel_rfl
theorem el16 {R:Type} (B:Ops) (p0:L43) (k:AV→Objs→Option R) (n:Nat):∀ s,aloop tau B gl0 X16 gnil ow [] Try.f16 k (I16 s) (E16 p0 s) (n+1)=T16 B p0 (fun s=>aloop tau B gl0 X16 gnil ow [] Try.f16 k (I16 s) (E16 p0 s) n) (K22 k) (some s):=by
 intro s
 cases s<;>kernel_rfl
theorem nt16 {R R':Type} (B:Ops) (p0:L43) (again:S16→Option R) (again':S16→Option R') (k0:(L3)→Option R') (k:R'→Option R) (h:∀ s,again s=ob (again' s) k):∀ s,T16 B p0 again (fun y=>ob (k0 y) k) s=ob (T16 B p0 again' k0 s) k:=by
 rintro (_ | x)
 all_goals try cases x
 all_goals (unfold T16;repeat' first | exact rfl | exact h _ | apply qab | (apply qae;intro))
def R16 (p0:L43):Nat→S16→Option (L3)
 | 0,_=>none
 | n+1,s=>T16 Ops.std p0 (R16 p0 n) some (some s)
theorem rr16 {R:Type} (p0:L43) (k:AV→Objs→Option R):∀ (n:Nat) (s:S16),aloop tau Ops.std gl0 X16 gnil ow [] Try.f16 k (I16 s) (E16 p0 s) n=ob (R16 p0 n s) (K22 k)
 | 0,s=>by cases s<;>rfl
 | n+1,s=>by rw [el16];exact nt16 Ops.std p0 _ _ some (K22 k) (rr16 p0 k n) (some s)
def F16 (p0:L43):Option (L3):=T16 Ops.std p0 (R16 p0 1000000) some none
abbrev C16:Type:=L43→Option (L3)
def e16 {R:Type} (c:C16):Ent R:=eG [.aC (.cL 43 ty43)] [] fun v k=>ob (c v.1) (K22 k)
abbrev Sp16 (c:C16):Prop:=∀ (p0:L43) (y:L3),c p0=some y→Spec Try.prog gl0 16 [.c (.list 43 ty43 p0)] [] (.c (.own 500)) [(500,.row 3 ty3 y)]
theorem ek16 {R:Type} {c:C16} (hs:Sp16 c):EOk 16 (e16 (R:=R) c):=qag fun v=>hs v.1
theorem sf16:Sp16 (F16):=fun p0 y hy=>by
 refine qad qac 1000000 (fn:=Try.f16) (by kernel_rfl) (by kernel_rfl) (X:=X16) (by kernel_rfl) ?_
 rw [eq16]
 exact (nt16 Ops.std p0 _ _ some (K22 k0) (rr16 p0 k0 1000000) none).trans (by show ob (F16 p0) _=_;rw [hy];rfl)
noncomputable def M16:C16:=F16
theorem sm16:Sp16 M16:=sf16
def X6:Aux:=⟨[(6,([0,1,4,5]++rg 8 10++rg 21 35))],[(11,.lin [0,1,3,2,4,5,6,7])]⟩
inductive S6 where
 | l0 (v0:Bool) (v1 v2:Int) (v8:L36) (v9:L25)
def T6 {R:Type} (B:Ops) (c13:C13) (c14:C14) (c15:C15) (c16:C16) (c17:C17) (p0:L62) (p1:L66) (p2:L43) (p3 p4:L3) (again:S6→Option R) (k:(Bool×L36)→Option R):Option S6→Option R | none=>ob (c13 p0 p1 p2 p3 p4) fun y0=>cond (!y0) (k ((false,mt (Ty.den ty36)))) (ob (c14 p0 p1 p2 p3 p4) fun y1=>again (.l0 false (↑y1.length) 0 (mt (Ty.den ty36)) y1)) | some (.l0 v0 v1 v2 v8 v9)=>cond (B.lt v2 v1) (cond (B.inb v2 v9.length) (ob (c15 p0 p1 p2 p3 p4 (v9.getD v2.toNat ty25.dflt)) fun y0=>cond (!y0.2.2) (again (.l0 true v1 (IntKind.wrap .i64 (v2+1)) v8 v9)) (ob (c16 (v9.getD v2.toNat ty25.dflt)) fun y1=>cond (B.lim (List.length v8+List.length ((y1,y0.1,y0.2.1)::mt (Ty.den ty36))) 72) (again (.l0 v0 v1 (IntKind.wrap .i64 (v2+1)) (v8++(y1,y0.1,y0.2.1)::mt (Ty.den ty36)) v9)) none)) none) (cond (B.eq (↑v8.length) 0) (cond (!v0) (ob (c17 p3 p4) fun y0=>cond (B.lim (List.length v8+List.length ((mt (Ty.den (Ty.int .i64)),y0.1,y0.2)::mt (Ty.den ty36))) 72) (k ((v0,v8++(mt (Ty.den (Ty.int .i64)),y0.1,y0.2)::mt (Ty.den ty36)))) none) (k (v0,v8))) (k (v0,v8)))
def E6 (p0:L62) (p1:L66) (p2:L43) (p3 p4:L3):S6→List AV×Objs
 | .l0 v0 v1 v2 v8 v9=>(mk 56 [(2,.c (.ptr 2 0)),(3,.c (.ptr 3 0)),(6,.c (.own 6)),(7,.c (.bool v0)),(18,.c (.own 18)),(19,.c (.int .i64 v1)),(20,.c (.int .i64 v2))],[(2,.box 27 [.list 62 ty62 p0,.list 66 ty66 p1,.list 43 ty43 p2]),(3,.box 31 [.list 3 ty3 p3,.list 3 ty3 p4]),(6,.row 36 ty36 v8),(18,.row 25 ty25 v9)])
def I6:S6→Nat
 | .l0 _ _ _ _ _=>0
abbrev K25 {R:Type} (k:AV→Objs→Option R) (y:(Bool×L36)):Option R:=k (.tup [(false,[.own 501000]),(false,[.bool y.1])]) [(501000,.row 36 ty36 y.2)]
theorem eq6 {R:Type} (B:Ops) (c13:C13) (c14:C14) (c15:C15) (c16:C16) (c17:C17) (p0:L62) (p1:L66) (p2:L43) (p3 p4:L3) (k:AV→Objs→Option R) (n:Nat):afun tau B gl0 X6 (ent 13 (e13 c13) (ent 14 (e14 c14) (ent 15 (e15 c15) (ent 16 (e16 c16) (ent 17 (e17 c17) gnil))))) ow Try.f6 [.agg [.list 62 ty62 p0,.list 66 ty66 p1,.list 43 ty43 p2],.agg [.list 3 ty3 p3,.list 3 ty3 p4]] [] k n=T6 B c13 c14 c15 c16 c17 p0 p1 p2 p3 p4 (fun s=>aloop tau B gl0 X6 (ent 13 (e13 c13) (ent 14 (e14 c14) (ent 15 (e15 c15) (ent 16 (e16 c16) (ent 17 (e17 c17) gnil))))) ow [] Try.f6 k (I6 s) (E6 p0 p1 p2 p3 p4 s) n) (K25 k) none:=by kernel_rfl
theorem el6 {R:Type} (B:Ops) (c13:C13) (c14:C14) (c15:C15) (c16:C16) (c17:C17) (p0:L62) (p1:L66) (p2:L43) (p3 p4:L3) (k:AV→Objs→Option R) (n:Nat):∀ s,aloop tau B gl0 X6 (ent 13 (e13 c13) (ent 14 (e14 c14) (ent 15 (e15 c15) (ent 16 (e16 c16) (ent 17 (e17 c17) gnil))))) ow [] Try.f6 k (I6 s) (E6 p0 p1 p2 p3 p4 s) (n+1)=T6 B c13 c14 c15 c16 c17 p0 p1 p2 p3 p4 (fun s=>aloop tau B gl0 X6 (ent 13 (e13 c13) (ent 14 (e14 c14) (ent 15 (e15 c15) (ent 16 (e16 c16) (ent 17 (e17 c17) gnil))))) ow [] Try.f6 k (I6 s) (E6 p0 p1 p2 p3 p4 s) n) (K25 k) (some s):=by
 intro s
 cases s<;>kernel_rfl
theorem nt6 {R R':Type} (B:Ops) (c13:C13) (c14:C14) (c15:C15) (c16:C16) (c17:C17) (p0:L62) (p1:L66) (p2:L43) (p3 p4:L3) (again:S6→Option R) (again':S6→Option R') (k0:(Bool×L36)→Option R') (k:R'→Option R) (h:∀ s,again s=ob (again' s) k):∀ s,T6 B c13 c14 c15 c16 c17 p0 p1 p2 p3 p4 again (fun y=>ob (k0 y) k) s=ob (T6 B c13 c14 c15 c16 c17 p0 p1 p2 p3 p4 again' k0 s) k:=by
 rintro (_ | x)
 all_goals try cases x
 all_goals (unfold T6;repeat' first | exact rfl | exact h _ | apply qab | (apply qae;intro))
def R6 (c13:C13) (c14:C14) (c15:C15) (c16:C16) (c17:C17) (p0:L62) (p1:L66) (p2:L43) (p3 p4:L3):Nat→S6→Option (Bool×L36)
 | 0,_=>none
 | n+1,s=>T6 Ops.std c13 c14 c15 c16 c17 p0 p1 p2 p3 p4 (R6 c13 c14 c15 c16 c17 p0 p1 p2 p3 p4 n) some (some s)
theorem rr6 {R:Type} (c13:C13) (c14:C14) (c15:C15) (c16:C16) (c17:C17) (p0:L62) (p1:L66) (p2:L43) (p3 p4:L3) (k:AV→Objs→Option R):∀ (n:Nat) (s:S6),aloop tau Ops.std gl0 X6 (ent 13 (e13 c13) (ent 14 (e14 c14) (ent 15 (e15 c15) (ent 16 (e16 c16) (ent 17 (e17 c17) gnil))))) ow [] Try.f6 k (I6 s) (E6 p0 p1 p2 p3 p4 s) n=ob (R6 c13 c14 c15 c16 c17 p0 p1 p2 p3 p4 n s) (K25 k)
 | 0,s=>by cases s<;>rfl
 | n+1,s=>by rw [el6];exact nt6 Ops.std c13 c14 c15 c16 c17 p0 p1 p2 p3 p4 _ _ some (K25 k) (rr6 c13 c14 c15 c16 c17 p0 p1 p2 p3 p4 k n) (some s)
def F6 (c13:C13) (c14:C14) (c15:C15) (c16:C16) (c17:C17) (p0:L62) (p1:L66) (p2:L43) (p3 p4:L3):Option (Bool×L36):=T6 Ops.std c13 c14 c15 c16 c17 p0 p1 p2 p3 p4 (R6 c13 c14 c15 c16 c17 p0 p1 p2 p3 p4 1000000) some none
abbrev C6:Type:=L62→L66→L43→L3→L3→Option (Bool×L36)
def e6 {R:Type} (c:C6):Ent R:=eG [.aG [.cL 62 ty62,.cL 66 ty66,.cL 43 ty43],.aG [.cL 3 ty3,.cL 3 ty3]] [] fun v k=>ob (c v.1 v.2.1 v.2.2.1 v.2.2.2.1 v.2.2.2.2.1) (K25 k)
abbrev Sp6 (c:C6):Prop:=∀ (p0:L62) (p1:L66) (p2:L43) (p3 p4:L3) (y:Bool×L36),c p0 p1 p2 p3 p4=some y→Spec Try.prog gl0 6 [.agg [.list 62 ty62 p0,.list 66 ty66 p1,.list 43 ty43 p2],.agg [.list 3 ty3 p3,.list 3 ty3 p4]] [] (.tup [(false,[.own 501000]),(false,[.bool y.1])]) [(501000,.row 36 ty36 y.2)]
theorem ek6 {R:Type} {c:C6} (hs:Sp6 c):EOk 6 (e6 (R:=R) c):=qag fun v=>hs v.1 v.2.1 v.2.2.1 v.2.2.2.1 v.2.2.2.2.1
theorem sf6 {c13:C13} {c14:C14} {c15:C15} {c16:C16} {c17:C17} (h13:Sp13 c13) (h14:Sp14 c14) (h15:Sp15 c15) (h16:Sp16 c16) (h17:Sp17 c17):Sp6 (F6 c13 c14 c15 c16 c17):=fun p0 p1 p2 p3 p4 y hy=>by
 refine qad (qaa (ek13 h13) (qaa (ek14 h14) (qaa (ek15 h15) (qaa (ek16 h16) (qaa (ek17 h17) qac))))) 1000000 (fn:=Try.f6) (by kernel_rfl) (by kernel_rfl) (X:=X6) (by kernel_rfl) ?_
 rw [eq6]
 exact (nt6 Ops.std c13 c14 c15 c16 c17 p0 p1 p2 p3 p4 _ _ some (K25 k0) (rr6 c13 c14 c15 c16 c17 p0 p1 p2 p3 p4 k0 1000000) none).trans (by show ob (F6 c13 c14 c15 c16 c17 p0 p1 p2 p3 p4) _=_;rw [hy];rfl)
noncomputable def M6:C6:=F6 M13 M14 M15 M16 M17
theorem sm6:Sp6 M6:=sf6 sm13 sm14 sm15 sm16 sm17
def X9:Aux:=⟨[(4,([2,3,4]++rg 6 20))],[(6,.lin [0,1,2,3,4,5,6,7,8])]⟩
inductive S9 where
 | l0 (v2:Int)
def T9 {R:Type} (B:Ops) (p0 p1:L3) (again:S9→Option R) (k:(Bool)→Option R):Option S9→Option R | none=>cond (!B.eq (↑p0.length) (↑p1.length)) (k false) (again (.l0 0)) | some (.l0 v2)=>cond (B.lt v2 (↑p0.length)) (cond (B.inb v2 p0.length) (cond (B.inb v2 p1.length) (cond (!B.eq (p0.getD v2.toNat ty3.dflt) (p1.getD v2.toNat ty3.dflt)) (k false) (again (.l0 (IntKind.wrap .i64 (v2+1))))) none) none) (k true)
def E9 (p0 p1:L3):S9→List AV×Objs
 | .l0 v2=>(mk 26 [(0,.c (.list 3 ty3 p0)),(1,.c (.list 3 ty3 p1)),(5,.c (.int .i64 v2))],[])
def I9:S9→Nat
 | .l0 _=>0
theorem eq9 {R:Type} (B:Ops) (p0 p1:L3) (k:AV→Objs→Option R) (n:Nat):afun tau B gl0 X9 gnil ow Try.f9 [.c (.list 3 ty3 p0),.c (.list 3 ty3 p1)] [] k n=T9 B p0 p1 (fun s=>aloop tau B gl0 X9 gnil ow [] Try.f9 k (I9 s) (E9 p0 p1 s) n) (K2 k) none:=by kernel_rfl
theorem el9 {R:Type} (B:Ops) (p0 p1:L3) (k:AV→Objs→Option R) (n:Nat):∀ s,aloop tau B gl0 X9 gnil ow [] Try.f9 k (I9 s) (E9 p0 p1 s) (n+1)=T9 B p0 p1 (fun s=>aloop tau B gl0 X9 gnil ow [] Try.f9 k (I9 s) (E9 p0 p1 s) n) (K2 k) (some s):=by
 intro s
 cases s<;>kernel_rfl
theorem nt9 {R R':Type} (B:Ops) (p0 p1:L3) (again:S9→Option R) (again':S9→Option R') (k0:(Bool)→Option R') (k:R'→Option R) (h:∀ s,again s=ob (again' s) k):∀ s,T9 B p0 p1 again (fun y=>ob (k0 y) k) s=ob (T9 B p0 p1 again' k0 s) k:=by
 rintro (_ | x)
 all_goals try cases x
 all_goals (unfold T9;repeat' first | exact rfl | exact h _ | apply qab | (apply qae;intro))
def R9 (p0 p1:L3):Nat→S9→Option (Bool)
 | 0,_=>none
 | n+1,s=>T9 Ops.std p0 p1 (R9 p0 p1 n) some (some s)
theorem rr9 {R:Type} (p0 p1:L3) (k:AV→Objs→Option R):∀ (n:Nat) (s:S9),aloop tau Ops.std gl0 X9 gnil ow [] Try.f9 k (I9 s) (E9 p0 p1 s) n=ob (R9 p0 p1 n s) (K2 k)
 | 0,s=>by cases s<;>rfl
 | n+1,s=>by rw [el9];exact nt9 Ops.std p0 p1 _ _ some (K2 k) (rr9 p0 p1 k n) (some s)
def F9 (p0 p1:L3):Option (Bool):=T9 Ops.std p0 p1 (R9 p0 p1 1000000) some none
abbrev C9:Type:=L3→L3→Option (Bool)
def e9 {R:Type} (c:C9):Ent R:=eG [.aC (.cL 3 ty3),.aC (.cL 3 ty3)] [] fun v k=>ob (c v.1 v.2.1) (K2 k)
abbrev Sp9 (c:C9):Prop:=∀ (p0 p1:L3) (y:Bool),c p0 p1=some y→Spec Try.prog gl0 9 [.c (.list 3 ty3 p0),.c (.list 3 ty3 p1)] [] (.c (.bool y)) []
theorem ek9 {R:Type} {c:C9} (hs:Sp9 c):EOk 9 (e9 (R:=R) c):=qag fun v=>hs v.1 v.2.1
theorem sf9:Sp9 (F9):=fun p0 p1 y hy=>by
 refine qad qac 1000000 (fn:=Try.f9) (by kernel_rfl) (by kernel_rfl) (X:=X9) (by kernel_rfl) ?_
 rw [eq9]
 exact (nt9 Ops.std p0 p1 _ _ some (K2 k0) (rr9 p0 p1 k0 1000000) none).trans (by show ob (F9 p0 p1) _=_;rw [hy];rfl)
noncomputable def M9:C9:=F9
theorem sm9:Sp9 M9:=sf9
def X18:Aux:=⟨[(4,(rg 2 10++rg 14 12))],[(6,.lin [0,1,2,3,4,5,6,7,8])]⟩
inductive S18 where
 | l0 (v2 v3:Int)
def T18 {R:Type} (B:Ops) (p0 p1:L3) (again:S18→Option R) (k:(Bool)→Option R):Option S18→Option R | none=>cond (!B.eq (↑p0.length) (↑p1.length)) (k false) (again (.l0 (↑p0.length) 0)) | some (.l0 v2 v3)=>cond (B.lt v3 v2) (cond (B.inb v3 p0.length) (cond (B.inb v3 p1.length) (cond (!B.eq (p0.getD v3.toNat ty3.dflt) (p1.getD v3.toNat ty3.dflt)) (k false) (again (.l0 v2 (IntKind.wrap .i64 (v3+1))))) none) none) (k true)
def E18 (p0 p1:L3):S18→List AV×Objs
 | .l0 v2 v3=>(mk 26 [(0,.c (.list 3 ty3 p0)),(1,.c (.list 3 ty3 p1)),(12,.c (.int .i64 v2)),(13,.c (.int .i64 v3))],[])
def I18:S18→Nat
 | .l0 _ _=>0
theorem eq18 {R:Type} (B:Ops) (p0 p1:L3) (k:AV→Objs→Option R) (n:Nat):afun tau B gl0 X18 gnil ow Try.f18 [.c (.list 3 ty3 p0),.c (.list 3 ty3 p1)] [] k n=T18 B p0 p1 (fun s=>aloop tau B gl0 X18 gnil ow [] Try.f18 k (I18 s) (E18 p0 p1 s) n) (K2 k) none:=by kernel_rfl
theorem el18 {R:Type} (B:Ops) (p0 p1:L3) (k:AV→Objs→Option R) (n:Nat):∀ s,aloop tau B gl0 X18 gnil ow [] Try.f18 k (I18 s) (E18 p0 p1 s) (n+1)=T18 B p0 p1 (fun s=>aloop tau B gl0 X18 gnil ow [] Try.f18 k (I18 s) (E18 p0 p1 s) n) (K2 k) (some s):=by
 intro s
 cases s<;>kernel_rfl
theorem nt18 {R R':Type} (B:Ops) (p0 p1:L3) (again:S18→Option R) (again':S18→Option R') (k0:(Bool)→Option R') (k:R'→Option R) (h:∀ s,again s=ob (again' s) k):∀ s,T18 B p0 p1 again (fun y=>ob (k0 y) k) s=ob (T18 B p0 p1 again' k0 s) k:=by
 rintro (_ | x)
 all_goals try cases x
 all_goals (unfold T18;repeat' first | exact rfl | exact h _ | apply qab | (apply qae;intro))
def R18 (p0 p1:L3):Nat→S18→Option (Bool)
 | 0,_=>none
 | n+1,s=>T18 Ops.std p0 p1 (R18 p0 p1 n) some (some s)
theorem rr18 {R:Type} (p0 p1:L3) (k:AV→Objs→Option R):∀ (n:Nat) (s:S18),aloop tau Ops.std gl0 X18 gnil ow [] Try.f18 k (I18 s) (E18 p0 p1 s) n=ob (R18 p0 p1 n s) (K2 k)
 | 0,s=>by cases s<;>rfl
 | n+1,s=>by rw [el18];exact nt18 Ops.std p0 p1 _ _ some (K2 k) (rr18 p0 p1 k n) (some s)
def F18 (p0 p1:L3):Option (Bool):=T18 Ops.std p0 p1 (R18 p0 p1 1000000) some none
abbrev C18:Type:=L3→L3→Option (Bool)
def e18 {R:Type} (c:C18):Ent R:=eG [.aC (.cL 3 ty3),.aC (.cL 3 ty3)] [] fun v k=>ob (c v.1 v.2.1) (K2 k)
abbrev Sp18 (c:C18):Prop:=∀ (p0 p1:L3) (y:Bool),c p0 p1=some y→Spec Try.prog gl0 18 [.c (.list 3 ty3 p0),.c (.list 3 ty3 p1)] [] (.c (.bool y)) []
theorem ek18 {R:Type} {c:C18} (hs:Sp18 c):EOk 18 (e18 (R:=R) c):=qag fun v=>hs v.1 v.2.1
theorem sf18:Sp18 (F18):=fun p0 p1 y hy=>by
 refine qad qac 1000000 (fn:=Try.f18) (by kernel_rfl) (by kernel_rfl) (X:=X18) (by kernel_rfl) ?_
 rw [eq18]
 exact (nt18 Ops.std p0 p1 _ _ some (K2 k0) (rr18 p0 p1 k0 1000000) none).trans (by show ob (F18 p0 p1) _=_;rw [hy];rfl)
noncomputable def M18:C18:=F18
theorem sm18:Sp18 M18:=sf18
def X7:Aux:=⟨[(3,([0,1,5]++rg 7 13++rg 23 30)),(11,([0,1,3,4,5]++rg 7 33++rg 43 10)),(2000000,[])],[]⟩
inductive S7 where
 | l0 (v1 v2:Int) (v8:L36)
 | l1 (v1 v2:Int) (v3:L25)
def T7 {R:Type} (B:Ops) (c6:C6) (c18:C18) (c13:C13) (c14:C14) (c16:C16) (p0:L62) (p1:L66) (p2:L43) (p3 p4 p5:L3) (again:S7→Option R) (k:(L3×L3×Int)→Option R):Option S7→Option R | none=>ob (c6 p0 p1 p2 p3 p4) fun y0=>again (.l0 (Nat.cast (List.length y0.2)) 0 y0.2) | some (.l0 v1 v2 v8)=>cond (B.lt v2 v1) (cond (B.inb v2 v8.length) (ob (c18 ((v8.getD v2.toNat ty36.dflt).1) p5) fun y0=>cond (y0) (k ((((v8.getD v2.toNat ty36.dflt).2).1,((v8.getD v2.toNat ty36.dflt).2).2,0))) (again (.l0 v1 (IntKind.wrap .i64 (v2+1)) v8))) none) (ob (c13 p0 p1 p2 p3 p4) fun y0=>cond (!y0) (k ((mt (Ty.den (Ty.int .i64)),mt (Ty.den (Ty.int .i64)),6))) (ob (c14 p0 p1 p2 p3 p4) fun y1=>again (.l1 (↑y1.length) 0 y1))) | some (.l1 v1 v2 v3)=>cond (B.lt v2 v1) (cond (B.inb v2 v3.length) (ob (c16 (v3.getD v2.toNat ty25.dflt)) fun y0=>ob (c18 y0 p5) fun y1=>cond (y1) (k ((mt (Ty.den (Ty.int .i64)),mt (Ty.den (Ty.int .i64)),8))) (again (.l1 v1 (IntKind.wrap .i64 (v2+1)) v3))) none) (k ((mt (Ty.den (Ty.int .i64)),mt (Ty.den (Ty.int .i64)),6)))
def E7 (p0:L62) (p1:L66) (p2:L43) (p3 p4 p5:L3):S7→List AV×Objs
 | .l0 v1 v2 v8=>(mk 53 [(2,.c (.list 3 ty3 p5)),(3,.c (.ptr 3 0)),(4,.c (.ptr 4 0)),(6,.c (.ptr 6 0)),(20,.c (.own 20)),(21,.c (.int .i64 v1)),(22,.c (.int .i64 v2))],[(3,.box 27 [.list 62 ty62 p0,.list 66 ty66 p1,.list 43 ty43 p2]),(4,.box 31 [.list 3 ty3 p3,.list 3 ty3 p4]),(6,.box 31 [.own 7000,.own 7001]),(20,.row 36 ty36 v8),(7000,.row 3 ty3 (mt (Ty.den (Ty.int .i64)))),(7001,.row 3 ty3 (mt (Ty.den (Ty.int .i64))))])
 | .l1 v1 v2 v3=>(mk 53 [(2,.c (.list 3 ty3 p5)),(6,.c (.ptr 6 0)),(40,.c (.own 40)),(41,.c (.int .i64 v1)),(42,.c (.int .i64 v2))],[(6,.box 31 [.own 7000,.own 7001]),(40,.row 25 ty25 v3),(7000,.row 3 ty3 (mt (Ty.den (Ty.int .i64)))),(7001,.row 3 ty3 (mt (Ty.den (Ty.int .i64))))])
def I7:S7→Nat
 | .l0 _ _ _=>0
 | .l1 _ _ _=>1
abbrev K26 {R:Type} (k:AV→Objs→Option R) (y:(L3×L3×Int)):Option R:=k (.tup [(true,[.list 3 ty3 y.1,.list 3 ty3 y.2.1]),(false,[.int .i64 y.2.2])]) []
theorem eq7 {R:Type} (B:Ops) (c6:C6) (c18:C18) (c13:C13) (c14:C14) (c16:C16) (p0:L62) (p1:L66) (p2:L43) (p3 p4 p5:L3) (k:AV→Objs→Option R) (n:Nat):afun tau B gl0 X7 (ent 6 (e6 c6) (ent 18 (e18 c18) (ent 13 (e13 c13) (ent 14 (e14 c14) (ent 16 (e16 c16) gnil))))) ow Try.f7 [.agg [.list 62 ty62 p0,.list 66 ty66 p1,.list 43 ty43 p2],.agg [.list 3 ty3 p3,.list 3 ty3 p4],.c (.list 3 ty3 p5)] [] k n=T7 B c6 c18 c13 c14 c16 p0 p1 p2 p3 p4 p5 (fun s=>aloop tau B gl0 X7 (ent 6 (e6 c6) (ent 18 (e18 c18) (ent 13 (e13 c13) (ent 14 (e14 c14) (ent 16 (e16 c16) gnil))))) ow [] Try.f7 k (I7 s) (E7 p0 p1 p2 p3 p4 p5 s) n) (K26 k) none:=by kernel_rfl
theorem el7 {R:Type} (B:Ops) (c6:C6) (c18:C18) (c13:C13) (c14:C14) (c16:C16) (p0:L62) (p1:L66) (p2:L43) (p3 p4 p5:L3) (k:AV→Objs→Option R) (n:Nat):∀ s,aloop tau B gl0 X7 (ent 6 (e6 c6) (ent 18 (e18 c18) (ent 13 (e13 c13) (ent 14 (e14 c14) (ent 16 (e16 c16) gnil))))) ow [] Try.f7 k (I7 s) (E7 p0 p1 p2 p3 p4 p5 s) (n+1)=T7 B c6 c18 c13 c14 c16 p0 p1 p2 p3 p4 p5 (fun s=>aloop tau B gl0 X7 (ent 6 (e6 c6) (ent 18 (e18 c18) (ent 13 (e13 c13) (ent 14 (e14 c14) (ent 16 (e16 c16) gnil))))) ow [] Try.f7 k (I7 s) (E7 p0 p1 p2 p3 p4 p5 s) n) (K26 k) (some s):=by
 intro s
 cases s<;>kernel_rfl
theorem nt7 {R R':Type} (B:Ops) (c6:C6) (c18:C18) (c13:C13) (c14:C14) (c16:C16) (p0:L62) (p1:L66) (p2:L43) (p3 p4 p5:L3) (again:S7→Option R) (again':S7→Option R') (k0:(L3×L3×Int)→Option R') (k:R'→Option R) (h:∀ s,again s=ob (again' s) k):∀ s,T7 B c6 c18 c13 c14 c16 p0 p1 p2 p3 p4 p5 again (fun y=>ob (k0 y) k) s=ob (T7 B c6 c18 c13 c14 c16 p0 p1 p2 p3 p4 p5 again' k0 s) k:=by
 rintro (_ | x)
 all_goals try cases x
 all_goals (unfold T7;repeat' first | exact rfl | exact h _ | apply qab | (apply qae;intro))
def R7 (c6:C6) (c18:C18) (c13:C13) (c14:C14) (c16:C16) (p0:L62) (p1:L66) (p2:L43) (p3 p4 p5:L3):Nat→S7→Option (L3×L3×Int)
 | 0,_=>none
 | n+1,s=>T7 Ops.std c6 c18 c13 c14 c16 p0 p1 p2 p3 p4 p5 (R7 c6 c18 c13 c14 c16 p0 p1 p2 p3 p4 p5 n) some (some s)
theorem rr7 {R:Type} (c6:C6) (c18:C18) (c13:C13) (c14:C14) (c16:C16) (p0:L62) (p1:L66) (p2:L43) (p3 p4 p5:L3) (k:AV→Objs→Option R):∀ (n:Nat) (s:S7),aloop tau Ops.std gl0 X7 (ent 6 (e6 c6) (ent 18 (e18 c18) (ent 13 (e13 c13) (ent 14 (e14 c14) (ent 16 (e16 c16) gnil))))) ow [] Try.f7 k (I7 s) (E7 p0 p1 p2 p3 p4 p5 s) n=ob (R7 c6 c18 c13 c14 c16 p0 p1 p2 p3 p4 p5 n s) (K26 k)
 | 0,s=>by cases s<;>rfl
 | n+1,s=>by rw [el7];exact nt7 Ops.std c6 c18 c13 c14 c16 p0 p1 p2 p3 p4 p5 _ _ some (K26 k) (rr7 c6 c18 c13 c14 c16 p0 p1 p2 p3 p4 p5 k n) (some s)
def F7 (c6:C6) (c18:C18) (c13:C13) (c14:C14) (c16:C16) (p0:L62) (p1:L66) (p2:L43) (p3 p4 p5:L3):Option (L3×L3×Int):=T7 Ops.std c6 c18 c13 c14 c16 p0 p1 p2 p3 p4 p5 (R7 c6 c18 c13 c14 c16 p0 p1 p2 p3 p4 p5 1000000) some none
abbrev C7:Type:=L62→L66→L43→L3→L3→L3→Option (L3×L3×Int)
def e7 {R:Type} (c:C7):Ent R:=eG [.aG [.cL 62 ty62,.cL 66 ty66,.cL 43 ty43],.aG [.cL 3 ty3,.cL 3 ty3],.aC (.cL 3 ty3)] [] fun v k=>ob (c v.1 v.2.1 v.2.2.1 v.2.2.2.1 v.2.2.2.2.1 v.2.2.2.2.2.1) (K26 k)
abbrev Sp7 (c:C7):Prop:=∀ (p0:L62) (p1:L66) (p2:L43) (p3 p4 p5:L3) (y:L3×L3×Int),c p0 p1 p2 p3 p4 p5=some y→Spec Try.prog gl0 7 [.agg [.list 62 ty62 p0,.list 66 ty66 p1,.list 43 ty43 p2],.agg [.list 3 ty3 p3,.list 3 ty3 p4],.c (.list 3 ty3 p5)] [] (.tup [(true,[.list 3 ty3 y.1,.list 3 ty3 y.2.1]),(false,[.int .i64 y.2.2])]) []
theorem ek7 {R:Type} {c:C7} (hs:Sp7 c):EOk 7 (e7 (R:=R) c):=qag fun v=>hs v.1 v.2.1 v.2.2.1 v.2.2.2.1 v.2.2.2.2.1 v.2.2.2.2.2.1
theorem sf7 {c6:C6} {c18:C18} {c13:C13} {c14:C14} {c16:C16} (h6:Sp6 c6) (h18:Sp18 c18) (h13:Sp13 c13) (h14:Sp14 c14) (h16:Sp16 c16):Sp7 (F7 c6 c18 c13 c14 c16):=fun p0 p1 p2 p3 p4 p5 y hy=>by
 refine qad (qaa (ek6 h6) (qaa (ek18 h18) (qaa (ek13 h13) (qaa (ek14 h14) (qaa (ek16 h16) qac))))) 1000000 (fn:=Try.f7) (by kernel_rfl) (by kernel_rfl) (X:=X7) (by kernel_rfl) ?_
 rw [eq7]
 exact (nt7 Ops.std c6 c18 c13 c14 c16 p0 p1 p2 p3 p4 p5 _ _ some (K26 k0) (rr7 c6 c18 c13 c14 c16 p0 p1 p2 p3 p4 p5 k0 1000000) none).trans (by show ob (F7 c6 c18 c13 c14 c16 p0 p1 p2 p3 p4 p5) _=_;rw [hy];rfl)
noncomputable def M7:C7:=F7 M6 M18 M13 M14 M16
theorem sm7:Sp7 M7:=sf7 sm6 sm18 sm13 sm14 sm16
def X8:Aux:=⟨[(2,([0,3,5]++rg 7 21)),(2000000,[])],[]⟩
inductive S8 where
 | l0 (v1:Int)
def T8 {R:Type} (B:Ops) (p0:L62) (p1:L66) (p2:L43) (p3:Int) (again:S8→Option R) (k:(Int×LB×LB×LB×LB×L95×L73×Bool)→Option R):Option S8→Option R | none=>again (.l0 0) | some (.l0 v1)=>cond (B.lt v1 (↑p2.length)) (cond (B.inb v1 p2.length) (cond (B.eq ((p2.getD v1.toNat ty43.dflt).1) p3) (cond (B.inb v1 p2.length) (k (((p2.getD v1.toNat ty43.dflt).1,((p2.getD v1.toNat ty43.dflt).2).1,(((p2.getD v1.toNat ty43.dflt).2).2).1,((((p2.getD v1.toNat ty43.dflt).2).2).2).1,(((((p2.getD v1.toNat ty43.dflt).2).2).2).2).1,Prod.fst ((((((p2.getD v1.toNat ty43.dflt).2).2).2).2).2),Prod.snd ((((((p2.getD v1.toNat ty43.dflt).2).2).2).2).2),true))) none) (again (.l0 (IntKind.wrap .i64 (v1+1))))) none) (k ((0,mt UInt8,mt UInt8,mt UInt8,mt UInt8,mt (Ty.den ty95),mt (Ty.den ty73),false)))
def E8 (p0:L62) (p1:L66) (p2:L43) (p3:Int):S8→List AV×Objs
 | .l0 v1=>(mk 28 [(1,.c (.int .i64 p3)),(2,.c (.ptr 2 0)),(4,.c (.ptr 4 0)),(6,.c (.int .i64 v1))],[(2,.box 27 [.list 62 ty62 p0,.list 66 ty66 p1,.list 43 ty43 p2]),(4,.box 43 [.int .i64 0,.str (mt UInt8),.str (mt UInt8),.str (mt UInt8),.str (mt UInt8),.own 5005,.own 5006]),(5005,.row 95 ty95 (mt (Ty.den ty95))),(5006,.row 73 ty73 (mt (Ty.den ty73)))])
def I8:S8→Nat
 | .l0 _=>0
abbrev K27 {R:Type} (k:AV→Objs→Option R) (y:(Int×LB×LB×LB×LB×L95×L73×Bool)):Option R:=k (.tup [(true,[.int .i64 y.1,.str y.2.1,.str y.2.2.1,.str y.2.2.2.1,.str y.2.2.2.2.1,.list 95 ty95 y.2.2.2.2.2.1,.list 73 ty73 y.2.2.2.2.2.2.1]),(false,[.bool y.2.2.2.2.2.2.2])]) []
theorem eq8 {R:Type} (B:Ops) (p0:L62) (p1:L66) (p2:L43) (p3:Int) (k:AV→Objs→Option R) (n:Nat):afun tau B gl0 X8 gnil ow Try.f8 [.agg [.list 62 ty62 p0,.list 66 ty66 p1,.list 43 ty43 p2],.c (.int .i64 p3)] [] k n=T8 B p0 p1 p2 p3 (fun s=>aloop tau B gl0 X8 gnil ow [] Try.f8 k (I8 s) (E8 p0 p1 p2 p3 s) n) (K27 k) none:=by kernel_rfl
theorem el8 {R:Type} (B:Ops) (p0:L62) (p1:L66) (p2:L43) (p3:Int) (k:AV→Objs→Option R) (n:Nat):∀ s,aloop tau B gl0 X8 gnil ow [] Try.f8 k (I8 s) (E8 p0 p1 p2 p3 s) (n+1)=T8 B p0 p1 p2 p3 (fun s=>aloop tau B gl0 X8 gnil ow [] Try.f8 k (I8 s) (E8 p0 p1 p2 p3 s) n) (K27 k) (some s):=by
 intro s
 cases s<;>kernel_rfl
theorem nt8 {R R':Type} (B:Ops) (p0:L62) (p1:L66) (p2:L43) (p3:Int) (again:S8→Option R) (again':S8→Option R') (k0:(Int×LB×LB×LB×LB×L95×L73×Bool)→Option R') (k:R'→Option R) (h:∀ s,again s=ob (again' s) k):∀ s,T8 B p0 p1 p2 p3 again (fun y=>ob (k0 y) k) s=ob (T8 B p0 p1 p2 p3 again' k0 s) k:=by
 rintro (_ | x)
 all_goals try cases x
 all_goals (unfold T8;repeat' first | exact rfl | exact h _ | apply qab | (apply qae;intro))
def R8 (p0:L62) (p1:L66) (p2:L43) (p3:Int):Nat→S8→Option (Int×LB×LB×LB×LB×L95×L73×Bool)
 | 0,_=>none
 | n+1,s=>T8 Ops.std p0 p1 p2 p3 (R8 p0 p1 p2 p3 n) some (some s)
theorem rr8 {R:Type} (p0:L62) (p1:L66) (p2:L43) (p3:Int) (k:AV→Objs→Option R):∀ (n:Nat) (s:S8),aloop tau Ops.std gl0 X8 gnil ow [] Try.f8 k (I8 s) (E8 p0 p1 p2 p3 s) n=ob (R8 p0 p1 p2 p3 n s) (K27 k)
 | 0,s=>by cases s<;>rfl
 | n+1,s=>by rw [el8];exact nt8 Ops.std p0 p1 p2 p3 _ _ some (K27 k) (rr8 p0 p1 p2 p3 k n) (some s)
def F8 (p0:L62) (p1:L66) (p2:L43) (p3:Int):Option (Int×LB×LB×LB×LB×L95×L73×Bool):=T8 Ops.std p0 p1 p2 p3 (R8 p0 p1 p2 p3 1000000) some none
abbrev C8:Type:=L62→L66→L43→Int→Option (Int×LB×LB×LB×LB×L95×L73×Bool)
def e8 {R:Type} (c:C8):Ent R:=eG [.aG [.cL 62 ty62,.cL 66 ty66,.cL 43 ty43],.aC (.cI .i64)] [] fun v k=>ob (c v.1 v.2.1 v.2.2.1 v.2.2.2.1) (K27 k)
abbrev Sp8 (c:C8):Prop:=∀ (p0:L62) (p1:L66) (p2:L43) (p3:Int) (y:Int×LB×LB×LB×LB×L95×L73×Bool),c p0 p1 p2 p3=some y→Spec Try.prog gl0 8 [.agg [.list 62 ty62 p0,.list 66 ty66 p1,.list 43 ty43 p2],.c (.int .i64 p3)] [] (.tup [(true,[.int .i64 y.1,.str y.2.1,.str y.2.2.1,.str y.2.2.2.1,.str y.2.2.2.2.1,.list 95 ty95 y.2.2.2.2.2.1,.list 73 ty73 y.2.2.2.2.2.2.1]),(false,[.bool y.2.2.2.2.2.2.2])]) []
theorem ek8 {R:Type} {c:C8} (hs:Sp8 c):EOk 8 (e8 (R:=R) c):=qag fun v=>hs v.1 v.2.1 v.2.2.1 v.2.2.2.1
theorem sf8:Sp8 (F8):=fun p0 p1 p2 p3 y hy=>by
 refine qad qac 1000000 (fn:=Try.f8) (by kernel_rfl) (by kernel_rfl) (X:=X8) (by kernel_rfl) ?_
 rw [eq8]
 exact (nt8 Ops.std p0 p1 p2 p3 _ _ some (K27 k0) (rr8 p0 p1 p2 p3 k0 1000000) none).trans (by show ob (F8 p0 p1 p2 p3) _=_;rw [hy];rfl)
noncomputable def M8:C8:=F8
theorem sm8:Sp8 M8:=sf8
def X10:Aux:=⟨[],[]⟩
def T10 {R:Type} (B:Ops) (c9:C9) (p0 p1 p2 p3:L3) (k:(Bool)→Option R):Option R:=ob (c9 p0 p2) fun y0=>cond (y0) (ob (c9 p1 p3) fun y1=>k y1) (k false)
theorem eq10 {R:Type} (B:Ops) (c9:C9) (p0 p1 p2 p3:L3) (k:AV→Objs→Option R) (n:Nat):afun tau B gl0 X10 (ent 9 (e9 c9) gnil) ow Try.f10 [.agg [.list 3 ty3 p0,.list 3 ty3 p1],.agg [.list 3 ty3 p2,.list 3 ty3 p3]] [] k n=T10 B c9 p0 p1 p2 p3 (K2 k):=by kernel_rfl
theorem nt10 {R R':Type} (B:Ops) (c9:C9) (p0 p1 p2 p3:L3) (k0:(Bool)→Option R') (k:R'→Option R):T10 B c9 p0 p1 p2 p3 (fun y=>ob (k0 y) k)=ob (T10 B c9 p0 p1 p2 p3 k0) k:=by
 unfold T10
 repeat' first | exact rfl | apply qab | (apply qae;intro)
def F10 (c9:C9) (p0 p1 p2 p3:L3):Option (Bool):=T10 Ops.std c9 p0 p1 p2 p3 some
abbrev C10:Type:=L3→L3→L3→L3→Option (Bool)
def e10 {R:Type} (c:C10):Ent R:=eG [.aG [.cL 3 ty3,.cL 3 ty3],.aG [.cL 3 ty3,.cL 3 ty3]] [] fun v k=>ob (c v.1 v.2.1 v.2.2.1 v.2.2.2.1) (K2 k)
abbrev Sp10 (c:C10):Prop:=∀ (p0 p1 p2 p3:L3) (y:Bool),c p0 p1 p2 p3=some y→Spec Try.prog gl0 10 [.agg [.list 3 ty3 p0,.list 3 ty3 p1],.agg [.list 3 ty3 p2,.list 3 ty3 p3]] [] (.c (.bool y)) []
theorem ek10 {R:Type} {c:C10} (hs:Sp10 c):EOk 10 (e10 (R:=R) c):=qag fun v=>hs v.1 v.2.1 v.2.2.1 v.2.2.2.1
theorem sf10 {c9:C9} (h9:Sp9 c9):Sp10 (F10 c9):=fun p0 p1 p2 p3 y hy=>by
 refine qad (qaa (ek9 h9) qac) 1000000 (fn:=Try.f10) (by kernel_rfl) (by kernel_rfl) (X:=X10) (by kernel_rfl) ?_
 rw [eq10]
 exact (nt10 Ops.std c9 p0 p1 p2 p3 some (K2 k0)).trans (by show ob (F10 c9 p0 p1 p2 p3) _=_;rw [hy];rfl)
noncomputable def M10:C10:=F10 M9
theorem sm10:Sp10 M10:=sf10 sm9
def X11:Aux:=⟨[],[]⟩
def T11 {R:Type} (B:Ops) (c13:C13) (c19:C19) (p0:L62) (p1:L66) (p2:L43) (p3 p4:L3) (p5:Int) (p6 p7 p8 p9:LB) (p10:L95) (p11:L73) (k:(Bool)→Option R):Option R:=ob (c13 p0 p1 p2 p3 p4) fun y0=>cond (y0) (ob (c19 p0 p1 p2 p3 p4 p5 p6 p7 p8 p9 p10 p11) fun y1=>k y1) (k false)
theorem eq11 {R:Type} (B:Ops) (c13:C13) (c19:C19) (p0:L62) (p1:L66) (p2:L43) (p3 p4:L3) (p5:Int) (p6 p7 p8 p9:LB) (p10:L95) (p11:L73) (k:AV→Objs→Option R) (n:Nat):afun tau B gl0 X11 (ent 13 (e13 c13) (ent 19 (e19 c19) gnil)) ow Try.f11 [.agg [.list 62 ty62 p0,.list 66 ty66 p1,.list 43 ty43 p2],.agg [.list 3 ty3 p3,.list 3 ty3 p4],.agg [.int .i64 p5,.str p6,.str p7,.str p8,.str p9,.list 95 ty95 p10,.list 73 ty73 p11]] [] k n=T11 B c13 c19 p0 p1 p2 p3 p4 p5 p6 p7 p8 p9 p10 p11 (K2 k):=by kernel_rfl
theorem nt11 {R R':Type} (B:Ops) (c13:C13) (c19:C19) (p0:L62) (p1:L66) (p2:L43) (p3 p4:L3) (p5:Int) (p6 p7 p8 p9:LB) (p10:L95) (p11:L73) (k0:(Bool)→Option R') (k:R'→Option R):T11 B c13 c19 p0 p1 p2 p3 p4 p5 p6 p7 p8 p9 p10 p11 (fun y=>ob (k0 y) k)=ob (T11 B c13 c19 p0 p1 p2 p3 p4 p5 p6 p7 p8 p9 p10 p11 k0) k:=by
 unfold T11
 repeat' first | exact rfl | apply qab | (apply qae;intro)
def F11 (c13:C13) (c19:C19) (p0:L62) (p1:L66) (p2:L43) (p3 p4:L3) (p5:Int) (p6 p7 p8 p9:LB) (p10:L95) (p11:L73):Option (Bool):=T11 Ops.std c13 c19 p0 p1 p2 p3 p4 p5 p6 p7 p8 p9 p10 p11 some
abbrev C11:Type:=L62→L66→L43→L3→L3→Int→LB→LB→LB→LB→L95→L73→Option (Bool)
def e11 {R:Type} (c:C11):Ent R:=eG [.aG [.cL 62 ty62,.cL 66 ty66,.cL 43 ty43],.aG [.cL 3 ty3,.cL 3 ty3],.aG [.cI .i64,.cS,.cS,.cS,.cS,.cL 95 ty95,.cL 73 ty73]] [] fun v k=>ob (c v.1 v.2.1 v.2.2.1 v.2.2.2.1 v.2.2.2.2.1 v.2.2.2.2.2.1 v.2.2.2.2.2.2.1 v.2.2.2.2.2.2.2.1 v.2.2.2.2.2.2.2.2.1 v.2.2.2.2.2.2.2.2.2.1 v.2.2.2.2.2.2.2.2.2.2.1 v.2.2.2.2.2.2.2.2.2.2.2.1) (K2 k)
abbrev Sp11 (c:C11):Prop:=∀ (p0:L62) (p1:L66) (p2:L43) (p3 p4:L3) (p5:Int) (p6 p7 p8 p9:LB) (p10:L95) (p11:L73) (y:Bool),c p0 p1 p2 p3 p4 p5 p6 p7 p8 p9 p10 p11=some y→Spec Try.prog gl0 11 [.agg [.list 62 ty62 p0,.list 66 ty66 p1,.list 43 ty43 p2],.agg [.list 3 ty3 p3,.list 3 ty3 p4],.agg [.int .i64 p5,.str p6,.str p7,.str p8,.str p9,.list 95 ty95 p10,.list 73 ty73 p11]] [] (.c (.bool y)) []
theorem ek11 {R:Type} {c:C11} (hs:Sp11 c):EOk 11 (e11 (R:=R) c):=qag fun v=>hs v.1 v.2.1 v.2.2.1 v.2.2.2.1 v.2.2.2.2.1 v.2.2.2.2.2.1 v.2.2.2.2.2.2.1 v.2.2.2.2.2.2.2.1 v.2.2.2.2.2.2.2.2.1 v.2.2.2.2.2.2.2.2.2.1 v.2.2.2.2.2.2.2.2.2.2.1 v.2.2.2.2.2.2.2.2.2.2.2.1
theorem sf11 {c13:C13} {c19:C19} (h13:Sp13 c13) (h19:Sp19 c19):Sp11 (F11 c13 c19):=fun p0 p1 p2 p3 p4 p5 p6 p7 p8 p9 p10 p11 y hy=>by
 refine qad (qaa (ek13 h13) (qaa (ek19 h19) qac)) 1000000 (fn:=Try.f11) (by kernel_rfl) (by kernel_rfl) (X:=X11) (by kernel_rfl) ?_
 rw [eq11]
 exact (nt11 Ops.std c13 c19 p0 p1 p2 p3 p4 p5 p6 p7 p8 p9 p10 p11 some (K2 k0)).trans (by show ob (F11 c13 c19 p0 p1 p2 p3 p4 p5 p6 p7 p8 p9 p10 p11) _=_;rw [hy];rfl)
noncomputable def M11:C11:=F11 M13 M19
theorem sm11:Sp11 M11:=sf11 sm13 sm19
def X55:Aux:=⟨[(5,([1,2,3,4]++rg 7 144)),(17,([1,2,3,4]++rg 9 142)),(25,([1,2,3,4]++rg 9 142)),(1000020,([1,2,3,4]++rg 9 142)),(1000026,([1,2,3,4]++rg 9 142)),(1000027,([1,2,3,4]++rg 9 142)),(1000031,([1,2,3,4,7]++rg 9 142)),(1000010,([1,2,3,4,7]++rg 9 142)),(1000032,([1,2,3,4]++rg 9 142))],[(19,.lin (rg 0 13))]⟩
inductive S55 where
 | l0 (v1:Int) (v2:L111)
 | l1 (v1 v2:Int) (v3:L111) (v6 v7:Int)
 | l2 (v1 v2:Int) (v3:L111) (v7:Int)
 | l1010 (v1:Int) (v2:L111) (v6:Int)
 | l1020 (v1 v2:Int) (v3:L111) (v6 v7:Int)
 | l1026 (v1 v2:Int) (v3:L111) (v7:Int)
 | l1027 (v1 v2:Int) (v3:L111) (v7:Int)
 | l1031 (v1:Int) (v2:L111) (v6:Int)
 | l1032 (v1 v2:Int) (v3:L111) (v4 v6 v7:Int)
def T55 {R:Type} (B:Ops) (c54:C54) (c63:C63) (c78:C78) (p0:LB) (again:S55→Option R) (k:(Int×Int×L111)→Option R):Option S55→Option R | none=>cond (B.lt 60000 (↑p0.length)) (k ((14,0,mt (Ty.den ty111)))) (again (.l0 0 (mt (Ty.den ty111)))) | some (.l0 v1 v2)=>cond (B.lt v1 (↑p0.length)) (cond (B.inb v1 p0.length) (cond (B.eq (Nat.cast (UInt8.toNat (p0.getD v1.toNat 0))) 32) (again (.l0 (IntKind.wrap .i64 (v1+1)) v2)) (cond (B.eq (Nat.cast (UInt8.toNat (p0.getD v1.toNat 0))) 9) (again (.l0 (IntKind.wrap .i64 (v1+1)) v2)) (cond (B.eq (Nat.cast (UInt8.toNat (p0.getD v1.toNat 0))) 10) (again (.l0 (IntKind.wrap .i64 (v1+1)) v2)) (ob (c54 (Nat.cast (UInt8.toNat (p0.getD v1.toNat 0)))) fun y0=>cond (y0) (again (.l1 v1 0 v2 0 v1)) (ob (c63 (Nat.cast (UInt8.toNat (p0.getD v1.toNat 0)))) fun y1=>cond (y1) (again (.l2 v1 0 v2 v1)) (cond (B.eq (Nat.cast (UInt8.toNat (p0.getD v1.toNat 0))) 88) (again (.l1031 v1 v2 v1)) (cond (B.eq (Nat.cast (UInt8.toNat (p0.getD v1.toNat 0))) 70) (again (.l1031 v1 v2 v1)) (cond (B.eq (Nat.cast (UInt8.toNat (p0.getD v1.toNat 0))) 71) (again (.l1031 v1 v2 v1)) (cond (B.eq (Nat.cast (UInt8.toNat (p0.getD v1.toNat 0))) 85) (again (.l1031 v1 v2 v1)) (cond (B.eq (Nat.cast (UInt8.toNat (p0.getD v1.toNat 0))) 82) (again (.l1031 v1 v2 v1)) (again (.l1010 v1 v2 v1)))))))))))) none) (cond (B.lim (List.length v2+List.length ((5,mt UInt8,0,v1)::mt (Ty.den ty111))) 40) (k ((0,0,v2++(5,mt UInt8,0,v1)::mt (Ty.den ty111)))) none) | some (.l1 v1 v2 v3 v6 v7)=>cond (B.lt (IntKind.wrap .i64 (v1+v2)) (↑p0.length)) (cond (B.inb (IntKind.wrap .i64 (v1+v2)) p0.length) (ob (c54 (Nat.cast (UInt8.toNat (p0.getD (Int.toNat (IntKind.wrap .i64 (v1+v2))) 0)))) fun y0=>cond (y0) (cond (B.lt v2 3) (cond (B.inb (IntKind.wrap .i64 (v1+v2)) p0.length) (again (.l1020 v1 v2 v3 (IntKind.wrap .i64 (IntKind.wrap .i64 (10*v6)+IntKind.wrap .i64 (IntKind.wrap IntKind.u8 (Nat.cast (UInt8.toNat (p0.getD (Int.toNat (IntKind.wrap .i64 (v1+v2))) 0))-48)))) v7)) none) (again (.l1020 v1 v2 v3 v6 v7))) (cond (B.lt 3 v2) (k ((2,v1,mt (Ty.den ty111)))) (again (.l1032 v1 v2 v3 1 v6 v7)))) none) (cond (B.lt 3 v2) (k ((2,v1,mt (Ty.den ty111)))) (again (.l1032 v1 v2 v3 1 v6 v7))) | some (.l2 v1 v2 v3 v7)=>cond (B.lt (IntKind.wrap .i64 (v1+v2)) (↑p0.length)) (cond (B.inb (IntKind.wrap .i64 (v1+v2)) p0.length) (ob (c63 (Nat.cast (UInt8.toNat (p0.getD (Int.toNat (IntKind.wrap .i64 (v1+v2))) 0)))) fun y0=>cond (y0) (again (.l1026 v1 v2 v3 v7)) (cond (B.inb (IntKind.wrap .i64 (v1+v2)) p0.length) (ob (c54 (Nat.cast (UInt8.toNat (p0.getD (Int.toNat (IntKind.wrap .i64 (v1+v2))) 0)))) fun y1=>cond (y1) (again (.l1026 v1 v2 v3 v7)) (again (.l1027 v1 v2 v3 v7))) none)) none) (again (.l1027 v1 v2 v3 v7)) | some (.l1010 v1 v2 v6)=>cond (B.inb v1 (List.length p0+1)) (ob (c78 (List.drop v1.toNat (List.take p0.length p0))) fun y0=>cond (B.eq (↑y0.length) 0) (k ((2,v1,mt (Ty.den ty111)))) (again (.l1032 v1 (↑y0.length) v2 4 0 v6))) none | some (.l1020 v1 v2 v3 v6 v7)=>again (.l1 v1 (IntKind.wrap .i64 (v2+1)) v3 v6 v7) | some (.l1026 v1 v2 v3 v7)=>again (.l2 v1 (IntKind.wrap .i64 (v2+1)) v3 v7) | some (.l1027 v1 v2 v3 v7)=>cond (B.lt 8 v2) (k ((2,v1,mt (Ty.den ty111)))) (again (.l1032 v1 v2 v3 2 0 v7)) | some (.l1031 v1 v2 v6)=>again (.l1032 v1 1 v2 3 0 v6) | some (.l1032 v1 v2 v3 v4 v6 v7)=>cond (B.inb (IntKind.wrap .i64 (v1+v2)) (List.length p0+1)) (cond (bif B.le 0 v1 then B.le v1 (IntKind.wrap .i64 (v1+v2)) else false) (cond (B.lim (List.length v3+List.length ((v4,List.drop v1.toNat (List.take (Int.toNat (IntKind.wrap .i64 (v1+v2))) p0),v6,v7)::mt (Ty.den ty111))) 40) (again (.l0 (IntKind.wrap .i64 (v1+v2)) (v3++(v4,List.drop v1.toNat (List.take (Int.toNat (IntKind.wrap .i64 (v1+v2))) p0),v6,v7)::mt (Ty.den ty111)))) none) none) none
def E55 (p0:LB):S55→List AV×Objs
 | .l0 v1 v2=>(mk 151 [(0,.c (.str p0)),(5,.c (.own 5)),(6,.c (.int .i64 v1))],[(5,.row 111 ty111 v2)])
 | .l1 v1 v2 v3 v6 v7=>(mk 151 [(0,.c (.str p0)),(5,.c (.own 5)),(6,.c (.int .i64 v1)),(7,.c (.int .i64 v2)),(8,.c (.ptr 8 0))],[(5,.row 111 ty111 v3),(8,.box 111 [.int .i64 1,.str (mt UInt8),.int .i64 v6,.int .i64 v7])])
 | .l2 v1 v2 v3 v7=>(mk 151 [(0,.c (.str p0)),(5,.c (.own 5)),(6,.c (.int .i64 v1)),(7,.c (.int .i64 v2)),(8,.c (.ptr 8 0))],[(5,.row 111 ty111 v3),(8,.box 111 [.int .i64 2,.str (mt UInt8),.int .i64 0,.int .i64 v7])])
 | .l1010 v1 v2 v6=>(mk 151 [(0,.c (.str p0)),(5,.c (.own 5)),(6,.c (.int .i64 v1)),(8,.c (.ptr 8 0))],[(5,.row 111 ty111 v2),(8,.box 111 [.int .i64 4,.str (mt UInt8),.int .i64 0,.int .i64 v6])])
 | .l1020 v1 v2 v3 v6 v7=>(mk 151 [(0,.c (.str p0)),(5,.c (.own 5)),(6,.c (.int .i64 v1)),(7,.c (.int .i64 v2)),(8,.c (.ptr 8 0))],[(5,.row 111 ty111 v3),(8,.box 111 [.int .i64 1,.str (mt UInt8),.int .i64 v6,.int .i64 v7])])
 | .l1026 v1 v2 v3 v7=>(mk 151 [(0,.c (.str p0)),(5,.c (.own 5)),(6,.c (.int .i64 v1)),(7,.c (.int .i64 v2)),(8,.c (.ptr 8 0))],[(5,.row 111 ty111 v3),(8,.box 111 [.int .i64 2,.str (mt UInt8),.int .i64 0,.int .i64 v7])])
 | .l1027 v1 v2 v3 v7=>(mk 151 [(0,.c (.str p0)),(5,.c (.own 5)),(6,.c (.int .i64 v1)),(7,.c (.int .i64 v2)),(8,.c (.ptr 8 0))],[(5,.row 111 ty111 v3),(8,.box 111 [.int .i64 2,.str (mt UInt8),.int .i64 0,.int .i64 v7])])
 | .l1031 v1 v2 v6=>(mk 151 [(0,.c (.str p0)),(5,.c (.own 5)),(6,.c (.int .i64 v1)),(8,.c (.ptr 8 0))],[(5,.row 111 ty111 v2),(8,.box 111 [.int .i64 3,.str (mt UInt8),.int .i64 0,.int .i64 v6])])
 | .l1032 v1 v2 v3 v4 v6 v7=>(mk 151 [(0,.c (.str p0)),(5,.c (.own 5)),(6,.c (.int .i64 v1)),(7,.c (.int .i64 v2)),(8,.c (.ptr 8 0))],[(5,.row 111 ty111 v3),(8,.box 111 [.int .i64 v4,.str (mt UInt8),.int .i64 v6,.int .i64 v7])])
def I55:S55→Nat
 | .l0 _ _=>0
 | .l1 _ _ _ _ _=>1
 | .l2 _ _ _ _=>2
 | .l1010 _ _ _=>1010
 | .l1020 _ _ _ _ _=>1020
 | .l1026 _ _ _ _=>1026
 | .l1027 _ _ _ _=>1027
 | .l1031 _ _ _=>1031
 | .l1032 _ _ _ _ _ _=>1032
abbrev K28 {R:Type} (k:AV→Objs→Option R) (y:(Int×Int×L111)):Option R:=k (.tup [(false,[.own 501000]),(false,[.int .i64 y.1]),(false,[.int .i64 y.2.1])]) [(501000,.row 111 ty111 y.2.2)]
theorem eq55 {R:Type} (B:Ops) (c54:C54) (c63:C63) (c78:C78) (p0:LB) (k:AV→Objs→Option R) (n:Nat):afun tau B gl0 X55 (ent 54 (e54 c54) (ent 63 (e63 c63) (ent 78 (e78 c78) gnil))) ow Try.f55 [.c (.str p0)] [] k n=T55 B c54 c63 c78 p0 (fun s=>aloop tau B gl0 X55 (ent 54 (e54 c54) (ent 63 (e63 c63) (ent 78 (e78 c78) gnil))) ow [] Try.f55 k (I55 s) (E55 p0 s) n) (K28 k) none:=by kernel_rfl
theorem el55 {R:Type} (B:Ops) (c54:C54) (c63:C63) (c78:C78) (p0:LB) (k:AV→Objs→Option R) (n:Nat):∀ s,aloop tau B gl0 X55 (ent 54 (e54 c54) (ent 63 (e63 c63) (ent 78 (e78 c78) gnil))) ow [] Try.f55 k (I55 s) (E55 p0 s) (n+1)=T55 B c54 c63 c78 p0 (fun s=>aloop tau B gl0 X55 (ent 54 (e54 c54) (ent 63 (e63 c63) (ent 78 (e78 c78) gnil))) ow [] Try.f55 k (I55 s) (E55 p0 s) n) (K28 k) (some s):=by
 intro s
 cases s<;>kernel_rfl
theorem nt55 {R R':Type} (B:Ops) (c54:C54) (c63:C63) (c78:C78) (p0:LB) (again:S55→Option R) (again':S55→Option R') (k0:(Int×Int×L111)→Option R') (k:R'→Option R) (h:∀ s,again s=ob (again' s) k):∀ s,T55 B c54 c63 c78 p0 again (fun y=>ob (k0 y) k) s=ob (T55 B c54 c63 c78 p0 again' k0 s) k:=by
 rintro (_ | x)
 all_goals try cases x
 all_goals (unfold T55;repeat' first | exact rfl | exact h _ | apply qab | (apply qae;intro))
def R55 (c54:C54) (c63:C63) (c78:C78) (p0:LB):Nat→S55→Option (Int×Int×L111)
 | 0,_=>none
 | n+1,s=>T55 Ops.std c54 c63 c78 p0 (R55 c54 c63 c78 p0 n) some (some s)
theorem rr55 {R:Type} (c54:C54) (c63:C63) (c78:C78) (p0:LB) (k:AV→Objs→Option R):∀ (n:Nat) (s:S55),aloop tau Ops.std gl0 X55 (ent 54 (e54 c54) (ent 63 (e63 c63) (ent 78 (e78 c78) gnil))) ow [] Try.f55 k (I55 s) (E55 p0 s) n=ob (R55 c54 c63 c78 p0 n s) (K28 k)
 | 0,s=>by cases s<;>rfl
 | n+1,s=>by rw [el55];exact nt55 Ops.std c54 c63 c78 p0 _ _ some (K28 k) (rr55 c54 c63 c78 p0 k n) (some s)
def F55 (c54:C54) (c63:C63) (c78:C78) (p0:LB):Option (Int×Int×L111):=T55 Ops.std c54 c63 c78 p0 (R55 c54 c63 c78 p0 1000000) some none
abbrev C55:Type:=LB→Option (Int×Int×L111)
def e55 {R:Type} (c:C55):Ent R:=eG [.aC .cS] [] fun v k=>ob (c v.1) (K28 k)
abbrev Sp55 (c:C55):Prop:=∀ (p0:LB) (y:Int×Int×L111),c p0=some y→Spec Try.prog gl0 55 [.c (.str p0)] [] (.tup [(false,[.own 501000]),(false,[.int .i64 y.1]),(false,[.int .i64 y.2.1])]) [(501000,.row 111 ty111 y.2.2)]
theorem ek55 {R:Type} {c:C55} (hs:Sp55 c):EOk 55 (e55 (R:=R) c):=qag fun v=>hs v.1
theorem sf55 {c54:C54} {c63:C63} {c78:C78} (h54:Sp54 c54) (h63:Sp63 c63) (h78:Sp78 c78):Sp55 (F55 c54 c63 c78):=fun p0 y hy=>by
 refine qad (qaa (ek54 h54) (qaa (ek63 h63) (qaa (ek78 h78) qac))) 1000000 (fn:=Try.f55) (by kernel_rfl) (by kernel_rfl) (X:=X55) (by kernel_rfl) ?_
 rw [eq55]
 exact (nt55 Ops.std c54 c63 c78 p0 _ _ some (K28 k0) (rr55 c54 c63 c78 p0 k0 1000000) none).trans (by show ob (F55 c54 c63 c78 p0) _=_;rw [hy];rfl)
noncomputable def M55:C55:=F55 M54 M63 M78
theorem sm55:Sp55 M55:=sf55 sm54 sm63 sm78
def X36:Aux:=⟨[],[(6,.lin [0,1,2,3,4,5,6,7,8]),(8,.lin [0,1,2,3,4,5,6,7])]⟩
def T36 {R:Type} (B:Ops) (c55:C55) (c56:C56) (p0:LB) (k:(Int×Int×L95)→Option R):Option R:=ob (c55 p0) fun y0=>cond (!B.eq y0.1 0) (k ((y0.1,y0.2.1,mt (Ty.den ty95)))) (ob (c56 y0.2.2 0) fun y1=>cond (!B.eq y1.2.1 0) (cond (B.inb y1.1 (List.length y0.2.2)) (k ((y1.2.1,(((List.getD y0.2.2 (Int.toNat y1.1) ty111.dflt).2).2).2,mt (Ty.den ty95)))) none) (cond (B.inb y1.1 (List.length y0.2.2)) (cond (!B.eq ((List.getD y0.2.2 (Int.toNat y1.1) ty111.dflt).1) 5) (cond (B.inb y1.1 (List.length y0.2.2)) (k ((2,(((List.getD y0.2.2 (Int.toNat y1.1) ty111.dflt).2).2).2,mt (Ty.den ty95)))) none) (k (0,0,y1.2.2))) none))
theorem eq36 {R:Type} (B:Ops) (c55:C55) (c56:C56) (p0:LB) (k:AV→Objs→Option R) (n:Nat):afun tau B gl0 X36 (ent 55 (e55 c55) (ent 56 (e56 c56) gnil)) ow Try.f36 [.c (.str p0)] [] k n=T36 B c55 c56 p0 (K10 k):=by kernel_rfl
theorem nt36 {R R':Type} (B:Ops) (c55:C55) (c56:C56) (p0:LB) (k0:(Int×Int×L95)→Option R') (k:R'→Option R):T36 B c55 c56 p0 (fun y=>ob (k0 y) k)=ob (T36 B c55 c56 p0 k0) k:=by
 unfold T36
 repeat' first | exact rfl | apply qab | (apply qae;intro)
def F36 (c55:C55) (c56:C56) (p0:LB):Option (Int×Int×L95):=T36 Ops.std c55 c56 p0 some
abbrev C36:Type:=LB→Option (Int×Int×L95)
def e36 {R:Type} (c:C36):Ent R:=eG [.aC .cS] [] fun v k=>ob (c v.1) (K10 k)
abbrev Sp36 (c:C36):Prop:=∀ (p0:LB) (y:Int×Int×L95),c p0=some y→Spec Try.prog gl0 36 [.c (.str p0)] [] (.tup [(false,[.own 501000]),(false,[.int .i64 y.1]),(false,[.int .i64 y.2.1])]) [(501000,.row 95 ty95 y.2.2)]
theorem ek36 {R:Type} {c:C36} (hs:Sp36 c):EOk 36 (e36 (R:=R) c):=qag fun v=>hs v.1
theorem sf36 {c55:C55} {c56:C56} (h55:Sp55 c55) (h56:Sp56 c56):Sp36 (F36 c55 c56):=fun p0 y hy=>by
 refine qad (qaa (ek55 h55) (qaa (ek56 h56) qac)) 1000000 (fn:=Try.f36) (by kernel_rfl) (by kernel_rfl) (X:=X36) (by kernel_rfl) ?_
 rw [eq36]
 exact (nt36 Ops.std c55 c56 p0 some (K10 k0)).trans (by show ob (F36 c55 c56 p0) _=_;rw [hy];rfl)
noncomputable def M36:C36:=F36 M55 M56
theorem sm36:Sp36 M36:=sf36 sm55 sm56
end Go.Proofs.Ytimcngbieedlcaa.Av
