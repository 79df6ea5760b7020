/- Twins of functions,printed by gen.py. Conditions: none. -/
import Derived.Test.YtccnmhdgghjgoaaWk3
import Derived.KernelRfl
set_option linter.unusedSimpArgs false
set_option linter.unusedVariables false
set_option maxRecDepth 100000
set_option maxHeartbeats 8000000
namespace Go.Proofs.Ytccnmhdgghjgoaa.Av
open Go
def X42:Aux:=⟨[],[(1,.lin [0,2,1,3,4,5]),(20,.lin [0,1,2,3,4,5,6]),(22,.lin [0,1,2,3,4,5,6]),(23,.lin (rg 0 12))]⟩
def T42 {R:Type} (B:Ops) (c71:C71) (c159:C159) (c160:C160) (c161:C161) (c162:C162) (c163:C163) (c164:C164) (c72:C72) (c73:C73) (c74:C74) (c75:C75) (c76:C76) (c77:C77) (c78:C78) (c79:C79) (c81:C81) (p0:L70) (p1:L73) (p2:L124) (p3:L77) (p4 p5:Int) (p6:L97) (p7:L49) (k:(L4)→Option R):Option R:=ob (c71 p0 p1 p2 p3 p4) fun y0=>ob (c159 p0 p1 p2 p3 p4) fun y1=>cond (B.eq p5 1) (k y0) (cond (B.eq p5 2) (k y1) (cond (B.eq p5 3) (ob (c74 p0 p1 p2 p3 p4 p6) fun y2=>k y2) (cond (B.eq p5 4) (ob (c160 p0 p1 p2 p3 p4 p7) fun y2=>k y2.1) (cond (B.eq p5 5) (ob (c161 p0 p1 p2 p3 p4 p7) fun y2=>k y2.1) (cond (B.eq p5 6) (ob (c162 p0 p1 p2 p3 p4 p7) fun y2=>k y2.1) (cond (B.eq p5 7) (ob (c163 p0 p1 p2 p3 p4 p7) fun y2=>k y2.1) (cond (B.eq p5 8) (ob (c164 p0 p1 p2 p3 p4 p7 p0 p1 p2 p3 p4) fun y2=>k y2.1) (cond (B.eq p5 11) (cond (B.inb 0 p7.length) (ob (c81 p0 p1 p2 p3 p4 y0 (p7.getD (Int.toNat 0) ty49.dflt) false) fun y2=>k y2) none) (cond (B.eq p5 12) (cond (B.inb 0 p7.length) (ob (c81 p0 p1 p2 p3 p4 y1 (p7.getD (Int.toNat 0) ty49.dflt) true) fun y2=>k y2) none) (cond (B.inb 0 p7.length) (cond (B.inb 1 p7.length) (ob (c81 p0 p1 p2 p3 p4 (p7.getD (Int.toNat 0) ty49.dflt) (p7.getD (Int.toNat 1) ty49.dflt) (B.eq p5 10)) fun y2=>k y2) none) none))))))))))
theorem eq42 {R:Type} (B:Ops) (c71:C71) (c159:C159) (c160:C160) (c161:C161) (c162:C162) (c163:C163) (c164:C164) (c72:C72) (c73:C73) (c74:C74) (c75:C75) (c76:C76) (c77:C77) (c78:C78) (c79:C79) (c81:C81) (p0:L70) (p1:L73) (p2:L124) (p3:L77) (p4 p5:Int) (p6:L97) (p7:L49) (k:AV→Objs→Option R) (n:Nat):afun tau B gl0 X42 (ent 71 (eAlt 1 72 (e71 c71) (eAlt 1 73 (e159 c159) (eAlt 1 75 (e160 c160) (eAlt 1 76 (e161 c161) (eAlt 1 77 (e162 c162) (eAlt 1 78 (e163 c163) (e164 c164))))))) (ent 72 (e72 c72) (ent 73 (e73 c73) (ent 74 (e74 c74) (ent 75 (e75 c75) (ent 76 (e76 c76) (ent 77 (e77 c77) (ent 78 (e78 c78) (ent 79 (e79 c79) (ent 81 (e81 c81) gnil)))))))))) ow Try.f42 [.agg [.list 70 ty70 p0,.list 73 ty73 p1,.list 124 ty124 p2,.list 77 ty77 p3,.int .i64 p4],.agg [.int .i64 p5,.list 97 ty97 p6],.c (.list 49 ty49 p7)] [] k n=T42 B c71 c159 c160 c161 c162 c163 c164 c72 c73 c74 c75 c76 c77 c78 c79 c81 p0 p1 p2 p3 p4 p5 p6 p7 (K26 k):=by kernel_rfl
theorem nt42 {R R':Type} (B:Ops) (c71:C71) (c159:C159) (c160:C160) (c161:C161) (c162:C162) (c163:C163) (c164:C164) (c72:C72) (c73:C73) (c74:C74) (c75:C75) (c76:C76) (c77:C77) (c78:C78) (c79:C79) (c81:C81) (p0:L70) (p1:L73) (p2:L124) (p3:L77) (p4 p5:Int) (p6:L97) (p7:L49) (k0:(L4)→Option R') (k:R'→Option R):T42 B c71 c159 c160 c161 c162 c163 c164 c72 c73 c74 c75 c76 c77 c78 c79 c81 p0 p1 p2 p3 p4 p5 p6 p7 (fun y=>ob (k0 y) k)=ob (T42 B c71 c159 c160 c161 c162 c163 c164 c72 c73 c74 c75 c76 c77 c78 c79 c81 p0 p1 p2 p3 p4 p5 p6 p7 k0) k:=by
 unfold T42
 repeat' first | exact rfl | apply qaa | (apply qaf;intro)
def F42 (c71:C71) (c159:C159) (c160:C160) (c161:C161) (c162:C162) (c163:C163) (c164:C164) (c72:C72) (c73:C73) (c74:C74) (c75:C75) (c76:C76) (c77:C77) (c78:C78) (c79:C79) (c81:C81) (p0:L70) (p1:L73) (p2:L124) (p3:L77) (p4 p5:Int) (p6:L97) (p7:L49):Option (L4):=T42 Ops.std c71 c159 c160 c161 c162 c163 c164 c72 c73 c74 c75 c76 c77 c78 c79 c81 p0 p1 p2 p3 p4 p5 p6 p7 some
abbrev C42:Type:=L70→L73→L124→L77→Int→Int→L97→L49→Option (L4)
def e42 {R:Type} (c:C42):Ent R:=eG [.aG [.cL 70 ty70,.cL 73 ty73,.cL 124 ty124,.cL 77 ty77,.cI .i64],.aG [.cI .i64,.cL 97 ty97],.aC (.cL 49 ty49)] [] fun v k=>ob (c v.1 v.2.1 v.2.2.1 v.2.2.2.1 v.2.2.2.2.1 v.2.2.2.2.2.1 v.2.2.2.2.2.2.1 v.2.2.2.2.2.2.2.1) (K26 k)
abbrev Sp42 (c:C42):Prop:=∀ (p0:L70) (p1:L73) (p2:L124) (p3:L77) (p4 p5:Int) (p6:L97) (p7:L49) (y:L4),c p0 p1 p2 p3 p4 p5 p6 p7=some y→Spec Try.prog gl0 42 [.agg [.list 70 ty70 p0,.list 73 ty73 p1,.list 124 ty124 p2,.list 77 ty77 p3,.int .i64 p4],.agg [.int .i64 p5,.list 97 ty97 p6],.c (.list 49 ty49 p7)] [] (.c (.own 500)) [(500,.row 4 ty4 y)]
theorem ek42 {R:Type} {c:C42} (hs:Sp42 c):EOk 42 (e42 (R:=R) c):=qah fun v=>hs v.1 v.2.1 v.2.2.1 v.2.2.2.1 v.2.2.2.2.1 v.2.2.2.2.2.1 v.2.2.2.2.2.2.1 v.2.2.2.2.2.2.2.1
theorem sf42 {c71:C71} {c159:C159} {c160:C160} {c161:C161} {c162:C162} {c163:C163} {c164:C164} {c72:C72} {c73:C73} {c74:C74} {c75:C75} {c76:C76} {c77:C77} {c78:C78} {c79:C79} {c81:C81} (h71:Sp71 c71) (h159:Sp159 c159) (h160:Sp160 c160) (h161:Sp161 c161) (h162:Sp162 c162) (h163:Sp163 c163) (h164:Sp164 c164) (h72:Sp72 c72) (h73:Sp73 c73) (h74:Sp74 c74) (h75:Sp75 c75) (h76:Sp76 c76) (h77:Sp77 c77) (h78:Sp78 c78) (h79:Sp79 c79) (h81:Sp81 c81):Sp42 (F42 c71 c159 c160 c161 c162 c163 c164 c72 c73 c74 c75 c76 c77 c78 c79 c81):=fun p0 p1 p2 p3 p4 p5 p6 p7 y hy=>by
 refine qae (G:=ent 71 (eAlt 1 72 (e71 c71) (eAlt 1 73 (e159 c159) (eAlt 1 75 (e160 c160) (eAlt 1 76 (e161 c161) (eAlt 1 77 (e162 c162) (eAlt 1 78 (e163 c163) (e164 c164))))))) (ent 72 (e72 c72) (ent 73 (e73 c73) (ent 74 (e74 c74) (ent 75 (e75 c75) (ent 76 (e76 c76) (ent 77 (e77 c77) (ent 78 (e78 c78) (ent 79 (e79 c79) (ent 81 (e81 c81) gnil)))))))))) (qac (qbq (ek71 h71) (qbq (ek159 h159) (qbq (ek160 h160) (qbq (ek161 h161) (qbq (ek162 h162) (qbq (ek163 h163) (ek164 h164))))))) (qac (ek72 h72) (qac (ek73 h73) (qac (ek74 h74) (qac (ek75 h75) (qac (ek76 h76) (qac (ek77 h77) (qac (ek78 h78) (qac (ek79 h79) (qac (ek81 h81) qad)))))))))) 1000000 (fn:=Try.f42) (by kernel_rfl) (by kernel_rfl) (X:=X42) (by kernel_rfl) ?_
 rw [eq42]
 exact (nt42 Ops.std c71 c159 c160 c161 c162 c163 c164 c72 c73 c74 c75 c76 c77 c78 c79 c81 p0 p1 p2 p3 p4 p5 p6 p7 some (K26 k0)).trans (by show ob (F42 c71 c159 c160 c161 c162 c163 c164 c72 c73 c74 c75 c76 c77 c78 c79 c81 p0 p1 p2 p3 p4 p5 p6 p7) _=_;rw [hy];rfl)
noncomputable def M42:C42:=F42 M71 M159 M160 M161 M162 M163 M164 M72 M73 M74 M75 M76 M77 M78 M79 M81
theorem sm42:Sp42 M42:=sf42 sm71 sm159 sm160 sm161 sm162 sm163 sm164 sm72 sm73 sm74 sm75 sm76 sm77 sm78 sm79 sm81
def X20:Aux:=⟨[(6,([0,2,3,4,5,6]++rg 9 27++rg 39 30)),(10,([0,2,3,4,5,6,10]++rg 12 24++[39,40,41,42]++rg 46 23))],[(3,.seq [0,1,2,3,4,7,8,9] (.alt (.seq [5] (.alt (.lin [6,10,11,12]) (.lin [11,6,10,12]))) (.lin [11,5,6,10,12]))),(14,.lin (rg 0 11))]⟩
inductive S20 where
 | l0 (v1 v2 v6:Int) (v7:L49) (v8:L27) (v9:L77)
 | l1 (v1 v2 v3:Int) (v4:L3) (v5 v6 v10:Int) (v11 v12:L49) (v13:L27) (v14:L77)
def T20 {R:Type} (B:Ops) (c40:C40) (c23:C23) (c41:C41) (c27:C27) (c42:C42) (p0:L70) (p1:L73) (p2:L124) (p3:L36) (p4 p5:L77) (again:S20→Option R) (k:(L49)→Option R):Option S20→Option R | none=>ob (c40 p0 p1 p2 p3) fun y0=>cond (!y0) (k (mt (Ty.den ty49))) (ob (c23 p0 p1 p2 p4 p5) fun y1=>cond (!y1) (k (mt (Ty.den ty49))) (ob (c41 (p4::p5::mt (Ty.den ty42))) fun y2=>ob (c27 p3) fun y3=>again (.l0 (↑y3.length) 0 (↑p4.length) (mt (Ty.den ty49)) y3 y2))) | some (.l0 v1 v2 v6 v7 v8 v9)=>cond (B.lt v2 v1) (cond (B.inb v2 v8.length) (again (.l1 v2 v1 v2 (v8.getD v2.toNat ty27.dflt) (Nat.cast (List.length (v8.getD v2.toNat ty27.dflt))) 0 v6 v7 (mt (Ty.den ty49)) v8 v9)) none) (k v7) | some (.l1 v1 v2 v3 v4 v5 v6 v10 v11 v12 v13 v14)=>cond (B.lt v6 v5) (cond (B.inb v6 v4.length) (cond (B.inb (v4.getD v6.toNat ty3.dflt) v11.length) (cond (B.lim (List.length v12+List.length (v11.getD (Int.toNat (v4.getD v6.toNat ty3.dflt)) ty49.dflt::mt (Ty.den ty49))) 24) (again (.l1 v1 v2 v3 v4 v5 (IntKind.wrap .i64 (v6+1)) v10 v11 (v12++v11.getD (Int.toNat (v4.getD v6.toNat ty3.dflt)) ty49.dflt::mt (Ty.den ty49)) v13 v14)) none) none) none) (cond (B.inb v1 p3.length) (ob (c42 p0 p1 p2 v14 v10 (p3.getD v1.toNat ty36.dflt).1 (p3.getD v1.toNat ty36.dflt).2 v12) fun y0=>cond (B.lim (List.length v11+List.length (y0::mt (Ty.den ty49))) 24) (again (.l0 v2 (IntKind.wrap .i64 (v3+1)) v10 (v11++y0::mt (Ty.den ty49)) v13 v14)) none) none)
def E20 (p0:L70) (p1:L73) (p2:L124) (p3:L36) (p4 p5:L77):S20→List AV×Objs
 | .l0 v1 v2 v6 v7 v8 v9=>(mk 69 [(1,.c (.list 36 ty36 p3)),(7,.c (.ptr 7 0)),(8,.c (.own 8)),(36,.c (.own 36)),(37,.c (.int .i64 v1)),(38,.c (.int .i64 v2))],[(7,.box 81 [.list 70 ty70 p0,.list 73 ty73 p1,.list 124 ty124 p2,.own 8003,.int .i64 v6]),(8,.row 49 ty49 v7),(36,.row 27 ty27 v8),(8003,.row 77 ty77 v9)])
 | .l1 v1 v2 v3 v4 v5 v6 v10 v11 v12 v13 v14=>(mk 69 [(1,.c (.list 36 ty36 p3)),(7,.c (.ptr 7 0)),(8,.c (.own 8)),(9,.c (.int .i64 v1)),(11,.c (.own 11)),(36,.c (.own 36)),(37,.c (.int .i64 v2)),(38,.c (.int .i64 v3)),(43,.c (.list 3 ty3 v4)),(44,.c (.int .i64 v5)),(45,.c (.int .i64 v6))],[(7,.box 81 [.list 70 ty70 p0,.list 73 ty73 p1,.list 124 ty124 p2,.own 8003,.int .i64 v10]),(8,.row 49 ty49 v11),(11,.row 49 ty49 v12),(36,.row 27 ty27 v13),(8003,.row 77 ty77 v14)])
def I20:S20→Nat
 | .l0 _ _ _ _ _ _=>0
 | .l1 _ _ _ _ _ _ _ _ _ _ _=>1
noncomputable def Ta20 {R:Type} (B:Ops) (c40:C40) (c23:C23) (c41:C41) (c27:C27) (c42:C42) (p0:L70) (p1:L73) (p2:L124) (p3:L36) (p4 p5:L77) (again:S20→Option R) (k:(L49)→Option R):Option S20→Option R | none=>ob (c40 p0 p1 p2 p3) fun y0=>cond (!y0) (k (mt (Ty.den ty49))) (ob (c23 p0 p1 p2 p4 p5) fun y1=>cond (!y1) (k (mt (Ty.den ty49))) (agree (agree (ob (c41 (p4::p5::mt (Ty.den ty42))) fun y2=>ob (c27 p3) fun y3=>again (.l0 (Nat.cast (List.length y3)) 0 (Nat.cast (List.length p4)) (mt (Ty.den ty49)) y3 y2)) (ob (c41 (p4::p5::mt (Ty.den ty42))) fun y2=>ob (c27 p3) fun y3=>again (.l0 (Nat.cast (List.length y3)) 0 (Nat.cast (List.length p4)) (mt (Ty.den ty49)) y3 y2))) (ob (c41 (p4::p5::mt (Ty.den ty42))) fun y2=>ob (c27 p3) fun y3=>again (.l0 (Nat.cast (List.length y3)) 0 (Nat.cast (List.length p4)) (mt (Ty.den ty49)) y3 y2)))) | some (.l0 v1 v2 v6 v7 v8 v9)=>cond (Ops.lt B v2 v1) (cond (Ops.inb B v2 (List.length v8)) (again (.l1 v2 v1 v2 (List.getD v8 (Int.toNat v2) (Ty.dflt ty27)) (Nat.cast (List.length (List.getD v8 (Int.toNat v2) (Ty.dflt ty27)))) 0 v6 v7 (mt (Ty.den ty49)) v8 v9)) none) (k v7) | some (.l1 v1 v2 v3 v4 v5 v6 v10 v11 v12 v13 v14)=>cond (Ops.lt B v6 v5) (cond (Ops.inb B v6 (List.length v4)) (cond (Ops.inb B (List.getD v4 (Int.toNat v6) (Ty.dflt ty3)) (List.length v11)) (cond (Ops.lim B (List.length v12+List.length (List.getD v11 (Int.toNat (List.getD v4 (Int.toNat v6) (Ty.dflt ty3))) (Ty.dflt ty49)::mt (Ty.den ty49))) 24) (again (.l1 v1 v2 v3 v4 v5 (IntKind.wrap .i64 (v6+1)) v10 v11 (v12++List.getD v11 (Int.toNat (List.getD v4 (Int.toNat v6) (Ty.dflt ty3))) (Ty.dflt ty49)::mt (Ty.den ty49)) v13 v14)) none) none) none) (cond (Ops.inb B v1 (List.length p3)) (ob (c42 p0 p1 p2 v14 v10 (List.getD p3 (Int.toNat v1) (Ty.dflt ty36)).1 (List.getD p3 (Int.toNat v1) (Ty.dflt ty36)).2 v12) fun y0=>cond (Ops.lim B (List.length v11+List.length (y0::mt (Ty.den ty49))) 24) (again (.l0 v2 (IntKind.wrap .i64 (v3+1)) v10 (v11++y0::mt (Ty.den ty49)) v13 v14)) none) none)
theorem ta20 {R:Type} (B:Ops) (c40:C40) (c23:C23) (c41:C41) (c27:C27) (c42:C42) (p0:L70) (p1:L73) (p2:L124) (p3:L36) (p4 p5:L77) (again:S20→Option R) (k:(L49)→Option R):∀ s,Ta20 B c40 c23 c41 c27 c42 p0 p1 p2 p3 p4 p5 again k s=T20 B c40 c23 c41 c27 c42 p0 p1 p2 p3 p4 p5 again k s
 | none=>by unfold Ta20 T20;simp only [qbv]
 | some (.l0 v1 v2 v6 v7 v8 v9)=>by unfold Ta20 T20;simp only [qbv]
 | some (.l1 v1 v2 v3 v4 v5 v6 v10 v11 v12 v13 v14)=>by unfold Ta20 T20;simp only [qbv]
abbrev K32 {R:Type} (k:AV→Objs→Option R) (y:(L49)):Option R:=k (.c (.own 500)) [(500,.row 49 ty49 y)]
noncomputable abbrev A20 {R:Type} (B:Ops) (c40:C40) (c23:C23) (c41:C41) (c27:C27) (c42:C42) (p0:L70) (p1:L73) (p2:L124) (p3:L36) (p4 p5:L77) (k:AV→Objs→Option R) (s:S20) (n:Nat):Option R:=aloop tau B gl0 X20 (ent 40 (e40 c40) (ent 23 (e23 c23) (ent 41 (e41 c41) (ent 27 (e27 c27) (ent 42 (e42 c42) gnil))))) ow [] Try.f20 k (I20 s) (E20 p0 p1 p2 p3 p4 p5 s) n
theorem eq20 {R:Type} (B:Ops) (c40:C40) (c23:C23) (c41:C41) (c27:C27) (c42:C42) (p0:L70) (p1:L73) (p2:L124) (p3:L36) (p4 p5:L77) (k:AV→Objs→Option R) (n:Nat):afun tau B gl0 X20 (ent 40 (e40 c40) (ent 23 (e23 c23) (ent 41 (e41 c41) (ent 27 (e27 c27) (ent 42 (e42 c42) gnil))))) ow Try.f20 [.agg [.list 70 ty70 p0,.list 73 ty73 p1,.list 124 ty124 p2],.c (.list 36 ty36 p3),.agg [.list 77 ty77 p4,.list 77 ty77 p5]] [] k n=T20 B c40 c23 c41 c27 c42 p0 p1 p2 p3 p4 p5 (fun s=>A20 B c40 c23 c41 c27 c42 p0 p1 p2 p3 p4 p5 k s n) (K32 k) none:=by rw [←ta20];kernel_rfl
theorem el20 {R:Type} (B:Ops) (c40:C40) (c23:C23) (c41:C41) (c27:C27) (c42:C42) (p0:L70) (p1:L73) (p2:L124) (p3:L36) (p4 p5:L77) (k:AV→Objs→Option R) (n:Nat):∀ s,A20 B c40 c23 c41 c27 c42 p0 p1 p2 p3 p4 p5 k s (n+1)=T20 B c40 c23 c41 c27 c42 p0 p1 p2 p3 p4 p5 (fun s=>A20 B c40 c23 c41 c27 c42 p0 p1 p2 p3 p4 p5 k s n) (K32 k) (some s)
 | .l0 v1 v2 v6 v7 v8 v9=>by rw [←ta20];kernel_rfl
 | .l1 v1 v2 v3 v4 v5 v6 v10 v11 v12 v13 v14=>by rw [←ta20];kernel_rfl
theorem nt20 {R R':Type} (B:Ops) (c40:C40) (c23:C23) (c41:C41) (c27:C27) (c42:C42) (p0:L70) (p1:L73) (p2:L124) (p3:L36) (p4 p5:L77) (again:S20→Option R) (again':S20→Option R') (k0:(L49)→Option R') (k:R'→Option R) (h:∀ s,again s=ob (again' s) k):∀ s,T20 B c40 c23 c41 c27 c42 p0 p1 p2 p3 p4 p5 again (fun y=>ob (k0 y) k) s=ob (T20 B c40 c23 c41 c27 c42 p0 p1 p2 p3 p4 p5 again' k0 s) k:=by
 rintro (_ | x)
 all_goals try cases x
 all_goals (unfold T20;repeat' first | exact rfl | exact h _ | apply qaa | (apply qaf;intro))
def R20 (c40:C40) (c23:C23) (c41:C41) (c27:C27) (c42:C42) (p0:L70) (p1:L73) (p2:L124) (p3:L36) (p4 p5:L77):Nat→S20→Option (L49)
 | 0,_=>none
 | n+1,s=>T20 Ops.std c40 c23 c41 c27 c42 p0 p1 p2 p3 p4 p5 (R20 c40 c23 c41 c27 c42 p0 p1 p2 p3 p4 p5 n) some (some s)
theorem rr20 {R:Type} (c40:C40) (c23:C23) (c41:C41) (c27:C27) (c42:C42) (p0:L70) (p1:L73) (p2:L124) (p3:L36) (p4 p5:L77) (k:AV→Objs→Option R):∀ (n:Nat) (s:S20),A20 Ops.std c40 c23 c41 c27 c42 p0 p1 p2 p3 p4 p5 k s n=ob (R20 c40 c23 c41 c27 c42 p0 p1 p2 p3 p4 p5 n s) (K32 k)
 | 0,s=>by cases s<;>rfl
 | n+1,s=>by rw [el20];exact nt20 Ops.std c40 c23 c41 c27 c42 p0 p1 p2 p3 p4 p5 _ _ some (K32 k) (rr20 c40 c23 c41 c27 c42 p0 p1 p2 p3 p4 p5 k n) (some s)
def F20 (c40:C40) (c23:C23) (c41:C41) (c27:C27) (c42:C42) (p0:L70) (p1:L73) (p2:L124) (p3:L36) (p4 p5:L77):Option (L49):=T20 Ops.std c40 c23 c41 c27 c42 p0 p1 p2 p3 p4 p5 (R20 c40 c23 c41 c27 c42 p0 p1 p2 p3 p4 p5 1000000) some none
abbrev C20:Type:=L70→L73→L124→L36→L77→L77→Option (L49)
def e20 {R:Type} (c:C20):Ent R:=eG [.aG [.cL 70 ty70,.cL 73 ty73,.cL 124 ty124],.aC (.cL 36 ty36),.aG [.cL 77 ty77,.cL 77 ty77]] [] fun v k=>ob (c v.1 v.2.1 v.2.2.1 v.2.2.2.1 v.2.2.2.2.1 v.2.2.2.2.2.1) (K32 k)
abbrev Sp20 (c:C20):Prop:=∀ (p0:L70) (p1:L73) (p2:L124) (p3:L36) (p4 p5:L77) (y:L49),c p0 p1 p2 p3 p4 p5=some y→Spec Try.prog gl0 20 [.agg [.list 70 ty70 p0,.list 73 ty73 p1,.list 124 ty124 p2],.c (.list 36 ty36 p3),.agg [.list 77 ty77 p4,.list 77 ty77 p5]] [] (.c (.own 500)) [(500,.row 49 ty49 y)]
theorem ek20 {R:Type} {c:C20} (hs:Sp20 c):EOk 20 (e20 (R:=R) c):=qah fun v=>hs v.1 v.2.1 v.2.2.1 v.2.2.2.1 v.2.2.2.2.1 v.2.2.2.2.2.1
theorem sf20 {c40:C40} {c23:C23} {c41:C41} {c27:C27} {c42:C42} (h40:Sp40 c40) (h23:Sp23 c23) (h41:Sp41 c41) (h27:Sp27 c27) (h42:Sp42 c42):Sp20 (F20 c40 c23 c41 c27 c42):=fun p0 p1 p2 p3 p4 p5 y hy=>by
 refine qae (qac (ek40 h40) (qac (ek23 h23) (qac (ek41 h41) (qac (ek27 h27) (qac (ek42 h42) qad))))) 1000000 (fn:=Try.f20) (by kernel_rfl) (by kernel_rfl) (X:=X20) (by kernel_rfl) ?_
 rw [eq20]
 exact (nt20 Ops.std c40 c23 c41 c27 c42 p0 p1 p2 p3 p4 p5 _ _ some (K32 k0) (rr20 c40 c23 c41 c27 c42 p0 p1 p2 p3 p4 p5 k0 1000000) none).trans (by show ob (F20 c40 c23 c41 c27 c42 p0 p1 p2 p3 p4 p5) _=_;rw [hy];rfl)
noncomputable def M20:C20:=F20 M40 M23 M41 M27 M42
theorem sm20:Sp20 M20:=sf20 sm40 sm23 sm41 sm27 sm42
def X24:Aux:=⟨[],[]⟩
def T24 {R:Type} (B:Ops) (c20:C20) (p0:L70) (p1:L73) (p2:L124) (p3:L36) (p4 p5:L77) (k:(Bool)→Option R):Option R:=ob (c20 p0 p1 p2 p3 p4 p5) fun y0=>cond (B.lt 0 (↑y0.length)) (cond (B.inb (IntKind.wrap .i64 (Nat.cast y0.length-1)) y0.length) (cond (B.inb 0 (List.length (y0.getD (Int.toNat (IntKind.wrap .i64 (Nat.cast y0.length-1))) ty49.dflt))) (k (List.getD (y0.getD (Int.toNat (IntKind.wrap .i64 (Nat.cast y0.length-1))) ty49.dflt) (Int.toNat 0) (Ty.dflt Ty.bool))) none) none) (k false)
theorem eq24 {R:Type} (B:Ops) (c20:C20) (p0:L70) (p1:L73) (p2:L124) (p3:L36) (p4 p5:L77) (k:AV→Objs→Option R) (n:Nat):afun tau B gl0 X24 (ent 20 (e20 c20) gnil) ow Try.f24 [.agg [.list 70 ty70 p0,.list 73 ty73 p1,.list 124 ty124 p2],.c (.list 36 ty36 p3),.agg [.list 77 ty77 p4,.list 77 ty77 p5]] [] k n=T24 B c20 p0 p1 p2 p3 p4 p5 (K1 k):=by kernel_rfl
theorem nt24 {R R':Type} (B:Ops) (c20:C20) (p0:L70) (p1:L73) (p2:L124) (p3:L36) (p4 p5:L77) (k0:(Bool)→Option R') (k:R'→Option R):T24 B c20 p0 p1 p2 p3 p4 p5 (fun y=>ob (k0 y) k)=ob (T24 B c20 p0 p1 p2 p3 p4 p5 k0) k:=by
 unfold T24
 repeat' first | exact rfl | apply qaa | (apply qaf;intro)
def F24 (c20:C20) (p0:L70) (p1:L73) (p2:L124) (p3:L36) (p4 p5:L77):Option (Bool):=T24 Ops.std c20 p0 p1 p2 p3 p4 p5 some
abbrev C24:Type:=L70→L73→L124→L36→L77→L77→Option (Bool)
def e24 {R:Type} (c:C24):Ent R:=eG [.aG [.cL 70 ty70,.cL 73 ty73,.cL 124 ty124],.aC (.cL 36 ty36),.aG [.cL 77 ty77,.cL 77 ty77]] [] fun v k=>ob (c v.1 v.2.1 v.2.2.1 v.2.2.2.1 v.2.2.2.2.1 v.2.2.2.2.2.1) (K1 k)
abbrev Sp24 (c:C24):Prop:=∀ (p0:L70) (p1:L73) (p2:L124) (p3:L36) (p4 p5:L77) (y:Bool),c p0 p1 p2 p3 p4 p5=some y→Spec Try.prog gl0 24 [.agg [.list 70 ty70 p0,.list 73 ty73 p1,.list 124 ty124 p2],.c (.list 36 ty36 p3),.agg [.list 77 ty77 p4,.list 77 ty77 p5]] [] (.c (.bool y)) []
theorem ek24 {R:Type} {c:C24} (hs:Sp24 c):EOk 24 (e24 (R:=R) c):=qah fun v=>hs v.1 v.2.1 v.2.2.1 v.2.2.2.1 v.2.2.2.2.1 v.2.2.2.2.2.1
theorem sf24 {c20:C20} (h20:Sp20 c20):Sp24 (F24 c20):=fun p0 p1 p2 p3 p4 p5 y hy=>by
 refine qae (qac (ek20 h20) qad) 1000000 (fn:=Try.f24) (by kernel_rfl) (by kernel_rfl) (X:=X24) (by kernel_rfl) ?_
 rw [eq24]
 exact (nt24 Ops.std c20 p0 p1 p2 p3 p4 p5 some (K1 k0)).trans (by show ob (F24 c20 p0 p1 p2 p3 p4 p5) _=_;rw [hy];rfl)
noncomputable def M24:C24:=F24 M20
theorem sm24:Sp24 M24:=sf24 sm20
def X22:Aux:=⟨[],[(2,.lin [0,1,3,2,4,5])]⟩
def T22 {R:Type} (B:Ops) (c19:C19) (c21:C21) (c24:C24) (p0:LB) (p1 p2:L3) (k:(Bool)→Option R):Option R:=ob (c19 p1 p2) fun y0=>ob (c21 p0) fun y1=>ob (c24 y0.1 y0.2.1 y0.2.2.1 y1 y0.2.2.2.1 y0.2.2.2.2) fun y2=>k y2
theorem eq22 {R:Type} (B:Ops) (c19:C19) (c21:C21) (c24:C24) (p0:LB) (p1 p2:L3) (k:AV→Objs→Option R) (n:Nat):afun tau B gl0 X22 (ent 19 (e19 c19) (ent 21 (e21 c21) (ent 24 (e24 c24) gnil))) ow Try.f22 [.c (.str p0),.c (.list 3 ty3 p1),.c (.list 3 ty3 p2)] [] k n=T22 B c19 c21 c24 p0 p1 p2 (K1 k):=by kernel_rfl
theorem nt22 {R R':Type} (B:Ops) (c19:C19) (c21:C21) (c24:C24) (p0:LB) (p1 p2:L3) (k0:(Bool)→Option R') (k:R'→Option R):T22 B c19 c21 c24 p0 p1 p2 (fun y=>ob (k0 y) k)=ob (T22 B c19 c21 c24 p0 p1 p2 k0) k:=by
 unfold T22
 repeat' first | exact rfl | apply qaa | (apply qaf;intro)
def F22 (c19:C19) (c21:C21) (c24:C24) (p0:LB) (p1 p2:L3):Option (Bool):=T22 Ops.std c19 c21 c24 p0 p1 p2 some
abbrev C22:Type:=LB→L3→L3→Option (Bool)
def e22 {R:Type} (c:C22):Ent R:=eG [.aC .cS,.aC (.cL 3 ty3),.aC (.cL 3 ty3)] [] fun v k=>ob (c v.1 v.2.1 v.2.2.1) (K1 k)
abbrev Sp22 (c:C22):Prop:=∀ (p0:LB) (p1 p2:L3) (y:Bool),c p0 p1 p2=some y→Spec Try.prog gl0 22 [.c (.str p0),.c (.list 3 ty3 p1),.c (.list 3 ty3 p2)] [] (.c (.bool y)) []
theorem ek22 {R:Type} {c:C22} (hs:Sp22 c):EOk 22 (e22 (R:=R) c):=qah fun v=>hs v.1 v.2.1 v.2.2.1
theorem sf22 {c19:C19} {c21:C21} {c24:C24} (h19:Sp19 c19) (h21:Sp21 c21) (h24:Sp24 c24):Sp22 (F22 c19 c21 c24):=fun p0 p1 p2 y hy=>by
 refine qae (qac (ek19 h19) (qac (ek21 h21) (qac (ek24 h24) qad))) 1000000 (fn:=Try.f22) (by kernel_rfl) (by kernel_rfl) (X:=X22) (by kernel_rfl) ?_
 rw [eq22]
 exact (nt22 Ops.std c19 c21 c24 p0 p1 p2 some (K1 k0)).trans (by show ob (F22 c19 c21 c24 p0 p1 p2) _=_;rw [hy];rfl)
noncomputable def M22:C22:=F22 M19 M21 M24
theorem sm22:Sp22 M22:=sf22 sm19 sm21 sm24
def X18:Aux:=⟨[],[]⟩
def T18 {R:Type} (B:Ops) (c22:C22) (k:(Bool)→Option R):Option R:=ob (c22 ([71,32,70,32,91,120,61,61,49,93]:LB) (0::mt (Ty.den (Ty.int .i64))) (0::1::mt (Ty.den (Ty.int .i64)))) fun y0=>cond (y0) (ob (c22 ([70,32,71,32,91,120,61,61,49,93]:LB) (0::mt (Ty.den (Ty.int .i64))) (0::1::mt (Ty.den (Ty.int .i64)))) fun y1=>k (!y1)) (k false)
theorem eq18 {R:Type} (B:Ops) (c22:C22) (k:AV→Objs→Option R) (n:Nat):afun tau B gl0 X18 (ent 22 (e22 c22) gnil) ow Try.f18 [] [] k n=T18 B c22 (K1 k):=by kernel_rfl
theorem nt18 {R R':Type} (B:Ops) (c22:C22) (k0:(Bool)→Option R') (k:R'→Option R):T18 B c22 (fun y=>ob (k0 y) k)=ob (T18 B c22 k0) k:=by
 unfold T18
 repeat' first | exact rfl | apply qaa | (apply qaf;intro)
def F18 (c22:C22):Option (Bool):=T18 Ops.std c22 some
abbrev C18:Type:=Option (Bool)
def e18 {R:Type} (c:C18):Ent R:=eG [] [] fun _ k=>ob c (K1 k)
abbrev Sp18 (c:C18):Prop:=∀ (y:Bool),c=some y→Spec Try.prog gl0 18 [] [] (.c (.bool y)) []
theorem ek18 {R:Type} {c:C18} (hs:Sp18 c):EOk 18 (e18 (R:=R) c):=qah fun _=>hs
theorem sf18 {c22:C22} (h22:Sp22 c22):Sp18 (F18 c22):=fun y hy=>by
 refine qae (qac (ek22 h22) qad) 1000000 (fn:=Try.f18) (by kernel_rfl) (by kernel_rfl) (X:=X18) (by kernel_rfl) ?_
 rw [eq18]
 exact (nt18 Ops.std c22 some (K1 k0)).trans (by show ob (F18 c22) _=_;rw [hy];rfl)
noncomputable def M18:C18:=F18 M22
theorem sm18:Sp18 M18:=sf18 sm22
def X6:Aux:=⟨[],[(4,.lin [0,2,1,3,4]),(8,.seq (rg 0 21) (.two 21 22 (.seq [23,24,25] (.two 26 27 (.seq [28,29,30,31,32,33,34] (.two 35 36 (.seq [37,38,39] (.two 40 41 (.lin (rg 42 19++[62,61,63,64,65,66,67,68,70,69]++rg 71 10++[82,81,83,84,85,86,87,89,88,90,91,92,93]))))))))))]⟩
theorem tk18_0:M18 = some true:=by kernel_rfl
def tb18:Option (Bool):=some true
theorem tbs18:Sp18 tb18:=fun y h=>by
 unfold tb18 at h
 cases h
 exact sm18 _ tk18_0
theorem tk22_0:M22 ([88,32,88,32,88,32,91,120,61,61,48,93]:LB) ([2]:List Int) ([0,1]:List Int)=some true:=by kernel_rfl
theorem tk22_1:M22 ([91,120,61,61,50,93,32,85,32,91,120,61,61,48,93]:LB) ([2]:List Int) ([0,1]:List Int)=some true:=by kernel_rfl
theorem tk22_2:M22 ([91,120,61,61,49,93,32,82,32,91,120,60,51,93]:LB) ([]:List Int) ([2]:List Int)=some true:=by kernel_rfl
theorem tk22_3:M22 ([91,120,61,61,49,93,32,82,32,91,120,62,48,93]:LB) ([2,1]:List Int) ([0]:List Int)=some true:=by kernel_rfl
theorem tk22_4:M22 ([91,120,61,61,49,93,32,82,32,91,120,62,49,93]:LB) ([2,1]:List Int) ([0]:List Int)=some false:=by kernel_rfl
theorem tk22_5:M22 ([70,32,91,120,61,61,49,93,32,45,62,32,71,32,70,32,91,120,61,61,49,93]:LB) ([]:List Int) ([0]:List Int)=some true:=by kernel_rfl
theorem tk22_6:M22 ([33,40,102,97,108,115,101,32,124,124,32,102,97,108,115,101,41,32,38,38,32,116,114,117,101]:LB) ([]:List Int) ([0]:List Int)=some true:=by kernel_rfl
def tb22:LB→L3→L3→Option (Bool):=fun p0 p1 p2=>cond ((p0 == ([88,32,88,32,88,32,91,120,61,61,48,93]:LB)) && ((p1 == ([2]:List Int)) && ((p2 == ([0,1]:List Int))))) (some true) (cond ((p0 == ([91,120,61,61,50,93,32,85,32,91,120,61,61,48,93]:LB)) && ((p1 == ([2]:List Int)) && ((p2 == ([0,1]:List Int))))) (some true) (cond ((p0 == ([91,120,61,61,49,93,32,82,32,91,120,60,51,93]:LB)) && ((p1 == ([]:List Int)) && ((p2 == ([2]:List Int))))) (some true) (cond ((p0 == ([91,120,61,61,49,93,32,82,32,91,120,62,48,93]:LB)) && ((p1 == ([2,1]:List Int)) && ((p2 == ([0]:List Int))))) (some true) (cond ((p0 == ([91,120,61,61,49,93,32,82,32,91,120,62,49,93]:LB)) && ((p1 == ([2,1]:List Int)) && ((p2 == ([0]:List Int))))) (some false) (cond ((p0 == ([70,32,91,120,61,61,49,93,32,45,62,32,71,32,70,32,91,120,61,61,49,93]:LB)) && ((p1 == ([]:List Int)) && ((p2 == ([0]:List Int))))) (some true) (cond ((p0 == ([33,40,102,97,108,115,101,32,124,124,32,102,97,108,115,101,41,32,38,38,32,116,114,117,101]:LB)) && ((p1 == ([]:List Int)) && ((p2 == ([0]:List Int))))) (some true) (none)))))))
theorem tbs22:Sp22 tb22:=fun p0 p1 p2 y h=>by
 unfold tb22 at h
 cases hk:((p0 == ([88,32,88,32,88,32,91,120,61,61,48,93]:LB)) && ((p1 == ([2]:List Int)) && ((p2 == ([0,1]:List Int))))) with
 | true=>
   rw [hk] at h
   simp only [Bool.and_eq_true,beq_iff_eq] at hk
   obtain ⟨rfl,rfl,rfl⟩:=hk
   cases h
   exact sm22 _ _ _ _ tk22_0
 | false=>
   rw [hk] at h
   simp only [cond_false] at h
   cases hk:((p0 == ([91,120,61,61,50,93,32,85,32,91,120,61,61,48,93]:LB)) && ((p1 == ([2]:List Int)) && ((p2 == ([0,1]:List Int))))) with
   | true=>
     rw [hk] at h
     simp only [Bool.and_eq_true,beq_iff_eq] at hk
     obtain ⟨rfl,rfl,rfl⟩:=hk
     cases h
     exact sm22 _ _ _ _ tk22_1
   | false=>
     rw [hk] at h
     simp only [cond_false] at h
     cases hk:((p0 == ([91,120,61,61,49,93,32,82,32,91,120,60,51,93]:LB)) && ((p1 == ([]:List Int)) && ((p2 == ([2]:List Int))))) with
     | true=>
       rw [hk] at h
       simp only [Bool.and_eq_true,beq_iff_eq] at hk
       obtain ⟨rfl,rfl,rfl⟩:=hk
       cases h
       exact sm22 _ _ _ _ tk22_2
     | false=>
       rw [hk] at h
       simp only [cond_false] at h
       cases hk:((p0 == ([91,120,61,61,49,93,32,82,32,91,120,62,48,93]:LB)) && ((p1 == ([2,1]:List Int)) && ((p2 == ([0]:List Int))))) with
       | true=>
         rw [hk] at h
         simp only [Bool.and_eq_true,beq_iff_eq] at hk
         obtain ⟨rfl,rfl,rfl⟩:=hk
         cases h
         exact sm22 _ _ _ _ tk22_3
       | false=>
         rw [hk] at h
         simp only [cond_false] at h
         cases hk:((p0 == ([91,120,61,61,49,93,32,82,32,91,120,62,49,93]:LB)) && ((p1 == ([2,1]:List Int)) && ((p2 == ([0]:List Int))))) with
         | true=>
           rw [hk] at h
           simp only [Bool.and_eq_true,beq_iff_eq] at hk
           obtain ⟨rfl,rfl,rfl⟩:=hk
           cases h
           exact sm22 _ _ _ _ tk22_4
         | false=>
           rw [hk] at h
           simp only [cond_false] at h
           cases hk:((p0 == ([70,32,91,120,61,61,49,93,32,45,62,32,71,32,70,32,91,120,61,61,49,93]:LB)) && ((p1 == ([]:List Int)) && ((p2 == ([0]:List Int))))) with
           | true=>
             rw [hk] at h
             simp only [Bool.and_eq_true,beq_iff_eq] at hk
             obtain ⟨rfl,rfl,rfl⟩:=hk
             cases h
             exact sm22 _ _ _ _ tk22_5
           | false=>
             rw [hk] at h
             simp only [cond_false] at h
             cases hk:((p0 == ([33,40,102,97,108,115,101,32,124,124,32,102,97,108,115,101,41,32,38,38,32,116,114,117,101]:LB)) && ((p1 == ([]:List Int)) && ((p2 == ([0]:List Int))))) with
             | true=>
               rw [hk] at h
               simp only [Bool.and_eq_true,beq_iff_eq] at hk
               obtain ⟨rfl,rfl,rfl⟩:=hk
               cases h
               exact sm22 _ _ _ _ tk22_6
             | false=>
               rw [hk] at h
               simp only [cond_false] at h
               cases h
abbrev C6:Type:=Option (Bool)
abbrev Sp6 (c:C6):Prop:=∀ (y:Bool),c=some y→Spec Try.prog gl0 6 [] [] (.c (.bool y)) []
def M6:Option (Bool):=some true
noncomputable def w6c:Code:=(Try.f6.body).getD .skip
theorem w6body:Try.f6.body=some w6c:=by kernel_rfl
noncomputable def w6r:List (Nat×Array Oper):=regs w6c
noncomputable def w6o4:Array Oper:=regOps 4 w6r
noncomputable def w6o8:Array Oper:=regOps 8 w6r
theorem w6regs:regs w6c=[(4,w6o4),(8,w6o8)]:=by kernel_rfl
theorem w6x4_pb:pbOf X6.plan (4,w6o4)=true:=by kernel_rfl
def w6x8_L0:Array Bool:=#[false,false,false,false,false,false,false,false,false,false,false,false,false,false,false,false,false,false,false,false,false,false,false,false,false,false,false,false,false,false,false,false,false,false,false,false,false,false,false,false,false,false,false,false,false,false,false,false,false,false,false,false,false,false,false,false,false,false,false,false,false,false,false,false,false,false,false,false,false,false,false,false,false,false,false,false,false,false,false,false,false,false,false,false,false,false,false,false,false,false,false,false,false,false]
def w6x8_L1:Array Bool:=#[true,false,false,false,false,false,false,false,false,false,false,false,false,false,false,false,false,false,false,false,false,false,false,false,false,false,false,false,false,false,false,false,false,false,false,false,false,false,false,false,false,false,false,false,false,false,false,false,false,false,false,false,false,false,false,false,false,false,false,false,false,false,false,false,false,false,false,false,false,false,false,false,false,false,false,false,false,false,false,false,false,false,false,false,false,false,false,false,false,false,false,false,false,false]
def w6x8_L2:Array Bool:=#[true,true,false,false,false,false,false,false,false,false,false,false,false,false,false,false,false,false,false,false,false,false,false,false,false,false,false,false,false,false,false,false,false,false,false,false,false,false,false,false,false,false,false,false,false,false,false,false,false,false,false,false,false,false,false,false,false,false,false,false,false,false,false,false,false,false,false,false,false,false,false,false,false,false,false,false,false,false,false,false,false,false,false,false,false,false,false,false,false,false,false,false,false,false]
def w6x8_L3:Array Bool:=#[true,true,true,false,false,false,false,false,false,false,false,false,false,false,false,false,false,false,false,false,false,false,false,false,false,false,false,false,false,false,false,false,false,false,false,false,false,false,false,false,false,false,false,false,false,false,false,false,false,false,false,false,false,false,false,false,false,false,false,false,false,false,false,false,false,false,false,false,false,false,false,false,false,false,false,false,false,false,false,false,false,false,false,false,false,false,false,false,false,false,false,false,false,false]
def w6x8_L4:Array Bool:=#[true,true,true,true,false,false,false,false,false,false,false,false,false,false,false,false,false,false,false,false,false,false,false,false,false,false,false,false,false,false,false,false,false,false,false,false,false,false,false,false,false,false,false,false,false,false,false,false,false,false,false,false,false,false,false,false,false,false,false,false,false,false,false,false,false,false,false,false,false,false,false,false,false,false,false,false,false,false,false,false,false,false,false,false,false,false,false,false,false,false,false,false,false,false]
def w6x8_L5:Array Bool:=#[true,true,true,true,true,false,false,false,false,false,false,false,false,false,false,false,false,false,false,false,false,false,false,false,false,false,false,false,false,false,false,false,false,false,false,false,false,false,false,false,false,false,false,false,false,false,false,false,false,false,false,false,false,false,false,false,false,false,false,false,false,false,false,false,false,false,false,false,false,false,false,false,false,false,false,false,false,false,false,false,false,false,false,false,false,false,false,false,false,false,false,false,false,false]
def w6x8_L6:Array Bool:=#[true,true,true,true,true,true,false,false,false,false,false,false,false,false,false,false,false,false,false,false,false,false,false,false,false,false,false,false,false,false,false,false,false,false,false,false,false,false,false,false,false,false,false,false,false,false,false,false,false,false,false,false,false,false,false,false,false,false,false,false,false,false,false,false,false,false,false,false,false,false,false,false,false,false,false,false,false,false,false,false,false,false,false,false,false,false,false,false,false,false,false,false,false,false]
def w6x8_L7:Array Bool:=#[true,true,true,true,true,true,true,false,false,false,false,false,false,false,false,false,false,false,false,false,false,false,false,false,false,false,false,false,false,false,false,false,false,false,false,false,false,false,false,false,false,false,false,false,false,false,false,false,false,false,false,false,false,false,false,false,false,false,false,false,false,false,false,false,false,false,false,false,false,false,false,false,false,false,false,false,false,false,false,false,false,false,false,false,false,false,false,false,false,false,false,false,false,false]
def w6x8_L8:Array Bool:=#[true,true,true,true,true,true,true,true,false,false,false,false,false,false,false,false,false,false,false,false,false,false,false,false,false,false,false,false,false,false,false,false,false,false,false,false,false,false,false,false,false,false,false,false,false,false,false,false,false,false,false,false,false,false,false,false,false,false,false,false,false,false,false,false,false,false,false,false,false,false,false,false,false,false,false,false,false,false,false,false,false,false,false,false,false,false,false,false,false,false,false,false,false,false]
def w6x8_L9:Array Bool:=#[true,true,true,true,true,true,true,true,true,false,false,false,false,false,false,false,false,false,false,false,false,false,false,false,false,false,false,false,false,false,false,false,false,false,false,false,false,false,false,false,false,false,false,false,false,false,false,false,false,false,false,false,false,false,false,false,false,false,false,false,false,false,false,false,false,false,false,false,false,false,false,false,false,false,false,false,false,false,false,false,false,false,false,false,false,false,false,false,false,false,false,false,false,false]
def qcj:Array Bool:=#[true,true,true,true,true,true,true,true,true,true,false,false,false,false,false,false,false,false,false,false,false,false,false,false,false,false,false,false,false,false,false,false,false,false,false,false,false,false,false,false,false,false,false,false,false,false,false,false,false,false,false,false,false,false,false,false,false,false,false,false,false,false,false,false,false,false,false,false,false,false,false,false,false,false,false,false,false,false,false,false,false,false,false,false,false,false,false,false,false,false,false,false,false,false]
def qck:Array Bool:=#[true,true,true,true,true,true,true,true,true,true,true,false,false,false,false,false,false,false,false,false,false,false,false,false,false,false,false,false,false,false,false,false,false,false,false,false,false,false,false,false,false,false,false,false,false,false,false,false,false,false,false,false,false,false,false,false,false,false,false,false,false,false,false,false,false,false,false,false,false,false,false,false,false,false,false,false,false,false,false,false,false,false,false,false,false,false,false,false,false,false,false,false,false,false]
def qcl:Array Bool:=#[true,true,true,true,true,true,true,true,true,true,true,true,false,false,false,false,false,false,false,false,false,false,false,false,false,false,false,false,false,false,false,false,false,false,false,false,false,false,false,false,false,false,false,false,false,false,false,false,false,false,false,false,false,false,false,false,false,false,false,false,false,false,false,false,false,false,false,false,false,false,false,false,false,false,false,false,false,false,false,false,false,false,false,false,false,false,false,false,false,false,false,false,false,false]
def qcm:Array Bool:=#[true,true,true,true,true,true,true,true,true,true,true,true,true,false,false,false,false,false,false,false,false,false,false,false,false,false,false,false,false,false,false,false,false,false,false,false,false,false,false,false,false,false,false,false,false,false,false,false,false,false,false,false,false,false,false,false,false,false,false,false,false,false,false,false,false,false,false,false,false,false,false,false,false,false,false,false,false,false,false,false,false,false,false,false,false,false,false,false,false,false,false,false,false,false]
def qcn:Array Bool:=#[true,true,true,true,true,true,true,true,true,true,true,true,true,true,false,false,false,false,false,false,false,false,false,false,false,false,false,false,false,false,false,false,false,false,false,false,false,false,false,false,false,false,false,false,false,false,false,false,false,false,false,false,false,false,false,false,false,false,false,false,false,false,false,false,false,false,false,false,false,false,false,false,false,false,false,false,false,false,false,false,false,false,false,false,false,false,false,false,false,false,false,false,false,false]
def qco:Array Bool:=#[true,true,true,true,true,true,true,true,true,true,true,true,true,true,true,false,false,false,false,false,false,false,false,false,false,false,false,false,false,false,false,false,false,false,false,false,false,false,false,false,false,false,false,false,false,false,false,false,false,false,false,false,false,false,false,false,false,false,false,false,false,false,false,false,false,false,false,false,false,false,false,false,false,false,false,false,false,false,false,false,false,false,false,false,false,false,false,false,false,false,false,false,false,false]
def qcp:Array Bool:=#[true,true,true,true,true,true,true,true,true,true,true,true,true,true,true,true,false,false,false,false,false,false,false,false,false,false,false,false,false,false,false,false,false,false,false,false,false,false,false,false,false,false,false,false,false,false,false,false,false,false,false,false,false,false,false,false,false,false,false,false,false,false,false,false,false,false,false,false,false,false,false,false,false,false,false,false,false,false,false,false,false,false,false,false,false,false,false,false,false,false,false,false,false,false]
def qcq:Array Bool:=#[true,true,true,true,true,true,true,true,true,true,true,true,true,true,true,true,true,false,false,false,false,false,false,false,false,false,false,false,false,false,false,false,false,false,false,false,false,false,false,false,false,false,false,false,false,false,false,false,false,false,false,false,false,false,false,false,false,false,false,false,false,false,false,false,false,false,false,false,false,false,false,false,false,false,false,false,false,false,false,false,false,false,false,false,false,false,false,false,false,false,false,false,false,false]
def qcr:Array Bool:=#[true,true,true,true,true,true,true,true,true,true,true,true,true,true,true,true,true,true,false,false,false,false,false,false,false,false,false,false,false,false,false,false,false,false,false,false,false,false,false,false,false,false,false,false,false,false,false,false,false,false,false,false,false,false,false,false,false,false,false,false,false,false,false,false,false,false,false,false,false,false,false,false,false,false,false,false,false,false,false,false,false,false,false,false,false,false,false,false,false,false,false,false,false,false]
def qcs:Array Bool:=#[true,true,true,true,true,true,true,true,true,true,true,true,true,true,true,true,true,true,true,false,false,false,false,false,false,false,false,false,false,false,false,false,false,false,false,false,false,false,false,false,false,false,false,false,false,false,false,false,false,false,false,false,false,false,false,false,false,false,false,false,false,false,false,false,false,false,false,false,false,false,false,false,false,false,false,false,false,false,false,false,false,false,false,false,false,false,false,false,false,false,false,false,false,false]
def qct:Array Bool:=#[true,true,true,true,true,true,true,true,true,true,true,true,true,true,true,true,true,true,true,true,false,false,false,false,false,false,false,false,false,false,false,false,false,false,false,false,false,false,false,false,false,false,false,false,false,false,false,false,false,false,false,false,false,false,false,false,false,false,false,false,false,false,false,false,false,false,false,false,false,false,false,false,false,false,false,false,false,false,false,false,false,false,false,false,false,false,false,false,false,false,false,false,false,false]
def qcu:Array Bool:=#[true,true,true,true,true,true,true,true,true,true,true,true,true,true,true,true,true,true,true,true,true,false,false,false,false,false,false,false,false,false,false,false,false,false,false,false,false,false,false,false,false,false,false,false,false,false,false,false,false,false,false,false,false,false,false,false,false,false,false,false,false,false,false,false,false,false,false,false,false,false,false,false,false,false,false,false,false,false,false,false,false,false,false,false,false,false,false,false,false,false,false,false,false,false]
def qcv:Array Bool:=#[true,true,true,true,true,true,true,true,true,true,true,true,true,true,true,true,true,true,true,true,true,true,true,false,false,false,false,false,false,false,false,false,false,false,false,false,false,false,false,false,false,false,false,false,false,false,false,false,false,false,false,false,false,false,false,false,false,false,false,false,false,false,false,false,false,false,false,false,false,false,false,false,false,false,false,false,false,false,false,false,false,false,false,false,false,false,false,false,false,false,false,false,false,false]
def qcw:Array Bool:=#[true,true,true,true,true,true,true,true,true,true,true,true,true,true,true,true,true,true,true,true,true,true,true,true,false,false,false,false,false,false,false,false,false,false,false,false,false,false,false,false,false,false,false,false,false,false,false,false,false,false,false,false,false,false,false,false,false,false,false,false,false,false,false,false,false,false,false,false,false,false,false,false,false,false,false,false,false,false,false,false,false,false,false,false,false,false,false,false,false,false,false,false,false,false]
def qcx:Array Bool:=#[true,true,true,true,true,true,true,true,true,true,true,true,true,true,true,true,true,true,true,true,true,true,true,true,true,false,false,false,false,false,false,false,false,false,false,false,false,false,false,false,false,false,false,false,false,false,false,false,false,false,false,false,false,false,false,false,false,false,false,false,false,false,false,false,false,false,false,false,false,false,false,false,false,false,false,false,false,false,false,false,false,false,false,false,false,false,false,false,false,false,false,false,false,false]
def qcy:Array Bool:=#[true,true,true,true,true,true,true,true,true,true,true,true,true,true,true,true,true,true,true,true,true,true,true,true,true,true,false,false,false,false,false,false,false,false,false,false,false,false,false,false,false,false,false,false,false,false,false,false,false,false,false,false,false,false,false,false,false,false,false,false,false,false,false,false,false,false,false,false,false,false,false,false,false,false,false,false,false,false,false,false,false,false,false,false,false,false,false,false,false,false,false,false,false,false]
def qcz:Array Bool:=#[true,true,true,true,true,true,true,true,true,true,true,true,true,true,true,true,true,true,true,true,true,true,true,true,true,true,true,true,false,false,false,false,false,false,false,false,false,false,false,false,false,false,false,false,false,false,false,false,false,false,false,false,false,false,false,false,false,false,false,false,false,false,false,false,false,false,false,false,false,false,false,false,false,false,false,false,false,false,false,false,false,false,false,false,false,false,false,false,false,false,false,false,false,false]
def qc0:Array Bool:=#[true,true,true,true,true,true,true,true,true,true,true,true,true,true,true,true,true,true,true,true,true,true,true,true,true,true,true,true,true,false,false,false,false,false,false,false,false,false,false,false,false,false,false,false,false,false,false,false,false,false,false,false,false,false,false,false,false,false,false,false,false,false,false,false,false,false,false,false,false,false,false,false,false,false,false,false,false,false,false,false,false,false,false,false,false,false,false,false,false,false,false,false,false,false]
def qc1:Array Bool:=#[true,true,true,true,true,true,true,true,true,true,true,true,true,true,true,true,true,true,true,true,true,true,true,true,true,true,true,true,true,true,false,false,false,false,false,false,false,false,false,false,false,false,false,false,false,false,false,false,false,false,false,false,false,false,false,false,false,false,false,false,false,false,false,false,false,false,false,false,false,false,false,false,false,false,false,false,false,false,false,false,false,false,false,false,false,false,false,false,false,false,false,false,false,false]
def qc2:Array Bool:=#[true,true,true,true,true,true,true,true,true,true,true,true,true,true,true,true,true,true,true,true,true,true,true,true,true,true,true,true,true,true,true,false,false,false,false,false,false,false,false,false,false,false,false,false,false,false,false,false,false,false,false,false,false,false,false,false,false,false,false,false,false,false,false,false,false,false,false,false,false,false,false,false,false,false,false,false,false,false,false,false,false,false,false,false,false,false,false,false,false,false,false,false,false,false]
def qc3:Array Bool:=#[true,true,true,true,true,true,true,true,true,true,true,true,true,true,true,true,true,true,true,true,true,true,true,true,true,true,true,true,true,true,true,true,false,false,false,false,false,false,false,false,false,false,false,false,false,false,false,false,false,false,false,false,false,false,false,false,false,false,false,false,false,false,false,false,false,false,false,false,false,false,false,false,false,false,false,false,false,false,false,false,false,false,false,false,false,false,false,false,false,false,false,false,false,false]
def qc4:Array Bool:=#[true,true,true,true,true,true,true,true,true,true,true,true,true,true,true,true,true,true,true,true,true,true,true,true,true,true,true,true,true,true,true,true,true,false,false,false,false,false,false,false,false,false,false,false,false,false,false,false,false,false,false,false,false,false,false,false,false,false,false,false,false,false,false,false,false,false,false,false,false,false,false,false,false,false,false,false,false,false,false,false,false,false,false,false,false,false,false,false,false,false,false,false,false,false]
def qc5:Array Bool:=#[true,true,true,true,true,true,true,true,true,true,true,true,true,true,true,true,true,true,true,true,true,true,true,true,true,true,true,true,true,true,true,true,true,true,false,false,false,false,false,false,false,false,false,false,false,false,false,false,false,false,false,false,false,false,false,false,false,false,false,false,false,false,false,false,false,false,false,false,false,false,false,false,false,false,false,false,false,false,false,false,false,false,false,false,false,false,false,false,false,false,false,false,false,false]
def qc6:Array Bool:=#[true,true,true,true,true,true,true,true,true,true,true,true,true,true,true,true,true,true,true,true,true,true,true,true,true,true,true,true,true,true,true,true,true,true,true,false,false,false,false,false,false,false,false,false,false,false,false,false,false,false,false,false,false,false,false,false,false,false,false,false,false,false,false,false,false,false,false,false,false,false,false,false,false,false,false,false,false,false,false,false,false,false,false,false,false,false,false,false,false,false,false,false,false,false]
def qc7:Array Bool:=#[true,true,true,true,true,true,true,true,true,true,true,true,true,true,true,true,true,true,true,true,true,true,true,true,true,true,true,true,true,true,true,true,true,true,true,true,true,false,false,false,false,false,false,false,false,false,false,false,false,false,false,false,false,false,false,false,false,false,false,false,false,false,false,false,false,false,false,false,false,false,false,false,false,false,false,false,false,false,false,false,false,false,false,false,false,false,false,false,false,false,false,false,false,false]
def qc8:Array Bool:=#[true,true,true,true,true,true,true,true,true,true,true,true,true,true,true,true,true,true,true,true,true,true,true,true,true,true,true,true,true,true,true,true,true,true,true,true,true,true,false,false,false,false,false,false,false,false,false,false,false,false,false,false,false,false,false,false,false,false,false,false,false,false,false,false,false,false,false,false,false,false,false,false,false,false,false,false,false,false,false,false,false,false,false,false,false,false,false,false,false,false,false,false,false,false]
def qc9:Array Bool:=#[true,true,true,true,true,true,true,true,true,true,true,true,true,true,true,true,true,true,true,true,true,true,true,true,true,true,true,true,true,true,true,true,true,true,true,true,true,true,true,false,false,false,false,false,false,false,false,false,false,false,false,false,false,false,false,false,false,false,false,false,false,false,false,false,false,false,false,false,false,false,false,false,false,false,false,false,false,false,false,false,false,false,false,false,false,false,false,false,false,false,false,false,false,false]
def qda:Array Bool:=#[true,true,true,true,true,true,true,true,true,true,true,true,true,true,true,true,true,true,true,true,true,true,true,true,true,true,true,true,true,true,true,true,true,true,true,true,true,true,true,true,false,false,false,false,false,false,false,false,false,false,false,false,false,false,false,false,false,false,false,false,false,false,false,false,false,false,false,false,false,false,false,false,false,false,false,false,false,false,false,false,false,false,false,false,false,false,false,false,false,false,false,false,false,false]
def qdb:Array Bool:=#[true,true,true,true,true,true,true,true,true,true,true,true,true,true,true,true,true,true,true,true,true,true,true,true,true,true,true,true,true,true,true,true,true,true,true,true,true,true,true,true,true,true,false,false,false,false,false,false,false,false,false,false,false,false,false,false,false,false,false,false,false,false,false,false,false,false,false,false,false,false,false,false,false,false,false,false,false,false,false,false,false,false,false,false,false,false,false,false,false,false,false,false,false,false]
def qdc:Array Bool:=#[true,true,true,true,true,true,true,true,true,true,true,true,true,true,true,true,true,true,true,true,true,true,true,true,true,true,true,true,true,true,true,true,true,true,true,true,true,true,true,true,true,true,true,false,false,false,false,false,false,false,false,false,false,false,false,false,false,false,false,false,false,false,false,false,false,false,false,false,false,false,false,false,false,false,false,false,false,false,false,false,false,false,false,false,false,false,false,false,false,false,false,false,false,false]
def qdd:Array Bool:=#[true,true,true,true,true,true,true,true,true,true,true,true,true,true,true,true,true,true,true,true,true,true,true,true,true,true,true,true,true,true,true,true,true,true,true,true,true,true,true,true,true,true,true,true,false,false,false,false,false,false,false,false,false,false,false,false,false,false,false,false,false,false,false,false,false,false,false,false,false,false,false,false,false,false,false,false,false,false,false,false,false,false,false,false,false,false,false,false,false,false,false,false,false,false]
def qde:Array Bool:=#[true,true,true,true,true,true,true,true,true,true,true,true,true,true,true,true,true,true,true,true,true,true,true,true,true,true,true,true,true,true,true,true,true,true,true,true,true,true,true,true,true,true,true,true,true,false,false,false,false,false,false,false,false,false,false,false,false,false,false,false,false,false,false,false,false,false,false,false,false,false,false,false,false,false,false,false,false,false,false,false,false,false,false,false,false,false,false,false,false,false,false,false,false,false]
def qdf:Array Bool:=#[true,true,true,true,true,true,true,true,true,true,true,true,true,true,true,true,true,true,true,true,true,true,true,true,true,true,true,true,true,true,true,true,true,true,true,true,true,true,true,true,true,true,true,true,true,true,false,false,false,false,false,false,false,false,false,false,false,false,false,false,false,false,false,false,false,false,false,false,false,false,false,false,false,false,false,false,false,false,false,false,false,false,false,false,false,false,false,false,false,false,false,false,false,false]
def qdg:Array Bool:=#[true,true,true,true,true,true,true,true,true,true,true,true,true,true,true,true,true,true,true,true,true,true,true,true,true,true,true,true,true,true,true,true,true,true,true,true,true,true,true,true,true,true,true,true,true,true,true,false,false,false,false,false,false,false,false,false,false,false,false,false,false,false,false,false,false,false,false,false,false,false,false,false,false,false,false,false,false,false,false,false,false,false,false,false,false,false,false,false,false,false,false,false,false,false]
def qdh:Array Bool:=#[true,true,true,true,true,true,true,true,true,true,true,true,true,true,true,true,true,true,true,true,true,true,true,true,true,true,true,true,true,true,true,true,true,true,true,true,true,true,true,true,true,true,true,true,true,true,true,true,false,false,false,false,false,false,false,false,false,false,false,false,false,false,false,false,false,false,false,false,false,false,false,false,false,false,false,false,false,false,false,false,false,false,false,false,false,false,false,false,false,false,false,false,false,false]
def qdi:Array Bool:=#[true,true,true,true,true,true,true,true,true,true,true,true,true,true,true,true,true,true,true,true,true,true,true,true,true,true,true,true,true,true,true,true,true,true,true,true,true,true,true,true,true,true,true,true,true,true,true,true,true,false,false,false,false,false,false,false,false,false,false,false,false,false,false,false,false,false,false,false,false,false,false,false,false,false,false,false,false,false,false,false,false,false,false,false,false,false,false,false,false,false,false,false,false,false]
def qdj:Array Bool:=#[true,true,true,true,true,true,true,true,true,true,true,true,true,true,true,true,true,true,true,true,true,true,true,true,true,true,true,true,true,true,true,true,true,true,true,true,true,true,true,true,true,true,true,true,true,true,true,true,true,true,false,false,false,false,false,false,false,false,false,false,false,false,false,false,false,false,false,false,false,false,false,false,false,false,false,false,false,false,false,false,false,false,false,false,false,false,false,false,false,false,false,false,false,false]
def qdk:Array Bool:=#[true,true,true,true,true,true,true,true,true,true,true,true,true,true,true,true,true,true,true,true,true,true,true,true,true,true,true,true,true,true,true,true,true,true,true,true,true,true,true,true,true,true,true,true,true,true,true,true,true,true,true,false,false,false,false,false,false,false,false,false,false,false,false,false,false,false,false,false,false,false,false,false,false,false,false,false,false,false,false,false,false,false,false,false,false,false,false,false,false,false,false,false,false,false]
def qdl:Array Bool:=#[true,true,true,true,true,true,true,true,true,true,true,true,true,true,true,true,true,true,true,true,true,true,true,true,true,true,true,true,true,true,true,true,true,true,true,true,true,true,true,true,true,true,true,true,true,true,true,true,true,true,true,true,false,false,false,false,false,false,false,false,false,false,false,false,false,false,false,false,false,false,false,false,false,false,false,false,false,false,false,false,false,false,false,false,false,false,false,false,false,false,false,false,false,false]
def qdm:Array Bool:=#[true,true,true,true,true,true,true,true,true,true,true,true,true,true,true,true,true,true,true,true,true,true,true,true,true,true,true,true,true,true,true,true,true,true,true,true,true,true,true,true,true,true,true,true,true,true,true,true,true,true,true,true,true,false,false,false,false,false,false,false,false,false,false,false,false,false,false,false,false,false,false,false,false,false,false,false,false,false,false,false,false,false,false,false,false,false,false,false,false,false,false,false,false,false]
def qdn:Array Bool:=#[true,true,true,true,true,true,true,true,true,true,true,true,true,true,true,true,true,true,true,true,true,true,true,true,true,true,true,true,true,true,true,true,true,true,true,true,true,true,true,true,true,true,true,true,true,true,true,true,true,true,true,true,true,true,false,false,false,false,false,false,false,false,false,false,false,false,false,false,false,false,false,false,false,false,false,false,false,false,false,false,false,false,false,false,false,false,false,false,false,false,false,false,false,false]
def qdo:Array Bool:=#[true,true,true,true,true,true,true,true,true,true,true,true,true,true,true,true,true,true,true,true,true,true,true,true,true,true,true,true,true,true,true,true,true,true,true,true,true,true,true,true,true,true,true,true,true,true,true,true,true,true,true,true,true,true,true,false,false,false,false,false,false,false,false,false,false,false,false,false,false,false,false,false,false,false,false,false,false,false,false,false,false,false,false,false,false,false,false,false,false,false,false,false,false,false]
def qdp:Array Bool:=#[true,true,true,true,true,true,true,true,true,true,true,true,true,true,true,true,true,true,true,true,true,true,true,true,true,true,true,true,true,true,true,true,true,true,true,true,true,true,true,true,true,true,true,true,true,true,true,true,true,true,true,true,true,true,true,true,false,false,false,false,false,false,false,false,false,false,false,false,false,false,false,false,false,false,false,false,false,false,false,false,false,false,false,false,false,false,false,false,false,false,false,false,false,false]
def qdq:Array Bool:=#[true,true,true,true,true,true,true,true,true,true,true,true,true,true,true,true,true,true,true,true,true,true,true,true,true,true,true,true,true,true,true,true,true,true,true,true,true,true,true,true,true,true,true,true,true,true,true,true,true,true,true,true,true,true,true,true,true,false,false,false,false,false,false,false,false,false,false,false,false,false,false,false,false,false,false,false,false,false,false,false,false,false,false,false,false,false,false,false,false,false,false,false,false,false]
def qdr:Array Bool:=#[true,true,true,true,true,true,true,true,true,true,true,true,true,true,true,true,true,true,true,true,true,true,true,true,true,true,true,true,true,true,true,true,true,true,true,true,true,true,true,true,true,true,true,true,true,true,true,true,true,true,true,true,true,true,true,true,true,true,false,false,false,false,false,false,false,false,false,false,false,false,false,false,false,false,false,false,false,false,false,false,false,false,false,false,false,false,false,false,false,false,false,false,false,false]
def qds:Array Bool:=#[true,true,true,true,true,true,true,true,true,true,true,true,true,true,true,true,true,true,true,true,true,true,true,true,true,true,true,true,true,true,true,true,true,true,true,true,true,true,true,true,true,true,true,true,true,true,true,true,true,true,true,true,true,true,true,true,true,true,true,false,false,false,false,false,false,false,false,false,false,false,false,false,false,false,false,false,false,false,false,false,false,false,false,false,false,false,false,false,false,false,false,false,false,false]
def qdt:Array Bool:=#[true,true,true,true,true,true,true,true,true,true,true,true,true,true,true,true,true,true,true,true,true,true,true,true,true,true,true,true,true,true,true,true,true,true,true,true,true,true,true,true,true,true,true,true,true,true,true,true,true,true,true,true,true,true,true,true,true,true,true,true,false,false,false,false,false,false,false,false,false,false,false,false,false,false,false,false,false,false,false,false,false,false,false,false,false,false,false,false,false,false,false,false,false,false]
def qdu:Array Bool:=#[true,true,true,true,true,true,true,true,true,true,true,true,true,true,true,true,true,true,true,true,true,true,true,true,true,true,true,true,true,true,true,true,true,true,true,true,true,true,true,true,true,true,true,true,true,true,true,true,true,true,true,true,true,true,true,true,true,true,true,true,true,false,false,false,false,false,false,false,false,false,false,false,false,false,false,false,false,false,false,false,false,false,false,false,false,false,false,false,false,false,false,false,false,false]
def qdv:Array Bool:=#[true,true,true,true,true,true,true,true,true,true,true,true,true,true,true,true,true,true,true,true,true,true,true,true,true,true,true,true,true,true,true,true,true,true,true,true,true,true,true,true,true,true,true,true,true,true,true,true,true,true,true,true,true,true,true,true,true,true,true,true,true,false,true,false,false,false,false,false,false,false,false,false,false,false,false,false,false,false,false,false,false,false,false,false,false,false,false,false,false,false,false,false,false,false]
def qdw:Array Bool:=#[true,true,true,true,true,true,true,true,true,true,true,true,true,true,true,true,true,true,true,true,true,true,true,true,true,true,true,true,true,true,true,true,true,true,true,true,true,true,true,true,true,true,true,true,true,true,true,true,true,true,true,true,true,true,true,true,true,true,true,true,true,true,true,false,false,false,false,false,false,false,false,false,false,false,false,false,false,false,false,false,false,false,false,false,false,false,false,false,false,false,false,false,false,false]
def qdx:Array Bool:=#[true,true,true,true,true,true,true,true,true,true,true,true,true,true,true,true,true,true,true,true,true,true,true,true,true,true,true,true,true,true,true,true,true,true,true,true,true,true,true,true,true,true,true,true,true,true,true,true,true,true,true,true,true,true,true,true,true,true,true,true,true,true,true,true,false,false,false,false,false,false,false,false,false,false,false,false,false,false,false,false,false,false,false,false,false,false,false,false,false,false,false,false,false,false]
def qdy:Array Bool:=#[true,true,true,true,true,true,true,true,true,true,true,true,true,true,true,true,true,true,true,true,true,true,true,true,true,true,true,true,true,true,true,true,true,true,true,true,true,true,true,true,true,true,true,true,true,true,true,true,true,true,true,true,true,true,true,true,true,true,true,true,true,true,true,true,true,false,false,false,false,false,false,false,false,false,false,false,false,false,false,false,false,false,false,false,false,false,false,false,false,false,false,false,false,false]
def qdz:Array Bool:=#[true,true,true,true,true,true,true,true,true,true,true,true,true,true,true,true,true,true,true,true,true,true,true,true,true,true,true,true,true,true,true,true,true,true,true,true,true,true,true,true,true,true,true,true,true,true,true,true,true,true,true,true,true,true,true,true,true,true,true,true,true,true,true,true,true,true,false,false,false,false,false,false,false,false,false,false,false,false,false,false,false,false,false,false,false,false,false,false,false,false,false,false,false,false]
def qd0:Array Bool:=#[true,true,true,true,true,true,true,true,true,true,true,true,true,true,true,true,true,true,true,true,true,true,true,true,true,true,true,true,true,true,true,true,true,true,true,true,true,true,true,true,true,true,true,true,true,true,true,true,true,true,true,true,true,true,true,true,true,true,true,true,true,true,true,true,true,true,true,false,false,false,false,false,false,false,false,false,false,false,false,false,false,false,false,false,false,false,false,false,false,false,false,false,false,false]
def qd1:Array Bool:=#[true,true,true,true,true,true,true,true,true,true,true,true,true,true,true,true,true,true,true,true,true,true,true,true,true,true,true,true,true,true,true,true,true,true,true,true,true,true,true,true,true,true,true,true,true,true,true,true,true,true,true,true,true,true,true,true,true,true,true,true,true,true,true,true,true,true,true,true,false,false,false,false,false,false,false,false,false,false,false,false,false,false,false,false,false,false,false,false,false,false,false,false,false,false]
def qd2:Array Bool:=#[true,true,true,true,true,true,true,true,true,true,true,true,true,true,true,true,true,true,true,true,true,true,true,true,true,true,true,true,true,true,true,true,true,true,true,true,true,true,true,true,true,true,true,true,true,true,true,true,true,true,true,true,true,true,true,true,true,true,true,true,true,true,true,true,true,true,true,true,true,false,false,false,false,false,false,false,false,false,false,false,false,false,false,false,false,false,false,false,false,false,false,false,false,false]
def qd3:Array Bool:=#[true,true,true,true,true,true,true,true,true,true,true,true,true,true,true,true,true,true,true,true,true,true,true,true,true,true,true,true,true,true,true,true,true,true,true,true,true,true,true,true,true,true,true,true,true,true,true,true,true,true,true,true,true,true,true,true,true,true,true,true,true,true,true,true,true,true,true,true,true,false,true,false,false,false,false,false,false,false,false,false,false,false,false,false,false,false,false,false,false,false,false,false,false,false]
def qd4:Array Bool:=#[true,true,true,true,true,true,true,true,true,true,true,true,true,true,true,true,true,true,true,true,true,true,true,true,true,true,true,true,true,true,true,true,true,true,true,true,true,true,true,true,true,true,true,true,true,true,true,true,true,true,true,true,true,true,true,true,true,true,true,true,true,true,true,true,true,true,true,true,true,true,true,false,false,false,false,false,false,false,false,false,false,false,false,false,false,false,false,false,false,false,false,false,false,false]
def qd5:Array Bool:=#[true,true,true,true,true,true,true,true,true,true,true,true,true,true,true,true,true,true,true,true,true,true,true,true,true,true,true,true,true,true,true,true,true,true,true,true,true,true,true,true,true,true,true,true,true,true,true,true,true,true,true,true,true,true,true,true,true,true,true,true,true,true,true,true,true,true,true,true,true,true,true,true,false,false,false,false,false,false,false,false,false,false,false,false,false,false,false,false,false,false,false,false,false,false]
def qd6:Array Bool:=#[true,true,true,true,true,true,true,true,true,true,true,true,true,true,true,true,true,true,true,true,true,true,true,true,true,true,true,true,true,true,true,true,true,true,true,true,true,true,true,true,true,true,true,true,true,true,true,true,true,true,true,true,true,true,true,true,true,true,true,true,true,true,true,true,true,true,true,true,true,true,true,true,true,false,false,false,false,false,false,false,false,false,false,false,false,false,false,false,false,false,false,false,false,false]
def qd7:Array Bool:=#[true,true,true,true,true,true,true,true,true,true,true,true,true,true,true,true,true,true,true,true,true,true,true,true,true,true,true,true,true,true,true,true,true,true,true,true,true,true,true,true,true,true,true,true,true,true,true,true,true,true,true,true,true,true,true,true,true,true,true,true,true,true,true,true,true,true,true,true,true,true,true,true,true,true,false,false,false,false,false,false,false,false,false,false,false,false,false,false,false,false,false,false,false,false]
def qd8:Array Bool:=#[true,true,true,true,true,true,true,true,true,true,true,true,true,true,true,true,true,true,true,true,true,true,true,true,true,true,true,true,true,true,true,true,true,true,true,true,true,true,true,true,true,true,true,true,true,true,true,true,true,true,true,true,true,true,true,true,true,true,true,true,true,true,true,true,true,true,true,true,true,true,true,true,true,true,true,false,false,false,false,false,false,false,false,false,false,false,false,false,false,false,false,false,false,false]
def qd9:Array Bool:=#[true,true,true,true,true,true,true,true,true,true,true,true,true,true,true,true,true,true,true,true,true,true,true,true,true,true,true,true,true,true,true,true,true,true,true,true,true,true,true,true,true,true,true,true,true,true,true,true,true,true,true,true,true,true,true,true,true,true,true,true,true,true,true,true,true,true,true,true,true,true,true,true,true,true,true,true,false,false,false,false,false,false,false,false,false,false,false,false,false,false,false,false,false,false]
def qea:Array Bool:=#[true,true,true,true,true,true,true,true,true,true,true,true,true,true,true,true,true,true,true,true,true,true,true,true,true,true,true,true,true,true,true,true,true,true,true,true,true,true,true,true,true,true,true,true,true,true,true,true,true,true,true,true,true,true,true,true,true,true,true,true,true,true,true,true,true,true,true,true,true,true,true,true,true,true,true,true,true,false,false,false,false,false,false,false,false,false,false,false,false,false,false,false,false,false]
def qeb:Array Bool:=#[true,true,true,true,true,true,true,true,true,true,true,true,true,true,true,true,true,true,true,true,true,true,true,true,true,true,true,true,true,true,true,true,true,true,true,true,true,true,true,true,true,true,true,true,true,true,true,true,true,true,true,true,true,true,true,true,true,true,true,true,true,true,true,true,true,true,true,true,true,true,true,true,true,true,true,true,true,true,false,false,false,false,false,false,false,false,false,false,false,false,false,false,false,false]
def qec:Array Bool:=#[true,true,true,true,true,true,true,true,true,true,true,true,true,true,true,true,true,true,true,true,true,true,true,true,true,true,true,true,true,true,true,true,true,true,true,true,true,true,true,true,true,true,true,true,true,true,true,true,true,true,true,true,true,true,true,true,true,true,true,true,true,true,true,true,true,true,true,true,true,true,true,true,true,true,true,true,true,true,true,false,false,false,false,false,false,false,false,false,false,false,false,false,false,false]
def qed:Array Bool:=#[true,true,true,true,true,true,true,true,true,true,true,true,true,true,true,true,true,true,true,true,true,true,true,true,true,true,true,true,true,true,true,true,true,true,true,true,true,true,true,true,true,true,true,true,true,true,true,true,true,true,true,true,true,true,true,true,true,true,true,true,true,true,true,true,true,true,true,true,true,true,true,true,true,true,true,true,true,true,true,true,false,false,false,false,false,false,false,false,false,false,false,false,false,false]
def qee:Array Bool:=#[true,true,true,true,true,true,true,true,true,true,true,true,true,true,true,true,true,true,true,true,true,true,true,true,true,true,true,true,true,true,true,true,true,true,true,true,true,true,true,true,true,true,true,true,true,true,true,true,true,true,true,true,true,true,true,true,true,true,true,true,true,true,true,true,true,true,true,true,true,true,true,true,true,true,true,true,true,true,true,true,true,false,false,false,false,false,false,false,false,false,false,false,false,false]
def qef:Array Bool:=#[true,true,true,true,true,true,true,true,true,true,true,true,true,true,true,true,true,true,true,true,true,true,true,true,true,true,true,true,true,true,true,true,true,true,true,true,true,true,true,true,true,true,true,true,true,true,true,true,true,true,true,true,true,true,true,true,true,true,true,true,true,true,true,true,true,true,true,true,true,true,true,true,true,true,true,true,true,true,true,true,true,false,true,false,false,false,false,false,false,false,false,false,false,false]
def qeg:Array Bool:=#[true,true,true,true,true,true,true,true,true,true,true,true,true,true,true,true,true,true,true,true,true,true,true,true,true,true,true,true,true,true,true,true,true,true,true,true,true,true,true,true,true,true,true,true,true,true,true,true,true,true,true,true,true,true,true,true,true,true,true,true,true,true,true,true,true,true,true,true,true,true,true,true,true,true,true,true,true,true,true,true,true,true,true,false,false,false,false,false,false,false,false,false,false,false]
def qeh:Array Bool:=#[true,true,true,true,true,true,true,true,true,true,true,true,true,true,true,true,true,true,true,true,true,true,true,true,true,true,true,true,true,true,true,true,true,true,true,true,true,true,true,true,true,true,true,true,true,true,true,true,true,true,true,true,true,true,true,true,true,true,true,true,true,true,true,true,true,true,true,true,true,true,true,true,true,true,true,true,true,true,true,true,true,true,true,true,false,false,false,false,false,false,false,false,false,false]
def qei:Array Bool:=#[true,true,true,true,true,true,true,true,true,true,true,true,true,true,true,true,true,true,true,true,true,true,true,true,true,true,true,true,true,true,true,true,true,true,true,true,true,true,true,true,true,true,true,true,true,true,true,true,true,true,true,true,true,true,true,true,true,true,true,true,true,true,true,true,true,true,true,true,true,true,true,true,true,true,true,true,true,true,true,true,true,true,true,true,true,false,false,false,false,false,false,false,false,false]
def qej:Array Bool:=#[true,true,true,true,true,true,true,true,true,true,true,true,true,true,true,true,true,true,true,true,true,true,true,true,true,true,true,true,true,true,true,true,true,true,true,true,true,true,true,true,true,true,true,true,true,true,true,true,true,true,true,true,true,true,true,true,true,true,true,true,true,true,true,true,true,true,true,true,true,true,true,true,true,true,true,true,true,true,true,true,true,true,true,true,true,true,false,false,false,false,false,false,false,false]
def qek:Array Bool:=#[true,true,true,true,true,true,true,true,true,true,true,true,true,true,true,true,true,true,true,true,true,true,true,true,true,true,true,true,true,true,true,true,true,true,true,true,true,true,true,true,true,true,true,true,true,true,true,true,true,true,true,true,true,true,true,true,true,true,true,true,true,true,true,true,true,true,true,true,true,true,true,true,true,true,true,true,true,true,true,true,true,true,true,true,true,true,true,false,false,false,false,false,false,false]
def qel:Array Bool:=#[true,true,true,true,true,true,true,true,true,true,true,true,true,true,true,true,true,true,true,true,true,true,true,true,true,true,true,true,true,true,true,true,true,true,true,true,true,true,true,true,true,true,true,true,true,true,true,true,true,true,true,true,true,true,true,true,true,true,true,true,true,true,true,true,true,true,true,true,true,true,true,true,true,true,true,true,true,true,true,true,true,true,true,true,true,true,true,true,false,false,false,false,false,false]
def qem:Array Bool:=#[true,true,true,true,true,true,true,true,true,true,true,true,true,true,true,true,true,true,true,true,true,true,true,true,true,true,true,true,true,true,true,true,true,true,true,true,true,true,true,true,true,true,true,true,true,true,true,true,true,true,true,true,true,true,true,true,true,true,true,true,true,true,true,true,true,true,true,true,true,true,true,true,true,true,true,true,true,true,true,true,true,true,true,true,true,true,true,true,false,true,false,false,false,false]
def qen:Array Bool:=#[true,true,true,true,true,true,true,true,true,true,true,true,true,true,true,true,true,true,true,true,true,true,true,true,true,true,true,true,true,true,true,true,true,true,true,true,true,true,true,true,true,true,true,true,true,true,true,true,true,true,true,true,true,true,true,true,true,true,true,true,true,true,true,true,true,true,true,true,true,true,true,true,true,true,true,true,true,true,true,true,true,true,true,true,true,true,true,true,true,true,false,false,false,false]
def qeo:Array Bool:=#[true,true,true,true,true,true,true,true,true,true,true,true,true,true,true,true,true,true,true,true,true,true,true,true,true,true,true,true,true,true,true,true,true,true,true,true,true,true,true,true,true,true,true,true,true,true,true,true,true,true,true,true,true,true,true,true,true,true,true,true,true,true,true,true,true,true,true,true,true,true,true,true,true,true,true,true,true,true,true,true,true,true,true,true,true,true,true,true,true,true,true,false,false,false]
def qep:Array Bool:=#[true,true,true,true,true,true,true,true,true,true,true,true,true,true,true,true,true,true,true,true,true,true,true,true,true,true,true,true,true,true,true,true,true,true,true,true,true,true,true,true,true,true,true,true,true,true,true,true,true,true,true,true,true,true,true,true,true,true,true,true,true,true,true,true,true,true,true,true,true,true,true,true,true,true,true,true,true,true,true,true,true,true,true,true,true,true,true,true,true,true,true,true,false,false]
def qeq:Array Bool:=#[true,true,true,true,true,true,true,true,true,true,true,true,true,true,true,true,true,true,true,true,true,true,true,true,true,true,true,true,true,true,true,true,true,true,true,true,true,true,true,true,true,true,true,true,true,true,true,true,true,true,true,true,true,true,true,true,true,true,true,true,true,true,true,true,true,true,true,true,true,true,true,true,true,true,true,true,true,true,true,true,true,true,true,true,true,true,true,true,true,true,true,true,true,false]
def w6x8_L90:Array Bool:=#[true,true,true,true,true,true,true,true,true,true,true,true,true,true,true,true,true,true,true,true,true,true,true,true,true,true,true,true,true,true,true,true,true,true,true,true,true,true,true,true,true,true,true,true,true,true,true,true,true,true,true,true,true,true,true,true,true,true,true,true,true,true,true,true,true,true,true,true,true,true,true,true,true,true,true,true,true,true,true,true,true,true,true,true,true,true,true,true,true,true,true,true,true,true]
def w6x8_p90:PT:=.done
def w6x8_p89:PT:=.op 93 w6x8_p90
def w6x8_p88:PT:=.op 92 w6x8_p89
def w6x8_p87:PT:=.op 91 w6x8_p88
def w6x8_p86:PT:=.op 90 w6x8_p87
def w6x8_p85:PT:=.op 88 w6x8_p86
def w6x8_p84:PT:=.op 89 w6x8_p85
def w6x8_p83:PT:=.op 87 w6x8_p84
def w6x8_p82:PT:=.op 86 w6x8_p83
def w6x8_p81:PT:=.op 85 w6x8_p82
def w6x8_p80:PT:=.op 84 w6x8_p81
def w6x8_p79:PT:=.op 83 w6x8_p80
def w6x8_p78:PT:=.op 81 w6x8_p79
def w6x8_p77:PT:=.op 82 w6x8_p78
def w6x8_p76:PT:=.op 80 w6x8_p77
def w6x8_p75:PT:=.op 79 w6x8_p76
def w6x8_p74:PT:=.op 78 w6x8_p75
def w6x8_p73:PT:=.op 77 w6x8_p74
def w6x8_p72:PT:=.op 76 w6x8_p73
def w6x8_p71:PT:=.op 75 w6x8_p72
def w6x8_p70:PT:=.op 74 w6x8_p71
def w6x8_p69:PT:=.op 73 w6x8_p70
def w6x8_p68:PT:=.op 72 w6x8_p69
def w6x8_p67:PT:=.op 71 w6x8_p68
def w6x8_p66:PT:=.op 69 w6x8_p67
def w6x8_p65:PT:=.op 70 w6x8_p66
def w6x8_p64:PT:=.op 68 w6x8_p65
def w6x8_p63:PT:=.op 67 w6x8_p64
def w6x8_p62:PT:=.op 66 w6x8_p63
def w6x8_p61:PT:=.op 65 w6x8_p62
def w6x8_p60:PT:=.op 64 w6x8_p61
def w6x8_p59:PT:=.op 63 w6x8_p60
def w6x8_p58:PT:=.op 61 w6x8_p59
def w6x8_p57:PT:=.op 62 w6x8_p58
def w6x8_p56:PT:=.op 60 w6x8_p57
def w6x8_p55:PT:=.op 59 w6x8_p56
def w6x8_p54:PT:=.op 58 w6x8_p55
def w6x8_p53:PT:=.op 57 w6x8_p54
def w6x8_p52:PT:=.op 56 w6x8_p53
def w6x8_p51:PT:=.op 55 w6x8_p52
def w6x8_p50:PT:=.op 54 w6x8_p51
def w6x8_p49:PT:=.op 53 w6x8_p50
def w6x8_p48:PT:=.op 52 w6x8_p49
def w6x8_p47:PT:=.op 51 w6x8_p48
def w6x8_p46:PT:=.op 50 w6x8_p47
def w6x8_p45:PT:=.op 49 w6x8_p46
def w6x8_p44:PT:=.op 48 w6x8_p45
def w6x8_p43:PT:=.op 47 w6x8_p44
def w6x8_p42:PT:=.op 46 w6x8_p43
def w6x8_p41:PT:=.op 45 w6x8_p42
def w6x8_p40:PT:=.op 44 w6x8_p41
def w6x8_p39:PT:=.op 43 w6x8_p40
def w6x8_p38:PT:=.op 42 w6x8_p39
def w6x8_p37:PT:=.two 40 41 w6x8_p38
def w6x8_p36:PT:=.op 39 w6x8_p37
def w6x8_p35:PT:=.op 38 w6x8_p36
def w6x8_p34:PT:=.op 37 w6x8_p35
def w6x8_p33:PT:=.two 35 36 w6x8_p34
def w6x8_p32:PT:=.op 34 w6x8_p33
def w6x8_p31:PT:=.op 33 w6x8_p32
def w6x8_p30:PT:=.op 32 w6x8_p31
def w6x8_p29:PT:=.op 31 w6x8_p30
def w6x8_p28:PT:=.op 30 w6x8_p29
def w6x8_p27:PT:=.op 29 w6x8_p28
def w6x8_p26:PT:=.op 28 w6x8_p27
def w6x8_p25:PT:=.two 26 27 w6x8_p26
def w6x8_p24:PT:=.op 25 w6x8_p25
def w6x8_p23:PT:=.op 24 w6x8_p24
def w6x8_p22:PT:=.op 23 w6x8_p23
def w6x8_p21:PT:=.two 21 22 w6x8_p22
def w6x8_p20:PT:=.op 20 w6x8_p21
def w6x8_p19:PT:=.op 19 w6x8_p20
def w6x8_p18:PT:=.op 18 w6x8_p19
def w6x8_p17:PT:=.op 17 w6x8_p18
def w6x8_p16:PT:=.op 16 w6x8_p17
def w6x8_p15:PT:=.op 15 w6x8_p16
def w6x8_p14:PT:=.op 14 w6x8_p15
def w6x8_p13:PT:=.op 13 w6x8_p14
def w6x8_p12:PT:=.op 12 w6x8_p13
def w6x8_p11:PT:=.op 11 w6x8_p12
def w6x8_p10:PT:=.op 10 w6x8_p11
def w6x8_p9:PT:=.op 9 w6x8_p10
def w6x8_p8:PT:=.op 8 w6x8_p9
def w6x8_p7:PT:=.op 7 w6x8_p8
def w6x8_p6:PT:=.op 6 w6x8_p7
def w6x8_p5:PT:=.op 5 w6x8_p6
def w6x8_p4:PT:=.op 4 w6x8_p5
def w6x8_p3:PT:=.op 3 w6x8_p4
def w6x8_p2:PT:=.op 2 w6x8_p3
def w6x8_p1:PT:=.op 1 w6x8_p2
def w6x8_p0:PT:=.op 0 w6x8_p1
theorem w6x8_b90:planB tau w6o8 w6x8_p90 false w6x8_L90=true:=by kernel_rfl
theorem w6x8_s89:(qeq).setIfInBounds 93 true=w6x8_L90:=by kernel_rfl
theorem w6x8_q89:stepB w6o8 93 w6x8_p90 false qeq=true:=by kernel_rfl
theorem w6x8_b89:planB tau w6o8 w6x8_p89 false qeq=true:=qab w6x8_q89 (by rw [w6x8_s89];exact w6x8_b90)
theorem w6x8_s88:(qep).setIfInBounds 92 true=qeq:=by kernel_rfl
theorem w6x8_q88:stepB w6o8 92 w6x8_p89 false qep=true:=by kernel_rfl
theorem w6x8_b88:planB tau w6o8 w6x8_p88 false qep=true:=qab w6x8_q88 (by rw [w6x8_s88];exact w6x8_b89)
theorem w6x8_s87:(qeo).setIfInBounds 91 true=qep:=by kernel_rfl
theorem w6x8_q87:stepB w6o8 91 w6x8_p88 false qeo=true:=by kernel_rfl
theorem w6x8_b87:planB tau w6o8 w6x8_p87 false qeo=true:=qab w6x8_q87 (by rw [w6x8_s87];exact w6x8_b88)
theorem w6x8_s86:(qen).setIfInBounds 90 true=qeo:=by kernel_rfl
theorem w6x8_q86:stepB w6o8 90 w6x8_p87 false qen=true:=by kernel_rfl
theorem w6x8_b86:planB tau w6o8 w6x8_p86 false qen=true:=qab w6x8_q86 (by rw [w6x8_s86];exact w6x8_b87)
theorem w6x8_s85:(qem).setIfInBounds 88 true=qen:=by kernel_rfl
theorem w6x8_q85:stepB w6o8 88 w6x8_p86 false qem=true:=by kernel_rfl
theorem w6x8_b85:planB tau w6o8 w6x8_p85 false qem=true:=qab w6x8_q85 (by rw [w6x8_s85];exact w6x8_b86)
theorem w6x8_s84:(qel).setIfInBounds 89 true=qem:=by kernel_rfl
theorem w6x8_q84:stepB w6o8 89 w6x8_p85 false qel=true:=by kernel_rfl
theorem w6x8_b84:planB tau w6o8 w6x8_p84 false qel=true:=qab w6x8_q84 (by rw [w6x8_s84];exact w6x8_b85)
theorem w6x8_s83:(qek).setIfInBounds 87 true=qel:=by kernel_rfl
theorem w6x8_q83:stepB w6o8 87 w6x8_p84 false qek=true:=by kernel_rfl
theorem w6x8_b83:planB tau w6o8 w6x8_p83 false qek=true:=qab w6x8_q83 (by rw [w6x8_s83];exact w6x8_b84)
theorem w6x8_s82:(qej).setIfInBounds 86 true=qek:=by kernel_rfl
theorem w6x8_q82:stepB w6o8 86 w6x8_p83 false qej=true:=by kernel_rfl
theorem w6x8_b82:planB tau w6o8 w6x8_p82 false qej=true:=qab w6x8_q82 (by rw [w6x8_s82];exact w6x8_b83)
theorem w6x8_s81:(qei).setIfInBounds 85 true=qej:=by kernel_rfl
theorem w6x8_q81:stepB w6o8 85 w6x8_p82 false qei=true:=by kernel_rfl
theorem w6x8_b81:planB tau w6o8 w6x8_p81 false qei=true:=qab w6x8_q81 (by rw [w6x8_s81];exact w6x8_b82)
theorem w6x8_s80:(qeh).setIfInBounds 84 true=qei:=by kernel_rfl
theorem w6x8_q80:stepB w6o8 84 w6x8_p81 false qeh=true:=by kernel_rfl
theorem w6x8_b80:planB tau w6o8 w6x8_p80 false qeh=true:=qab w6x8_q80 (by rw [w6x8_s80];exact w6x8_b81)
theorem w6x8_s79:(qeg).setIfInBounds 83 true=qeh:=by kernel_rfl
theorem w6x8_q79:stepB w6o8 83 w6x8_p80 false qeg=true:=by kernel_rfl
theorem w6x8_b79:planB tau w6o8 w6x8_p79 false qeg=true:=qab w6x8_q79 (by rw [w6x8_s79];exact w6x8_b80)
theorem w6x8_s78:(qef).setIfInBounds 81 true=qeg:=by kernel_rfl
theorem w6x8_q78:stepB w6o8 81 w6x8_p79 false qef=true:=by kernel_rfl
theorem w6x8_b78:planB tau w6o8 w6x8_p78 false qef=true:=qab w6x8_q78 (by rw [w6x8_s78];exact w6x8_b79)
theorem w6x8_s77:(qee).setIfInBounds 82 true=qef:=by kernel_rfl
theorem w6x8_q77:stepB w6o8 82 w6x8_p78 false qee=true:=by kernel_rfl
theorem w6x8_b77:planB tau w6o8 w6x8_p77 false qee=true:=qab w6x8_q77 (by rw [w6x8_s77];exact w6x8_b78)
theorem w6x8_s76:(qed).setIfInBounds 80 true=qee:=by kernel_rfl
theorem w6x8_q76:stepB w6o8 80 w6x8_p77 false qed=true:=by kernel_rfl
theorem w6x8_b76:planB tau w6o8 w6x8_p76 false qed=true:=qab w6x8_q76 (by rw [w6x8_s76];exact w6x8_b77)
theorem w6x8_s75:(qec).setIfInBounds 79 true=qed:=by kernel_rfl
theorem w6x8_q75:stepB w6o8 79 w6x8_p76 false qec=true:=by kernel_rfl
theorem w6x8_b75:planB tau w6o8 w6x8_p75 false qec=true:=qab w6x8_q75 (by rw [w6x8_s75];exact w6x8_b76)
theorem w6x8_s74:(qeb).setIfInBounds 78 true=qec:=by kernel_rfl
theorem w6x8_q74:stepB w6o8 78 w6x8_p75 false qeb=true:=by kernel_rfl
theorem w6x8_b74:planB tau w6o8 w6x8_p74 false qeb=true:=qab w6x8_q74 (by rw [w6x8_s74];exact w6x8_b75)
theorem w6x8_s73:(qea).setIfInBounds 77 true=qeb:=by kernel_rfl
theorem w6x8_q73:stepB w6o8 77 w6x8_p74 false qea=true:=by kernel_rfl
theorem w6x8_b73:planB tau w6o8 w6x8_p73 false qea=true:=qab w6x8_q73 (by rw [w6x8_s73];exact w6x8_b74)
theorem w6x8_s72:(qd9).setIfInBounds 76 true=qea:=by kernel_rfl
theorem w6x8_q72:stepB w6o8 76 w6x8_p73 false qd9=true:=by kernel_rfl
theorem w6x8_b72:planB tau w6o8 w6x8_p72 false qd9=true:=qab w6x8_q72 (by rw [w6x8_s72];exact w6x8_b73)
theorem w6x8_s71:(qd8).setIfInBounds 75 true=qd9:=by kernel_rfl
theorem w6x8_q71:stepB w6o8 75 w6x8_p72 false qd8=true:=by kernel_rfl
theorem w6x8_b71:planB tau w6o8 w6x8_p71 false qd8=true:=qab w6x8_q71 (by rw [w6x8_s71];exact w6x8_b72)
theorem w6x8_s70:(qd7).setIfInBounds 74 true=qd8:=by kernel_rfl
theorem w6x8_q70:stepB w6o8 74 w6x8_p71 false qd7=true:=by kernel_rfl
theorem w6x8_b70:planB tau w6o8 w6x8_p70 false qd7=true:=qab w6x8_q70 (by rw [w6x8_s70];exact w6x8_b71)
theorem w6x8_s69:(qd6).setIfInBounds 73 true=qd7:=by kernel_rfl
theorem w6x8_q69:stepB w6o8 73 w6x8_p70 false qd6=true:=by kernel_rfl
theorem w6x8_b69:planB tau w6o8 w6x8_p69 false qd6=true:=qab w6x8_q69 (by rw [w6x8_s69];exact w6x8_b70)
theorem w6x8_s68:(qd5).setIfInBounds 72 true=qd6:=by kernel_rfl
theorem w6x8_q68:stepB w6o8 72 w6x8_p69 false qd5=true:=by kernel_rfl
theorem w6x8_b68:planB tau w6o8 w6x8_p68 false qd5=true:=qab w6x8_q68 (by rw [w6x8_s68];exact w6x8_b69)
theorem w6x8_s67:(qd4).setIfInBounds 71 true=qd5:=by kernel_rfl
theorem w6x8_q67:stepB w6o8 71 w6x8_p68 false qd4=true:=by kernel_rfl
theorem w6x8_b67:planB tau w6o8 w6x8_p67 false qd4=true:=qab w6x8_q67 (by rw [w6x8_s67];exact w6x8_b68)
theorem w6x8_s66:(qd3).setIfInBounds 69 true=qd4:=by kernel_rfl
theorem w6x8_q66:stepB w6o8 69 w6x8_p67 false qd3=true:=by kernel_rfl
theorem w6x8_b66:planB tau w6o8 w6x8_p66 false qd3=true:=qab w6x8_q66 (by rw [w6x8_s66];exact w6x8_b67)
theorem w6x8_s65:(qd2).setIfInBounds 70 true=qd3:=by kernel_rfl
theorem w6x8_q65:stepB w6o8 70 w6x8_p66 false qd2=true:=by kernel_rfl
theorem w6x8_b65:planB tau w6o8 w6x8_p65 false qd2=true:=qab w6x8_q65 (by rw [w6x8_s65];exact w6x8_b66)
theorem w6x8_s64:(qd1).setIfInBounds 68 true=qd2:=by kernel_rfl
theorem w6x8_q64:stepB w6o8 68 w6x8_p65 false qd1=true:=by kernel_rfl
theorem w6x8_b64:planB tau w6o8 w6x8_p64 false qd1=true:=qab w6x8_q64 (by rw [w6x8_s64];exact w6x8_b65)
theorem w6x8_s63:(qd0).setIfInBounds 67 true=qd1:=by kernel_rfl
theorem w6x8_q63:stepB w6o8 67 w6x8_p64 false qd0=true:=by kernel_rfl
theorem w6x8_b63:planB tau w6o8 w6x8_p63 false qd0=true:=qab w6x8_q63 (by rw [w6x8_s63];exact w6x8_b64)
theorem w6x8_s62:(qdz).setIfInBounds 66 true=qd0:=by kernel_rfl
theorem w6x8_q62:stepB w6o8 66 w6x8_p63 false qdz=true:=by kernel_rfl
theorem w6x8_b62:planB tau w6o8 w6x8_p62 false qdz=true:=qab w6x8_q62 (by rw [w6x8_s62];exact w6x8_b63)
theorem w6x8_s61:(qdy).setIfInBounds 65 true=qdz:=by kernel_rfl
theorem w6x8_q61:stepB w6o8 65 w6x8_p62 false qdy=true:=by kernel_rfl
theorem w6x8_b61:planB tau w6o8 w6x8_p61 false qdy=true:=qab w6x8_q61 (by rw [w6x8_s61];exact w6x8_b62)
theorem w6x8_s60:(qdx).setIfInBounds 64 true=qdy:=by kernel_rfl
theorem w6x8_q60:stepB w6o8 64 w6x8_p61 false qdx=true:=by kernel_rfl
theorem w6x8_b60:planB tau w6o8 w6x8_p60 false qdx=true:=qab w6x8_q60 (by rw [w6x8_s60];exact w6x8_b61)
theorem w6x8_s59:(qdw).setIfInBounds 63 true=qdx:=by kernel_rfl
theorem w6x8_q59:stepB w6o8 63 w6x8_p60 false qdw=true:=by kernel_rfl
theorem w6x8_b59:planB tau w6o8 w6x8_p59 false qdw=true:=qab w6x8_q59 (by rw [w6x8_s59];exact w6x8_b60)
theorem w6x8_s58:(qdv).setIfInBounds 61 true=qdw:=by kernel_rfl
theorem w6x8_q58:stepB w6o8 61 w6x8_p59 false qdv=true:=by kernel_rfl
theorem w6x8_b58:planB tau w6o8 w6x8_p58 false qdv=true:=qab w6x8_q58 (by rw [w6x8_s58];exact w6x8_b59)
theorem w6x8_s57:(qdu).setIfInBounds 62 true=qdv:=by kernel_rfl
theorem w6x8_q57:stepB w6o8 62 w6x8_p58 false qdu=true:=by kernel_rfl
theorem w6x8_b57:planB tau w6o8 w6x8_p57 false qdu=true:=qab w6x8_q57 (by rw [w6x8_s57];exact w6x8_b58)
theorem w6x8_s56:(qdt).setIfInBounds 60 true=qdu:=by kernel_rfl
theorem w6x8_q56:stepB w6o8 60 w6x8_p57 false qdt=true:=by kernel_rfl
theorem w6x8_b56:planB tau w6o8 w6x8_p56 false qdt=true:=qab w6x8_q56 (by rw [w6x8_s56];exact w6x8_b57)
theorem w6x8_s55:(qds).setIfInBounds 59 true=qdt:=by kernel_rfl
theorem w6x8_q55:stepB w6o8 59 w6x8_p56 false qds=true:=by kernel_rfl
theorem w6x8_b55:planB tau w6o8 w6x8_p55 false qds=true:=qab w6x8_q55 (by rw [w6x8_s55];exact w6x8_b56)
theorem w6x8_s54:(qdr).setIfInBounds 58 true=qds:=by kernel_rfl
theorem w6x8_q54:stepB w6o8 58 w6x8_p55 false qdr=true:=by kernel_rfl
theorem w6x8_b54:planB tau w6o8 w6x8_p54 false qdr=true:=qab w6x8_q54 (by rw [w6x8_s54];exact w6x8_b55)
theorem w6x8_s53:(qdq).setIfInBounds 57 true=qdr:=by kernel_rfl
theorem w6x8_q53:stepB w6o8 57 w6x8_p54 false qdq=true:=by kernel_rfl
theorem w6x8_b53:planB tau w6o8 w6x8_p53 false qdq=true:=qab w6x8_q53 (by rw [w6x8_s53];exact w6x8_b54)
theorem w6x8_s52:(qdp).setIfInBounds 56 true=qdq:=by kernel_rfl
theorem w6x8_q52:stepB w6o8 56 w6x8_p53 false qdp=true:=by kernel_rfl
theorem w6x8_b52:planB tau w6o8 w6x8_p52 false qdp=true:=qab w6x8_q52 (by rw [w6x8_s52];exact w6x8_b53)
theorem w6x8_s51:(qdo).setIfInBounds 55 true=qdp:=by kernel_rfl
theorem w6x8_q51:stepB w6o8 55 w6x8_p52 false qdo=true:=by kernel_rfl
theorem w6x8_b51:planB tau w6o8 w6x8_p51 false qdo=true:=qab w6x8_q51 (by rw [w6x8_s51];exact w6x8_b52)
theorem w6x8_s50:(qdn).setIfInBounds 54 true=qdo:=by kernel_rfl
theorem w6x8_q50:stepB w6o8 54 w6x8_p51 false qdn=true:=by kernel_rfl
theorem w6x8_b50:planB tau w6o8 w6x8_p50 false qdn=true:=qab w6x8_q50 (by rw [w6x8_s50];exact w6x8_b51)
theorem w6x8_s49:(qdm).setIfInBounds 53 true=qdn:=by kernel_rfl
theorem w6x8_q49:stepB w6o8 53 w6x8_p50 false qdm=true:=by kernel_rfl
theorem w6x8_b49:planB tau w6o8 w6x8_p49 false qdm=true:=qab w6x8_q49 (by rw [w6x8_s49];exact w6x8_b50)
theorem w6x8_s48:(qdl).setIfInBounds 52 true=qdm:=by kernel_rfl
theorem w6x8_q48:stepB w6o8 52 w6x8_p49 false qdl=true:=by kernel_rfl
theorem w6x8_b48:planB tau w6o8 w6x8_p48 false qdl=true:=qab w6x8_q48 (by rw [w6x8_s48];exact w6x8_b49)
theorem w6x8_s47:(qdk).setIfInBounds 51 true=qdl:=by kernel_rfl
theorem w6x8_q47:stepB w6o8 51 w6x8_p48 false qdk=true:=by kernel_rfl
theorem w6x8_b47:planB tau w6o8 w6x8_p47 false qdk=true:=qab w6x8_q47 (by rw [w6x8_s47];exact w6x8_b48)
theorem w6x8_s46:(qdj).setIfInBounds 50 true=qdk:=by kernel_rfl
theorem w6x8_q46:stepB w6o8 50 w6x8_p47 false qdj=true:=by kernel_rfl
theorem w6x8_b46:planB tau w6o8 w6x8_p46 false qdj=true:=qab w6x8_q46 (by rw [w6x8_s46];exact w6x8_b47)
theorem w6x8_s45:(qdi).setIfInBounds 49 true=qdj:=by kernel_rfl
theorem w6x8_q45:stepB w6o8 49 w6x8_p46 false qdi=true:=by kernel_rfl
theorem w6x8_b45:planB tau w6o8 w6x8_p45 false qdi=true:=qab w6x8_q45 (by rw [w6x8_s45];exact w6x8_b46)
theorem w6x8_s44:(qdh).setIfInBounds 48 true=qdi:=by kernel_rfl
theorem w6x8_q44:stepB w6o8 48 w6x8_p45 false qdh=true:=by kernel_rfl
theorem w6x8_b44:planB tau w6o8 w6x8_p44 false qdh=true:=qab w6x8_q44 (by rw [w6x8_s44];exact w6x8_b45)
theorem w6x8_s43:(qdg).setIfInBounds 47 true=qdh:=by kernel_rfl
theorem w6x8_q43:stepB w6o8 47 w6x8_p44 false qdg=true:=by kernel_rfl
theorem w6x8_b43:planB tau w6o8 w6x8_p43 false qdg=true:=qab w6x8_q43 (by rw [w6x8_s43];exact w6x8_b44)
theorem w6x8_s42:(qdf).setIfInBounds 46 true=qdg:=by kernel_rfl
theorem w6x8_q42:stepB w6o8 46 w6x8_p43 false qdf=true:=by kernel_rfl
theorem w6x8_b42:planB tau w6o8 w6x8_p42 false qdf=true:=qab w6x8_q42 (by rw [w6x8_s42];exact w6x8_b43)
theorem w6x8_s41:(qde).setIfInBounds 45 true=qdf:=by kernel_rfl
theorem w6x8_q41:stepB w6o8 45 w6x8_p42 false qde=true:=by kernel_rfl
theorem w6x8_b41:planB tau w6o8 w6x8_p41 false qde=true:=qab w6x8_q41 (by rw [w6x8_s41];exact w6x8_b42)
theorem w6x8_s40:(qdd).setIfInBounds 44 true=qde:=by kernel_rfl
theorem w6x8_q40:stepB w6o8 44 w6x8_p41 false qdd=true:=by kernel_rfl
theorem w6x8_b40:planB tau w6o8 w6x8_p40 false qdd=true:=qab w6x8_q40 (by rw [w6x8_s40];exact w6x8_b41)
theorem w6x8_s39:(qdc).setIfInBounds 43 true=qdd:=by kernel_rfl
theorem w6x8_q39:stepB w6o8 43 w6x8_p40 false qdc=true:=by kernel_rfl
theorem w6x8_b39:planB tau w6o8 w6x8_p39 false qdc=true:=qab w6x8_q39 (by rw [w6x8_s39];exact w6x8_b40)
theorem w6x8_s38:(qdb).setIfInBounds 42 true=qdc:=by kernel_rfl
theorem w6x8_q38:stepB w6o8 42 w6x8_p39 false qdb=true:=by kernel_rfl
theorem w6x8_b38:planB tau w6o8 w6x8_p38 false qdb=true:=qab w6x8_q38 (by rw [w6x8_s38];exact w6x8_b39)
theorem w6x8_s37:((qda).setIfInBounds 40 true).setIfInBounds 41 true=qdb:=by kernel_rfl
theorem w6x8_q37:twoB w6o8 40 41 false qda=true:=by kernel_rfl
theorem w6x8_b37:planB tau w6o8 w6x8_p37 false qda=true:=qbu w6x8_q37 (by rw [w6x8_s37];exact w6x8_b38)
theorem w6x8_s36:(qc9).setIfInBounds 39 true=qda:=by kernel_rfl
theorem w6x8_q36:stepB w6o8 39 w6x8_p37 false qc9=true:=by kernel_rfl
theorem w6x8_b36:planB tau w6o8 w6x8_p36 false qc9=true:=qab w6x8_q36 (by rw [w6x8_s36];exact w6x8_b37)
theorem w6x8_s35:(qc8).setIfInBounds 38 true=qc9:=by kernel_rfl
theorem w6x8_q35:stepB w6o8 38 w6x8_p36 false qc8=true:=by kernel_rfl
theorem w6x8_b35:planB tau w6o8 w6x8_p35 false qc8=true:=qab w6x8_q35 (by rw [w6x8_s35];exact w6x8_b36)
theorem w6x8_s34:(qc7).setIfInBounds 37 true=qc8:=by kernel_rfl
theorem w6x8_q34:stepB w6o8 37 w6x8_p35 false qc7=true:=by kernel_rfl
theorem w6x8_b34:planB tau w6o8 w6x8_p34 false qc7=true:=qab w6x8_q34 (by rw [w6x8_s34];exact w6x8_b35)
theorem w6x8_s33:((qc6).setIfInBounds 35 true).setIfInBounds 36 true=qc7:=by kernel_rfl
theorem w6x8_q33:twoB w6o8 35 36 false qc6=true:=by kernel_rfl
theorem w6x8_b33:planB tau w6o8 w6x8_p33 false qc6=true:=qbu w6x8_q33 (by rw [w6x8_s33];exact w6x8_b34)
theorem w6x8_s32:(qc5).setIfInBounds 34 true=qc6:=by kernel_rfl
theorem w6x8_q32:stepB w6o8 34 w6x8_p33 false qc5=true:=by kernel_rfl
theorem w6x8_b32:planB tau w6o8 w6x8_p32 false qc5=true:=qab w6x8_q32 (by rw [w6x8_s32];exact w6x8_b33)
theorem w6x8_s31:(qc4).setIfInBounds 33 true=qc5:=by kernel_rfl
theorem w6x8_q31:stepB w6o8 33 w6x8_p32 false qc4=true:=by kernel_rfl
theorem w6x8_b31:planB tau w6o8 w6x8_p31 false qc4=true:=qab w6x8_q31 (by rw [w6x8_s31];exact w6x8_b32)
theorem w6x8_s30:(qc3).setIfInBounds 32 true=qc4:=by kernel_rfl
theorem w6x8_q30:stepB w6o8 32 w6x8_p31 false qc3=true:=by kernel_rfl
theorem w6x8_b30:planB tau w6o8 w6x8_p30 false qc3=true:=qab w6x8_q30 (by rw [w6x8_s30];exact w6x8_b31)
theorem w6x8_s29:(qc2).setIfInBounds 31 true=qc3:=by kernel_rfl
theorem w6x8_q29:stepB w6o8 31 w6x8_p30 false qc2=true:=by kernel_rfl
theorem w6x8_b29:planB tau w6o8 w6x8_p29 false qc2=true:=qab w6x8_q29 (by rw [w6x8_s29];exact w6x8_b30)
theorem w6x8_s28:(qc1).setIfInBounds 30 true=qc2:=by kernel_rfl
theorem w6x8_q28:stepB w6o8 30 w6x8_p29 false qc1=true:=by kernel_rfl
theorem w6x8_b28:planB tau w6o8 w6x8_p28 false qc1=true:=qab w6x8_q28 (by rw [w6x8_s28];exact w6x8_b29)
theorem w6x8_s27:(qc0).setIfInBounds 29 true=qc1:=by kernel_rfl
theorem w6x8_q27:stepB w6o8 29 w6x8_p28 false qc0=true:=by kernel_rfl
theorem w6x8_b27:planB tau w6o8 w6x8_p27 false qc0=true:=qab w6x8_q27 (by rw [w6x8_s27];exact w6x8_b28)
theorem w6x8_s26:(qcz).setIfInBounds 28 true=qc0:=by kernel_rfl
theorem w6x8_q26:stepB w6o8 28 w6x8_p27 false qcz=true:=by kernel_rfl
theorem w6x8_b26:planB tau w6o8 w6x8_p26 false qcz=true:=qab w6x8_q26 (by rw [w6x8_s26];exact w6x8_b27)
theorem w6x8_s25:((qcy).setIfInBounds 26 true).setIfInBounds 27 true=qcz:=by kernel_rfl
theorem w6x8_q25:twoB w6o8 26 27 false qcy=true:=by kernel_rfl
theorem w6x8_b25:planB tau w6o8 w6x8_p25 false qcy=true:=qbu w6x8_q25 (by rw [w6x8_s25];exact w6x8_b26)
theorem w6x8_s24:(qcx).setIfInBounds 25 true=qcy:=by kernel_rfl
theorem w6x8_q24:stepB w6o8 25 w6x8_p25 false qcx=true:=by kernel_rfl
theorem w6x8_b24:planB tau w6o8 w6x8_p24 false qcx=true:=qab w6x8_q24 (by rw [w6x8_s24];exact w6x8_b25)
theorem w6x8_s23:(qcw).setIfInBounds 24 true=qcx:=by kernel_rfl
theorem w6x8_q23:stepB w6o8 24 w6x8_p24 false qcw=true:=by kernel_rfl
theorem w6x8_b23:planB tau w6o8 w6x8_p23 false qcw=true:=qab w6x8_q23 (by rw [w6x8_s23];exact w6x8_b24)
theorem w6x8_s22:(qcv).setIfInBounds 23 true=qcw:=by kernel_rfl
theorem w6x8_q22:stepB w6o8 23 w6x8_p23 false qcv=true:=by kernel_rfl
theorem w6x8_b22:planB tau w6o8 w6x8_p22 false qcv=true:=qab w6x8_q22 (by rw [w6x8_s22];exact w6x8_b23)
theorem w6x8_s21:((qcu).setIfInBounds 21 true).setIfInBounds 22 true=qcv:=by kernel_rfl
theorem w6x8_q21:twoB w6o8 21 22 false qcu=true:=by kernel_rfl
theorem w6x8_b21:planB tau w6o8 w6x8_p21 false qcu=true:=qbu w6x8_q21 (by rw [w6x8_s21];exact w6x8_b22)
theorem w6x8_s20:(qct).setIfInBounds 20 true=qcu:=by kernel_rfl
theorem w6x8_q20:stepB w6o8 20 w6x8_p21 false qct=true:=by kernel_rfl
theorem w6x8_b20:planB tau w6o8 w6x8_p20 false qct=true:=qab w6x8_q20 (by rw [w6x8_s20];exact w6x8_b21)
theorem w6x8_s19:(qcs).setIfInBounds 19 true=qct:=by kernel_rfl
theorem w6x8_q19:stepB w6o8 19 w6x8_p20 false qcs=true:=by kernel_rfl
theorem w6x8_b19:planB tau w6o8 w6x8_p19 false qcs=true:=qab w6x8_q19 (by rw [w6x8_s19];exact w6x8_b20)
theorem w6x8_s18:(qcr).setIfInBounds 18 true=qcs:=by kernel_rfl
theorem w6x8_q18:stepB w6o8 18 w6x8_p19 false qcr=true:=by kernel_rfl
theorem w6x8_b18:planB tau w6o8 w6x8_p18 false qcr=true:=qab w6x8_q18 (by rw [w6x8_s18];exact w6x8_b19)
theorem w6x8_s17:(qcq).setIfInBounds 17 true=qcr:=by kernel_rfl
theorem w6x8_q17:stepB w6o8 17 w6x8_p18 false qcq=true:=by kernel_rfl
theorem w6x8_b17:planB tau w6o8 w6x8_p17 false qcq=true:=qab w6x8_q17 (by rw [w6x8_s17];exact w6x8_b18)
theorem w6x8_s16:(qcp).setIfInBounds 16 true=qcq:=by kernel_rfl
theorem w6x8_q16:stepB w6o8 16 w6x8_p17 false qcp=true:=by kernel_rfl
theorem w6x8_b16:planB tau w6o8 w6x8_p16 false qcp=true:=qab w6x8_q16 (by rw [w6x8_s16];exact w6x8_b17)
theorem w6x8_s15:(qco).setIfInBounds 15 true=qcp:=by kernel_rfl
theorem w6x8_q15:stepB w6o8 15 w6x8_p16 false qco=true:=by kernel_rfl
theorem w6x8_b15:planB tau w6o8 w6x8_p15 false qco=true:=qab w6x8_q15 (by rw [w6x8_s15];exact w6x8_b16)
theorem w6x8_s14:(qcn).setIfInBounds 14 true=qco:=by kernel_rfl
theorem w6x8_q14:stepB w6o8 14 w6x8_p15 false qcn=true:=by kernel_rfl
theorem w6x8_b14:planB tau w6o8 w6x8_p14 false qcn=true:=qab w6x8_q14 (by rw [w6x8_s14];exact w6x8_b15)
theorem w6x8_s13:(qcm).setIfInBounds 13 true=qcn:=by kernel_rfl
theorem w6x8_q13:stepB w6o8 13 w6x8_p14 false qcm=true:=by kernel_rfl
theorem w6x8_b13:planB tau w6o8 w6x8_p13 false qcm=true:=qab w6x8_q13 (by rw [w6x8_s13];exact w6x8_b14)
theorem w6x8_s12:(qcl).setIfInBounds 12 true=qcm:=by kernel_rfl
theorem w6x8_q12:stepB w6o8 12 w6x8_p13 false qcl=true:=by kernel_rfl
theorem w6x8_b12:planB tau w6o8 w6x8_p12 false qcl=true:=qab w6x8_q12 (by rw [w6x8_s12];exact w6x8_b13)
theorem w6x8_s11:(qck).setIfInBounds 11 true=qcl:=by kernel_rfl
theorem w6x8_q11:stepB w6o8 11 w6x8_p12 false qck=true:=by kernel_rfl
theorem w6x8_b11:planB tau w6o8 w6x8_p11 false qck=true:=qab w6x8_q11 (by rw [w6x8_s11];exact w6x8_b12)
theorem w6x8_s10:(qcj).setIfInBounds 10 true=qck:=by kernel_rfl
theorem w6x8_q10:stepB w6o8 10 w6x8_p11 false qcj=true:=by kernel_rfl
theorem w6x8_b10:planB tau w6o8 w6x8_p10 false qcj=true:=qab w6x8_q10 (by rw [w6x8_s10];exact w6x8_b11)
theorem w6x8_s9:(w6x8_L9).setIfInBounds 9 true=qcj:=by kernel_rfl
theorem w6x8_q9:stepB w6o8 9 w6x8_p10 false w6x8_L9=true:=by kernel_rfl
theorem w6x8_b9:planB tau w6o8 w6x8_p9 false w6x8_L9=true:=qab w6x8_q9 (by rw [w6x8_s9];exact w6x8_b10)
theorem w6x8_s8:(w6x8_L8).setIfInBounds 8 true=w6x8_L9:=by kernel_rfl
theorem w6x8_q8:stepB w6o8 8 w6x8_p9 false w6x8_L8=true:=by kernel_rfl
theorem w6x8_b8:planB tau w6o8 w6x8_p8 false w6x8_L8=true:=qab w6x8_q8 (by rw [w6x8_s8];exact w6x8_b9)
theorem w6x8_s7:(w6x8_L7).setIfInBounds 7 true=w6x8_L8:=by kernel_rfl
theorem w6x8_q7:stepB w6o8 7 w6x8_p8 false w6x8_L7=true:=by kernel_rfl
theorem w6x8_b7:planB tau w6o8 w6x8_p7 false w6x8_L7=true:=qab w6x8_q7 (by rw [w6x8_s7];exact w6x8_b8)
theorem w6x8_s6:(w6x8_L6).setIfInBounds 6 true=w6x8_L7:=by kernel_rfl
theorem w6x8_q6:stepB w6o8 6 w6x8_p7 false w6x8_L6=true:=by kernel_rfl
theorem w6x8_b6:planB tau w6o8 w6x8_p6 false w6x8_L6=true:=qab w6x8_q6 (by rw [w6x8_s6];exact w6x8_b7)
theorem w6x8_s5:(w6x8_L5).setIfInBounds 5 true=w6x8_L6:=by kernel_rfl
theorem w6x8_q5:stepB w6o8 5 w6x8_p6 false w6x8_L5=true:=by kernel_rfl
theorem w6x8_b5:planB tau w6o8 w6x8_p5 false w6x8_L5=true:=qab w6x8_q5 (by rw [w6x8_s5];exact w6x8_b6)
theorem w6x8_s4:(w6x8_L4).setIfInBounds 4 true=w6x8_L5:=by kernel_rfl
theorem w6x8_q4:stepB w6o8 4 w6x8_p5 false w6x8_L4=true:=by kernel_rfl
theorem w6x8_b4:planB tau w6o8 w6x8_p4 false w6x8_L4=true:=qab w6x8_q4 (by rw [w6x8_s4];exact w6x8_b5)
theorem w6x8_s3:(w6x8_L3).setIfInBounds 3 true=w6x8_L4:=by kernel_rfl
theorem w6x8_q3:stepB w6o8 3 w6x8_p4 false w6x8_L3=true:=by kernel_rfl
theorem w6x8_b3:planB tau w6o8 w6x8_p3 false w6x8_L3=true:=qab w6x8_q3 (by rw [w6x8_s3];exact w6x8_b4)
theorem w6x8_s2:(w6x8_L2).setIfInBounds 2 true=w6x8_L3:=by kernel_rfl
theorem w6x8_q2:stepB w6o8 2 w6x8_p3 false w6x8_L2=true:=by kernel_rfl
theorem w6x8_b2:planB tau w6o8 w6x8_p2 false w6x8_L2=true:=qab w6x8_q2 (by rw [w6x8_s2];exact w6x8_b3)
theorem w6x8_s1:(w6x8_L1).setIfInBounds 1 true=w6x8_L2:=by kernel_rfl
theorem w6x8_q1:stepB w6o8 1 w6x8_p2 false w6x8_L1=true:=by kernel_rfl
theorem w6x8_b1:planB tau w6o8 w6x8_p1 false w6x8_L1=true:=qab w6x8_q1 (by rw [w6x8_s1];exact w6x8_b2)
theorem w6x8_s0:(w6x8_L0).setIfInBounds 0 true=w6x8_L1:=by kernel_rfl
theorem w6x8_q0:stepB w6o8 0 w6x8_p1 false w6x8_L0=true:=by kernel_rfl
theorem w6x8_b0:planB tau w6o8 w6x8_p0 false w6x8_L0=true:=qab w6x8_q0 (by rw [w6x8_s0];exact w6x8_b1)
theorem w6x8_pb:pbOf X6.plan (8,w6o8)=true:=pbOf_of (t:=w6x8_p0) (L:=w6x8_L0) (by kernel_rfl) (by kernel_rfl) (by kernel_rfl) w6x8_b0 (by kernel_rfl)
theorem w6ok:okF tau X6 Try.f6=true:=by
 rw [okF_regs w6body,w6regs]
 simp only [List.all_cons,List.all_nil,w6x4_pb,w6x8_pb,Bool.and_self]
theorem sm6:Sp6 M6:=fun y hy=>by
 cases hy
 exact qae (G:=ent 18 (e18 tb18) (ent 19 (e19 M19) (ent 21 (e21 M21) (ent 20 (e20 M20) (ent 22 (e22 tb22) (ent 23 (e23 M23) (ent 24 (e24 M24) (gnil)))))))) (qac (ek18 tbs18) (qac (ek19 sm19) (qac (ek21 sm21) (qac (ek20 sm20) (qac (ek22 tbs22) (qac (ek23 sm23) (qac (ek24 sm24) (qad)))))))) 1000000 (fn:=Try.f6) (by kernel_rfl) (by kernel_rfl) (X:=X6) w6ok (by kernel_rfl)
end Go.Proofs.Ytccnmhdgghjgoaa.Av
