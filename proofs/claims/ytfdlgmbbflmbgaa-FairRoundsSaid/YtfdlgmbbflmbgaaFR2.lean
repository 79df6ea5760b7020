/- Twins of functions, printed by gen.py. Conditions: none. -/
import Derived.Test.YtfdlgmbbflmbgaaFR1
import Derived.KernelRfl
set_option linter.unusedVariables false
set_option maxRecDepth 100000
set_option maxHeartbeats 8000000
namespace Go.Proofs.Ytfdlgmbbflmbgaa.Av
open Go

/-! ### 19: lariat/lariatref7.SameInts -/
def X19 : Aux := ⟨[(4, [2, 3, 4, 6, 7, 8, 9, 10, 11, 12, 13, 14, 15, 16, 17, 18, 19, 20, 21, 22, 23, 24, 25])], [(6, [0, 1, 2, 3, 4, 5, 6, 7, 8])]⟩
inductive S19 where
  | l0 (v0_2 : Int)
def T19 {R : Type} (B : Ops) (p0 : List ty3.den) (p1 : List ty3.den) (again : S19 → Option R) (k : (Bool) → Option R) : Option S19 → Option R
  | none =>
    cond (!Ops.eq B (Nat.cast (List.length p0)) (Nat.cast (List.length p1)))
     (
      k false)
     (
      again (.l0 0))
  | some (.l0 v0_2) =>
    cond (Ops.lt B v0_2 (Nat.cast (List.length p0)))
     (
      cond (Ops.inb B v0_2 (List.length p0))
       (
        cond (Ops.inb B v0_2 (List.length p1))
         (
          cond (!Ops.eq B (List.getD p0 (Int.toNat v0_2) (Ty.dflt ty3)) (List.getD p1 (Int.toNat v0_2) (Ty.dflt ty3)))
           (
            k false)
           (
            again (.l0 (IntKind.wrap IntKind.i64 (v0_2 + 1)))))
         (
          none))
       (
        none))
     (
      k true)
def E19 (p0 : List ty3.den) (p1 : List ty3.den) : S19 → List AV × Objs
  | .l0 v0_2 => (mk 26 [(0, .c (.list 3 ty3 p0)), (1, .c (.list 3 ty3 p1)), (5, .c (.int .i64 v0_2))], [])
def I19 : S19 → Nat
  | .l0 _ => 0
theorem eq19 {R : Type} (B : Ops) (p0 : List ty3.den) (p1 : List ty3.den) (k : AV → Objs → Option R) (n : Nat) : afun tau B gl0 X19 (gnil) ow Try.f19 [.c (.list 3 ty3 p0), .c (.list 3 ty3 p1)] [] k n = T19 B p0 p1 (fun s => aloop tau B gl0 X19 (gnil) ow [] Try.f19 k (I19 s) (E19 p0 p1 s) n) (fun y => k (.c (.bool y)) []) none := by kernel_rfl
theorem el19 {R : Type} (B : Ops) (p0 : List ty3.den) (p1 : List ty3.den) (k : AV → Objs → Option R) (n : Nat) : ∀ s, aloop tau B gl0 X19 (gnil) ow [] Try.f19 k (I19 s) (E19 p0 p1 s) (n + 1) = T19 B p0 p1 (fun s => aloop tau B gl0 X19 (gnil) ow [] Try.f19 k (I19 s) (E19 p0 p1 s) n) (fun y => k (.c (.bool y)) []) (some s)
  | .l0 v0_2 => by kernel_rfl
theorem nt19 {R R' : Type} (B : Ops) (p0 : List ty3.den) (p1 : List ty3.den) (again : S19 → Option R) (again' : S19 → Option R') (k0 : (Bool) → Option R') (k : R' → Option R) (h : ∀ s, again s = ob (again' s) k) : ∀ s, T19 B p0 p1 again (fun y => ob (k0 y) k) s = ob (T19 B p0 p1 again' k0 s) k
  | none => by unfold T19; repeat' first | exact rfl | exact h _ | apply nat_cond | (apply nat_ob; intro)
  | some (.l0 v0_2) => by unfold T19; repeat' first | exact rfl | exact h _ | apply nat_cond | (apply nat_ob; intro)
def R19 (p0 : List ty3.den) (p1 : List ty3.den) : Nat → S19 → Option (Bool)
  | 0, _ => none
  | n + 1, s => T19 Ops.std p0 p1 (R19 p0 p1 n) some (some s)
theorem rr19 {R : Type} (p0 : List ty3.den) (p1 : List ty3.den) (k : AV → Objs → Option R) : ∀ (n : Nat) (s : S19), aloop tau Ops.std gl0 X19 (gnil) ow [] Try.f19 k (I19 s) (E19 p0 p1 s) n = ob (R19 p0 p1 n s) (fun y => k (.c (.bool y)) [])
  | 0, s => rfl
  | n + 1, s => by rw [el19]; exact nt19 Ops.std p0 p1 _ _ some (fun y => k (.c (.bool y)) []) (rr19 p0 p1 k n) (some s)
def F19 (p0 : List ty3.den) (p1 : List ty3.den) : Option (Bool) := T19 Ops.std p0 p1 (R19 p0 p1 1000000) some none
theorem fo19 {R : Type} (p0 : List ty3.den) (p1 : List ty3.den) (k : AV → Objs → Option R) : afun tau Ops.std gl0 X19 (gnil) ow Try.f19 [.c (.list 3 ty3 p0), .c (.list 3 ty3 p1)] [] k 1000000 = ob (F19 p0 p1) (fun y => k (.c (.bool y)) []) := by rw [eq19]; exact nt19 Ops.std p0 p1 _ _ some (fun y => k (.c (.bool y)) []) (rr19 p0 p1 k 1000000) none
def e19 {R : Type} (c : List ty3.den → List ty3.den → Option (Bool)) : Ent R := fun args objs k =>
  oCons args fun a0 l0 => oC a0 fun x0 => cList 3 ty3 x0 fun p0 => oCons l0 fun a1 l1 => oC a1 fun x1 => cList 3 ty3 x1 fun p1 => oNil l1 <| oNilO objs <| ob (c p0 p1) fun y => k (.c (.bool y)) []
abbrev Sp19 (c : List ty3.den → List ty3.den → Option (Bool)) : Prop := ∀ (p0 : List ty3.den) (p1 : List ty3.den) (y : Bool), c p0 p1 = some y → Spec Try.prog gl0 19 [.c (.list 3 ty3 p0), .c (.list 3 ty3 p1)] [] (.c (.bool y)) []
theorem ek19 {R : Type} {c : List ty3.den → List ty3.den → Option (Bool)} (hs : Sp19 c) : EOk 19 (e19 (R := R) c) := fun args objs k r h => by
  unfold e19 at h
  obtain ⟨a0, l0, rfl, q1⟩ := oCons_some h
  obtain ⟨x0, rfl, q2⟩ := oC_some q1
  obtain ⟨p0, rfl, q3⟩ := cList_some q2
  obtain ⟨a1, l1, rfl, q4⟩ := oCons_some q3
  obtain ⟨x1, rfl, q5⟩ := oC_some q4
  obtain ⟨p1, rfl, q6⟩ := cList_some q5
  obtain ⟨rfl, q7⟩ := oNil_some q6
  obtain ⟨rfl, q8⟩ := oNilO_some q7
  exact eok_of (hs p0 p1) q8
theorem sf19 : Sp19 (F19) := fun p0 p1 y hy => by
  refine spec_of (G := gnil) (gnil_ok) 1000000 (fn := Try.f19) (by kernel_rfl) (by kernel_rfl) (X := X19) (by kernel_rfl) ?_
  rw [fo19, hy]
  rfl
noncomputable def M19 : List ty3.den → List ty3.den → Option (Bool) := F19
theorem sm19 : Sp19 M19 := sf19

/-! ### 12: lariat/lariathand.Pick -/
def X12 : Aux := ⟨[], []⟩
def T12 {R : Type} (B : Ops) (p0 : Int) (p1 : Int) (k : (Int) → Option R) : Option R :=
  cond (Ops.eq B p1 (0))
   (
    none)
   (
    cond (Ops.lt B (Int.tmod p0 p1) (0))
     (
      k (IntKind.wrap IntKind.i64 (Int.tmod p0 p1 + p1)))
     (
      k (Int.tmod p0 p1)))
theorem eq12 {R : Type} (B : Ops) (p0 : Int) (p1 : Int) (k : AV → Objs → Option R) (n : Nat) : afun tau B gl0 X12 (gnil) ow Try.f12 [.c (.int .i64 p0), .c (.int .i64 p1)] [] k n = T12 B p0 p1 (fun y => k (.c (.int .i64 y)) []) := by kernel_rfl
theorem nt12 {R R' : Type} (B : Ops) (p0 : Int) (p1 : Int) (k0 : (Int) → Option R') (k : R' → Option R) : T12 B p0 p1 (fun y => ob (k0 y) k) = ob (T12 B p0 p1 k0) k := by
  unfold T12
  repeat' first | exact rfl | apply nat_cond | (apply nat_ob; intro)
def F12 (p0 : Int) (p1 : Int) : Option (Int) := T12 Ops.std p0 p1 some
theorem fo12 {R : Type} (p0 : Int) (p1 : Int) (k : AV → Objs → Option R) (n : Nat) : afun tau Ops.std gl0 X12 (gnil) ow Try.f12 [.c (.int .i64 p0), .c (.int .i64 p1)] [] k n = ob (F12 p0 p1) (fun y => k (.c (.int .i64 y)) []) := by rw [eq12]; exact nt12 Ops.std p0 p1 some (fun y => k (.c (.int .i64 y)) [])
def e12 {R : Type} (c : Int → Int → Option (Int)) : Ent R := fun args objs k =>
  oCons args fun a0 l0 => oC a0 fun x0 => cInt .i64 x0 fun p0 => oCons l0 fun a1 l1 => oC a1 fun x1 => cInt .i64 x1 fun p1 => oNil l1 <| oNilO objs <| ob (c p0 p1) fun y => k (.c (.int .i64 y)) []
abbrev Sp12 (c : Int → Int → Option (Int)) : Prop := ∀ (p0 : Int) (p1 : Int) (y : Int), c p0 p1 = some y → Spec Try.prog gl0 12 [.c (.int .i64 p0), .c (.int .i64 p1)] [] (.c (.int .i64 y)) []
theorem ek12 {R : Type} {c : Int → Int → Option (Int)} (hs : Sp12 c) : EOk 12 (e12 (R := R) c) := fun args objs k r h => by
  unfold e12 at h
  obtain ⟨a0, l0, rfl, q1⟩ := oCons_some h
  obtain ⟨x0, rfl, q2⟩ := oC_some q1
  obtain ⟨p0, rfl, q3⟩ := cInt_some q2
  obtain ⟨a1, l1, rfl, q4⟩ := oCons_some q3
  obtain ⟨x1, rfl, q5⟩ := oC_some q4
  obtain ⟨p1, rfl, q6⟩ := cInt_some q5
  obtain ⟨rfl, q7⟩ := oNil_some q6
  obtain ⟨rfl, q8⟩ := oNilO_some q7
  exact eok_of (hs p0 p1) q8
theorem sf12 : Sp12 (F12) := fun p0 p1 y hy => by
  refine spec_of (G := gnil) (gnil_ok) 1000000 (fn := Try.f12) (by kernel_rfl) (by kernel_rfl) (X := X12) (by kernel_rfl) ?_
  rw [fo12, hy]
  rfl
noncomputable def M12 : Int → Int → Option (Int) := F12
theorem sm12 : Sp12 M12 := sf12
def e62 {R : Type} (c : Int → List ty33.den → Int → Int → Int → List ty66.den → Option ((List ty33.den) × Int × Int × Int × (List ty66.den))) : Ent R := fun args objs k =>
  oCons args fun a0 l0 => oC a0 fun x0 => cPtr 0 x0 <| oCons l0 fun a1 l1 => oC a1 fun x1 => cInt .i64 x1 fun p0 => oNil l1 <| oBox 0 86 objs fun b0 o0 => cCons b0 fun u0_0 v0_0 => cList 33 ty33 u0_0 fun p1 => cCons v0_0 fun u0_1 v0_1 => cInt .i64 u0_1 fun p2 => cCons v0_1 fun u0_2 v0_2 => cOwn 1002 u0_2 <| cCons v0_2 fun u0_3 v0_3 => cInt .i64 u0_3 fun p3 => cCons v0_3 fun u0_4 v0_4 => cInt .i64 u0_4 fun p4 => cNil v0_4 <| oRow 1002 66 ty66 o0 fun p5 o1 => oNilO o1 <| ob (c p0 p1 p2 p3 p4 p5) fun y => k (.tup []) [(0, .box 86 [.list 33 ty33 y.1, .int .i64 y.2.1, .own 1002, .int .i64 y.2.2.1, .int .i64 y.2.2.2.1]), (1002, .row 66 ty66 y.2.2.2.2)]
abbrev Sp62 (c : Int → List ty33.den → Int → Int → Int → List ty66.den → Option ((List ty33.den) × Int × Int × Int × (List ty66.den))) : Prop := ∀ (p0 : Int) (p1 : List ty33.den) (p2 : Int) (p3 : Int) (p4 : Int) (p5 : List ty66.den) (y : (List ty33.den) × Int × Int × Int × (List ty66.den)), c p0 p1 p2 p3 p4 p5 = some y → Spec Try.prog gl0 62 [.c (.ptr 0 0), .c (.int .i64 p0)] [(0, .box 86 [.list 33 ty33 p1, .int .i64 p2, .own 1002, .int .i64 p3, .int .i64 p4]), (1002, .row 66 ty66 p5)] (.tup []) [(0, .box 86 [.list 33 ty33 y.1, .int .i64 y.2.1, .own 1002, .int .i64 y.2.2.1, .int .i64 y.2.2.2.1]), (1002, .row 66 ty66 y.2.2.2.2)]
theorem ek62 {R : Type} {c : Int → List ty33.den → Int → Int → Int → List ty66.den → Option ((List ty33.den) × Int × Int × Int × (List ty66.den))} (hs : Sp62 c) : EOk 62 (e62 (R := R) c) := fun args objs k r h => by
  unfold e62 at h
  obtain ⟨a0, l0, rfl, q1⟩ := oCons_some h
  obtain ⟨x0, rfl, q2⟩ := oC_some q1
  obtain ⟨rfl, q3⟩ := cPtr_some q2
  obtain ⟨a1, l1, rfl, q4⟩ := oCons_some q3
  obtain ⟨x1, rfl, q5⟩ := oC_some q4
  obtain ⟨p0, rfl, q6⟩ := cInt_some q5
  obtain ⟨rfl, q7⟩ := oNil_some q6
  obtain ⟨b0, o0, rfl, q8⟩ := oBox_some q7
  obtain ⟨u0_0, v0_0, rfl, q9⟩ := cCons_some q8
  obtain ⟨p1, rfl, q10⟩ := cList_some q9
  obtain ⟨u0_1, v0_1, rfl, q11⟩ := cCons_some q10
  obtain ⟨p2, rfl, q12⟩ := cInt_some q11
  obtain ⟨u0_2, v0_2, rfl, q13⟩ := cCons_some q12
  obtain ⟨rfl, q14⟩ := cOwn_some q13
  obtain ⟨u0_3, v0_3, rfl, q15⟩ := cCons_some q14
  obtain ⟨p3, rfl, q16⟩ := cInt_some q15
  obtain ⟨u0_4, v0_4, rfl, q17⟩ := cCons_some q16
  obtain ⟨p4, rfl, q18⟩ := cInt_some q17
  obtain ⟨rfl, q19⟩ := cNil_some q18
  obtain ⟨p5, o1, rfl, q20⟩ := oRow_some q19
  obtain ⟨rfl, q21⟩ := oNilO_some q20
  exact eok_of (hs p0 p1 p2 p3 p4 p5) q21
def e79 {R : Type} (c : List ty33.den → Int → Int → Int → List ty66.den → Option ((List ty33.den) × Int × Int × Int × (List ty66.den))) : Ent R := fun args objs k =>
  oCons args fun a0 l0 => oC a0 fun x0 => cPtr 0 x0 <| oNil l0 <| oBox 0 86 objs fun b0 o0 => cCons b0 fun u0_0 v0_0 => cList 33 ty33 u0_0 fun p0 => cCons v0_0 fun u0_1 v0_1 => cInt .i64 u0_1 fun p1 => cCons v0_1 fun u0_2 v0_2 => cOwn 1002 u0_2 <| cCons v0_2 fun u0_3 v0_3 => cInt .i64 u0_3 fun p2 => cCons v0_3 fun u0_4 v0_4 => cInt .i64 u0_4 fun p3 => cNil v0_4 <| oRow 1002 66 ty66 o0 fun p4 o1 => oNilO o1 <| ob (c p0 p1 p2 p3 p4) fun y => k (.tup []) [(0, .box 86 [.list 33 ty33 y.1, .int .i64 y.2.1, .own 1002, .int .i64 y.2.2.1, .int .i64 y.2.2.2.1]), (1002, .row 66 ty66 y.2.2.2.2)]
abbrev Sp79 (c : List ty33.den → Int → Int → Int → List ty66.den → Option ((List ty33.den) × Int × Int × Int × (List ty66.den))) : Prop := ∀ (p0 : List ty33.den) (p1 : Int) (p2 : Int) (p3 : Int) (p4 : List ty66.den) (y : (List ty33.den) × Int × Int × Int × (List ty66.den)), c p0 p1 p2 p3 p4 = some y → Spec Try.prog gl0 79 [.c (.ptr 0 0)] [(0, .box 86 [.list 33 ty33 p0, .int .i64 p1, .own 1002, .int .i64 p2, .int .i64 p3]), (1002, .row 66 ty66 p4)] (.tup []) [(0, .box 86 [.list 33 ty33 y.1, .int .i64 y.2.1, .own 1002, .int .i64 y.2.2.1, .int .i64 y.2.2.2.1]), (1002, .row 66 ty66 y.2.2.2.2)]
theorem ek79 {R : Type} {c : List ty33.den → Int → Int → Int → List ty66.den → Option ((List ty33.den) × Int × Int × Int × (List ty66.den))} (hs : Sp79 c) : EOk 79 (e79 (R := R) c) := fun args objs k r h => by
  unfold e79 at h
  obtain ⟨a0, l0, rfl, q1⟩ := oCons_some h
  obtain ⟨x0, rfl, q2⟩ := oC_some q1
  obtain ⟨rfl, q3⟩ := cPtr_some q2
  obtain ⟨rfl, q4⟩ := oNil_some q3
  obtain ⟨b0, o0, rfl, q5⟩ := oBox_some q4
  obtain ⟨u0_0, v0_0, rfl, q6⟩ := cCons_some q5
  obtain ⟨p0, rfl, q7⟩ := cList_some q6
  obtain ⟨u0_1, v0_1, rfl, q8⟩ := cCons_some q7
  obtain ⟨p1, rfl, q9⟩ := cInt_some q8
  obtain ⟨u0_2, v0_2, rfl, q10⟩ := cCons_some q9
  obtain ⟨rfl, q11⟩ := cOwn_some q10
  obtain ⟨u0_3, v0_3, rfl, q12⟩ := cCons_some q11
  obtain ⟨p2, rfl, q13⟩ := cInt_some q12
  obtain ⟨u0_4, v0_4, rfl, q14⟩ := cCons_some q13
  obtain ⟨p3, rfl, q15⟩ := cInt_some q14
  obtain ⟨rfl, q16⟩ := cNil_some q15
  obtain ⟨p4, o1, rfl, q17⟩ := oRow_some q16
  obtain ⟨rfl, q18⟩ := oNilO_some q17
  exact eok_of (hs p0 p1 p2 p3 p4) q18

/-! ### 62: (*lariat/lariatref13.reader).level -/
def X62 : Aux := ⟨[(3, [2, 3, 4, 5, 6, 7, 8, 9, 10, 11, 12, 13, 14, 15, 16, 17, 18, 19, 20, 21, 22, 23, 24, 25, 26, 27, 28, 29, 30, 31, 32, 33, 34, 35, 36, 37, 38, 39, 40, 41, 42, 43, 44, 45, 46, 47, 48, 49, 50, 51, 52, 53])], []⟩
inductive S62 where
  | l0 (v0_1 : List ty33.den) (v0_2 : Int) (v0_3 : Int) (v0_4 : Int) (v0_5 : List ty66.den)
def T62 {R : Type} (B : Ops) (c79 : List ty33.den → Int → Int → Int → List ty66.den → Option ((List ty33.den) × Int × Int × Int × (List ty66.den))) (c62 : Int → List ty33.den → Int → Int → Int → List ty66.den → Option ((List ty33.den) × Int × Int × Int × (List ty66.den))) (c80 : Int → List ty33.den → Int → Int → Int → List ty66.den → Option (Int × (List ty33.den) × Int × Int × Int × (List ty66.den))) (p0 : Int) (p1 : List ty33.den) (p2 : Int) (p3 : Int) (p4 : Int) (p5 : List ty66.den) (again : S62 → Option R) (k : ((List ty33.den) × Int × Int × Int × (List ty66.den)) → Option R) : Option S62 → Option R
  | none =>
    cond (Ops.lt B (4) p0)
     (
      ob (c79 p1 p2 p3 p4 p5) fun y0 =>
      k ((Prod.fst y0, Prod.fst (Prod.snd y0), Prod.fst (Prod.snd (Prod.snd y0)), Prod.fst (Prod.snd (Prod.snd (Prod.snd y0))), Prod.snd (Prod.snd (Prod.snd (Prod.snd y0))))))
     (
      ob (c62 (IntKind.wrap IntKind.i64 (p0 + 1)) p1 p2 p3 p4 p5) fun y0 =>
      again (.l0 (Prod.fst y0) (Prod.fst (Prod.snd y0)) (Prod.fst (Prod.snd (Prod.snd y0))) (Prod.fst (Prod.snd (Prod.snd (Prod.snd y0)))) (Prod.snd (Prod.snd (Prod.snd (Prod.snd y0))))))
  | some (.l0 v0_1 v0_2 v0_3 v0_4 v0_5) =>
    cond (Ops.eq B v0_3 (0))
     (
      ob (c80 p0 v0_1 v0_2 v0_3 v0_4 v0_5) fun y0 =>
      cond (Ops.eq B (Prod.fst y0) (0))
       (
        k ((Prod.fst (Prod.snd y0), Prod.fst (Prod.snd (Prod.snd y0)), Prod.fst (Prod.snd (Prod.snd (Prod.snd y0))), Prod.fst (Prod.snd (Prod.snd (Prod.snd (Prod.snd y0)))), Prod.snd (Prod.snd (Prod.snd (Prod.snd (Prod.snd y0)))))))
       (
        cond (Ops.eq B p0 (1))
         (
          ob (c62 p0 (Prod.fst (Prod.snd y0)) (IntKind.wrap IntKind.i64 (Prod.fst (Prod.snd (Prod.snd y0)) + 1)) (Prod.fst (Prod.snd (Prod.snd (Prod.snd y0)))) (Prod.fst (Prod.snd (Prod.snd (Prod.snd (Prod.snd y0))))) (Prod.snd (Prod.snd (Prod.snd (Prod.snd (Prod.snd y0)))))) fun y1 =>
          cond (Ops.lim B (List.length (Prod.snd (Prod.snd (Prod.snd (Prod.snd y1)))) + List.length ((Prod.fst y0, mt (Ty.den (Ty.pair (Ty.int IntKind.i64) (Ty.pair (Ty.int IntKind.i64) (Ty.pair Ty.str Ty.str))))) :: mt (Ty.den (Ty.pair (Ty.int IntKind.i64) (Ty.list (98) (Ty.pair (Ty.int IntKind.i64) (Ty.pair (Ty.int IntKind.i64) (Ty.pair Ty.str Ty.str)))))))) (32))
           (
            again (.l0 (Prod.fst y1) (Prod.fst (Prod.snd y1)) (Prod.fst (Prod.snd (Prod.snd y1))) (Prod.fst (Prod.snd (Prod.snd (Prod.snd y1)))) (Prod.snd (Prod.snd (Prod.snd (Prod.snd y1))) ++ (Prod.fst y0, mt (Ty.den (Ty.pair (Ty.int IntKind.i64) (Ty.pair (Ty.int IntKind.i64) (Ty.pair Ty.str Ty.str))))) :: mt (Ty.den (Ty.pair (Ty.int IntKind.i64) (Ty.list (98) (Ty.pair (Ty.int IntKind.i64) (Ty.pair (Ty.int IntKind.i64) (Ty.pair Ty.str Ty.str)))))))))
           (
            none))
         (
          cond (Ops.eq B p0 (4))
           (
            ob (c62 p0 (Prod.fst (Prod.snd y0)) (IntKind.wrap IntKind.i64 (Prod.fst (Prod.snd (Prod.snd y0)) + 1)) (Prod.fst (Prod.snd (Prod.snd (Prod.snd y0)))) (Prod.fst (Prod.snd (Prod.snd (Prod.snd (Prod.snd y0))))) (Prod.snd (Prod.snd (Prod.snd (Prod.snd (Prod.snd y0)))))) fun y1 =>
            cond (Ops.lim B (List.length (Prod.snd (Prod.snd (Prod.snd (Prod.snd y1)))) + List.length ((Prod.fst y0, mt (Ty.den (Ty.pair (Ty.int IntKind.i64) (Ty.pair (Ty.int IntKind.i64) (Ty.pair Ty.str Ty.str))))) :: mt (Ty.den (Ty.pair (Ty.int IntKind.i64) (Ty.list (98) (Ty.pair (Ty.int IntKind.i64) (Ty.pair (Ty.int IntKind.i64) (Ty.pair Ty.str Ty.str)))))))) (32))
             (
              again (.l0 (Prod.fst y1) (Prod.fst (Prod.snd y1)) (Prod.fst (Prod.snd (Prod.snd y1))) (Prod.fst (Prod.snd (Prod.snd (Prod.snd y1)))) (Prod.snd (Prod.snd (Prod.snd (Prod.snd y1))) ++ (Prod.fst y0, mt (Ty.den (Ty.pair (Ty.int IntKind.i64) (Ty.pair (Ty.int IntKind.i64) (Ty.pair Ty.str Ty.str))))) :: mt (Ty.den (Ty.pair (Ty.int IntKind.i64) (Ty.list (98) (Ty.pair (Ty.int IntKind.i64) (Ty.pair (Ty.int IntKind.i64) (Ty.pair Ty.str Ty.str)))))))))
             (
              none))
           (
            ob (c62 (IntKind.wrap IntKind.i64 (p0 + 1)) (Prod.fst (Prod.snd y0)) (IntKind.wrap IntKind.i64 (Prod.fst (Prod.snd (Prod.snd y0)) + 1)) (Prod.fst (Prod.snd (Prod.snd (Prod.snd y0)))) (Prod.fst (Prod.snd (Prod.snd (Prod.snd (Prod.snd y0))))) (Prod.snd (Prod.snd (Prod.snd (Prod.snd (Prod.snd y0)))))) fun y1 =>
            cond (Ops.lim B (List.length (Prod.snd (Prod.snd (Prod.snd (Prod.snd y1)))) + List.length ((Prod.fst y0, mt (Ty.den (Ty.pair (Ty.int IntKind.i64) (Ty.pair (Ty.int IntKind.i64) (Ty.pair Ty.str Ty.str))))) :: mt (Ty.den (Ty.pair (Ty.int IntKind.i64) (Ty.list (98) (Ty.pair (Ty.int IntKind.i64) (Ty.pair (Ty.int IntKind.i64) (Ty.pair Ty.str Ty.str)))))))) (32))
             (
              again (.l0 (Prod.fst y1) (Prod.fst (Prod.snd y1)) (Prod.fst (Prod.snd (Prod.snd y1))) (Prod.fst (Prod.snd (Prod.snd (Prod.snd y1)))) (Prod.snd (Prod.snd (Prod.snd (Prod.snd y1))) ++ (Prod.fst y0, mt (Ty.den (Ty.pair (Ty.int IntKind.i64) (Ty.pair (Ty.int IntKind.i64) (Ty.pair Ty.str Ty.str))))) :: mt (Ty.den (Ty.pair (Ty.int IntKind.i64) (Ty.list (98) (Ty.pair (Ty.int IntKind.i64) (Ty.pair (Ty.int IntKind.i64) (Ty.pair Ty.str Ty.str)))))))))
             (
              none)))))
     (
      k ((v0_1, v0_2, v0_3, v0_4, v0_5)))
def E62 (p0 : Int) (p1 : List ty33.den) (p2 : Int) (p3 : Int) (p4 : Int) (p5 : List ty66.den) : S62 → List AV × Objs
  | .l0 v0_1 v0_2 v0_3 v0_4 v0_5 => (mk 54 [(0, .c (.ptr 0 0)), (1, .c (.int .i64 p0))], [(0, .box 86 [.list 33 ty33 v0_1, .int .i64 v0_2, .own 1002, .int .i64 v0_3, .int .i64 v0_4]), (1002, .row 66 ty66 v0_5)])
def I62 : S62 → Nat
  | .l0 _ _ _ _ _ => 0
theorem eq62 {R : Type} (B : Ops) (c79 : List ty33.den → Int → Int → Int → List ty66.den → Option ((List ty33.den) × Int × Int × Int × (List ty66.den))) (c62 : Int → List ty33.den → Int → Int → Int → List ty66.den → Option ((List ty33.den) × Int × Int × Int × (List ty66.den))) (c80 : Int → List ty33.den → Int → Int → Int → List ty66.den → Option (Int × (List ty33.den) × Int × Int × Int × (List ty66.den))) (p0 : Int) (p1 : List ty33.den) (p2 : Int) (p3 : Int) (p4 : Int) (p5 : List ty66.den) (k : AV → Objs → Option R) (n : Nat) : afun tau B gl0 X62 (ent 79 (e79 c79) (ent 62 (e62 c62) (ent 80 (e80 c80) (gnil)))) ow Try.f62 [.c (.ptr 0 0), .c (.int .i64 p0)] [(0, .box 86 [.list 33 ty33 p1, .int .i64 p2, .own 1002, .int .i64 p3, .int .i64 p4]), (1002, .row 66 ty66 p5)] k n = T62 B c79 c62 c80 p0 p1 p2 p3 p4 p5 (fun s => aloop tau B gl0 X62 (ent 79 (e79 c79) (ent 62 (e62 c62) (ent 80 (e80 c80) (gnil)))) ow [0] Try.f62 k (I62 s) (E62 p0 p1 p2 p3 p4 p5 s) n) (fun y => k (.tup []) [(0, .box 86 [.list 33 ty33 y.1, .int .i64 y.2.1, .own 1002, .int .i64 y.2.2.1, .int .i64 y.2.2.2.1]), (1002, .row 66 ty66 y.2.2.2.2)]) none := by kernel_rfl
theorem el62 {R : Type} (B : Ops) (c79 : List ty33.den → Int → Int → Int → List ty66.den → Option ((List ty33.den) × Int × Int × Int × (List ty66.den))) (c62 : Int → List ty33.den → Int → Int → Int → List ty66.den → Option ((List ty33.den) × Int × Int × Int × (List ty66.den))) (c80 : Int → List ty33.den → Int → Int → Int → List ty66.den → Option (Int × (List ty33.den) × Int × Int × Int × (List ty66.den))) (p0 : Int) (p1 : List ty33.den) (p2 : Int) (p3 : Int) (p4 : Int) (p5 : List ty66.den) (k : AV → Objs → Option R) (n : Nat) : ∀ s, aloop tau B gl0 X62 (ent 79 (e79 c79) (ent 62 (e62 c62) (ent 80 (e80 c80) (gnil)))) ow [0] Try.f62 k (I62 s) (E62 p0 p1 p2 p3 p4 p5 s) (n + 1) = T62 B c79 c62 c80 p0 p1 p2 p3 p4 p5 (fun s => aloop tau B gl0 X62 (ent 79 (e79 c79) (ent 62 (e62 c62) (ent 80 (e80 c80) (gnil)))) ow [0] Try.f62 k (I62 s) (E62 p0 p1 p2 p3 p4 p5 s) n) (fun y => k (.tup []) [(0, .box 86 [.list 33 ty33 y.1, .int .i64 y.2.1, .own 1002, .int .i64 y.2.2.1, .int .i64 y.2.2.2.1]), (1002, .row 66 ty66 y.2.2.2.2)]) (some s)
  | .l0 v0_1 v0_2 v0_3 v0_4 v0_5 => by kernel_rfl
theorem nt62 {R R' : Type} (B : Ops) (c79 : List ty33.den → Int → Int → Int → List ty66.den → Option ((List ty33.den) × Int × Int × Int × (List ty66.den))) (c62 : Int → List ty33.den → Int → Int → Int → List ty66.den → Option ((List ty33.den) × Int × Int × Int × (List ty66.den))) (c80 : Int → List ty33.den → Int → Int → Int → List ty66.den → Option (Int × (List ty33.den) × Int × Int × Int × (List ty66.den))) (p0 : Int) (p1 : List ty33.den) (p2 : Int) (p3 : Int) (p4 : Int) (p5 : List ty66.den) (again : S62 → Option R) (again' : S62 → Option R') (k0 : ((List ty33.den) × Int × Int × Int × (List ty66.den)) → Option R') (k : R' → Option R) (h : ∀ s, again s = ob (again' s) k) : ∀ s, T62 B c79 c62 c80 p0 p1 p2 p3 p4 p5 again (fun y => ob (k0 y) k) s = ob (T62 B c79 c62 c80 p0 p1 p2 p3 p4 p5 again' k0 s) k
  | none => by unfold T62; repeat' first | exact rfl | exact h _ | apply nat_cond | (apply nat_ob; intro)
  | some (.l0 v0_1 v0_2 v0_3 v0_4 v0_5) => by unfold T62; repeat' first | exact rfl | exact h _ | apply nat_cond | (apply nat_ob; intro)
def R62 (c79 : List ty33.den → Int → Int → Int → List ty66.den → Option ((List ty33.den) × Int × Int × Int × (List ty66.den))) (c62 : Int → List ty33.den → Int → Int → Int → List ty66.den → Option ((List ty33.den) × Int × Int × Int × (List ty66.den))) (c80 : Int → List ty33.den → Int → Int → Int → List ty66.den → Option (Int × (List ty33.den) × Int × Int × Int × (List ty66.den))) (p0 : Int) (p1 : List ty33.den) (p2 : Int) (p3 : Int) (p4 : Int) (p5 : List ty66.den) : Nat → S62 → Option ((List ty33.den) × Int × Int × Int × (List ty66.den))
  | 0, _ => none
  | n + 1, s => T62 Ops.std c79 c62 c80 p0 p1 p2 p3 p4 p5 (R62 c79 c62 c80 p0 p1 p2 p3 p4 p5 n) some (some s)
theorem rr62 {R : Type} (c79 : List ty33.den → Int → Int → Int → List ty66.den → Option ((List ty33.den) × Int × Int × Int × (List ty66.den))) (c62 : Int → List ty33.den → Int → Int → Int → List ty66.den → Option ((List ty33.den) × Int × Int × Int × (List ty66.den))) (c80 : Int → List ty33.den → Int → Int → Int → List ty66.den → Option (Int × (List ty33.den) × Int × Int × Int × (List ty66.den))) (p0 : Int) (p1 : List ty33.den) (p2 : Int) (p3 : Int) (p4 : Int) (p5 : List ty66.den) (k : AV → Objs → Option R) : ∀ (n : Nat) (s : S62), aloop tau Ops.std gl0 X62 (ent 79 (e79 c79) (ent 62 (e62 c62) (ent 80 (e80 c80) (gnil)))) ow [0] Try.f62 k (I62 s) (E62 p0 p1 p2 p3 p4 p5 s) n = ob (R62 c79 c62 c80 p0 p1 p2 p3 p4 p5 n s) (fun y => k (.tup []) [(0, .box 86 [.list 33 ty33 y.1, .int .i64 y.2.1, .own 1002, .int .i64 y.2.2.1, .int .i64 y.2.2.2.1]), (1002, .row 66 ty66 y.2.2.2.2)])
  | 0, s => rfl
  | n + 1, s => by rw [el62]; exact nt62 Ops.std c79 c62 c80 p0 p1 p2 p3 p4 p5 _ _ some (fun y => k (.tup []) [(0, .box 86 [.list 33 ty33 y.1, .int .i64 y.2.1, .own 1002, .int .i64 y.2.2.1, .int .i64 y.2.2.2.1]), (1002, .row 66 ty66 y.2.2.2.2)]) (rr62 c79 c62 c80 p0 p1 p2 p3 p4 p5 k n) (some s)
def F62 (c79 : List ty33.den → Int → Int → Int → List ty66.den → Option ((List ty33.den) × Int × Int × Int × (List ty66.den))) (c62 : Int → List ty33.den → Int → Int → Int → List ty66.den → Option ((List ty33.den) × Int × Int × Int × (List ty66.den))) (c80 : Int → List ty33.den → Int → Int → Int → List ty66.den → Option (Int × (List ty33.den) × Int × Int × Int × (List ty66.den))) (p0 : Int) (p1 : List ty33.den) (p2 : Int) (p3 : Int) (p4 : Int) (p5 : List ty66.den) : Option ((List ty33.den) × Int × Int × Int × (List ty66.den)) := T62 Ops.std c79 c62 c80 p0 p1 p2 p3 p4 p5 (R62 c79 c62 c80 p0 p1 p2 p3 p4 p5 1000000) some none
theorem fo62 {R : Type} (c79 : List ty33.den → Int → Int → Int → List ty66.den → Option ((List ty33.den) × Int × Int × Int × (List ty66.den))) (c62 : Int → List ty33.den → Int → Int → Int → List ty66.den → Option ((List ty33.den) × Int × Int × Int × (List ty66.den))) (c80 : Int → List ty33.den → Int → Int → Int → List ty66.den → Option (Int × (List ty33.den) × Int × Int × Int × (List ty66.den))) (p0 : Int) (p1 : List ty33.den) (p2 : Int) (p3 : Int) (p4 : Int) (p5 : List ty66.den) (k : AV → Objs → Option R) : afun tau Ops.std gl0 X62 (ent 79 (e79 c79) (ent 62 (e62 c62) (ent 80 (e80 c80) (gnil)))) ow Try.f62 [.c (.ptr 0 0), .c (.int .i64 p0)] [(0, .box 86 [.list 33 ty33 p1, .int .i64 p2, .own 1002, .int .i64 p3, .int .i64 p4]), (1002, .row 66 ty66 p5)] k 1000000 = ob (F62 c79 c62 c80 p0 p1 p2 p3 p4 p5) (fun y => k (.tup []) [(0, .box 86 [.list 33 ty33 y.1, .int .i64 y.2.1, .own 1002, .int .i64 y.2.2.1, .int .i64 y.2.2.2.1]), (1002, .row 66 ty66 y.2.2.2.2)]) := by rw [eq62]; exact nt62 Ops.std c79 c62 c80 p0 p1 p2 p3 p4 p5 _ _ some (fun y => k (.tup []) [(0, .box 86 [.list 33 ty33 y.1, .int .i64 y.2.1, .own 1002, .int .i64 y.2.2.1, .int .i64 y.2.2.2.1]), (1002, .row 66 ty66 y.2.2.2.2)]) (rr62 c79 c62 c80 p0 p1 p2 p3 p4 p5 k 1000000) none
theorem sf62 {c79 : List ty33.den → Int → Int → Int → List ty66.den → Option ((List ty33.den) × Int × Int × Int × (List ty66.den))} {c62 : Int → List ty33.den → Int → Int → Int → List ty66.den → Option ((List ty33.den) × Int × Int × Int × (List ty66.den))} {c80 : Int → List ty33.den → Int → Int → Int → List ty66.den → Option (Int × (List ty33.den) × Int × Int × Int × (List ty66.den))} (h79 : Sp79 c79) (h62 : Sp62 c62) (h80 : Sp80 c80) : Sp62 (F62 c79 c62 c80) := fun p0 p1 p2 p3 p4 p5 y hy => by
  refine spec_of (G := ent 79 (e79 c79) (ent 62 (e62 c62) (ent 80 (e80 c80) (gnil)))) (ent_ok (ek79 h79) (ent_ok (ek62 h62) (ent_ok (ek80 h80) (gnil_ok)))) 1000000 (fn := Try.f62) (by kernel_rfl) (by kernel_rfl) (X := X62) (by kernel_rfl) ?_
  rw [fo62, hy]
  rfl
def X79 : Aux := ⟨[], [(1, [0, 1, 2, 3, 4, 5, 6, 7, 8, 9, 10, 11]), (28, [0, 1, 2, 3, 4, 5, 6, 7, 8, 9, 10, 11, 12, 13, 14, 15, 16])]⟩
def D79 (v : AV) (objs : Objs) : Option ((List ty33.den) × Int × Int × Int × (List ty66.den)) := oTup0 v <| oBox 0 86 objs fun b0 o0 => cCons b0 fun u0_0 v0_0 => cList 33 ty33 u0_0 fun z0 => cCons v0_0 fun u0_1 v0_1 => cInt .i64 u0_1 fun z1 => cCons v0_1 fun u0_2 v0_2 => cOwn 1002 u0_2 <| cCons v0_2 fun u0_3 v0_3 => cInt .i64 u0_3 fun z2 => cCons v0_3 fun u0_4 v0_4 => cInt .i64 u0_4 fun z3 => cNil v0_4 <| oRow 1002 66 ty66 o0 fun z4 o1 => oNilO o1 <| some (z0, z1, z2, z3, z4)
theorem d79 {v : AV} {objs : Objs} {y : (List ty33.den) × Int × Int × Int × (List ty66.den)} (h : D79 v objs = some y) : v = .tup [] ∧ objs = [(0, .box 86 [.list 33 ty33 y.1, .int .i64 y.2.1, .own 1002, .int .i64 y.2.2.1, .int .i64 y.2.2.2.1]), (1002, .row 66 ty66 y.2.2.2.2)] := by
  unfold D79 at h
  obtain ⟨rfl, q1⟩ := oTup0_some h
  obtain ⟨b0, o0, rfl, q2⟩ := oBox_some q1
  obtain ⟨u0_0, v0_0, rfl, q3⟩ := cCons_some q2
  obtain ⟨z0, rfl, q4⟩ := cList_some q3
  obtain ⟨u0_1, v0_1, rfl, q5⟩ := cCons_some q4
  obtain ⟨z1, rfl, q6⟩ := cInt_some q5
  obtain ⟨u0_2, v0_2, rfl, q7⟩ := cCons_some q6
  obtain ⟨rfl, q8⟩ := cOwn_some q7
  obtain ⟨u0_3, v0_3, rfl, q9⟩ := cCons_some q8
  obtain ⟨z2, rfl, q10⟩ := cInt_some q9
  obtain ⟨u0_4, v0_4, rfl, q11⟩ := cCons_some q10
  obtain ⟨z3, rfl, q12⟩ := cInt_some q11
  obtain ⟨rfl, q13⟩ := cNil_some q12
  obtain ⟨z4, o1, rfl, q14⟩ := oRow_some q13
  obtain ⟨rfl, q15⟩ := oNilO_some q14
  cases q15
  exact ⟨rfl, rfl⟩
noncomputable def F79 (c88 : List UInt8 → List ty33.den → Int → Int → Int → List ty66.den → Option (Bool × (List ty33.den) × Int × Int × Int × (List ty66.den))) (c79 : List ty33.den → Int → Int → Int → List ty66.den → Option ((List ty33.den) × Int × Int × Int × (List ty66.den))) (c62 : Int → List ty33.den → Int → Int → Int → List ty66.den → Option ((List ty33.den) × Int × Int × Int × (List ty66.den))) (c89 : List UInt8 → List ty33.den → Int → Int → Int → List ty66.den → Option ((List ty33.den) × Int × Int × Int × (List ty66.den))) (c90 : List ty33.den → Int → Option (Int × Int × (List ty98.den))) (c63 : Int → Int → List ty33.den → Int → Int → Int → List ty66.den → Option ((List ty33.den) × Int × Int × Int × (List ty66.den))) (p0 : List ty33.den) (p1 : Int) (p2 : Int) (p3 : Int) (p4 : List ty66.den) : Option ((List ty33.den) × Int × Int × Int × (List ty66.den)) := ob (afun tau Ops.std gl0 X79 (ent 88 (e88 c88) (ent 79 (e79 c79) (ent 62 (e62 c62) (ent 89 (e89 c89) (ent 90 (e90 c90) (ent 63 (e63 c63) (gnil))))))) ow Try.f79 [.c (.ptr 0 0)] [(0, .box 86 [.list 33 ty33 p0, .int .i64 p1, .own 1002, .int .i64 p2, .int .i64 p3]), (1002, .row 66 ty66 p4)] k0 1000000) fun r => D79 r.1 r.2
theorem sf79 {c88 : List UInt8 → List ty33.den → Int → Int → Int → List ty66.den → Option (Bool × (List ty33.den) × Int × Int × Int × (List ty66.den))} {c79 : List ty33.den → Int → Int → Int → List ty66.den → Option ((List ty33.den) × Int × Int × Int × (List ty66.den))} {c62 : Int → List ty33.den → Int → Int → Int → List ty66.den → Option ((List ty33.den) × Int × Int × Int × (List ty66.den))} {c89 : List UInt8 → List ty33.den → Int → Int → Int → List ty66.den → Option ((List ty33.den) × Int × Int × Int × (List ty66.den))} {c90 : List ty33.den → Int → Option (Int × Int × (List ty98.den))} {c63 : Int → Int → List ty33.den → Int → Int → Int → List ty66.den → Option ((List ty33.den) × Int × Int × Int × (List ty66.den))} (h88 : Sp88 c88) (h79 : Sp79 c79) (h62 : Sp62 c62) (h89 : Sp89 c89) (h90 : Sp90 c90) (h63 : Sp63 c63) : Sp79 (F79 c88 c79 c62 c89 c90 c63) := fun p0 p1 p2 p3 p4 y hy => by
  obtain ⟨r, hr, hd⟩ := ob_some hy
  obtain ⟨e1, e2⟩ := d79 hd
  rw [← e1, ← e2]
  exact spec_of (G := ent 88 (e88 c88) (ent 79 (e79 c79) (ent 62 (e62 c62) (ent 89 (e89 c89) (ent 90 (e90 c90) (ent 63 (e63 c63) (gnil))))))) (ent_ok (ek88 h88) (ent_ok (ek79 h79) (ent_ok (ek62 h62) (ent_ok (ek89 h89) (ent_ok (ek90 h90) (ent_ok (ek63 h63) (gnil_ok))))))) 1000000 (fn := Try.f79) (by kernel_rfl) (by kernel_rfl) (X := X79) (by kernel_rfl) hr
noncomputable def Rec62 : Nat → (Int → List ty33.den → Int → Int → Int → List ty66.den → Option ((List ty33.den) × Int × Int × Int × (List ty66.den))) × (List ty33.den → Int → Int → Int → List ty66.den → Option ((List ty33.den) × Int × Int × Int × (List ty66.den)))
  | 0 => (fun _ _ _ _ _ _ => none, fun _ _ _ _ _ => none)
  | d + 1 => (F62 (Rec62 d).2 (Rec62 d).1 M80, F79 M88 (Rec62 d).2 (Rec62 d).1 M89 M90 M63)
theorem rec62 : ∀ d, Sp62 (Rec62 d).1 ∧ Sp79 (Rec62 d).2
  | 0 => ⟨(fun p0 p1 p2 p3 p4 p5 y (h : (none : Option ((List ty33.den) × Int × Int × Int × (List ty66.den))) = some y) => by cases h), (fun p0 p1 p2 p3 p4 y (h : (none : Option ((List ty33.den) × Int × Int × Int × (List ty66.den))) = some y) => by cases h)⟩
  | d + 1 => ⟨sf62 (rec62 d).2 (rec62 d).1 sm80, sf79 sm88 (rec62 d).2 (rec62 d).1 sm89 sm90 sm63⟩
noncomputable def M62 : Int → List ty33.den → Int → Int → Int → List ty66.den → Option ((List ty33.den) × Int × Int × Int × (List ty66.den)) := (Rec62 100000).1
theorem sm62 : Sp62 M62 := (rec62 100000).1
noncomputable def M79 : List ty33.den → Int → Int → Int → List ty66.den → Option ((List ty33.den) × Int × Int × Int × (List ty66.den)) := (Rec62 100000).2
theorem sm79 : Sp79 M79 := (rec62 100000).2

/-! ### 42: lariat/lariatref13.Parse -/
def X42 : Aux := ⟨[], [(9, [0, 1, 2, 3, 4, 5, 6, 7, 8, 9, 10, 11, 12, 13, 14])]⟩
def T42 {R : Type} (B : Ops) (c61 : List UInt8 → Option (Int × Int × (List ty33.den))) (c62 : Int → List ty33.den → Int → Int → Int → List ty66.den → Option ((List ty33.den) × Int × Int × Int × (List ty66.den))) (c63 : Int → Int → List ty33.den → Int → Int → Int → List ty66.den → Option ((List ty33.den) × Int × Int × Int × (List ty66.den))) (p0 : List UInt8) (k : (Int × Int × (List ty66.den)) → Option R) : Option R :=
  ob (c61 p0) fun y0 =>
  cond (!Ops.eq B (Prod.fst y0) (0))
   (
    k ((Prod.fst y0, Prod.fst (Prod.snd y0), mt (Ty.den (Ty.pair (Ty.int IntKind.i64) (Ty.list (98) (Ty.pair (Ty.int IntKind.i64) (Ty.pair (Ty.int IntKind.i64) (Ty.pair Ty.str Ty.str)))))))))
   (
    ob (c62 (1) (Prod.snd (Prod.snd y0)) (0) (0) (0) (mt (Ty.den (Ty.pair (Ty.int IntKind.i64) (Ty.list (98) (Ty.pair (Ty.int IntKind.i64) (Ty.pair (Ty.int IntKind.i64) (Ty.pair Ty.str Ty.str)))))))) fun y1 =>
    cond (Ops.eq B (Prod.fst (Prod.snd (Prod.snd y1))) (0))
     (
      cond (Ops.inb B (Prod.fst (Prod.snd y1)) (List.length (Prod.snd (Prod.snd y0))))
       (
        cond (!Ops.eq B (Prod.fst (List.getD (Prod.snd (Prod.snd y0)) (Int.toNat (Prod.fst (Prod.snd y1))) (Ty.dflt ty33))) (5))
         (
          ob (c63 (2) (Prod.fst (Prod.snd y1)) (Prod.fst y1) (Prod.fst (Prod.snd y1)) (Prod.fst (Prod.snd (Prod.snd y1))) (Prod.fst (Prod.snd (Prod.snd (Prod.snd y1)))) (Prod.snd (Prod.snd (Prod.snd (Prod.snd y1))))) fun y2 =>
          cond (!Ops.eq B (Prod.fst (Prod.snd (Prod.snd y2))) (0))
           (
            cond (Ops.inb B (Prod.fst (Prod.snd (Prod.snd (Prod.snd y2)))) (List.length (Prod.snd (Prod.snd y0))))
             (
              k ((Prod.fst (Prod.snd (Prod.snd y2)), Prod.snd (Prod.snd (Prod.snd (List.getD (Prod.snd (Prod.snd y0)) (Int.toNat (Prod.fst (Prod.snd (Prod.snd (Prod.snd y2))))) (Ty.dflt ty33)))), mt (Ty.den (Ty.pair (Ty.int IntKind.i64) (Ty.list (98) (Ty.pair (Ty.int IntKind.i64) (Ty.pair (Ty.int IntKind.i64) (Ty.pair Ty.str Ty.str)))))))))
             (
              none))
           (
            cond (Ops.lt B (24) (Nat.cast (List.length (Prod.snd (Prod.snd (Prod.snd (Prod.snd y2)))))))
             (
              k ((13, 0, mt (Ty.den (Ty.pair (Ty.int IntKind.i64) (Ty.list (98) (Ty.pair (Ty.int IntKind.i64) (Ty.pair (Ty.int IntKind.i64) (Ty.pair Ty.str Ty.str)))))))))
             (
              k ((0, 0, Prod.snd (Prod.snd (Prod.snd (Prod.snd y2))))))))
         (
          cond (!Ops.eq B (Prod.fst (Prod.snd (Prod.snd y1))) (0))
           (
            cond (Ops.inb B (Prod.fst (Prod.snd (Prod.snd (Prod.snd y1)))) (List.length (Prod.snd (Prod.snd y0))))
             (
              k ((Prod.fst (Prod.snd (Prod.snd y1)), Prod.snd (Prod.snd (Prod.snd (List.getD (Prod.snd (Prod.snd y0)) (Int.toNat (Prod.fst (Prod.snd (Prod.snd (Prod.snd y1))))) (Ty.dflt ty33)))), mt (Ty.den (Ty.pair (Ty.int IntKind.i64) (Ty.list (98) (Ty.pair (Ty.int IntKind.i64) (Ty.pair (Ty.int IntKind.i64) (Ty.pair Ty.str Ty.str)))))))))
             (
              none))
           (
            cond (Ops.lt B (24) (Nat.cast (List.length (Prod.snd (Prod.snd (Prod.snd (Prod.snd y1)))))))
             (
              k ((13, 0, mt (Ty.den (Ty.pair (Ty.int IntKind.i64) (Ty.list (98) (Ty.pair (Ty.int IntKind.i64) (Ty.pair (Ty.int IntKind.i64) (Ty.pair Ty.str Ty.str)))))))))
             (
              k ((0, 0, Prod.snd (Prod.snd (Prod.snd (Prod.snd y1)))))))))
       (
        none))
     (
      cond (!Ops.eq B (Prod.fst (Prod.snd (Prod.snd y1))) (0))
       (
        cond (Ops.inb B (Prod.fst (Prod.snd (Prod.snd (Prod.snd y1)))) (List.length (Prod.snd (Prod.snd y0))))
         (
          k ((Prod.fst (Prod.snd (Prod.snd y1)), Prod.snd (Prod.snd (Prod.snd (List.getD (Prod.snd (Prod.snd y0)) (Int.toNat (Prod.fst (Prod.snd (Prod.snd (Prod.snd y1))))) (Ty.dflt ty33)))), mt (Ty.den (Ty.pair (Ty.int IntKind.i64) (Ty.list (98) (Ty.pair (Ty.int IntKind.i64) (Ty.pair (Ty.int IntKind.i64) (Ty.pair Ty.str Ty.str)))))))))
         (
          none))
       (
        cond (Ops.lt B (24) (Nat.cast (List.length (Prod.snd (Prod.snd (Prod.snd (Prod.snd y1)))))))
         (
          k ((13, 0, mt (Ty.den (Ty.pair (Ty.int IntKind.i64) (Ty.list (98) (Ty.pair (Ty.int IntKind.i64) (Ty.pair (Ty.int IntKind.i64) (Ty.pair Ty.str Ty.str)))))))))
         (
          k ((0, 0, Prod.snd (Prod.snd (Prod.snd (Prod.snd y1)))))))))
theorem eq42 {R : Type} (B : Ops) (c61 : List UInt8 → Option (Int × Int × (List ty33.den))) (c62 : Int → List ty33.den → Int → Int → Int → List ty66.den → Option ((List ty33.den) × Int × Int × Int × (List ty66.den))) (c63 : Int → Int → List ty33.den → Int → Int → Int → List ty66.den → Option ((List ty33.den) × Int × Int × Int × (List ty66.den))) (p0 : List UInt8) (k : AV → Objs → Option R) (n : Nat) : afun tau B gl0 X42 (ent 61 (e61 c61) (ent 62 (e62 c62) (ent 63 (e63 c63) (gnil)))) ow Try.f42 [.c (.str p0)] [] k n = T42 B c61 c62 c63 p0 (fun y => k (.tup [(false, [.own 501000]), (false, [.int .i64 y.1]), (false, [.int .i64 y.2.1])]) [(501000, .row 66 ty66 y.2.2)]) := by kernel_rfl
theorem nt42 {R R' : Type} (B : Ops) (c61 : List UInt8 → Option (Int × Int × (List ty33.den))) (c62 : Int → List ty33.den → Int → Int → Int → List ty66.den → Option ((List ty33.den) × Int × Int × Int × (List ty66.den))) (c63 : Int → Int → List ty33.den → Int → Int → Int → List ty66.den → Option ((List ty33.den) × Int × Int × Int × (List ty66.den))) (p0 : List UInt8) (k0 : (Int × Int × (List ty66.den)) → Option R') (k : R' → Option R) : T42 B c61 c62 c63 p0 (fun y => ob (k0 y) k) = ob (T42 B c61 c62 c63 p0 k0) k := by
  unfold T42
  repeat' first | exact rfl | apply nat_cond | (apply nat_ob; intro)
def F42 (c61 : List UInt8 → Option (Int × Int × (List ty33.den))) (c62 : Int → List ty33.den → Int → Int → Int → List ty66.den → Option ((List ty33.den) × Int × Int × Int × (List ty66.den))) (c63 : Int → Int → List ty33.den → Int → Int → Int → List ty66.den → Option ((List ty33.den) × Int × Int × Int × (List ty66.den))) (p0 : List UInt8) : Option (Int × Int × (List ty66.den)) := T42 Ops.std c61 c62 c63 p0 some
theorem fo42 {R : Type} (c61 : List UInt8 → Option (Int × Int × (List ty33.den))) (c62 : Int → List ty33.den → Int → Int → Int → List ty66.den → Option ((List ty33.den) × Int × Int × Int × (List ty66.den))) (c63 : Int → Int → List ty33.den → Int → Int → Int → List ty66.den → Option ((List ty33.den) × Int × Int × Int × (List ty66.den))) (p0 : List UInt8) (k : AV → Objs → Option R) (n : Nat) : afun tau Ops.std gl0 X42 (ent 61 (e61 c61) (ent 62 (e62 c62) (ent 63 (e63 c63) (gnil)))) ow Try.f42 [.c (.str p0)] [] k n = ob (F42 c61 c62 c63 p0) (fun y => k (.tup [(false, [.own 501000]), (false, [.int .i64 y.1]), (false, [.int .i64 y.2.1])]) [(501000, .row 66 ty66 y.2.2)]) := by rw [eq42]; exact nt42 Ops.std c61 c62 c63 p0 some (fun y => k (.tup [(false, [.own 501000]), (false, [.int .i64 y.1]), (false, [.int .i64 y.2.1])]) [(501000, .row 66 ty66 y.2.2)])
def e42 {R : Type} (c : List UInt8 → Option (Int × Int × (List ty66.den))) : Ent R := fun args objs k =>
  oCons args fun a0 l0 => oC a0 fun x0 => cStr x0 fun p0 => oNil l0 <| oNilO objs <| ob (c p0) fun y => k (.tup [(false, [.own 501000]), (false, [.int .i64 y.1]), (false, [.int .i64 y.2.1])]) [(501000, .row 66 ty66 y.2.2)]
abbrev Sp42 (c : List UInt8 → Option (Int × Int × (List ty66.den))) : Prop := ∀ (p0 : List UInt8) (y : Int × Int × (List ty66.den)), c p0 = some y → Spec Try.prog gl0 42 [.c (.str p0)] [] (.tup [(false, [.own 501000]), (false, [.int .i64 y.1]), (false, [.int .i64 y.2.1])]) [(501000, .row 66 ty66 y.2.2)]
theorem ek42 {R : Type} {c : List UInt8 → Option (Int × Int × (List ty66.den))} (hs : Sp42 c) : EOk 42 (e42 (R := R) c) := fun args objs k r h => by
  unfold e42 at h
  obtain ⟨a0, l0, rfl, q1⟩ := oCons_some h
  obtain ⟨x0, rfl, q2⟩ := oC_some q1
  obtain ⟨p0, rfl, q3⟩ := cStr_some q2
  obtain ⟨rfl, q4⟩ := oNil_some q3
  obtain ⟨rfl, q5⟩ := oNilO_some q4
  exact eok_of (hs p0) q5
theorem sf42 {c61 : List UInt8 → Option (Int × Int × (List ty33.den))} {c62 : Int → List ty33.den → Int → Int → Int → List ty66.den → Option ((List ty33.den) × Int × Int × Int × (List ty66.den))} {c63 : Int → Int → List ty33.den → Int → Int → Int → List ty66.den → Option ((List ty33.den) × Int × Int × Int × (List ty66.den))} (h61 : Sp61 c61) (h62 : Sp62 c62) (h63 : Sp63 c63) : Sp42 (F42 c61 c62 c63) := fun p0 y hy => by
  refine spec_of (G := ent 61 (e61 c61) (ent 62 (e62 c62) (ent 63 (e63 c63) (gnil)))) (ent_ok (ek61 h61) (ent_ok (ek62 h62) (ent_ok (ek63 h63) (gnil_ok)))) 1000000 (fn := Try.f42) (by kernel_rfl) (by kernel_rfl) (X := X42) (by kernel_rfl) ?_
  rw [fo42, hy]
  rfl
noncomputable def M42 : List UInt8 → Option (Int × Int × (List ty66.den)) := F42 M61 M62 M63
theorem sm42 : Sp42 M42 := sf42 sm61 sm62 sm63

/-! ### 17: lariat/lariatlaw18.of -/
def X17 : Aux := ⟨[], []⟩
def T17 {R : Type} (B : Ops) (c42 : List UInt8 → Option (Int × Int × (List ty66.den))) (p0 : List UInt8) (k : ((List ty66.den)) → Option R) : Option R :=
  ob (c42 p0) fun y0 =>
  k (Prod.snd (Prod.snd y0))
theorem eq17 {R : Type} (B : Ops) (c42 : List UInt8 → Option (Int × Int × (List ty66.den))) (p0 : List UInt8) (k : AV → Objs → Option R) (n : Nat) : afun tau B gl0 X17 (ent 42 (e42 c42) (gnil)) ow Try.f17 [.c (.str p0)] [] k n = T17 B c42 p0 (fun y => k (.c (.own 500)) [(500, .row 66 ty66 y)]) := by kernel_rfl
theorem nt17 {R R' : Type} (B : Ops) (c42 : List UInt8 → Option (Int × Int × (List ty66.den))) (p0 : List UInt8) (k0 : ((List ty66.den)) → Option R') (k : R' → Option R) : T17 B c42 p0 (fun y => ob (k0 y) k) = ob (T17 B c42 p0 k0) k := by
  unfold T17
  repeat' first | exact rfl | apply nat_cond | (apply nat_ob; intro)
def F17 (c42 : List UInt8 → Option (Int × Int × (List ty66.den))) (p0 : List UInt8) : Option ((List ty66.den)) := T17 Ops.std c42 p0 some
theorem fo17 {R : Type} (c42 : List UInt8 → Option (Int × Int × (List ty66.den))) (p0 : List UInt8) (k : AV → Objs → Option R) (n : Nat) : afun tau Ops.std gl0 X17 (ent 42 (e42 c42) (gnil)) ow Try.f17 [.c (.str p0)] [] k n = ob (F17 c42 p0) (fun y => k (.c (.own 500)) [(500, .row 66 ty66 y)]) := by rw [eq17]; exact nt17 Ops.std c42 p0 some (fun y => k (.c (.own 500)) [(500, .row 66 ty66 y)])
def e17 {R : Type} (c : List UInt8 → Option ((List ty66.den))) : Ent R := fun args objs k =>
  oCons args fun a0 l0 => oC a0 fun x0 => cStr x0 fun p0 => oNil l0 <| oNilO objs <| ob (c p0) fun y => k (.c (.own 500)) [(500, .row 66 ty66 y)]
abbrev Sp17 (c : List UInt8 → Option ((List ty66.den))) : Prop := ∀ (p0 : List UInt8) (y : (List ty66.den)), c p0 = some y → Spec Try.prog gl0 17 [.c (.str p0)] [] (.c (.own 500)) [(500, .row 66 ty66 y)]
theorem ek17 {R : Type} {c : List UInt8 → Option ((List ty66.den))} (hs : Sp17 c) : EOk 17 (e17 (R := R) c) := fun args objs k r h => by
  unfold e17 at h
  obtain ⟨a0, l0, rfl, q1⟩ := oCons_some h
  obtain ⟨x0, rfl, q2⟩ := oC_some q1
  obtain ⟨p0, rfl, q3⟩ := cStr_some q2
  obtain ⟨rfl, q4⟩ := oNil_some q3
  obtain ⟨rfl, q5⟩ := oNilO_some q4
  exact eok_of (hs p0) q5
theorem sf17 {c42 : List UInt8 → Option (Int × Int × (List ty66.den))} (h42 : Sp42 c42) : Sp17 (F17 c42) := fun p0 y hy => by
  refine spec_of (G := ent 42 (e42 c42) (gnil)) (ent_ok (ek42 h42) (gnil_ok)) 1000000 (fn := Try.f17) (by kernel_rfl) (by kernel_rfl) (X := X17) (by kernel_rfl) ?_
  rw [fo17, hy]
  rfl
noncomputable def M17 : List UInt8 → Option ((List ty66.den)) := F17 M42
theorem sm17 : Sp17 M17 := sf17 sm42

/-! ### 15: lariat/lariatlaw18.known -/
def X15 : Aux := ⟨[], []⟩
def T15 {R : Type} (B : Ops) (c16 : Int → List ty4.den → Option (Int × Bool)) (c17 : List UInt8 → Option ((List ty66.den))) (c20 : List ty66.den → Option ((List ty3.den))) (c19 : List ty3.den → List ty3.den → Option (Bool)) (k : (Bool) → Option R) : Option R :=
  ob (c16 (0) (true :: mt (Ty.den Ty.bool))) fun y0 =>
  cond (Ops.eq B (Prod.fst y0) (0))
   (
    cond (Prod.snd y0)
     (
      ob (c17 (Array.toList (ByteArray.data { data := List.toArray (91 :: 120 :: 93 :: 32 :: 85 :: 32 :: 91 :: 121 :: 93 :: mt UInt8) }))) fun y1 =>
      ob (c20 y1) fun y2 =>
      ob (c19 y2 (2 :: mt (Ty.den (Ty.int IntKind.i64)))) fun y3 =>
      k y3)
     (
      k false))
   (
    k false)
theorem eq15 {R : Type} (B : Ops) (c16 : Int → List ty4.den → Option (Int × Bool)) (c17 : List UInt8 → Option ((List ty66.den))) (c20 : List ty66.den → Option ((List ty3.den))) (c19 : List ty3.den → List ty3.den → Option (Bool)) (k : AV → Objs → Option R) (n : Nat) : afun tau B gl0 X15 (ent 16 (e16 c16) (ent 17 (e17 c17) (ent 20 (e20 c20) (ent 19 (e19 c19) (gnil))))) ow Try.f15 [] [] k n = T15 B c16 c17 c20 c19 (fun y => k (.c (.bool y)) []) := by kernel_rfl
theorem nt15 {R R' : Type} (B : Ops) (c16 : Int → List ty4.den → Option (Int × Bool)) (c17 : List UInt8 → Option ((List ty66.den))) (c20 : List ty66.den → Option ((List ty3.den))) (c19 : List ty3.den → List ty3.den → Option (Bool)) (k0 : (Bool) → Option R') (k : R' → Option R) : T15 B c16 c17 c20 c19 (fun y => ob (k0 y) k) = ob (T15 B c16 c17 c20 c19 k0) k := by
  unfold T15
  repeat' first | exact rfl | apply nat_cond | (apply nat_ob; intro)
def F15 (c16 : Int → List ty4.den → Option (Int × Bool)) (c17 : List UInt8 → Option ((List ty66.den))) (c20 : List ty66.den → Option ((List ty3.den))) (c19 : List ty3.den → List ty3.den → Option (Bool)) : Option (Bool) := T15 Ops.std c16 c17 c20 c19 some
theorem fo15 {R : Type} (c16 : Int → List ty4.den → Option (Int × Bool)) (c17 : List UInt8 → Option ((List ty66.den))) (c20 : List ty66.den → Option ((List ty3.den))) (c19 : List ty3.den → List ty3.den → Option (Bool)) (k : AV → Objs → Option R) (n : Nat) : afun tau Ops.std gl0 X15 (ent 16 (e16 c16) (ent 17 (e17 c17) (ent 20 (e20 c20) (ent 19 (e19 c19) (gnil))))) ow Try.f15 [] [] k n = ob (F15 c16 c17 c20 c19) (fun y => k (.c (.bool y)) []) := by rw [eq15]; exact nt15 Ops.std c16 c17 c20 c19 some (fun y => k (.c (.bool y)) [])
def e15 {R : Type} (c : Option (Bool)) : Ent R := fun args objs k =>
  oNil args <| oNilO objs <| ob (c ) fun y => k (.c (.bool y)) []
abbrev Sp15 (c : Option (Bool)) : Prop := ∀ (y : Bool), c = some y → Spec Try.prog gl0 15 [] [] (.c (.bool y)) []
theorem ek15 {R : Type} {c : Option (Bool)} (hs : Sp15 c) : EOk 15 (e15 (R := R) c) := fun args objs k r h => by
  unfold e15 at h
  obtain ⟨rfl, q1⟩ := oNil_some h
  obtain ⟨rfl, q2⟩ := oNilO_some q1
  exact eok_of (hs ) q2
theorem sf15 {c16 : Int → List ty4.den → Option (Int × Bool)} {c17 : List UInt8 → Option ((List ty66.den))} {c20 : List ty66.den → Option ((List ty3.den))} {c19 : List ty3.den → List ty3.den → Option (Bool)} (h16 : Sp16 c16) (h17 : Sp17 c17) (h20 : Sp20 c20) (h19 : Sp19 c19) : Sp15 (F15 c16 c17 c20 c19) := fun y hy => by
  refine spec_of (G := ent 16 (e16 c16) (ent 17 (e17 c17) (ent 20 (e20 c20) (ent 19 (e19 c19) (gnil))))) (ent_ok (ek16 h16) (ent_ok (ek17 h17) (ent_ok (ek20 h20) (ent_ok (ek19 h19) (gnil_ok))))) 1000000 (fn := Try.f15) (by kernel_rfl) (by kernel_rfl) (X := X15) (by kernel_rfl) ?_
  rw [fo15, hy]
  rfl
noncomputable def M15 : Option (Bool) := F15 M16 M17 M20 M19
theorem sm15 : Sp15 M15 := sf15 sm16 sm17 sm20 sm19

/-! ### 5: lariat/lariatlaw18.FairRounds -/
def X5 : Aux := ⟨[(10, [2, 3, 9, 10, 11, 20, 21, 22, 23, 24, 25, 26, 27, 28, 29, 30, 31, 32, 33, 34, 35, 36, 37, 38, 39, 40, 41, 42, 43, 44, 45, 46, 47, 48, 49, 50, 51, 52, 53, 54, 55, 56, 57, 58, 59, 60, 61, 62, 63, 64, 65, 66, 67, 68, 69, 70, 71, 72, 73, 74, 75, 76, 77, 78, 79]), (14, [2, 3, 11, 20, 21, 22, 23, 24, 25, 26, 27, 28, 29, 30, 31, 32, 33, 34, 35, 41, 42, 43, 44, 45, 46, 47, 48, 49, 50, 51, 52, 53, 54, 55, 56, 57, 58, 59, 60, 61, 62, 63, 64, 65, 66, 67, 68, 69, 70, 71, 72, 73, 74, 75]), (22, [1, 2, 3, 5, 8, 9, 10, 11, 13, 20, 21, 22, 23, 24, 25, 26, 27, 28, 29, 30, 31, 32, 33, 34, 35, 36, 37, 38, 39, 40, 41, 42, 43, 44, 45, 46, 47, 48, 49, 50, 51, 52, 53, 54, 55, 56, 57, 58, 59, 60, 61, 62, 63, 64, 65, 66, 67, 68, 69, 70, 71, 72, 73, 74, 75, 76, 77, 78, 79, 80, 83, 84, 85, 86, 87, 88, 89, 90, 91, 92]), (29, [1, 2, 3, 4, 5, 7, 8, 9, 10, 11, 13, 17, 18, 19, 20, 21, 22, 23, 24, 25, 26, 27, 28, 29, 30, 31, 32, 33, 34, 35, 36, 37, 38, 39, 40, 41, 42, 43, 44, 45, 46, 47, 48, 49, 50, 51, 52, 53, 54, 55, 56, 57, 58, 59, 60, 61, 62, 63, 64, 65, 66, 67, 68, 69, 70, 71, 72, 73, 74, 75, 76, 77, 78, 79, 80, 81, 82, 83, 84, 85, 86, 87, 88, 89, 90, 91, 92, 93, 94, 95, 96, 97, 98, 99, 100, 101, 102, 103, 104, 105, 106, 107, 108, 109, 110, 111, 112, 113, 114, 115, 116, 117, 118, 119, 120, 121, 122, 123, 124]), (32, [1, 2, 3, 4, 5, 7, 8, 9, 10, 11, 13, 17, 18, 19, 20, 21, 22, 23, 24, 25, 26, 27, 28, 29, 30, 31, 32, 33, 34, 35, 36, 37, 38, 39, 40, 41, 42, 43, 44, 45, 46, 47, 48, 49, 50, 51, 52, 53, 54, 55, 56, 57, 58, 59, 60, 61, 62, 63, 64, 65, 66, 67, 68, 69, 70, 71, 72, 73, 74, 75, 76, 77, 78, 79, 80, 81, 82, 83, 84, 85, 86, 87, 88, 89, 90, 91, 92, 100, 101, 102, 103, 104, 105, 106, 107, 108, 109, 110, 111, 112, 113, 114, 115, 116, 117, 118, 119, 120, 121, 122, 123, 124])], []⟩
inductive S5 where
  | l0 (v0_0 : Int) (v0_1 : List ty23.den) (v0_2 : Bool) (v0_3 : Int) (v0_4 : Int) (v0_5 : List ty23.den) (v0_6 : List ty4.den)
  | l1 (v1_0 : Int) (v1_1 : List ty23.den) (v1_2 : Bool) (v1_3 : Int) (v1_4 : Int) (v1_5 : Int) (v1_6 : Int) (v1_7 : Int) (v1_9 : List ty23.den) (v1_10 : List ty4.den) (v1_11 : List ty4.den)
  | l2 (v2_0 : Int) (v2_1 : Bool) (v2_2 : Bool) (v2_3 : Int) (v2_4 : Int) (v2_5 : List ty23.den) (v2_6 : List ty4.den)
  | l3 (v3_0 : Int) (v3_1 : Bool) (v3_2 : Int) (v3_3 : Int) (v3_4 : Int) (v3_5 : List ty23.den)
  | l4 (v4_0 : Int) (v4_1 : Bool) (v4_2 : Int) (v4_3 : Int) (v4_4 : Int) (v4_5 : Int) (v4_7 : Int) (v4_8 : Int) (v4_9 : List ty23.den)
def T5 {R : Type} (B : Ops) (c15 : Option (Bool)) (c12 : Int → Int → Option (Int)) (c16 : Int → List ty4.den → Option (Int × Bool)) (p0 : Int) (p1 : List ty23.den) (again : S5 → Option R) (k : (Bool) → Option R) : Option S5 → Option R
  | none =>
    ob (c15) fun y0 =>
    cond (!y0)
     (
      k false)
     (
      ob (c12 p0 (5)) fun y1 =>
      ob (c15) fun y2 =>
      cond (!y2)
       (
        ob (c15) fun y3 =>
        k y3)
       (
        cond (Ops.eq B (bif false then bif Ops.lt B (Nat.cast (List.length p1)) (8) then 8 else Nat.cast (List.length p1) else bif Ops.lt B (8) (Nat.cast (List.length p1)) then 8 else Nat.cast (List.length p1)) (0))
         (
          ob (c15) fun y3 =>
          k y3)
         (
          cond (bif Ops.eq B y1 y1 then bif Ops.le B (0) y1 then Ops.lim B (Int.toNat y1) (1) else false else false)
           (
            again (.l0 y1 p1 false (bif false then bif Ops.lt B (Nat.cast (List.length p1)) (8) then 8 else Nat.cast (List.length p1) else bif Ops.lt B (8) (Nat.cast (List.length p1)) then 8 else Nat.cast (List.length p1)) 0 (mt (Ty.den (Ty.list (4) Ty.bool))) (List.replicate (Int.toNat y1) (Ty.dflt Ty.bool))))
           (
            none))))
  | some (.l0 v0_0 v0_1 v0_2 v0_3 v0_4 v0_5 v0_6) =>
    cond (Ops.lt B v0_4 v0_3)
     (
      again (.l1 v0_0 v0_1 v0_2 v0_3 v0_4 0 v0_4 v0_3 v0_5 v0_6 (mt (Ty.den Ty.bool))))
     (
      again (.l2 v0_0 v0_2 true (Nat.cast (List.length v0_6)) 0 v0_5 v0_6))
  | some (.l1 v1_0 v1_1 v1_2 v1_3 v1_4 v1_5 v1_6 v1_7 v1_9 v1_10 v1_11) =>
    cond (Ops.lt B v1_5 v1_0)
     (
      cond (Ops.inb B v1_4 (List.length v1_1))
       (
        cond (Ops.lt B v1_5 (Nat.cast (List.length (List.getD v1_1 (Int.toNat v1_4) (Ty.dflt ty23)))))
         (
          cond (Ops.inb B v1_4 (List.length v1_1))
           (
            cond (Ops.inb B v1_5 (List.length (List.getD v1_1 (Int.toNat v1_4) (Ty.dflt ty23))))
             (
              cond (Ops.lim B (List.length v1_11 + List.length (List.getD (List.getD v1_1 (Int.toNat v1_4) (Ty.dflt ty23)) (Int.toNat v1_5) (Ty.dflt Ty.bool) :: mt (Ty.den Ty.bool))) (1))
               (
                cond (Ops.inb B v1_5 (List.length v1_10))
                 (
                  cond (List.getD v1_10 (Int.toNat v1_5) (Ty.dflt ty4))
                   (
                    cond (Ops.inb B v1_5 (List.length v1_10))
                     (
                      again (.l1 v1_0 v1_1 v1_2 v1_3 v1_4 (IntKind.wrap IntKind.i64 (v1_5 + 1)) v1_6 v1_7 v1_9 (List.set v1_10 (Int.toNat v1_5) true) (v1_11 ++ List.getD (List.getD v1_1 (Int.toNat v1_4) (Ty.dflt ty23)) (Int.toNat v1_5) (Ty.dflt Ty.bool) :: mt (Ty.den Ty.bool))))
                     (
                      none))
                   (
                    cond (Ops.inb B v1_5 (List.length v1_10))
                     (
                      again (.l1 v1_0 v1_1 v1_2 v1_3 v1_4 (IntKind.wrap IntKind.i64 (v1_5 + 1)) v1_6 v1_7 v1_9 (List.set v1_10 (Int.toNat v1_5) (List.getD (List.getD v1_1 (Int.toNat v1_4) (Ty.dflt ty23)) (Int.toNat v1_5) (Ty.dflt Ty.bool))) (v1_11 ++ List.getD (List.getD v1_1 (Int.toNat v1_4) (Ty.dflt ty23)) (Int.toNat v1_5) (Ty.dflt Ty.bool) :: mt (Ty.den Ty.bool))))
                     (
                      none)))
                 (
                  none))
               (
                none))
             (
              none))
           (
            none))
         (
          cond (Ops.lim B (List.length v1_11 + List.length (false :: mt (Ty.den Ty.bool))) (1))
           (
            cond (Ops.inb B v1_5 (List.length v1_10))
             (
              cond (List.getD v1_10 (Int.toNat v1_5) (Ty.dflt ty4))
               (
                cond (Ops.inb B v1_5 (List.length v1_10))
                 (
                  again (.l1 v1_0 v1_1 v1_2 v1_3 v1_4 (IntKind.wrap IntKind.i64 (v1_5 + 1)) v1_6 v1_7 v1_9 (List.set v1_10 (Int.toNat v1_5) true) (v1_11 ++ false :: mt (Ty.den Ty.bool))))
                 (
                  none))
               (
                cond (Ops.inb B v1_5 (List.length v1_10))
                 (
                  again (.l1 v1_0 v1_1 v1_2 v1_3 v1_4 (IntKind.wrap IntKind.i64 (v1_5 + 1)) v1_6 v1_7 v1_9 (List.set v1_10 (Int.toNat v1_5) false) (v1_11 ++ false :: mt (Ty.den Ty.bool))))
                 (
                  none)))
             (
              none))
           (
            none)))
       (
        none))
     (
      cond (Ops.lim B (List.length v1_9 + List.length (v1_11 :: mt (Ty.den (Ty.list (4) Ty.bool)))) (24))
       (
        again (.l0 v1_0 v1_1 v1_2 v1_3 (IntKind.wrap IntKind.i64 (v1_4 + 1)) (v1_9 ++ v1_11 :: mt (Ty.den (Ty.list (4) Ty.bool))) v1_10))
       (
        none))
  | some (.l2 v2_0 v2_1 v2_2 v2_3 v2_4 v2_5 v2_6) =>
    cond (Ops.lt B v2_4 v2_3)
     (
      cond (v2_2)
       (
        cond (Ops.inb B v2_4 (List.length v2_6))
         (
          again (.l2 v2_0 v2_1 (List.getD v2_6 (Int.toNat v2_4) (Ty.dflt ty4)) v2_3 (IntKind.wrap IntKind.i64 (v2_4 + 1)) v2_5 v2_6))
         (
          none))
       (
        again (.l2 v2_0 v2_1 false v2_3 (IntKind.wrap IntKind.i64 (v2_4 + 1)) v2_5 v2_6)))
     (
      again (.l3 v2_0 v2_2 0 0 0 v2_5))
  | some (.l3 v3_0 v3_1 v3_2 v3_3 v3_4 v3_5) =>
    cond (Ops.lt B v3_4 (12))
     (
      again (.l4 v3_0 v3_1 v3_2 v3_3 v3_4 v3_4 (Nat.cast (List.length v3_5)) 0 v3_5))
     (
      cond (Ops.le B (2) v3_3 == v3_1)
       (
        cond (v3_1)
         (
          k true)
         (
          k (Ops.eq B v3_3 (0))))
       (
        k false))
  | some (.l4 v4_0 v4_1 v4_2 v4_3 v4_4 v4_5 v4_7 v4_8 v4_9) =>
    cond (Ops.lt B v4_8 v4_7)
     (
      cond (Ops.inb B v4_8 (List.length v4_9))
       (
        ob (c16 v4_2 (List.getD v4_9 (Int.toNat v4_8) (Ty.dflt ty23))) fun y0 =>
        cond (Ops.lt B (Prod.fst y0) (0))
         (
          k false)
         (
          cond (Ops.lt B (bif true then bif Ops.lt B (0) (IntKind.wrap IntKind.i64 (v4_0 - 1)) then IntKind.wrap IntKind.i64 (v4_0 - 1) else 0 else bif Ops.lt B (IntKind.wrap IntKind.i64 (v4_0 - 1)) (0) then IntKind.wrap IntKind.i64 (v4_0 - 1) else 0) (Prod.fst y0))
           (
            k false)
           (
            cond (Prod.snd y0)
             (
              again (.l4 v4_0 v4_1 (Prod.fst y0) (IntKind.wrap IntKind.i64 (v4_3 + 1)) v4_4 v4_5 v4_7 (IntKind.wrap IntKind.i64 (v4_8 + 1)) v4_9))
             (
              again (.l4 v4_0 v4_1 (Prod.fst y0) v4_3 v4_4 v4_5 v4_7 (IntKind.wrap IntKind.i64 (v4_8 + 1)) v4_9)))))
       (
        none))
     (
      again (.l3 v4_0 v4_1 v4_2 v4_3 (IntKind.wrap IntKind.i64 (v4_4 + 1)) v4_9))
def E5 (p0 : Int) (p1 : List ty23.den) : S5 → List AV × Objs
  | .l0 v0_0 v0_1 v0_2 v0_3 v0_4 v0_5 v0_6 => (mk 136 [(0, .c (.int .i64 v0_0)), (1, .c (.list 23 ty23 v0_1)), (4, .c (.bool v0_2)), (5, .c (.int .i64 v0_3)), (6, .c (.own 6)), (7, .c (.own 7)), (8, .c (.int .i64 v0_4))], [(6, .row 23 ty23 v0_5), (7, .row 4 ty4 v0_6)])
  | .l1 v1_0 v1_1 v1_2 v1_3 v1_4 v1_5 v1_6 v1_7 v1_9 v1_10 v1_11 => (mk 136 [(0, .c (.int .i64 v1_0)), (1, .c (.list 23 ty23 v1_1)), (4, .c (.bool v1_2)), (5, .c (.int .i64 v1_3)), (6, .c (.own 6)), (7, .c (.own 7)), (8, .c (.int .i64 v1_4)), (9, .c (.own 9)), (10, .c (.int .i64 v1_5)), (36, .c (.int .i64 v1_6)), (37, .c (.int .i64 v1_7)), (38, .c (.bool true))], [(6, .row 23 ty23 v1_9), (7, .row 4 ty4 v1_10), (9, .row 4 ty4 v1_11)])
  | .l2 v2_0 v2_1 v2_2 v2_3 v2_4 v2_5 v2_6 => (mk 136 [(0, .c (.int .i64 v2_0)), (4, .c (.bool v2_1)), (6, .c (.own 6)), (7, .c (.own 7)), (12, .c (.bool v2_2)), (81, .c (.int .i64 v2_3)), (82, .c (.int .i64 v2_4))], [(6, .row 23 ty23 v2_5), (7, .row 4 ty4 v2_6)])
  | .l3 v3_0 v3_1 v3_2 v3_3 v3_4 v3_5 => (mk 136 [(0, .c (.int .i64 v3_0)), (6, .c (.own 6)), (12, .c (.bool v3_1)), (14, .c (.int .i64 v3_2)), (15, .c (.int .i64 v3_3)), (16, .c (.int .i64 v3_4))], [(6, .row 23 ty23 v3_5)])
  | .l4 v4_0 v4_1 v4_2 v4_3 v4_4 v4_5 v4_7 v4_8 v4_9 => (mk 136 [(0, .c (.int .i64 v4_0)), (6, .c (.own 6)), (12, .c (.bool v4_1)), (14, .c (.int .i64 v4_2)), (15, .c (.int .i64 v4_3)), (16, .c (.int .i64 v4_4)), (93, .c (.int .i64 v4_5)), (94, .c (.bool true)), (97, .c (.own 6)), (98, .c (.int .i64 v4_7)), (99, .c (.int .i64 v4_8))], [(6, .row 23 ty23 v4_9)])
def I5 : S5 → Nat
  | .l0 _ _ _ _ _ _ _ => 0
  | .l1 _ _ _ _ _ _ _ _ _ _ _ => 1
  | .l2 _ _ _ _ _ _ _ => 2
  | .l3 _ _ _ _ _ _ => 3
  | .l4 _ _ _ _ _ _ _ _ _ => 4
theorem eq5 {R : Type} (B : Ops) (c15 : Option (Bool)) (c12 : Int → Int → Option (Int)) (c16 : Int → List ty4.den → Option (Int × Bool)) (p0 : Int) (p1 : List ty23.den) (k : AV → Objs → Option R) (n : Nat) : afun tau B gl0 X5 (ent 15 (e15 c15) (ent 12 (e12 c12) (ent 16 (e16 c16) (gnil)))) ow Try.f5 [.c (.int .i64 p0), .c (.list 23 ty23 p1)] [] k n = T5 B c15 c12 c16 p0 p1 (fun s => aloop tau B gl0 X5 (ent 15 (e15 c15) (ent 12 (e12 c12) (ent 16 (e16 c16) (gnil)))) ow [] Try.f5 k (I5 s) (E5 p0 p1 s) n) (fun y => k (.c (.bool y)) []) none := by kernel_rfl
theorem el5 {R : Type} (B : Ops) (c15 : Option (Bool)) (c12 : Int → Int → Option (Int)) (c16 : Int → List ty4.den → Option (Int × Bool)) (p0 : Int) (p1 : List ty23.den) (k : AV → Objs → Option R) (n : Nat) : ∀ s, aloop tau B gl0 X5 (ent 15 (e15 c15) (ent 12 (e12 c12) (ent 16 (e16 c16) (gnil)))) ow [] Try.f5 k (I5 s) (E5 p0 p1 s) (n + 1) = T5 B c15 c12 c16 p0 p1 (fun s => aloop tau B gl0 X5 (ent 15 (e15 c15) (ent 12 (e12 c12) (ent 16 (e16 c16) (gnil)))) ow [] Try.f5 k (I5 s) (E5 p0 p1 s) n) (fun y => k (.c (.bool y)) []) (some s)
  | .l0 v0_0 v0_1 v0_2 v0_3 v0_4 v0_5 v0_6 => by kernel_rfl
  | .l1 v1_0 v1_1 v1_2 v1_3 v1_4 v1_5 v1_6 v1_7 v1_9 v1_10 v1_11 => by kernel_rfl
  | .l2 v2_0 v2_1 v2_2 v2_3 v2_4 v2_5 v2_6 => by kernel_rfl
  | .l3 v3_0 v3_1 v3_2 v3_3 v3_4 v3_5 => by kernel_rfl
  | .l4 v4_0 v4_1 v4_2 v4_3 v4_4 v4_5 v4_7 v4_8 v4_9 => by kernel_rfl
theorem nt5 {R R' : Type} (B : Ops) (c15 : Option (Bool)) (c12 : Int → Int → Option (Int)) (c16 : Int → List ty4.den → Option (Int × Bool)) (p0 : Int) (p1 : List ty23.den) (again : S5 → Option R) (again' : S5 → Option R') (k0 : (Bool) → Option R') (k : R' → Option R) (h : ∀ s, again s = ob (again' s) k) : ∀ s, T5 B c15 c12 c16 p0 p1 again (fun y => ob (k0 y) k) s = ob (T5 B c15 c12 c16 p0 p1 again' k0 s) k
  | none => by unfold T5; repeat' first | exact rfl | exact h _ | apply nat_cond | (apply nat_ob; intro)
  | some (.l0 v0_0 v0_1 v0_2 v0_3 v0_4 v0_5 v0_6) => by unfold T5; repeat' first | exact rfl | exact h _ | apply nat_cond | (apply nat_ob; intro)
  | some (.l1 v1_0 v1_1 v1_2 v1_3 v1_4 v1_5 v1_6 v1_7 v1_9 v1_10 v1_11) => by unfold T5; repeat' first | exact rfl | exact h _ | apply nat_cond | (apply nat_ob; intro)
  | some (.l2 v2_0 v2_1 v2_2 v2_3 v2_4 v2_5 v2_6) => by unfold T5; repeat' first | exact rfl | exact h _ | apply nat_cond | (apply nat_ob; intro)
  | some (.l3 v3_0 v3_1 v3_2 v3_3 v3_4 v3_5) => by unfold T5; repeat' first | exact rfl | exact h _ | apply nat_cond | (apply nat_ob; intro)
  | some (.l4 v4_0 v4_1 v4_2 v4_3 v4_4 v4_5 v4_7 v4_8 v4_9) => by unfold T5; repeat' first | exact rfl | exact h _ | apply nat_cond | (apply nat_ob; intro)
def R5 (c15 : Option (Bool)) (c12 : Int → Int → Option (Int)) (c16 : Int → List ty4.den → Option (Int × Bool)) (p0 : Int) (p1 : List ty23.den) : Nat → S5 → Option (Bool)
  | 0, _ => none
  | n + 1, s => T5 Ops.std c15 c12 c16 p0 p1 (R5 c15 c12 c16 p0 p1 n) some (some s)
theorem rr5 {R : Type} (c15 : Option (Bool)) (c12 : Int → Int → Option (Int)) (c16 : Int → List ty4.den → Option (Int × Bool)) (p0 : Int) (p1 : List ty23.den) (k : AV → Objs → Option R) : ∀ (n : Nat) (s : S5), aloop tau Ops.std gl0 X5 (ent 15 (e15 c15) (ent 12 (e12 c12) (ent 16 (e16 c16) (gnil)))) ow [] Try.f5 k (I5 s) (E5 p0 p1 s) n = ob (R5 c15 c12 c16 p0 p1 n s) (fun y => k (.c (.bool y)) [])
  | 0, s => rfl
  | n + 1, s => by rw [el5]; exact nt5 Ops.std c15 c12 c16 p0 p1 _ _ some (fun y => k (.c (.bool y)) []) (rr5 c15 c12 c16 p0 p1 k n) (some s)
def F5 (c15 : Option (Bool)) (c12 : Int → Int → Option (Int)) (c16 : Int → List ty4.den → Option (Int × Bool)) (p0 : Int) (p1 : List ty23.den) : Option (Bool) := T5 Ops.std c15 c12 c16 p0 p1 (R5 c15 c12 c16 p0 p1 1000000) some none
theorem fo5 {R : Type} (c15 : Option (Bool)) (c12 : Int → Int → Option (Int)) (c16 : Int → List ty4.den → Option (Int × Bool)) (p0 : Int) (p1 : List ty23.den) (k : AV → Objs → Option R) : afun tau Ops.std gl0 X5 (ent 15 (e15 c15) (ent 12 (e12 c12) (ent 16 (e16 c16) (gnil)))) ow Try.f5 [.c (.int .i64 p0), .c (.list 23 ty23 p1)] [] k 1000000 = ob (F5 c15 c12 c16 p0 p1) (fun y => k (.c (.bool y)) []) := by rw [eq5]; exact nt5 Ops.std c15 c12 c16 p0 p1 _ _ some (fun y => k (.c (.bool y)) []) (rr5 c15 c12 c16 p0 p1 k 1000000) none
def e5 {R : Type} (c : Int → List ty23.den → Option (Bool)) : Ent R := fun args objs k =>
  oCons args fun a0 l0 => oC a0 fun x0 => cInt .i64 x0 fun p0 => oCons l0 fun a1 l1 => oC a1 fun x1 => cList 23 ty23 x1 fun p1 => oNil l1 <| oNilO objs <| ob (c p0 p1) fun y => k (.c (.bool y)) []
abbrev Sp5 (c : Int → List ty23.den → Option (Bool)) : Prop := ∀ (p0 : Int) (p1 : List ty23.den) (y : Bool), c p0 p1 = some y → Spec Try.prog gl0 5 [.c (.int .i64 p0), .c (.list 23 ty23 p1)] [] (.c (.bool y)) []
theorem ek5 {R : Type} {c : Int → List ty23.den → Option (Bool)} (hs : Sp5 c) : EOk 5 (e5 (R := R) c) := fun args objs k r h => by
  unfold e5 at h
  obtain ⟨a0, l0, rfl, q1⟩ := oCons_some h
  obtain ⟨x0, rfl, q2⟩ := oC_some q1
  obtain ⟨p0, rfl, q3⟩ := cInt_some q2
  obtain ⟨a1, l1, rfl, q4⟩ := oCons_some q3
  obtain ⟨x1, rfl, q5⟩ := oC_some q4
  obtain ⟨p1, rfl, q6⟩ := cList_some q5
  obtain ⟨rfl, q7⟩ := oNil_some q6
  obtain ⟨rfl, q8⟩ := oNilO_some q7
  exact eok_of (hs p0 p1) q8
theorem sf5 {c15 : Option (Bool)} {c12 : Int → Int → Option (Int)} {c16 : Int → List ty4.den → Option (Int × Bool)} (h15 : Sp15 c15) (h12 : Sp12 c12) (h16 : Sp16 c16) : Sp5 (F5 c15 c12 c16) := fun p0 p1 y hy => by
  refine spec_of (G := ent 15 (e15 c15) (ent 12 (e12 c12) (ent 16 (e16 c16) (gnil)))) (ent_ok (ek15 h15) (ent_ok (ek12 h12) (ent_ok (ek16 h16) (gnil_ok)))) 1000000 (fn := Try.f5) (by kernel_rfl) (by kernel_rfl) (X := X5) (by kernel_rfl) ?_
  rw [fo5, hy]
  rfl
noncomputable def M5 : Int → List ty23.den → Option (Bool) := F5 M15 M12 M16
theorem sm5 : Sp5 M5 := sf5 sm15 sm12 sm16
end Go.Proofs.Ytfdlgmbbflmbgaa.Av
