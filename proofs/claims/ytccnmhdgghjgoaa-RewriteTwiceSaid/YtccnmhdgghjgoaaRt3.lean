/- Twins of functions, printed by gen.py. Conditions: none. -/
import Derived.Test.YtccnmhdgghjgoaaRt2
import Derived.KernelRfl
set_option linter.unusedVariables false
set_option maxRecDepth 100000
set_option maxHeartbeats 8000000
namespace Go.Proofs.Ytccnmhdgghjgoaa.Av
open Go

/-! ### 29: lariat/rewrite.lasting -/
def X29 : Aux := ⟨[(2000000, [])], []⟩
def T29 {R : Type} (B : Ops) (c30 : List ty36.den → Int → Option (Bool)) (c54 : List ty36.den → List ty36.den → Option (Bool)) (c55 : Int → List ty36.den → List ty36.den → Option (Bool)) (c31 : Int → List ty24.den → Option ((List ty36.den))) (p0 : Int) (p1 : List ty36.den) (p2 : List ty36.den) (k : ((List ty36.den)) → Option R) : Option R :=
  cond (Ops.eq B p0 (10))
   (
    ob (c30 p2 (1)) fun y0 =>
    cond (y0)
     (
      k p2)
     (
      ob (c30 p2 (2)) fun y1 =>
      cond (y1)
       (
        k p2)
       (
        ob (c30 p1 (1)) fun y2 =>
        cond (y2)
         (
          k p2)
         (
          ob (c54 p1 p2) fun y3 =>
          cond (y3)
           (
            k p2)
           (
            ob (c55 p0 p1 p2) fun y4 =>
            cond (y4)
             (
              k p2)
             (
              ob (c31 p0 (p1 :: p2 :: mt (Ty.den (Ty.list (36) (Ty.pair (Ty.int IntKind.i64) (Ty.list (97) (Ty.pair (Ty.int IntKind.i64) (Ty.pair (Ty.int IntKind.i64) (Ty.pair Ty.str Ty.str))))))))) fun y5 =>
              k y5))))))
   (
    ob (c30 p2 (1)) fun y0 =>
    cond (y0)
     (
      k p2)
     (
      ob (c30 p2 (2)) fun y1 =>
      cond (y1)
       (
        k p2)
       (
        ob (c30 p1 (2)) fun y2 =>
        cond (y2)
         (
          k p2)
         (
          ob (c54 p1 p2) fun y3 =>
          cond (y3)
           (
            k p2)
           (
            ob (c55 p0 p1 p2) fun y4 =>
            cond (y4)
             (
              k p2)
             (
              ob (c31 p0 (p1 :: p2 :: mt (Ty.den (Ty.list (36) (Ty.pair (Ty.int IntKind.i64) (Ty.list (97) (Ty.pair (Ty.int IntKind.i64) (Ty.pair (Ty.int IntKind.i64) (Ty.pair Ty.str Ty.str))))))))) fun y5 =>
              k y5))))))
theorem eq29 {R : Type} (B : Ops) (c30 : List ty36.den → Int → Option (Bool)) (c54 : List ty36.den → List ty36.den → Option (Bool)) (c55 : Int → List ty36.den → List ty36.den → Option (Bool)) (c31 : Int → List ty24.den → Option ((List ty36.den))) (p0 : Int) (p1 : List ty36.den) (p2 : List ty36.den) (k : AV → Objs → Option R) (n : Nat) : afun tau B gl0 X29 (ent 30 (e30 c30) (ent 54 (e54 c54) (ent 55 (e55 c55) (ent 31 (e31 c31) (gnil))))) ow Try.f29 [.c (.int .i64 p0), .c (.list 36 ty36 p1), .c (.list 36 ty36 p2)] [] k n = T29 B c30 c54 c55 c31 p0 p1 p2 (fun y => k (.c (.list 36 ty36 y)) []) := by kernel_rfl
theorem nt29 {R R' : Type} (B : Ops) (c30 : List ty36.den → Int → Option (Bool)) (c54 : List ty36.den → List ty36.den → Option (Bool)) (c55 : Int → List ty36.den → List ty36.den → Option (Bool)) (c31 : Int → List ty24.den → Option ((List ty36.den))) (p0 : Int) (p1 : List ty36.den) (p2 : List ty36.den) (k0 : ((List ty36.den)) → Option R') (k : R' → Option R) : T29 B c30 c54 c55 c31 p0 p1 p2 (fun y => ob (k0 y) k) = ob (T29 B c30 c54 c55 c31 p0 p1 p2 k0) k := by
  unfold T29
  repeat' first | exact rfl | apply nat_cond | (apply nat_ob; intro)
def F29 (c30 : List ty36.den → Int → Option (Bool)) (c54 : List ty36.den → List ty36.den → Option (Bool)) (c55 : Int → List ty36.den → List ty36.den → Option (Bool)) (c31 : Int → List ty24.den → Option ((List ty36.den))) (p0 : Int) (p1 : List ty36.den) (p2 : List ty36.den) : Option ((List ty36.den)) := T29 Ops.std c30 c54 c55 c31 p0 p1 p2 some
theorem fo29 {R : Type} (c30 : List ty36.den → Int → Option (Bool)) (c54 : List ty36.den → List ty36.den → Option (Bool)) (c55 : Int → List ty36.den → List ty36.den → Option (Bool)) (c31 : Int → List ty24.den → Option ((List ty36.den))) (p0 : Int) (p1 : List ty36.den) (p2 : List ty36.den) (k : AV → Objs → Option R) (n : Nat) : afun tau Ops.std gl0 X29 (ent 30 (e30 c30) (ent 54 (e54 c54) (ent 55 (e55 c55) (ent 31 (e31 c31) (gnil))))) ow Try.f29 [.c (.int .i64 p0), .c (.list 36 ty36 p1), .c (.list 36 ty36 p2)] [] k n = ob (F29 c30 c54 c55 c31 p0 p1 p2) (fun y => k (.c (.list 36 ty36 y)) []) := by rw [eq29]; exact nt29 Ops.std c30 c54 c55 c31 p0 p1 p2 some (fun y => k (.c (.list 36 ty36 y)) [])
def e29 {R : Type} (c : Int → List ty36.den → List ty36.den → Option ((List ty36.den))) : Ent R := fun args objs k =>
  oCons args fun a0 l0 => oC a0 fun x0 => cInt .i64 x0 fun p0 => oCons l0 fun a1 l1 => oC a1 fun x1 => cList 36 ty36 x1 fun p1 => oCons l1 fun a2 l2 => oC a2 fun x2 => cList 36 ty36 x2 fun p2 => oNil l2 <| oNilO objs <| ob (c p0 p1 p2) fun y => k (.c (.list 36 ty36 y)) []
abbrev Sp29 (c : Int → List ty36.den → List ty36.den → Option ((List ty36.den))) : Prop := ∀ (p0 : Int) (p1 : List ty36.den) (p2 : List ty36.den) (y : (List ty36.den)), c p0 p1 p2 = some y → Spec Try.prog gl0 29 [.c (.int .i64 p0), .c (.list 36 ty36 p1), .c (.list 36 ty36 p2)] [] (.c (.list 36 ty36 y)) []
theorem ek29 {R : Type} {c : Int → List ty36.den → List ty36.den → Option ((List ty36.den))} (hs : Sp29 c) : EOk 29 (e29 (R := R) c) := fun args objs k r h => by
  unfold e29 at h
  obtain ⟨a0, l0, rfl, q1⟩ := oCons_some h
  obtain ⟨x0, rfl, q2⟩ := oC_some q1
  obtain ⟨p0, rfl, q3⟩ := cInt_some q2
  obtain ⟨a1, l1, rfl, q4⟩ := oCons_some q3
  obtain ⟨x1, rfl, q5⟩ := oC_some q4
  obtain ⟨p1, rfl, q6⟩ := cList_some q5
  obtain ⟨a2, l2, rfl, q7⟩ := oCons_some q6
  obtain ⟨x2, rfl, q8⟩ := oC_some q7
  obtain ⟨p2, rfl, q9⟩ := cList_some q8
  obtain ⟨rfl, q10⟩ := oNil_some q9
  obtain ⟨rfl, q11⟩ := oNilO_some q10
  exact eok_of (hs p0 p1 p2) q11
theorem sf29 {c30 : List ty36.den → Int → Option (Bool)} {c54 : List ty36.den → List ty36.den → Option (Bool)} {c55 : Int → List ty36.den → List ty36.den → Option (Bool)} {c31 : Int → List ty24.den → Option ((List ty36.den))} (h30 : Sp30 c30) (h54 : Sp54 c54) (h55 : Sp55 c55) (h31 : Sp31 c31) : Sp29 (F29 c30 c54 c55 c31) := fun p0 p1 p2 y hy => by
  refine spec_of (G := ent 30 (e30 c30) (ent 54 (e54 c54) (ent 55 (e55 c55) (ent 31 (e31 c31) (gnil))))) (ent_ok (ek30 h30) (ent_ok (ek54 h54) (ent_ok (ek55 h55) (ent_ok (ek31 h31) (gnil_ok))))) 1000000 (fn := Try.f29) (by kernel_rfl) (by kernel_rfl) (X := X29) (by kernel_rfl) ?_
  rw [fo29, hy]
  rfl
noncomputable def M29 : Int → List ty36.den → List ty36.den → Option ((List ty36.den)) := F29 M30 M54 M55 M31
theorem sm29 : Sp29 M29 := sf29 sm30 sm54 sm55 sm31

/-! ### 99: lariat/lariathand.Pick -/
def X99 : Aux := ⟨[], []⟩
def T99 {R : Type} (B : Ops) (p0 : Int) (p1 : Int) (k : (Int) → Option R) : Option R :=
  cond (Ops.eq B p1 (0))
   (
    none)
   (
    cond (Ops.lt B (Int.tmod p0 p1) (0))
     (
      k (IntKind.wrap IntKind.i64 (Int.tmod p0 p1 + p1)))
     (
      k (Int.tmod p0 p1)))
theorem eq99 {R : Type} (B : Ops) (p0 : Int) (p1 : Int) (k : AV → Objs → Option R) (n : Nat) : afun tau B gl0 X99 (gnil) ow Try.f99 [.c (.int .i64 p0), .c (.int .i64 p1)] [] k n = T99 B p0 p1 (fun y => k (.c (.int .i64 y)) []) := by kernel_rfl
theorem nt99 {R R' : Type} (B : Ops) (p0 : Int) (p1 : Int) (k0 : (Int) → Option R') (k : R' → Option R) : T99 B p0 p1 (fun y => ob (k0 y) k) = ob (T99 B p0 p1 k0) k := by
  unfold T99
  repeat' first | exact rfl | apply nat_cond | (apply nat_ob; intro)
def F99 (p0 : Int) (p1 : Int) : Option (Int) := T99 Ops.std p0 p1 some
theorem fo99 {R : Type} (p0 : Int) (p1 : Int) (k : AV → Objs → Option R) (n : Nat) : afun tau Ops.std gl0 X99 (gnil) ow Try.f99 [.c (.int .i64 p0), .c (.int .i64 p1)] [] k n = ob (F99 p0 p1) (fun y => k (.c (.int .i64 y)) []) := by rw [eq99]; exact nt99 Ops.std p0 p1 some (fun y => k (.c (.int .i64 y)) [])
def e99 {R : Type} (c : Int → Int → Option (Int)) : Ent R := fun args objs k =>
  oCons args fun a0 l0 => oC a0 fun x0 => cInt .i64 x0 fun p0 => oCons l0 fun a1 l1 => oC a1 fun x1 => cInt .i64 x1 fun p1 => oNil l1 <| oNilO objs <| ob (c p0 p1) fun y => k (.c (.int .i64 y)) []
abbrev Sp99 (c : Int → Int → Option (Int)) : Prop := ∀ (p0 : Int) (p1 : Int) (y : Int), c p0 p1 = some y → Spec Try.prog gl0 99 [.c (.int .i64 p0), .c (.int .i64 p1)] [] (.c (.int .i64 y)) []
theorem ek99 {R : Type} {c : Int → Int → Option (Int)} (hs : Sp99 c) : EOk 99 (e99 (R := R) c) := fun args objs k r h => by
  unfold e99 at h
  obtain ⟨a0, l0, rfl, q1⟩ := oCons_some h
  obtain ⟨x0, rfl, q2⟩ := oC_some q1
  obtain ⟨p0, rfl, q3⟩ := cInt_some q2
  obtain ⟨a1, l1, rfl, q4⟩ := oCons_some q3
  obtain ⟨x1, rfl, q5⟩ := oC_some q4
  obtain ⟨p1, rfl, q6⟩ := cInt_some q5
  obtain ⟨rfl, q7⟩ := oNil_some q6
  obtain ⟨rfl, q8⟩ := oNilO_some q7
  exact eok_of (hs p0 p1) q8
theorem sf99 : Sp99 (F99) := fun p0 p1 y hy => by
  refine spec_of (G := gnil) (gnil_ok) 1000000 (fn := Try.f99) (by kernel_rfl) (by kernel_rfl) (X := X99) (by kernel_rfl) ?_
  rw [fo99, hy]
  rfl
noncomputable def M99 : Int → Int → Option (Int) := F99
theorem sm99 : Sp99 M99 := sf99

/-! ### 62: (*lariat/lariathand.feed).next -/
def X62 : Aux := ⟨[], [(4, .lin [0, 1, 2, 3, 4, 5, 6, 7, 8, 9, 10, 11, 12, 13, 14, 15, 16, 17, 18, 19, 20, 21, 22, 23, 24, 25, 26, 27, 28, 29, 30])]⟩
def T62 {R : Type} (B : Ops) (c99 : Int → Int → Option (Int)) (p0 : Int) (p1 : List ty3.den) (p2 : Int) (k : (Int × (List ty3.den) × Int) → Option R) : Option R :=
  cond (Ops.eq B (Nat.cast (List.length p1)) (0))
   (
    k ((0, p1, p2)))
   (
    cond (Ops.eq B (Nat.cast (List.length p1)) (0))
     (
      none)
     (
      cond (Ops.inb B (Int.tmod (IntKind.wrap IntKind.i64 (p2 + 1)) (Nat.cast (List.length p1))) (List.length p1))
       (
        cond (Ops.eq B (Nat.cast (List.length p1)) (0))
         (
          none)
         (
          cond (Ops.eq B (IntKind.wrap IntKind.i64 (1 + IntKind.wrap IntKind.i64 (Int.tdiv (IntKind.wrap IntKind.i64 (p2 + 1)) (Nat.cast (List.length p1))))) (0))
           (
            none)
           (
            ob (c99 (IntKind.wrap IntKind.i64 (Int.tdiv (List.getD p1 (Int.toNat (Int.tmod (IntKind.wrap IntKind.i64 (p2 + 1)) (Nat.cast (List.length p1)))) (Ty.dflt ty3)) (IntKind.wrap IntKind.i64 (1 + IntKind.wrap IntKind.i64 (Int.tdiv (IntKind.wrap IntKind.i64 (p2 + 1)) (Nat.cast (List.length p1))))))) p0) fun y0 =>
            k ((y0, p1, IntKind.wrap IntKind.i64 (p2 + 1))))))
       (
        none)))
theorem eq62 {R : Type} (B : Ops) (c99 : Int → Int → Option (Int)) (p0 : Int) (p1 : List ty3.den) (p2 : Int) (k : AV → Objs → Option R) (n : Nat) : afun tau B gl0 X62 (ent 99 (e99 c99) (gnil)) ow Try.f62 [.c (.ptr 0 0), .c (.int .i64 p0)] [(0, .box 63 [.list 3 ty3 p1, .int .i64 p2])] k n = T62 B c99 p0 p1 p2 (fun y => k (.c (.int .i64 y.1)) [(0, .box 63 [.list 3 ty3 y.2.1, .int .i64 y.2.2])]) := by kernel_rfl
theorem nt62 {R R' : Type} (B : Ops) (c99 : Int → Int → Option (Int)) (p0 : Int) (p1 : List ty3.den) (p2 : Int) (k0 : (Int × (List ty3.den) × Int) → Option R') (k : R' → Option R) : T62 B c99 p0 p1 p2 (fun y => ob (k0 y) k) = ob (T62 B c99 p0 p1 p2 k0) k := by
  unfold T62
  repeat' first | exact rfl | apply nat_cond | (apply nat_ob; intro)
def F62 (c99 : Int → Int → Option (Int)) (p0 : Int) (p1 : List ty3.den) (p2 : Int) : Option (Int × (List ty3.den) × Int) := T62 Ops.std c99 p0 p1 p2 some
theorem fo62 {R : Type} (c99 : Int → Int → Option (Int)) (p0 : Int) (p1 : List ty3.den) (p2 : Int) (k : AV → Objs → Option R) (n : Nat) : afun tau Ops.std gl0 X62 (ent 99 (e99 c99) (gnil)) ow Try.f62 [.c (.ptr 0 0), .c (.int .i64 p0)] [(0, .box 63 [.list 3 ty3 p1, .int .i64 p2])] k n = ob (F62 c99 p0 p1 p2) (fun y => k (.c (.int .i64 y.1)) [(0, .box 63 [.list 3 ty3 y.2.1, .int .i64 y.2.2])]) := by rw [eq62]; exact nt62 Ops.std c99 p0 p1 p2 some (fun y => k (.c (.int .i64 y.1)) [(0, .box 63 [.list 3 ty3 y.2.1, .int .i64 y.2.2])])
def e62 {R : Type} (c : Int → List ty3.den → Int → Option (Int × (List ty3.den) × Int)) : Ent R := fun args objs k =>
  oCons args fun a0 l0 => oC a0 fun x0 => cPtr 0 x0 <| oCons l0 fun a1 l1 => oC a1 fun x1 => cInt .i64 x1 fun p0 => oNil l1 <| oBox 0 63 objs fun b0 o0 => cCons b0 fun u0_0 v0_0 => cList 3 ty3 u0_0 fun p1 => cCons v0_0 fun u0_1 v0_1 => cInt .i64 u0_1 fun p2 => cNil v0_1 <| oNilO o0 <| ob (c p0 p1 p2) fun y => k (.c (.int .i64 y.1)) [(0, .box 63 [.list 3 ty3 y.2.1, .int .i64 y.2.2])]
abbrev Sp62 (c : Int → List ty3.den → Int → Option (Int × (List ty3.den) × Int)) : Prop := ∀ (p0 : Int) (p1 : List ty3.den) (p2 : Int) (y : Int × (List ty3.den) × Int), c p0 p1 p2 = some y → Spec Try.prog gl0 62 [.c (.ptr 0 0), .c (.int .i64 p0)] [(0, .box 63 [.list 3 ty3 p1, .int .i64 p2])] (.c (.int .i64 y.1)) [(0, .box 63 [.list 3 ty3 y.2.1, .int .i64 y.2.2])]
theorem ek62 {R : Type} {c : Int → List ty3.den → Int → Option (Int × (List ty3.den) × Int)} (hs : Sp62 c) : EOk 62 (e62 (R := R) c) := fun args objs k r h => by
  unfold e62 at h
  obtain ⟨a0, l0, rfl, q1⟩ := oCons_some h
  obtain ⟨x0, rfl, q2⟩ := oC_some q1
  obtain ⟨rfl, q3⟩ := cPtr_some q2
  obtain ⟨a1, l1, rfl, q4⟩ := oCons_some q3
  obtain ⟨x1, rfl, q5⟩ := oC_some q4
  obtain ⟨p0, rfl, q6⟩ := cInt_some q5
  obtain ⟨rfl, q7⟩ := oNil_some q6
  obtain ⟨b0, o0, rfl, q8⟩ := oBox_some q7
  obtain ⟨u0_0, v0_0, rfl, q9⟩ := cCons_some q8
  obtain ⟨p1, rfl, q10⟩ := cList_some q9
  obtain ⟨u0_1, v0_1, rfl, q11⟩ := cCons_some q10
  obtain ⟨p2, rfl, q12⟩ := cInt_some q11
  obtain ⟨rfl, q13⟩ := cNil_some q12
  obtain ⟨rfl, q14⟩ := oNilO_some q13
  exact eok_of (hs p0 p1 p2) q14
theorem sf62 {c99 : Int → Int → Option (Int)} (h99 : Sp99 c99) : Sp62 (F62 c99) := fun p0 p1 p2 y hy => by
  refine spec_of (G := ent 99 (e99 c99) (gnil)) (ent_ok (ek99 h99) (gnil_ok)) 1000000 (fn := Try.f62) (by kernel_rfl) (by kernel_rfl) (X := X62) (by kernel_rfl) ?_
  rw [fo62, hy]
  rfl
noncomputable def M62 : Int → List ty3.den → Int → Option (Int × (List ty3.den) × Int) := F62 M99
theorem sm62 : Sp62 M62 := sf62 sm99
def e34 {R : Type} (c : Int → List ty3.den → Int → Option ((List UInt8) × (List ty3.den) × Int)) : Ent R := fun args objs k =>
  oCons args fun a0 l0 => oC a0 fun x0 => cPtr 0 x0 <| oCons l0 fun a1 l1 => oC a1 fun x1 => cInt .i64 x1 fun p0 => oNil l1 <| oBox 0 63 objs fun b0 o0 => cCons b0 fun u0_0 v0_0 => cList 3 ty3 u0_0 fun p1 => cCons v0_0 fun u0_1 v0_1 => cInt .i64 u0_1 fun p2 => cNil v0_1 <| oNilO o0 <| ob (c p0 p1 p2) fun y => k (.c (.str y.1)) [(0, .box 63 [.list 3 ty3 y.2.1, .int .i64 y.2.2])]
abbrev Sp34 (c : Int → List ty3.den → Int → Option ((List UInt8) × (List ty3.den) × Int)) : Prop := ∀ (p0 : Int) (p1 : List ty3.den) (p2 : Int) (y : (List UInt8) × (List ty3.den) × Int), c p0 p1 p2 = some y → Spec Try.prog gl0 34 [.c (.ptr 0 0), .c (.int .i64 p0)] [(0, .box 63 [.list 3 ty3 p1, .int .i64 p2])] (.c (.str y.1)) [(0, .box 63 [.list 3 ty3 y.2.1, .int .i64 y.2.2])]
theorem ek34 {R : Type} {c : Int → List ty3.den → Int → Option ((List UInt8) × (List ty3.den) × Int)} (hs : Sp34 c) : EOk 34 (e34 (R := R) c) := fun args objs k r h => by
  unfold e34 at h
  obtain ⟨a0, l0, rfl, q1⟩ := oCons_some h
  obtain ⟨x0, rfl, q2⟩ := oC_some q1
  obtain ⟨rfl, q3⟩ := cPtr_some q2
  obtain ⟨a1, l1, rfl, q4⟩ := oCons_some q3
  obtain ⟨x1, rfl, q5⟩ := oC_some q4
  obtain ⟨p0, rfl, q6⟩ := cInt_some q5
  obtain ⟨rfl, q7⟩ := oNil_some q6
  obtain ⟨b0, o0, rfl, q8⟩ := oBox_some q7
  obtain ⟨u0_0, v0_0, rfl, q9⟩ := cCons_some q8
  obtain ⟨p1, rfl, q10⟩ := cList_some q9
  obtain ⟨u0_1, v0_1, rfl, q11⟩ := cCons_some q10
  obtain ⟨p2, rfl, q12⟩ := cInt_some q11
  obtain ⟨rfl, q13⟩ := cNil_some q12
  obtain ⟨rfl, q14⟩ := oNilO_some q13
  exact eok_of (hs p0 p1 p2) q14

/-! ### 34: (*lariat/lariathand.feed).formula -/
def X34 : Aux := ⟨[(1000004, [2, 3, 4, 6, 7, 8, 9, 10, 11, 12, 13, 14, 15, 16, 17, 18, 19, 20, 21, 22, 23, 24, 25, 26, 27, 28, 29, 30, 31, 32, 33, 34, 35, 36, 37, 38, 39, 40, 41, 42, 43, 44, 45, 46, 47, 48, 49, 50, 51, 52, 53, 54, 55, 56, 57, 58, 59, 60, 61, 62, 63, 64, 65, 66, 67, 68, 69, 70, 71, 72, 73, 74, 75, 76, 77, 78, 79, 80, 81, 82, 83, 84, 85, 86, 87, 88, 89, 90, 91, 92, 93, 94, 95, 96, 97, 98, 99, 100, 101, 102, 103, 104, 105, 106, 107, 108, 109, 110])], [(11, .lin [0, 1, 2, 5, 6, 10, 11, 12, 3, 4, 7, 8, 9, 13, 14, 15, 16]), (13, .lin [0, 1, 2, 5, 6, 10, 11, 12, 3, 4, 7, 8, 9, 13, 14, 15, 16])]⟩
inductive S34 where
  | l1004 (v1004_1 : Int) (v1004_2 : List ty3.den) (v1004_3 : Int)
def T34 {R : Type} (B : Ops) (c62 : Int → List ty3.den → Int → Option (Int × (List ty3.den) × Int)) (c34 : Int → List ty3.den → Int → Option ((List UInt8) × (List ty3.den) × Int)) (p0 : Int) (p1 : List ty3.den) (p2 : Int) (again : S34 → Option R) (k : ((List UInt8) × (List ty3.den) × Int) → Option R) : Option S34 → Option R
  | none =>
    ob (c62 (22) p1 p2) fun y0 =>
    cond (Ops.lt B (2) p0)
     (
      cond (Ops.eq B (4) (0))
       (
        none)
       (
        again (.l1004 (IntKind.wrap IntKind.i64 (18 + Int.tmod (Prod.fst y0) (4))) (Prod.fst (Prod.snd y0)) (Prod.snd (Prod.snd y0)))))
     (
      cond (Ops.lt B (9) (Prod.snd (Prod.snd y0)))
       (
        cond (Ops.eq B (4) (0))
         (
          none)
         (
          again (.l1004 (IntKind.wrap IntKind.i64 (18 + Int.tmod (Prod.fst y0) (4))) (Prod.fst (Prod.snd y0)) (Prod.snd (Prod.snd y0)))))
       (
        again (.l1004 (Prod.fst y0) (Prod.fst (Prod.snd y0)) (Prod.snd (Prod.snd y0)))))
  | some (.l1004 v1004_1 v1004_2 v1004_3) =>
    cond (Ops.lt B v1004_1 (3))
     (
      ob (c34 (IntKind.wrap IntKind.i64 (p0 + 1)) v1004_2 v1004_3) fun y0 =>
      cond (Ops.lim B (3 + List.length (Prod.fst y0)) (1))
       (
        cond (Ops.lim B (List.length (([71, 32, 40] : List UInt8) ++ Prod.fst y0) + 1) (1))
         (
          k ((([71, 32, 40] : List UInt8) ++ Prod.fst y0 ++ ([41] : List UInt8), Prod.fst (Prod.snd y0), Prod.snd (Prod.snd y0))))
         (
          none))
       (
        none))
     (
      cond (Ops.lt B v1004_1 (6))
       (
        ob (c34 (IntKind.wrap IntKind.i64 (p0 + 1)) v1004_2 v1004_3) fun y0 =>
        cond (Ops.lim B (3 + List.length (Prod.fst y0)) (1))
         (
          cond (Ops.lim B (List.length (([70, 32, 40] : List UInt8) ++ Prod.fst y0) + 1) (1))
           (
            k ((([70, 32, 40] : List UInt8) ++ Prod.fst y0 ++ ([41] : List UInt8), Prod.fst (Prod.snd y0), Prod.snd (Prod.snd y0))))
           (
            none))
         (
          none))
       (
        cond (Ops.lt B v1004_1 (8))
         (
          ob (c34 (IntKind.wrap IntKind.i64 (p0 + 1)) v1004_2 v1004_3) fun y0 =>
          cond (Ops.lim B (2 + List.length (Prod.fst y0)) (1))
           (
            k ((([88, 32] : List UInt8) ++ Prod.fst y0, Prod.fst (Prod.snd y0), Prod.snd (Prod.snd y0))))
           (
            none))
         (
          cond (Ops.lt B v1004_1 (11))
           (
            ob (c34 (IntKind.wrap IntKind.i64 (p0 + 1)) v1004_2 v1004_3) fun y0 =>
            cond (Ops.lim B (1 + List.length (Prod.fst y0)) (1))
             (
              ob (c62 (2) (Prod.fst (Prod.snd y0)) (Prod.snd (Prod.snd y0))) fun y1 =>
              cond (Ops.inb B (Prod.fst y1) (2))
               (
                cond (Ops.lim B (List.length (([40] : List UInt8) ++ Prod.fst y0) + List.length (List.getD (([32, 85, 32] : List UInt8) :: ([32, 82, 32] : List UInt8) :: mt (List UInt8)) (Int.toNat (Prod.fst y1)) (mt UInt8))) (1))
                 (
                  ob (c34 (IntKind.wrap IntKind.i64 (p0 + 1)) (Prod.fst (Prod.snd y1)) (Prod.snd (Prod.snd y1))) fun y2 =>
                  cond (Ops.lim B (List.length (([40] : List UInt8) ++ Prod.fst y0 ++ List.getD (([32, 85, 32] : List UInt8) :: ([32, 82, 32] : List UInt8) :: mt (List UInt8)) (Int.toNat (Prod.fst y1)) (mt UInt8)) + List.length (Prod.fst y2)) (1))
                   (
                    cond (Ops.lim B (List.length (([40] : List UInt8) ++ Prod.fst y0 ++ List.getD (([32, 85, 32] : List UInt8) :: ([32, 82, 32] : List UInt8) :: mt (List UInt8)) (Int.toNat (Prod.fst y1)) (mt UInt8) ++ Prod.fst y2) + 1) (1))
                     (
                      k ((([40] : List UInt8) ++ Prod.fst y0 ++ List.getD (([32, 85, 32] : List UInt8) :: ([32, 82, 32] : List UInt8) :: mt (List UInt8)) (Int.toNat (Prod.fst y1)) (mt UInt8) ++ Prod.fst y2 ++ ([41] : List UInt8), Prod.fst (Prod.snd y2), Prod.snd (Prod.snd y2))))
                     (
                      none))
                   (
                    none))
                 (
                  none))
               (
                none))
             (
              none))
           (
            cond (Ops.lt B v1004_1 (15))
             (
              ob (c34 (IntKind.wrap IntKind.i64 (p0 + 1)) v1004_2 v1004_3) fun y0 =>
              cond (Ops.lim B (1 + List.length (Prod.fst y0)) (1))
               (
                ob (c62 (3) (Prod.fst (Prod.snd y0)) (Prod.snd (Prod.snd y0))) fun y1 =>
                cond (Ops.inb B (Prod.fst y1) (3))
                 (
                  cond (Ops.lim B (List.length (([40] : List UInt8) ++ Prod.fst y0) + List.length (List.getD (([32, 38, 38, 32] : List UInt8) :: ([32, 124, 124, 32] : List UInt8) :: ([32, 45, 62, 32] : List UInt8) :: mt (List UInt8)) (Int.toNat (Prod.fst y1)) (mt UInt8))) (1))
                   (
                    ob (c34 (IntKind.wrap IntKind.i64 (p0 + 1)) (Prod.fst (Prod.snd y1)) (Prod.snd (Prod.snd y1))) fun y2 =>
                    cond (Ops.lim B (List.length (([40] : List UInt8) ++ Prod.fst y0 ++ List.getD (([32, 38, 38, 32] : List UInt8) :: ([32, 124, 124, 32] : List UInt8) :: ([32, 45, 62, 32] : List UInt8) :: mt (List UInt8)) (Int.toNat (Prod.fst y1)) (mt UInt8)) + List.length (Prod.fst y2)) (1))
                     (
                      cond (Ops.lim B (List.length (([40] : List UInt8) ++ Prod.fst y0 ++ List.getD (([32, 38, 38, 32] : List UInt8) :: ([32, 124, 124, 32] : List UInt8) :: ([32, 45, 62, 32] : List UInt8) :: mt (List UInt8)) (Int.toNat (Prod.fst y1)) (mt UInt8) ++ Prod.fst y2) + 1) (1))
                       (
                        k ((([40] : List UInt8) ++ Prod.fst y0 ++ List.getD (([32, 38, 38, 32] : List UInt8) :: ([32, 124, 124, 32] : List UInt8) :: ([32, 45, 62, 32] : List UInt8) :: mt (List UInt8)) (Int.toNat (Prod.fst y1)) (mt UInt8) ++ Prod.fst y2 ++ ([41] : List UInt8), Prod.fst (Prod.snd y2), Prod.snd (Prod.snd y2))))
                       (
                        none))
                     (
                      none))
                   (
                    none))
                 (
                  none))
               (
                none))
             (
              cond (Ops.lt B v1004_1 (17))
               (
                ob (c34 (IntKind.wrap IntKind.i64 (p0 + 1)) v1004_2 v1004_3) fun y0 =>
                cond (Ops.lim B (1 + List.length (Prod.fst y0)) (1))
                 (
                  k ((([33] : List UInt8) ++ Prod.fst y0, Prod.fst (Prod.snd y0), Prod.snd (Prod.snd y0))))
                 (
                  none))
               (
                cond (Ops.eq B v1004_1 (17))
                 (
                  ob (c34 (IntKind.wrap IntKind.i64 (p0 + 1)) v1004_2 v1004_3) fun y0 =>
                  cond (Ops.lim B (4 + List.length (Prod.fst y0)) (1))
                   (
                    k ((([71, 32, 70, 32] : List UInt8) ++ Prod.fst y0, Prod.fst (Prod.snd y0), Prod.snd (Prod.snd y0))))
                   (
                    none))
                 (
                  cond (Ops.eq B v1004_1 (18))
                   (
                    ob (c62 (2) v1004_2 v1004_3) fun y0 =>
                    cond (Ops.inb B (Prod.fst y0) (2))
                     (
                      k ((List.getD (([116, 114, 117, 101] : List UInt8) :: ([102, 97, 108, 115, 101] : List UInt8) :: mt (List UInt8)) (Int.toNat (Prod.fst y0)) (mt UInt8), Prod.fst (Prod.snd y0), Prod.snd (Prod.snd y0))))
                     (
                      none))
                   (
                    ob (c62 (6) v1004_2 v1004_3) fun y0 =>
                    cond (Ops.inb B (Prod.fst y0) (6))
                     (
                      k ((List.getD (([91, 120, 61, 61, 49, 93] : List UInt8) :: ([91, 112, 64, 97, 93] : List UInt8) :: ([91, 121, 60, 49, 93] : List UInt8) :: ([91, 113, 64, 98, 38, 38, 120, 62, 48, 93] : List UInt8) :: ([91, 120, 61, 61, 121, 93] : List UInt8) :: ([91, 112, 64, 98, 93] : List UInt8) :: mt (List UInt8)) (Int.toNat (Prod.fst y0)) (mt UInt8), Prod.fst (Prod.snd y0), Prod.snd (Prod.snd y0))))
                     (
                      none)))))))))
def E34 (p0 : Int) (p1 : List ty3.den) (p2 : Int) : S34 → List AV × Objs
  | .l1004 v1004_1 v1004_2 v1004_3 => (mk 111 [(0, .c (.ptr 0 0)), (1, .c (.int .i64 p0)), (5, .c (.int .i64 v1004_1))], [(0, .box 63 [.list 3 ty3 v1004_2, .int .i64 v1004_3])])
def I34 : S34 → Nat
  | .l1004 _ _ _ => 1004
theorem eq34 {R : Type} (B : Ops) (c62 : Int → List ty3.den → Int → Option (Int × (List ty3.den) × Int)) (c34 : Int → List ty3.den → Int → Option ((List UInt8) × (List ty3.den) × Int)) (p0 : Int) (p1 : List ty3.den) (p2 : Int) (k : AV → Objs → Option R) (n : Nat) : afun tau B gl0 X34 (ent 62 (e62 c62) (ent 34 (e34 c34) (gnil))) ow Try.f34 [.c (.ptr 0 0), .c (.int .i64 p0)] [(0, .box 63 [.list 3 ty3 p1, .int .i64 p2])] k n = T34 B c62 c34 p0 p1 p2 (fun s => aloop tau B gl0 X34 (ent 62 (e62 c62) (ent 34 (e34 c34) (gnil))) ow [0] Try.f34 k (I34 s) (E34 p0 p1 p2 s) n) (fun y => k (.c (.str y.1)) [(0, .box 63 [.list 3 ty3 y.2.1, .int .i64 y.2.2])]) none := by kernel_rfl
theorem el34 {R : Type} (B : Ops) (c62 : Int → List ty3.den → Int → Option (Int × (List ty3.den) × Int)) (c34 : Int → List ty3.den → Int → Option ((List UInt8) × (List ty3.den) × Int)) (p0 : Int) (p1 : List ty3.den) (p2 : Int) (k : AV → Objs → Option R) (n : Nat) : ∀ s, aloop tau B gl0 X34 (ent 62 (e62 c62) (ent 34 (e34 c34) (gnil))) ow [0] Try.f34 k (I34 s) (E34 p0 p1 p2 s) (n + 1) = T34 B c62 c34 p0 p1 p2 (fun s => aloop tau B gl0 X34 (ent 62 (e62 c62) (ent 34 (e34 c34) (gnil))) ow [0] Try.f34 k (I34 s) (E34 p0 p1 p2 s) n) (fun y => k (.c (.str y.1)) [(0, .box 63 [.list 3 ty3 y.2.1, .int .i64 y.2.2])]) (some s)
  | .l1004 v1004_1 v1004_2 v1004_3 => by kernel_rfl
theorem nt34 {R R' : Type} (B : Ops) (c62 : Int → List ty3.den → Int → Option (Int × (List ty3.den) × Int)) (c34 : Int → List ty3.den → Int → Option ((List UInt8) × (List ty3.den) × Int)) (p0 : Int) (p1 : List ty3.den) (p2 : Int) (again : S34 → Option R) (again' : S34 → Option R') (k0 : ((List UInt8) × (List ty3.den) × Int) → Option R') (k : R' → Option R) (h : ∀ s, again s = ob (again' s) k) : ∀ s, T34 B c62 c34 p0 p1 p2 again (fun y => ob (k0 y) k) s = ob (T34 B c62 c34 p0 p1 p2 again' k0 s) k
  | none => by unfold T34; repeat' first | exact rfl | exact h _ | apply nat_cond | (apply nat_ob; intro)
  | some (.l1004 v1004_1 v1004_2 v1004_3) => by unfold T34; repeat' first | exact rfl | exact h _ | apply nat_cond | (apply nat_ob; intro)
def R34 (c62 : Int → List ty3.den → Int → Option (Int × (List ty3.den) × Int)) (c34 : Int → List ty3.den → Int → Option ((List UInt8) × (List ty3.den) × Int)) (p0 : Int) (p1 : List ty3.den) (p2 : Int) : Nat → S34 → Option ((List UInt8) × (List ty3.den) × Int)
  | 0, _ => none
  | n + 1, s => T34 Ops.std c62 c34 p0 p1 p2 (R34 c62 c34 p0 p1 p2 n) some (some s)
theorem rr34 {R : Type} (c62 : Int → List ty3.den → Int → Option (Int × (List ty3.den) × Int)) (c34 : Int → List ty3.den → Int → Option ((List UInt8) × (List ty3.den) × Int)) (p0 : Int) (p1 : List ty3.den) (p2 : Int) (k : AV → Objs → Option R) : ∀ (n : Nat) (s : S34), aloop tau Ops.std gl0 X34 (ent 62 (e62 c62) (ent 34 (e34 c34) (gnil))) ow [0] Try.f34 k (I34 s) (E34 p0 p1 p2 s) n = ob (R34 c62 c34 p0 p1 p2 n s) (fun y => k (.c (.str y.1)) [(0, .box 63 [.list 3 ty3 y.2.1, .int .i64 y.2.2])])
  | 0, s => by cases s <;> rfl
  | n + 1, s => by rw [el34]; exact nt34 Ops.std c62 c34 p0 p1 p2 _ _ some (fun y => k (.c (.str y.1)) [(0, .box 63 [.list 3 ty3 y.2.1, .int .i64 y.2.2])]) (rr34 c62 c34 p0 p1 p2 k n) (some s)
def F34 (c62 : Int → List ty3.den → Int → Option (Int × (List ty3.den) × Int)) (c34 : Int → List ty3.den → Int → Option ((List UInt8) × (List ty3.den) × Int)) (p0 : Int) (p1 : List ty3.den) (p2 : Int) : Option ((List UInt8) × (List ty3.den) × Int) := T34 Ops.std c62 c34 p0 p1 p2 (R34 c62 c34 p0 p1 p2 1000000) some none
theorem fo34 {R : Type} (c62 : Int → List ty3.den → Int → Option (Int × (List ty3.den) × Int)) (c34 : Int → List ty3.den → Int → Option ((List UInt8) × (List ty3.den) × Int)) (p0 : Int) (p1 : List ty3.den) (p2 : Int) (k : AV → Objs → Option R) : afun tau Ops.std gl0 X34 (ent 62 (e62 c62) (ent 34 (e34 c34) (gnil))) ow Try.f34 [.c (.ptr 0 0), .c (.int .i64 p0)] [(0, .box 63 [.list 3 ty3 p1, .int .i64 p2])] k 1000000 = ob (F34 c62 c34 p0 p1 p2) (fun y => k (.c (.str y.1)) [(0, .box 63 [.list 3 ty3 y.2.1, .int .i64 y.2.2])]) := by rw [eq34]; exact nt34 Ops.std c62 c34 p0 p1 p2 _ _ some (fun y => k (.c (.str y.1)) [(0, .box 63 [.list 3 ty3 y.2.1, .int .i64 y.2.2])]) (rr34 c62 c34 p0 p1 p2 k 1000000) none
theorem sf34 {c62 : Int → List ty3.den → Int → Option (Int × (List ty3.den) × Int)} {c34 : Int → List ty3.den → Int → Option ((List UInt8) × (List ty3.den) × Int)} (h62 : Sp62 c62) (h34 : Sp34 c34) : Sp34 (F34 c62 c34) := fun p0 p1 p2 y hy => by
  refine spec_of (G := ent 62 (e62 c62) (ent 34 (e34 c34) (gnil))) (ent_ok (ek62 h62) (ent_ok (ek34 h34) (gnil_ok))) 1000000 (fn := Try.f34) (by kernel_rfl) (by kernel_rfl) (X := X34) (by kernel_rfl) ?_
  rw [fo34, hy]
  rfl
noncomputable def Rec34 : Nat → (Int → List ty3.den → Int → Option ((List UInt8) × (List ty3.den) × Int))
  | 0 => fun _ _ _ => none
  | d + 1 => F34 M62 (Rec34 d)
theorem rec34 : ∀ d, Sp34 (Rec34 d)
  | 0 => fun p0 p1 p2 y (h : (none : Option ((List UInt8) × (List ty3.den) × Int)) = some y) => by cases h
  | d + 1 => sf34 sm62 (rec34 d)
noncomputable def M34 : Int → List ty3.den → Int → Option ((List UInt8) × (List ty3.den) × Int) := (Rec34 1000000)
theorem sm34 : Sp34 M34 := (rec34 1000000)

/-! ### 11: lariat/lariathand.Formula -/
def X11 : Aux := ⟨[], []⟩
def T11 {R : Type} (B : Ops) (c34 : Int → List ty3.den → Int → Option ((List UInt8) × (List ty3.den) × Int)) (p0 : List ty3.den) (k : ((List UInt8)) → Option R) : Option R :=
  ob (c34 (0) p0 (0)) fun y0 =>
  k (Prod.fst y0)
theorem eq11 {R : Type} (B : Ops) (c34 : Int → List ty3.den → Int → Option ((List UInt8) × (List ty3.den) × Int)) (p0 : List ty3.den) (k : AV → Objs → Option R) (n : Nat) : afun tau B gl0 X11 (ent 34 (e34 c34) (gnil)) ow Try.f11 [.c (.list 3 ty3 p0)] [] k n = T11 B c34 p0 (fun y => k (.c (.str y)) []) := by kernel_rfl
theorem nt11 {R R' : Type} (B : Ops) (c34 : Int → List ty3.den → Int → Option ((List UInt8) × (List ty3.den) × Int)) (p0 : List ty3.den) (k0 : ((List UInt8)) → Option R') (k : R' → Option R) : T11 B c34 p0 (fun y => ob (k0 y) k) = ob (T11 B c34 p0 k0) k := by
  unfold T11
  repeat' first | exact rfl | apply nat_cond | (apply nat_ob; intro)
def F11 (c34 : Int → List ty3.den → Int → Option ((List UInt8) × (List ty3.den) × Int)) (p0 : List ty3.den) : Option ((List UInt8)) := T11 Ops.std c34 p0 some
theorem fo11 {R : Type} (c34 : Int → List ty3.den → Int → Option ((List UInt8) × (List ty3.den) × Int)) (p0 : List ty3.den) (k : AV → Objs → Option R) (n : Nat) : afun tau Ops.std gl0 X11 (ent 34 (e34 c34) (gnil)) ow Try.f11 [.c (.list 3 ty3 p0)] [] k n = ob (F11 c34 p0) (fun y => k (.c (.str y)) []) := by rw [eq11]; exact nt11 Ops.std c34 p0 some (fun y => k (.c (.str y)) [])
def e11 {R : Type} (c : List ty3.den → Option ((List UInt8))) : Ent R := fun args objs k =>
  oCons args fun a0 l0 => oC a0 fun x0 => cList 3 ty3 x0 fun p0 => oNil l0 <| oNilO objs <| ob (c p0) fun y => k (.c (.str y)) []
abbrev Sp11 (c : List ty3.den → Option ((List UInt8))) : Prop := ∀ (p0 : List ty3.den) (y : (List UInt8)), c p0 = some y → Spec Try.prog gl0 11 [.c (.list 3 ty3 p0)] [] (.c (.str y)) []
theorem ek11 {R : Type} {c : List ty3.den → Option ((List UInt8))} (hs : Sp11 c) : EOk 11 (e11 (R := R) c) := fun args objs k r h => by
  unfold e11 at h
  obtain ⟨a0, l0, rfl, q1⟩ := oCons_some h
  obtain ⟨x0, rfl, q2⟩ := oC_some q1
  obtain ⟨p0, rfl, q3⟩ := cList_some q2
  obtain ⟨rfl, q4⟩ := oNil_some q3
  obtain ⟨rfl, q5⟩ := oNilO_some q4
  exact eok_of (hs p0) q5
theorem sf11 {c34 : Int → List ty3.den → Int → Option ((List UInt8) × (List ty3.den) × Int)} (h34 : Sp34 c34) : Sp11 (F11 c34) := fun p0 y hy => by
  refine spec_of (G := ent 34 (e34 c34) (gnil)) (ent_ok (ek34 h34) (gnil_ok)) 1000000 (fn := Try.f11) (by kernel_rfl) (by kernel_rfl) (X := X11) (by kernel_rfl) ?_
  rw [fo11, hy]
  rfl
noncomputable def M11 : List ty3.den → Option ((List UInt8)) := F11 M34
theorem sm11 : Sp11 M11 := sf11 sm34

/-! ### 16: lariat/lariatref13.Kids -/
def X16 : Aux := ⟨[(6, [1, 2, 6, 7, 8, 9, 10, 11, 12, 13, 14, 15, 16, 17, 18, 19, 20, 21, 22, 23, 24, 25, 26, 27, 28, 29, 30, 31, 32, 33, 34, 35, 36, 37, 38, 39, 40, 41, 42])], []⟩
inductive S16 where
  | l0 (v0_1 : Int) (v0_2 : List ty27.den) (v0_3 : List ty3.den)
def T16 {R : Type} (B : Ops) (c38 : List ty36.den → Option (Bool)) (c39 : Int → Option (Int)) (p0 : List ty36.den) (again : S16 → Option R) (k : ((List ty27.den)) → Option R) : Option S16 → Option R
  | none =>
    ob (c38 p0) fun y0 =>
    cond (!y0)
     (
      k (mt (Ty.den (Ty.list (3) (Ty.int IntKind.i64)))))
     (
      again (.l0 0 (mt (Ty.den (Ty.list (3) (Ty.int IntKind.i64)))) (mt (Ty.den (Ty.int IntKind.i64)))))
  | some (.l0 v0_1 v0_2 v0_3) =>
    cond (Ops.lt B v0_1 (Nat.cast (List.length p0)))
     (
      cond (Ops.inb B v0_1 (List.length p0))
       (
        ob (c39 (Prod.fst (List.getD p0 (Int.toNat v0_1) (Ty.dflt ty36)))) fun y0 =>
        cond (Ops.lt B (IntKind.wrap IntKind.i64 (Nat.cast (List.length v0_3) - y0)) (0))
         (
          k (mt (Ty.den (Ty.list (3) (Ty.int IntKind.i64)))))
         (
          cond (Ops.inb B (IntKind.wrap IntKind.i64 (Nat.cast (List.length v0_3) - y0)) (List.length v0_3 + 1))
           (
            cond (Ops.lim B (List.length (mt (Ty.den (Ty.int IntKind.i64))) + List.length (List.drop (Int.toNat (IntKind.wrap IntKind.i64 (Nat.cast (List.length v0_3) - y0))) (List.take (List.length v0_3) v0_3))) (8))
             (
              cond (Ops.lim B (List.length v0_2 + List.length ((mt (Ty.den (Ty.int IntKind.i64)) ++ List.drop (Int.toNat (IntKind.wrap IntKind.i64 (Nat.cast (List.length v0_3) - y0))) (List.take (List.length v0_3) v0_3)) :: mt (Ty.den (Ty.list (3) (Ty.int IntKind.i64))))) (24))
               (
                cond (Ops.eq B (IntKind.wrap IntKind.i64 (Nat.cast (List.length v0_3) - y0)) (IntKind.wrap IntKind.i64 (Nat.cast (List.length v0_3) - y0)))
                 (
                  cond (Ops.inb B (IntKind.wrap IntKind.i64 (Nat.cast (List.length v0_3) - y0)) (List.length v0_3 + 1))
                   (
                    cond (Ops.lt B (0) (Nat.cast (List.length (v0_1 :: mt (Ty.den (Ty.int IntKind.i64))))))
                     (
                      cond (Ops.lim B (List.length (List.take (Int.toNat (IntKind.wrap IntKind.i64 (Nat.cast (List.length v0_3) - y0))) v0_3) + List.length (v0_1 :: mt (Ty.den (Ty.int IntKind.i64)))) (8))
                       (
                        again (.l0 (IntKind.wrap IntKind.i64 (v0_1 + 1)) (v0_2 ++ (mt (Ty.den (Ty.int IntKind.i64)) ++ List.drop (Int.toNat (IntKind.wrap IntKind.i64 (Nat.cast (List.length v0_3) - y0))) (List.take (List.length v0_3) v0_3)) :: mt (Ty.den (Ty.list (3) (Ty.int IntKind.i64)))) (List.take (Int.toNat (IntKind.wrap IntKind.i64 (Nat.cast (List.length v0_3) - y0))) v0_3 ++ v0_1 :: mt (Ty.den (Ty.int IntKind.i64)))))
                       (
                        none))
                     (
                      none))
                   (
                    none))
                 (
                  none))
               (
                none))
             (
              none))
           (
            none)))
       (
        none))
     (
      k v0_2)
def E16 (p0 : List ty36.den) : S16 → List AV × Objs
  | .l0 v0_1 v0_2 v0_3 => (mk 43 [(0, .c (.list 36 ty36 p0)), (3, .c (.own 3)), (4, .c (.own 4)), (5, .c (.int .i64 v0_1))], [(3, .row 27 ty27 v0_2), (4, .row 3 ty3 v0_3)])
def I16 : S16 → Nat
  | .l0 _ _ _ => 0
theorem eq16 {R : Type} (B : Ops) (c38 : List ty36.den → Option (Bool)) (c39 : Int → Option (Int)) (p0 : List ty36.den) (k : AV → Objs → Option R) (n : Nat) : afun tau B gl0 X16 (ent 38 (e38 c38) (ent 39 (e39 c39) (gnil))) ow Try.f16 [.c (.list 36 ty36 p0)] [] k n = T16 B c38 c39 p0 (fun s => aloop tau B gl0 X16 (ent 38 (e38 c38) (ent 39 (e39 c39) (gnil))) ow [] Try.f16 k (I16 s) (E16 p0 s) n) (fun y => k (.c (.own 500)) [(500, .row 27 ty27 y)]) none := by kernel_rfl
theorem el16 {R : Type} (B : Ops) (c38 : List ty36.den → Option (Bool)) (c39 : Int → Option (Int)) (p0 : List ty36.den) (k : AV → Objs → Option R) (n : Nat) : ∀ s, aloop tau B gl0 X16 (ent 38 (e38 c38) (ent 39 (e39 c39) (gnil))) ow [] Try.f16 k (I16 s) (E16 p0 s) (n + 1) = T16 B c38 c39 p0 (fun s => aloop tau B gl0 X16 (ent 38 (e38 c38) (ent 39 (e39 c39) (gnil))) ow [] Try.f16 k (I16 s) (E16 p0 s) n) (fun y => k (.c (.own 500)) [(500, .row 27 ty27 y)]) (some s)
  | .l0 v0_1 v0_2 v0_3 => by kernel_rfl
theorem nt16 {R R' : Type} (B : Ops) (c38 : List ty36.den → Option (Bool)) (c39 : Int → Option (Int)) (p0 : List ty36.den) (again : S16 → Option R) (again' : S16 → Option R') (k0 : ((List ty27.den)) → Option R') (k : R' → Option R) (h : ∀ s, again s = ob (again' s) k) : ∀ s, T16 B c38 c39 p0 again (fun y => ob (k0 y) k) s = ob (T16 B c38 c39 p0 again' k0 s) k
  | none => by unfold T16; repeat' first | exact rfl | exact h _ | apply nat_cond | (apply nat_ob; intro)
  | some (.l0 v0_1 v0_2 v0_3) => by unfold T16; repeat' first | exact rfl | exact h _ | apply nat_cond | (apply nat_ob; intro)
def R16 (c38 : List ty36.den → Option (Bool)) (c39 : Int → Option (Int)) (p0 : List ty36.den) : Nat → S16 → Option ((List ty27.den))
  | 0, _ => none
  | n + 1, s => T16 Ops.std c38 c39 p0 (R16 c38 c39 p0 n) some (some s)
theorem rr16 {R : Type} (c38 : List ty36.den → Option (Bool)) (c39 : Int → Option (Int)) (p0 : List ty36.den) (k : AV → Objs → Option R) : ∀ (n : Nat) (s : S16), aloop tau Ops.std gl0 X16 (ent 38 (e38 c38) (ent 39 (e39 c39) (gnil))) ow [] Try.f16 k (I16 s) (E16 p0 s) n = ob (R16 c38 c39 p0 n s) (fun y => k (.c (.own 500)) [(500, .row 27 ty27 y)])
  | 0, s => by cases s <;> rfl
  | n + 1, s => by rw [el16]; exact nt16 Ops.std c38 c39 p0 _ _ some (fun y => k (.c (.own 500)) [(500, .row 27 ty27 y)]) (rr16 c38 c39 p0 k n) (some s)
def F16 (c38 : List ty36.den → Option (Bool)) (c39 : Int → Option (Int)) (p0 : List ty36.den) : Option ((List ty27.den)) := T16 Ops.std c38 c39 p0 (R16 c38 c39 p0 1000000) some none
theorem fo16 {R : Type} (c38 : List ty36.den → Option (Bool)) (c39 : Int → Option (Int)) (p0 : List ty36.den) (k : AV → Objs → Option R) : afun tau Ops.std gl0 X16 (ent 38 (e38 c38) (ent 39 (e39 c39) (gnil))) ow Try.f16 [.c (.list 36 ty36 p0)] [] k 1000000 = ob (F16 c38 c39 p0) (fun y => k (.c (.own 500)) [(500, .row 27 ty27 y)]) := by rw [eq16]; exact nt16 Ops.std c38 c39 p0 _ _ some (fun y => k (.c (.own 500)) [(500, .row 27 ty27 y)]) (rr16 c38 c39 p0 k 1000000) none
def e16 {R : Type} (c : List ty36.den → Option ((List ty27.den))) : Ent R := fun args objs k =>
  oCons args fun a0 l0 => oC a0 fun x0 => cList 36 ty36 x0 fun p0 => oNil l0 <| oNilO objs <| ob (c p0) fun y => k (.c (.own 500)) [(500, .row 27 ty27 y)]
abbrev Sp16 (c : List ty36.den → Option ((List ty27.den))) : Prop := ∀ (p0 : List ty36.den) (y : (List ty27.den)), c p0 = some y → Spec Try.prog gl0 16 [.c (.list 36 ty36 p0)] [] (.c (.own 500)) [(500, .row 27 ty27 y)]
theorem ek16 {R : Type} {c : List ty36.den → Option ((List ty27.den))} (hs : Sp16 c) : EOk 16 (e16 (R := R) c) := fun args objs k r h => by
  unfold e16 at h
  obtain ⟨a0, l0, rfl, q1⟩ := oCons_some h
  obtain ⟨x0, rfl, q2⟩ := oC_some q1
  obtain ⟨p0, rfl, q3⟩ := cList_some q2
  obtain ⟨rfl, q4⟩ := oNil_some q3
  obtain ⟨rfl, q5⟩ := oNilO_some q4
  exact eok_of (hs p0) q5
theorem sf16 {c38 : List ty36.den → Option (Bool)} {c39 : Int → Option (Int)} (h38 : Sp38 c38) (h39 : Sp39 c39) : Sp16 (F16 c38 c39) := fun p0 y hy => by
  refine spec_of (G := ent 38 (e38 c38) (ent 39 (e39 c39) (gnil))) (ent_ok (ek38 h38) (ent_ok (ek39 h39) (gnil_ok))) 1000000 (fn := Try.f16) (by kernel_rfl) (by kernel_rfl) (X := X16) (by kernel_rfl) ?_
  rw [fo16, hy]
  rfl
noncomputable def M16 : List ty36.den → Option ((List ty27.den)) := F16 M38 M39
theorem sm16 : Sp16 M16 := sf16 sm38 sm39

/-! ### 100: lariat/lariatref13.other -/
def X100 : Aux := ⟨[], []⟩
def T100 {R : Type} (B : Ops) (p0 : Int) (k : (Int) → Option R) : Option R :=
  cond (Ops.eq B p0 (5))
   (
    k 6)
   (
    cond (Ops.eq B p0 (6))
     (
      k 5)
     (
      cond (Ops.eq B p0 (9))
       (
        k 10)
       (
        k 9)))
theorem eq100 {R : Type} (B : Ops) (p0 : Int) (k : AV → Objs → Option R) (n : Nat) : afun tau B gl0 X100 (gnil) ow Try.f100 [.c (.int .i64 p0)] [] k n = T100 B p0 (fun y => k (.c (.int .i64 y)) []) := by kernel_rfl
theorem nt100 {R R' : Type} (B : Ops) (p0 : Int) (k0 : (Int) → Option R') (k : R' → Option R) : T100 B p0 (fun y => ob (k0 y) k) = ob (T100 B p0 k0) k := by
  unfold T100
  repeat' first | exact rfl | apply nat_cond | (apply nat_ob; intro)
def F100 (p0 : Int) : Option (Int) := T100 Ops.std p0 some
theorem fo100 {R : Type} (p0 : Int) (k : AV → Objs → Option R) (n : Nat) : afun tau Ops.std gl0 X100 (gnil) ow Try.f100 [.c (.int .i64 p0)] [] k n = ob (F100 p0) (fun y => k (.c (.int .i64 y)) []) := by rw [eq100]; exact nt100 Ops.std p0 some (fun y => k (.c (.int .i64 y)) [])
def e100 {R : Type} (c : Int → Option (Int)) : Ent R := fun args objs k =>
  oCons args fun a0 l0 => oC a0 fun x0 => cInt .i64 x0 fun p0 => oNil l0 <| oNilO objs <| ob (c p0) fun y => k (.c (.int .i64 y)) []
abbrev Sp100 (c : Int → Option (Int)) : Prop := ∀ (p0 : Int) (y : Int), c p0 = some y → Spec Try.prog gl0 100 [.c (.int .i64 p0)] [] (.c (.int .i64 y)) []
theorem ek100 {R : Type} {c : Int → Option (Int)} (hs : Sp100 c) : EOk 100 (e100 (R := R) c) := fun args objs k r h => by
  unfold e100 at h
  obtain ⟨a0, l0, rfl, q1⟩ := oCons_some h
  obtain ⟨x0, rfl, q2⟩ := oC_some q1
  obtain ⟨p0, rfl, q3⟩ := cInt_some q2
  obtain ⟨rfl, q4⟩ := oNil_some q3
  obtain ⟨rfl, q5⟩ := oNilO_some q4
  exact eok_of (hs p0) q5
theorem sf100 : Sp100 (F100) := fun p0 y hy => by
  refine spec_of (G := gnil) (gnil_ok) 1000000 (fn := Try.f100) (by kernel_rfl) (by kernel_rfl) (X := X100) (by kernel_rfl) ?_
  rw [fo100, hy]
  rfl
noncomputable def M100 : Int → Option (Int) := F100
theorem sm100 : Sp100 M100 := sf100
def e63 {R : Type} (c : List ty36.den → List ty27.den → Int → Bool → List ty36.den → Option ((List ty36.den))) : Ent R := fun args objs k =>
  oCons args fun a0 l0 => oC a0 fun x0 => cList 36 ty36 x0 fun p0 => oCons l0 fun a1 l1 => oC a1 fun x1 => cList 27 ty27 x1 fun p1 => oCons l1 fun a2 l2 => oC a2 fun x2 => cInt .i64 x2 fun p2 => oCons l2 fun a3 l3 => oC a3 fun x3 => cBool x3 fun p3 => oCons l3 fun a4 l4 => oC a4 fun x4 => cOwn 4 x4 <| oNil l4 <| oRow 4 36 ty36 objs fun p4 o0 => oNilO o0 <| ob (c p0 p1 p2 p3 p4) fun y => k (.c (.own 500)) [(500, .row 36 ty36 y)]
abbrev Sp63 (c : List ty36.den → List ty27.den → Int → Bool → List ty36.den → Option ((List ty36.den))) : Prop := ∀ (p0 : List ty36.den) (p1 : List ty27.den) (p2 : Int) (p3 : Bool) (p4 : List ty36.den) (y : (List ty36.den)), c p0 p1 p2 p3 p4 = some y → Spec Try.prog gl0 63 [.c (.list 36 ty36 p0), .c (.list 27 ty27 p1), .c (.int .i64 p2), .c (.bool p3), .c (.own 4)] [(4, .row 36 ty36 p4)] (.c (.own 500)) [(500, .row 36 ty36 y)]
theorem ek63 {R : Type} {c : List ty36.den → List ty27.den → Int → Bool → List ty36.den → Option ((List ty36.den))} (hs : Sp63 c) : EOk 63 (e63 (R := R) c) := fun args objs k r h => by
  unfold e63 at h
  obtain ⟨a0, l0, rfl, q1⟩ := oCons_some h
  obtain ⟨x0, rfl, q2⟩ := oC_some q1
  obtain ⟨p0, rfl, q3⟩ := cList_some q2
  obtain ⟨a1, l1, rfl, q4⟩ := oCons_some q3
  obtain ⟨x1, rfl, q5⟩ := oC_some q4
  obtain ⟨p1, rfl, q6⟩ := cList_some q5
  obtain ⟨a2, l2, rfl, q7⟩ := oCons_some q6
  obtain ⟨x2, rfl, q8⟩ := oC_some q7
  obtain ⟨p2, rfl, q9⟩ := cInt_some q8
  obtain ⟨a3, l3, rfl, q10⟩ := oCons_some q9
  obtain ⟨x3, rfl, q11⟩ := oC_some q10
  obtain ⟨p3, rfl, q12⟩ := cBool_some q11
  obtain ⟨a4, l4, rfl, q13⟩ := oCons_some q12
  obtain ⟨x4, rfl, q14⟩ := oC_some q13
  obtain ⟨rfl, q15⟩ := cOwn_some q14
  obtain ⟨rfl, q16⟩ := oNil_some q15
  obtain ⟨p4, o0, rfl, q17⟩ := oRow_some q16
  obtain ⟨rfl, q18⟩ := oNilO_some q17
  exact eok_of (hs p0 p1 p2 p3 p4) q18

/-! ### 63: lariat/lariatref13.push -/
def X63 : Aux := ⟨[(1000010, [0, 1, 2, 3, 5, 6, 7, 8, 9, 10, 12, 13, 14, 15, 16, 17, 18, 19, 20, 21, 22, 23, 24, 25, 26, 27, 28, 29, 30, 31, 32, 33, 34, 35, 36, 37, 38, 39, 40, 41, 42, 43, 44, 45, 46, 47, 48, 49, 50, 51, 52, 53, 54, 55, 56, 57, 58, 59, 60, 61, 62, 63, 64, 65, 66, 67, 68, 69, 70, 71, 72, 73, 74, 75, 76, 77, 78, 79, 80, 81, 82, 83, 84, 85, 86, 87, 88, 89, 90, 91, 92, 93, 94, 95, 96, 97, 98, 99, 100, 101, 102, 103, 104, 105, 106, 107, 108, 109, 110, 111, 112, 113, 114, 115, 116, 117, 118, 119, 120, 121, 122, 123, 124, 125, 126, 127, 128, 129, 130, 131, 132, 133, 134, 135, 136, 137, 138, 139, 140, 141, 142, 143, 144, 145, 146, 147, 148, 149, 150, 151, 152, 153, 154, 155, 156]), (1000015, [0, 1, 2, 3, 5, 6, 7, 8, 9, 10, 11, 12, 13, 14, 15, 16, 17, 18, 19, 20, 21, 22, 23, 24, 25, 26, 27, 28, 29, 30, 31, 32, 33, 34, 35, 36, 37, 38, 39, 40, 41, 42, 43, 44, 45, 46, 47, 48, 49, 50, 51, 52, 53, 54, 55, 56, 57, 58, 59, 60, 61, 62, 63, 64, 65, 66, 67, 68, 69, 70, 71, 72, 73, 74, 75, 76, 77, 78, 79, 80, 81, 82, 83, 84, 85, 86, 87, 88, 89, 90, 91, 92, 93, 94, 95, 96, 97, 98, 99, 100, 101, 102, 103, 104, 105, 106, 107, 108, 109, 110, 111, 112, 113, 114, 115, 116, 117, 118, 119, 120, 121, 122, 123, 124, 125, 126, 127, 128, 129, 130, 131, 132, 133, 134, 135, 136, 137, 138, 139, 140, 141, 142, 143, 144, 145, 146, 147, 148, 149, 150, 151, 152, 153, 154, 155, 156]), (1000026, [2, 5, 6, 7, 8, 9, 10, 14, 15, 16, 17, 18, 19, 20, 21, 22, 23, 24, 25, 26, 27, 28, 29, 30, 31, 32, 33, 34, 35, 36, 37, 38, 39, 40, 41, 42, 43, 44, 45, 46, 47, 48, 49, 50, 51, 52, 53, 54, 55, 56, 57, 58, 59, 60, 61, 62, 63, 64, 65, 66, 67, 68, 69, 70, 71, 72, 73, 74, 75, 76, 77, 78, 79, 80, 81, 82, 83, 84, 85, 86, 87, 88, 89, 90, 91, 92, 93, 94, 95, 96, 97, 98, 99, 100, 101, 102, 103, 104, 105, 106, 107, 108, 109, 110, 111, 112, 113, 114, 115, 116, 117, 118, 119, 120, 121, 122, 123, 124, 125, 126, 127, 128, 129, 130, 131, 132, 133, 134, 135, 136, 137, 138, 139, 140, 141, 142, 143, 144, 145, 146, 147, 148, 149, 150, 151, 152, 153, 154, 155, 156]), (1000033, [2, 5, 6, 7, 8, 9, 10, 13, 15, 16, 17, 18, 19, 20, 21, 22, 23, 24, 25, 26, 27, 28, 29, 30, 31, 32, 33, 34, 35, 36, 37, 38, 39, 40, 41, 42, 43, 44, 45, 46, 47, 48, 49, 50, 51, 52, 53, 54, 55, 56, 57, 58, 59, 60, 61, 62, 63, 64, 65, 66, 67, 68, 69, 70, 71, 72, 73, 74, 75, 76, 77, 78, 79, 80, 81, 82, 83, 84, 85, 86, 87, 88, 89, 90, 91, 92, 93, 94, 95, 96, 97, 98, 99, 100, 101, 102, 103, 104, 105, 106, 107, 108, 109, 110, 111, 112, 113, 114, 115, 116, 117, 118, 119, 120, 121, 122, 123, 124, 125, 126, 127, 128, 129, 130, 131, 132, 133, 134, 135, 136, 137, 138, 139, 140, 141, 142, 143, 144, 145, 146, 147, 148, 149, 150, 151, 152, 153, 154, 155, 156]), (1000038, [0, 1, 2, 5, 6, 7, 8, 9, 10, 12, 13, 14, 15, 16, 17, 18, 19, 20, 21, 22, 23, 24, 25, 26, 27, 28, 29, 30, 31, 32, 33, 34, 35, 36, 37, 38, 39, 40, 41, 42, 43, 44, 45, 46, 47, 48, 49, 50, 51, 52, 53, 54, 55, 56, 57, 58, 59, 60, 61, 62, 63, 64, 65, 66, 67, 68, 69, 70, 71, 72, 73, 74, 75, 76, 77, 78, 79, 80, 81, 82, 83, 84, 85, 86, 87, 88, 89, 90, 91, 92, 93, 94, 95, 96, 97, 98, 99, 100, 101, 102, 103, 104, 105, 106, 107, 108, 109, 110, 111, 112, 113, 114, 115, 116, 117, 118, 119, 120, 121, 122, 123, 124, 125, 126, 127, 128, 129, 130, 131, 132, 133, 134, 135, 136, 137, 138, 139, 140, 141, 142, 143, 144, 145, 146, 147, 148, 149, 150, 151, 152, 153, 154, 155, 156])], [(26, .seq [0, 1, 2, 3, 4, 5, 6, 7, 8, 12, 13] (.alt (.seq [9] (.alt (.seq [10] (.alt (.lin [11, 14, 15, 16]) (.lin [14, 11, 15, 16]))) (.lin [14, 10, 11, 15, 16]))) (.lin [14, 9, 10, 11, 15, 16]))), (33, .seq [0, 1, 2, 3, 4, 5, 6, 7, 8, 12, 13] (.alt (.seq [9] (.alt (.seq [10] (.alt (.lin [11, 14, 15, 16]) (.lin [14, 11, 15, 16]))) (.lin [14, 10, 11, 15, 16]))) (.lin [14, 9, 10, 11, 15, 16])))]⟩
inductive S63 where
  | l1010 (v1010_0 : Int)
  | l1015 (v1015_0 : List ty36.den)
  | l1026 (v1026_3 : Int) (v1026_4 : List ty3.den) (v1026_5 : Int)
  | l1033 (v1033_3 : Int) (v1033_4 : List ty3.den) (v1033_5 : Int)
  | l1038 (v1038_1 : Int) (v1038_2 : List ty36.den)
def T63 {R : Type} (B : Ops) (c63 : List ty36.den → List ty27.den → Int → Bool → List ty36.den → Option ((List ty36.den))) (c100 : Int → Option (Int)) (p0 : List ty36.den) (p1 : List ty27.den) (p2 : Int) (p3 : Bool) (p4 : List ty36.den) (again : S63 → Option R) (k : ((List ty36.den)) → Option R) : Option S63 → Option R
  | none =>
    cond (Ops.inb B p2 (List.length p0))
     (
      cond (Ops.inb B p2 (List.length p1))
       (
        cond (Ops.eq B (Prod.fst (List.getD p0 (Int.toNat p2) (Ty.dflt ty36))) (1))
         (
          cond (p3)
           (
            again (.l1010 (IntKind.wrap IntKind.i64 (3 - Prod.fst (List.getD p0 (Int.toNat p2) (Ty.dflt ty36))))))
           (
            again (.l1010 (Prod.fst (List.getD p0 (Int.toNat p2) (Ty.dflt ty36))))))
         (
          cond (Ops.eq B (Prod.fst (List.getD p0 (Int.toNat p2) (Ty.dflt ty36))) (2))
           (
            cond (p3)
             (
              again (.l1010 (IntKind.wrap IntKind.i64 (3 - Prod.fst (List.getD p0 (Int.toNat p2) (Ty.dflt ty36))))))
             (
              again (.l1010 (Prod.fst (List.getD p0 (Int.toNat p2) (Ty.dflt ty36))))))
           (
            cond (Ops.eq B (Prod.fst (List.getD p0 (Int.toNat p2) (Ty.dflt ty36))) (3))
             (
              cond (Ops.inb B p2 (List.length p0))
               (
                cond (Ops.lim B (List.length p4 + List.length ((Prod.fst (List.getD p0 (Int.toNat p2) (Ty.dflt ty36)), Prod.snd (List.getD p0 (Int.toNat p2) (Ty.dflt ty36))) :: mt (Ty.den (Ty.pair (Ty.int IntKind.i64) (Ty.list (97) (Ty.pair (Ty.int IntKind.i64) (Ty.pair (Ty.int IntKind.i64) (Ty.pair Ty.str Ty.str)))))))) (32))
                 (
                  cond (p3)
                   (
                    cond (Ops.lim B (List.length (p4 ++ (Prod.fst (List.getD p0 (Int.toNat p2) (Ty.dflt ty36)), Prod.snd (List.getD p0 (Int.toNat p2) (Ty.dflt ty36))) :: mt (Ty.den (Ty.pair (Ty.int IntKind.i64) (Ty.list (97) (Ty.pair (Ty.int IntKind.i64) (Ty.pair (Ty.int IntKind.i64) (Ty.pair Ty.str Ty.str))))))) + List.length ((4, mt (Ty.den (Ty.pair (Ty.int IntKind.i64) (Ty.pair (Ty.int IntKind.i64) (Ty.pair Ty.str Ty.str))))) :: mt (Ty.den (Ty.pair (Ty.int IntKind.i64) (Ty.list (97) (Ty.pair (Ty.int IntKind.i64) (Ty.pair (Ty.int IntKind.i64) (Ty.pair Ty.str Ty.str)))))))) (32))
                     (
                      again (.l1015 (p4 ++ (Prod.fst (List.getD p0 (Int.toNat p2) (Ty.dflt ty36)), Prod.snd (List.getD p0 (Int.toNat p2) (Ty.dflt ty36))) :: mt (Ty.den (Ty.pair (Ty.int IntKind.i64) (Ty.list (97) (Ty.pair (Ty.int IntKind.i64) (Ty.pair (Ty.int IntKind.i64) (Ty.pair Ty.str Ty.str)))))) ++ (4, mt (Ty.den (Ty.pair (Ty.int IntKind.i64) (Ty.pair (Ty.int IntKind.i64) (Ty.pair Ty.str Ty.str))))) :: mt (Ty.den (Ty.pair (Ty.int IntKind.i64) (Ty.list (97) (Ty.pair (Ty.int IntKind.i64) (Ty.pair (Ty.int IntKind.i64) (Ty.pair Ty.str Ty.str)))))))))
                     (
                      none))
                   (
                    again (.l1015 (p4 ++ (Prod.fst (List.getD p0 (Int.toNat p2) (Ty.dflt ty36)), Prod.snd (List.getD p0 (Int.toNat p2) (Ty.dflt ty36))) :: mt (Ty.den (Ty.pair (Ty.int IntKind.i64) (Ty.list (97) (Ty.pair (Ty.int IntKind.i64) (Ty.pair (Ty.int IntKind.i64) (Ty.pair Ty.str Ty.str))))))))))
                 (
                  none))
               (
                none))
             (
              cond (Ops.eq B (Prod.fst (List.getD p0 (Int.toNat p2) (Ty.dflt ty36))) (4))
               (
                cond (Ops.inb B (0) (List.length (List.getD p1 (Int.toNat p2) (Ty.dflt ty27))))
                 (
                  ob (c63 p0 p1 (List.getD (List.getD p1 (Int.toNat p2) (Ty.dflt ty27)) (Int.toNat (0)) (Ty.dflt (Ty.int IntKind.i64))) (!p3) p4) fun y0 =>
                  k y0)
                 (
                  none))
               (
                cond (Ops.eq B (Prod.fst (List.getD p0 (Int.toNat p2) (Ty.dflt ty36))) (8))
                 (
                  cond (Ops.inb B (0) (List.length (List.getD p1 (Int.toNat p2) (Ty.dflt ty27))))
                   (
                    ob (c63 p0 p1 (List.getD (List.getD p1 (Int.toNat p2) (Ty.dflt ty27)) (Int.toNat (0)) (Ty.dflt (Ty.int IntKind.i64))) p3 p4) fun y0 =>
                    cond (Ops.lim B (List.length y0 + List.length ((Prod.fst (List.getD p0 (Int.toNat p2) (Ty.dflt ty36)), mt (Ty.den (Ty.pair (Ty.int IntKind.i64) (Ty.pair (Ty.int IntKind.i64) (Ty.pair Ty.str Ty.str))))) :: mt (Ty.den (Ty.pair (Ty.int IntKind.i64) (Ty.list (97) (Ty.pair (Ty.int IntKind.i64) (Ty.pair (Ty.int IntKind.i64) (Ty.pair Ty.str Ty.str)))))))) (32))
                     (
                      k (y0 ++ (Prod.fst (List.getD p0 (Int.toNat p2) (Ty.dflt ty36)), mt (Ty.den (Ty.pair (Ty.int IntKind.i64) (Ty.pair (Ty.int IntKind.i64) (Ty.pair Ty.str Ty.str))))) :: mt (Ty.den (Ty.pair (Ty.int IntKind.i64) (Ty.list (97) (Ty.pair (Ty.int IntKind.i64) (Ty.pair (Ty.int IntKind.i64) (Ty.pair Ty.str Ty.str))))))))
                     (
                      none))
                   (
                    none))
                 (
                  cond (Ops.eq B (Prod.fst (List.getD p0 (Int.toNat p2) (Ty.dflt ty36))) (11))
                   (
                    cond (p3)
                     (
                      again (.l1026 10 (List.getD p1 (Int.toNat p2) (Ty.dflt ty27)) 2))
                     (
                      again (.l1026 9 (List.getD p1 (Int.toNat p2) (Ty.dflt ty27)) 1)))
                   (
                    cond (Ops.eq B (Prod.fst (List.getD p0 (Int.toNat p2) (Ty.dflt ty36))) (12))
                     (
                      cond (p3)
                       (
                        again (.l1033 9 (List.getD p1 (Int.toNat p2) (Ty.dflt ty27)) 1))
                       (
                        again (.l1033 10 (List.getD p1 (Int.toNat p2) (Ty.dflt ty27)) 2)))
                     (
                      cond (Ops.eq B (Prod.fst (List.getD p0 (Int.toNat p2) (Ty.dflt ty36))) (7))
                       (
                        cond (Ops.inb B (0) (List.length (List.getD p1 (Int.toNat p2) (Ty.dflt ty27))))
                         (
                          ob (c63 p0 p1 (List.getD (List.getD p1 (Int.toNat p2) (Ty.dflt ty27)) (Int.toNat (0)) (Ty.dflt (Ty.int IntKind.i64))) (!p3) p4) fun y0 =>
                          cond (Ops.inb B (1) (List.length (List.getD p1 (Int.toNat p2) (Ty.dflt ty27))))
                           (
                            ob (c63 p0 p1 (List.getD (List.getD p1 (Int.toNat p2) (Ty.dflt ty27)) (Int.toNat (1)) (Ty.dflt (Ty.int IntKind.i64))) p3 y0) fun y1 =>
                            again (.l1038 6 y1))
                           (
                            none))
                         (
                          none))
                       (
                        cond (Ops.inb B (0) (List.length (List.getD p1 (Int.toNat p2) (Ty.dflt ty27))))
                         (
                          ob (c63 p0 p1 (List.getD (List.getD p1 (Int.toNat p2) (Ty.dflt ty27)) (Int.toNat (0)) (Ty.dflt (Ty.int IntKind.i64))) p3 p4) fun y0 =>
                          cond (Ops.inb B (1) (List.length (List.getD p1 (Int.toNat p2) (Ty.dflt ty27))))
                           (
                            ob (c63 p0 p1 (List.getD (List.getD p1 (Int.toNat p2) (Ty.dflt ty27)) (Int.toNat (1)) (Ty.dflt (Ty.int IntKind.i64))) p3 y0) fun y1 =>
                            again (.l1038 (Prod.fst (List.getD p0 (Int.toNat p2) (Ty.dflt ty36))) y1))
                           (
                            none))
                         (
                          none))))))))))
       (
        none))
     (
      none)
  | some (.l1010 v1010_0) =>
    cond (Ops.lim B (List.length p4 + List.length ((v1010_0, mt (Ty.den (Ty.pair (Ty.int IntKind.i64) (Ty.pair (Ty.int IntKind.i64) (Ty.pair Ty.str Ty.str))))) :: mt (Ty.den (Ty.pair (Ty.int IntKind.i64) (Ty.list (97) (Ty.pair (Ty.int IntKind.i64) (Ty.pair (Ty.int IntKind.i64) (Ty.pair Ty.str Ty.str)))))))) (32))
     (
      k (p4 ++ (v1010_0, mt (Ty.den (Ty.pair (Ty.int IntKind.i64) (Ty.pair (Ty.int IntKind.i64) (Ty.pair Ty.str Ty.str))))) :: mt (Ty.den (Ty.pair (Ty.int IntKind.i64) (Ty.list (97) (Ty.pair (Ty.int IntKind.i64) (Ty.pair (Ty.int IntKind.i64) (Ty.pair Ty.str Ty.str))))))))
     (
      none)
  | some (.l1015 v1015_0) =>
    k v1015_0
  | some (.l1026 v1026_3 v1026_4 v1026_5) =>
    cond (Ops.inb B (0) (List.length v1026_4))
     (
      cond (Ops.lim B (List.length p4 + List.length ((v1026_5, mt (Ty.den (Ty.pair (Ty.int IntKind.i64) (Ty.pair (Ty.int IntKind.i64) (Ty.pair Ty.str Ty.str))))) :: mt (Ty.den (Ty.pair (Ty.int IntKind.i64) (Ty.list (97) (Ty.pair (Ty.int IntKind.i64) (Ty.pair (Ty.int IntKind.i64) (Ty.pair Ty.str Ty.str)))))))) (32))
       (
        ob (c63 p0 p1 (List.getD v1026_4 (Int.toNat (0)) (Ty.dflt ty3)) p3 (p4 ++ (v1026_5, mt (Ty.den (Ty.pair (Ty.int IntKind.i64) (Ty.pair (Ty.int IntKind.i64) (Ty.pair Ty.str Ty.str))))) :: mt (Ty.den (Ty.pair (Ty.int IntKind.i64) (Ty.list (97) (Ty.pair (Ty.int IntKind.i64) (Ty.pair (Ty.int IntKind.i64) (Ty.pair Ty.str Ty.str)))))))) fun y0 =>
        cond (Ops.lim B (List.length y0 + List.length ((v1026_3, mt (Ty.den (Ty.pair (Ty.int IntKind.i64) (Ty.pair (Ty.int IntKind.i64) (Ty.pair Ty.str Ty.str))))) :: mt (Ty.den (Ty.pair (Ty.int IntKind.i64) (Ty.list (97) (Ty.pair (Ty.int IntKind.i64) (Ty.pair (Ty.int IntKind.i64) (Ty.pair Ty.str Ty.str)))))))) (32))
         (
          k (y0 ++ (v1026_3, mt (Ty.den (Ty.pair (Ty.int IntKind.i64) (Ty.pair (Ty.int IntKind.i64) (Ty.pair Ty.str Ty.str))))) :: mt (Ty.den (Ty.pair (Ty.int IntKind.i64) (Ty.list (97) (Ty.pair (Ty.int IntKind.i64) (Ty.pair (Ty.int IntKind.i64) (Ty.pair Ty.str Ty.str))))))))
         (
          none))
       (
        none))
     (
      none)
  | some (.l1033 v1033_3 v1033_4 v1033_5) =>
    cond (Ops.inb B (0) (List.length v1033_4))
     (
      cond (Ops.lim B (List.length p4 + List.length ((v1033_5, mt (Ty.den (Ty.pair (Ty.int IntKind.i64) (Ty.pair (Ty.int IntKind.i64) (Ty.pair Ty.str Ty.str))))) :: mt (Ty.den (Ty.pair (Ty.int IntKind.i64) (Ty.list (97) (Ty.pair (Ty.int IntKind.i64) (Ty.pair (Ty.int IntKind.i64) (Ty.pair Ty.str Ty.str)))))))) (32))
       (
        ob (c63 p0 p1 (List.getD v1033_4 (Int.toNat (0)) (Ty.dflt ty3)) p3 (p4 ++ (v1033_5, mt (Ty.den (Ty.pair (Ty.int IntKind.i64) (Ty.pair (Ty.int IntKind.i64) (Ty.pair Ty.str Ty.str))))) :: mt (Ty.den (Ty.pair (Ty.int IntKind.i64) (Ty.list (97) (Ty.pair (Ty.int IntKind.i64) (Ty.pair (Ty.int IntKind.i64) (Ty.pair Ty.str Ty.str)))))))) fun y0 =>
        cond (Ops.lim B (List.length y0 + List.length ((v1033_3, mt (Ty.den (Ty.pair (Ty.int IntKind.i64) (Ty.pair (Ty.int IntKind.i64) (Ty.pair Ty.str Ty.str))))) :: mt (Ty.den (Ty.pair (Ty.int IntKind.i64) (Ty.list (97) (Ty.pair (Ty.int IntKind.i64) (Ty.pair (Ty.int IntKind.i64) (Ty.pair Ty.str Ty.str)))))))) (32))
         (
          k (y0 ++ (v1033_3, mt (Ty.den (Ty.pair (Ty.int IntKind.i64) (Ty.pair (Ty.int IntKind.i64) (Ty.pair Ty.str Ty.str))))) :: mt (Ty.den (Ty.pair (Ty.int IntKind.i64) (Ty.list (97) (Ty.pair (Ty.int IntKind.i64) (Ty.pair (Ty.int IntKind.i64) (Ty.pair Ty.str Ty.str))))))))
         (
          none))
       (
        none))
     (
      none)
  | some (.l1038 v1038_1 v1038_2) =>
    cond (p3)
     (
      ob (c100 v1038_1) fun y0 =>
      cond (Ops.lim B (List.length v1038_2 + List.length ((y0, mt (Ty.den (Ty.pair (Ty.int IntKind.i64) (Ty.pair (Ty.int IntKind.i64) (Ty.pair Ty.str Ty.str))))) :: mt (Ty.den (Ty.pair (Ty.int IntKind.i64) (Ty.list (97) (Ty.pair (Ty.int IntKind.i64) (Ty.pair (Ty.int IntKind.i64) (Ty.pair Ty.str Ty.str)))))))) (32))
       (
        k (v1038_2 ++ (y0, mt (Ty.den (Ty.pair (Ty.int IntKind.i64) (Ty.pair (Ty.int IntKind.i64) (Ty.pair Ty.str Ty.str))))) :: mt (Ty.den (Ty.pair (Ty.int IntKind.i64) (Ty.list (97) (Ty.pair (Ty.int IntKind.i64) (Ty.pair (Ty.int IntKind.i64) (Ty.pair Ty.str Ty.str))))))))
       (
        none))
     (
      cond (Ops.lim B (List.length v1038_2 + List.length ((v1038_1, mt (Ty.den (Ty.pair (Ty.int IntKind.i64) (Ty.pair (Ty.int IntKind.i64) (Ty.pair Ty.str Ty.str))))) :: mt (Ty.den (Ty.pair (Ty.int IntKind.i64) (Ty.list (97) (Ty.pair (Ty.int IntKind.i64) (Ty.pair (Ty.int IntKind.i64) (Ty.pair Ty.str Ty.str)))))))) (32))
       (
        k (v1038_2 ++ (v1038_1, mt (Ty.den (Ty.pair (Ty.int IntKind.i64) (Ty.pair (Ty.int IntKind.i64) (Ty.pair Ty.str Ty.str))))) :: mt (Ty.den (Ty.pair (Ty.int IntKind.i64) (Ty.list (97) (Ty.pair (Ty.int IntKind.i64) (Ty.pair (Ty.int IntKind.i64) (Ty.pair Ty.str Ty.str))))))))
       (
        none))
def E63 (p0 : List ty36.den) (p1 : List ty27.den) (p2 : Int) (p3 : Bool) (p4 : List ty36.den) : S63 → List AV × Objs
  | .l1010 v1010_0 => (mk 157 [(4, .c (.own 4)), (11, .c (.int .i64 v1010_0))], [(4, .row 36 ty36 p4)])
  | .l1015 v1015_0 => (mk 157 [(4, .c (.own 4))], [(4, .row 36 ty36 v1015_0)])
  | .l1026 v1026_3 v1026_4 v1026_5 => (mk 157 [(0, .c (.list 36 ty36 p0)), (1, .c (.list 27 ty27 p1)), (3, .c (.bool p3)), (4, .c (.own 4)), (11, .c (.int .i64 v1026_3)), (12, .c (.list 3 ty3 v1026_4)), (13, .c (.int .i64 v1026_5))], [(4, .row 36 ty36 p4)])
  | .l1033 v1033_3 v1033_4 v1033_5 => (mk 157 [(0, .c (.list 36 ty36 p0)), (1, .c (.list 27 ty27 p1)), (3, .c (.bool p3)), (4, .c (.own 4)), (11, .c (.int .i64 v1033_3)), (12, .c (.list 3 ty3 v1033_4)), (14, .c (.int .i64 v1033_5))], [(4, .row 36 ty36 p4)])
  | .l1038 v1038_1 v1038_2 => (mk 157 [(3, .c (.bool p3)), (4, .c (.own 4)), (11, .c (.int .i64 v1038_1))], [(4, .row 36 ty36 v1038_2)])
def I63 : S63 → Nat
  | .l1010 _ => 1010
  | .l1015 _ => 1015
  | .l1026 _ _ _ => 1026
  | .l1033 _ _ _ => 1033
  | .l1038 _ _ => 1038
noncomputable def Ta63 {R : Type} (B : Ops) (c63 : List ty36.den → List ty27.den → Int → Bool → List ty36.den → Option ((List ty36.den))) (c100 : Int → Option (Int)) (p0 : List ty36.den) (p1 : List ty27.den) (p2 : Int) (p3 : Bool) (p4 : List ty36.den) (again : S63 → Option R) (k : ((List ty36.den)) → Option R) : Option S63 → Option R
  | none =>
    cond (Ops.inb B p2 (List.length p0))
     (
      cond (Ops.inb B p2 (List.length p1))
       (
        cond (Ops.eq B (Prod.fst (List.getD p0 (Int.toNat p2) (Ty.dflt ty36))) (1))
         (
          cond (p3)
           (
            again (.l1010 (IntKind.wrap IntKind.i64 (3 - Prod.fst (List.getD p0 (Int.toNat p2) (Ty.dflt ty36))))))
           (
            again (.l1010 (Prod.fst (List.getD p0 (Int.toNat p2) (Ty.dflt ty36))))))
         (
          cond (Ops.eq B (Prod.fst (List.getD p0 (Int.toNat p2) (Ty.dflt ty36))) (2))
           (
            cond (p3)
             (
              again (.l1010 (IntKind.wrap IntKind.i64 (3 - Prod.fst (List.getD p0 (Int.toNat p2) (Ty.dflt ty36))))))
             (
              again (.l1010 (Prod.fst (List.getD p0 (Int.toNat p2) (Ty.dflt ty36))))))
           (
            cond (Ops.eq B (Prod.fst (List.getD p0 (Int.toNat p2) (Ty.dflt ty36))) (3))
             (
              cond (Ops.inb B p2 (List.length p0))
               (
                cond (Ops.lim B (List.length p4 + List.length ((Prod.fst (List.getD p0 (Int.toNat p2) (Ty.dflt ty36)), Prod.snd (List.getD p0 (Int.toNat p2) (Ty.dflt ty36))) :: mt (Ty.den (Ty.pair (Ty.int IntKind.i64) (Ty.list (97) (Ty.pair (Ty.int IntKind.i64) (Ty.pair (Ty.int IntKind.i64) (Ty.pair Ty.str Ty.str)))))))) (32))
                 (
                  cond (p3)
                   (
                    cond (Ops.lim B (List.length (p4 ++ (Prod.fst (List.getD p0 (Int.toNat p2) (Ty.dflt ty36)), Prod.snd (List.getD p0 (Int.toNat p2) (Ty.dflt ty36))) :: mt (Ty.den (Ty.pair (Ty.int IntKind.i64) (Ty.list (97) (Ty.pair (Ty.int IntKind.i64) (Ty.pair (Ty.int IntKind.i64) (Ty.pair Ty.str Ty.str))))))) + List.length ((4, mt (Ty.den (Ty.pair (Ty.int IntKind.i64) (Ty.pair (Ty.int IntKind.i64) (Ty.pair Ty.str Ty.str))))) :: mt (Ty.den (Ty.pair (Ty.int IntKind.i64) (Ty.list (97) (Ty.pair (Ty.int IntKind.i64) (Ty.pair (Ty.int IntKind.i64) (Ty.pair Ty.str Ty.str)))))))) (32))
                     (
                      again (.l1015 (p4 ++ (Prod.fst (List.getD p0 (Int.toNat p2) (Ty.dflt ty36)), Prod.snd (List.getD p0 (Int.toNat p2) (Ty.dflt ty36))) :: mt (Ty.den (Ty.pair (Ty.int IntKind.i64) (Ty.list (97) (Ty.pair (Ty.int IntKind.i64) (Ty.pair (Ty.int IntKind.i64) (Ty.pair Ty.str Ty.str)))))) ++ (4, mt (Ty.den (Ty.pair (Ty.int IntKind.i64) (Ty.pair (Ty.int IntKind.i64) (Ty.pair Ty.str Ty.str))))) :: mt (Ty.den (Ty.pair (Ty.int IntKind.i64) (Ty.list (97) (Ty.pair (Ty.int IntKind.i64) (Ty.pair (Ty.int IntKind.i64) (Ty.pair Ty.str Ty.str)))))))))
                     (
                      none))
                   (
                    again (.l1015 (p4 ++ (Prod.fst (List.getD p0 (Int.toNat p2) (Ty.dflt ty36)), Prod.snd (List.getD p0 (Int.toNat p2) (Ty.dflt ty36))) :: mt (Ty.den (Ty.pair (Ty.int IntKind.i64) (Ty.list (97) (Ty.pair (Ty.int IntKind.i64) (Ty.pair (Ty.int IntKind.i64) (Ty.pair Ty.str Ty.str))))))))))
                 (
                  none))
               (
                none))
             (
              cond (Ops.eq B (Prod.fst (List.getD p0 (Int.toNat p2) (Ty.dflt ty36))) (4))
               (
                cond (Ops.inb B (0) (List.length (List.getD p1 (Int.toNat p2) (Ty.dflt ty27))))
                 (
                  ob (c63 p0 p1 (List.getD (List.getD p1 (Int.toNat p2) (Ty.dflt ty27)) (Int.toNat (0)) (Ty.dflt (Ty.int IntKind.i64))) (!p3) p4) fun y0 =>
                  k y0)
                 (
                  none))
               (
                cond (Ops.eq B (Prod.fst (List.getD p0 (Int.toNat p2) (Ty.dflt ty36))) (8))
                 (
                  cond (Ops.inb B (0) (List.length (List.getD p1 (Int.toNat p2) (Ty.dflt ty27))))
                   (
                    ob (c63 p0 p1 (List.getD (List.getD p1 (Int.toNat p2) (Ty.dflt ty27)) (Int.toNat (0)) (Ty.dflt (Ty.int IntKind.i64))) p3 p4) fun y0 =>
                    cond (Ops.lim B (List.length y0 + List.length ((Prod.fst (List.getD p0 (Int.toNat p2) (Ty.dflt ty36)), mt (Ty.den (Ty.pair (Ty.int IntKind.i64) (Ty.pair (Ty.int IntKind.i64) (Ty.pair Ty.str Ty.str))))) :: mt (Ty.den (Ty.pair (Ty.int IntKind.i64) (Ty.list (97) (Ty.pair (Ty.int IntKind.i64) (Ty.pair (Ty.int IntKind.i64) (Ty.pair Ty.str Ty.str)))))))) (32))
                     (
                      k (y0 ++ (Prod.fst (List.getD p0 (Int.toNat p2) (Ty.dflt ty36)), mt (Ty.den (Ty.pair (Ty.int IntKind.i64) (Ty.pair (Ty.int IntKind.i64) (Ty.pair Ty.str Ty.str))))) :: mt (Ty.den (Ty.pair (Ty.int IntKind.i64) (Ty.list (97) (Ty.pair (Ty.int IntKind.i64) (Ty.pair (Ty.int IntKind.i64) (Ty.pair Ty.str Ty.str))))))))
                     (
                      none))
                   (
                    none))
                 (
                  cond (Ops.eq B (Prod.fst (List.getD p0 (Int.toNat p2) (Ty.dflt ty36))) (11))
                   (
                    cond (p3)
                     (
                      again (.l1026 10 (List.getD p1 (Int.toNat p2) (Ty.dflt ty27)) 2))
                     (
                      again (.l1026 9 (List.getD p1 (Int.toNat p2) (Ty.dflt ty27)) 1)))
                   (
                    cond (Ops.eq B (Prod.fst (List.getD p0 (Int.toNat p2) (Ty.dflt ty36))) (12))
                     (
                      cond (p3)
                       (
                        again (.l1033 9 (List.getD p1 (Int.toNat p2) (Ty.dflt ty27)) 1))
                       (
                        again (.l1033 10 (List.getD p1 (Int.toNat p2) (Ty.dflt ty27)) 2)))
                     (
                      cond (Ops.eq B (Prod.fst (List.getD p0 (Int.toNat p2) (Ty.dflt ty36))) (7))
                       (
                        cond (Ops.inb B (0) (List.length (List.getD p1 (Int.toNat p2) (Ty.dflt ty27))))
                         (
                          ob (c63 p0 p1 (List.getD (List.getD p1 (Int.toNat p2) (Ty.dflt ty27)) (Int.toNat (0)) (Ty.dflt (Ty.int IntKind.i64))) (!p3) p4) fun y0 =>
                          cond (Ops.inb B (1) (List.length (List.getD p1 (Int.toNat p2) (Ty.dflt ty27))))
                           (
                            ob (c63 p0 p1 (List.getD (List.getD p1 (Int.toNat p2) (Ty.dflt ty27)) (Int.toNat (1)) (Ty.dflt (Ty.int IntKind.i64))) p3 y0) fun y1 =>
                            again (.l1038 6 y1))
                           (
                            none))
                         (
                          none))
                       (
                        cond (Ops.inb B (0) (List.length (List.getD p1 (Int.toNat p2) (Ty.dflt ty27))))
                         (
                          ob (c63 p0 p1 (List.getD (List.getD p1 (Int.toNat p2) (Ty.dflt ty27)) (Int.toNat (0)) (Ty.dflt (Ty.int IntKind.i64))) p3 p4) fun y0 =>
                          cond (Ops.inb B (1) (List.length (List.getD p1 (Int.toNat p2) (Ty.dflt ty27))))
                           (
                            ob (c63 p0 p1 (List.getD (List.getD p1 (Int.toNat p2) (Ty.dflt ty27)) (Int.toNat (1)) (Ty.dflt (Ty.int IntKind.i64))) p3 y0) fun y1 =>
                            again (.l1038 (Prod.fst (List.getD p0 (Int.toNat p2) (Ty.dflt ty36))) y1))
                           (
                            none))
                         (
                          none))))))))))
       (
        none))
     (
      none)
  | some (.l1010 v1010_0) =>
    cond (Ops.lim B (List.length p4 + List.length ((v1010_0, mt (Ty.den (Ty.pair (Ty.int IntKind.i64) (Ty.pair (Ty.int IntKind.i64) (Ty.pair Ty.str Ty.str))))) :: mt (Ty.den (Ty.pair (Ty.int IntKind.i64) (Ty.list (97) (Ty.pair (Ty.int IntKind.i64) (Ty.pair (Ty.int IntKind.i64) (Ty.pair Ty.str Ty.str)))))))) (32))
     (
      k (p4 ++ (v1010_0, mt (Ty.den (Ty.pair (Ty.int IntKind.i64) (Ty.pair (Ty.int IntKind.i64) (Ty.pair Ty.str Ty.str))))) :: mt (Ty.den (Ty.pair (Ty.int IntKind.i64) (Ty.list (97) (Ty.pair (Ty.int IntKind.i64) (Ty.pair (Ty.int IntKind.i64) (Ty.pair Ty.str Ty.str))))))))
     (
      none)
  | some (.l1015 v1015_0) =>
    k v1015_0
  | some (.l1026 v1026_3 v1026_4 v1026_5) =>
    cond (Ops.inb B (0) (List.length v1026_4))
     (
      agree
       (
        agree
         (
          cond (Ops.lim B (List.length p4 + List.length ((v1026_5, mt (Ty.den (Ty.pair (Ty.int IntKind.i64) (Ty.pair (Ty.int IntKind.i64) (Ty.pair Ty.str Ty.str))))) :: mt (Ty.den (Ty.pair (Ty.int IntKind.i64) (Ty.list (97) (Ty.pair (Ty.int IntKind.i64) (Ty.pair (Ty.int IntKind.i64) (Ty.pair Ty.str Ty.str)))))))) (32))
           (
            agree
             (
              ob (c63 p0 p1 (List.getD v1026_4 (Int.toNat (0)) (Ty.dflt ty3)) p3 (p4 ++ (v1026_5, mt (Ty.den (Ty.pair (Ty.int IntKind.i64) (Ty.pair (Ty.int IntKind.i64) (Ty.pair Ty.str Ty.str))))) :: mt (Ty.den (Ty.pair (Ty.int IntKind.i64) (Ty.list (97) (Ty.pair (Ty.int IntKind.i64) (Ty.pair (Ty.int IntKind.i64) (Ty.pair Ty.str Ty.str)))))))) fun y0 =>
              cond (Ops.lim B (List.length y0 + List.length ((v1026_3, mt (Ty.den (Ty.pair (Ty.int IntKind.i64) (Ty.pair (Ty.int IntKind.i64) (Ty.pair Ty.str Ty.str))))) :: mt (Ty.den (Ty.pair (Ty.int IntKind.i64) (Ty.list (97) (Ty.pair (Ty.int IntKind.i64) (Ty.pair (Ty.int IntKind.i64) (Ty.pair Ty.str Ty.str)))))))) (32))
               (
                k (y0 ++ (v1026_3, mt (Ty.den (Ty.pair (Ty.int IntKind.i64) (Ty.pair (Ty.int IntKind.i64) (Ty.pair Ty.str Ty.str))))) :: mt (Ty.den (Ty.pair (Ty.int IntKind.i64) (Ty.list (97) (Ty.pair (Ty.int IntKind.i64) (Ty.pair (Ty.int IntKind.i64) (Ty.pair Ty.str Ty.str))))))))
               (
                none))
             (
              ob (c63 p0 p1 (List.getD v1026_4 (Int.toNat (0)) (Ty.dflt ty3)) p3 (p4 ++ (v1026_5, mt (Ty.den (Ty.pair (Ty.int IntKind.i64) (Ty.pair (Ty.int IntKind.i64) (Ty.pair Ty.str Ty.str))))) :: mt (Ty.den (Ty.pair (Ty.int IntKind.i64) (Ty.list (97) (Ty.pair (Ty.int IntKind.i64) (Ty.pair (Ty.int IntKind.i64) (Ty.pair Ty.str Ty.str)))))))) fun y0 =>
              cond (Ops.lim B (List.length y0 + List.length ((v1026_3, mt (Ty.den (Ty.pair (Ty.int IntKind.i64) (Ty.pair (Ty.int IntKind.i64) (Ty.pair Ty.str Ty.str))))) :: mt (Ty.den (Ty.pair (Ty.int IntKind.i64) (Ty.list (97) (Ty.pair (Ty.int IntKind.i64) (Ty.pair (Ty.int IntKind.i64) (Ty.pair Ty.str Ty.str)))))))) (32))
               (
                k (y0 ++ (v1026_3, mt (Ty.den (Ty.pair (Ty.int IntKind.i64) (Ty.pair (Ty.int IntKind.i64) (Ty.pair Ty.str Ty.str))))) :: mt (Ty.den (Ty.pair (Ty.int IntKind.i64) (Ty.list (97) (Ty.pair (Ty.int IntKind.i64) (Ty.pair (Ty.int IntKind.i64) (Ty.pair Ty.str Ty.str))))))))
               (
                none)))
           (
            none))
         (
          cond (Ops.lim B (List.length p4 + List.length ((v1026_5, mt (Ty.den (Ty.pair (Ty.int IntKind.i64) (Ty.pair (Ty.int IntKind.i64) (Ty.pair Ty.str Ty.str))))) :: mt (Ty.den (Ty.pair (Ty.int IntKind.i64) (Ty.list (97) (Ty.pair (Ty.int IntKind.i64) (Ty.pair (Ty.int IntKind.i64) (Ty.pair Ty.str Ty.str)))))))) (32))
           (
            ob (c63 p0 p1 (List.getD v1026_4 (Int.toNat (0)) (Ty.dflt ty3)) p3 (p4 ++ (v1026_5, mt (Ty.den (Ty.pair (Ty.int IntKind.i64) (Ty.pair (Ty.int IntKind.i64) (Ty.pair Ty.str Ty.str))))) :: mt (Ty.den (Ty.pair (Ty.int IntKind.i64) (Ty.list (97) (Ty.pair (Ty.int IntKind.i64) (Ty.pair (Ty.int IntKind.i64) (Ty.pair Ty.str Ty.str)))))))) fun y0 =>
            cond (Ops.lim B (List.length y0 + List.length ((v1026_3, mt (Ty.den (Ty.pair (Ty.int IntKind.i64) (Ty.pair (Ty.int IntKind.i64) (Ty.pair Ty.str Ty.str))))) :: mt (Ty.den (Ty.pair (Ty.int IntKind.i64) (Ty.list (97) (Ty.pair (Ty.int IntKind.i64) (Ty.pair (Ty.int IntKind.i64) (Ty.pair Ty.str Ty.str)))))))) (32))
             (
              k (y0 ++ (v1026_3, mt (Ty.den (Ty.pair (Ty.int IntKind.i64) (Ty.pair (Ty.int IntKind.i64) (Ty.pair Ty.str Ty.str))))) :: mt (Ty.den (Ty.pair (Ty.int IntKind.i64) (Ty.list (97) (Ty.pair (Ty.int IntKind.i64) (Ty.pair (Ty.int IntKind.i64) (Ty.pair Ty.str Ty.str))))))))
             (
              none))
           (
            none)))
       (
        cond (Ops.lim B (List.length p4 + List.length ((v1026_5, mt (Ty.den (Ty.pair (Ty.int IntKind.i64) (Ty.pair (Ty.int IntKind.i64) (Ty.pair Ty.str Ty.str))))) :: mt (Ty.den (Ty.pair (Ty.int IntKind.i64) (Ty.list (97) (Ty.pair (Ty.int IntKind.i64) (Ty.pair (Ty.int IntKind.i64) (Ty.pair Ty.str Ty.str)))))))) (32))
         (
          ob (c63 p0 p1 (List.getD v1026_4 (Int.toNat (0)) (Ty.dflt ty3)) p3 (p4 ++ (v1026_5, mt (Ty.den (Ty.pair (Ty.int IntKind.i64) (Ty.pair (Ty.int IntKind.i64) (Ty.pair Ty.str Ty.str))))) :: mt (Ty.den (Ty.pair (Ty.int IntKind.i64) (Ty.list (97) (Ty.pair (Ty.int IntKind.i64) (Ty.pair (Ty.int IntKind.i64) (Ty.pair Ty.str Ty.str)))))))) fun y0 =>
          cond (Ops.lim B (List.length y0 + List.length ((v1026_3, mt (Ty.den (Ty.pair (Ty.int IntKind.i64) (Ty.pair (Ty.int IntKind.i64) (Ty.pair Ty.str Ty.str))))) :: mt (Ty.den (Ty.pair (Ty.int IntKind.i64) (Ty.list (97) (Ty.pair (Ty.int IntKind.i64) (Ty.pair (Ty.int IntKind.i64) (Ty.pair Ty.str Ty.str)))))))) (32))
           (
            k (y0 ++ (v1026_3, mt (Ty.den (Ty.pair (Ty.int IntKind.i64) (Ty.pair (Ty.int IntKind.i64) (Ty.pair Ty.str Ty.str))))) :: mt (Ty.den (Ty.pair (Ty.int IntKind.i64) (Ty.list (97) (Ty.pair (Ty.int IntKind.i64) (Ty.pair (Ty.int IntKind.i64) (Ty.pair Ty.str Ty.str))))))))
           (
            none))
         (
          none)))
     (
      none)
  | some (.l1033 v1033_3 v1033_4 v1033_5) =>
    cond (Ops.inb B (0) (List.length v1033_4))
     (
      agree
       (
        agree
         (
          cond (Ops.lim B (List.length p4 + List.length ((v1033_5, mt (Ty.den (Ty.pair (Ty.int IntKind.i64) (Ty.pair (Ty.int IntKind.i64) (Ty.pair Ty.str Ty.str))))) :: mt (Ty.den (Ty.pair (Ty.int IntKind.i64) (Ty.list (97) (Ty.pair (Ty.int IntKind.i64) (Ty.pair (Ty.int IntKind.i64) (Ty.pair Ty.str Ty.str)))))))) (32))
           (
            agree
             (
              ob (c63 p0 p1 (List.getD v1033_4 (Int.toNat (0)) (Ty.dflt ty3)) p3 (p4 ++ (v1033_5, mt (Ty.den (Ty.pair (Ty.int IntKind.i64) (Ty.pair (Ty.int IntKind.i64) (Ty.pair Ty.str Ty.str))))) :: mt (Ty.den (Ty.pair (Ty.int IntKind.i64) (Ty.list (97) (Ty.pair (Ty.int IntKind.i64) (Ty.pair (Ty.int IntKind.i64) (Ty.pair Ty.str Ty.str)))))))) fun y0 =>
              cond (Ops.lim B (List.length y0 + List.length ((v1033_3, mt (Ty.den (Ty.pair (Ty.int IntKind.i64) (Ty.pair (Ty.int IntKind.i64) (Ty.pair Ty.str Ty.str))))) :: mt (Ty.den (Ty.pair (Ty.int IntKind.i64) (Ty.list (97) (Ty.pair (Ty.int IntKind.i64) (Ty.pair (Ty.int IntKind.i64) (Ty.pair Ty.str Ty.str)))))))) (32))
               (
                k (y0 ++ (v1033_3, mt (Ty.den (Ty.pair (Ty.int IntKind.i64) (Ty.pair (Ty.int IntKind.i64) (Ty.pair Ty.str Ty.str))))) :: mt (Ty.den (Ty.pair (Ty.int IntKind.i64) (Ty.list (97) (Ty.pair (Ty.int IntKind.i64) (Ty.pair (Ty.int IntKind.i64) (Ty.pair Ty.str Ty.str))))))))
               (
                none))
             (
              ob (c63 p0 p1 (List.getD v1033_4 (Int.toNat (0)) (Ty.dflt ty3)) p3 (p4 ++ (v1033_5, mt (Ty.den (Ty.pair (Ty.int IntKind.i64) (Ty.pair (Ty.int IntKind.i64) (Ty.pair Ty.str Ty.str))))) :: mt (Ty.den (Ty.pair (Ty.int IntKind.i64) (Ty.list (97) (Ty.pair (Ty.int IntKind.i64) (Ty.pair (Ty.int IntKind.i64) (Ty.pair Ty.str Ty.str)))))))) fun y0 =>
              cond (Ops.lim B (List.length y0 + List.length ((v1033_3, mt (Ty.den (Ty.pair (Ty.int IntKind.i64) (Ty.pair (Ty.int IntKind.i64) (Ty.pair Ty.str Ty.str))))) :: mt (Ty.den (Ty.pair (Ty.int IntKind.i64) (Ty.list (97) (Ty.pair (Ty.int IntKind.i64) (Ty.pair (Ty.int IntKind.i64) (Ty.pair Ty.str Ty.str)))))))) (32))
               (
                k (y0 ++ (v1033_3, mt (Ty.den (Ty.pair (Ty.int IntKind.i64) (Ty.pair (Ty.int IntKind.i64) (Ty.pair Ty.str Ty.str))))) :: mt (Ty.den (Ty.pair (Ty.int IntKind.i64) (Ty.list (97) (Ty.pair (Ty.int IntKind.i64) (Ty.pair (Ty.int IntKind.i64) (Ty.pair Ty.str Ty.str))))))))
               (
                none)))
           (
            none))
         (
          cond (Ops.lim B (List.length p4 + List.length ((v1033_5, mt (Ty.den (Ty.pair (Ty.int IntKind.i64) (Ty.pair (Ty.int IntKind.i64) (Ty.pair Ty.str Ty.str))))) :: mt (Ty.den (Ty.pair (Ty.int IntKind.i64) (Ty.list (97) (Ty.pair (Ty.int IntKind.i64) (Ty.pair (Ty.int IntKind.i64) (Ty.pair Ty.str Ty.str)))))))) (32))
           (
            ob (c63 p0 p1 (List.getD v1033_4 (Int.toNat (0)) (Ty.dflt ty3)) p3 (p4 ++ (v1033_5, mt (Ty.den (Ty.pair (Ty.int IntKind.i64) (Ty.pair (Ty.int IntKind.i64) (Ty.pair Ty.str Ty.str))))) :: mt (Ty.den (Ty.pair (Ty.int IntKind.i64) (Ty.list (97) (Ty.pair (Ty.int IntKind.i64) (Ty.pair (Ty.int IntKind.i64) (Ty.pair Ty.str Ty.str)))))))) fun y0 =>
            cond (Ops.lim B (List.length y0 + List.length ((v1033_3, mt (Ty.den (Ty.pair (Ty.int IntKind.i64) (Ty.pair (Ty.int IntKind.i64) (Ty.pair Ty.str Ty.str))))) :: mt (Ty.den (Ty.pair (Ty.int IntKind.i64) (Ty.list (97) (Ty.pair (Ty.int IntKind.i64) (Ty.pair (Ty.int IntKind.i64) (Ty.pair Ty.str Ty.str)))))))) (32))
             (
              k (y0 ++ (v1033_3, mt (Ty.den (Ty.pair (Ty.int IntKind.i64) (Ty.pair (Ty.int IntKind.i64) (Ty.pair Ty.str Ty.str))))) :: mt (Ty.den (Ty.pair (Ty.int IntKind.i64) (Ty.list (97) (Ty.pair (Ty.int IntKind.i64) (Ty.pair (Ty.int IntKind.i64) (Ty.pair Ty.str Ty.str))))))))
             (
              none))
           (
            none)))
       (
        cond (Ops.lim B (List.length p4 + List.length ((v1033_5, mt (Ty.den (Ty.pair (Ty.int IntKind.i64) (Ty.pair (Ty.int IntKind.i64) (Ty.pair Ty.str Ty.str))))) :: mt (Ty.den (Ty.pair (Ty.int IntKind.i64) (Ty.list (97) (Ty.pair (Ty.int IntKind.i64) (Ty.pair (Ty.int IntKind.i64) (Ty.pair Ty.str Ty.str)))))))) (32))
         (
          ob (c63 p0 p1 (List.getD v1033_4 (Int.toNat (0)) (Ty.dflt ty3)) p3 (p4 ++ (v1033_5, mt (Ty.den (Ty.pair (Ty.int IntKind.i64) (Ty.pair (Ty.int IntKind.i64) (Ty.pair Ty.str Ty.str))))) :: mt (Ty.den (Ty.pair (Ty.int IntKind.i64) (Ty.list (97) (Ty.pair (Ty.int IntKind.i64) (Ty.pair (Ty.int IntKind.i64) (Ty.pair Ty.str Ty.str)))))))) fun y0 =>
          cond (Ops.lim B (List.length y0 + List.length ((v1033_3, mt (Ty.den (Ty.pair (Ty.int IntKind.i64) (Ty.pair (Ty.int IntKind.i64) (Ty.pair Ty.str Ty.str))))) :: mt (Ty.den (Ty.pair (Ty.int IntKind.i64) (Ty.list (97) (Ty.pair (Ty.int IntKind.i64) (Ty.pair (Ty.int IntKind.i64) (Ty.pair Ty.str Ty.str)))))))) (32))
           (
            k (y0 ++ (v1033_3, mt (Ty.den (Ty.pair (Ty.int IntKind.i64) (Ty.pair (Ty.int IntKind.i64) (Ty.pair Ty.str Ty.str))))) :: mt (Ty.den (Ty.pair (Ty.int IntKind.i64) (Ty.list (97) (Ty.pair (Ty.int IntKind.i64) (Ty.pair (Ty.int IntKind.i64) (Ty.pair Ty.str Ty.str))))))))
           (
            none))
         (
          none)))
     (
      none)
  | some (.l1038 v1038_1 v1038_2) =>
    cond (p3)
     (
      ob (c100 v1038_1) fun y0 =>
      cond (Ops.lim B (List.length v1038_2 + List.length ((y0, mt (Ty.den (Ty.pair (Ty.int IntKind.i64) (Ty.pair (Ty.int IntKind.i64) (Ty.pair Ty.str Ty.str))))) :: mt (Ty.den (Ty.pair (Ty.int IntKind.i64) (Ty.list (97) (Ty.pair (Ty.int IntKind.i64) (Ty.pair (Ty.int IntKind.i64) (Ty.pair Ty.str Ty.str)))))))) (32))
       (
        k (v1038_2 ++ (y0, mt (Ty.den (Ty.pair (Ty.int IntKind.i64) (Ty.pair (Ty.int IntKind.i64) (Ty.pair Ty.str Ty.str))))) :: mt (Ty.den (Ty.pair (Ty.int IntKind.i64) (Ty.list (97) (Ty.pair (Ty.int IntKind.i64) (Ty.pair (Ty.int IntKind.i64) (Ty.pair Ty.str Ty.str))))))))
       (
        none))
     (
      cond (Ops.lim B (List.length v1038_2 + List.length ((v1038_1, mt (Ty.den (Ty.pair (Ty.int IntKind.i64) (Ty.pair (Ty.int IntKind.i64) (Ty.pair Ty.str Ty.str))))) :: mt (Ty.den (Ty.pair (Ty.int IntKind.i64) (Ty.list (97) (Ty.pair (Ty.int IntKind.i64) (Ty.pair (Ty.int IntKind.i64) (Ty.pair Ty.str Ty.str)))))))) (32))
       (
        k (v1038_2 ++ (v1038_1, mt (Ty.den (Ty.pair (Ty.int IntKind.i64) (Ty.pair (Ty.int IntKind.i64) (Ty.pair Ty.str Ty.str))))) :: mt (Ty.den (Ty.pair (Ty.int IntKind.i64) (Ty.list (97) (Ty.pair (Ty.int IntKind.i64) (Ty.pair (Ty.int IntKind.i64) (Ty.pair Ty.str Ty.str))))))))
       (
        none))
theorem ta63 {R : Type} (B : Ops) (c63 : List ty36.den → List ty27.den → Int → Bool → List ty36.den → Option ((List ty36.den))) (c100 : Int → Option (Int)) (p0 : List ty36.den) (p1 : List ty27.den) (p2 : Int) (p3 : Bool) (p4 : List ty36.den) (again : S63 → Option R) (k : ((List ty36.den)) → Option R) : ∀ s, Ta63 B c63 c100 p0 p1 p2 p3 p4 again k s = T63 B c63 c100 p0 p1 p2 p3 p4 again k s
  | none => by unfold Ta63 T63; simp only [agree_self]
  | some (.l1010 v1010_0) => by unfold Ta63 T63; simp only [agree_self]
  | some (.l1015 v1015_0) => by unfold Ta63 T63; simp only [agree_self]
  | some (.l1026 v1026_3 v1026_4 v1026_5) => by unfold Ta63 T63; simp only [agree_self]
  | some (.l1033 v1033_3 v1033_4 v1033_5) => by unfold Ta63 T63; simp only [agree_self]
  | some (.l1038 v1038_1 v1038_2) => by unfold Ta63 T63; simp only [agree_self]
theorem eq63 {R : Type} (B : Ops) (c63 : List ty36.den → List ty27.den → Int → Bool → List ty36.den → Option ((List ty36.den))) (c100 : Int → Option (Int)) (p0 : List ty36.den) (p1 : List ty27.den) (p2 : Int) (p3 : Bool) (p4 : List ty36.den) (k : AV → Objs → Option R) (n : Nat) : afun tau B gl0 X63 (ent 63 (e63 c63) (ent 100 (e100 c100) (gnil))) ow Try.f63 [.c (.list 36 ty36 p0), .c (.list 27 ty27 p1), .c (.int .i64 p2), .c (.bool p3), .c (.own 4)] [(4, .row 36 ty36 p4)] k n = T63 B c63 c100 p0 p1 p2 p3 p4 (fun s => aloop tau B gl0 X63 (ent 63 (e63 c63) (ent 100 (e100 c100) (gnil))) ow [] Try.f63 k (I63 s) (E63 p0 p1 p2 p3 p4 s) n) (fun y => k (.c (.own 500)) [(500, .row 36 ty36 y)]) none := by rw [← ta63]; kernel_rfl
theorem el63 {R : Type} (B : Ops) (c63 : List ty36.den → List ty27.den → Int → Bool → List ty36.den → Option ((List ty36.den))) (c100 : Int → Option (Int)) (p0 : List ty36.den) (p1 : List ty27.den) (p2 : Int) (p3 : Bool) (p4 : List ty36.den) (k : AV → Objs → Option R) (n : Nat) : ∀ s, aloop tau B gl0 X63 (ent 63 (e63 c63) (ent 100 (e100 c100) (gnil))) ow [] Try.f63 k (I63 s) (E63 p0 p1 p2 p3 p4 s) (n + 1) = T63 B c63 c100 p0 p1 p2 p3 p4 (fun s => aloop tau B gl0 X63 (ent 63 (e63 c63) (ent 100 (e100 c100) (gnil))) ow [] Try.f63 k (I63 s) (E63 p0 p1 p2 p3 p4 s) n) (fun y => k (.c (.own 500)) [(500, .row 36 ty36 y)]) (some s)
  | .l1010 v1010_0 => by rw [← ta63]; kernel_rfl
  | .l1015 v1015_0 => by rw [← ta63]; kernel_rfl
  | .l1026 v1026_3 v1026_4 v1026_5 => by rw [← ta63]; kernel_rfl
  | .l1033 v1033_3 v1033_4 v1033_5 => by rw [← ta63]; kernel_rfl
  | .l1038 v1038_1 v1038_2 => by rw [← ta63]; kernel_rfl
theorem nt63 {R R' : Type} (B : Ops) (c63 : List ty36.den → List ty27.den → Int → Bool → List ty36.den → Option ((List ty36.den))) (c100 : Int → Option (Int)) (p0 : List ty36.den) (p1 : List ty27.den) (p2 : Int) (p3 : Bool) (p4 : List ty36.den) (again : S63 → Option R) (again' : S63 → Option R') (k0 : ((List ty36.den)) → Option R') (k : R' → Option R) (h : ∀ s, again s = ob (again' s) k) : ∀ s, T63 B c63 c100 p0 p1 p2 p3 p4 again (fun y => ob (k0 y) k) s = ob (T63 B c63 c100 p0 p1 p2 p3 p4 again' k0 s) k
  | none => by unfold T63; repeat' first | exact rfl | exact h _ | apply nat_cond | (apply nat_ob; intro)
  | some (.l1010 v1010_0) => by unfold T63; repeat' first | exact rfl | exact h _ | apply nat_cond | (apply nat_ob; intro)
  | some (.l1015 v1015_0) => by unfold T63; repeat' first | exact rfl | exact h _ | apply nat_cond | (apply nat_ob; intro)
  | some (.l1026 v1026_3 v1026_4 v1026_5) => by unfold T63; repeat' first | exact rfl | exact h _ | apply nat_cond | (apply nat_ob; intro)
  | some (.l1033 v1033_3 v1033_4 v1033_5) => by unfold T63; repeat' first | exact rfl | exact h _ | apply nat_cond | (apply nat_ob; intro)
  | some (.l1038 v1038_1 v1038_2) => by unfold T63; repeat' first | exact rfl | exact h _ | apply nat_cond | (apply nat_ob; intro)
def R63 (c63 : List ty36.den → List ty27.den → Int → Bool → List ty36.den → Option ((List ty36.den))) (c100 : Int → Option (Int)) (p0 : List ty36.den) (p1 : List ty27.den) (p2 : Int) (p3 : Bool) (p4 : List ty36.den) : Nat → S63 → Option ((List ty36.den))
  | 0, _ => none
  | n + 1, s => T63 Ops.std c63 c100 p0 p1 p2 p3 p4 (R63 c63 c100 p0 p1 p2 p3 p4 n) some (some s)
theorem rr63 {R : Type} (c63 : List ty36.den → List ty27.den → Int → Bool → List ty36.den → Option ((List ty36.den))) (c100 : Int → Option (Int)) (p0 : List ty36.den) (p1 : List ty27.den) (p2 : Int) (p3 : Bool) (p4 : List ty36.den) (k : AV → Objs → Option R) : ∀ (n : Nat) (s : S63), aloop tau Ops.std gl0 X63 (ent 63 (e63 c63) (ent 100 (e100 c100) (gnil))) ow [] Try.f63 k (I63 s) (E63 p0 p1 p2 p3 p4 s) n = ob (R63 c63 c100 p0 p1 p2 p3 p4 n s) (fun y => k (.c (.own 500)) [(500, .row 36 ty36 y)])
  | 0, s => by cases s <;> rfl
  | n + 1, s => by rw [el63]; exact nt63 Ops.std c63 c100 p0 p1 p2 p3 p4 _ _ some (fun y => k (.c (.own 500)) [(500, .row 36 ty36 y)]) (rr63 c63 c100 p0 p1 p2 p3 p4 k n) (some s)
def F63 (c63 : List ty36.den → List ty27.den → Int → Bool → List ty36.den → Option ((List ty36.den))) (c100 : Int → Option (Int)) (p0 : List ty36.den) (p1 : List ty27.den) (p2 : Int) (p3 : Bool) (p4 : List ty36.den) : Option ((List ty36.den)) := T63 Ops.std c63 c100 p0 p1 p2 p3 p4 (R63 c63 c100 p0 p1 p2 p3 p4 1000000) some none
theorem fo63 {R : Type} (c63 : List ty36.den → List ty27.den → Int → Bool → List ty36.den → Option ((List ty36.den))) (c100 : Int → Option (Int)) (p0 : List ty36.den) (p1 : List ty27.den) (p2 : Int) (p3 : Bool) (p4 : List ty36.den) (k : AV → Objs → Option R) : afun tau Ops.std gl0 X63 (ent 63 (e63 c63) (ent 100 (e100 c100) (gnil))) ow Try.f63 [.c (.list 36 ty36 p0), .c (.list 27 ty27 p1), .c (.int .i64 p2), .c (.bool p3), .c (.own 4)] [(4, .row 36 ty36 p4)] k 1000000 = ob (F63 c63 c100 p0 p1 p2 p3 p4) (fun y => k (.c (.own 500)) [(500, .row 36 ty36 y)]) := by rw [eq63]; exact nt63 Ops.std c63 c100 p0 p1 p2 p3 p4 _ _ some (fun y => k (.c (.own 500)) [(500, .row 36 ty36 y)]) (rr63 c63 c100 p0 p1 p2 p3 p4 k 1000000) none
theorem sf63 {c63 : List ty36.den → List ty27.den → Int → Bool → List ty36.den → Option ((List ty36.den))} {c100 : Int → Option (Int)} (h63 : Sp63 c63) (h100 : Sp100 c100) : Sp63 (F63 c63 c100) := fun p0 p1 p2 p3 p4 y hy => by
  refine spec_of (G := ent 63 (e63 c63) (ent 100 (e100 c100) (gnil))) (ent_ok (ek63 h63) (ent_ok (ek100 h100) (gnil_ok))) 1000000 (fn := Try.f63) (by kernel_rfl) (by kernel_rfl) (X := X63) (by kernel_rfl) ?_
  rw [fo63, hy]
  rfl
noncomputable def Rec63 : Nat → (List ty36.den → List ty27.den → Int → Bool → List ty36.den → Option ((List ty36.den)))
  | 0 => fun _ _ _ _ _ => none
  | d + 1 => F63 (Rec63 d) M100
theorem rec63 : ∀ d, Sp63 (Rec63 d)
  | 0 => fun p0 p1 p2 p3 p4 y (h : (none : Option ((List ty36.den))) = some y) => by cases h
  | d + 1 => sf63 (rec63 d) sm100
noncomputable def M63 : List ty36.den → List ty27.den → Int → Bool → List ty36.den → Option ((List ty36.den)) := (Rec63 1000000)
theorem sm63 : Sp63 M63 := (rec63 1000000)

/-! ### 35: lariat/lariatref13.nnf -/
def X35 : Aux := ⟨[], []⟩
def T35 {R : Type} (B : Ops) (c38 : List ty36.den → Option (Bool)) (c16 : List ty36.den → Option ((List ty27.den))) (c63 : List ty36.den → List ty27.den → Int → Bool → List ty36.den → Option ((List ty36.den))) (p0 : List ty36.den) (p1 : Bool) (k : ((List ty36.den)) → Option R) : Option R :=
  ob (c38 p0) fun y0 =>
  cond (!y0)
   (
    k (mt (Ty.den (Ty.pair (Ty.int IntKind.i64) (Ty.list (97) (Ty.pair (Ty.int IntKind.i64) (Ty.pair (Ty.int IntKind.i64) (Ty.pair Ty.str Ty.str))))))))
   (
    ob (c16 p0) fun y1 =>
    ob (c63 p0 y1 (IntKind.wrap IntKind.i64 (Nat.cast (List.length p0) - 1)) p1 (mt (Ty.den (Ty.pair (Ty.int IntKind.i64) (Ty.list (97) (Ty.pair (Ty.int IntKind.i64) (Ty.pair (Ty.int IntKind.i64) (Ty.pair Ty.str Ty.str)))))))) fun y2 =>
    cond (Ops.lt B (60) (Nat.cast (List.length y2)))
     (
      k (mt (Ty.den (Ty.pair (Ty.int IntKind.i64) (Ty.list (97) (Ty.pair (Ty.int IntKind.i64) (Ty.pair (Ty.int IntKind.i64) (Ty.pair Ty.str Ty.str))))))))
     (
      k y2))
theorem eq35 {R : Type} (B : Ops) (c38 : List ty36.den → Option (Bool)) (c16 : List ty36.den → Option ((List ty27.den))) (c63 : List ty36.den → List ty27.den → Int → Bool → List ty36.den → Option ((List ty36.den))) (p0 : List ty36.den) (p1 : Bool) (k : AV → Objs → Option R) (n : Nat) : afun tau B gl0 X35 (ent 38 (e38 c38) (ent 16 (e16 c16) (ent 63 (e63 c63) (gnil)))) ow Try.f35 [.c (.list 36 ty36 p0), .c (.bool p1)] [] k n = T35 B c38 c16 c63 p0 p1 (fun y => k (.c (.own 500)) [(500, .row 36 ty36 y)]) := by kernel_rfl
theorem nt35 {R R' : Type} (B : Ops) (c38 : List ty36.den → Option (Bool)) (c16 : List ty36.den → Option ((List ty27.den))) (c63 : List ty36.den → List ty27.den → Int → Bool → List ty36.den → Option ((List ty36.den))) (p0 : List ty36.den) (p1 : Bool) (k0 : ((List ty36.den)) → Option R') (k : R' → Option R) : T35 B c38 c16 c63 p0 p1 (fun y => ob (k0 y) k) = ob (T35 B c38 c16 c63 p0 p1 k0) k := by
  unfold T35
  repeat' first | exact rfl | apply nat_cond | (apply nat_ob; intro)
def F35 (c38 : List ty36.den → Option (Bool)) (c16 : List ty36.den → Option ((List ty27.den))) (c63 : List ty36.den → List ty27.den → Int → Bool → List ty36.den → Option ((List ty36.den))) (p0 : List ty36.den) (p1 : Bool) : Option ((List ty36.den)) := T35 Ops.std c38 c16 c63 p0 p1 some
theorem fo35 {R : Type} (c38 : List ty36.den → Option (Bool)) (c16 : List ty36.den → Option ((List ty27.den))) (c63 : List ty36.den → List ty27.den → Int → Bool → List ty36.den → Option ((List ty36.den))) (p0 : List ty36.den) (p1 : Bool) (k : AV → Objs → Option R) (n : Nat) : afun tau Ops.std gl0 X35 (ent 38 (e38 c38) (ent 16 (e16 c16) (ent 63 (e63 c63) (gnil)))) ow Try.f35 [.c (.list 36 ty36 p0), .c (.bool p1)] [] k n = ob (F35 c38 c16 c63 p0 p1) (fun y => k (.c (.own 500)) [(500, .row 36 ty36 y)]) := by rw [eq35]; exact nt35 Ops.std c38 c16 c63 p0 p1 some (fun y => k (.c (.own 500)) [(500, .row 36 ty36 y)])
def e35 {R : Type} (c : List ty36.den → Bool → Option ((List ty36.den))) : Ent R := fun args objs k =>
  oCons args fun a0 l0 => oC a0 fun x0 => cList 36 ty36 x0 fun p0 => oCons l0 fun a1 l1 => oC a1 fun x1 => cBool x1 fun p1 => oNil l1 <| oNilO objs <| ob (c p0 p1) fun y => k (.c (.own 500)) [(500, .row 36 ty36 y)]
abbrev Sp35 (c : List ty36.den → Bool → Option ((List ty36.den))) : Prop := ∀ (p0 : List ty36.den) (p1 : Bool) (y : (List ty36.den)), c p0 p1 = some y → Spec Try.prog gl0 35 [.c (.list 36 ty36 p0), .c (.bool p1)] [] (.c (.own 500)) [(500, .row 36 ty36 y)]
theorem ek35 {R : Type} {c : List ty36.den → Bool → Option ((List ty36.den))} (hs : Sp35 c) : EOk 35 (e35 (R := R) c) := fun args objs k r h => by
  unfold e35 at h
  obtain ⟨a0, l0, rfl, q1⟩ := oCons_some h
  obtain ⟨x0, rfl, q2⟩ := oC_some q1
  obtain ⟨p0, rfl, q3⟩ := cList_some q2
  obtain ⟨a1, l1, rfl, q4⟩ := oCons_some q3
  obtain ⟨x1, rfl, q5⟩ := oC_some q4
  obtain ⟨p1, rfl, q6⟩ := cBool_some q5
  obtain ⟨rfl, q7⟩ := oNil_some q6
  obtain ⟨rfl, q8⟩ := oNilO_some q7
  exact eok_of (hs p0 p1) q8
theorem sf35 {c38 : List ty36.den → Option (Bool)} {c16 : List ty36.den → Option ((List ty27.den))} {c63 : List ty36.den → List ty27.den → Int → Bool → List ty36.den → Option ((List ty36.den))} (h38 : Sp38 c38) (h16 : Sp16 c16) (h63 : Sp63 c63) : Sp35 (F35 c38 c16 c63) := fun p0 p1 y hy => by
  refine spec_of (G := ent 38 (e38 c38) (ent 16 (e16 c16) (ent 63 (e63 c63) (gnil)))) (ent_ok (ek38 h38) (ent_ok (ek16 h16) (ent_ok (ek63 h63) (gnil_ok)))) 1000000 (fn := Try.f35) (by kernel_rfl) (by kernel_rfl) (X := X35) (by kernel_rfl) ?_
  rw [fo35, hy]
  rfl
noncomputable def M35 : List ty36.den → Bool → Option ((List ty36.den)) := F35 M38 M16 M63
theorem sm35 : Sp35 M35 := sf35 sm38 sm16 sm63

/-! ### 12: lariat/lariatref13.Nnf -/
def X12 : Aux := ⟨[], []⟩
def T12 {R : Type} (B : Ops) (c35 : List ty36.den → Bool → Option ((List ty36.den))) (p0 : List ty36.den) (k : ((List ty36.den)) → Option R) : Option R :=
  ob (c35 p0 false) fun y0 =>
  k y0
theorem eq12 {R : Type} (B : Ops) (c35 : List ty36.den → Bool → Option ((List ty36.den))) (p0 : List ty36.den) (k : AV → Objs → Option R) (n : Nat) : afun tau B gl0 X12 (ent 35 (e35 c35) (gnil)) ow Try.f12 [.c (.list 36 ty36 p0)] [] k n = T12 B c35 p0 (fun y => k (.c (.own 500)) [(500, .row 36 ty36 y)]) := by kernel_rfl
theorem nt12 {R R' : Type} (B : Ops) (c35 : List ty36.den → Bool → Option ((List ty36.den))) (p0 : List ty36.den) (k0 : ((List ty36.den)) → Option R') (k : R' → Option R) : T12 B c35 p0 (fun y => ob (k0 y) k) = ob (T12 B c35 p0 k0) k := by
  unfold T12
  repeat' first | exact rfl | apply nat_cond | (apply nat_ob; intro)
def F12 (c35 : List ty36.den → Bool → Option ((List ty36.den))) (p0 : List ty36.den) : Option ((List ty36.den)) := T12 Ops.std c35 p0 some
theorem fo12 {R : Type} (c35 : List ty36.den → Bool → Option ((List ty36.den))) (p0 : List ty36.den) (k : AV → Objs → Option R) (n : Nat) : afun tau Ops.std gl0 X12 (ent 35 (e35 c35) (gnil)) ow Try.f12 [.c (.list 36 ty36 p0)] [] k n = ob (F12 c35 p0) (fun y => k (.c (.own 500)) [(500, .row 36 ty36 y)]) := by rw [eq12]; exact nt12 Ops.std c35 p0 some (fun y => k (.c (.own 500)) [(500, .row 36 ty36 y)])
def e12 {R : Type} (c : List ty36.den → Option ((List ty36.den))) : Ent R := fun args objs k =>
  oCons args fun a0 l0 => oC a0 fun x0 => cList 36 ty36 x0 fun p0 => oNil l0 <| oNilO objs <| ob (c p0) fun y => k (.c (.own 500)) [(500, .row 36 ty36 y)]
abbrev Sp12 (c : List ty36.den → Option ((List ty36.den))) : Prop := ∀ (p0 : List ty36.den) (y : (List ty36.den)), c p0 = some y → Spec Try.prog gl0 12 [.c (.list 36 ty36 p0)] [] (.c (.own 500)) [(500, .row 36 ty36 y)]
theorem ek12 {R : Type} {c : List ty36.den → Option ((List ty36.den))} (hs : Sp12 c) : EOk 12 (e12 (R := R) c) := fun args objs k r h => by
  unfold e12 at h
  obtain ⟨a0, l0, rfl, q1⟩ := oCons_some h
  obtain ⟨x0, rfl, q2⟩ := oC_some q1
  obtain ⟨p0, rfl, q3⟩ := cList_some q2
  obtain ⟨rfl, q4⟩ := oNil_some q3
  obtain ⟨rfl, q5⟩ := oNilO_some q4
  exact eok_of (hs p0) q5
theorem sf12 {c35 : List ty36.den → Bool → Option ((List ty36.den))} (h35 : Sp35 c35) : Sp12 (F12 c35) := fun p0 y hy => by
  refine spec_of (G := ent 35 (e35 c35) (gnil)) (ent_ok (ek35 h35) (gnil_ok)) 1000000 (fn := Try.f12) (by kernel_rfl) (by kernel_rfl) (X := X12) (by kernel_rfl) ?_
  rw [fo12, hy]
  rfl
noncomputable def M12 : List ty36.den → Option ((List ty36.den)) := F12 M35
theorem sm12 : Sp12 M12 := sf12 sm35

/-! ### 13: lariat/lariatref13.Negate -/
def X13 : Aux := ⟨[], []⟩
def T13 {R : Type} (B : Ops) (c35 : List ty36.den → Bool → Option ((List ty36.den))) (p0 : List ty36.den) (k : ((List ty36.den)) → Option R) : Option R :=
  ob (c35 p0 true) fun y0 =>
  k y0
theorem eq13 {R : Type} (B : Ops) (c35 : List ty36.den → Bool → Option ((List ty36.den))) (p0 : List ty36.den) (k : AV → Objs → Option R) (n : Nat) : afun tau B gl0 X13 (ent 35 (e35 c35) (gnil)) ow Try.f13 [.c (.list 36 ty36 p0)] [] k n = T13 B c35 p0 (fun y => k (.c (.own 500)) [(500, .row 36 ty36 y)]) := by kernel_rfl
theorem nt13 {R R' : Type} (B : Ops) (c35 : List ty36.den → Bool → Option ((List ty36.den))) (p0 : List ty36.den) (k0 : ((List ty36.den)) → Option R') (k : R' → Option R) : T13 B c35 p0 (fun y => ob (k0 y) k) = ob (T13 B c35 p0 k0) k := by
  unfold T13
  repeat' first | exact rfl | apply nat_cond | (apply nat_ob; intro)
def F13 (c35 : List ty36.den → Bool → Option ((List ty36.den))) (p0 : List ty36.den) : Option ((List ty36.den)) := T13 Ops.std c35 p0 some
theorem fo13 {R : Type} (c35 : List ty36.den → Bool → Option ((List ty36.den))) (p0 : List ty36.den) (k : AV → Objs → Option R) (n : Nat) : afun tau Ops.std gl0 X13 (ent 35 (e35 c35) (gnil)) ow Try.f13 [.c (.list 36 ty36 p0)] [] k n = ob (F13 c35 p0) (fun y => k (.c (.own 500)) [(500, .row 36 ty36 y)]) := by rw [eq13]; exact nt13 Ops.std c35 p0 some (fun y => k (.c (.own 500)) [(500, .row 36 ty36 y)])
def e13 {R : Type} (c : List ty36.den → Option ((List ty36.den))) : Ent R := fun args objs k =>
  oCons args fun a0 l0 => oC a0 fun x0 => cList 36 ty36 x0 fun p0 => oNil l0 <| oNilO objs <| ob (c p0) fun y => k (.c (.own 500)) [(500, .row 36 ty36 y)]
abbrev Sp13 (c : List ty36.den → Option ((List ty36.den))) : Prop := ∀ (p0 : List ty36.den) (y : (List ty36.den)), c p0 = some y → Spec Try.prog gl0 13 [.c (.list 36 ty36 p0)] [] (.c (.own 500)) [(500, .row 36 ty36 y)]
theorem ek13 {R : Type} {c : List ty36.den → Option ((List ty36.den))} (hs : Sp13 c) : EOk 13 (e13 (R := R) c) := fun args objs k r h => by
  unfold e13 at h
  obtain ⟨a0, l0, rfl, q1⟩ := oCons_some h
  obtain ⟨x0, rfl, q2⟩ := oC_some q1
  obtain ⟨p0, rfl, q3⟩ := cList_some q2
  obtain ⟨rfl, q4⟩ := oNil_some q3
  obtain ⟨rfl, q5⟩ := oNilO_some q4
  exact eok_of (hs p0) q5
theorem sf13 {c35 : List ty36.den → Bool → Option ((List ty36.den))} (h35 : Sp35 c35) : Sp13 (F13 c35) := fun p0 y hy => by
  refine spec_of (G := ent 35 (e35 c35) (gnil)) (ent_ok (ek35 h35) (gnil_ok)) 1000000 (fn := Try.f13) (by kernel_rfl) (by kernel_rfl) (X := X13) (by kernel_rfl) ?_
  rw [fo13, hy]
  rfl
noncomputable def M13 : List ty36.den → Option ((List ty36.den)) := F13 M35
theorem sm13 : Sp13 M13 := sf13 sm35

/-! ### 17: lariat/lariatref13.Is -/
def X17 : Aux := ⟨[(5, [1, 2, 5, 6, 7, 8, 9, 10, 11, 12, 13, 14, 15, 16, 17, 18, 19, 20, 21, 22, 23, 24, 25, 26, 27, 28, 29, 30, 31, 32, 33, 34, 35, 36, 37])], []⟩
inductive S17 where
  | l0 (v0_1 : Int) (v0_2 : List ty27.den)
def T17 {R : Type} (B : Ops) (c38 : List ty36.den → Option (Bool)) (c16 : List ty36.den → Option ((List ty27.den))) (p0 : List ty36.den) (again : S17 → Option R) (k : (Bool) → Option R) : Option S17 → Option R
  | none =>
    ob (c38 p0) fun y0 =>
    cond (!y0)
     (
      k false)
     (
      ob (c16 p0) fun y1 =>
      again (.l0 0 y1))
  | some (.l0 v0_1 v0_2) =>
    cond (Ops.lt B v0_1 (Nat.cast (List.length p0)))
     (
      cond (Ops.inb B v0_1 (List.length p0))
       (
        cond (Ops.eq B (Prod.fst (List.getD p0 (Int.toNat v0_1) (Ty.dflt ty36))) (7))
         (
          k false)
         (
          cond (Ops.eq B (Prod.fst (List.getD p0 (Int.toNat v0_1) (Ty.dflt ty36))) (11))
           (
            k false)
           (
            cond (Ops.eq B (Prod.fst (List.getD p0 (Int.toNat v0_1) (Ty.dflt ty36))) (12))
             (
              k false)
             (
              cond (Ops.eq B (Prod.fst (List.getD p0 (Int.toNat v0_1) (Ty.dflt ty36))) (4))
               (
                cond (Ops.inb B v0_1 (List.length v0_2))
                 (
                  cond (Ops.inb B (0) (List.length (List.getD v0_2 (Int.toNat v0_1) (Ty.dflt ty27))))
                   (
                    cond (Ops.inb B (List.getD (List.getD v0_2 (Int.toNat v0_1) (Ty.dflt ty27)) (Int.toNat (0)) (Ty.dflt (Ty.int IntKind.i64))) (List.length p0))
                     (
                      cond (!Ops.eq B (Prod.fst (List.getD p0 (Int.toNat (List.getD (List.getD v0_2 (Int.toNat v0_1) (Ty.dflt ty27)) (Int.toNat (0)) (Ty.dflt (Ty.int IntKind.i64)))) (Ty.dflt ty36))) (3))
                       (
                        k false)
                       (
                        again (.l0 (IntKind.wrap IntKind.i64 (v0_1 + 1)) v0_2)))
                     (
                      none))
                   (
                    none))
                 (
                  none))
               (
                again (.l0 (IntKind.wrap IntKind.i64 (v0_1 + 1)) v0_2))))))
       (
        none))
     (
      k true)
def E17 (p0 : List ty36.den) : S17 → List AV × Objs
  | .l0 v0_1 v0_2 => (mk 38 [(0, .c (.list 36 ty36 p0)), (3, .c (.own 3)), (4, .c (.int .i64 v0_1))], [(3, .row 27 ty27 v0_2)])
def I17 : S17 → Nat
  | .l0 _ _ => 0
theorem eq17 {R : Type} (B : Ops) (c38 : List ty36.den → Option (Bool)) (c16 : List ty36.den → Option ((List ty27.den))) (p0 : List ty36.den) (k : AV → Objs → Option R) (n : Nat) : afun tau B gl0 X17 (ent 38 (e38 c38) (ent 16 (e16 c16) (gnil))) ow Try.f17 [.c (.list 36 ty36 p0)] [] k n = T17 B c38 c16 p0 (fun s => aloop tau B gl0 X17 (ent 38 (e38 c38) (ent 16 (e16 c16) (gnil))) ow [] Try.f17 k (I17 s) (E17 p0 s) n) (fun y => k (.c (.bool y)) []) none := by kernel_rfl
theorem el17 {R : Type} (B : Ops) (c38 : List ty36.den → Option (Bool)) (c16 : List ty36.den → Option ((List ty27.den))) (p0 : List ty36.den) (k : AV → Objs → Option R) (n : Nat) : ∀ s, aloop tau B gl0 X17 (ent 38 (e38 c38) (ent 16 (e16 c16) (gnil))) ow [] Try.f17 k (I17 s) (E17 p0 s) (n + 1) = T17 B c38 c16 p0 (fun s => aloop tau B gl0 X17 (ent 38 (e38 c38) (ent 16 (e16 c16) (gnil))) ow [] Try.f17 k (I17 s) (E17 p0 s) n) (fun y => k (.c (.bool y)) []) (some s)
  | .l0 v0_1 v0_2 => by kernel_rfl
theorem nt17 {R R' : Type} (B : Ops) (c38 : List ty36.den → Option (Bool)) (c16 : List ty36.den → Option ((List ty27.den))) (p0 : List ty36.den) (again : S17 → Option R) (again' : S17 → Option R') (k0 : (Bool) → Option R') (k : R' → Option R) (h : ∀ s, again s = ob (again' s) k) : ∀ s, T17 B c38 c16 p0 again (fun y => ob (k0 y) k) s = ob (T17 B c38 c16 p0 again' k0 s) k
  | none => by unfold T17; repeat' first | exact rfl | exact h _ | apply nat_cond | (apply nat_ob; intro)
  | some (.l0 v0_1 v0_2) => by unfold T17; repeat' first | exact rfl | exact h _ | apply nat_cond | (apply nat_ob; intro)
def R17 (c38 : List ty36.den → Option (Bool)) (c16 : List ty36.den → Option ((List ty27.den))) (p0 : List ty36.den) : Nat → S17 → Option (Bool)
  | 0, _ => none
  | n + 1, s => T17 Ops.std c38 c16 p0 (R17 c38 c16 p0 n) some (some s)
theorem rr17 {R : Type} (c38 : List ty36.den → Option (Bool)) (c16 : List ty36.den → Option ((List ty27.den))) (p0 : List ty36.den) (k : AV → Objs → Option R) : ∀ (n : Nat) (s : S17), aloop tau Ops.std gl0 X17 (ent 38 (e38 c38) (ent 16 (e16 c16) (gnil))) ow [] Try.f17 k (I17 s) (E17 p0 s) n = ob (R17 c38 c16 p0 n s) (fun y => k (.c (.bool y)) [])
  | 0, s => by cases s <;> rfl
  | n + 1, s => by rw [el17]; exact nt17 Ops.std c38 c16 p0 _ _ some (fun y => k (.c (.bool y)) []) (rr17 c38 c16 p0 k n) (some s)
def F17 (c38 : List ty36.den → Option (Bool)) (c16 : List ty36.den → Option ((List ty27.den))) (p0 : List ty36.den) : Option (Bool) := T17 Ops.std c38 c16 p0 (R17 c38 c16 p0 1000000) some none
theorem fo17 {R : Type} (c38 : List ty36.den → Option (Bool)) (c16 : List ty36.den → Option ((List ty27.den))) (p0 : List ty36.den) (k : AV → Objs → Option R) : afun tau Ops.std gl0 X17 (ent 38 (e38 c38) (ent 16 (e16 c16) (gnil))) ow Try.f17 [.c (.list 36 ty36 p0)] [] k 1000000 = ob (F17 c38 c16 p0) (fun y => k (.c (.bool y)) []) := by rw [eq17]; exact nt17 Ops.std c38 c16 p0 _ _ some (fun y => k (.c (.bool y)) []) (rr17 c38 c16 p0 k 1000000) none
def e17 {R : Type} (c : List ty36.den → Option (Bool)) : Ent R := fun args objs k =>
  oCons args fun a0 l0 => oC a0 fun x0 => cList 36 ty36 x0 fun p0 => oNil l0 <| oNilO objs <| ob (c p0) fun y => k (.c (.bool y)) []
abbrev Sp17 (c : List ty36.den → Option (Bool)) : Prop := ∀ (p0 : List ty36.den) (y : Bool), c p0 = some y → Spec Try.prog gl0 17 [.c (.list 36 ty36 p0)] [] (.c (.bool y)) []
theorem ek17 {R : Type} {c : List ty36.den → Option (Bool)} (hs : Sp17 c) : EOk 17 (e17 (R := R) c) := fun args objs k r h => by
  unfold e17 at h
  obtain ⟨a0, l0, rfl, q1⟩ := oCons_some h
  obtain ⟨x0, rfl, q2⟩ := oC_some q1
  obtain ⟨p0, rfl, q3⟩ := cList_some q2
  obtain ⟨rfl, q4⟩ := oNil_some q3
  obtain ⟨rfl, q5⟩ := oNilO_some q4
  exact eok_of (hs p0) q5
theorem sf17 {c38 : List ty36.den → Option (Bool)} {c16 : List ty36.den → Option ((List ty27.den))} (h38 : Sp38 c38) (h16 : Sp16 c16) : Sp17 (F17 c38 c16) := fun p0 y hy => by
  refine spec_of (G := ent 38 (e38 c38) (ent 16 (e16 c16) (gnil))) (ent_ok (ek38 h38) (ent_ok (ek16 h16) (gnil_ok))) 1000000 (fn := Try.f17) (by kernel_rfl) (by kernel_rfl) (X := X17) (by kernel_rfl) ?_
  rw [fo17, hy]
  rfl
noncomputable def M17 : List ty36.den → Option (Bool) := F17 M38 M16
theorem sm17 : Sp17 M17 := sf17 sm38 sm16

/-! ### 64: lariat/lariatref13.is -/
def X64 : Aux := ⟨[], []⟩
def T64 {R : Type} (B : Ops) (p0 : List ty36.den) (p1 : Int) (k : (Bool) → Option R) : Option R :=
  cond (Ops.eq B (Nat.cast (List.length p0)) (1))
   (
    cond (Ops.inb B (0) (List.length p0))
     (
      k (Ops.eq B (Prod.fst (List.getD p0 (Int.toNat (0)) (Ty.dflt ty36))) p1))
     (
      none))
   (
    k false)
theorem eq64 {R : Type} (B : Ops) (p0 : List ty36.den) (p1 : Int) (k : AV → Objs → Option R) (n : Nat) : afun tau B gl0 X64 (gnil) ow Try.f64 [.c (.list 36 ty36 p0), .c (.int .i64 p1)] [] k n = T64 B p0 p1 (fun y => k (.c (.bool y)) []) := by kernel_rfl
theorem nt64 {R R' : Type} (B : Ops) (p0 : List ty36.den) (p1 : Int) (k0 : (Bool) → Option R') (k : R' → Option R) : T64 B p0 p1 (fun y => ob (k0 y) k) = ob (T64 B p0 p1 k0) k := by
  unfold T64
  repeat' first | exact rfl | apply nat_cond | (apply nat_ob; intro)
def F64 (p0 : List ty36.den) (p1 : Int) : Option (Bool) := T64 Ops.std p0 p1 some
theorem fo64 {R : Type} (p0 : List ty36.den) (p1 : Int) (k : AV → Objs → Option R) (n : Nat) : afun tau Ops.std gl0 X64 (gnil) ow Try.f64 [.c (.list 36 ty36 p0), .c (.int .i64 p1)] [] k n = ob (F64 p0 p1) (fun y => k (.c (.bool y)) []) := by rw [eq64]; exact nt64 Ops.std p0 p1 some (fun y => k (.c (.bool y)) [])
def e64 {R : Type} (c : List ty36.den → Int → Option (Bool)) : Ent R := fun args objs k =>
  oCons args fun a0 l0 => oC a0 fun x0 => cList 36 ty36 x0 fun p0 => oCons l0 fun a1 l1 => oC a1 fun x1 => cInt .i64 x1 fun p1 => oNil l1 <| oNilO objs <| ob (c p0 p1) fun y => k (.c (.bool y)) []
abbrev Sp64 (c : List ty36.den → Int → Option (Bool)) : Prop := ∀ (p0 : List ty36.den) (p1 : Int) (y : Bool), c p0 p1 = some y → Spec Try.prog gl0 64 [.c (.list 36 ty36 p0), .c (.int .i64 p1)] [] (.c (.bool y)) []
theorem ek64 {R : Type} {c : List ty36.den → Int → Option (Bool)} (hs : Sp64 c) : EOk 64 (e64 (R := R) c) := fun args objs k r h => by
  unfold e64 at h
  obtain ⟨a0, l0, rfl, q1⟩ := oCons_some h
  obtain ⟨x0, rfl, q2⟩ := oC_some q1
  obtain ⟨p0, rfl, q3⟩ := cList_some q2
  obtain ⟨a1, l1, rfl, q4⟩ := oCons_some q3
  obtain ⟨x1, rfl, q5⟩ := oC_some q4
  obtain ⟨p1, rfl, q6⟩ := cInt_some q5
  obtain ⟨rfl, q7⟩ := oNil_some q6
  obtain ⟨rfl, q8⟩ := oNilO_some q7
  exact eok_of (hs p0 p1) q8
theorem sf64 : Sp64 (F64) := fun p0 p1 y hy => by
  refine spec_of (G := gnil) (gnil_ok) 1000000 (fn := Try.f64) (by kernel_rfl) (by kernel_rfl) (X := X64) (by kernel_rfl) ?_
  rw [fo64, hy]
  rfl
noncomputable def M64 : List ty36.den → Int → Option (Bool) := F64
theorem sm64 : Sp64 M64 := sf64

/-! ### 101: lariat/lariatref13.one -/
def X101 : Aux := ⟨[], []⟩
def T101 {R : Type} (B : Ops) (p0 : Int) (k : ((List ty36.den)) → Option R) : Option R :=
  k ((p0, mt (Ty.den (Ty.pair (Ty.int IntKind.i64) (Ty.pair (Ty.int IntKind.i64) (Ty.pair Ty.str Ty.str))))) :: mt (Ty.den (Ty.pair (Ty.int IntKind.i64) (Ty.list (97) (Ty.pair (Ty.int IntKind.i64) (Ty.pair (Ty.int IntKind.i64) (Ty.pair Ty.str Ty.str)))))))
theorem eq101 {R : Type} (B : Ops) (p0 : Int) (k : AV → Objs → Option R) (n : Nat) : afun tau B gl0 X101 (gnil) ow Try.f101 [.c (.int .i64 p0)] [] k n = T101 B p0 (fun y => k (.c (.own 500)) [(500, .row 36 ty36 y)]) := by kernel_rfl
theorem nt101 {R R' : Type} (B : Ops) (p0 : Int) (k0 : ((List ty36.den)) → Option R') (k : R' → Option R) : T101 B p0 (fun y => ob (k0 y) k) = ob (T101 B p0 k0) k := by
  unfold T101
  repeat' first | exact rfl | apply nat_cond | (apply nat_ob; intro)
def F101 (p0 : Int) : Option ((List ty36.den)) := T101 Ops.std p0 some
theorem fo101 {R : Type} (p0 : Int) (k : AV → Objs → Option R) (n : Nat) : afun tau Ops.std gl0 X101 (gnil) ow Try.f101 [.c (.int .i64 p0)] [] k n = ob (F101 p0) (fun y => k (.c (.own 500)) [(500, .row 36 ty36 y)]) := by rw [eq101]; exact nt101 Ops.std p0 some (fun y => k (.c (.own 500)) [(500, .row 36 ty36 y)])
def e101 {R : Type} (c : Int → Option ((List ty36.den))) : Ent R := fun args objs k =>
  oCons args fun a0 l0 => oC a0 fun x0 => cInt .i64 x0 fun p0 => oNil l0 <| oNilO objs <| ob (c p0) fun y => k (.c (.own 500)) [(500, .row 36 ty36 y)]
abbrev Sp101 (c : Int → Option ((List ty36.den))) : Prop := ∀ (p0 : Int) (y : (List ty36.den)), c p0 = some y → Spec Try.prog gl0 101 [.c (.int .i64 p0)] [] (.c (.own 500)) [(500, .row 36 ty36 y)]
theorem ek101 {R : Type} {c : Int → Option ((List ty36.den))} (hs : Sp101 c) : EOk 101 (e101 (R := R) c) := fun args objs k r h => by
  unfold e101 at h
  obtain ⟨a0, l0, rfl, q1⟩ := oCons_some h
  obtain ⟨x0, rfl, q2⟩ := oC_some q1
  obtain ⟨p0, rfl, q3⟩ := cInt_some q2
  obtain ⟨rfl, q4⟩ := oNil_some q3
  obtain ⟨rfl, q5⟩ := oNilO_some q4
  exact eok_of (hs p0) q5
theorem sf101 : Sp101 (F101) := fun p0 y hy => by
  refine spec_of (G := gnil) (gnil_ok) 1000000 (fn := Try.f101) (by kernel_rfl) (by kernel_rfl) (X := X101) (by kernel_rfl) ?_
  rw [fo101, hy]
  rfl
noncomputable def M101 : Int → Option ((List ty36.den)) := F101
theorem sm101 : Sp101 M101 := sf101

/-! ### 36: lariat/lariatref7.Same -/
def X36 : Aux := ⟨[(4, [2, 3, 4, 6, 7, 8, 9, 10, 11, 12, 13, 14, 15, 16, 17, 18, 19, 20, 21, 22, 23, 24, 25])], [(6, .lin [0, 1, 2, 3, 4, 5, 6, 7, 8])]⟩
inductive S36 where
  | l0 (v0_2 : Int)
def T36 {R : Type} (B : Ops) (p0 : List ty97.den) (p1 : List ty97.den) (again : S36 → Option R) (k : (Bool) → Option R) : Option S36 → Option R
  | none =>
    cond (!Ops.eq B (Nat.cast (List.length p0)) (Nat.cast (List.length p1)))
     (
      k false)
     (
      again (.l0 0))
  | some (.l0 v0_2) =>
    cond (Ops.lt B v0_2 (Nat.cast (List.length p0)))
     (
      cond (Ops.inb B v0_2 (List.length p0))
       (
        cond (Ops.inb B v0_2 (List.length p1))
         (
          cond (!(Ops.eq B (Prod.fst (List.getD p0 (Int.toNat v0_2) (Ty.dflt ty97))) (Prod.fst (List.getD p1 (Int.toNat v0_2) (Ty.dflt ty97))) && (Ops.eq B (Prod.fst (Prod.snd (List.getD p0 (Int.toNat v0_2) (Ty.dflt ty97)))) (Prod.fst (Prod.snd (List.getD p1 (Int.toNat v0_2) (Ty.dflt ty97)))) && (Prod.fst (Prod.snd (Prod.snd (List.getD p0 (Int.toNat v0_2) (Ty.dflt ty97)))) == Prod.fst (Prod.snd (Prod.snd (List.getD p1 (Int.toNat v0_2) (Ty.dflt ty97)))) && (Prod.snd (Prod.snd (Prod.snd (List.getD p0 (Int.toNat v0_2) (Ty.dflt ty97)))) == Prod.snd (Prod.snd (Prod.snd (List.getD p1 (Int.toNat v0_2) (Ty.dflt ty97)))) && true)))))
           (
            k false)
           (
            again (.l0 (IntKind.wrap IntKind.i64 (v0_2 + 1)))))
         (
          none))
       (
        none))
     (
      k true)
def E36 (p0 : List ty97.den) (p1 : List ty97.den) : S36 → List AV × Objs
  | .l0 v0_2 => (mk 26 [(0, .c (.list 97 ty97 p0)), (1, .c (.list 97 ty97 p1)), (5, .c (.int .i64 v0_2))], [])
def I36 : S36 → Nat
  | .l0 _ => 0
theorem eq36 {R : Type} (B : Ops) (p0 : List ty97.den) (p1 : List ty97.den) (k : AV → Objs → Option R) (n : Nat) : afun tau B gl0 X36 (gnil) ow Try.f36 [.c (.list 97 ty97 p0), .c (.list 97 ty97 p1)] [] k n = T36 B p0 p1 (fun s => aloop tau B gl0 X36 (gnil) ow [] Try.f36 k (I36 s) (E36 p0 p1 s) n) (fun y => k (.c (.bool y)) []) none := by kernel_rfl
theorem el36 {R : Type} (B : Ops) (p0 : List ty97.den) (p1 : List ty97.den) (k : AV → Objs → Option R) (n : Nat) : ∀ s, aloop tau B gl0 X36 (gnil) ow [] Try.f36 k (I36 s) (E36 p0 p1 s) (n + 1) = T36 B p0 p1 (fun s => aloop tau B gl0 X36 (gnil) ow [] Try.f36 k (I36 s) (E36 p0 p1 s) n) (fun y => k (.c (.bool y)) []) (some s)
  | .l0 v0_2 => by kernel_rfl
theorem nt36 {R R' : Type} (B : Ops) (p0 : List ty97.den) (p1 : List ty97.den) (again : S36 → Option R) (again' : S36 → Option R') (k0 : (Bool) → Option R') (k : R' → Option R) (h : ∀ s, again s = ob (again' s) k) : ∀ s, T36 B p0 p1 again (fun y => ob (k0 y) k) s = ob (T36 B p0 p1 again' k0 s) k
  | none => by unfold T36; repeat' first | exact rfl | exact h _ | apply nat_cond | (apply nat_ob; intro)
  | some (.l0 v0_2) => by unfold T36; repeat' first | exact rfl | exact h _ | apply nat_cond | (apply nat_ob; intro)
def R36 (p0 : List ty97.den) (p1 : List ty97.den) : Nat → S36 → Option (Bool)
  | 0, _ => none
  | n + 1, s => T36 Ops.std p0 p1 (R36 p0 p1 n) some (some s)
theorem rr36 {R : Type} (p0 : List ty97.den) (p1 : List ty97.den) (k : AV → Objs → Option R) : ∀ (n : Nat) (s : S36), aloop tau Ops.std gl0 X36 (gnil) ow [] Try.f36 k (I36 s) (E36 p0 p1 s) n = ob (R36 p0 p1 n s) (fun y => k (.c (.bool y)) [])
  | 0, s => by cases s <;> rfl
  | n + 1, s => by rw [el36]; exact nt36 Ops.std p0 p1 _ _ some (fun y => k (.c (.bool y)) []) (rr36 p0 p1 k n) (some s)
def F36 (p0 : List ty97.den) (p1 : List ty97.den) : Option (Bool) := T36 Ops.std p0 p1 (R36 p0 p1 1000000) some none
theorem fo36 {R : Type} (p0 : List ty97.den) (p1 : List ty97.den) (k : AV → Objs → Option R) : afun tau Ops.std gl0 X36 (gnil) ow Try.f36 [.c (.list 97 ty97 p0), .c (.list 97 ty97 p1)] [] k 1000000 = ob (F36 p0 p1) (fun y => k (.c (.bool y)) []) := by rw [eq36]; exact nt36 Ops.std p0 p1 _ _ some (fun y => k (.c (.bool y)) []) (rr36 p0 p1 k 1000000) none
def e36 {R : Type} (c : List ty97.den → List ty97.den → Option (Bool)) : Ent R := fun args objs k =>
  oCons args fun a0 l0 => oC a0 fun x0 => cList 97 ty97 x0 fun p0 => oCons l0 fun a1 l1 => oC a1 fun x1 => cList 97 ty97 x1 fun p1 => oNil l1 <| oNilO objs <| ob (c p0 p1) fun y => k (.c (.bool y)) []
abbrev Sp36 (c : List ty97.den → List ty97.den → Option (Bool)) : Prop := ∀ (p0 : List ty97.den) (p1 : List ty97.den) (y : Bool), c p0 p1 = some y → Spec Try.prog gl0 36 [.c (.list 97 ty97 p0), .c (.list 97 ty97 p1)] [] (.c (.bool y)) []
theorem ek36 {R : Type} {c : List ty97.den → List ty97.den → Option (Bool)} (hs : Sp36 c) : EOk 36 (e36 (R := R) c) := fun args objs k r h => by
  unfold e36 at h
  obtain ⟨a0, l0, rfl, q1⟩ := oCons_some h
  obtain ⟨x0, rfl, q2⟩ := oC_some q1
  obtain ⟨p0, rfl, q3⟩ := cList_some q2
  obtain ⟨a1, l1, rfl, q4⟩ := oCons_some q3
  obtain ⟨x1, rfl, q5⟩ := oC_some q4
  obtain ⟨p1, rfl, q6⟩ := cList_some q5
  obtain ⟨rfl, q7⟩ := oNil_some q6
  obtain ⟨rfl, q8⟩ := oNilO_some q7
  exact eok_of (hs p0 p1) q8
theorem sf36 : Sp36 (F36) := fun p0 p1 y hy => by
  refine spec_of (G := gnil) (gnil_ok) 1000000 (fn := Try.f36) (by kernel_rfl) (by kernel_rfl) (X := X36) (by kernel_rfl) ?_
  rw [fo36, hy]
  rfl
noncomputable def M36 : List ty97.den → List ty97.den → Option (Bool) := F36
theorem sm36 : Sp36 M36 := sf36

/-! ### 14: lariat/lariatref13.Same -/
def X14 : Aux := ⟨[(4, [2, 3, 4, 6, 7, 8, 9, 10, 11, 12, 13, 14, 15, 16, 17, 18, 19, 20, 21, 22, 23, 24, 25, 26, 27, 28, 29, 30, 31, 32, 33, 34, 35, 36, 37, 38, 39, 40, 41])], [(6, .lin [0, 1, 2, 3, 4, 5, 6, 7, 8, 9, 10, 11, 12, 13, 14, 15, 16, 17, 18, 19, 20, 21, 22, 23, 24])]⟩
inductive S14 where
  | l0 (v0_2 : Int)
def T14 {R : Type} (B : Ops) (c36 : List ty97.den → List ty97.den → Option (Bool)) (p0 : List ty36.den) (p1 : List ty36.den) (again : S14 → Option R) (k : (Bool) → Option R) : Option S14 → Option R
  | none =>
    cond (!Ops.eq B (Nat.cast (List.length p0)) (Nat.cast (List.length p1)))
     (
      k false)
     (
      again (.l0 0))
  | some (.l0 v0_2) =>
    cond (Ops.lt B v0_2 (Nat.cast (List.length p0)))
     (
      cond (Ops.inb B v0_2 (List.length p0))
       (
        cond (Ops.inb B v0_2 (List.length p1))
         (
          cond (!Ops.eq B (Prod.fst (List.getD p0 (Int.toNat v0_2) (Ty.dflt ty36))) (Prod.fst (List.getD p1 (Int.toNat v0_2) (Ty.dflt ty36))))
           (
            k false)
           (
            cond (Ops.inb B v0_2 (List.length p0))
             (
              cond (Ops.inb B v0_2 (List.length p1))
               (
                ob (c36 (Prod.snd (List.getD p0 (Int.toNat v0_2) (Ty.dflt ty36))) (Prod.snd (List.getD p1 (Int.toNat v0_2) (Ty.dflt ty36)))) fun y0 =>
                cond (!y0)
                 (
                  k false)
                 (
                  again (.l0 (IntKind.wrap IntKind.i64 (v0_2 + 1)))))
               (
                none))
             (
              none)))
         (
          none))
       (
        none))
     (
      k true)
def E14 (p0 : List ty36.den) (p1 : List ty36.den) : S14 → List AV × Objs
  | .l0 v0_2 => (mk 42 [(0, .c (.list 36 ty36 p0)), (1, .c (.list 36 ty36 p1)), (5, .c (.int .i64 v0_2))], [])
def I14 : S14 → Nat
  | .l0 _ => 0
theorem eq14 {R : Type} (B : Ops) (c36 : List ty97.den → List ty97.den → Option (Bool)) (p0 : List ty36.den) (p1 : List ty36.den) (k : AV → Objs → Option R) (n : Nat) : afun tau B gl0 X14 (ent 36 (e36 c36) (gnil)) ow Try.f14 [.c (.list 36 ty36 p0), .c (.list 36 ty36 p1)] [] k n = T14 B c36 p0 p1 (fun s => aloop tau B gl0 X14 (ent 36 (e36 c36) (gnil)) ow [] Try.f14 k (I14 s) (E14 p0 p1 s) n) (fun y => k (.c (.bool y)) []) none := by kernel_rfl
theorem el14 {R : Type} (B : Ops) (c36 : List ty97.den → List ty97.den → Option (Bool)) (p0 : List ty36.den) (p1 : List ty36.den) (k : AV → Objs → Option R) (n : Nat) : ∀ s, aloop tau B gl0 X14 (ent 36 (e36 c36) (gnil)) ow [] Try.f14 k (I14 s) (E14 p0 p1 s) (n + 1) = T14 B c36 p0 p1 (fun s => aloop tau B gl0 X14 (ent 36 (e36 c36) (gnil)) ow [] Try.f14 k (I14 s) (E14 p0 p1 s) n) (fun y => k (.c (.bool y)) []) (some s)
  | .l0 v0_2 => by kernel_rfl
theorem nt14 {R R' : Type} (B : Ops) (c36 : List ty97.den → List ty97.den → Option (Bool)) (p0 : List ty36.den) (p1 : List ty36.den) (again : S14 → Option R) (again' : S14 → Option R') (k0 : (Bool) → Option R') (k : R' → Option R) (h : ∀ s, again s = ob (again' s) k) : ∀ s, T14 B c36 p0 p1 again (fun y => ob (k0 y) k) s = ob (T14 B c36 p0 p1 again' k0 s) k
  | none => by unfold T14; repeat' first | exact rfl | exact h _ | apply nat_cond | (apply nat_ob; intro)
  | some (.l0 v0_2) => by unfold T14; repeat' first | exact rfl | exact h _ | apply nat_cond | (apply nat_ob; intro)
def R14 (c36 : List ty97.den → List ty97.den → Option (Bool)) (p0 : List ty36.den) (p1 : List ty36.den) : Nat → S14 → Option (Bool)
  | 0, _ => none
  | n + 1, s => T14 Ops.std c36 p0 p1 (R14 c36 p0 p1 n) some (some s)
theorem rr14 {R : Type} (c36 : List ty97.den → List ty97.den → Option (Bool)) (p0 : List ty36.den) (p1 : List ty36.den) (k : AV → Objs → Option R) : ∀ (n : Nat) (s : S14), aloop tau Ops.std gl0 X14 (ent 36 (e36 c36) (gnil)) ow [] Try.f14 k (I14 s) (E14 p0 p1 s) n = ob (R14 c36 p0 p1 n s) (fun y => k (.c (.bool y)) [])
  | 0, s => by cases s <;> rfl
  | n + 1, s => by rw [el14]; exact nt14 Ops.std c36 p0 p1 _ _ some (fun y => k (.c (.bool y)) []) (rr14 c36 p0 p1 k n) (some s)
def F14 (c36 : List ty97.den → List ty97.den → Option (Bool)) (p0 : List ty36.den) (p1 : List ty36.den) : Option (Bool) := T14 Ops.std c36 p0 p1 (R14 c36 p0 p1 1000000) some none
theorem fo14 {R : Type} (c36 : List ty97.den → List ty97.den → Option (Bool)) (p0 : List ty36.den) (p1 : List ty36.den) (k : AV → Objs → Option R) : afun tau Ops.std gl0 X14 (ent 36 (e36 c36) (gnil)) ow Try.f14 [.c (.list 36 ty36 p0), .c (.list 36 ty36 p1)] [] k 1000000 = ob (F14 c36 p0 p1) (fun y => k (.c (.bool y)) []) := by rw [eq14]; exact nt14 Ops.std c36 p0 p1 _ _ some (fun y => k (.c (.bool y)) []) (rr14 c36 p0 p1 k 1000000) none
def e14 {R : Type} (c : List ty36.den → List ty36.den → Option (Bool)) : Ent R := fun args objs k =>
  oCons args fun a0 l0 => oC a0 fun x0 => cList 36 ty36 x0 fun p0 => oCons l0 fun a1 l1 => oC a1 fun x1 => cList 36 ty36 x1 fun p1 => oNil l1 <| oNilO objs <| ob (c p0 p1) fun y => k (.c (.bool y)) []
abbrev Sp14 (c : List ty36.den → List ty36.den → Option (Bool)) : Prop := ∀ (p0 : List ty36.den) (p1 : List ty36.den) (y : Bool), c p0 p1 = some y → Spec Try.prog gl0 14 [.c (.list 36 ty36 p0), .c (.list 36 ty36 p1)] [] (.c (.bool y)) []
theorem ek14 {R : Type} {c : List ty36.den → List ty36.den → Option (Bool)} (hs : Sp14 c) : EOk 14 (e14 (R := R) c) := fun args objs k r h => by
  unfold e14 at h
  obtain ⟨a0, l0, rfl, q1⟩ := oCons_some h
  obtain ⟨x0, rfl, q2⟩ := oC_some q1
  obtain ⟨p0, rfl, q3⟩ := cList_some q2
  obtain ⟨a1, l1, rfl, q4⟩ := oCons_some q3
  obtain ⟨x1, rfl, q5⟩ := oC_some q4
  obtain ⟨p1, rfl, q6⟩ := cList_some q5
  obtain ⟨rfl, q7⟩ := oNil_some q6
  obtain ⟨rfl, q8⟩ := oNilO_some q7
  exact eok_of (hs p0 p1) q8
theorem sf14 {c36 : List ty97.den → List ty97.den → Option (Bool)} (h36 : Sp36 c36) : Sp14 (F14 c36) := fun p0 p1 y hy => by
  refine spec_of (G := ent 36 (e36 c36) (gnil)) (ent_ok (ek36 h36) (gnil_ok)) 1000000 (fn := Try.f14) (by kernel_rfl) (by kernel_rfl) (X := X14) (by kernel_rfl) ?_
  rw [fo14, hy]
  rfl
noncomputable def M14 : List ty36.den → List ty36.den → Option (Bool) := F14 M36
theorem sm14 : Sp14 M14 := sf14 sm36

/-! ### 102: lariat/lariatref13.inner -/
def X102 : Aux := ⟨[], []⟩
def T102 {R : Type} (B : Ops) (c16 : List ty36.den → Option ((List ty27.den))) (c14 : List ty36.den → List ty36.den → Option (Bool)) (p0 : List ty36.den) (p1 : List ty36.den) (p2 : Int) (k : (Bool) → Option R) : Option R :=
  cond (Ops.eq B (Nat.cast (List.length p1)) (0))
   (
    k false)
   (
    cond (Ops.inb B (IntKind.wrap IntKind.i64 (Nat.cast (List.length p1) - 1)) (List.length p1))
     (
      cond (!Ops.eq B (Prod.fst (List.getD p1 (Int.toNat (IntKind.wrap IntKind.i64 (Nat.cast (List.length p1) - 1))) (Ty.dflt ty36))) p2)
       (
        k false)
       (
        ob (c16 p1) fun y0 =>
        cond (Ops.inb B (IntKind.wrap IntKind.i64 (Nat.cast (List.length p1) - 1)) (List.length y0))
         (
          cond (Ops.inb B (0) (List.length (List.getD y0 (Int.toNat (IntKind.wrap IntKind.i64 (Nat.cast (List.length p1) - 1))) (Ty.dflt ty27))))
           (
            cond (Ops.inb B (IntKind.wrap IntKind.i64 (List.getD (List.getD y0 (Int.toNat (IntKind.wrap IntKind.i64 (Nat.cast (List.length p1) - 1))) (Ty.dflt ty27)) (Int.toNat (0)) (Ty.dflt (Ty.int IntKind.i64)) + 1)) (List.length p1 + 1))
             (
              ob (c14 p0 (List.drop (0) (List.take (Int.toNat (IntKind.wrap IntKind.i64 (List.getD (List.getD y0 (Int.toNat (IntKind.wrap IntKind.i64 (Nat.cast (List.length p1) - 1))) (Ty.dflt ty27)) (Int.toNat (0)) (Ty.dflt (Ty.int IntKind.i64)) + 1))) p1))) fun y1 =>
              k y1)
             (
              none))
           (
            none))
         (
          none)))
     (
      none))
theorem eq102 {R : Type} (B : Ops) (c16 : List ty36.den → Option ((List ty27.den))) (c14 : List ty36.den → List ty36.den → Option (Bool)) (p0 : List ty36.den) (p1 : List ty36.den) (p2 : Int) (k : AV → Objs → Option R) (n : Nat) : afun tau B gl0 X102 (ent 16 (e16 c16) (ent 14 (e14 c14) (gnil))) ow Try.f102 [.c (.list 36 ty36 p0), .c (.list 36 ty36 p1), .c (.int .i64 p2)] [] k n = T102 B c16 c14 p0 p1 p2 (fun y => k (.c (.bool y)) []) := by kernel_rfl
theorem nt102 {R R' : Type} (B : Ops) (c16 : List ty36.den → Option ((List ty27.den))) (c14 : List ty36.den → List ty36.den → Option (Bool)) (p0 : List ty36.den) (p1 : List ty36.den) (p2 : Int) (k0 : (Bool) → Option R') (k : R' → Option R) : T102 B c16 c14 p0 p1 p2 (fun y => ob (k0 y) k) = ob (T102 B c16 c14 p0 p1 p2 k0) k := by
  unfold T102
  repeat' first | exact rfl | apply nat_cond | (apply nat_ob; intro)
def F102 (c16 : List ty36.den → Option ((List ty27.den))) (c14 : List ty36.den → List ty36.den → Option (Bool)) (p0 : List ty36.den) (p1 : List ty36.den) (p2 : Int) : Option (Bool) := T102 Ops.std c16 c14 p0 p1 p2 some
theorem fo102 {R : Type} (c16 : List ty36.den → Option ((List ty27.den))) (c14 : List ty36.den → List ty36.den → Option (Bool)) (p0 : List ty36.den) (p1 : List ty36.den) (p2 : Int) (k : AV → Objs → Option R) (n : Nat) : afun tau Ops.std gl0 X102 (ent 16 (e16 c16) (ent 14 (e14 c14) (gnil))) ow Try.f102 [.c (.list 36 ty36 p0), .c (.list 36 ty36 p1), .c (.int .i64 p2)] [] k n = ob (F102 c16 c14 p0 p1 p2) (fun y => k (.c (.bool y)) []) := by rw [eq102]; exact nt102 Ops.std c16 c14 p0 p1 p2 some (fun y => k (.c (.bool y)) [])
def e102 {R : Type} (c : List ty36.den → List ty36.den → Int → Option (Bool)) : Ent R := fun args objs k =>
  oCons args fun a0 l0 => oC a0 fun x0 => cList 36 ty36 x0 fun p0 => oCons l0 fun a1 l1 => oC a1 fun x1 => cList 36 ty36 x1 fun p1 => oCons l1 fun a2 l2 => oC a2 fun x2 => cInt .i64 x2 fun p2 => oNil l2 <| oNilO objs <| ob (c p0 p1 p2) fun y => k (.c (.bool y)) []
abbrev Sp102 (c : List ty36.den → List ty36.den → Int → Option (Bool)) : Prop := ∀ (p0 : List ty36.den) (p1 : List ty36.den) (p2 : Int) (y : Bool), c p0 p1 p2 = some y → Spec Try.prog gl0 102 [.c (.list 36 ty36 p0), .c (.list 36 ty36 p1), .c (.int .i64 p2)] [] (.c (.bool y)) []
theorem ek102 {R : Type} {c : List ty36.den → List ty36.den → Int → Option (Bool)} (hs : Sp102 c) : EOk 102 (e102 (R := R) c) := fun args objs k r h => by
  unfold e102 at h
  obtain ⟨a0, l0, rfl, q1⟩ := oCons_some h
  obtain ⟨x0, rfl, q2⟩ := oC_some q1
  obtain ⟨p0, rfl, q3⟩ := cList_some q2
  obtain ⟨a1, l1, rfl, q4⟩ := oCons_some q3
  obtain ⟨x1, rfl, q5⟩ := oC_some q4
  obtain ⟨p1, rfl, q6⟩ := cList_some q5
  obtain ⟨a2, l2, rfl, q7⟩ := oCons_some q6
  obtain ⟨x2, rfl, q8⟩ := oC_some q7
  obtain ⟨p2, rfl, q9⟩ := cInt_some q8
  obtain ⟨rfl, q10⟩ := oNil_some q9
  obtain ⟨rfl, q11⟩ := oNilO_some q10
  exact eok_of (hs p0 p1 p2) q11
theorem sf102 {c16 : List ty36.den → Option ((List ty27.den))} {c14 : List ty36.den → List ty36.den → Option (Bool)} (h16 : Sp16 c16) (h14 : Sp14 c14) : Sp102 (F102 c16 c14) := fun p0 p1 p2 y hy => by
  refine spec_of (G := ent 16 (e16 c16) (ent 14 (e14 c14) (gnil))) (ent_ok (ek16 h16) (ent_ok (ek14 h14) (gnil_ok))) 1000000 (fn := Try.f102) (by kernel_rfl) (by kernel_rfl) (X := X102) (by kernel_rfl) ?_
  rw [fo102, hy]
  rfl
noncomputable def M102 : List ty36.den → List ty36.den → Int → Option (Bool) := F102 M16 M14
theorem sm102 : Sp102 M102 := sf102 sm16 sm14

/-! ### 65: lariat/lariatref13.joined -/
def X65 : Aux := ⟨[(1000006, [3, 4, 5, 6, 9, 10, 11, 12, 13, 14, 15, 16, 17, 18, 19, 20, 21, 22, 23, 24, 25, 26, 27, 28, 29, 30, 31, 32, 33, 34, 35, 36, 37, 38, 39, 40, 41, 42, 43, 44, 45, 46, 47, 48, 49, 50, 51, 52, 53, 54, 55, 56, 57, 58, 59, 60, 61, 62, 63, 64, 65, 66, 67, 68, 69, 70, 71, 72, 73, 74, 75, 76, 77, 78, 79, 80, 81, 82]), (1000017, [3, 4, 5, 6, 7, 8, 9, 10, 11, 12, 13, 14, 15, 16, 17, 18, 19, 20, 21, 22, 23, 24, 25, 26, 27, 28, 29, 30, 31, 32, 33, 34, 35, 36, 37, 38, 39, 40, 41, 42, 43, 44, 45, 46, 47, 48, 49, 50, 51, 52, 53, 54, 55, 56, 57, 58, 59, 60, 61, 62, 63, 64, 65, 66, 67, 68, 69, 70, 71, 72, 73, 74, 75, 76, 77, 78, 79, 80, 81, 82]), (2000000, [])], []⟩
inductive S65 where
  | l1006 (v1006_3 : Int) (v1006_4 : Int)
  | l1017
def T65 {R : Type} (B : Ops) (c64 : List ty36.den → Int → Option (Bool)) (c101 : Int → Option ((List ty36.den))) (c14 : List ty36.den → List ty36.den → Option (Bool)) (c102 : List ty36.den → List ty36.den → Int → Option (Bool)) (p0 : Int) (p1 : List ty36.den) (p2 : List ty36.den) (again : S65 → Option R) (k : ((List ty36.den)) → Option R) : Option S65 → Option R
  | none =>
    cond (Ops.eq B p0 (6))
     (
      again (.l1006 2 1))
     (
      cond (Ops.eq B p0 (10))
       (
        again (.l1006 2 1))
       (
        again (.l1006 1 2)))
  | some (.l1006 v1006_3 v1006_4) =>
    cond (Ops.eq B p0 (5))
     (
      ob (c64 p1 v1006_3) fun y0 =>
      cond (y0)
       (
        k p2)
       (
        ob (c64 p2 v1006_3) fun y1 =>
        cond (y1)
         (
          k p1)
         (
          ob (c64 p1 v1006_4) fun y2 =>
          cond (y2)
           (
            ob (c101 v1006_4) fun y3 =>
            k y3)
           (
            ob (c64 p2 v1006_4) fun y3 =>
            cond (y3)
             (
              ob (c101 v1006_4) fun y4 =>
              k y4)
             (
              ob (c14 p1 p2) fun y4 =>
              cond (y4)
               (
                k p1)
               (
                again (.l1017)))))))
     (
      cond (Ops.eq B p0 (6))
       (
        ob (c64 p1 v1006_3) fun y0 =>
        cond (y0)
         (
          k p2)
         (
          ob (c64 p2 v1006_3) fun y1 =>
          cond (y1)
           (
            k p1)
           (
            ob (c64 p1 v1006_4) fun y2 =>
            cond (y2)
             (
              ob (c101 v1006_4) fun y3 =>
              k y3)
             (
              ob (c64 p2 v1006_4) fun y3 =>
              cond (y3)
               (
                ob (c101 v1006_4) fun y4 =>
                k y4)
               (
                ob (c14 p1 p2) fun y4 =>
                cond (y4)
                 (
                  k p1)
                 (
                  again (.l1017)))))))
       (
        ob (c64 p2 (1)) fun y0 =>
        cond (y0)
         (
          k p2)
         (
          ob (c64 p2 (2)) fun y1 =>
          cond (y1)
           (
            k p2)
           (
            ob (c64 p1 v1006_4) fun y2 =>
            cond (y2)
             (
              k p2)
             (
              ob (c14 p1 p2) fun y3 =>
              cond (y3)
               (
                k p2)
               (
                ob (c102 p1 p2 p0) fun y4 =>
                cond (y4)
                 (
                  k p2)
                 (
                  again (.l1017))))))))
  | some (.l1017) =>
    cond (Ops.lim B (List.length (mt (Ty.den (Ty.pair (Ty.int IntKind.i64) (Ty.list (97) (Ty.pair (Ty.int IntKind.i64) (Ty.pair (Ty.int IntKind.i64) (Ty.pair Ty.str Ty.str))))))) + List.length p1) (32))
     (
      cond (Ops.lim B (List.length (mt (Ty.den (Ty.pair (Ty.int IntKind.i64) (Ty.list (97) (Ty.pair (Ty.int IntKind.i64) (Ty.pair (Ty.int IntKind.i64) (Ty.pair Ty.str Ty.str)))))) ++ p1) + List.length p2) (32))
       (
        cond (Ops.lim B (List.length (mt (Ty.den (Ty.pair (Ty.int IntKind.i64) (Ty.list (97) (Ty.pair (Ty.int IntKind.i64) (Ty.pair (Ty.int IntKind.i64) (Ty.pair Ty.str Ty.str)))))) ++ p1 ++ p2) + List.length ((p0, mt (Ty.den (Ty.pair (Ty.int IntKind.i64) (Ty.pair (Ty.int IntKind.i64) (Ty.pair Ty.str Ty.str))))) :: mt (Ty.den (Ty.pair (Ty.int IntKind.i64) (Ty.list (97) (Ty.pair (Ty.int IntKind.i64) (Ty.pair (Ty.int IntKind.i64) (Ty.pair Ty.str Ty.str)))))))) (32))
         (
          k (mt (Ty.den (Ty.pair (Ty.int IntKind.i64) (Ty.list (97) (Ty.pair (Ty.int IntKind.i64) (Ty.pair (Ty.int IntKind.i64) (Ty.pair Ty.str Ty.str)))))) ++ p1 ++ p2 ++ (p0, mt (Ty.den (Ty.pair (Ty.int IntKind.i64) (Ty.pair (Ty.int IntKind.i64) (Ty.pair Ty.str Ty.str))))) :: mt (Ty.den (Ty.pair (Ty.int IntKind.i64) (Ty.list (97) (Ty.pair (Ty.int IntKind.i64) (Ty.pair (Ty.int IntKind.i64) (Ty.pair Ty.str Ty.str))))))))
         (
          none))
       (
        none))
     (
      none)
def E65 (p0 : Int) (p1 : List ty36.den) (p2 : List ty36.den) : S65 → List AV × Objs
  | .l1006 v1006_3 v1006_4 => (mk 83 [(0, .c (.int .i64 p0)), (1, .c (.list 36 ty36 p1)), (2, .c (.list 36 ty36 p2)), (7, .c (.int .i64 v1006_3)), (8, .c (.int .i64 v1006_4))], [])
  | .l1017 => (mk 83 [(0, .c (.int .i64 p0)), (1, .c (.list 36 ty36 p1)), (2, .c (.list 36 ty36 p2))], [])
def I65 : S65 → Nat
  | .l1006 _ _ => 1006
  | .l1017 => 1017
theorem eq65 {R : Type} (B : Ops) (c64 : List ty36.den → Int → Option (Bool)) (c101 : Int → Option ((List ty36.den))) (c14 : List ty36.den → List ty36.den → Option (Bool)) (c102 : List ty36.den → List ty36.den → Int → Option (Bool)) (p0 : Int) (p1 : List ty36.den) (p2 : List ty36.den) (k : AV → Objs → Option R) (n : Nat) : afun tau B gl0 X65 (ent 64 (e64 c64) (ent 101 (e101 c101) (ent 14 (e14 c14) (ent 102 (e102 c102) (gnil))))) ow Try.f65 [.c (.int .i64 p0), .c (.list 36 ty36 p1), .c (.list 36 ty36 p2)] [] k n = T65 B c64 c101 c14 c102 p0 p1 p2 (fun s => aloop tau B gl0 X65 (ent 64 (e64 c64) (ent 101 (e101 c101) (ent 14 (e14 c14) (ent 102 (e102 c102) (gnil))))) ow [] Try.f65 k (I65 s) (E65 p0 p1 p2 s) n) (fun y => k (.c (.list 36 ty36 y)) []) none := by kernel_rfl
theorem el65 {R : Type} (B : Ops) (c64 : List ty36.den → Int → Option (Bool)) (c101 : Int → Option ((List ty36.den))) (c14 : List ty36.den → List ty36.den → Option (Bool)) (c102 : List ty36.den → List ty36.den → Int → Option (Bool)) (p0 : Int) (p1 : List ty36.den) (p2 : List ty36.den) (k : AV → Objs → Option R) (n : Nat) : ∀ s, aloop tau B gl0 X65 (ent 64 (e64 c64) (ent 101 (e101 c101) (ent 14 (e14 c14) (ent 102 (e102 c102) (gnil))))) ow [] Try.f65 k (I65 s) (E65 p0 p1 p2 s) (n + 1) = T65 B c64 c101 c14 c102 p0 p1 p2 (fun s => aloop tau B gl0 X65 (ent 64 (e64 c64) (ent 101 (e101 c101) (ent 14 (e14 c14) (ent 102 (e102 c102) (gnil))))) ow [] Try.f65 k (I65 s) (E65 p0 p1 p2 s) n) (fun y => k (.c (.list 36 ty36 y)) []) (some s)
  | .l1006 v1006_3 v1006_4 => by kernel_rfl
  | .l1017 => by kernel_rfl
theorem nt65 {R R' : Type} (B : Ops) (c64 : List ty36.den → Int → Option (Bool)) (c101 : Int → Option ((List ty36.den))) (c14 : List ty36.den → List ty36.den → Option (Bool)) (c102 : List ty36.den → List ty36.den → Int → Option (Bool)) (p0 : Int) (p1 : List ty36.den) (p2 : List ty36.den) (again : S65 → Option R) (again' : S65 → Option R') (k0 : ((List ty36.den)) → Option R') (k : R' → Option R) (h : ∀ s, again s = ob (again' s) k) : ∀ s, T65 B c64 c101 c14 c102 p0 p1 p2 again (fun y => ob (k0 y) k) s = ob (T65 B c64 c101 c14 c102 p0 p1 p2 again' k0 s) k
  | none => by unfold T65; repeat' first | exact rfl | exact h _ | apply nat_cond | (apply nat_ob; intro)
  | some (.l1006 v1006_3 v1006_4) => by unfold T65; repeat' first | exact rfl | exact h _ | apply nat_cond | (apply nat_ob; intro)
  | some (.l1017) => by unfold T65; repeat' first | exact rfl | exact h _ | apply nat_cond | (apply nat_ob; intro)
def R65 (c64 : List ty36.den → Int → Option (Bool)) (c101 : Int → Option ((List ty36.den))) (c14 : List ty36.den → List ty36.den → Option (Bool)) (c102 : List ty36.den → List ty36.den → Int → Option (Bool)) (p0 : Int) (p1 : List ty36.den) (p2 : List ty36.den) : Nat → S65 → Option ((List ty36.den))
  | 0, _ => none
  | n + 1, s => T65 Ops.std c64 c101 c14 c102 p0 p1 p2 (R65 c64 c101 c14 c102 p0 p1 p2 n) some (some s)
theorem rr65 {R : Type} (c64 : List ty36.den → Int → Option (Bool)) (c101 : Int → Option ((List ty36.den))) (c14 : List ty36.den → List ty36.den → Option (Bool)) (c102 : List ty36.den → List ty36.den → Int → Option (Bool)) (p0 : Int) (p1 : List ty36.den) (p2 : List ty36.den) (k : AV → Objs → Option R) : ∀ (n : Nat) (s : S65), aloop tau Ops.std gl0 X65 (ent 64 (e64 c64) (ent 101 (e101 c101) (ent 14 (e14 c14) (ent 102 (e102 c102) (gnil))))) ow [] Try.f65 k (I65 s) (E65 p0 p1 p2 s) n = ob (R65 c64 c101 c14 c102 p0 p1 p2 n s) (fun y => k (.c (.list 36 ty36 y)) [])
  | 0, s => by cases s <;> rfl
  | n + 1, s => by rw [el65]; exact nt65 Ops.std c64 c101 c14 c102 p0 p1 p2 _ _ some (fun y => k (.c (.list 36 ty36 y)) []) (rr65 c64 c101 c14 c102 p0 p1 p2 k n) (some s)
def F65 (c64 : List ty36.den → Int → Option (Bool)) (c101 : Int → Option ((List ty36.den))) (c14 : List ty36.den → List ty36.den → Option (Bool)) (c102 : List ty36.den → List ty36.den → Int → Option (Bool)) (p0 : Int) (p1 : List ty36.den) (p2 : List ty36.den) : Option ((List ty36.den)) := T65 Ops.std c64 c101 c14 c102 p0 p1 p2 (R65 c64 c101 c14 c102 p0 p1 p2 1000000) some none
theorem fo65 {R : Type} (c64 : List ty36.den → Int → Option (Bool)) (c101 : Int → Option ((List ty36.den))) (c14 : List ty36.den → List ty36.den → Option (Bool)) (c102 : List ty36.den → List ty36.den → Int → Option (Bool)) (p0 : Int) (p1 : List ty36.den) (p2 : List ty36.den) (k : AV → Objs → Option R) : afun tau Ops.std gl0 X65 (ent 64 (e64 c64) (ent 101 (e101 c101) (ent 14 (e14 c14) (ent 102 (e102 c102) (gnil))))) ow Try.f65 [.c (.int .i64 p0), .c (.list 36 ty36 p1), .c (.list 36 ty36 p2)] [] k 1000000 = ob (F65 c64 c101 c14 c102 p0 p1 p2) (fun y => k (.c (.list 36 ty36 y)) []) := by rw [eq65]; exact nt65 Ops.std c64 c101 c14 c102 p0 p1 p2 _ _ some (fun y => k (.c (.list 36 ty36 y)) []) (rr65 c64 c101 c14 c102 p0 p1 p2 k 1000000) none
def e65 {R : Type} (c : Int → List ty36.den → List ty36.den → Option ((List ty36.den))) : Ent R := fun args objs k =>
  oCons args fun a0 l0 => oC a0 fun x0 => cInt .i64 x0 fun p0 => oCons l0 fun a1 l1 => oC a1 fun x1 => cList 36 ty36 x1 fun p1 => oCons l1 fun a2 l2 => oC a2 fun x2 => cList 36 ty36 x2 fun p2 => oNil l2 <| oNilO objs <| ob (c p0 p1 p2) fun y => k (.c (.list 36 ty36 y)) []
abbrev Sp65 (c : Int → List ty36.den → List ty36.den → Option ((List ty36.den))) : Prop := ∀ (p0 : Int) (p1 : List ty36.den) (p2 : List ty36.den) (y : (List ty36.den)), c p0 p1 p2 = some y → Spec Try.prog gl0 65 [.c (.int .i64 p0), .c (.list 36 ty36 p1), .c (.list 36 ty36 p2)] [] (.c (.list 36 ty36 y)) []
theorem ek65 {R : Type} {c : Int → List ty36.den → List ty36.den → Option ((List ty36.den))} (hs : Sp65 c) : EOk 65 (e65 (R := R) c) := fun args objs k r h => by
  unfold e65 at h
  obtain ⟨a0, l0, rfl, q1⟩ := oCons_some h
  obtain ⟨x0, rfl, q2⟩ := oC_some q1
  obtain ⟨p0, rfl, q3⟩ := cInt_some q2
  obtain ⟨a1, l1, rfl, q4⟩ := oCons_some q3
  obtain ⟨x1, rfl, q5⟩ := oC_some q4
  obtain ⟨p1, rfl, q6⟩ := cList_some q5
  obtain ⟨a2, l2, rfl, q7⟩ := oCons_some q6
  obtain ⟨x2, rfl, q8⟩ := oC_some q7
  obtain ⟨p2, rfl, q9⟩ := cList_some q8
  obtain ⟨rfl, q10⟩ := oNil_some q9
  obtain ⟨rfl, q11⟩ := oNilO_some q10
  exact eok_of (hs p0 p1 p2) q11
theorem sf65 {c64 : List ty36.den → Int → Option (Bool)} {c101 : Int → Option ((List ty36.den))} {c14 : List ty36.den → List ty36.den → Option (Bool)} {c102 : List ty36.den → List ty36.den → Int → Option (Bool)} (h64 : Sp64 c64) (h101 : Sp101 c101) (h14 : Sp14 c14) (h102 : Sp102 c102) : Sp65 (F65 c64 c101 c14 c102) := fun p0 p1 p2 y hy => by
  refine spec_of (G := ent 64 (e64 c64) (ent 101 (e101 c101) (ent 14 (e14 c14) (ent 102 (e102 c102) (gnil))))) (ent_ok (ek64 h64) (ent_ok (ek101 h101) (ent_ok (ek14 h14) (ent_ok (ek102 h102) (gnil_ok))))) 1000000 (fn := Try.f65) (by kernel_rfl) (by kernel_rfl) (X := X65) (by kernel_rfl) ?_
  rw [fo65, hy]
  rfl
noncomputable def M65 : Int → List ty36.den → List ty36.den → Option ((List ty36.den)) := F65 M64 M101 M14 M102
theorem sm65 : Sp65 M65 := sf65 sm64 sm101 sm14 sm102
def e37 {R : Type} (c : List ty36.den → List ty27.den → Int → Option ((List ty36.den))) : Ent R := fun args objs k =>
  oCons args fun a0 l0 => oC a0 fun x0 => cList 36 ty36 x0 fun p0 => oCons l0 fun a1 l1 => oC a1 fun x1 => cList 27 ty27 x1 fun p1 => oCons l1 fun a2 l2 => oC a2 fun x2 => cInt .i64 x2 fun p2 => oNil l2 <| oNilO objs <| ob (c p0 p1 p2) fun y => k (.c (.list 36 ty36 y)) []
abbrev Sp37 (c : List ty36.den → List ty27.den → Int → Option ((List ty36.den))) : Prop := ∀ (p0 : List ty36.den) (p1 : List ty27.den) (p2 : Int) (y : (List ty36.den)), c p0 p1 p2 = some y → Spec Try.prog gl0 37 [.c (.list 36 ty36 p0), .c (.list 27 ty27 p1), .c (.int .i64 p2)] [] (.c (.list 36 ty36 y)) []
theorem ek37 {R : Type} {c : List ty36.den → List ty27.den → Int → Option ((List ty36.den))} (hs : Sp37 c) : EOk 37 (e37 (R := R) c) := fun args objs k r h => by
  unfold e37 at h
  obtain ⟨a0, l0, rfl, q1⟩ := oCons_some h
  obtain ⟨x0, rfl, q2⟩ := oC_some q1
  obtain ⟨p0, rfl, q3⟩ := cList_some q2
  obtain ⟨a1, l1, rfl, q4⟩ := oCons_some q3
  obtain ⟨x1, rfl, q5⟩ := oC_some q4
  obtain ⟨p1, rfl, q6⟩ := cList_some q5
  obtain ⟨a2, l2, rfl, q7⟩ := oCons_some q6
  obtain ⟨x2, rfl, q8⟩ := oC_some q7
  obtain ⟨p2, rfl, q9⟩ := cInt_some q8
  obtain ⟨rfl, q10⟩ := oNil_some q9
  obtain ⟨rfl, q11⟩ := oNilO_some q10
  exact eok_of (hs p0 p1 p2) q11

/-! ### 37: lariat/lariatref13.rewrite -/
def X37 : Aux := ⟨[(2000000, [])], [(8, .seq [1, 2, 3, 4, 5, 8, 9, 10, 11] (.alt (.alt (.seq [0] (.alt (.seq [6] (.alt (.lin [7, 12, 13, 14]) (.lin [12, 7, 13, 14]))) (.lin [12, 6, 7, 13, 14]))) (.seq [6] (.alt (.seq [0] (.alt (.lin [7, 12, 13, 14]) (.lin [12, 7, 13, 14]))) (.lin [12, 0, 7, 13, 14])))) (.seq [12] (.alt (.lin [0, 6, 7, 13, 14]) (.lin [6, 0, 7, 13, 14]))))), (13, .seq [1, 3, 4, 5, 6] (.alt (.seq [0] (.alt (.lin [2, 7, 8, 9]) (.lin [7, 2, 8, 9]))) (.lin [7, 0, 2, 8, 9]))), (14, .lin [0, 1, 2, 3, 4, 5, 6, 7, 8, 9, 11, 12, 13, 14, 15, 10, 16, 17, 18])]⟩
def T37 {R : Type} (B : Ops) (c37 : List ty36.den → List ty27.den → Int → Option ((List ty36.den))) (c64 : List ty36.den → Int → Option (Bool)) (c65 : Int → List ty36.den → List ty36.den → Option ((List ty36.den))) (p0 : List ty36.den) (p1 : List ty27.den) (p2 : Int) (k : ((List ty36.den)) → Option R) : Option R :=
  cond (Ops.inb B p2 (List.length p1))
   (
    cond (Ops.inb B p2 (List.length p0))
     (
      cond (Ops.eq B (Prod.fst (List.getD p0 (Int.toNat p2) (Ty.dflt ty36))) (1))
       (
        cond (Ops.inb B (IntKind.wrap IntKind.i64 (p2 + 1)) (List.length p0 + 1))
         (
          cond (bif Ops.le B (0) p2 then Ops.le B p2 (IntKind.wrap IntKind.i64 (p2 + 1)) else false)
           (
            k (List.drop (Int.toNat p2) (List.take (Int.toNat (IntKind.wrap IntKind.i64 (p2 + 1))) p0)))
           (
            none))
         (
          none))
       (
        cond (Ops.eq B (Prod.fst (List.getD p0 (Int.toNat p2) (Ty.dflt ty36))) (2))
         (
          cond (Ops.inb B (IntKind.wrap IntKind.i64 (p2 + 1)) (List.length p0 + 1))
           (
            cond (bif Ops.le B (0) p2 then Ops.le B p2 (IntKind.wrap IntKind.i64 (p2 + 1)) else false)
             (
              k (List.drop (Int.toNat p2) (List.take (Int.toNat (IntKind.wrap IntKind.i64 (p2 + 1))) p0)))
             (
              none))
           (
            none))
         (
          cond (Ops.eq B (Prod.fst (List.getD p0 (Int.toNat p2) (Ty.dflt ty36))) (3))
           (
            cond (Ops.inb B (IntKind.wrap IntKind.i64 (p2 + 1)) (List.length p0 + 1))
             (
              cond (bif Ops.le B (0) p2 then Ops.le B p2 (IntKind.wrap IntKind.i64 (p2 + 1)) else false)
               (
                k (List.drop (Int.toNat p2) (List.take (Int.toNat (IntKind.wrap IntKind.i64 (p2 + 1))) p0)))
               (
                none))
             (
              none))
           (
            cond (Ops.eq B (Prod.fst (List.getD p0 (Int.toNat p2) (Ty.dflt ty36))) (4))
             (
              cond (Ops.inb B (0) (List.length (List.getD p1 (Int.toNat p2) (Ty.dflt ty27))))
               (
                cond (Ops.inb B p2 (List.length p0))
                 (
                  ob (c37 p0 p1 (List.getD (List.getD p1 (Int.toNat p2) (Ty.dflt ty27)) (Int.toNat (0)) (Ty.dflt (Ty.int IntKind.i64)))) fun y0 =>
                  cond (Ops.lim B (List.length (mt (Ty.den (Ty.pair (Ty.int IntKind.i64) (Ty.list (97) (Ty.pair (Ty.int IntKind.i64) (Ty.pair (Ty.int IntKind.i64) (Ty.pair Ty.str Ty.str))))))) + List.length y0) (32))
                   (
                    cond (Ops.lim B (List.length (mt (Ty.den (Ty.pair (Ty.int IntKind.i64) (Ty.list (97) (Ty.pair (Ty.int IntKind.i64) (Ty.pair (Ty.int IntKind.i64) (Ty.pair Ty.str Ty.str)))))) ++ y0) + List.length ((Prod.fst (List.getD p0 (Int.toNat p2) (Ty.dflt ty36)), Prod.snd (List.getD p0 (Int.toNat p2) (Ty.dflt ty36))) :: mt (Ty.den (Ty.pair (Ty.int IntKind.i64) (Ty.list (97) (Ty.pair (Ty.int IntKind.i64) (Ty.pair (Ty.int IntKind.i64) (Ty.pair Ty.str Ty.str)))))))) (32))
                     (
                      k (mt (Ty.den (Ty.pair (Ty.int IntKind.i64) (Ty.list (97) (Ty.pair (Ty.int IntKind.i64) (Ty.pair (Ty.int IntKind.i64) (Ty.pair Ty.str Ty.str)))))) ++ y0 ++ (Prod.fst (List.getD p0 (Int.toNat p2) (Ty.dflt ty36)), Prod.snd (List.getD p0 (Int.toNat p2) (Ty.dflt ty36))) :: mt (Ty.den (Ty.pair (Ty.int IntKind.i64) (Ty.list (97) (Ty.pair (Ty.int IntKind.i64) (Ty.pair (Ty.int IntKind.i64) (Ty.pair Ty.str Ty.str))))))))
                     (
                      none))
                   (
                    none))
                 (
                  none))
               (
                none))
             (
              cond (Ops.eq B (Prod.fst (List.getD p0 (Int.toNat p2) (Ty.dflt ty36))) (8))
               (
                cond (Ops.inb B (0) (List.length (List.getD p1 (Int.toNat p2) (Ty.dflt ty27))))
                 (
                  ob (c37 p0 p1 (List.getD (List.getD p1 (Int.toNat p2) (Ty.dflt ty27)) (Int.toNat (0)) (Ty.dflt (Ty.int IntKind.i64)))) fun y0 =>
                  ob (c64 y0 (1)) fun y1 =>
                  cond (y1)
                   (
                    k y0)
                   (
                    ob (c64 y0 (2)) fun y2 =>
                    cond (y2)
                     (
                      k y0)
                     (
                      cond (Ops.inb B p2 (List.length p0))
                       (
                        cond (Ops.lim B (List.length (mt (Ty.den (Ty.pair (Ty.int IntKind.i64) (Ty.list (97) (Ty.pair (Ty.int IntKind.i64) (Ty.pair (Ty.int IntKind.i64) (Ty.pair Ty.str Ty.str))))))) + List.length y0) (32))
                         (
                          cond (Ops.lim B (List.length (mt (Ty.den (Ty.pair (Ty.int IntKind.i64) (Ty.list (97) (Ty.pair (Ty.int IntKind.i64) (Ty.pair (Ty.int IntKind.i64) (Ty.pair Ty.str Ty.str)))))) ++ y0) + List.length ((Prod.fst (List.getD p0 (Int.toNat p2) (Ty.dflt ty36)), Prod.snd (List.getD p0 (Int.toNat p2) (Ty.dflt ty36))) :: mt (Ty.den (Ty.pair (Ty.int IntKind.i64) (Ty.list (97) (Ty.pair (Ty.int IntKind.i64) (Ty.pair (Ty.int IntKind.i64) (Ty.pair Ty.str Ty.str)))))))) (32))
                           (
                            k (mt (Ty.den (Ty.pair (Ty.int IntKind.i64) (Ty.list (97) (Ty.pair (Ty.int IntKind.i64) (Ty.pair (Ty.int IntKind.i64) (Ty.pair Ty.str Ty.str)))))) ++ y0 ++ (Prod.fst (List.getD p0 (Int.toNat p2) (Ty.dflt ty36)), Prod.snd (List.getD p0 (Int.toNat p2) (Ty.dflt ty36))) :: mt (Ty.den (Ty.pair (Ty.int IntKind.i64) (Ty.list (97) (Ty.pair (Ty.int IntKind.i64) (Ty.pair (Ty.int IntKind.i64) (Ty.pair Ty.str Ty.str))))))))
                           (
                            none))
                         (
                          none))
                       (
                        none))))
                 (
                  none))
               (
                cond (Ops.inb B p2 (List.length p0))
                 (
                  cond (Ops.inb B (0) (List.length (List.getD p1 (Int.toNat p2) (Ty.dflt ty27))))
                   (
                    cond (Ops.inb B (1) (List.length (List.getD p1 (Int.toNat p2) (Ty.dflt ty27))))
                     (
                      ob (c37 p0 p1 (List.getD (List.getD p1 (Int.toNat p2) (Ty.dflt ty27)) (Int.toNat (0)) (Ty.dflt (Ty.int IntKind.i64)))) fun y0 =>
                      ob (c37 p0 p1 (List.getD (List.getD p1 (Int.toNat p2) (Ty.dflt ty27)) (Int.toNat (1)) (Ty.dflt (Ty.int IntKind.i64)))) fun y1 =>
                      ob (c65 (Prod.fst (List.getD p0 (Int.toNat p2) (Ty.dflt ty36))) y0 y1) fun y2 =>
                      k y2)
                     (
                      none))
                   (
                    none))
                 (
                  none)))))))
     (
      none))
   (
    none)
noncomputable def Ta37 {R : Type} (B : Ops) (c37 : List ty36.den → List ty27.den → Int → Option ((List ty36.den))) (c64 : List ty36.den → Int → Option (Bool)) (c65 : Int → List ty36.den → List ty36.den → Option ((List ty36.den))) (p0 : List ty36.den) (p1 : List ty27.den) (p2 : Int) (k : ((List ty36.den)) → Option R) : Option R :=
  cond (Ops.inb B p2 (List.length p1))
   (
    cond (Ops.inb B p2 (List.length p0))
     (
      cond (Ops.eq B (Prod.fst (List.getD p0 (Int.toNat p2) (Ty.dflt ty36))) (1))
       (
        cond (Ops.inb B (IntKind.wrap IntKind.i64 (p2 + 1)) (List.length p0 + 1))
         (
          cond (bif Ops.le B (0) p2 then Ops.le B p2 (IntKind.wrap IntKind.i64 (p2 + 1)) else false)
           (
            k (List.drop (Int.toNat p2) (List.take (Int.toNat (IntKind.wrap IntKind.i64 (p2 + 1))) p0)))
           (
            none))
         (
          none))
       (
        cond (Ops.eq B (Prod.fst (List.getD p0 (Int.toNat p2) (Ty.dflt ty36))) (2))
         (
          cond (Ops.inb B (IntKind.wrap IntKind.i64 (p2 + 1)) (List.length p0 + 1))
           (
            cond (bif Ops.le B (0) p2 then Ops.le B p2 (IntKind.wrap IntKind.i64 (p2 + 1)) else false)
             (
              k (List.drop (Int.toNat p2) (List.take (Int.toNat (IntKind.wrap IntKind.i64 (p2 + 1))) p0)))
             (
              none))
           (
            none))
         (
          cond (Ops.eq B (Prod.fst (List.getD p0 (Int.toNat p2) (Ty.dflt ty36))) (3))
           (
            cond (Ops.inb B (IntKind.wrap IntKind.i64 (p2 + 1)) (List.length p0 + 1))
             (
              cond (bif Ops.le B (0) p2 then Ops.le B p2 (IntKind.wrap IntKind.i64 (p2 + 1)) else false)
               (
                k (List.drop (Int.toNat p2) (List.take (Int.toNat (IntKind.wrap IntKind.i64 (p2 + 1))) p0)))
               (
                none))
             (
              none))
           (
            cond (Ops.eq B (Prod.fst (List.getD p0 (Int.toNat p2) (Ty.dflt ty36))) (4))
             (
              cond (Ops.inb B (0) (List.length (List.getD p1 (Int.toNat p2) (Ty.dflt ty27))))
               (
                cond (Ops.inb B p2 (List.length p0))
                 (
                  agree
                   (
                    agree
                     (
                      agree
                       (
                        ob (c37 p0 p1 (List.getD (List.getD p1 (Int.toNat p2) (Ty.dflt ty27)) (Int.toNat (0)) (Ty.dflt (Ty.int IntKind.i64)))) fun y0 =>
                        agree
                         (
                          cond (Ops.lim B (List.length (mt (Ty.den (Ty.pair (Ty.int IntKind.i64) (Ty.list (97) (Ty.pair (Ty.int IntKind.i64) (Ty.pair (Ty.int IntKind.i64) (Ty.pair Ty.str Ty.str))))))) + List.length y0) (32))
                           (
                            cond (Ops.lim B (List.length (mt (Ty.den (Ty.pair (Ty.int IntKind.i64) (Ty.list (97) (Ty.pair (Ty.int IntKind.i64) (Ty.pair (Ty.int IntKind.i64) (Ty.pair Ty.str Ty.str)))))) ++ y0) + List.length ((Prod.fst (List.getD p0 (Int.toNat p2) (Ty.dflt ty36)), Prod.snd (List.getD p0 (Int.toNat p2) (Ty.dflt ty36))) :: mt (Ty.den (Ty.pair (Ty.int IntKind.i64) (Ty.list (97) (Ty.pair (Ty.int IntKind.i64) (Ty.pair (Ty.int IntKind.i64) (Ty.pair Ty.str Ty.str)))))))) (32))
                             (
                              k (mt (Ty.den (Ty.pair (Ty.int IntKind.i64) (Ty.list (97) (Ty.pair (Ty.int IntKind.i64) (Ty.pair (Ty.int IntKind.i64) (Ty.pair Ty.str Ty.str)))))) ++ y0 ++ (Prod.fst (List.getD p0 (Int.toNat p2) (Ty.dflt ty36)), Prod.snd (List.getD p0 (Int.toNat p2) (Ty.dflt ty36))) :: mt (Ty.den (Ty.pair (Ty.int IntKind.i64) (Ty.list (97) (Ty.pair (Ty.int IntKind.i64) (Ty.pair (Ty.int IntKind.i64) (Ty.pair Ty.str Ty.str))))))))
                             (
                              none))
                           (
                            none))
                         (
                          cond (Ops.lim B (List.length (mt (Ty.den (Ty.pair (Ty.int IntKind.i64) (Ty.list (97) (Ty.pair (Ty.int IntKind.i64) (Ty.pair (Ty.int IntKind.i64) (Ty.pair Ty.str Ty.str))))))) + List.length y0) (32))
                           (
                            cond (Ops.lim B (List.length (mt (Ty.den (Ty.pair (Ty.int IntKind.i64) (Ty.list (97) (Ty.pair (Ty.int IntKind.i64) (Ty.pair (Ty.int IntKind.i64) (Ty.pair Ty.str Ty.str)))))) ++ y0) + List.length ((Prod.fst (List.getD p0 (Int.toNat p2) (Ty.dflt ty36)), Prod.snd (List.getD p0 (Int.toNat p2) (Ty.dflt ty36))) :: mt (Ty.den (Ty.pair (Ty.int IntKind.i64) (Ty.list (97) (Ty.pair (Ty.int IntKind.i64) (Ty.pair (Ty.int IntKind.i64) (Ty.pair Ty.str Ty.str)))))))) (32))
                             (
                              k (mt (Ty.den (Ty.pair (Ty.int IntKind.i64) (Ty.list (97) (Ty.pair (Ty.int IntKind.i64) (Ty.pair (Ty.int IntKind.i64) (Ty.pair Ty.str Ty.str)))))) ++ y0 ++ (Prod.fst (List.getD p0 (Int.toNat p2) (Ty.dflt ty36)), Prod.snd (List.getD p0 (Int.toNat p2) (Ty.dflt ty36))) :: mt (Ty.den (Ty.pair (Ty.int IntKind.i64) (Ty.list (97) (Ty.pair (Ty.int IntKind.i64) (Ty.pair (Ty.int IntKind.i64) (Ty.pair Ty.str Ty.str))))))))
                             (
                              none))
                           (
                            none)))
                       (
                        ob (c37 p0 p1 (List.getD (List.getD p1 (Int.toNat p2) (Ty.dflt ty27)) (Int.toNat (0)) (Ty.dflt (Ty.int IntKind.i64)))) fun y0 =>
                        cond (Ops.lim B (List.length (mt (Ty.den (Ty.pair (Ty.int IntKind.i64) (Ty.list (97) (Ty.pair (Ty.int IntKind.i64) (Ty.pair (Ty.int IntKind.i64) (Ty.pair Ty.str Ty.str))))))) + List.length y0) (32))
                         (
                          cond (Ops.lim B (List.length (mt (Ty.den (Ty.pair (Ty.int IntKind.i64) (Ty.list (97) (Ty.pair (Ty.int IntKind.i64) (Ty.pair (Ty.int IntKind.i64) (Ty.pair Ty.str Ty.str)))))) ++ y0) + List.length ((Prod.fst (List.getD p0 (Int.toNat p2) (Ty.dflt ty36)), Prod.snd (List.getD p0 (Int.toNat p2) (Ty.dflt ty36))) :: mt (Ty.den (Ty.pair (Ty.int IntKind.i64) (Ty.list (97) (Ty.pair (Ty.int IntKind.i64) (Ty.pair (Ty.int IntKind.i64) (Ty.pair Ty.str Ty.str)))))))) (32))
                           (
                            k (mt (Ty.den (Ty.pair (Ty.int IntKind.i64) (Ty.list (97) (Ty.pair (Ty.int IntKind.i64) (Ty.pair (Ty.int IntKind.i64) (Ty.pair Ty.str Ty.str)))))) ++ y0 ++ (Prod.fst (List.getD p0 (Int.toNat p2) (Ty.dflt ty36)), Prod.snd (List.getD p0 (Int.toNat p2) (Ty.dflt ty36))) :: mt (Ty.den (Ty.pair (Ty.int IntKind.i64) (Ty.list (97) (Ty.pair (Ty.int IntKind.i64) (Ty.pair (Ty.int IntKind.i64) (Ty.pair Ty.str Ty.str))))))))
                           (
                            none))
                         (
                          none)))
                     (
                      ob (c37 p0 p1 (List.getD (List.getD p1 (Int.toNat p2) (Ty.dflt ty27)) (Int.toNat (0)) (Ty.dflt (Ty.int IntKind.i64)))) fun y0 =>
                      agree
                       (
                        agree
                         (
                          cond (Ops.lim B (List.length (mt (Ty.den (Ty.pair (Ty.int IntKind.i64) (Ty.list (97) (Ty.pair (Ty.int IntKind.i64) (Ty.pair (Ty.int IntKind.i64) (Ty.pair Ty.str Ty.str))))))) + List.length y0) (32))
                           (
                            cond (Ops.lim B (List.length (mt (Ty.den (Ty.pair (Ty.int IntKind.i64) (Ty.list (97) (Ty.pair (Ty.int IntKind.i64) (Ty.pair (Ty.int IntKind.i64) (Ty.pair Ty.str Ty.str)))))) ++ y0) + List.length ((Prod.fst (List.getD p0 (Int.toNat p2) (Ty.dflt ty36)), Prod.snd (List.getD p0 (Int.toNat p2) (Ty.dflt ty36))) :: mt (Ty.den (Ty.pair (Ty.int IntKind.i64) (Ty.list (97) (Ty.pair (Ty.int IntKind.i64) (Ty.pair (Ty.int IntKind.i64) (Ty.pair Ty.str Ty.str)))))))) (32))
                             (
                              k (mt (Ty.den (Ty.pair (Ty.int IntKind.i64) (Ty.list (97) (Ty.pair (Ty.int IntKind.i64) (Ty.pair (Ty.int IntKind.i64) (Ty.pair Ty.str Ty.str)))))) ++ y0 ++ (Prod.fst (List.getD p0 (Int.toNat p2) (Ty.dflt ty36)), Prod.snd (List.getD p0 (Int.toNat p2) (Ty.dflt ty36))) :: mt (Ty.den (Ty.pair (Ty.int IntKind.i64) (Ty.list (97) (Ty.pair (Ty.int IntKind.i64) (Ty.pair (Ty.int IntKind.i64) (Ty.pair Ty.str Ty.str))))))))
                             (
                              none))
                           (
                            none))
                         (
                          cond (Ops.lim B (List.length (mt (Ty.den (Ty.pair (Ty.int IntKind.i64) (Ty.list (97) (Ty.pair (Ty.int IntKind.i64) (Ty.pair (Ty.int IntKind.i64) (Ty.pair Ty.str Ty.str))))))) + List.length y0) (32))
                           (
                            cond (Ops.lim B (List.length (mt (Ty.den (Ty.pair (Ty.int IntKind.i64) (Ty.list (97) (Ty.pair (Ty.int IntKind.i64) (Ty.pair (Ty.int IntKind.i64) (Ty.pair Ty.str Ty.str)))))) ++ y0) + List.length ((Prod.fst (List.getD p0 (Int.toNat p2) (Ty.dflt ty36)), Prod.snd (List.getD p0 (Int.toNat p2) (Ty.dflt ty36))) :: mt (Ty.den (Ty.pair (Ty.int IntKind.i64) (Ty.list (97) (Ty.pair (Ty.int IntKind.i64) (Ty.pair (Ty.int IntKind.i64) (Ty.pair Ty.str Ty.str)))))))) (32))
                             (
                              k (mt (Ty.den (Ty.pair (Ty.int IntKind.i64) (Ty.list (97) (Ty.pair (Ty.int IntKind.i64) (Ty.pair (Ty.int IntKind.i64) (Ty.pair Ty.str Ty.str)))))) ++ y0 ++ (Prod.fst (List.getD p0 (Int.toNat p2) (Ty.dflt ty36)), Prod.snd (List.getD p0 (Int.toNat p2) (Ty.dflt ty36))) :: mt (Ty.den (Ty.pair (Ty.int IntKind.i64) (Ty.list (97) (Ty.pair (Ty.int IntKind.i64) (Ty.pair (Ty.int IntKind.i64) (Ty.pair Ty.str Ty.str))))))))
                             (
                              none))
                           (
                            none)))
                       (
                        cond (Ops.lim B (List.length (mt (Ty.den (Ty.pair (Ty.int IntKind.i64) (Ty.list (97) (Ty.pair (Ty.int IntKind.i64) (Ty.pair (Ty.int IntKind.i64) (Ty.pair Ty.str Ty.str))))))) + List.length y0) (32))
                         (
                          cond (Ops.lim B (List.length (mt (Ty.den (Ty.pair (Ty.int IntKind.i64) (Ty.list (97) (Ty.pair (Ty.int IntKind.i64) (Ty.pair (Ty.int IntKind.i64) (Ty.pair Ty.str Ty.str)))))) ++ y0) + List.length ((Prod.fst (List.getD p0 (Int.toNat p2) (Ty.dflt ty36)), Prod.snd (List.getD p0 (Int.toNat p2) (Ty.dflt ty36))) :: mt (Ty.den (Ty.pair (Ty.int IntKind.i64) (Ty.list (97) (Ty.pair (Ty.int IntKind.i64) (Ty.pair (Ty.int IntKind.i64) (Ty.pair Ty.str Ty.str)))))))) (32))
                           (
                            k (mt (Ty.den (Ty.pair (Ty.int IntKind.i64) (Ty.list (97) (Ty.pair (Ty.int IntKind.i64) (Ty.pair (Ty.int IntKind.i64) (Ty.pair Ty.str Ty.str)))))) ++ y0 ++ (Prod.fst (List.getD p0 (Int.toNat p2) (Ty.dflt ty36)), Prod.snd (List.getD p0 (Int.toNat p2) (Ty.dflt ty36))) :: mt (Ty.den (Ty.pair (Ty.int IntKind.i64) (Ty.list (97) (Ty.pair (Ty.int IntKind.i64) (Ty.pair (Ty.int IntKind.i64) (Ty.pair Ty.str Ty.str))))))))
                           (
                            none))
                         (
                          none))))
                   (
                    agree
                     (
                      ob (c37 p0 p1 (List.getD (List.getD p1 (Int.toNat p2) (Ty.dflt ty27)) (Int.toNat (0)) (Ty.dflt (Ty.int IntKind.i64)))) fun y0 =>
                      cond (Ops.lim B (List.length (mt (Ty.den (Ty.pair (Ty.int IntKind.i64) (Ty.list (97) (Ty.pair (Ty.int IntKind.i64) (Ty.pair (Ty.int IntKind.i64) (Ty.pair Ty.str Ty.str))))))) + List.length y0) (32))
                       (
                        cond (Ops.lim B (List.length (mt (Ty.den (Ty.pair (Ty.int IntKind.i64) (Ty.list (97) (Ty.pair (Ty.int IntKind.i64) (Ty.pair (Ty.int IntKind.i64) (Ty.pair Ty.str Ty.str)))))) ++ y0) + List.length ((Prod.fst (List.getD p0 (Int.toNat p2) (Ty.dflt ty36)), Prod.snd (List.getD p0 (Int.toNat p2) (Ty.dflt ty36))) :: mt (Ty.den (Ty.pair (Ty.int IntKind.i64) (Ty.list (97) (Ty.pair (Ty.int IntKind.i64) (Ty.pair (Ty.int IntKind.i64) (Ty.pair Ty.str Ty.str)))))))) (32))
                         (
                          k (mt (Ty.den (Ty.pair (Ty.int IntKind.i64) (Ty.list (97) (Ty.pair (Ty.int IntKind.i64) (Ty.pair (Ty.int IntKind.i64) (Ty.pair Ty.str Ty.str)))))) ++ y0 ++ (Prod.fst (List.getD p0 (Int.toNat p2) (Ty.dflt ty36)), Prod.snd (List.getD p0 (Int.toNat p2) (Ty.dflt ty36))) :: mt (Ty.den (Ty.pair (Ty.int IntKind.i64) (Ty.list (97) (Ty.pair (Ty.int IntKind.i64) (Ty.pair (Ty.int IntKind.i64) (Ty.pair Ty.str Ty.str))))))))
                         (
                          none))
                       (
                        none))
                     (
                      ob (c37 p0 p1 (List.getD (List.getD p1 (Int.toNat p2) (Ty.dflt ty27)) (Int.toNat (0)) (Ty.dflt (Ty.int IntKind.i64)))) fun y0 =>
                      cond (Ops.lim B (List.length (mt (Ty.den (Ty.pair (Ty.int IntKind.i64) (Ty.list (97) (Ty.pair (Ty.int IntKind.i64) (Ty.pair (Ty.int IntKind.i64) (Ty.pair Ty.str Ty.str))))))) + List.length y0) (32))
                       (
                        cond (Ops.lim B (List.length (mt (Ty.den (Ty.pair (Ty.int IntKind.i64) (Ty.list (97) (Ty.pair (Ty.int IntKind.i64) (Ty.pair (Ty.int IntKind.i64) (Ty.pair Ty.str Ty.str)))))) ++ y0) + List.length ((Prod.fst (List.getD p0 (Int.toNat p2) (Ty.dflt ty36)), Prod.snd (List.getD p0 (Int.toNat p2) (Ty.dflt ty36))) :: mt (Ty.den (Ty.pair (Ty.int IntKind.i64) (Ty.list (97) (Ty.pair (Ty.int IntKind.i64) (Ty.pair (Ty.int IntKind.i64) (Ty.pair Ty.str Ty.str)))))))) (32))
                         (
                          k (mt (Ty.den (Ty.pair (Ty.int IntKind.i64) (Ty.list (97) (Ty.pair (Ty.int IntKind.i64) (Ty.pair (Ty.int IntKind.i64) (Ty.pair Ty.str Ty.str)))))) ++ y0 ++ (Prod.fst (List.getD p0 (Int.toNat p2) (Ty.dflt ty36)), Prod.snd (List.getD p0 (Int.toNat p2) (Ty.dflt ty36))) :: mt (Ty.den (Ty.pair (Ty.int IntKind.i64) (Ty.list (97) (Ty.pair (Ty.int IntKind.i64) (Ty.pair (Ty.int IntKind.i64) (Ty.pair Ty.str Ty.str))))))))
                         (
                          none))
                       (
                        none))))
                 (
                  none))
               (
                none))
             (
              cond (Ops.eq B (Prod.fst (List.getD p0 (Int.toNat p2) (Ty.dflt ty36))) (8))
               (
                cond (Ops.inb B (0) (List.length (List.getD p1 (Int.toNat p2) (Ty.dflt ty27))))
                 (
                  ob (c37 p0 p1 (List.getD (List.getD p1 (Int.toNat p2) (Ty.dflt ty27)) (Int.toNat (0)) (Ty.dflt (Ty.int IntKind.i64)))) fun y0 =>
                  ob (c64 y0 (1)) fun y1 =>
                  cond (y1)
                   (
                    k y0)
                   (
                    ob (c64 y0 (2)) fun y2 =>
                    cond (y2)
                     (
                      k y0)
                     (
                      cond (Ops.inb B p2 (List.length p0))
                       (
                        agree
                         (
                          agree
                           (
                            cond (Ops.lim B (List.length (mt (Ty.den (Ty.pair (Ty.int IntKind.i64) (Ty.list (97) (Ty.pair (Ty.int IntKind.i64) (Ty.pair (Ty.int IntKind.i64) (Ty.pair Ty.str Ty.str))))))) + List.length y0) (32))
                             (
                              cond (Ops.lim B (List.length (mt (Ty.den (Ty.pair (Ty.int IntKind.i64) (Ty.list (97) (Ty.pair (Ty.int IntKind.i64) (Ty.pair (Ty.int IntKind.i64) (Ty.pair Ty.str Ty.str)))))) ++ y0) + List.length ((Prod.fst (List.getD p0 (Int.toNat p2) (Ty.dflt ty36)), Prod.snd (List.getD p0 (Int.toNat p2) (Ty.dflt ty36))) :: mt (Ty.den (Ty.pair (Ty.int IntKind.i64) (Ty.list (97) (Ty.pair (Ty.int IntKind.i64) (Ty.pair (Ty.int IntKind.i64) (Ty.pair Ty.str Ty.str)))))))) (32))
                               (
                                k (mt (Ty.den (Ty.pair (Ty.int IntKind.i64) (Ty.list (97) (Ty.pair (Ty.int IntKind.i64) (Ty.pair (Ty.int IntKind.i64) (Ty.pair Ty.str Ty.str)))))) ++ y0 ++ (Prod.fst (List.getD p0 (Int.toNat p2) (Ty.dflt ty36)), Prod.snd (List.getD p0 (Int.toNat p2) (Ty.dflt ty36))) :: mt (Ty.den (Ty.pair (Ty.int IntKind.i64) (Ty.list (97) (Ty.pair (Ty.int IntKind.i64) (Ty.pair (Ty.int IntKind.i64) (Ty.pair Ty.str Ty.str))))))))
                               (
                                none))
                             (
                              none))
                           (
                            cond (Ops.lim B (List.length (mt (Ty.den (Ty.pair (Ty.int IntKind.i64) (Ty.list (97) (Ty.pair (Ty.int IntKind.i64) (Ty.pair (Ty.int IntKind.i64) (Ty.pair Ty.str Ty.str))))))) + List.length y0) (32))
                             (
                              cond (Ops.lim B (List.length (mt (Ty.den (Ty.pair (Ty.int IntKind.i64) (Ty.list (97) (Ty.pair (Ty.int IntKind.i64) (Ty.pair (Ty.int IntKind.i64) (Ty.pair Ty.str Ty.str)))))) ++ y0) + List.length ((Prod.fst (List.getD p0 (Int.toNat p2) (Ty.dflt ty36)), Prod.snd (List.getD p0 (Int.toNat p2) (Ty.dflt ty36))) :: mt (Ty.den (Ty.pair (Ty.int IntKind.i64) (Ty.list (97) (Ty.pair (Ty.int IntKind.i64) (Ty.pair (Ty.int IntKind.i64) (Ty.pair Ty.str Ty.str)))))))) (32))
                               (
                                k (mt (Ty.den (Ty.pair (Ty.int IntKind.i64) (Ty.list (97) (Ty.pair (Ty.int IntKind.i64) (Ty.pair (Ty.int IntKind.i64) (Ty.pair Ty.str Ty.str)))))) ++ y0 ++ (Prod.fst (List.getD p0 (Int.toNat p2) (Ty.dflt ty36)), Prod.snd (List.getD p0 (Int.toNat p2) (Ty.dflt ty36))) :: mt (Ty.den (Ty.pair (Ty.int IntKind.i64) (Ty.list (97) (Ty.pair (Ty.int IntKind.i64) (Ty.pair (Ty.int IntKind.i64) (Ty.pair Ty.str Ty.str))))))))
                               (
                                none))
                             (
                              none)))
                         (
                          cond (Ops.lim B (List.length (mt (Ty.den (Ty.pair (Ty.int IntKind.i64) (Ty.list (97) (Ty.pair (Ty.int IntKind.i64) (Ty.pair (Ty.int IntKind.i64) (Ty.pair Ty.str Ty.str))))))) + List.length y0) (32))
                           (
                            cond (Ops.lim B (List.length (mt (Ty.den (Ty.pair (Ty.int IntKind.i64) (Ty.list (97) (Ty.pair (Ty.int IntKind.i64) (Ty.pair (Ty.int IntKind.i64) (Ty.pair Ty.str Ty.str)))))) ++ y0) + List.length ((Prod.fst (List.getD p0 (Int.toNat p2) (Ty.dflt ty36)), Prod.snd (List.getD p0 (Int.toNat p2) (Ty.dflt ty36))) :: mt (Ty.den (Ty.pair (Ty.int IntKind.i64) (Ty.list (97) (Ty.pair (Ty.int IntKind.i64) (Ty.pair (Ty.int IntKind.i64) (Ty.pair Ty.str Ty.str)))))))) (32))
                             (
                              k (mt (Ty.den (Ty.pair (Ty.int IntKind.i64) (Ty.list (97) (Ty.pair (Ty.int IntKind.i64) (Ty.pair (Ty.int IntKind.i64) (Ty.pair Ty.str Ty.str)))))) ++ y0 ++ (Prod.fst (List.getD p0 (Int.toNat p2) (Ty.dflt ty36)), Prod.snd (List.getD p0 (Int.toNat p2) (Ty.dflt ty36))) :: mt (Ty.den (Ty.pair (Ty.int IntKind.i64) (Ty.list (97) (Ty.pair (Ty.int IntKind.i64) (Ty.pair (Ty.int IntKind.i64) (Ty.pair Ty.str Ty.str))))))))
                             (
                              none))
                           (
                            none)))
                       (
                        none))))
                 (
                  none))
               (
                cond (Ops.inb B p2 (List.length p0))
                 (
                  cond (Ops.inb B (0) (List.length (List.getD p1 (Int.toNat p2) (Ty.dflt ty27))))
                   (
                    cond (Ops.inb B (1) (List.length (List.getD p1 (Int.toNat p2) (Ty.dflt ty27))))
                     (
                      ob (c37 p0 p1 (List.getD (List.getD p1 (Int.toNat p2) (Ty.dflt ty27)) (Int.toNat (0)) (Ty.dflt (Ty.int IntKind.i64)))) fun y0 =>
                      ob (c37 p0 p1 (List.getD (List.getD p1 (Int.toNat p2) (Ty.dflt ty27)) (Int.toNat (1)) (Ty.dflt (Ty.int IntKind.i64)))) fun y1 =>
                      ob (c65 (Prod.fst (List.getD p0 (Int.toNat p2) (Ty.dflt ty36))) y0 y1) fun y2 =>
                      k y2)
                     (
                      none))
                   (
                    none))
                 (
                  none)))))))
     (
      none))
   (
    none)
theorem ta37 {R : Type} (B : Ops) (c37 : List ty36.den → List ty27.den → Int → Option ((List ty36.den))) (c64 : List ty36.den → Int → Option (Bool)) (c65 : Int → List ty36.den → List ty36.den → Option ((List ty36.den))) (p0 : List ty36.den) (p1 : List ty27.den) (p2 : Int) (k : ((List ty36.den)) → Option R) : Ta37 B c37 c64 c65 p0 p1 p2 k = T37 B c37 c64 c65 p0 p1 p2 k := by unfold Ta37 T37; simp only [agree_self]
theorem eq37 {R : Type} (B : Ops) (c37 : List ty36.den → List ty27.den → Int → Option ((List ty36.den))) (c64 : List ty36.den → Int → Option (Bool)) (c65 : Int → List ty36.den → List ty36.den → Option ((List ty36.den))) (p0 : List ty36.den) (p1 : List ty27.den) (p2 : Int) (k : AV → Objs → Option R) (n : Nat) : afun tau B gl0 X37 (ent 37 (e37 c37) (ent 64 (e64 c64) (ent 65 (e65 c65) (gnil)))) ow Try.f37 [.c (.list 36 ty36 p0), .c (.list 27 ty27 p1), .c (.int .i64 p2)] [] k n = T37 B c37 c64 c65 p0 p1 p2 (fun y => k (.c (.list 36 ty36 y)) []) := by rw [← ta37]; kernel_rfl
theorem nt37 {R R' : Type} (B : Ops) (c37 : List ty36.den → List ty27.den → Int → Option ((List ty36.den))) (c64 : List ty36.den → Int → Option (Bool)) (c65 : Int → List ty36.den → List ty36.den → Option ((List ty36.den))) (p0 : List ty36.den) (p1 : List ty27.den) (p2 : Int) (k0 : ((List ty36.den)) → Option R') (k : R' → Option R) : T37 B c37 c64 c65 p0 p1 p2 (fun y => ob (k0 y) k) = ob (T37 B c37 c64 c65 p0 p1 p2 k0) k := by
  unfold T37
  repeat' first | exact rfl | apply nat_cond | (apply nat_ob; intro)
def F37 (c37 : List ty36.den → List ty27.den → Int → Option ((List ty36.den))) (c64 : List ty36.den → Int → Option (Bool)) (c65 : Int → List ty36.den → List ty36.den → Option ((List ty36.den))) (p0 : List ty36.den) (p1 : List ty27.den) (p2 : Int) : Option ((List ty36.den)) := T37 Ops.std c37 c64 c65 p0 p1 p2 some
theorem fo37 {R : Type} (c37 : List ty36.den → List ty27.den → Int → Option ((List ty36.den))) (c64 : List ty36.den → Int → Option (Bool)) (c65 : Int → List ty36.den → List ty36.den → Option ((List ty36.den))) (p0 : List ty36.den) (p1 : List ty27.den) (p2 : Int) (k : AV → Objs → Option R) (n : Nat) : afun tau Ops.std gl0 X37 (ent 37 (e37 c37) (ent 64 (e64 c64) (ent 65 (e65 c65) (gnil)))) ow Try.f37 [.c (.list 36 ty36 p0), .c (.list 27 ty27 p1), .c (.int .i64 p2)] [] k n = ob (F37 c37 c64 c65 p0 p1 p2) (fun y => k (.c (.list 36 ty36 y)) []) := by rw [eq37]; exact nt37 Ops.std c37 c64 c65 p0 p1 p2 some (fun y => k (.c (.list 36 ty36 y)) [])
theorem sf37 {c37 : List ty36.den → List ty27.den → Int → Option ((List ty36.den))} {c64 : List ty36.den → Int → Option (Bool)} {c65 : Int → List ty36.den → List ty36.den → Option ((List ty36.den))} (h37 : Sp37 c37) (h64 : Sp64 c64) (h65 : Sp65 c65) : Sp37 (F37 c37 c64 c65) := fun p0 p1 p2 y hy => by
  refine spec_of (G := ent 37 (e37 c37) (ent 64 (e64 c64) (ent 65 (e65 c65) (gnil)))) (ent_ok (ek37 h37) (ent_ok (ek64 h64) (ent_ok (ek65 h65) (gnil_ok)))) 1000000 (fn := Try.f37) (by kernel_rfl) (by kernel_rfl) (X := X37) (by kernel_rfl) ?_
  rw [fo37, hy]
  rfl
noncomputable def Rec37 : Nat → (List ty36.den → List ty27.den → Int → Option ((List ty36.den)))
  | 0 => fun _ _ _ => none
  | d + 1 => F37 (Rec37 d) M64 M65
theorem rec37 : ∀ d, Sp37 (Rec37 d)
  | 0 => fun p0 p1 p2 y (h : (none : Option ((List ty36.den))) = some y) => by cases h
  | d + 1 => sf37 (rec37 d) sm64 sm65
noncomputable def M37 : List ty36.den → List ty27.den → Int → Option ((List ty36.den)) := (Rec37 1000000)
theorem sm37 : Sp37 M37 := (rec37 1000000)

/-! ### 15: lariat/lariatref13.Rewrite -/
def X15 : Aux := ⟨[(2000000, [])], []⟩
def T15 {R : Type} (B : Ops) (c17 : List ty36.den → Option (Bool)) (c16 : List ty36.den → Option ((List ty27.den))) (c37 : List ty36.den → List ty27.den → Int → Option ((List ty36.den))) (p0 : List ty36.den) (k : ((List ty36.den)) → Option R) : Option R :=
  ob (c17 p0) fun y0 =>
  cond (!y0)
   (
    k (mt (Ty.den (Ty.pair (Ty.int IntKind.i64) (Ty.list (97) (Ty.pair (Ty.int IntKind.i64) (Ty.pair (Ty.int IntKind.i64) (Ty.pair Ty.str Ty.str))))))))
   (
    ob (c16 p0) fun y1 =>
    ob (c37 p0 y1 (IntKind.wrap IntKind.i64 (Nat.cast (List.length p0) - 1))) fun y2 =>
    k y2)
theorem eq15 {R : Type} (B : Ops) (c17 : List ty36.den → Option (Bool)) (c16 : List ty36.den → Option ((List ty27.den))) (c37 : List ty36.den → List ty27.den → Int → Option ((List ty36.den))) (p0 : List ty36.den) (k : AV → Objs → Option R) (n : Nat) : afun tau B gl0 X15 (ent 17 (e17 c17) (ent 16 (e16 c16) (ent 37 (e37 c37) (gnil)))) ow Try.f15 [.c (.list 36 ty36 p0)] [] k n = T15 B c17 c16 c37 p0 (fun y => k (.c (.list 36 ty36 y)) []) := by kernel_rfl
theorem nt15 {R R' : Type} (B : Ops) (c17 : List ty36.den → Option (Bool)) (c16 : List ty36.den → Option ((List ty27.den))) (c37 : List ty36.den → List ty27.den → Int → Option ((List ty36.den))) (p0 : List ty36.den) (k0 : ((List ty36.den)) → Option R') (k : R' → Option R) : T15 B c17 c16 c37 p0 (fun y => ob (k0 y) k) = ob (T15 B c17 c16 c37 p0 k0) k := by
  unfold T15
  repeat' first | exact rfl | apply nat_cond | (apply nat_ob; intro)
def F15 (c17 : List ty36.den → Option (Bool)) (c16 : List ty36.den → Option ((List ty27.den))) (c37 : List ty36.den → List ty27.den → Int → Option ((List ty36.den))) (p0 : List ty36.den) : Option ((List ty36.den)) := T15 Ops.std c17 c16 c37 p0 some
theorem fo15 {R : Type} (c17 : List ty36.den → Option (Bool)) (c16 : List ty36.den → Option ((List ty27.den))) (c37 : List ty36.den → List ty27.den → Int → Option ((List ty36.den))) (p0 : List ty36.den) (k : AV → Objs → Option R) (n : Nat) : afun tau Ops.std gl0 X15 (ent 17 (e17 c17) (ent 16 (e16 c16) (ent 37 (e37 c37) (gnil)))) ow Try.f15 [.c (.list 36 ty36 p0)] [] k n = ob (F15 c17 c16 c37 p0) (fun y => k (.c (.list 36 ty36 y)) []) := by rw [eq15]; exact nt15 Ops.std c17 c16 c37 p0 some (fun y => k (.c (.list 36 ty36 y)) [])
def e15 {R : Type} (c : List ty36.den → Option ((List ty36.den))) : Ent R := fun args objs k =>
  oCons args fun a0 l0 => oC a0 fun x0 => cList 36 ty36 x0 fun p0 => oNil l0 <| oNilO objs <| ob (c p0) fun y => k (.c (.list 36 ty36 y)) []
abbrev Sp15 (c : List ty36.den → Option ((List ty36.den))) : Prop := ∀ (p0 : List ty36.den) (y : (List ty36.den)), c p0 = some y → Spec Try.prog gl0 15 [.c (.list 36 ty36 p0)] [] (.c (.list 36 ty36 y)) []
theorem ek15 {R : Type} {c : List ty36.den → Option ((List ty36.den))} (hs : Sp15 c) : EOk 15 (e15 (R := R) c) := fun args objs k r h => by
  unfold e15 at h
  obtain ⟨a0, l0, rfl, q1⟩ := oCons_some h
  obtain ⟨x0, rfl, q2⟩ := oC_some q1
  obtain ⟨p0, rfl, q3⟩ := cList_some q2
  obtain ⟨rfl, q4⟩ := oNil_some q3
  obtain ⟨rfl, q5⟩ := oNilO_some q4
  exact eok_of (hs p0) q5
theorem sf15 {c17 : List ty36.den → Option (Bool)} {c16 : List ty36.den → Option ((List ty27.den))} {c37 : List ty36.den → List ty27.den → Int → Option ((List ty36.den))} (h17 : Sp17 c17) (h16 : Sp16 c16) (h37 : Sp37 c37) : Sp15 (F15 c17 c16 c37) := fun p0 y hy => by
  refine spec_of (G := ent 17 (e17 c17) (ent 16 (e16 c16) (ent 37 (e37 c37) (gnil)))) (ent_ok (ek17 h17) (ent_ok (ek16 h16) (ent_ok (ek37 h37) (gnil_ok)))) 1000000 (fn := Try.f15) (by kernel_rfl) (by kernel_rfl) (X := X15) (by kernel_rfl) ?_
  rw [fo15, hy]
  rfl
noncomputable def M15 : List ty36.den → Option ((List ty36.den)) := F15 M17 M16 M37
theorem sm15 : Sp15 M15 := sf15 sm17 sm16 sm37

/-! ### 9: lariat/rewrite.Rewrite -/
def X9 : Aux := ⟨[(5, [1, 2, 4, 5, 6, 7, 8, 9, 10, 14, 15, 16, 17, 18, 19, 20, 21, 22, 23, 24, 25, 26, 27, 28, 29, 30, 31, 32, 33, 34, 35, 36, 37, 38, 39, 40, 41, 42, 43, 44, 45, 46, 47, 48, 49, 50, 51, 52, 53, 54, 55, 56, 57, 58, 59, 60, 61, 62, 63, 64, 65, 66, 67, 68, 69, 70, 71, 72, 73, 74, 75, 76, 77, 78, 79, 80, 81, 82, 83, 84, 85, 86, 87, 88, 89, 90, 91, 92, 93, 94, 95, 96, 97, 98, 99, 100, 101, 102, 103, 104, 105, 106, 107, 108, 109, 110, 111, 112, 113, 114, 115, 116, 117, 118, 119, 120, 121, 122, 123, 124, 125, 126, 127, 128, 129, 130, 131, 132]), (1000017, [1, 2, 4, 5, 6, 7, 8, 9, 10, 14, 15, 16, 17, 18, 19, 20, 21, 22, 23, 24, 25, 26, 27, 28, 29, 30, 31, 32, 33, 34, 35, 36, 37, 38, 39, 40, 41, 42, 43, 44, 45, 46, 47, 48, 49, 50, 51, 52, 53, 54, 55, 56, 57, 58, 59, 60, 61, 62, 63, 64, 65, 66, 67, 68, 69, 70, 71, 72, 73, 74, 75, 76, 77, 78, 79, 80, 81, 82, 83, 84, 85, 86, 87, 88, 89, 90, 91, 92, 93, 94, 95, 96, 97, 98, 99, 100, 101, 102, 103, 104, 105, 106, 107, 108, 109, 110, 111, 112, 113, 114, 115, 116, 117, 118, 119, 120, 121, 122, 123, 124, 125, 126, 127, 128, 129, 130, 131, 132])], [(10, .lin [0, 1, 2, 3, 4, 5, 6, 7, 8, 9, 10, 11, 12, 13, 14, 15, 16, 17]), (12, .lin [0, 1, 2, 3, 4, 5, 6, 7, 8, 9, 10, 11, 12, 13, 14, 15, 16, 17])]⟩
inductive S9 where
  | l0 (v0_1 : Int) (v0_2 : Int) (v0_3 : List ty24.den) (v0_4 : List ty27.den)
  | l1017 (v1017_1 : Int) (v1017_2 : Int) (v1017_3 : List ty24.den) (v1017_4 : List ty27.den)
def T9 {R : Type} (B : Ops) (c26 : List ty36.den → Option (Bool)) (c27 : List ty36.den → Option ((List ty27.den))) (c28 : Int → List ty36.den → List ty36.den → Option ((List ty36.den))) (c29 : Int → List ty36.den → List ty36.den → Option ((List ty36.den))) (c30 : List ty36.den → Int → Option (Bool)) (c31 : Int → List ty24.den → Option ((List ty36.den))) (c32 : List ty36.den → Option ((List ty36.den))) (p0 : List ty36.den) (again : S9 → Option R) (k : ((List ty36.den)) → Option R) : Option S9 → Option R
  | none =>
    ob (c26 p0) fun y0 =>
    cond (!y0)
     (
      k (mt (Ty.den (Ty.pair (Ty.int IntKind.i64) (Ty.list (97) (Ty.pair (Ty.int IntKind.i64) (Ty.pair (Ty.int IntKind.i64) (Ty.pair Ty.str Ty.str))))))))
     (
      ob (c27 p0) fun y1 =>
      again (.l0 (Nat.cast (List.length y1)) 0 (mt (Ty.den (Ty.list (36) (Ty.pair (Ty.int IntKind.i64) (Ty.list (97) (Ty.pair (Ty.int IntKind.i64) (Ty.pair (Ty.int IntKind.i64) (Ty.pair Ty.str Ty.str)))))))) y1))
  | some (.l0 v0_1 v0_2 v0_3 v0_4) =>
    cond (Ops.lt B v0_2 v0_1)
     (
      cond (Ops.inb B v0_2 (List.length v0_4))
       (
        cond (Ops.inb B v0_2 (List.length p0))
         (
          cond (Ops.eq B (Prod.fst (List.getD p0 (Int.toNat v0_2) (Ty.dflt ty36))) (5))
           (
            cond (Ops.inb B (0) (List.length (List.getD v0_4 (Int.toNat v0_2) (Ty.dflt ty27))))
             (
              cond (Ops.inb B (List.getD (List.getD v0_4 (Int.toNat v0_2) (Ty.dflt ty27)) (Int.toNat (0)) (Ty.dflt (Ty.int IntKind.i64))) (List.length v0_3))
               (
                cond (Ops.inb B (1) (List.length (List.getD v0_4 (Int.toNat v0_2) (Ty.dflt ty27))))
                 (
                  cond (Ops.inb B (List.getD (List.getD v0_4 (Int.toNat v0_2) (Ty.dflt ty27)) (Int.toNat (1)) (Ty.dflt (Ty.int IntKind.i64))) (List.length v0_3))
                   (
                    ob (c28 (Prod.fst (List.getD p0 (Int.toNat v0_2) (Ty.dflt ty36))) (List.getD v0_3 (Int.toNat (List.getD (List.getD v0_4 (Int.toNat v0_2) (Ty.dflt ty27)) (Int.toNat (0)) (Ty.dflt (Ty.int IntKind.i64)))) (Ty.dflt ty24)) (List.getD v0_3 (Int.toNat (List.getD (List.getD v0_4 (Int.toNat v0_2) (Ty.dflt ty27)) (Int.toNat (1)) (Ty.dflt (Ty.int IntKind.i64)))) (Ty.dflt ty24))) fun y0 =>
                    cond (Ops.lim B (List.length v0_3 + List.length (y0 :: mt (Ty.den (Ty.list (36) (Ty.pair (Ty.int IntKind.i64) (Ty.list (97) (Ty.pair (Ty.int IntKind.i64) (Ty.pair (Ty.int IntKind.i64) (Ty.pair Ty.str Ty.str))))))))) (24))
                     (
                      again (.l1017 v0_1 v0_2 (v0_3 ++ y0 :: mt (Ty.den (Ty.list (36) (Ty.pair (Ty.int IntKind.i64) (Ty.list (97) (Ty.pair (Ty.int IntKind.i64) (Ty.pair (Ty.int IntKind.i64) (Ty.pair Ty.str Ty.str)))))))) v0_4))
                     (
                      none))
                   (
                    none))
                 (
                  none))
               (
                none))
             (
              none))
           (
            cond (Ops.eq B (Prod.fst (List.getD p0 (Int.toNat v0_2) (Ty.dflt ty36))) (6))
             (
              cond (Ops.inb B (0) (List.length (List.getD v0_4 (Int.toNat v0_2) (Ty.dflt ty27))))
               (
                cond (Ops.inb B (List.getD (List.getD v0_4 (Int.toNat v0_2) (Ty.dflt ty27)) (Int.toNat (0)) (Ty.dflt (Ty.int IntKind.i64))) (List.length v0_3))
                 (
                  cond (Ops.inb B (1) (List.length (List.getD v0_4 (Int.toNat v0_2) (Ty.dflt ty27))))
                   (
                    cond (Ops.inb B (List.getD (List.getD v0_4 (Int.toNat v0_2) (Ty.dflt ty27)) (Int.toNat (1)) (Ty.dflt (Ty.int IntKind.i64))) (List.length v0_3))
                     (
                      ob (c28 (Prod.fst (List.getD p0 (Int.toNat v0_2) (Ty.dflt ty36))) (List.getD v0_3 (Int.toNat (List.getD (List.getD v0_4 (Int.toNat v0_2) (Ty.dflt ty27)) (Int.toNat (0)) (Ty.dflt (Ty.int IntKind.i64)))) (Ty.dflt ty24)) (List.getD v0_3 (Int.toNat (List.getD (List.getD v0_4 (Int.toNat v0_2) (Ty.dflt ty27)) (Int.toNat (1)) (Ty.dflt (Ty.int IntKind.i64)))) (Ty.dflt ty24))) fun y0 =>
                      cond (Ops.lim B (List.length v0_3 + List.length (y0 :: mt (Ty.den (Ty.list (36) (Ty.pair (Ty.int IntKind.i64) (Ty.list (97) (Ty.pair (Ty.int IntKind.i64) (Ty.pair (Ty.int IntKind.i64) (Ty.pair Ty.str Ty.str))))))))) (24))
                       (
                        again (.l1017 v0_1 v0_2 (v0_3 ++ y0 :: mt (Ty.den (Ty.list (36) (Ty.pair (Ty.int IntKind.i64) (Ty.list (97) (Ty.pair (Ty.int IntKind.i64) (Ty.pair (Ty.int IntKind.i64) (Ty.pair Ty.str Ty.str)))))))) v0_4))
                       (
                        none))
                     (
                      none))
                   (
                    none))
                 (
                  none))
               (
                none))
             (
              cond (Ops.eq B (Prod.fst (List.getD p0 (Int.toNat v0_2) (Ty.dflt ty36))) (9))
               (
                cond (Ops.inb B (0) (List.length (List.getD v0_4 (Int.toNat v0_2) (Ty.dflt ty27))))
                 (
                  cond (Ops.inb B (List.getD (List.getD v0_4 (Int.toNat v0_2) (Ty.dflt ty27)) (Int.toNat (0)) (Ty.dflt (Ty.int IntKind.i64))) (List.length v0_3))
                   (
                    cond (Ops.inb B (1) (List.length (List.getD v0_4 (Int.toNat v0_2) (Ty.dflt ty27))))
                     (
                      cond (Ops.inb B (List.getD (List.getD v0_4 (Int.toNat v0_2) (Ty.dflt ty27)) (Int.toNat (1)) (Ty.dflt (Ty.int IntKind.i64))) (List.length v0_3))
                       (
                        ob (c29 (Prod.fst (List.getD p0 (Int.toNat v0_2) (Ty.dflt ty36))) (List.getD v0_3 (Int.toNat (List.getD (List.getD v0_4 (Int.toNat v0_2) (Ty.dflt ty27)) (Int.toNat (0)) (Ty.dflt (Ty.int IntKind.i64)))) (Ty.dflt ty24)) (List.getD v0_3 (Int.toNat (List.getD (List.getD v0_4 (Int.toNat v0_2) (Ty.dflt ty27)) (Int.toNat (1)) (Ty.dflt (Ty.int IntKind.i64)))) (Ty.dflt ty24))) fun y0 =>
                        cond (Ops.lim B (List.length v0_3 + List.length (y0 :: mt (Ty.den (Ty.list (36) (Ty.pair (Ty.int IntKind.i64) (Ty.list (97) (Ty.pair (Ty.int IntKind.i64) (Ty.pair (Ty.int IntKind.i64) (Ty.pair Ty.str Ty.str))))))))) (24))
                         (
                          again (.l1017 v0_1 v0_2 (v0_3 ++ y0 :: mt (Ty.den (Ty.list (36) (Ty.pair (Ty.int IntKind.i64) (Ty.list (97) (Ty.pair (Ty.int IntKind.i64) (Ty.pair (Ty.int IntKind.i64) (Ty.pair Ty.str Ty.str)))))))) v0_4))
                         (
                          none))
                       (
                        none))
                     (
                      none))
                   (
                    none))
                 (
                  none))
               (
                cond (Ops.eq B (Prod.fst (List.getD p0 (Int.toNat v0_2) (Ty.dflt ty36))) (10))
                 (
                  cond (Ops.inb B (0) (List.length (List.getD v0_4 (Int.toNat v0_2) (Ty.dflt ty27))))
                   (
                    cond (Ops.inb B (List.getD (List.getD v0_4 (Int.toNat v0_2) (Ty.dflt ty27)) (Int.toNat (0)) (Ty.dflt (Ty.int IntKind.i64))) (List.length v0_3))
                     (
                      cond (Ops.inb B (1) (List.length (List.getD v0_4 (Int.toNat v0_2) (Ty.dflt ty27))))
                       (
                        cond (Ops.inb B (List.getD (List.getD v0_4 (Int.toNat v0_2) (Ty.dflt ty27)) (Int.toNat (1)) (Ty.dflt (Ty.int IntKind.i64))) (List.length v0_3))
                         (
                          ob (c29 (Prod.fst (List.getD p0 (Int.toNat v0_2) (Ty.dflt ty36))) (List.getD v0_3 (Int.toNat (List.getD (List.getD v0_4 (Int.toNat v0_2) (Ty.dflt ty27)) (Int.toNat (0)) (Ty.dflt (Ty.int IntKind.i64)))) (Ty.dflt ty24)) (List.getD v0_3 (Int.toNat (List.getD (List.getD v0_4 (Int.toNat v0_2) (Ty.dflt ty27)) (Int.toNat (1)) (Ty.dflt (Ty.int IntKind.i64)))) (Ty.dflt ty24))) fun y0 =>
                          cond (Ops.lim B (List.length v0_3 + List.length (y0 :: mt (Ty.den (Ty.list (36) (Ty.pair (Ty.int IntKind.i64) (Ty.list (97) (Ty.pair (Ty.int IntKind.i64) (Ty.pair (Ty.int IntKind.i64) (Ty.pair Ty.str Ty.str))))))))) (24))
                           (
                            again (.l1017 v0_1 v0_2 (v0_3 ++ y0 :: mt (Ty.den (Ty.list (36) (Ty.pair (Ty.int IntKind.i64) (Ty.list (97) (Ty.pair (Ty.int IntKind.i64) (Ty.pair (Ty.int IntKind.i64) (Ty.pair Ty.str Ty.str)))))))) v0_4))
                           (
                            none))
                         (
                          none))
                       (
                        none))
                     (
                      none))
                   (
                    none))
                 (
                  cond (Ops.eq B (Prod.fst (List.getD p0 (Int.toNat v0_2) (Ty.dflt ty36))) (8))
                   (
                    cond (Ops.inb B (0) (List.length (List.getD v0_4 (Int.toNat v0_2) (Ty.dflt ty27))))
                     (
                      cond (Ops.inb B (List.getD (List.getD v0_4 (Int.toNat v0_2) (Ty.dflt ty27)) (Int.toNat (0)) (Ty.dflt (Ty.int IntKind.i64))) (List.length v0_3))
                       (
                        ob (c30 (List.getD v0_3 (Int.toNat (List.getD (List.getD v0_4 (Int.toNat v0_2) (Ty.dflt ty27)) (Int.toNat (0)) (Ty.dflt (Ty.int IntKind.i64)))) (Ty.dflt ty24)) (1)) fun y0 =>
                        cond (y0)
                         (
                          cond (Ops.inb B (0) (List.length (List.getD v0_4 (Int.toNat v0_2) (Ty.dflt ty27))))
                           (
                            cond (Ops.inb B (List.getD (List.getD v0_4 (Int.toNat v0_2) (Ty.dflt ty27)) (Int.toNat (0)) (Ty.dflt (Ty.int IntKind.i64))) (List.length v0_3))
                             (
                              cond (Ops.lim B (List.length v0_3 + List.length (List.getD v0_3 (Int.toNat (List.getD (List.getD v0_4 (Int.toNat v0_2) (Ty.dflt ty27)) (Int.toNat (0)) (Ty.dflt (Ty.int IntKind.i64)))) (Ty.dflt ty24) :: mt (Ty.den (Ty.list (36) (Ty.pair (Ty.int IntKind.i64) (Ty.list (97) (Ty.pair (Ty.int IntKind.i64) (Ty.pair (Ty.int IntKind.i64) (Ty.pair Ty.str Ty.str))))))))) (24))
                               (
                                again (.l1017 v0_1 v0_2 (v0_3 ++ List.getD v0_3 (Int.toNat (List.getD (List.getD v0_4 (Int.toNat v0_2) (Ty.dflt ty27)) (Int.toNat (0)) (Ty.dflt (Ty.int IntKind.i64)))) (Ty.dflt ty24) :: mt (Ty.den (Ty.list (36) (Ty.pair (Ty.int IntKind.i64) (Ty.list (97) (Ty.pair (Ty.int IntKind.i64) (Ty.pair (Ty.int IntKind.i64) (Ty.pair Ty.str Ty.str)))))))) v0_4))
                               (
                                none))
                             (
                              none))
                           (
                            none))
                         (
                          cond (Ops.inb B (0) (List.length (List.getD v0_4 (Int.toNat v0_2) (Ty.dflt ty27))))
                           (
                            cond (Ops.inb B (List.getD (List.getD v0_4 (Int.toNat v0_2) (Ty.dflt ty27)) (Int.toNat (0)) (Ty.dflt (Ty.int IntKind.i64))) (List.length v0_3))
                             (
                              ob (c30 (List.getD v0_3 (Int.toNat (List.getD (List.getD v0_4 (Int.toNat v0_2) (Ty.dflt ty27)) (Int.toNat (0)) (Ty.dflt (Ty.int IntKind.i64)))) (Ty.dflt ty24)) (2)) fun y1 =>
                              cond (y1)
                               (
                                cond (Ops.inb B (0) (List.length (List.getD v0_4 (Int.toNat v0_2) (Ty.dflt ty27))))
                                 (
                                  cond (Ops.inb B (List.getD (List.getD v0_4 (Int.toNat v0_2) (Ty.dflt ty27)) (Int.toNat (0)) (Ty.dflt (Ty.int IntKind.i64))) (List.length v0_3))
                                   (
                                    cond (Ops.lim B (List.length v0_3 + List.length (List.getD v0_3 (Int.toNat (List.getD (List.getD v0_4 (Int.toNat v0_2) (Ty.dflt ty27)) (Int.toNat (0)) (Ty.dflt (Ty.int IntKind.i64)))) (Ty.dflt ty24) :: mt (Ty.den (Ty.list (36) (Ty.pair (Ty.int IntKind.i64) (Ty.list (97) (Ty.pair (Ty.int IntKind.i64) (Ty.pair (Ty.int IntKind.i64) (Ty.pair Ty.str Ty.str))))))))) (24))
                                     (
                                      again (.l1017 v0_1 v0_2 (v0_3 ++ List.getD v0_3 (Int.toNat (List.getD (List.getD v0_4 (Int.toNat v0_2) (Ty.dflt ty27)) (Int.toNat (0)) (Ty.dflt (Ty.int IntKind.i64)))) (Ty.dflt ty24) :: mt (Ty.den (Ty.list (36) (Ty.pair (Ty.int IntKind.i64) (Ty.list (97) (Ty.pair (Ty.int IntKind.i64) (Ty.pair (Ty.int IntKind.i64) (Ty.pair Ty.str Ty.str)))))))) v0_4))
                                     (
                                      none))
                                   (
                                    none))
                                 (
                                  none))
                               (
                                cond (Ops.eq B (Nat.cast (List.length (List.getD v0_4 (Int.toNat v0_2) (Ty.dflt ty27)))) (1))
                                 (
                                  cond (Ops.inb B (0) (List.length (List.getD v0_4 (Int.toNat v0_2) (Ty.dflt ty27))))
                                   (
                                    cond (Ops.inb B (List.getD (List.getD v0_4 (Int.toNat v0_2) (Ty.dflt ty27)) (Int.toNat (0)) (Ty.dflt (Ty.int IntKind.i64))) (List.length v0_3))
                                     (
                                      ob (c31 (Prod.fst (List.getD p0 (Int.toNat v0_2) (Ty.dflt ty36))) (List.getD v0_3 (Int.toNat (List.getD (List.getD v0_4 (Int.toNat v0_2) (Ty.dflt ty27)) (Int.toNat (0)) (Ty.dflt (Ty.int IntKind.i64)))) (Ty.dflt ty24) :: mt (Ty.den (Ty.list (36) (Ty.pair (Ty.int IntKind.i64) (Ty.list (97) (Ty.pair (Ty.int IntKind.i64) (Ty.pair (Ty.int IntKind.i64) (Ty.pair Ty.str Ty.str))))))))) fun y2 =>
                                      cond (Ops.lim B (List.length v0_3 + List.length (y2 :: mt (Ty.den (Ty.list (36) (Ty.pair (Ty.int IntKind.i64) (Ty.list (97) (Ty.pair (Ty.int IntKind.i64) (Ty.pair (Ty.int IntKind.i64) (Ty.pair Ty.str Ty.str))))))))) (24))
                                       (
                                        again (.l1017 v0_1 v0_2 (v0_3 ++ y2 :: mt (Ty.den (Ty.list (36) (Ty.pair (Ty.int IntKind.i64) (Ty.list (97) (Ty.pair (Ty.int IntKind.i64) (Ty.pair (Ty.int IntKind.i64) (Ty.pair Ty.str Ty.str)))))))) v0_4))
                                       (
                                        none))
                                     (
                                      none))
                                   (
                                    none))
                                 (
                                  cond (Ops.inb B v0_2 (List.length p0))
                                   (
                                    cond (Ops.lim B (List.length v0_3 + List.length (((Prod.fst (List.getD p0 (Int.toNat v0_2) (Ty.dflt ty36)), Prod.snd (List.getD p0 (Int.toNat v0_2) (Ty.dflt ty36))) :: mt (Ty.den (Ty.pair (Ty.int IntKind.i64) (Ty.list (97) (Ty.pair (Ty.int IntKind.i64) (Ty.pair (Ty.int IntKind.i64) (Ty.pair Ty.str Ty.str))))))) :: mt (Ty.den (Ty.list (36) (Ty.pair (Ty.int IntKind.i64) (Ty.list (97) (Ty.pair (Ty.int IntKind.i64) (Ty.pair (Ty.int IntKind.i64) (Ty.pair Ty.str Ty.str))))))))) (24))
                                     (
                                      again (.l1017 v0_1 v0_2 (v0_3 ++ ((Prod.fst (List.getD p0 (Int.toNat v0_2) (Ty.dflt ty36)), Prod.snd (List.getD p0 (Int.toNat v0_2) (Ty.dflt ty36))) :: mt (Ty.den (Ty.pair (Ty.int IntKind.i64) (Ty.list (97) (Ty.pair (Ty.int IntKind.i64) (Ty.pair (Ty.int IntKind.i64) (Ty.pair Ty.str Ty.str))))))) :: mt (Ty.den (Ty.list (36) (Ty.pair (Ty.int IntKind.i64) (Ty.list (97) (Ty.pair (Ty.int IntKind.i64) (Ty.pair (Ty.int IntKind.i64) (Ty.pair Ty.str Ty.str)))))))) v0_4))
                                     (
                                      none))
                                   (
                                    none))))
                             (
                              none))
                           (
                            none)))
                       (
                        none))
                     (
                      none))
                   (
                    cond (Ops.eq B (Nat.cast (List.length (List.getD v0_4 (Int.toNat v0_2) (Ty.dflt ty27)))) (1))
                     (
                      cond (Ops.inb B (0) (List.length (List.getD v0_4 (Int.toNat v0_2) (Ty.dflt ty27))))
                       (
                        cond (Ops.inb B (List.getD (List.getD v0_4 (Int.toNat v0_2) (Ty.dflt ty27)) (Int.toNat (0)) (Ty.dflt (Ty.int IntKind.i64))) (List.length v0_3))
                         (
                          ob (c31 (Prod.fst (List.getD p0 (Int.toNat v0_2) (Ty.dflt ty36))) (List.getD v0_3 (Int.toNat (List.getD (List.getD v0_4 (Int.toNat v0_2) (Ty.dflt ty27)) (Int.toNat (0)) (Ty.dflt (Ty.int IntKind.i64)))) (Ty.dflt ty24) :: mt (Ty.den (Ty.list (36) (Ty.pair (Ty.int IntKind.i64) (Ty.list (97) (Ty.pair (Ty.int IntKind.i64) (Ty.pair (Ty.int IntKind.i64) (Ty.pair Ty.str Ty.str))))))))) fun y0 =>
                          cond (Ops.lim B (List.length v0_3 + List.length (y0 :: mt (Ty.den (Ty.list (36) (Ty.pair (Ty.int IntKind.i64) (Ty.list (97) (Ty.pair (Ty.int IntKind.i64) (Ty.pair (Ty.int IntKind.i64) (Ty.pair Ty.str Ty.str))))))))) (24))
                           (
                            again (.l1017 v0_1 v0_2 (v0_3 ++ y0 :: mt (Ty.den (Ty.list (36) (Ty.pair (Ty.int IntKind.i64) (Ty.list (97) (Ty.pair (Ty.int IntKind.i64) (Ty.pair (Ty.int IntKind.i64) (Ty.pair Ty.str Ty.str)))))))) v0_4))
                           (
                            none))
                         (
                          none))
                       (
                        none))
                     (
                      cond (Ops.inb B v0_2 (List.length p0))
                       (
                        cond (Ops.lim B (List.length v0_3 + List.length (((Prod.fst (List.getD p0 (Int.toNat v0_2) (Ty.dflt ty36)), Prod.snd (List.getD p0 (Int.toNat v0_2) (Ty.dflt ty36))) :: mt (Ty.den (Ty.pair (Ty.int IntKind.i64) (Ty.list (97) (Ty.pair (Ty.int IntKind.i64) (Ty.pair (Ty.int IntKind.i64) (Ty.pair Ty.str Ty.str))))))) :: mt (Ty.den (Ty.list (36) (Ty.pair (Ty.int IntKind.i64) (Ty.list (97) (Ty.pair (Ty.int IntKind.i64) (Ty.pair (Ty.int IntKind.i64) (Ty.pair Ty.str Ty.str))))))))) (24))
                         (
                          again (.l1017 v0_1 v0_2 (v0_3 ++ ((Prod.fst (List.getD p0 (Int.toNat v0_2) (Ty.dflt ty36)), Prod.snd (List.getD p0 (Int.toNat v0_2) (Ty.dflt ty36))) :: mt (Ty.den (Ty.pair (Ty.int IntKind.i64) (Ty.list (97) (Ty.pair (Ty.int IntKind.i64) (Ty.pair (Ty.int IntKind.i64) (Ty.pair Ty.str Ty.str))))))) :: mt (Ty.den (Ty.list (36) (Ty.pair (Ty.int IntKind.i64) (Ty.list (97) (Ty.pair (Ty.int IntKind.i64) (Ty.pair (Ty.int IntKind.i64) (Ty.pair Ty.str Ty.str)))))))) v0_4))
                         (
                          none))
                       (
                        none))))))))
         (
          none))
       (
        none))
     (
      cond (Ops.inb B (IntKind.wrap IntKind.i64 (Nat.cast (List.length v0_3) - 1)) (List.length v0_3))
       (
        ob (c32 (List.getD v0_3 (Int.toNat (IntKind.wrap IntKind.i64 (Nat.cast (List.length v0_3) - 1))) (Ty.dflt ty24))) fun y0 =>
        k y0)
       (
        none))
  | some (.l1017 v1017_1 v1017_2 v1017_3 v1017_4) =>
    again (.l0 v1017_1 (IntKind.wrap IntKind.i64 (v1017_2 + 1)) v1017_3 v1017_4)
def E9 (p0 : List ty36.den) : S9 → List AV × Objs
  | .l0 v0_1 v0_2 v0_3 v0_4 => (mk 133 [(0, .c (.list 36 ty36 p0)), (3, .c (.own 3)), (11, .c (.own 11)), (12, .c (.int .i64 v0_1)), (13, .c (.int .i64 v0_2))], [(3, .row 24 ty24 v0_3), (11, .row 27 ty27 v0_4)])
  | .l1017 v1017_1 v1017_2 v1017_3 v1017_4 => (mk 133 [(0, .c (.list 36 ty36 p0)), (3, .c (.own 3)), (11, .c (.own 11)), (12, .c (.int .i64 v1017_1)), (13, .c (.int .i64 v1017_2))], [(3, .row 24 ty24 v1017_3), (11, .row 27 ty27 v1017_4)])
def I9 : S9 → Nat
  | .l0 _ _ _ _ => 0
  | .l1017 _ _ _ _ => 1017
theorem eq9 {R : Type} (B : Ops) (c26 : List ty36.den → Option (Bool)) (c27 : List ty36.den → Option ((List ty27.den))) (c28 : Int → List ty36.den → List ty36.den → Option ((List ty36.den))) (c29 : Int → List ty36.den → List ty36.den → Option ((List ty36.den))) (c30 : List ty36.den → Int → Option (Bool)) (c31 : Int → List ty24.den → Option ((List ty36.den))) (c32 : List ty36.den → Option ((List ty36.den))) (p0 : List ty36.den) (k : AV → Objs → Option R) (n : Nat) : afun tau B gl0 X9 (ent 26 (e26 c26) (ent 27 (e27 c27) (ent 28 (e28 c28) (ent 29 (e29 c29) (ent 30 (e30 c30) (ent 31 (e31 c31) (ent 32 (e32 c32) (gnil)))))))) ow Try.f9 [.c (.list 36 ty36 p0)] [] k n = T9 B c26 c27 c28 c29 c30 c31 c32 p0 (fun s => aloop tau B gl0 X9 (ent 26 (e26 c26) (ent 27 (e27 c27) (ent 28 (e28 c28) (ent 29 (e29 c29) (ent 30 (e30 c30) (ent 31 (e31 c31) (ent 32 (e32 c32) (gnil)))))))) ow [] Try.f9 k (I9 s) (E9 p0 s) n) (fun y => k (.c (.own 500)) [(500, .row 36 ty36 y)]) none := by kernel_rfl
theorem el9 {R : Type} (B : Ops) (c26 : List ty36.den → Option (Bool)) (c27 : List ty36.den → Option ((List ty27.den))) (c28 : Int → List ty36.den → List ty36.den → Option ((List ty36.den))) (c29 : Int → List ty36.den → List ty36.den → Option ((List ty36.den))) (c30 : List ty36.den → Int → Option (Bool)) (c31 : Int → List ty24.den → Option ((List ty36.den))) (c32 : List ty36.den → Option ((List ty36.den))) (p0 : List ty36.den) (k : AV → Objs → Option R) (n : Nat) : ∀ s, aloop tau B gl0 X9 (ent 26 (e26 c26) (ent 27 (e27 c27) (ent 28 (e28 c28) (ent 29 (e29 c29) (ent 30 (e30 c30) (ent 31 (e31 c31) (ent 32 (e32 c32) (gnil)))))))) ow [] Try.f9 k (I9 s) (E9 p0 s) (n + 1) = T9 B c26 c27 c28 c29 c30 c31 c32 p0 (fun s => aloop tau B gl0 X9 (ent 26 (e26 c26) (ent 27 (e27 c27) (ent 28 (e28 c28) (ent 29 (e29 c29) (ent 30 (e30 c30) (ent 31 (e31 c31) (ent 32 (e32 c32) (gnil)))))))) ow [] Try.f9 k (I9 s) (E9 p0 s) n) (fun y => k (.c (.own 500)) [(500, .row 36 ty36 y)]) (some s)
  | .l0 v0_1 v0_2 v0_3 v0_4 => by kernel_rfl
  | .l1017 v1017_1 v1017_2 v1017_3 v1017_4 => by kernel_rfl
theorem nt9 {R R' : Type} (B : Ops) (c26 : List ty36.den → Option (Bool)) (c27 : List ty36.den → Option ((List ty27.den))) (c28 : Int → List ty36.den → List ty36.den → Option ((List ty36.den))) (c29 : Int → List ty36.den → List ty36.den → Option ((List ty36.den))) (c30 : List ty36.den → Int → Option (Bool)) (c31 : Int → List ty24.den → Option ((List ty36.den))) (c32 : List ty36.den → Option ((List ty36.den))) (p0 : List ty36.den) (again : S9 → Option R) (again' : S9 → Option R') (k0 : ((List ty36.den)) → Option R') (k : R' → Option R) (h : ∀ s, again s = ob (again' s) k) : ∀ s, T9 B c26 c27 c28 c29 c30 c31 c32 p0 again (fun y => ob (k0 y) k) s = ob (T9 B c26 c27 c28 c29 c30 c31 c32 p0 again' k0 s) k
  | none => by unfold T9; repeat' first | exact rfl | exact h _ | apply nat_cond | (apply nat_ob; intro)
  | some (.l0 v0_1 v0_2 v0_3 v0_4) => by unfold T9; repeat' first | exact rfl | exact h _ | apply nat_cond | (apply nat_ob; intro)
  | some (.l1017 v1017_1 v1017_2 v1017_3 v1017_4) => by unfold T9; repeat' first | exact rfl | exact h _ | apply nat_cond | (apply nat_ob; intro)
def R9 (c26 : List ty36.den → Option (Bool)) (c27 : List ty36.den → Option ((List ty27.den))) (c28 : Int → List ty36.den → List ty36.den → Option ((List ty36.den))) (c29 : Int → List ty36.den → List ty36.den → Option ((List ty36.den))) (c30 : List ty36.den → Int → Option (Bool)) (c31 : Int → List ty24.den → Option ((List ty36.den))) (c32 : List ty36.den → Option ((List ty36.den))) (p0 : List ty36.den) : Nat → S9 → Option ((List ty36.den))
  | 0, _ => none
  | n + 1, s => T9 Ops.std c26 c27 c28 c29 c30 c31 c32 p0 (R9 c26 c27 c28 c29 c30 c31 c32 p0 n) some (some s)
theorem rr9 {R : Type} (c26 : List ty36.den → Option (Bool)) (c27 : List ty36.den → Option ((List ty27.den))) (c28 : Int → List ty36.den → List ty36.den → Option ((List ty36.den))) (c29 : Int → List ty36.den → List ty36.den → Option ((List ty36.den))) (c30 : List ty36.den → Int → Option (Bool)) (c31 : Int → List ty24.den → Option ((List ty36.den))) (c32 : List ty36.den → Option ((List ty36.den))) (p0 : List ty36.den) (k : AV → Objs → Option R) : ∀ (n : Nat) (s : S9), aloop tau Ops.std gl0 X9 (ent 26 (e26 c26) (ent 27 (e27 c27) (ent 28 (e28 c28) (ent 29 (e29 c29) (ent 30 (e30 c30) (ent 31 (e31 c31) (ent 32 (e32 c32) (gnil)))))))) ow [] Try.f9 k (I9 s) (E9 p0 s) n = ob (R9 c26 c27 c28 c29 c30 c31 c32 p0 n s) (fun y => k (.c (.own 500)) [(500, .row 36 ty36 y)])
  | 0, s => by cases s <;> rfl
  | n + 1, s => by rw [el9]; exact nt9 Ops.std c26 c27 c28 c29 c30 c31 c32 p0 _ _ some (fun y => k (.c (.own 500)) [(500, .row 36 ty36 y)]) (rr9 c26 c27 c28 c29 c30 c31 c32 p0 k n) (some s)
def F9 (c26 : List ty36.den → Option (Bool)) (c27 : List ty36.den → Option ((List ty27.den))) (c28 : Int → List ty36.den → List ty36.den → Option ((List ty36.den))) (c29 : Int → List ty36.den → List ty36.den → Option ((List ty36.den))) (c30 : List ty36.den → Int → Option (Bool)) (c31 : Int → List ty24.den → Option ((List ty36.den))) (c32 : List ty36.den → Option ((List ty36.den))) (p0 : List ty36.den) : Option ((List ty36.den)) := T9 Ops.std c26 c27 c28 c29 c30 c31 c32 p0 (R9 c26 c27 c28 c29 c30 c31 c32 p0 1000000) some none
theorem fo9 {R : Type} (c26 : List ty36.den → Option (Bool)) (c27 : List ty36.den → Option ((List ty27.den))) (c28 : Int → List ty36.den → List ty36.den → Option ((List ty36.den))) (c29 : Int → List ty36.den → List ty36.den → Option ((List ty36.den))) (c30 : List ty36.den → Int → Option (Bool)) (c31 : Int → List ty24.den → Option ((List ty36.den))) (c32 : List ty36.den → Option ((List ty36.den))) (p0 : List ty36.den) (k : AV → Objs → Option R) : afun tau Ops.std gl0 X9 (ent 26 (e26 c26) (ent 27 (e27 c27) (ent 28 (e28 c28) (ent 29 (e29 c29) (ent 30 (e30 c30) (ent 31 (e31 c31) (ent 32 (e32 c32) (gnil)))))))) ow Try.f9 [.c (.list 36 ty36 p0)] [] k 1000000 = ob (F9 c26 c27 c28 c29 c30 c31 c32 p0) (fun y => k (.c (.own 500)) [(500, .row 36 ty36 y)]) := by rw [eq9]; exact nt9 Ops.std c26 c27 c28 c29 c30 c31 c32 p0 _ _ some (fun y => k (.c (.own 500)) [(500, .row 36 ty36 y)]) (rr9 c26 c27 c28 c29 c30 c31 c32 p0 k 1000000) none
def e9 {R : Type} (c : List ty36.den → Option ((List ty36.den))) : Ent R := fun args objs k =>
  oCons args fun a0 l0 => oC a0 fun x0 => cList 36 ty36 x0 fun p0 => oNil l0 <| oNilO objs <| ob (c p0) fun y => k (.c (.own 500)) [(500, .row 36 ty36 y)]
abbrev Sp9 (c : List ty36.den → Option ((List ty36.den))) : Prop := ∀ (p0 : List ty36.den) (y : (List ty36.den)), c p0 = some y → Spec Try.prog gl0 9 [.c (.list 36 ty36 p0)] [] (.c (.own 500)) [(500, .row 36 ty36 y)]
theorem ek9 {R : Type} {c : List ty36.den → Option ((List ty36.den))} (hs : Sp9 c) : EOk 9 (e9 (R := R) c) := fun args objs k r h => by
  unfold e9 at h
  obtain ⟨a0, l0, rfl, q1⟩ := oCons_some h
  obtain ⟨x0, rfl, q2⟩ := oC_some q1
  obtain ⟨p0, rfl, q3⟩ := cList_some q2
  obtain ⟨rfl, q4⟩ := oNil_some q3
  obtain ⟨rfl, q5⟩ := oNilO_some q4
  exact eok_of (hs p0) q5
theorem sf9 {c26 : List ty36.den → Option (Bool)} {c27 : List ty36.den → Option ((List ty27.den))} {c28 : Int → List ty36.den → List ty36.den → Option ((List ty36.den))} {c29 : Int → List ty36.den → List ty36.den → Option ((List ty36.den))} {c30 : List ty36.den → Int → Option (Bool)} {c31 : Int → List ty24.den → Option ((List ty36.den))} {c32 : List ty36.den → Option ((List ty36.den))} (h26 : Sp26 c26) (h27 : Sp27 c27) (h28 : Sp28 c28) (h29 : Sp29 c29) (h30 : Sp30 c30) (h31 : Sp31 c31) (h32 : Sp32 c32) : Sp9 (F9 c26 c27 c28 c29 c30 c31 c32) := fun p0 y hy => by
  refine spec_of (G := ent 26 (e26 c26) (ent 27 (e27 c27) (ent 28 (e28 c28) (ent 29 (e29 c29) (ent 30 (e30 c30) (ent 31 (e31 c31) (ent 32 (e32 c32) (gnil)))))))) (ent_ok (ek26 h26) (ent_ok (ek27 h27) (ent_ok (ek28 h28) (ent_ok (ek29 h29) (ent_ok (ek30 h30) (ent_ok (ek31 h31) (ent_ok (ek32 h32) (gnil_ok)))))))) 1000000 (fn := Try.f9) (by kernel_rfl) (by kernel_rfl) (X := X9) (by kernel_rfl) ?_
  rw [fo9, hy]
  rfl
noncomputable def M9 : List ty36.den → Option ((List ty36.den)) := F9 M26 M27 M28 M29 M30 M31 M32
theorem sm9 : Sp9 M9 := sf9 sm26 sm27 sm28 sm29 sm30 sm31 sm32

/-! ### 8: lariat/lariatlaw15.is -/
def X8 : Aux := ⟨[], []⟩
def T8 {R : Type} (B : Ops) (c10 : List UInt8 → Option ((List ty36.den))) (c9 : List ty36.den → Option ((List ty36.den))) (c25 : List ty36.den → Option ((List UInt8))) (p0 : List UInt8) (p1 : List UInt8) (k : (Bool) → Option R) : Option R :=
  ob (c10 p0) fun y0 =>
  ob (c9 y0) fun y1 =>
  ob (c25 y1) fun y2 =>
  k (y2 == p1)
theorem eq8 {R : Type} (B : Ops) (c10 : List UInt8 → Option ((List ty36.den))) (c9 : List ty36.den → Option ((List ty36.den))) (c25 : List ty36.den → Option ((List UInt8))) (p0 : List UInt8) (p1 : List UInt8) (k : AV → Objs → Option R) (n : Nat) : afun tau B gl0 X8 (ent 10 (e10 c10) (ent 9 (e9 c9) (ent 25 (e25 c25) (gnil)))) ow Try.f8 [.c (.str p0), .c (.str p1)] [] k n = T8 B c10 c9 c25 p0 p1 (fun y => k (.c (.bool y)) []) := by kernel_rfl
theorem nt8 {R R' : Type} (B : Ops) (c10 : List UInt8 → Option ((List ty36.den))) (c9 : List ty36.den → Option ((List ty36.den))) (c25 : List ty36.den → Option ((List UInt8))) (p0 : List UInt8) (p1 : List UInt8) (k0 : (Bool) → Option R') (k : R' → Option R) : T8 B c10 c9 c25 p0 p1 (fun y => ob (k0 y) k) = ob (T8 B c10 c9 c25 p0 p1 k0) k := by
  unfold T8
  repeat' first | exact rfl | apply nat_cond | (apply nat_ob; intro)
def F8 (c10 : List UInt8 → Option ((List ty36.den))) (c9 : List ty36.den → Option ((List ty36.den))) (c25 : List ty36.den → Option ((List UInt8))) (p0 : List UInt8) (p1 : List UInt8) : Option (Bool) := T8 Ops.std c10 c9 c25 p0 p1 some
theorem fo8 {R : Type} (c10 : List UInt8 → Option ((List ty36.den))) (c9 : List ty36.den → Option ((List ty36.den))) (c25 : List ty36.den → Option ((List UInt8))) (p0 : List UInt8) (p1 : List UInt8) (k : AV → Objs → Option R) (n : Nat) : afun tau Ops.std gl0 X8 (ent 10 (e10 c10) (ent 9 (e9 c9) (ent 25 (e25 c25) (gnil)))) ow Try.f8 [.c (.str p0), .c (.str p1)] [] k n = ob (F8 c10 c9 c25 p0 p1) (fun y => k (.c (.bool y)) []) := by rw [eq8]; exact nt8 Ops.std c10 c9 c25 p0 p1 some (fun y => k (.c (.bool y)) [])
def e8 {R : Type} (c : List UInt8 → List UInt8 → Option (Bool)) : Ent R := fun args objs k =>
  oCons args fun a0 l0 => oC a0 fun x0 => cStr x0 fun p0 => oCons l0 fun a1 l1 => oC a1 fun x1 => cStr x1 fun p1 => oNil l1 <| oNilO objs <| ob (c p0 p1) fun y => k (.c (.bool y)) []
abbrev Sp8 (c : List UInt8 → List UInt8 → Option (Bool)) : Prop := ∀ (p0 : List UInt8) (p1 : List UInt8) (y : Bool), c p0 p1 = some y → Spec Try.prog gl0 8 [.c (.str p0), .c (.str p1)] [] (.c (.bool y)) []
theorem ek8 {R : Type} {c : List UInt8 → List UInt8 → Option (Bool)} (hs : Sp8 c) : EOk 8 (e8 (R := R) c) := fun args objs k r h => by
  unfold e8 at h
  obtain ⟨a0, l0, rfl, q1⟩ := oCons_some h
  obtain ⟨x0, rfl, q2⟩ := oC_some q1
  obtain ⟨p0, rfl, q3⟩ := cStr_some q2
  obtain ⟨a1, l1, rfl, q4⟩ := oCons_some q3
  obtain ⟨x1, rfl, q5⟩ := oC_some q4
  obtain ⟨p1, rfl, q6⟩ := cStr_some q5
  obtain ⟨rfl, q7⟩ := oNil_some q6
  obtain ⟨rfl, q8⟩ := oNilO_some q7
  exact eok_of (hs p0 p1) q8
theorem sf8 {c10 : List UInt8 → Option ((List ty36.den))} {c9 : List ty36.den → Option ((List ty36.den))} {c25 : List ty36.den → Option ((List UInt8))} (h10 : Sp10 c10) (h9 : Sp9 c9) (h25 : Sp25 c25) : Sp8 (F8 c10 c9 c25) := fun p0 p1 y hy => by
  refine spec_of (G := ent 10 (e10 c10) (ent 9 (e9 c9) (ent 25 (e25 c25) (gnil)))) (ent_ok (ek10 h10) (ent_ok (ek9 h9) (ent_ok (ek25 h25) (gnil_ok)))) 1000000 (fn := Try.f8) (by kernel_rfl) (by kernel_rfl) (X := X8) (by kernel_rfl) ?_
  rw [fo8, hy]
  rfl
noncomputable def M8 : List UInt8 → List UInt8 → Option (Bool) := F8 M10 M9 M25
theorem sm8 : Sp8 M8 := sf8 sm10 sm9 sm25

/-! ### 7: lariat/lariatlaw15.known -/
def X7 : Aux := ⟨[], []⟩
def T7 {R : Type} (B : Ops) (c8 : List UInt8 → List UInt8 → Option (Bool)) (k : (Bool) → Option R) : Option R :=
  ob (c8 ([116, 114, 117, 101, 32, 38, 38, 32, 88, 32, 102, 97, 108, 115, 101] : List UInt8) ([102, 97, 108, 115, 101] : List UInt8)) fun y0 =>
  cond (y0)
   (
    ob (c8 ([91, 120, 93] : List UInt8) ([91, 120, 93] : List UInt8)) fun y1 =>
    k y1)
   (
    k false)
theorem eq7 {R : Type} (B : Ops) (c8 : List UInt8 → List UInt8 → Option (Bool)) (k : AV → Objs → Option R) (n : Nat) : afun tau B gl0 X7 (ent 8 (e8 c8) (gnil)) ow Try.f7 [] [] k n = T7 B c8 (fun y => k (.c (.bool y)) []) := by kernel_rfl
theorem nt7 {R R' : Type} (B : Ops) (c8 : List UInt8 → List UInt8 → Option (Bool)) (k0 : (Bool) → Option R') (k : R' → Option R) : T7 B c8 (fun y => ob (k0 y) k) = ob (T7 B c8 k0) k := by
  unfold T7
  repeat' first | exact rfl | apply nat_cond | (apply nat_ob; intro)
def F7 (c8 : List UInt8 → List UInt8 → Option (Bool)) : Option (Bool) := T7 Ops.std c8 some
theorem fo7 {R : Type} (c8 : List UInt8 → List UInt8 → Option (Bool)) (k : AV → Objs → Option R) (n : Nat) : afun tau Ops.std gl0 X7 (ent 8 (e8 c8) (gnil)) ow Try.f7 [] [] k n = ob (F7 c8) (fun y => k (.c (.bool y)) []) := by rw [eq7]; exact nt7 Ops.std c8 some (fun y => k (.c (.bool y)) [])
def e7 {R : Type} (c : Option (Bool)) : Ent R := fun args objs k =>
  oNil args <| oNilO objs <| ob (c ) fun y => k (.c (.bool y)) []
abbrev Sp7 (c : Option (Bool)) : Prop := ∀ (y : Bool), c = some y → Spec Try.prog gl0 7 [] [] (.c (.bool y)) []
theorem ek7 {R : Type} {c : Option (Bool)} (hs : Sp7 c) : EOk 7 (e7 (R := R) c) := fun args objs k r h => by
  unfold e7 at h
  obtain ⟨rfl, q1⟩ := oNil_some h
  obtain ⟨rfl, q2⟩ := oNilO_some q1
  exact eok_of (hs ) q2
theorem sf7 {c8 : List UInt8 → List UInt8 → Option (Bool)} (h8 : Sp8 c8) : Sp7 (F7 c8) := fun y hy => by
  refine spec_of (G := ent 8 (e8 c8) (gnil)) (ent_ok (ek8 h8) (gnil_ok)) 1000000 (fn := Try.f7) (by kernel_rfl) (by kernel_rfl) (X := X7) (by kernel_rfl) ?_
  rw [fo7, hy]
  rfl
noncomputable def M7 : Option (Bool) := F7 M8
theorem sm7 : Sp7 M7 := sf7 sm8

/-! ### 4: lariat/lariatlaw15.RewriteTells -/
def X4 : Aux := ⟨[], []⟩
def T4 {R : Type} (B : Ops) (c7 : Option (Bool)) (c11 : List ty3.den → Option ((List UInt8))) (c10 : List UInt8 → Option ((List ty36.den))) (c12 : List ty36.den → Option ((List ty36.den))) (c13 : List ty36.den → Option ((List ty36.den))) (c9 : List ty36.den → Option ((List ty36.den))) (c15 : List ty36.den → Option ((List ty36.den))) (c14 : List ty36.den → List ty36.den → Option (Bool)) (p0 : List ty3.den) (p1 : Bool) (k : (Bool) → Option R) : Option R :=
  ob (c7) fun y0 =>
  cond (!y0)
   (
    k false)
   (
    ob (c11 p0) fun y1 =>
    ob (c10 y1) fun y2 =>
    ob (c12 y2) fun y3 =>
    cond (p1)
     (
      ob (c13 y2) fun y4 =>
      ob (c7) fun y5 =>
      cond (y5)
       (
        ob (c9 y4) fun y6 =>
        ob (c15 y4) fun y7 =>
        ob (c14 y6 y7) fun y8 =>
        cond (y8)
         (
          ob (c9 y2) fun y9 =>
          ob (c15 y2) fun y10 =>
          ob (c14 y9 y10) fun y11 =>
          k y11)
         (
          k false))
       (
        k false))
     (
      ob (c7) fun y4 =>
      cond (y4)
       (
        ob (c9 y3) fun y5 =>
        ob (c15 y3) fun y6 =>
        ob (c14 y5 y6) fun y7 =>
        cond (y7)
         (
          ob (c9 y2) fun y8 =>
          ob (c15 y2) fun y9 =>
          ob (c14 y8 y9) fun y10 =>
          k y10)
         (
          k false))
       (
        k false)))
theorem eq4 {R : Type} (B : Ops) (c7 : Option (Bool)) (c11 : List ty3.den → Option ((List UInt8))) (c10 : List UInt8 → Option ((List ty36.den))) (c12 : List ty36.den → Option ((List ty36.den))) (c13 : List ty36.den → Option ((List ty36.den))) (c9 : List ty36.den → Option ((List ty36.den))) (c15 : List ty36.den → Option ((List ty36.den))) (c14 : List ty36.den → List ty36.den → Option (Bool)) (p0 : List ty3.den) (p1 : Bool) (k : AV → Objs → Option R) (n : Nat) : afun tau B gl0 X4 (ent 7 (e7 c7) (ent 11 (e11 c11) (ent 10 (e10 c10) (ent 12 (e12 c12) (ent 13 (e13 c13) (ent 9 (e9 c9) (ent 15 (e15 c15) (ent 14 (e14 c14) (gnil))))))))) ow Try.f4 [.c (.list 3 ty3 p0), .c (.bool p1)] [] k n = T4 B c7 c11 c10 c12 c13 c9 c15 c14 p0 p1 (fun y => k (.c (.bool y)) []) := by kernel_rfl
theorem nt4 {R R' : Type} (B : Ops) (c7 : Option (Bool)) (c11 : List ty3.den → Option ((List UInt8))) (c10 : List UInt8 → Option ((List ty36.den))) (c12 : List ty36.den → Option ((List ty36.den))) (c13 : List ty36.den → Option ((List ty36.den))) (c9 : List ty36.den → Option ((List ty36.den))) (c15 : List ty36.den → Option ((List ty36.den))) (c14 : List ty36.den → List ty36.den → Option (Bool)) (p0 : List ty3.den) (p1 : Bool) (k0 : (Bool) → Option R') (k : R' → Option R) : T4 B c7 c11 c10 c12 c13 c9 c15 c14 p0 p1 (fun y => ob (k0 y) k) = ob (T4 B c7 c11 c10 c12 c13 c9 c15 c14 p0 p1 k0) k := by
  unfold T4
  repeat' first | exact rfl | apply nat_cond | (apply nat_ob; intro)
def F4 (c7 : Option (Bool)) (c11 : List ty3.den → Option ((List UInt8))) (c10 : List UInt8 → Option ((List ty36.den))) (c12 : List ty36.den → Option ((List ty36.den))) (c13 : List ty36.den → Option ((List ty36.den))) (c9 : List ty36.den → Option ((List ty36.den))) (c15 : List ty36.den → Option ((List ty36.den))) (c14 : List ty36.den → List ty36.den → Option (Bool)) (p0 : List ty3.den) (p1 : Bool) : Option (Bool) := T4 Ops.std c7 c11 c10 c12 c13 c9 c15 c14 p0 p1 some
theorem fo4 {R : Type} (c7 : Option (Bool)) (c11 : List ty3.den → Option ((List UInt8))) (c10 : List UInt8 → Option ((List ty36.den))) (c12 : List ty36.den → Option ((List ty36.den))) (c13 : List ty36.den → Option ((List ty36.den))) (c9 : List ty36.den → Option ((List ty36.den))) (c15 : List ty36.den → Option ((List ty36.den))) (c14 : List ty36.den → List ty36.den → Option (Bool)) (p0 : List ty3.den) (p1 : Bool) (k : AV → Objs → Option R) (n : Nat) : afun tau Ops.std gl0 X4 (ent 7 (e7 c7) (ent 11 (e11 c11) (ent 10 (e10 c10) (ent 12 (e12 c12) (ent 13 (e13 c13) (ent 9 (e9 c9) (ent 15 (e15 c15) (ent 14 (e14 c14) (gnil))))))))) ow Try.f4 [.c (.list 3 ty3 p0), .c (.bool p1)] [] k n = ob (F4 c7 c11 c10 c12 c13 c9 c15 c14 p0 p1) (fun y => k (.c (.bool y)) []) := by rw [eq4]; exact nt4 Ops.std c7 c11 c10 c12 c13 c9 c15 c14 p0 p1 some (fun y => k (.c (.bool y)) [])
def e4 {R : Type} (c : List ty3.den → Bool → Option (Bool)) : Ent R := fun args objs k =>
  oCons args fun a0 l0 => oC a0 fun x0 => cList 3 ty3 x0 fun p0 => oCons l0 fun a1 l1 => oC a1 fun x1 => cBool x1 fun p1 => oNil l1 <| oNilO objs <| ob (c p0 p1) fun y => k (.c (.bool y)) []
abbrev Sp4 (c : List ty3.den → Bool → Option (Bool)) : Prop := ∀ (p0 : List ty3.den) (p1 : Bool) (y : Bool), c p0 p1 = some y → Spec Try.prog gl0 4 [.c (.list 3 ty3 p0), .c (.bool p1)] [] (.c (.bool y)) []
theorem ek4 {R : Type} {c : List ty3.den → Bool → Option (Bool)} (hs : Sp4 c) : EOk 4 (e4 (R := R) c) := fun args objs k r h => by
  unfold e4 at h
  obtain ⟨a0, l0, rfl, q1⟩ := oCons_some h
  obtain ⟨x0, rfl, q2⟩ := oC_some q1
  obtain ⟨p0, rfl, q3⟩ := cList_some q2
  obtain ⟨a1, l1, rfl, q4⟩ := oCons_some q3
  obtain ⟨x1, rfl, q5⟩ := oC_some q4
  obtain ⟨p1, rfl, q6⟩ := cBool_some q5
  obtain ⟨rfl, q7⟩ := oNil_some q6
  obtain ⟨rfl, q8⟩ := oNilO_some q7
  exact eok_of (hs p0 p1) q8
theorem sf4 {c7 : Option (Bool)} {c11 : List ty3.den → Option ((List UInt8))} {c10 : List UInt8 → Option ((List ty36.den))} {c12 : List ty36.den → Option ((List ty36.den))} {c13 : List ty36.den → Option ((List ty36.den))} {c9 : List ty36.den → Option ((List ty36.den))} {c15 : List ty36.den → Option ((List ty36.den))} {c14 : List ty36.den → List ty36.den → Option (Bool)} (h7 : Sp7 c7) (h11 : Sp11 c11) (h10 : Sp10 c10) (h12 : Sp12 c12) (h13 : Sp13 c13) (h9 : Sp9 c9) (h15 : Sp15 c15) (h14 : Sp14 c14) : Sp4 (F4 c7 c11 c10 c12 c13 c9 c15 c14) := fun p0 p1 y hy => by
  refine spec_of (G := ent 7 (e7 c7) (ent 11 (e11 c11) (ent 10 (e10 c10) (ent 12 (e12 c12) (ent 13 (e13 c13) (ent 9 (e9 c9) (ent 15 (e15 c15) (ent 14 (e14 c14) (gnil))))))))) (ent_ok (ek7 h7) (ent_ok (ek11 h11) (ent_ok (ek10 h10) (ent_ok (ek12 h12) (ent_ok (ek13 h13) (ent_ok (ek9 h9) (ent_ok (ek15 h15) (ent_ok (ek14 h14) (gnil_ok))))))))) 1000000 (fn := Try.f4) (by kernel_rfl) (by kernel_rfl) (X := X4) (by kernel_rfl) ?_
  rw [fo4, hy]
  rfl
noncomputable def M4 : List ty3.den → Bool → Option (Bool) := F4 M7 M11 M10 M12 M13 M9 M15 M14
theorem sm4 : Sp4 M4 := sf4 sm7 sm11 sm10 sm12 sm13 sm9 sm15 sm14
end Go.Proofs.Ytccnmhdgghjgoaa.Av
