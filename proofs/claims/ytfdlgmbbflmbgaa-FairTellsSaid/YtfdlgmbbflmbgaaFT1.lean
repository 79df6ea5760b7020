/- Twins of functions, printed by gen.py. Conditions: none. -/
import Derived.Test.YtfdlgmbbflmbgaaCl1
import Derived.KernelRfl
set_option linter.unusedVariables false
set_option maxRecDepth 100000
set_option maxHeartbeats 8000000
namespace Go.Proofs.Ytfdlgmbbflmbgaa.Av
open Go

/-! ### 98: (*lariat/lariatref7.reader).is -/
def X98 : Aux := ⟨[], [(1, .lin [0, 1, 2, 3, 4, 5, 6, 7, 8, 9, 10, 11, 12, 13, 14, 15, 16, 17, 18, 19, 20, 21, 22, 23, 24, 25, 26, 27])]⟩
def T98 {R : Type} (B : Ops) (p0 : List UInt8) (p1 : List ty33.den) (p2 : Int) (p3 : Int) (p4 : List ty98.den) (k : (Bool × (List ty33.den) × Int × Int × (List ty98.den)) → Option R) : Option R :=
  cond (Ops.inb B p2 (List.length p1))
   (
    cond (Ops.eq B (Prod.fst (List.getD p1 (Int.toNat p2) (Ty.dflt ty33))) (4))
     (
      cond (Ops.inb B p2 (List.length p1))
       (
        k ((Prod.fst (Prod.snd (List.getD p1 (Int.toNat p2) (Ty.dflt ty33))) == p0, p1, p2, p3, p4)))
       (
        none))
     (
      k ((false, p1, p2, p3, p4))))
   (
    none)
theorem eq98 {R : Type} (B : Ops) (p0 : List UInt8) (p1 : List ty33.den) (p2 : Int) (p3 : Int) (p4 : List ty98.den) (k : AV → Objs → Option R) (n : Nat) : afun tau B gl0 X98 (gnil) ow Try.f98 [.c (.ptr 0 0), .c (.str p0)] [(0, .box 119 [.list 33 ty33 p1, .int .i64 p2, .own 1002, .int .i64 p3]), (1002, .row 98 ty98 p4)] k n = T98 B p0 p1 p2 p3 p4 (fun y => k (.c (.bool y.1)) [(0, .box 119 [.list 33 ty33 y.2.1, .int .i64 y.2.2.1, .own 1002, .int .i64 y.2.2.2.1]), (1002, .row 98 ty98 y.2.2.2.2)]) := by kernel_rfl
theorem nt98 {R R' : Type} (B : Ops) (p0 : List UInt8) (p1 : List ty33.den) (p2 : Int) (p3 : Int) (p4 : List ty98.den) (k0 : (Bool × (List ty33.den) × Int × Int × (List ty98.den)) → Option R') (k : R' → Option R) : T98 B p0 p1 p2 p3 p4 (fun y => ob (k0 y) k) = ob (T98 B p0 p1 p2 p3 p4 k0) k := by
  unfold T98
  repeat' first | exact rfl | apply nat_cond | (apply nat_ob; intro)
def F98 (p0 : List UInt8) (p1 : List ty33.den) (p2 : Int) (p3 : Int) (p4 : List ty98.den) : Option (Bool × (List ty33.den) × Int × Int × (List ty98.den)) := T98 Ops.std p0 p1 p2 p3 p4 some
theorem fo98 {R : Type} (p0 : List UInt8) (p1 : List ty33.den) (p2 : Int) (p3 : Int) (p4 : List ty98.den) (k : AV → Objs → Option R) (n : Nat) : afun tau Ops.std gl0 X98 (gnil) ow Try.f98 [.c (.ptr 0 0), .c (.str p0)] [(0, .box 119 [.list 33 ty33 p1, .int .i64 p2, .own 1002, .int .i64 p3]), (1002, .row 98 ty98 p4)] k n = ob (F98 p0 p1 p2 p3 p4) (fun y => k (.c (.bool y.1)) [(0, .box 119 [.list 33 ty33 y.2.1, .int .i64 y.2.2.1, .own 1002, .int .i64 y.2.2.2.1]), (1002, .row 98 ty98 y.2.2.2.2)]) := by rw [eq98]; exact nt98 Ops.std p0 p1 p2 p3 p4 some (fun y => k (.c (.bool y.1)) [(0, .box 119 [.list 33 ty33 y.2.1, .int .i64 y.2.2.1, .own 1002, .int .i64 y.2.2.2.1]), (1002, .row 98 ty98 y.2.2.2.2)])
def e98 {R : Type} (c : List UInt8 → List ty33.den → Int → Int → List ty98.den → Option (Bool × (List ty33.den) × Int × Int × (List ty98.den))) : Ent R := fun args objs k =>
  oCons args fun a0 l0 => oC a0 fun x0 => cPtr 0 x0 <| oCons l0 fun a1 l1 => oC a1 fun x1 => cStr x1 fun p0 => oNil l1 <| oBox 0 119 objs fun b0 o0 => cCons b0 fun u0_0 v0_0 => cList 33 ty33 u0_0 fun p1 => cCons v0_0 fun u0_1 v0_1 => cInt .i64 u0_1 fun p2 => cCons v0_1 fun u0_2 v0_2 => cOwn 1002 u0_2 <| cCons v0_2 fun u0_3 v0_3 => cInt .i64 u0_3 fun p3 => cNil v0_3 <| oRow 1002 98 ty98 o0 fun p4 o1 => oNilO o1 <| ob (c p0 p1 p2 p3 p4) fun y => k (.c (.bool y.1)) [(0, .box 119 [.list 33 ty33 y.2.1, .int .i64 y.2.2.1, .own 1002, .int .i64 y.2.2.2.1]), (1002, .row 98 ty98 y.2.2.2.2)]
abbrev Sp98 (c : List UInt8 → List ty33.den → Int → Int → List ty98.den → Option (Bool × (List ty33.den) × Int × Int × (List ty98.den))) : Prop := ∀ (p0 : List UInt8) (p1 : List ty33.den) (p2 : Int) (p3 : Int) (p4 : List ty98.den) (y : Bool × (List ty33.den) × Int × Int × (List ty98.den)), c p0 p1 p2 p3 p4 = some y → Spec Try.prog gl0 98 [.c (.ptr 0 0), .c (.str p0)] [(0, .box 119 [.list 33 ty33 p1, .int .i64 p2, .own 1002, .int .i64 p3]), (1002, .row 98 ty98 p4)] (.c (.bool y.1)) [(0, .box 119 [.list 33 ty33 y.2.1, .int .i64 y.2.2.1, .own 1002, .int .i64 y.2.2.2.1]), (1002, .row 98 ty98 y.2.2.2.2)]
theorem ek98 {R : Type} {c : List UInt8 → List ty33.den → Int → Int → List ty98.den → Option (Bool × (List ty33.den) × Int × Int × (List ty98.den))} (hs : Sp98 c) : EOk 98 (e98 (R := R) c) := fun args objs k r h => by
  unfold e98 at h
  obtain ⟨a0, l0, rfl, q1⟩ := oCons_some h
  obtain ⟨x0, rfl, q2⟩ := oC_some q1
  obtain ⟨rfl, q3⟩ := cPtr_some q2
  obtain ⟨a1, l1, rfl, q4⟩ := oCons_some q3
  obtain ⟨x1, rfl, q5⟩ := oC_some q4
  obtain ⟨p0, rfl, q6⟩ := cStr_some q5
  obtain ⟨rfl, q7⟩ := oNil_some q6
  obtain ⟨b0, o0, rfl, q8⟩ := oBox_some q7
  obtain ⟨u0_0, v0_0, rfl, q9⟩ := cCons_some q8
  obtain ⟨p1, rfl, q10⟩ := cList_some q9
  obtain ⟨u0_1, v0_1, rfl, q11⟩ := cCons_some q10
  obtain ⟨p2, rfl, q12⟩ := cInt_some q11
  obtain ⟨u0_2, v0_2, rfl, q13⟩ := cCons_some q12
  obtain ⟨rfl, q14⟩ := cOwn_some q13
  obtain ⟨u0_3, v0_3, rfl, q15⟩ := cCons_some q14
  obtain ⟨p3, rfl, q16⟩ := cInt_some q15
  obtain ⟨rfl, q17⟩ := cNil_some q16
  obtain ⟨p4, o1, rfl, q18⟩ := oRow_some q17
  obtain ⟨rfl, q19⟩ := oNilO_some q18
  exact eok_of (hs p0 p1 p2 p3 p4) q19
theorem sf98 : Sp98 (F98) := fun p0 p1 p2 p3 p4 y hy => by
  refine spec_of (G := gnil) (gnil_ok) 1000000 (fn := Try.f98) (by kernel_rfl) (by kernel_rfl) (X := X98) (by kernel_rfl) ?_
  rw [fo98, hy]
  rfl
noncomputable def M98 : List UInt8 → List ty33.den → Int → Int → List ty98.den → Option (Bool × (List ty33.den) × Int × Int × (List ty98.den)) := F98
theorem sm98 : Sp98 M98 := sf98

/-! ### 99: (*lariat/lariatref7.reader).fail -/
def X99 : Aux := ⟨[], []⟩
def T99 {R : Type} (B : Ops) (p0 : List ty33.den) (p1 : Int) (p2 : Int) (p3 : List ty98.den) (k : ((List ty33.den) × Int × Int × (List ty98.den)) → Option R) : Option R :=
  cond (Ops.lt B p2 (0))
   (
    k ((p0, p1, p1, p3)))
   (
    k ((p0, p1, p2, p3)))
theorem eq99 {R : Type} (B : Ops) (p0 : List ty33.den) (p1 : Int) (p2 : Int) (p3 : List ty98.den) (k : AV → Objs → Option R) (n : Nat) : afun tau B gl0 X99 (gnil) ow Try.f99 [.c (.ptr 0 0)] [(0, .box 119 [.list 33 ty33 p0, .int .i64 p1, .own 1002, .int .i64 p2]), (1002, .row 98 ty98 p3)] k n = T99 B p0 p1 p2 p3 (fun y => k (.tup []) [(0, .box 119 [.list 33 ty33 y.1, .int .i64 y.2.1, .own 1002, .int .i64 y.2.2.1]), (1002, .row 98 ty98 y.2.2.2)]) := by kernel_rfl
theorem nt99 {R R' : Type} (B : Ops) (p0 : List ty33.den) (p1 : Int) (p2 : Int) (p3 : List ty98.den) (k0 : ((List ty33.den) × Int × Int × (List ty98.den)) → Option R') (k : R' → Option R) : T99 B p0 p1 p2 p3 (fun y => ob (k0 y) k) = ob (T99 B p0 p1 p2 p3 k0) k := by
  unfold T99
  repeat' first | exact rfl | apply nat_cond | (apply nat_ob; intro)
def F99 (p0 : List ty33.den) (p1 : Int) (p2 : Int) (p3 : List ty98.den) : Option ((List ty33.den) × Int × Int × (List ty98.den)) := T99 Ops.std p0 p1 p2 p3 some
theorem fo99 {R : Type} (p0 : List ty33.den) (p1 : Int) (p2 : Int) (p3 : List ty98.den) (k : AV → Objs → Option R) (n : Nat) : afun tau Ops.std gl0 X99 (gnil) ow Try.f99 [.c (.ptr 0 0)] [(0, .box 119 [.list 33 ty33 p0, .int .i64 p1, .own 1002, .int .i64 p2]), (1002, .row 98 ty98 p3)] k n = ob (F99 p0 p1 p2 p3) (fun y => k (.tup []) [(0, .box 119 [.list 33 ty33 y.1, .int .i64 y.2.1, .own 1002, .int .i64 y.2.2.1]), (1002, .row 98 ty98 y.2.2.2)]) := by rw [eq99]; exact nt99 Ops.std p0 p1 p2 p3 some (fun y => k (.tup []) [(0, .box 119 [.list 33 ty33 y.1, .int .i64 y.2.1, .own 1002, .int .i64 y.2.2.1]), (1002, .row 98 ty98 y.2.2.2)])
def e99 {R : Type} (c : List ty33.den → Int → Int → List ty98.den → Option ((List ty33.den) × Int × Int × (List ty98.den))) : Ent R := fun args objs k =>
  oCons args fun a0 l0 => oC a0 fun x0 => cPtr 0 x0 <| oNil l0 <| oBox 0 119 objs fun b0 o0 => cCons b0 fun u0_0 v0_0 => cList 33 ty33 u0_0 fun p0 => cCons v0_0 fun u0_1 v0_1 => cInt .i64 u0_1 fun p1 => cCons v0_1 fun u0_2 v0_2 => cOwn 1002 u0_2 <| cCons v0_2 fun u0_3 v0_3 => cInt .i64 u0_3 fun p2 => cNil v0_3 <| oRow 1002 98 ty98 o0 fun p3 o1 => oNilO o1 <| ob (c p0 p1 p2 p3) fun y => k (.tup []) [(0, .box 119 [.list 33 ty33 y.1, .int .i64 y.2.1, .own 1002, .int .i64 y.2.2.1]), (1002, .row 98 ty98 y.2.2.2)]
abbrev Sp99 (c : List ty33.den → Int → Int → List ty98.den → Option ((List ty33.den) × Int × Int × (List ty98.den))) : Prop := ∀ (p0 : List ty33.den) (p1 : Int) (p2 : Int) (p3 : List ty98.den) (y : (List ty33.den) × Int × Int × (List ty98.den)), c p0 p1 p2 p3 = some y → Spec Try.prog gl0 99 [.c (.ptr 0 0)] [(0, .box 119 [.list 33 ty33 p0, .int .i64 p1, .own 1002, .int .i64 p2]), (1002, .row 98 ty98 p3)] (.tup []) [(0, .box 119 [.list 33 ty33 y.1, .int .i64 y.2.1, .own 1002, .int .i64 y.2.2.1]), (1002, .row 98 ty98 y.2.2.2)]
theorem ek99 {R : Type} {c : List ty33.den → Int → Int → List ty98.den → Option ((List ty33.den) × Int × Int × (List ty98.den))} (hs : Sp99 c) : EOk 99 (e99 (R := R) c) := fun args objs k r h => by
  unfold e99 at h
  obtain ⟨a0, l0, rfl, q1⟩ := oCons_some h
  obtain ⟨x0, rfl, q2⟩ := oC_some q1
  obtain ⟨rfl, q3⟩ := cPtr_some q2
  obtain ⟨rfl, q4⟩ := oNil_some q3
  obtain ⟨b0, o0, rfl, q5⟩ := oBox_some q4
  obtain ⟨u0_0, v0_0, rfl, q6⟩ := cCons_some q5
  obtain ⟨p0, rfl, q7⟩ := cList_some q6
  obtain ⟨u0_1, v0_1, rfl, q8⟩ := cCons_some q7
  obtain ⟨p1, rfl, q9⟩ := cInt_some q8
  obtain ⟨u0_2, v0_2, rfl, q10⟩ := cCons_some q9
  obtain ⟨rfl, q11⟩ := cOwn_some q10
  obtain ⟨u0_3, v0_3, rfl, q12⟩ := cCons_some q11
  obtain ⟨p2, rfl, q13⟩ := cInt_some q12
  obtain ⟨rfl, q14⟩ := cNil_some q13
  obtain ⟨p3, o1, rfl, q15⟩ := oRow_some q14
  obtain ⟨rfl, q16⟩ := oNilO_some q15
  exact eok_of (hs p0 p1 p2 p3) q16
theorem sf99 : Sp99 (F99) := fun p0 p1 p2 p3 y hy => by
  refine spec_of (G := gnil) (gnil_ok) 1000000 (fn := Try.f99) (by kernel_rfl) (by kernel_rfl) (X := X99) (by kernel_rfl) ?_
  rw [fo99, hy]
  rfl
noncomputable def M99 : List ty33.den → Int → Int → List ty98.den → Option ((List ty33.den) × Int × Int × (List ty98.den)) := F99
theorem sm99 : Sp99 M99 := sf99

/-! ### 70: lariat/lariatref7.strength -/
def X70 : Aux := ⟨[], []⟩
def T70 {R : Type} (B : Ops) (p0 : Int) (k : (Int) → Option R) : Option R :=
  cond (Ops.eq B p0 (16))
   (
    k 1)
   (
    cond (Ops.eq B p0 (15))
     (
      k 2)
     (
      cond (Ops.eq B p0 (9))
       (
        k 3)
       (
        cond (Ops.eq B p0 (10))
         (
          k 3)
         (
          cond (Ops.eq B p0 (11))
           (
            k 3)
           (
            cond (Ops.eq B p0 (12))
             (
              k 3)
             (
              cond (Ops.eq B p0 (13))
               (
                k 3)
               (
                cond (Ops.eq B p0 (14))
                 (
                  k 3)
                 (
                  cond (Ops.eq B p0 (7))
                   (
                    k 4)
                   (
                    cond (Ops.eq B p0 (8))
                     (
                      k 4)
                     (
                      cond (Ops.eq B p0 (6))
                       (
                        k 5)
                       (
                        cond (Ops.eq B p0 (4))
                         (
                          k 6)
                         (
                          cond (Ops.eq B p0 (5))
                           (
                            k 6)
                           (
                            k 7)))))))))))))
theorem eq70 {R : Type} (B : Ops) (p0 : Int) (k : AV → Objs → Option R) (n : Nat) : afun tau B gl0 X70 (gnil) ow Try.f70 [.c (.int .i64 p0)] [] k n = T70 B p0 (fun y => k (.c (.int .i64 y)) []) := by kernel_rfl
theorem nt70 {R R' : Type} (B : Ops) (p0 : Int) (k0 : (Int) → Option R') (k : R' → Option R) : T70 B p0 (fun y => ob (k0 y) k) = ob (T70 B p0 k0) k := by
  unfold T70
  repeat' first | exact rfl | apply nat_cond | (apply nat_ob; intro)
def F70 (p0 : Int) : Option (Int) := T70 Ops.std p0 some
theorem fo70 {R : Type} (p0 : Int) (k : AV → Objs → Option R) (n : Nat) : afun tau Ops.std gl0 X70 (gnil) ow Try.f70 [.c (.int .i64 p0)] [] k n = ob (F70 p0) (fun y => k (.c (.int .i64 y)) []) := by rw [eq70]; exact nt70 Ops.std p0 some (fun y => k (.c (.int .i64 y)) [])
def e70 {R : Type} (c : Int → Option (Int)) : Ent R := fun args objs k =>
  oCons args fun a0 l0 => oC a0 fun x0 => cInt .i64 x0 fun p0 => oNil l0 <| oNilO objs <| ob (c p0) fun y => k (.c (.int .i64 y)) []
abbrev Sp70 (c : Int → Option (Int)) : Prop := ∀ (p0 : Int) (y : Int), c p0 = some y → Spec Try.prog gl0 70 [.c (.int .i64 p0)] [] (.c (.int .i64 y)) []
theorem ek70 {R : Type} {c : Int → Option (Int)} (hs : Sp70 c) : EOk 70 (e70 (R := R) c) := fun args objs k r h => by
  unfold e70 at h
  obtain ⟨a0, l0, rfl, q1⟩ := oCons_some h
  obtain ⟨x0, rfl, q2⟩ := oC_some q1
  obtain ⟨p0, rfl, q3⟩ := cInt_some q2
  obtain ⟨rfl, q4⟩ := oNil_some q3
  obtain ⟨rfl, q5⟩ := oNilO_some q4
  exact eok_of (hs p0) q5
theorem sf70 : Sp70 (F70) := fun p0 y hy => by
  refine spec_of (G := gnil) (gnil_ok) 1000000 (fn := Try.f70) (by kernel_rfl) (by kernel_rfl) (X := X70) (by kernel_rfl) ?_
  rw [fo70, hy]
  rfl
noncomputable def M70 : Int → Option (Int) := F70
theorem sm70 : Sp70 M70 := sf70

/-! ### 97: lariat/lariatref7.binary -/
def X97 : Aux := ⟨[(5, [0, 3, 4, 7, 8, 9, 10, 11, 12, 13, 14, 15, 16, 17, 18, 19, 20, 21, 22, 23, 24, 25, 26, 27])], [(7, .lin [0, 1, 2, 3, 4, 5, 6, 7, 9, 8, 10, 11])]⟩
inductive S97 where
  | l0 (v0_1 : Int)
def T97 {R : Type} (B : Ops) (c70 : Int → Option (Int)) (p0 : Int) (p1 : List UInt8) (p2 : Int) (p3 : Int) (p4 : Int) (again : S97 → Option R) (k : (Int) → Option R) : Option S97 → Option R
  | none =>
    cond (!Ops.eq B p0 (4))
     (
      k 0)
     (
      again (.l0 6))
  | some (.l0 v0_1) =>
    cond (Ops.le B v0_1 (16))
     (
      cond (Ops.inb B v0_1 (17))
       (
        cond (List.getD     [[], [], [], [], [], [], [42], [43], [45], [60], [60, 61], [62], [62, 61], [61, 61], [33, 61], [38, 38], [124, 124]]     (Int.toNat v0_1) [] ==   p1)
         (
          ob (c70 v0_1) fun y0 =>
          cond (Ops.eq B y0 p4)
           (
            k v0_1)
           (
            again (.l0 (IntKind.wrap IntKind.i64 (v0_1 + 1)))))
         (
          again (.l0 (IntKind.wrap IntKind.i64 (v0_1 + 1)))))
       (
        none))
     (
      k 0)
def E97 (p0 : Int) (p1 : List UInt8) (p2 : Int) (p3 : Int) (p4 : Int) : S97 → List AV × Objs
  | .l0 v0_1 => (mk 28 [(1, .c (.int .i64 p4)), (2, .c (.ptr 2 0)), (5, .c (.ptr 5 0)), (6, .c (.int .i64 v0_1))], [(2, .box 33 [.int .i64 p0, .str p1, .int .i64 p2, .int .i64 p3]), (5, .box 96 [.str [], .str [], .str [], .str [], .str [], .str [], .str [42], .str [43], .str [45], .str [60], .str [60, 61], .str [62], .str [62, 61], .str [61, 61], .str [33, 61], .str [38, 38], .str [124, 124]])])
def I97 : S97 → Nat
  | .l0 _ => 0
theorem eq97 {R : Type} (B : Ops) (c70 : Int → Option (Int)) (p0 : Int) (p1 : List UInt8) (p2 : Int) (p3 : Int) (p4 : Int) (k : AV → Objs → Option R) (n : Nat) : afun tau B gl0 X97 (ent 70 (e70 c70) (gnil)) ow Try.f97 [.agg [.int .i64 p0, .str p1, .int .i64 p2, .int .i64 p3], .c (.int .i64 p4)] [] k n = T97 B c70 p0 p1 p2 p3 p4 (fun s => aloop tau B gl0 X97 (ent 70 (e70 c70) (gnil)) ow [] Try.f97 k (I97 s) (E97 p0 p1 p2 p3 p4 s) n) (fun y => k (.c (.int .i64 y)) []) none := by kernel_rfl
theorem el97 {R : Type} (B : Ops) (c70 : Int → Option (Int)) (p0 : Int) (p1 : List UInt8) (p2 : Int) (p3 : Int) (p4 : Int) (k : AV → Objs → Option R) (n : Nat) : ∀ s, aloop tau B gl0 X97 (ent 70 (e70 c70) (gnil)) ow [] Try.f97 k (I97 s) (E97 p0 p1 p2 p3 p4 s) (n + 1) = T97 B c70 p0 p1 p2 p3 p4 (fun s => aloop tau B gl0 X97 (ent 70 (e70 c70) (gnil)) ow [] Try.f97 k (I97 s) (E97 p0 p1 p2 p3 p4 s) n) (fun y => k (.c (.int .i64 y)) []) (some s)
  | .l0 v0_1 => by kernel_rfl
theorem nt97 {R R' : Type} (B : Ops) (c70 : Int → Option (Int)) (p0 : Int) (p1 : List UInt8) (p2 : Int) (p3 : Int) (p4 : Int) (again : S97 → Option R) (again' : S97 → Option R') (k0 : (Int) → Option R') (k : R' → Option R) (h : ∀ s, again s = ob (again' s) k) : ∀ s, T97 B c70 p0 p1 p2 p3 p4 again (fun y => ob (k0 y) k) s = ob (T97 B c70 p0 p1 p2 p3 p4 again' k0 s) k
  | none => by unfold T97; repeat' first | exact rfl | exact h _ | apply nat_cond | (apply nat_ob; intro)
  | some (.l0 v0_1) => by unfold T97; repeat' first | exact rfl | exact h _ | apply nat_cond | (apply nat_ob; intro)
def R97 (c70 : Int → Option (Int)) (p0 : Int) (p1 : List UInt8) (p2 : Int) (p3 : Int) (p4 : Int) : Nat → S97 → Option (Int)
  | 0, _ => none
  | n + 1, s => T97 Ops.std c70 p0 p1 p2 p3 p4 (R97 c70 p0 p1 p2 p3 p4 n) some (some s)
theorem rr97 {R : Type} (c70 : Int → Option (Int)) (p0 : Int) (p1 : List UInt8) (p2 : Int) (p3 : Int) (p4 : Int) (k : AV → Objs → Option R) : ∀ (n : Nat) (s : S97), aloop tau Ops.std gl0 X97 (ent 70 (e70 c70) (gnil)) ow [] Try.f97 k (I97 s) (E97 p0 p1 p2 p3 p4 s) n = ob (R97 c70 p0 p1 p2 p3 p4 n s) (fun y => k (.c (.int .i64 y)) [])
  | 0, s => by cases s <;> rfl
  | n + 1, s => by rw [el97]; exact nt97 Ops.std c70 p0 p1 p2 p3 p4 _ _ some (fun y => k (.c (.int .i64 y)) []) (rr97 c70 p0 p1 p2 p3 p4 k n) (some s)
def F97 (c70 : Int → Option (Int)) (p0 : Int) (p1 : List UInt8) (p2 : Int) (p3 : Int) (p4 : Int) : Option (Int) := T97 Ops.std c70 p0 p1 p2 p3 p4 (R97 c70 p0 p1 p2 p3 p4 1000000) some none
theorem fo97 {R : Type} (c70 : Int → Option (Int)) (p0 : Int) (p1 : List UInt8) (p2 : Int) (p3 : Int) (p4 : Int) (k : AV → Objs → Option R) : afun tau Ops.std gl0 X97 (ent 70 (e70 c70) (gnil)) ow Try.f97 [.agg [.int .i64 p0, .str p1, .int .i64 p2, .int .i64 p3], .c (.int .i64 p4)] [] k 1000000 = ob (F97 c70 p0 p1 p2 p3 p4) (fun y => k (.c (.int .i64 y)) []) := by rw [eq97]; exact nt97 Ops.std c70 p0 p1 p2 p3 p4 _ _ some (fun y => k (.c (.int .i64 y)) []) (rr97 c70 p0 p1 p2 p3 p4 k 1000000) none
def e97 {R : Type} (c : Int → List UInt8 → Int → Int → Int → Option (Int)) : Ent R := fun args objs k =>
  oCons args fun a0 l0 => oAgg a0 fun x0 => cCons x0 fun z0_0 w0_0 => cInt .i64 z0_0 fun p0 => cCons w0_0 fun z0_1 w0_1 => cStr z0_1 fun p1 => cCons w0_1 fun z0_2 w0_2 => cInt .i64 z0_2 fun p2 => cCons w0_2 fun z0_3 w0_3 => cInt .i64 z0_3 fun p3 => cNil w0_3 <| oCons l0 fun a1 l1 => oC a1 fun x1 => cInt .i64 x1 fun p4 => oNil l1 <| oNilO objs <| ob (c p0 p1 p2 p3 p4) fun y => k (.c (.int .i64 y)) []
abbrev Sp97 (c : Int → List UInt8 → Int → Int → Int → Option (Int)) : Prop := ∀ (p0 : Int) (p1 : List UInt8) (p2 : Int) (p3 : Int) (p4 : Int) (y : Int), c p0 p1 p2 p3 p4 = some y → Spec Try.prog gl0 97 [.agg [.int .i64 p0, .str p1, .int .i64 p2, .int .i64 p3], .c (.int .i64 p4)] [] (.c (.int .i64 y)) []
theorem ek97 {R : Type} {c : Int → List UInt8 → Int → Int → Int → Option (Int)} (hs : Sp97 c) : EOk 97 (e97 (R := R) c) := fun args objs k r h => by
  unfold e97 at h
  obtain ⟨a0, l0, rfl, q1⟩ := oCons_some h
  obtain ⟨x0, rfl, q2⟩ := oAgg_some q1
  obtain ⟨z0_0, w0_0, rfl, q3⟩ := cCons_some q2
  obtain ⟨p0, rfl, q4⟩ := cInt_some q3
  obtain ⟨z0_1, w0_1, rfl, q5⟩ := cCons_some q4
  obtain ⟨p1, rfl, q6⟩ := cStr_some q5
  obtain ⟨z0_2, w0_2, rfl, q7⟩ := cCons_some q6
  obtain ⟨p2, rfl, q8⟩ := cInt_some q7
  obtain ⟨z0_3, w0_3, rfl, q9⟩ := cCons_some q8
  obtain ⟨p3, rfl, q10⟩ := cInt_some q9
  obtain ⟨rfl, q11⟩ := cNil_some q10
  obtain ⟨a1, l1, rfl, q12⟩ := oCons_some q11
  obtain ⟨x1, rfl, q13⟩ := oC_some q12
  obtain ⟨p4, rfl, q14⟩ := cInt_some q13
  obtain ⟨rfl, q15⟩ := oNil_some q14
  obtain ⟨rfl, q16⟩ := oNilO_some q15
  exact eok_of (hs p0 p1 p2 p3 p4) q16
theorem sf97 {c70 : Int → Option (Int)} (h70 : Sp70 c70) : Sp97 (F97 c70) := fun p0 p1 p2 p3 p4 y hy => by
  refine spec_of (G := ent 70 (e70 c70) (gnil)) (ent_ok (ek70 h70) (gnil_ok)) 1000000 (fn := Try.f97) (by kernel_rfl) (by kernel_rfl) (X := X97) (by kernel_rfl) ?_
  rw [fo97, hy]
  rfl
noncomputable def M97 : Int → List UInt8 → Int → Int → Int → Option (Int) := F97 M70
theorem sm97 : Sp97 M97 := sf97 sm70
def e96 {R : Type} (c : List ty33.den → Int → Int → List ty98.den → Option ((List ty33.den) × Int × Int × (List ty98.den))) : Ent R := fun args objs k =>
  oCons args fun a0 l0 => oC a0 fun x0 => cPtr 0 x0 <| oNil l0 <| oBox 0 119 objs fun b0 o0 => cCons b0 fun u0_0 v0_0 => cList 33 ty33 u0_0 fun p0 => cCons v0_0 fun u0_1 v0_1 => cInt .i64 u0_1 fun p1 => cCons v0_1 fun u0_2 v0_2 => cOwn 1002 u0_2 <| cCons v0_2 fun u0_3 v0_3 => cInt .i64 u0_3 fun p2 => cNil v0_3 <| oRow 1002 98 ty98 o0 fun p3 o1 => oNilO o1 <| ob (c p0 p1 p2 p3) fun y => k (.tup []) [(0, .box 119 [.list 33 ty33 y.1, .int .i64 y.2.1, .own 1002, .int .i64 y.2.2.1]), (1002, .row 98 ty98 y.2.2.2)]
abbrev Sp96 (c : List ty33.den → Int → Int → List ty98.den → Option ((List ty33.den) × Int × Int × (List ty98.den))) : Prop := ∀ (p0 : List ty33.den) (p1 : Int) (p2 : Int) (p3 : List ty98.den) (y : (List ty33.den) × Int × Int × (List ty98.den)), c p0 p1 p2 p3 = some y → Spec Try.prog gl0 96 [.c (.ptr 0 0)] [(0, .box 119 [.list 33 ty33 p0, .int .i64 p1, .own 1002, .int .i64 p2]), (1002, .row 98 ty98 p3)] (.tup []) [(0, .box 119 [.list 33 ty33 y.1, .int .i64 y.2.1, .own 1002, .int .i64 y.2.2.1]), (1002, .row 98 ty98 y.2.2.2)]
theorem ek96 {R : Type} {c : List ty33.den → Int → Int → List ty98.den → Option ((List ty33.den) × Int × Int × (List ty98.den))} (hs : Sp96 c) : EOk 96 (e96 (R := R) c) := fun args objs k r h => by
  unfold e96 at h
  obtain ⟨a0, l0, rfl, q1⟩ := oCons_some h
  obtain ⟨x0, rfl, q2⟩ := oC_some q1
  obtain ⟨rfl, q3⟩ := cPtr_some q2
  obtain ⟨rfl, q4⟩ := oNil_some q3
  obtain ⟨b0, o0, rfl, q5⟩ := oBox_some q4
  obtain ⟨u0_0, v0_0, rfl, q6⟩ := cCons_some q5
  obtain ⟨p0, rfl, q7⟩ := cList_some q6
  obtain ⟨u0_1, v0_1, rfl, q8⟩ := cCons_some q7
  obtain ⟨p1, rfl, q9⟩ := cInt_some q8
  obtain ⟨u0_2, v0_2, rfl, q10⟩ := cCons_some q9
  obtain ⟨rfl, q11⟩ := cOwn_some q10
  obtain ⟨u0_3, v0_3, rfl, q12⟩ := cCons_some q11
  obtain ⟨p2, rfl, q13⟩ := cInt_some q12
  obtain ⟨rfl, q14⟩ := cNil_some q13
  obtain ⟨p3, o1, rfl, q15⟩ := oRow_some q14
  obtain ⟨rfl, q16⟩ := oNilO_some q15
  exact eok_of (hs p0 p1 p2 p3) q16
def e95 {R : Type} (c : Int → List ty33.den → Int → Int → List ty98.den → Option ((List ty33.den) × Int × Int × (List ty98.den))) : Ent R := fun args objs k =>
  oCons args fun a0 l0 => oC a0 fun x0 => cPtr 0 x0 <| oCons l0 fun a1 l1 => oC a1 fun x1 => cInt .i64 x1 fun p0 => oNil l1 <| oBox 0 119 objs fun b0 o0 => cCons b0 fun u0_0 v0_0 => cList 33 ty33 u0_0 fun p1 => cCons v0_0 fun u0_1 v0_1 => cInt .i64 u0_1 fun p2 => cCons v0_1 fun u0_2 v0_2 => cOwn 1002 u0_2 <| cCons v0_2 fun u0_3 v0_3 => cInt .i64 u0_3 fun p3 => cNil v0_3 <| oRow 1002 98 ty98 o0 fun p4 o1 => oNilO o1 <| ob (c p0 p1 p2 p3 p4) fun y => k (.tup []) [(0, .box 119 [.list 33 ty33 y.1, .int .i64 y.2.1, .own 1002, .int .i64 y.2.2.1]), (1002, .row 98 ty98 y.2.2.2)]
abbrev Sp95 (c : Int → List ty33.den → Int → Int → List ty98.den → Option ((List ty33.den) × Int × Int × (List ty98.den))) : Prop := ∀ (p0 : Int) (p1 : List ty33.den) (p2 : Int) (p3 : Int) (p4 : List ty98.den) (y : (List ty33.den) × Int × Int × (List ty98.den)), c p0 p1 p2 p3 p4 = some y → Spec Try.prog gl0 95 [.c (.ptr 0 0), .c (.int .i64 p0)] [(0, .box 119 [.list 33 ty33 p1, .int .i64 p2, .own 1002, .int .i64 p3]), (1002, .row 98 ty98 p4)] (.tup []) [(0, .box 119 [.list 33 ty33 y.1, .int .i64 y.2.1, .own 1002, .int .i64 y.2.2.1]), (1002, .row 98 ty98 y.2.2.2)]
theorem ek95 {R : Type} {c : Int → List ty33.den → Int → Int → List ty98.den → Option ((List ty33.den) × Int × Int × (List ty98.den))} (hs : Sp95 c) : EOk 95 (e95 (R := R) c) := fun args objs k r h => by
  unfold e95 at h
  obtain ⟨a0, l0, rfl, q1⟩ := oCons_some h
  obtain ⟨x0, rfl, q2⟩ := oC_some q1
  obtain ⟨rfl, q3⟩ := cPtr_some q2
  obtain ⟨a1, l1, rfl, q4⟩ := oCons_some q3
  obtain ⟨x1, rfl, q5⟩ := oC_some q4
  obtain ⟨p0, rfl, q6⟩ := cInt_some q5
  obtain ⟨rfl, q7⟩ := oNil_some q6
  obtain ⟨b0, o0, rfl, q8⟩ := oBox_some q7
  obtain ⟨u0_0, v0_0, rfl, q9⟩ := cCons_some q8
  obtain ⟨p1, rfl, q10⟩ := cList_some q9
  obtain ⟨u0_1, v0_1, rfl, q11⟩ := cCons_some q10
  obtain ⟨p2, rfl, q12⟩ := cInt_some q11
  obtain ⟨u0_2, v0_2, rfl, q13⟩ := cCons_some q12
  obtain ⟨rfl, q14⟩ := cOwn_some q13
  obtain ⟨u0_3, v0_3, rfl, q15⟩ := cCons_some q14
  obtain ⟨p3, rfl, q16⟩ := cInt_some q15
  obtain ⟨rfl, q17⟩ := cNil_some q16
  obtain ⟨p4, o1, rfl, q18⟩ := oRow_some q17
  obtain ⟨rfl, q19⟩ := oNilO_some q18
  exact eok_of (hs p0 p1 p2 p3 p4) q19

/-! ### 95: (*lariat/lariatref7.reader).level -/
def X95 : Aux := ⟨[(3, [2, 3, 4, 5, 6, 7, 8, 9, 10, 11, 12, 13, 14, 15, 16, 17, 18, 19, 20, 21, 22, 23, 24, 25, 26, 27, 28, 29, 30, 31, 32, 33, 34, 35, 36, 37, 38, 39, 40, 41, 42, 43, 44, 45, 46, 47, 48, 49, 50, 51, 52, 53, 54, 55])], [(4, .lin [0, 1, 2, 3, 4, 5, 6, 7, 8, 9, 10, 11, 12])]⟩
inductive S95 where
  | l0 (v0_1 : List ty33.den) (v0_2 : Int) (v0_3 : Int) (v0_4 : List ty98.den)
def T95 {R : Type} (B : Ops) (c96 : List ty33.den → Int → Int → List ty98.den → Option ((List ty33.den) × Int × Int × (List ty98.den))) (c95 : Int → List ty33.den → Int → Int → List ty98.den → Option ((List ty33.den) × Int × Int × (List ty98.den))) (c97 : Int → List UInt8 → Int → Int → Int → Option (Int)) (p0 : Int) (p1 : List ty33.den) (p2 : Int) (p3 : Int) (p4 : List ty98.den) (again : S95 → Option R) (k : ((List ty33.den) × Int × Int × (List ty98.den)) → Option R) : Option S95 → Option R
  | none =>
    cond (Ops.lt B (5) p0)
     (
      ob (c96 p1 p2 p3 p4) fun y0 =>
      k ((Prod.fst y0, Prod.fst (Prod.snd y0), Prod.fst (Prod.snd (Prod.snd y0)), Prod.snd (Prod.snd (Prod.snd y0)))))
     (
      ob (c95 (IntKind.wrap IntKind.i64 (p0 + 1)) p1 p2 p3 p4) fun y0 =>
      again (.l0 (Prod.fst y0) (Prod.fst (Prod.snd y0)) (Prod.fst (Prod.snd (Prod.snd y0))) (Prod.snd (Prod.snd (Prod.snd y0)))))
  | some (.l0 v0_1 v0_2 v0_3 v0_4) =>
    cond (Ops.lt B v0_3 (0))
     (
      cond (Ops.inb B v0_2 (List.length v0_1))
       (
        ob (c97 (Prod.fst (List.getD v0_1 (Int.toNat v0_2) (Ty.dflt ty33))) (Prod.fst (Prod.snd (List.getD v0_1 (Int.toNat v0_2) (Ty.dflt ty33)))) (Prod.fst (Prod.snd (Prod.snd (List.getD v0_1 (Int.toNat v0_2) (Ty.dflt ty33))))) (Prod.snd (Prod.snd (Prod.snd (List.getD v0_1 (Int.toNat v0_2) (Ty.dflt ty33))))) p0) fun y0 =>
        cond (Ops.eq B y0 (0))
         (
          k ((v0_1, v0_2, v0_3, v0_4)))
         (
          ob (c95 (IntKind.wrap IntKind.i64 (p0 + 1)) v0_1 (IntKind.wrap IntKind.i64 (v0_2 + 1)) v0_3 v0_4) fun y1 =>
          cond (Ops.lim B (List.length (Prod.snd (Prod.snd (Prod.snd y1))) + List.length ((y0, 0, mt UInt8, mt UInt8) :: mt (Ty.den (Ty.pair (Ty.int IntKind.i64) (Ty.pair (Ty.int IntKind.i64) (Ty.pair Ty.str Ty.str)))))) (48))
           (
            cond (Ops.eq B p0 (3))
             (
              k ((Prod.fst y1, Prod.fst (Prod.snd y1), Prod.fst (Prod.snd (Prod.snd y1)), Prod.snd (Prod.snd (Prod.snd y1)) ++ (y0, 0, mt UInt8, mt UInt8) :: mt (Ty.den (Ty.pair (Ty.int IntKind.i64) (Ty.pair (Ty.int IntKind.i64) (Ty.pair Ty.str Ty.str)))))))
             (
              again (.l0 (Prod.fst y1) (Prod.fst (Prod.snd y1)) (Prod.fst (Prod.snd (Prod.snd y1))) (Prod.snd (Prod.snd (Prod.snd y1)) ++ (y0, 0, mt UInt8, mt UInt8) :: mt (Ty.den (Ty.pair (Ty.int IntKind.i64) (Ty.pair (Ty.int IntKind.i64) (Ty.pair Ty.str Ty.str))))))))
           (
            none)))
       (
        none))
     (
      k ((v0_1, v0_2, v0_3, v0_4)))
def E95 (p0 : Int) (p1 : List ty33.den) (p2 : Int) (p3 : Int) (p4 : List ty98.den) : S95 → List AV × Objs
  | .l0 v0_1 v0_2 v0_3 v0_4 => (mk 56 [(0, .c (.ptr 0 0)), (1, .c (.int .i64 p0))], [(0, .box 119 [.list 33 ty33 v0_1, .int .i64 v0_2, .own 1002, .int .i64 v0_3]), (1002, .row 98 ty98 v0_4)])
def I95 : S95 → Nat
  | .l0 _ _ _ _ => 0
theorem eq95 {R : Type} (B : Ops) (c96 : List ty33.den → Int → Int → List ty98.den → Option ((List ty33.den) × Int × Int × (List ty98.den))) (c95 : Int → List ty33.den → Int → Int → List ty98.den → Option ((List ty33.den) × Int × Int × (List ty98.den))) (c97 : Int → List UInt8 → Int → Int → Int → Option (Int)) (p0 : Int) (p1 : List ty33.den) (p2 : Int) (p3 : Int) (p4 : List ty98.den) (k : AV → Objs → Option R) (n : Nat) : afun tau B gl0 X95 (ent 96 (e96 c96) (ent 95 (e95 c95) (ent 97 (e97 c97) (gnil)))) ow Try.f95 [.c (.ptr 0 0), .c (.int .i64 p0)] [(0, .box 119 [.list 33 ty33 p1, .int .i64 p2, .own 1002, .int .i64 p3]), (1002, .row 98 ty98 p4)] k n = T95 B c96 c95 c97 p0 p1 p2 p3 p4 (fun s => aloop tau B gl0 X95 (ent 96 (e96 c96) (ent 95 (e95 c95) (ent 97 (e97 c97) (gnil)))) ow [0] Try.f95 k (I95 s) (E95 p0 p1 p2 p3 p4 s) n) (fun y => k (.tup []) [(0, .box 119 [.list 33 ty33 y.1, .int .i64 y.2.1, .own 1002, .int .i64 y.2.2.1]), (1002, .row 98 ty98 y.2.2.2)]) none := by kernel_rfl
theorem el95 {R : Type} (B : Ops) (c96 : List ty33.den → Int → Int → List ty98.den → Option ((List ty33.den) × Int × Int × (List ty98.den))) (c95 : Int → List ty33.den → Int → Int → List ty98.den → Option ((List ty33.den) × Int × Int × (List ty98.den))) (c97 : Int → List UInt8 → Int → Int → Int → Option (Int)) (p0 : Int) (p1 : List ty33.den) (p2 : Int) (p3 : Int) (p4 : List ty98.den) (k : AV → Objs → Option R) (n : Nat) : ∀ s, aloop tau B gl0 X95 (ent 96 (e96 c96) (ent 95 (e95 c95) (ent 97 (e97 c97) (gnil)))) ow [0] Try.f95 k (I95 s) (E95 p0 p1 p2 p3 p4 s) (n + 1) = T95 B c96 c95 c97 p0 p1 p2 p3 p4 (fun s => aloop tau B gl0 X95 (ent 96 (e96 c96) (ent 95 (e95 c95) (ent 97 (e97 c97) (gnil)))) ow [0] Try.f95 k (I95 s) (E95 p0 p1 p2 p3 p4 s) n) (fun y => k (.tup []) [(0, .box 119 [.list 33 ty33 y.1, .int .i64 y.2.1, .own 1002, .int .i64 y.2.2.1]), (1002, .row 98 ty98 y.2.2.2)]) (some s)
  | .l0 v0_1 v0_2 v0_3 v0_4 => by kernel_rfl
theorem nt95 {R R' : Type} (B : Ops) (c96 : List ty33.den → Int → Int → List ty98.den → Option ((List ty33.den) × Int × Int × (List ty98.den))) (c95 : Int → List ty33.den → Int → Int → List ty98.den → Option ((List ty33.den) × Int × Int × (List ty98.den))) (c97 : Int → List UInt8 → Int → Int → Int → Option (Int)) (p0 : Int) (p1 : List ty33.den) (p2 : Int) (p3 : Int) (p4 : List ty98.den) (again : S95 → Option R) (again' : S95 → Option R') (k0 : ((List ty33.den) × Int × Int × (List ty98.den)) → Option R') (k : R' → Option R) (h : ∀ s, again s = ob (again' s) k) : ∀ s, T95 B c96 c95 c97 p0 p1 p2 p3 p4 again (fun y => ob (k0 y) k) s = ob (T95 B c96 c95 c97 p0 p1 p2 p3 p4 again' k0 s) k
  | none => by unfold T95; repeat' first | exact rfl | exact h _ | apply nat_cond | (apply nat_ob; intro)
  | some (.l0 v0_1 v0_2 v0_3 v0_4) => by unfold T95; repeat' first | exact rfl | exact h _ | apply nat_cond | (apply nat_ob; intro)
def R95 (c96 : List ty33.den → Int → Int → List ty98.den → Option ((List ty33.den) × Int × Int × (List ty98.den))) (c95 : Int → List ty33.den → Int → Int → List ty98.den → Option ((List ty33.den) × Int × Int × (List ty98.den))) (c97 : Int → List UInt8 → Int → Int → Int → Option (Int)) (p0 : Int) (p1 : List ty33.den) (p2 : Int) (p3 : Int) (p4 : List ty98.den) : Nat → S95 → Option ((List ty33.den) × Int × Int × (List ty98.den))
  | 0, _ => none
  | n + 1, s => T95 Ops.std c96 c95 c97 p0 p1 p2 p3 p4 (R95 c96 c95 c97 p0 p1 p2 p3 p4 n) some (some s)
theorem rr95 {R : Type} (c96 : List ty33.den → Int → Int → List ty98.den → Option ((List ty33.den) × Int × Int × (List ty98.den))) (c95 : Int → List ty33.den → Int → Int → List ty98.den → Option ((List ty33.den) × Int × Int × (List ty98.den))) (c97 : Int → List UInt8 → Int → Int → Int → Option (Int)) (p0 : Int) (p1 : List ty33.den) (p2 : Int) (p3 : Int) (p4 : List ty98.den) (k : AV → Objs → Option R) : ∀ (n : Nat) (s : S95), aloop tau Ops.std gl0 X95 (ent 96 (e96 c96) (ent 95 (e95 c95) (ent 97 (e97 c97) (gnil)))) ow [0] Try.f95 k (I95 s) (E95 p0 p1 p2 p3 p4 s) n = ob (R95 c96 c95 c97 p0 p1 p2 p3 p4 n s) (fun y => k (.tup []) [(0, .box 119 [.list 33 ty33 y.1, .int .i64 y.2.1, .own 1002, .int .i64 y.2.2.1]), (1002, .row 98 ty98 y.2.2.2)])
  | 0, s => by cases s <;> rfl
  | n + 1, s => by rw [el95]; exact nt95 Ops.std c96 c95 c97 p0 p1 p2 p3 p4 _ _ some (fun y => k (.tup []) [(0, .box 119 [.list 33 ty33 y.1, .int .i64 y.2.1, .own 1002, .int .i64 y.2.2.1]), (1002, .row 98 ty98 y.2.2.2)]) (rr95 c96 c95 c97 p0 p1 p2 p3 p4 k n) (some s)
def F95 (c96 : List ty33.den → Int → Int → List ty98.den → Option ((List ty33.den) × Int × Int × (List ty98.den))) (c95 : Int → List ty33.den → Int → Int → List ty98.den → Option ((List ty33.den) × Int × Int × (List ty98.den))) (c97 : Int → List UInt8 → Int → Int → Int → Option (Int)) (p0 : Int) (p1 : List ty33.den) (p2 : Int) (p3 : Int) (p4 : List ty98.den) : Option ((List ty33.den) × Int × Int × (List ty98.den)) := T95 Ops.std c96 c95 c97 p0 p1 p2 p3 p4 (R95 c96 c95 c97 p0 p1 p2 p3 p4 1000000) some none
theorem fo95 {R : Type} (c96 : List ty33.den → Int → Int → List ty98.den → Option ((List ty33.den) × Int × Int × (List ty98.den))) (c95 : Int → List ty33.den → Int → Int → List ty98.den → Option ((List ty33.den) × Int × Int × (List ty98.den))) (c97 : Int → List UInt8 → Int → Int → Int → Option (Int)) (p0 : Int) (p1 : List ty33.den) (p2 : Int) (p3 : Int) (p4 : List ty98.den) (k : AV → Objs → Option R) : afun tau Ops.std gl0 X95 (ent 96 (e96 c96) (ent 95 (e95 c95) (ent 97 (e97 c97) (gnil)))) ow Try.f95 [.c (.ptr 0 0), .c (.int .i64 p0)] [(0, .box 119 [.list 33 ty33 p1, .int .i64 p2, .own 1002, .int .i64 p3]), (1002, .row 98 ty98 p4)] k 1000000 = ob (F95 c96 c95 c97 p0 p1 p2 p3 p4) (fun y => k (.tup []) [(0, .box 119 [.list 33 ty33 y.1, .int .i64 y.2.1, .own 1002, .int .i64 y.2.2.1]), (1002, .row 98 ty98 y.2.2.2)]) := by rw [eq95]; exact nt95 Ops.std c96 c95 c97 p0 p1 p2 p3 p4 _ _ some (fun y => k (.tup []) [(0, .box 119 [.list 33 ty33 y.1, .int .i64 y.2.1, .own 1002, .int .i64 y.2.2.1]), (1002, .row 98 ty98 y.2.2.2)]) (rr95 c96 c95 c97 p0 p1 p2 p3 p4 k 1000000) none
theorem sf95 {c96 : List ty33.den → Int → Int → List ty98.den → Option ((List ty33.den) × Int × Int × (List ty98.den))} {c95 : Int → List ty33.den → Int → Int → List ty98.den → Option ((List ty33.den) × Int × Int × (List ty98.den))} {c97 : Int → List UInt8 → Int → Int → Int → Option (Int)} (h96 : Sp96 c96) (h95 : Sp95 c95) (h97 : Sp97 c97) : Sp95 (F95 c96 c95 c97) := fun p0 p1 p2 p3 p4 y hy => by
  refine spec_of (G := ent 96 (e96 c96) (ent 95 (e95 c95) (ent 97 (e97 c97) (gnil)))) (ent_ok (ek96 h96) (ent_ok (ek95 h95) (ent_ok (ek97 h97) (gnil_ok)))) 1000000 (fn := Try.f95) (by kernel_rfl) (by kernel_rfl) (X := X95) (by kernel_rfl) ?_
  rw [fo95, hy]
  rfl

/-! ### 96: (*lariat/lariatref7.reader).unary -/
def X96 : Aux := ⟨[(1000006, [1, 3, 4, 5, 6, 7, 8, 9, 10, 11, 12, 13, 14, 15, 16, 17, 18, 19, 20, 21, 22, 23, 24, 25, 26, 27, 28, 29, 30, 31, 32, 33, 34, 35, 36, 37, 38, 39, 40, 41, 42, 43, 44, 45, 46, 47, 48, 49, 50, 51, 52, 53, 54, 55, 56, 57, 58, 59, 60, 61, 62, 63, 64, 65, 66, 67, 68, 69, 70, 71, 72, 73, 74, 75, 76, 77, 78, 79, 80, 81, 82, 83, 84, 85, 86, 87, 88, 89, 90, 91, 92, 93, 94, 95, 96, 97, 98, 99, 100, 101, 102, 103, 104, 105, 106, 107, 108, 109, 110, 111, 112, 113, 114, 115, 116, 117, 118, 119, 120, 121, 122, 123, 124, 125, 126, 127, 128, 129, 130, 131, 132, 133, 134, 135, 136, 137, 138, 139, 140, 141, 142, 143, 144, 145, 146, 147, 148, 149, 150, 151, 152, 153, 154, 155, 156, 157, 158, 159, 160, 161, 162, 163, 164, 165, 166, 167, 168, 169])], [(10, .lin [0, 1, 2, 3, 4, 5, 6, 7, 8, 9, 10, 11]), (14, .lin [0, 1, 2, 3, 4, 5, 6, 7, 8, 9, 10, 11, 12]), (20, .lin [0, 1, 2, 3, 4, 5, 6, 7, 8, 9, 10, 11]), (23, .lin [0, 1, 2, 3, 4, 5, 6, 7, 8, 9, 10, 11, 12]), (25, .lin [0, 1, 2, 3, 4, 5, 6, 7, 8, 9, 10])]⟩
inductive S96 where
  | l1006 (v1006_0 : Int) (v1006_1 : List ty33.den) (v1006_2 : Int) (v1006_3 : Int) (v1006_4 : List ty98.den)
def T96 {R : Type} (B : Ops) (c98 : List UInt8 → List ty33.den → Int → Int → List ty98.den → Option (Bool × (List ty33.den) × Int × Int × (List ty98.den))) (c96 : List ty33.den → Int → Int → List ty98.den → Option ((List ty33.den) × Int × Int × (List ty98.den))) (c99 : List ty33.den → Int → Int → List ty98.den → Option ((List ty33.den) × Int × Int × (List ty98.den))) (c95 : Int → List ty33.den → Int → Int → List ty98.den → Option ((List ty33.den) × Int × Int × (List ty98.den))) (p0 : List ty33.den) (p1 : Int) (p2 : Int) (p3 : List ty98.den) (again : S96 → Option R) (k : ((List ty33.den) × Int × Int × (List ty98.den)) → Option R) : Option S96 → Option R
  | none =>
    cond (Ops.le B (0) p2)
     (
      k ((p0, p1, p2, p3)))
     (
      ob (c98 ([33] : List UInt8) p0 p1 p2 p3) fun y0 =>
      cond (Prod.fst y0)
       (
        again (.l1006 4 (Prod.fst (Prod.snd y0)) (Prod.fst (Prod.snd (Prod.snd y0))) (Prod.fst (Prod.snd (Prod.snd (Prod.snd y0)))) (Prod.snd (Prod.snd (Prod.snd (Prod.snd y0))))))
       (
        ob (c98 ([45] : List UInt8) (Prod.fst (Prod.snd y0)) (Prod.fst (Prod.snd (Prod.snd y0))) (Prod.fst (Prod.snd (Prod.snd (Prod.snd y0)))) (Prod.snd (Prod.snd (Prod.snd (Prod.snd y0))))) fun y1 =>
        cond (Prod.fst y1)
         (
          again (.l1006 5 (Prod.fst (Prod.snd y1)) (Prod.fst (Prod.snd (Prod.snd y1))) (Prod.fst (Prod.snd (Prod.snd (Prod.snd y1)))) (Prod.snd (Prod.snd (Prod.snd (Prod.snd y1))))))
         (
          again (.l1006 0 (Prod.fst (Prod.snd y1)) (Prod.fst (Prod.snd (Prod.snd y1))) (Prod.fst (Prod.snd (Prod.snd (Prod.snd y1)))) (Prod.snd (Prod.snd (Prod.snd (Prod.snd y1))))))))
  | some (.l1006 v1006_0 v1006_1 v1006_2 v1006_3 v1006_4) =>
    cond (!Ops.eq B v1006_0 (0))
     (
      ob (c96 v1006_1 (IntKind.wrap IntKind.i64 (v1006_2 + 1)) v1006_3 v1006_4) fun y0 =>
      cond (Ops.lim B (List.length (Prod.snd (Prod.snd (Prod.snd y0))) + List.length ((v1006_0, 0, mt UInt8, mt UInt8) :: mt (Ty.den (Ty.pair (Ty.int IntKind.i64) (Ty.pair (Ty.int IntKind.i64) (Ty.pair Ty.str Ty.str)))))) (48))
       (
        k ((Prod.fst y0, Prod.fst (Prod.snd y0), Prod.fst (Prod.snd (Prod.snd y0)), Prod.snd (Prod.snd (Prod.snd y0)) ++ (v1006_0, 0, mt UInt8, mt UInt8) :: mt (Ty.den (Ty.pair (Ty.int IntKind.i64) (Ty.pair (Ty.int IntKind.i64) (Ty.pair Ty.str Ty.str)))))))
       (
        none))
     (
      cond (Ops.inb B v1006_2 (List.length v1006_1))
       (
        cond (Ops.eq B (Prod.fst (List.getD v1006_1 (Int.toNat v1006_2) (Ty.dflt ty33))) (1))
         (
          cond (Ops.lim B (List.length v1006_4 + List.length ((1, Prod.fst (Prod.snd (Prod.snd (List.getD v1006_1 (Int.toNat v1006_2) (Ty.dflt ty33)))), mt UInt8, mt UInt8) :: mt (Ty.den (Ty.pair (Ty.int IntKind.i64) (Ty.pair (Ty.int IntKind.i64) (Ty.pair Ty.str Ty.str)))))) (48))
           (
            k ((v1006_1, IntKind.wrap IntKind.i64 (v1006_2 + 1), v1006_3, v1006_4 ++ (1, Prod.fst (Prod.snd (Prod.snd (List.getD v1006_1 (Int.toNat v1006_2) (Ty.dflt ty33)))), mt UInt8, mt UInt8) :: mt (Ty.den (Ty.pair (Ty.int IntKind.i64) (Ty.pair (Ty.int IntKind.i64) (Ty.pair Ty.str Ty.str)))))))
           (
            none))
         (
          cond (Ops.eq B (Prod.fst (List.getD v1006_1 (Int.toNat v1006_2) (Ty.dflt ty33))) (2))
           (
            ob (c98 ([64] : List UInt8) v1006_1 (IntKind.wrap IntKind.i64 (v1006_2 + 1)) v1006_3 v1006_4) fun y0 =>
            cond (Prod.fst y0)
             (
              cond (Ops.inb B (IntKind.wrap IntKind.i64 (Prod.fst (Prod.snd (Prod.snd y0)) + 1)) (List.length (Prod.fst (Prod.snd y0))))
               (
                cond (!Ops.eq B (Prod.fst (List.getD (Prod.fst (Prod.snd y0)) (Int.toNat (IntKind.wrap IntKind.i64 (Prod.fst (Prod.snd (Prod.snd y0)) + 1))) (Ty.dflt ty33))) (2))
                 (
                  ob (c99 (Prod.fst (Prod.snd y0)) (IntKind.wrap IntKind.i64 (Prod.fst (Prod.snd (Prod.snd y0)) + 1)) (Prod.fst (Prod.snd (Prod.snd (Prod.snd y0)))) (Prod.snd (Prod.snd (Prod.snd (Prod.snd y0))))) fun y1 =>
                  k ((Prod.fst y1, Prod.fst (Prod.snd y1), Prod.fst (Prod.snd (Prod.snd y1)), Prod.snd (Prod.snd (Prod.snd y1)))))
                 (
                  cond (Ops.inb B (IntKind.wrap IntKind.i64 (Prod.fst (Prod.snd (Prod.snd y0)) + 1)) (List.length (Prod.fst (Prod.snd y0))))
                   (
                    cond (Ops.lim B (List.length (Prod.snd (Prod.snd (Prod.snd (Prod.snd y0)))) + List.length ((3, 0, Prod.fst (Prod.snd (List.getD v1006_1 (Int.toNat v1006_2) (Ty.dflt ty33))), Prod.fst (Prod.snd (List.getD (Prod.fst (Prod.snd y0)) (Int.toNat (IntKind.wrap IntKind.i64 (Prod.fst (Prod.snd (Prod.snd y0)) + 1))) (Ty.dflt ty33)))) :: mt (Ty.den (Ty.pair (Ty.int IntKind.i64) (Ty.pair (Ty.int IntKind.i64) (Ty.pair Ty.str Ty.str)))))) (48))
                     (
                      k ((Prod.fst (Prod.snd y0), IntKind.wrap IntKind.i64 (IntKind.wrap IntKind.i64 (Prod.fst (Prod.snd (Prod.snd y0)) + 1) + 1), Prod.fst (Prod.snd (Prod.snd (Prod.snd y0))), Prod.snd (Prod.snd (Prod.snd (Prod.snd y0))) ++ (3, 0, Prod.fst (Prod.snd (List.getD v1006_1 (Int.toNat v1006_2) (Ty.dflt ty33))), Prod.fst (Prod.snd (List.getD (Prod.fst (Prod.snd y0)) (Int.toNat (IntKind.wrap IntKind.i64 (Prod.fst (Prod.snd (Prod.snd y0)) + 1))) (Ty.dflt ty33)))) :: mt (Ty.den (Ty.pair (Ty.int IntKind.i64) (Ty.pair (Ty.int IntKind.i64) (Ty.pair Ty.str Ty.str)))))))
                     (
                      none))
                   (
                    none)))
               (
                none))
             (
              cond (Ops.lim B (List.length (Prod.snd (Prod.snd (Prod.snd (Prod.snd y0)))) + List.length ((2, 0, Prod.fst (Prod.snd (List.getD v1006_1 (Int.toNat v1006_2) (Ty.dflt ty33))), mt UInt8) :: mt (Ty.den (Ty.pair (Ty.int IntKind.i64) (Ty.pair (Ty.int IntKind.i64) (Ty.pair Ty.str Ty.str)))))) (48))
               (
                k ((Prod.fst (Prod.snd y0), Prod.fst (Prod.snd (Prod.snd y0)), Prod.fst (Prod.snd (Prod.snd (Prod.snd y0))), Prod.snd (Prod.snd (Prod.snd (Prod.snd y0))) ++ (2, 0, Prod.fst (Prod.snd (List.getD v1006_1 (Int.toNat v1006_2) (Ty.dflt ty33))), mt UInt8) :: mt (Ty.den (Ty.pair (Ty.int IntKind.i64) (Ty.pair (Ty.int IntKind.i64) (Ty.pair Ty.str Ty.str)))))))
               (
                none)))
           (
            ob (c98 ([40] : List UInt8) v1006_1 v1006_2 v1006_3 v1006_4) fun y0 =>
            cond (Prod.fst y0)
             (
              ob (c95 (1) (Prod.fst (Prod.snd y0)) (IntKind.wrap IntKind.i64 (Prod.fst (Prod.snd (Prod.snd y0)) + 1)) (Prod.fst (Prod.snd (Prod.snd (Prod.snd y0)))) (Prod.snd (Prod.snd (Prod.snd (Prod.snd y0))))) fun y1 =>
              cond (Ops.le B (0) (Prod.fst (Prod.snd (Prod.snd y1))))
               (
                k ((Prod.fst y1, Prod.fst (Prod.snd y1), Prod.fst (Prod.snd (Prod.snd y1)), Prod.snd (Prod.snd (Prod.snd y1)))))
               (
                ob (c98 ([41] : List UInt8) (Prod.fst y1) (Prod.fst (Prod.snd y1)) (Prod.fst (Prod.snd (Prod.snd y1))) (Prod.snd (Prod.snd (Prod.snd y1)))) fun y2 =>
                cond (!Prod.fst y2)
                 (
                  ob (c99 (Prod.fst (Prod.snd y2)) (Prod.fst (Prod.snd (Prod.snd y2))) (Prod.fst (Prod.snd (Prod.snd (Prod.snd y2)))) (Prod.snd (Prod.snd (Prod.snd (Prod.snd y2))))) fun y3 =>
                  k ((Prod.fst y3, Prod.fst (Prod.snd y3), Prod.fst (Prod.snd (Prod.snd y3)), Prod.snd (Prod.snd (Prod.snd y3)))))
                 (
                  k ((Prod.fst (Prod.snd y2), IntKind.wrap IntKind.i64 (Prod.fst (Prod.snd (Prod.snd y2)) + 1), Prod.fst (Prod.snd (Prod.snd (Prod.snd y2))), Prod.snd (Prod.snd (Prod.snd (Prod.snd y2))))))))
             (
              ob (c99 (Prod.fst (Prod.snd y0)) (Prod.fst (Prod.snd (Prod.snd y0))) (Prod.fst (Prod.snd (Prod.snd (Prod.snd y0)))) (Prod.snd (Prod.snd (Prod.snd (Prod.snd y0))))) fun y1 =>
              k ((Prod.fst y1, Prod.fst (Prod.snd y1), Prod.fst (Prod.snd (Prod.snd y1)), Prod.snd (Prod.snd (Prod.snd y1))))))))
       (
        none))
def E96 (p0 : List ty33.den) (p1 : Int) (p2 : Int) (p3 : List ty98.den) : S96 → List AV × Objs
  | .l1006 v1006_0 v1006_1 v1006_2 v1006_3 v1006_4 => (mk 170 [(0, .c (.ptr 0 0)), (2, .c (.int .i64 v1006_0))], [(0, .box 119 [.list 33 ty33 v1006_1, .int .i64 v1006_2, .own 1002, .int .i64 v1006_3]), (1002, .row 98 ty98 v1006_4)])
def I96 : S96 → Nat
  | .l1006 _ _ _ _ _ => 1006
theorem eq96 {R : Type} (B : Ops) (c98 : List UInt8 → List ty33.den → Int → Int → List ty98.den → Option (Bool × (List ty33.den) × Int × Int × (List ty98.den))) (c96 : List ty33.den → Int → Int → List ty98.den → Option ((List ty33.den) × Int × Int × (List ty98.den))) (c99 : List ty33.den → Int → Int → List ty98.den → Option ((List ty33.den) × Int × Int × (List ty98.den))) (c95 : Int → List ty33.den → Int → Int → List ty98.den → Option ((List ty33.den) × Int × Int × (List ty98.den))) (p0 : List ty33.den) (p1 : Int) (p2 : Int) (p3 : List ty98.den) (k : AV → Objs → Option R) (n : Nat) : afun tau B gl0 X96 (ent 98 (e98 c98) (ent 96 (e96 c96) (ent 99 (e99 c99) (ent 95 (e95 c95) (gnil))))) ow Try.f96 [.c (.ptr 0 0)] [(0, .box 119 [.list 33 ty33 p0, .int .i64 p1, .own 1002, .int .i64 p2]), (1002, .row 98 ty98 p3)] k n = T96 B c98 c96 c99 c95 p0 p1 p2 p3 (fun s => aloop tau B gl0 X96 (ent 98 (e98 c98) (ent 96 (e96 c96) (ent 99 (e99 c99) (ent 95 (e95 c95) (gnil))))) ow [0] Try.f96 k (I96 s) (E96 p0 p1 p2 p3 s) n) (fun y => k (.tup []) [(0, .box 119 [.list 33 ty33 y.1, .int .i64 y.2.1, .own 1002, .int .i64 y.2.2.1]), (1002, .row 98 ty98 y.2.2.2)]) none := by kernel_rfl
theorem el96 {R : Type} (B : Ops) (c98 : List UInt8 → List ty33.den → Int → Int → List ty98.den → Option (Bool × (List ty33.den) × Int × Int × (List ty98.den))) (c96 : List ty33.den → Int → Int → List ty98.den → Option ((List ty33.den) × Int × Int × (List ty98.den))) (c99 : List ty33.den → Int → Int → List ty98.den → Option ((List ty33.den) × Int × Int × (List ty98.den))) (c95 : Int → List ty33.den → Int → Int → List ty98.den → Option ((List ty33.den) × Int × Int × (List ty98.den))) (p0 : List ty33.den) (p1 : Int) (p2 : Int) (p3 : List ty98.den) (k : AV → Objs → Option R) (n : Nat) : ∀ s, aloop tau B gl0 X96 (ent 98 (e98 c98) (ent 96 (e96 c96) (ent 99 (e99 c99) (ent 95 (e95 c95) (gnil))))) ow [0] Try.f96 k (I96 s) (E96 p0 p1 p2 p3 s) (n + 1) = T96 B c98 c96 c99 c95 p0 p1 p2 p3 (fun s => aloop tau B gl0 X96 (ent 98 (e98 c98) (ent 96 (e96 c96) (ent 99 (e99 c99) (ent 95 (e95 c95) (gnil))))) ow [0] Try.f96 k (I96 s) (E96 p0 p1 p2 p3 s) n) (fun y => k (.tup []) [(0, .box 119 [.list 33 ty33 y.1, .int .i64 y.2.1, .own 1002, .int .i64 y.2.2.1]), (1002, .row 98 ty98 y.2.2.2)]) (some s)
  | .l1006 v1006_0 v1006_1 v1006_2 v1006_3 v1006_4 => by kernel_rfl
theorem nt96 {R R' : Type} (B : Ops) (c98 : List UInt8 → List ty33.den → Int → Int → List ty98.den → Option (Bool × (List ty33.den) × Int × Int × (List ty98.den))) (c96 : List ty33.den → Int → Int → List ty98.den → Option ((List ty33.den) × Int × Int × (List ty98.den))) (c99 : List ty33.den → Int → Int → List ty98.den → Option ((List ty33.den) × Int × Int × (List ty98.den))) (c95 : Int → List ty33.den → Int → Int → List ty98.den → Option ((List ty33.den) × Int × Int × (List ty98.den))) (p0 : List ty33.den) (p1 : Int) (p2 : Int) (p3 : List ty98.den) (again : S96 → Option R) (again' : S96 → Option R') (k0 : ((List ty33.den) × Int × Int × (List ty98.den)) → Option R') (k : R' → Option R) (h : ∀ s, again s = ob (again' s) k) : ∀ s, T96 B c98 c96 c99 c95 p0 p1 p2 p3 again (fun y => ob (k0 y) k) s = ob (T96 B c98 c96 c99 c95 p0 p1 p2 p3 again' k0 s) k
  | none => by unfold T96; repeat' first | exact rfl | exact h _ | apply nat_cond | (apply nat_ob; intro)
  | some (.l1006 v1006_0 v1006_1 v1006_2 v1006_3 v1006_4) => by unfold T96; repeat' first | exact rfl | exact h _ | apply nat_cond | (apply nat_ob; intro)
def R96 (c98 : List UInt8 → List ty33.den → Int → Int → List ty98.den → Option (Bool × (List ty33.den) × Int × Int × (List ty98.den))) (c96 : List ty33.den → Int → Int → List ty98.den → Option ((List ty33.den) × Int × Int × (List ty98.den))) (c99 : List ty33.den → Int → Int → List ty98.den → Option ((List ty33.den) × Int × Int × (List ty98.den))) (c95 : Int → List ty33.den → Int → Int → List ty98.den → Option ((List ty33.den) × Int × Int × (List ty98.den))) (p0 : List ty33.den) (p1 : Int) (p2 : Int) (p3 : List ty98.den) : Nat → S96 → Option ((List ty33.den) × Int × Int × (List ty98.den))
  | 0, _ => none
  | n + 1, s => T96 Ops.std c98 c96 c99 c95 p0 p1 p2 p3 (R96 c98 c96 c99 c95 p0 p1 p2 p3 n) some (some s)
theorem rr96 {R : Type} (c98 : List UInt8 → List ty33.den → Int → Int → List ty98.den → Option (Bool × (List ty33.den) × Int × Int × (List ty98.den))) (c96 : List ty33.den → Int → Int → List ty98.den → Option ((List ty33.den) × Int × Int × (List ty98.den))) (c99 : List ty33.den → Int → Int → List ty98.den → Option ((List ty33.den) × Int × Int × (List ty98.den))) (c95 : Int → List ty33.den → Int → Int → List ty98.den → Option ((List ty33.den) × Int × Int × (List ty98.den))) (p0 : List ty33.den) (p1 : Int) (p2 : Int) (p3 : List ty98.den) (k : AV → Objs → Option R) : ∀ (n : Nat) (s : S96), aloop tau Ops.std gl0 X96 (ent 98 (e98 c98) (ent 96 (e96 c96) (ent 99 (e99 c99) (ent 95 (e95 c95) (gnil))))) ow [0] Try.f96 k (I96 s) (E96 p0 p1 p2 p3 s) n = ob (R96 c98 c96 c99 c95 p0 p1 p2 p3 n s) (fun y => k (.tup []) [(0, .box 119 [.list 33 ty33 y.1, .int .i64 y.2.1, .own 1002, .int .i64 y.2.2.1]), (1002, .row 98 ty98 y.2.2.2)])
  | 0, s => by cases s <;> rfl
  | n + 1, s => by rw [el96]; exact nt96 Ops.std c98 c96 c99 c95 p0 p1 p2 p3 _ _ some (fun y => k (.tup []) [(0, .box 119 [.list 33 ty33 y.1, .int .i64 y.2.1, .own 1002, .int .i64 y.2.2.1]), (1002, .row 98 ty98 y.2.2.2)]) (rr96 c98 c96 c99 c95 p0 p1 p2 p3 k n) (some s)
def F96 (c98 : List UInt8 → List ty33.den → Int → Int → List ty98.den → Option (Bool × (List ty33.den) × Int × Int × (List ty98.den))) (c96 : List ty33.den → Int → Int → List ty98.den → Option ((List ty33.den) × Int × Int × (List ty98.den))) (c99 : List ty33.den → Int → Int → List ty98.den → Option ((List ty33.den) × Int × Int × (List ty98.den))) (c95 : Int → List ty33.den → Int → Int → List ty98.den → Option ((List ty33.den) × Int × Int × (List ty98.den))) (p0 : List ty33.den) (p1 : Int) (p2 : Int) (p3 : List ty98.den) : Option ((List ty33.den) × Int × Int × (List ty98.den)) := T96 Ops.std c98 c96 c99 c95 p0 p1 p2 p3 (R96 c98 c96 c99 c95 p0 p1 p2 p3 1000000) some none
theorem fo96 {R : Type} (c98 : List UInt8 → List ty33.den → Int → Int → List ty98.den → Option (Bool × (List ty33.den) × Int × Int × (List ty98.den))) (c96 : List ty33.den → Int → Int → List ty98.den → Option ((List ty33.den) × Int × Int × (List ty98.den))) (c99 : List ty33.den → Int → Int → List ty98.den → Option ((List ty33.den) × Int × Int × (List ty98.den))) (c95 : Int → List ty33.den → Int → Int → List ty98.den → Option ((List ty33.den) × Int × Int × (List ty98.den))) (p0 : List ty33.den) (p1 : Int) (p2 : Int) (p3 : List ty98.den) (k : AV → Objs → Option R) : afun tau Ops.std gl0 X96 (ent 98 (e98 c98) (ent 96 (e96 c96) (ent 99 (e99 c99) (ent 95 (e95 c95) (gnil))))) ow Try.f96 [.c (.ptr 0 0)] [(0, .box 119 [.list 33 ty33 p0, .int .i64 p1, .own 1002, .int .i64 p2]), (1002, .row 98 ty98 p3)] k 1000000 = ob (F96 c98 c96 c99 c95 p0 p1 p2 p3) (fun y => k (.tup []) [(0, .box 119 [.list 33 ty33 y.1, .int .i64 y.2.1, .own 1002, .int .i64 y.2.2.1]), (1002, .row 98 ty98 y.2.2.2)]) := by rw [eq96]; exact nt96 Ops.std c98 c96 c99 c95 p0 p1 p2 p3 _ _ some (fun y => k (.tup []) [(0, .box 119 [.list 33 ty33 y.1, .int .i64 y.2.1, .own 1002, .int .i64 y.2.2.1]), (1002, .row 98 ty98 y.2.2.2)]) (rr96 c98 c96 c99 c95 p0 p1 p2 p3 k 1000000) none
theorem sf96 {c98 : List UInt8 → List ty33.den → Int → Int → List ty98.den → Option (Bool × (List ty33.den) × Int × Int × (List ty98.den))} {c96 : List ty33.den → Int → Int → List ty98.den → Option ((List ty33.den) × Int × Int × (List ty98.den))} {c99 : List ty33.den → Int → Int → List ty98.den → Option ((List ty33.den) × Int × Int × (List ty98.den))} {c95 : Int → List ty33.den → Int → Int → List ty98.den → Option ((List ty33.den) × Int × Int × (List ty98.den))} (h98 : Sp98 c98) (h96 : Sp96 c96) (h99 : Sp99 c99) (h95 : Sp95 c95) : Sp96 (F96 c98 c96 c99 c95) := fun p0 p1 p2 p3 y hy => by
  refine spec_of (G := ent 98 (e98 c98) (ent 96 (e96 c96) (ent 99 (e99 c99) (ent 95 (e95 c95) (gnil))))) (ent_ok (ek98 h98) (ent_ok (ek96 h96) (ent_ok (ek99 h99) (ent_ok (ek95 h95) (gnil_ok))))) 1000000 (fn := Try.f96) (by kernel_rfl) (by kernel_rfl) (X := X96) (by kernel_rfl) ?_
  rw [fo96, hy]
  rfl
noncomputable def Rec95 : Nat → (Int → List ty33.den → Int → Int → List ty98.den → Option ((List ty33.den) × Int × Int × (List ty98.den))) × (List ty33.den → Int → Int → List ty98.den → Option ((List ty33.den) × Int × Int × (List ty98.den)))
  | 0 => (fun _ _ _ _ _ => none, fun _ _ _ _ => none)
  | d + 1 => (F95 (Rec95 d).2 (Rec95 d).1 M97, F96 M98 (Rec95 d).2 M99 (Rec95 d).1)
theorem rec95 : ∀ d, Sp95 (Rec95 d).1 ∧ Sp96 (Rec95 d).2
  | 0 => ⟨(fun p0 p1 p2 p3 p4 y (h : (none : Option ((List ty33.den) × Int × Int × (List ty98.den))) = some y) => by cases h), (fun p0 p1 p2 p3 y (h : (none : Option ((List ty33.den) × Int × Int × (List ty98.den))) = some y) => by cases h)⟩
  | d + 1 => ⟨sf95 (rec95 d).2 (rec95 d).1 sm97, sf96 sm98 (rec95 d).2 sm99 (rec95 d).1⟩
noncomputable def M95 : Int → List ty33.den → Int → Int → List ty98.den → Option ((List ty33.den) × Int × Int × (List ty98.den)) := (Rec95 1000000).1
theorem sm95 : Sp95 M95 := (rec95 1000000).1
noncomputable def M96 : List ty33.den → Int → Int → List ty98.den → Option ((List ty33.den) × Int × Int × (List ty98.den)) := (Rec95 1000000).2
theorem sm96 : Sp96 M96 := (rec95 1000000).2

/-! ### 90: lariat/lariatref7.Take -/
def X90 : Aux := ⟨[], [(4, .lin [0, 1, 2, 3, 4, 5, 6]), (7, .lin [0, 1, 2, 3, 4, 5, 6, 7, 8, 9, 10])]⟩
def T90 {R : Type} (B : Ops) (c95 : Int → List ty33.den → Int → Int → List ty98.den → Option ((List ty33.den) × Int × Int × (List ty98.den))) (p0 : List ty33.den) (p1 : Int) (k : (Int × Int × (List ty98.den)) → Option R) : Option R :=
  ob (c95 (1) p0 p1 (-1) []) fun y0 =>
  cond (Ops.le B (0) (Prod.fst (Prod.snd (Prod.snd y0))))
   (
    k ((Prod.fst (Prod.snd (Prod.snd y0)), 2, [])))
   (
    cond (Ops.lt B (30) (Nat.cast (List.length (Prod.snd (Prod.snd (Prod.snd y0))))))
     (
      k ((p1, 13, [])))
     (
      k ((Prod.fst (Prod.snd y0), 0, Prod.snd (Prod.snd (Prod.snd y0))))))
theorem eq90 {R : Type} (B : Ops) (c95 : Int → List ty33.den → Int → Int → List ty98.den → Option ((List ty33.den) × Int × Int × (List ty98.den))) (p0 : List ty33.den) (p1 : Int) (k : AV → Objs → Option R) (n : Nat) : afun tau B gl0 X90 (ent 95 (e95 c95) (gnil)) ow Try.f90 [.c (.list 33 ty33 p0), .c (.int .i64 p1)] [] k n = T90 B c95 p0 p1 (fun y => k (.tup [(false, [.own 501000]), (false, [.int .i64 y.1]), (false, [.int .i64 y.2.1])]) [(501000, .row 98 ty98 y.2.2)]) := by kernel_rfl
theorem nt90 {R R' : Type} (B : Ops) (c95 : Int → List ty33.den → Int → Int → List ty98.den → Option ((List ty33.den) × Int × Int × (List ty98.den))) (p0 : List ty33.den) (p1 : Int) (k0 : (Int × Int × (List ty98.den)) → Option R') (k : R' → Option R) : T90 B c95 p0 p1 (fun y => ob (k0 y) k) = ob (T90 B c95 p0 p1 k0) k := by
  unfold T90
  repeat' first | exact rfl | apply nat_cond | (apply nat_ob; intro)
def F90 (c95 : Int → List ty33.den → Int → Int → List ty98.den → Option ((List ty33.den) × Int × Int × (List ty98.den))) (p0 : List ty33.den) (p1 : Int) : Option (Int × Int × (List ty98.den)) := T90 Ops.std c95 p0 p1 some
theorem fo90 {R : Type} (c95 : Int → List ty33.den → Int → Int → List ty98.den → Option ((List ty33.den) × Int × Int × (List ty98.den))) (p0 : List ty33.den) (p1 : Int) (k : AV → Objs → Option R) (n : Nat) : afun tau Ops.std gl0 X90 (ent 95 (e95 c95) (gnil)) ow Try.f90 [.c (.list 33 ty33 p0), .c (.int .i64 p1)] [] k n = ob (F90 c95 p0 p1) (fun y => k (.tup [(false, [.own 501000]), (false, [.int .i64 y.1]), (false, [.int .i64 y.2.1])]) [(501000, .row 98 ty98 y.2.2)]) := by rw [eq90]; exact nt90 Ops.std c95 p0 p1 some (fun y => k (.tup [(false, [.own 501000]), (false, [.int .i64 y.1]), (false, [.int .i64 y.2.1])]) [(501000, .row 98 ty98 y.2.2)])
def e90 {R : Type} (c : List ty33.den → Int → Option (Int × Int × (List ty98.den))) : Ent R := fun args objs k =>
  oCons args fun a0 l0 => oC a0 fun x0 => cList 33 ty33 x0 fun p0 => oCons l0 fun a1 l1 => oC a1 fun x1 => cInt .i64 x1 fun p1 => oNil l1 <| oNilO objs <| ob (c p0 p1) fun y => k (.tup [(false, [.own 501000]), (false, [.int .i64 y.1]), (false, [.int .i64 y.2.1])]) [(501000, .row 98 ty98 y.2.2)]
abbrev Sp90 (c : List ty33.den → Int → Option (Int × Int × (List ty98.den))) : Prop := ∀ (p0 : List ty33.den) (p1 : Int) (y : Int × Int × (List ty98.den)), c p0 p1 = some y → Spec Try.prog gl0 90 [.c (.list 33 ty33 p0), .c (.int .i64 p1)] [] (.tup [(false, [.own 501000]), (false, [.int .i64 y.1]), (false, [.int .i64 y.2.1])]) [(501000, .row 98 ty98 y.2.2)]
theorem ek90 {R : Type} {c : List ty33.den → Int → Option (Int × Int × (List ty98.den))} (hs : Sp90 c) : EOk 90 (e90 (R := R) c) := fun args objs k r h => by
  unfold e90 at h
  obtain ⟨a0, l0, rfl, q1⟩ := oCons_some h
  obtain ⟨x0, rfl, q2⟩ := oC_some q1
  obtain ⟨p0, rfl, q3⟩ := cList_some q2
  obtain ⟨a1, l1, rfl, q4⟩ := oCons_some q3
  obtain ⟨x1, rfl, q5⟩ := oC_some q4
  obtain ⟨p1, rfl, q6⟩ := cInt_some q5
  obtain ⟨rfl, q7⟩ := oNil_some q6
  obtain ⟨rfl, q8⟩ := oNilO_some q7
  exact eok_of (hs p0 p1) q8
theorem sf90 {c95 : Int → List ty33.den → Int → Int → List ty98.den → Option ((List ty33.den) × Int × Int × (List ty98.den))} (h95 : Sp95 c95) : Sp90 (F90 c95) := fun p0 p1 y hy => by
  refine spec_of (G := ent 95 (e95 c95) (gnil)) (ent_ok (ek95 h95) (gnil_ok)) 1000000 (fn := Try.f90) (by kernel_rfl) (by kernel_rfl) (X := X90) (by kernel_rfl) ?_
  rw [fo90, hy]
  rfl
noncomputable def M90 : List ty33.den → Int → Option (Int × Int × (List ty98.den)) := F90 M95
theorem sm90 : Sp90 M90 := sf90 sm95
def e66 {R : Type} (c : List ty3.den → Option ((List ty3.den))) : Ent R := fun args objs k =>
  oCons args fun a0 l0 => oC a0 fun x0 => cList 3 ty3 x0 fun p0 => oNil l0 <| oNilO objs <| ob (c p0) fun y => k (.c (.own 500)) [(500, .row 3 ty3 y)]
abbrev Sp66 (c : List ty3.den → Option ((List ty3.den))) : Prop := ∀ (p0 : List ty3.den) (y : (List ty3.den)), c p0 = some y → Spec Try.prog gl0 66 [.c (.list 3 ty3 p0)] [] (.c (.own 500)) [(500, .row 3 ty3 y)]
theorem ek66 {R : Type} {c : List ty3.den → Option ((List ty3.den))} (hs : Sp66 c) : EOk 66 (e66 (R := R) c) := fun args objs k r h => by
  unfold e66 at h
  obtain ⟨a0, l0, rfl, q1⟩ := oCons_some h
  obtain ⟨x0, rfl, q2⟩ := oC_some q1
  obtain ⟨p0, rfl, q3⟩ := cList_some q2
  obtain ⟨rfl, q4⟩ := oNil_some q3
  obtain ⟨rfl, q5⟩ := oNilO_some q4
  exact eok_of (hs p0) q5
def M66 : List ty3.den → Option ((List ty3.den)) := cloneF (t := ty3) 8
theorem sm66 : Sp66 M66 := by
  have h : ∀ (B : Ops) (xs : List (Ty.den ty3)) (k : AV → Objs → Option AO), afun tau B gl0 X0 gnil ow Try.f66 [.c (.list 3 ty3 xs)] [] k 1 = cloneT B 3 8 ty3 xs k := fun B xs k => by kernel_rfl
  refine clone_sp (fun xs v o h0 => ?_) fun b => ?_
  · exact spec_of (G := gnil) gnil_ok 1 (fn := Try.f66) (by kernel_rfl) (by kernel_rfl) (X := X0) (by kernel_rfl) ((h _ _ _).trans h0)
  · cases b <;> exact spec_of (G := gnil) gnil_ok 1 (fn := Try.f66) (by kernel_rfl) (by kernel_rfl) (X := X0) (by kernel_rfl) (by kernel_rfl)
def e93 {R : Type} (c : List ty98.den → Option ((List ty98.den))) : Ent R := fun args objs k =>
  oCons args fun a0 l0 => oC a0 fun x0 => cList 98 ty98 x0 fun p0 => oNil l0 <| oNilO objs <| ob (c p0) fun y => k (.c (.own 500)) [(500, .row 98 ty98 y)]
abbrev Sp93 (c : List ty98.den → Option ((List ty98.den))) : Prop := ∀ (p0 : List ty98.den) (y : (List ty98.den)), c p0 = some y → Spec Try.prog gl0 93 [.c (.list 98 ty98 p0)] [] (.c (.own 500)) [(500, .row 98 ty98 y)]
theorem ek93 {R : Type} {c : List ty98.den → Option ((List ty98.den))} (hs : Sp93 c) : EOk 93 (e93 (R := R) c) := fun args objs k r h => by
  unfold e93 at h
  obtain ⟨a0, l0, rfl, q1⟩ := oCons_some h
  obtain ⟨x0, rfl, q2⟩ := oC_some q1
  obtain ⟨p0, rfl, q3⟩ := cList_some q2
  obtain ⟨rfl, q4⟩ := oNil_some q3
  obtain ⟨rfl, q5⟩ := oNilO_some q4
  exact eok_of (hs p0) q5
def M93 : List ty98.den → Option ((List ty98.den)) := cloneF (t := ty98) 48
theorem sm93 : Sp93 M93 := by
  have h : ∀ (B : Ops) (xs : List (Ty.den ty98)) (k : AV → Objs → Option AO), afun tau B gl0 X0 gnil ow Try.f93 [.c (.list 98 ty98 xs)] [] k 1 = cloneT B 98 48 ty98 xs k := fun B xs k => by kernel_rfl
  refine clone_sp (fun xs v o h0 => ?_) fun b => ?_
  · exact spec_of (G := gnil) gnil_ok 1 (fn := Try.f93) (by kernel_rfl) (by kernel_rfl) (X := X0) (by kernel_rfl) ((h _ _ _).trans h0)
  · cases b <;> exact spec_of (G := gnil) gnil_ok 1 (fn := Try.f93) (by kernel_rfl) (by kernel_rfl) (X := X0) (by kernel_rfl) (by kernel_rfl)

/-! ### 57: lariat/lex.digit -/
def X57 : Aux := ⟨[], []⟩
def T57 {R : Type} (B : Ops) (p0 : Int) (k : (Bool) → Option R) : Option R :=
  cond (Ops.le B (48) p0)
   (
    k (Ops.le B p0 (57)))
   (
    k false)
theorem eq57 {R : Type} (B : Ops) (p0 : Int) (k : AV → Objs → Option R) (n : Nat) : afun tau B gl0 X57 (gnil) ow Try.f57 [.c (.int .u8 p0)] [] k n = T57 B p0 (fun y => k (.c (.bool y)) []) := by kernel_rfl
theorem nt57 {R R' : Type} (B : Ops) (p0 : Int) (k0 : (Bool) → Option R') (k : R' → Option R) : T57 B p0 (fun y => ob (k0 y) k) = ob (T57 B p0 k0) k := by
  unfold T57
  repeat' first | exact rfl | apply nat_cond | (apply nat_ob; intro)
def F57 (p0 : Int) : Option (Bool) := T57 Ops.std p0 some
theorem fo57 {R : Type} (p0 : Int) (k : AV → Objs → Option R) (n : Nat) : afun tau Ops.std gl0 X57 (gnil) ow Try.f57 [.c (.int .u8 p0)] [] k n = ob (F57 p0) (fun y => k (.c (.bool y)) []) := by rw [eq57]; exact nt57 Ops.std p0 some (fun y => k (.c (.bool y)) [])
def e57 {R : Type} (c : Int → Option (Bool)) : Ent R := fun args objs k =>
  oCons args fun a0 l0 => oC a0 fun x0 => cInt .u8 x0 fun p0 => oNil l0 <| oNilO objs <| ob (c p0) fun y => k (.c (.bool y)) []
abbrev Sp57 (c : Int → Option (Bool)) : Prop := ∀ (p0 : Int) (y : Bool), c p0 = some y → Spec Try.prog gl0 57 [.c (.int .u8 p0)] [] (.c (.bool y)) []
theorem ek57 {R : Type} {c : Int → Option (Bool)} (hs : Sp57 c) : EOk 57 (e57 (R := R) c) := fun args objs k r h => by
  unfold e57 at h
  obtain ⟨a0, l0, rfl, q1⟩ := oCons_some h
  obtain ⟨x0, rfl, q2⟩ := oC_some q1
  obtain ⟨p0, rfl, q3⟩ := cInt_some q2
  obtain ⟨rfl, q4⟩ := oNil_some q3
  obtain ⟨rfl, q5⟩ := oNilO_some q4
  exact eok_of (hs p0) q5
theorem sf57 : Sp57 (F57) := fun p0 y hy => by
  refine spec_of (G := gnil) (gnil_ok) 1000000 (fn := Try.f57) (by kernel_rfl) (by kernel_rfl) (X := X57) (by kernel_rfl) ?_
  rw [fo57, hy]
  rfl
noncomputable def M57 : Int → Option (Bool) := F57
theorem sm57 : Sp57 M57 := sf57

/-! ### 39: lariat/lex.begins -/
def X39 : Aux := ⟨[], []⟩
def T39 {R : Type} (B : Ops) (p0 : Int) (k : (Bool) → Option R) : Option R :=
  cond (Ops.le B (97) p0)
   (
    cond (Ops.le B p0 (122))
     (
      k true)
     (
      k (Ops.eq B p0 (95))))
   (
    k (Ops.eq B p0 (95)))
theorem eq39 {R : Type} (B : Ops) (p0 : Int) (k : AV → Objs → Option R) (n : Nat) : afun tau B gl0 X39 (gnil) ow Try.f39 [.c (.int .u8 p0)] [] k n = T39 B p0 (fun y => k (.c (.bool y)) []) := by kernel_rfl
theorem nt39 {R R' : Type} (B : Ops) (p0 : Int) (k0 : (Bool) → Option R') (k : R' → Option R) : T39 B p0 (fun y => ob (k0 y) k) = ob (T39 B p0 k0) k := by
  unfold T39
  repeat' first | exact rfl | apply nat_cond | (apply nat_ob; intro)
def F39 (p0 : Int) : Option (Bool) := T39 Ops.std p0 some
theorem fo39 {R : Type} (p0 : Int) (k : AV → Objs → Option R) (n : Nat) : afun tau Ops.std gl0 X39 (gnil) ow Try.f39 [.c (.int .u8 p0)] [] k n = ob (F39 p0) (fun y => k (.c (.bool y)) []) := by rw [eq39]; exact nt39 Ops.std p0 some (fun y => k (.c (.bool y)) [])
def e39 {R : Type} (c : Int → Option (Bool)) : Ent R := fun args objs k =>
  oCons args fun a0 l0 => oC a0 fun x0 => cInt .u8 x0 fun p0 => oNil l0 <| oNilO objs <| ob (c p0) fun y => k (.c (.bool y)) []
abbrev Sp39 (c : Int → Option (Bool)) : Prop := ∀ (p0 : Int) (y : Bool), c p0 = some y → Spec Try.prog gl0 39 [.c (.int .u8 p0)] [] (.c (.bool y)) []
theorem ek39 {R : Type} {c : Int → Option (Bool)} (hs : Sp39 c) : EOk 39 (e39 (R := R) c) := fun args objs k r h => by
  unfold e39 at h
  obtain ⟨a0, l0, rfl, q1⟩ := oCons_some h
  obtain ⟨x0, rfl, q2⟩ := oC_some q1
  obtain ⟨p0, rfl, q3⟩ := cInt_some q2
  obtain ⟨rfl, q4⟩ := oNil_some q3
  obtain ⟨rfl, q5⟩ := oNilO_some q4
  exact eok_of (hs p0) q5
theorem sf39 : Sp39 (F39) := fun p0 y hy => by
  refine spec_of (G := gnil) (gnil_ok) 1000000 (fn := Try.f39) (by kernel_rfl) (by kernel_rfl) (X := X39) (by kernel_rfl) ?_
  rw [fo39, hy]
  rfl
noncomputable def M39 : Int → Option (Bool) := F39
theorem sm39 : Sp39 M39 := sf39

/-! ### 41: lariat/lex.within -/
def X41 : Aux := ⟨[], []⟩
def T41 {R : Type} (B : Ops) (c39 : Int → Option (Bool)) (c57 : Int → Option (Bool)) (p0 : Int) (k : (Bool) → Option R) : Option R :=
  ob (c39 p0) fun y0 =>
  cond (y0)
   (
    k true)
   (
    ob (c57 p0) fun y1 =>
    k y1)
theorem eq41 {R : Type} (B : Ops) (c39 : Int → Option (Bool)) (c57 : Int → Option (Bool)) (p0 : Int) (k : AV → Objs → Option R) (n : Nat) : afun tau B gl0 X41 (ent 39 (e39 c39) (ent 57 (e57 c57) (gnil))) ow Try.f41 [.c (.int .u8 p0)] [] k n = T41 B c39 c57 p0 (fun y => k (.c (.bool y)) []) := by kernel_rfl
theorem nt41 {R R' : Type} (B : Ops) (c39 : Int → Option (Bool)) (c57 : Int → Option (Bool)) (p0 : Int) (k0 : (Bool) → Option R') (k : R' → Option R) : T41 B c39 c57 p0 (fun y => ob (k0 y) k) = ob (T41 B c39 c57 p0 k0) k := by
  unfold T41
  repeat' first | exact rfl | apply nat_cond | (apply nat_ob; intro)
def F41 (c39 : Int → Option (Bool)) (c57 : Int → Option (Bool)) (p0 : Int) : Option (Bool) := T41 Ops.std c39 c57 p0 some
theorem fo41 {R : Type} (c39 : Int → Option (Bool)) (c57 : Int → Option (Bool)) (p0 : Int) (k : AV → Objs → Option R) (n : Nat) : afun tau Ops.std gl0 X41 (ent 39 (e39 c39) (ent 57 (e57 c57) (gnil))) ow Try.f41 [.c (.int .u8 p0)] [] k n = ob (F41 c39 c57 p0) (fun y => k (.c (.bool y)) []) := by rw [eq41]; exact nt41 Ops.std c39 c57 p0 some (fun y => k (.c (.bool y)) [])
def e41 {R : Type} (c : Int → Option (Bool)) : Ent R := fun args objs k =>
  oCons args fun a0 l0 => oC a0 fun x0 => cInt .u8 x0 fun p0 => oNil l0 <| oNilO objs <| ob (c p0) fun y => k (.c (.bool y)) []
abbrev Sp41 (c : Int → Option (Bool)) : Prop := ∀ (p0 : Int) (y : Bool), c p0 = some y → Spec Try.prog gl0 41 [.c (.int .u8 p0)] [] (.c (.bool y)) []
theorem ek41 {R : Type} {c : Int → Option (Bool)} (hs : Sp41 c) : EOk 41 (e41 (R := R) c) := fun args objs k r h => by
  unfold e41 at h
  obtain ⟨a0, l0, rfl, q1⟩ := oCons_some h
  obtain ⟨x0, rfl, q2⟩ := oC_some q1
  obtain ⟨p0, rfl, q3⟩ := cInt_some q2
  obtain ⟨rfl, q4⟩ := oNil_some q3
  obtain ⟨rfl, q5⟩ := oNilO_some q4
  exact eok_of (hs p0) q5
theorem sf41 {c39 : Int → Option (Bool)} {c57 : Int → Option (Bool)} (h39 : Sp39 c39) (h57 : Sp57 c57) : Sp41 (F41 c39 c57) := fun p0 y hy => by
  refine spec_of (G := ent 39 (e39 c39) (ent 57 (e57 c57) (gnil))) (ent_ok (ek39 h39) (ent_ok (ek57 h57) (gnil_ok))) 1000000 (fn := Try.f41) (by kernel_rfl) (by kernel_rfl) (X := X41) (by kernel_rfl) ?_
  rw [fo41, hy]
  rfl
noncomputable def M41 : Int → Option (Bool) := F41 M39 M57
theorem sm41 : Sp41 M41 := sf41 sm39 sm57

/-! ### 40: lariat/lex.run -/
def X40 : Aux := ⟨[(2, [2, 3, 6, 7, 8, 9, 10, 11, 12, 13, 14, 15, 16, 17, 18])], []⟩
inductive S40 where
  | l0 (v0_2 : Int)
def T40 {R : Type} (B : Ops) (c41 : Int → Option (Bool)) (p0 : List UInt8) (again : S40 → Option R) (k : ((List UInt8)) → Option R) : Option S40 → Option R
  | none =>
    again (.l0 0)
  | some (.l0 v0_2) =>
    cond (Ops.lt B v0_2 (Nat.cast (List.length p0)))
     (
      cond (Ops.inb B v0_2 (List.length p0))
       (
        ob (c41 (Nat.cast (UInt8.toNat (List.getD p0 (Int.toNat v0_2) (0))))) fun y0 =>
        cond (y0)
         (
          again (.l0 (IntKind.wrap IntKind.i64 (v0_2 + 1))))
         (
          cond (Ops.inb B v0_2 (List.length p0 + 1))
           (
            k (List.drop (0) (List.take (Int.toNat v0_2) p0)))
           (
            none)))
       (
        none))
     (
      cond (Ops.inb B v0_2 (List.length p0 + 1))
       (
        k (List.drop (0) (List.take (Int.toNat v0_2) p0)))
       (
        none))
def E40 (p0 : List UInt8) : S40 → List AV × Objs
  | .l0 v0_2 => (mk 22 [(0, .c (.str p0)), (1, .fn 41 []), (4, .c (.str [])), (5, .c (.int .i64 v0_2))], [])
def I40 : S40 → Nat
  | .l0 _ => 0
theorem eq40 {R : Type} (B : Ops) (c41 : Int → Option (Bool)) (p0 : List UInt8) (k : AV → Objs → Option R) (n : Nat) : afun tau B gl0 X40 (ent 41 (e41 c41) (gnil)) ow Try.f40 [.c (.str p0), .fn 41 []] [] k n = T40 B c41 p0 (fun s => aloop tau B gl0 X40 (ent 41 (e41 c41) (gnil)) ow [] Try.f40 k (I40 s) (E40 p0 s) n) (fun y => k (.c (.str y)) []) none := by kernel_rfl
theorem el40 {R : Type} (B : Ops) (c41 : Int → Option (Bool)) (p0 : List UInt8) (k : AV → Objs → Option R) (n : Nat) : ∀ s, aloop tau B gl0 X40 (ent 41 (e41 c41) (gnil)) ow [] Try.f40 k (I40 s) (E40 p0 s) (n + 1) = T40 B c41 p0 (fun s => aloop tau B gl0 X40 (ent 41 (e41 c41) (gnil)) ow [] Try.f40 k (I40 s) (E40 p0 s) n) (fun y => k (.c (.str y)) []) (some s)
  | .l0 v0_2 => by kernel_rfl
theorem nt40 {R R' : Type} (B : Ops) (c41 : Int → Option (Bool)) (p0 : List UInt8) (again : S40 → Option R) (again' : S40 → Option R') (k0 : ((List UInt8)) → Option R') (k : R' → Option R) (h : ∀ s, again s = ob (again' s) k) : ∀ s, T40 B c41 p0 again (fun y => ob (k0 y) k) s = ob (T40 B c41 p0 again' k0 s) k
  | none => by unfold T40; repeat' first | exact rfl | exact h _ | apply nat_cond | (apply nat_ob; intro)
  | some (.l0 v0_2) => by unfold T40; repeat' first | exact rfl | exact h _ | apply nat_cond | (apply nat_ob; intro)
def R40 (c41 : Int → Option (Bool)) (p0 : List UInt8) : Nat → S40 → Option ((List UInt8))
  | 0, _ => none
  | n + 1, s => T40 Ops.std c41 p0 (R40 c41 p0 n) some (some s)
theorem rr40 {R : Type} (c41 : Int → Option (Bool)) (p0 : List UInt8) (k : AV → Objs → Option R) : ∀ (n : Nat) (s : S40), aloop tau Ops.std gl0 X40 (ent 41 (e41 c41) (gnil)) ow [] Try.f40 k (I40 s) (E40 p0 s) n = ob (R40 c41 p0 n s) (fun y => k (.c (.str y)) [])
  | 0, s => by cases s <;> rfl
  | n + 1, s => by rw [el40]; exact nt40 Ops.std c41 p0 _ _ some (fun y => k (.c (.str y)) []) (rr40 c41 p0 k n) (some s)
def F40 (c41 : Int → Option (Bool)) (p0 : List UInt8) : Option ((List UInt8)) := T40 Ops.std c41 p0 (R40 c41 p0 1000000) some none
theorem fo40 {R : Type} (c41 : Int → Option (Bool)) (p0 : List UInt8) (k : AV → Objs → Option R) : afun tau Ops.std gl0 X40 (ent 41 (e41 c41) (gnil)) ow Try.f40 [.c (.str p0), .fn 41 []] [] k 1000000 = ob (F40 c41 p0) (fun y => k (.c (.str y)) []) := by rw [eq40]; exact nt40 Ops.std c41 p0 _ _ some (fun y => k (.c (.str y)) []) (rr40 c41 p0 k 1000000) none
def e40 {R : Type} (c : List UInt8 → Option ((List UInt8))) : Ent R := fun args objs k =>
  oCons args fun a0 l0 => oC a0 fun x0 => cStr x0 fun p0 => oCons l0 fun a1 l1 => oFn 41 a1 <| oNil l1 <| oNilO objs <| ob (c p0) fun y => k (.c (.str y)) []
abbrev Sp40 (c : List UInt8 → Option ((List UInt8))) : Prop := ∀ (p0 : List UInt8) (y : (List UInt8)), c p0 = some y → Spec Try.prog gl0 40 [.c (.str p0), .fn 41 []] [] (.c (.str y)) []
theorem ek40 {R : Type} {c : List UInt8 → Option ((List UInt8))} (hs : Sp40 c) : EOk 40 (e40 (R := R) c) := fun args objs k r h => by
  unfold e40 at h
  obtain ⟨a0, l0, rfl, q1⟩ := oCons_some h
  obtain ⟨x0, rfl, q2⟩ := oC_some q1
  obtain ⟨p0, rfl, q3⟩ := cStr_some q2
  obtain ⟨a1, l1, rfl, q4⟩ := oCons_some q3
  obtain ⟨rfl, q5⟩ := oFn_some q4
  obtain ⟨rfl, q6⟩ := oNil_some q5
  obtain ⟨rfl, q7⟩ := oNilO_some q6
  exact eok_of (hs p0) q7
theorem sf40 {c41 : Int → Option (Bool)} (h41 : Sp41 c41) : Sp40 (F40 c41) := fun p0 y hy => by
  refine spec_of (G := ent 41 (e41 c41) (gnil)) (ent_ok (ek41 h41) (gnil_ok)) 1000000 (fn := Try.f40) (by kernel_rfl) (by kernel_rfl) (X := X40) (by kernel_rfl) ?_
  rw [fo40, hy]
  rfl
noncomputable def M40 : List UInt8 → Option ((List UInt8)) := F40 M41
theorem sm40 : Sp40 M40 := sf40 sm41

/-! ### 14: lariat/lex.IsWord -/
def X14 : Aux := ⟨[], []⟩
def T14 {R : Type} (B : Ops) (c39 : Int → Option (Bool)) (c40 : List UInt8 → Option ((List UInt8))) (c41 : Int → Option (Bool)) (p0 : List UInt8) (k : (Bool) → Option R) : Option R :=
  cond (!p0 == [])
   (
    cond (Ops.le B (Nat.cast (List.length p0)) (8))
     (
      cond (Ops.inb B (0) (List.length p0))
       (
        ob (c39 (Nat.cast (UInt8.toNat (List.getD p0 (Int.toNat (0)) (0))))) fun y0 =>
        cond (y0)
         (
          ob (c40 p0) fun y1 =>
          k (y1 == p0))
         (
          k false))
       (
        none))
     (
      k false))
   (
    k false)
theorem eq14 {R : Type} (B : Ops) (c39 : Int → Option (Bool)) (c40 : List UInt8 → Option ((List UInt8))) (c41 : Int → Option (Bool)) (p0 : List UInt8) (k : AV → Objs → Option R) (n : Nat) : afun tau B gl0 X14 (ent 39 (e39 c39) (ent 40 (e40 c40) (ent 41 (e41 c41) (gnil)))) ow Try.f14 [.c (.str p0)] [] k n = T14 B c39 c40 c41 p0 (fun y => k (.c (.bool y)) []) := by kernel_rfl
theorem nt14 {R R' : Type} (B : Ops) (c39 : Int → Option (Bool)) (c40 : List UInt8 → Option ((List UInt8))) (c41 : Int → Option (Bool)) (p0 : List UInt8) (k0 : (Bool) → Option R') (k : R' → Option R) : T14 B c39 c40 c41 p0 (fun y => ob (k0 y) k) = ob (T14 B c39 c40 c41 p0 k0) k := by
  unfold T14
  repeat' first | exact rfl | apply nat_cond | (apply nat_ob; intro)
def F14 (c39 : Int → Option (Bool)) (c40 : List UInt8 → Option ((List UInt8))) (c41 : Int → Option (Bool)) (p0 : List UInt8) : Option (Bool) := T14 Ops.std c39 c40 c41 p0 some
theorem fo14 {R : Type} (c39 : Int → Option (Bool)) (c40 : List UInt8 → Option ((List UInt8))) (c41 : Int → Option (Bool)) (p0 : List UInt8) (k : AV → Objs → Option R) (n : Nat) : afun tau Ops.std gl0 X14 (ent 39 (e39 c39) (ent 40 (e40 c40) (ent 41 (e41 c41) (gnil)))) ow Try.f14 [.c (.str p0)] [] k n = ob (F14 c39 c40 c41 p0) (fun y => k (.c (.bool y)) []) := by rw [eq14]; exact nt14 Ops.std c39 c40 c41 p0 some (fun y => k (.c (.bool y)) [])
def e14 {R : Type} (c : List UInt8 → Option (Bool)) : Ent R := fun args objs k =>
  oCons args fun a0 l0 => oC a0 fun x0 => cStr x0 fun p0 => oNil l0 <| oNilO objs <| ob (c p0) fun y => k (.c (.bool y)) []
abbrev Sp14 (c : List UInt8 → Option (Bool)) : Prop := ∀ (p0 : List UInt8) (y : Bool), c p0 = some y → Spec Try.prog gl0 14 [.c (.str p0)] [] (.c (.bool y)) []
theorem ek14 {R : Type} {c : List UInt8 → Option (Bool)} (hs : Sp14 c) : EOk 14 (e14 (R := R) c) := fun args objs k r h => by
  unfold e14 at h
  obtain ⟨a0, l0, rfl, q1⟩ := oCons_some h
  obtain ⟨x0, rfl, q2⟩ := oC_some q1
  obtain ⟨p0, rfl, q3⟩ := cStr_some q2
  obtain ⟨rfl, q4⟩ := oNil_some q3
  obtain ⟨rfl, q5⟩ := oNilO_some q4
  exact eok_of (hs p0) q5
theorem sf14 {c39 : Int → Option (Bool)} {c40 : List UInt8 → Option ((List UInt8))} {c41 : Int → Option (Bool)} (h39 : Sp39 c39) (h40 : Sp40 c40) (h41 : Sp41 c41) : Sp14 (F14 c39 c40 c41) := fun p0 y hy => by
  refine spec_of (G := ent 39 (e39 c39) (ent 40 (e40 c40) (ent 41 (e41 c41) (gnil)))) (ent_ok (ek39 h39) (ent_ok (ek40 h40) (ent_ok (ek41 h41) (gnil_ok)))) 1000000 (fn := Try.f14) (by kernel_rfl) (by kernel_rfl) (X := X14) (by kernel_rfl) ?_
  rw [fo14, hy]
  rfl
noncomputable def M14 : List UInt8 → Option (Bool) := F14 M39 M40 M41
theorem sm14 : Sp14 M14 := sf14 sm39 sm40 sm41

/-! ### 16: lariat/fair.Count -/
def X16 : Aux := ⟨[], []⟩
def T16 {R : Type} (B : Ops) (p0 : Int) (p1 : List ty4.den) (k : (Int × Bool) → Option R) : Option R :=
  cond (Ops.eq B (Nat.cast (List.length p1)) (0))
   (
    k ((0, true)))
   (
    cond (Ops.lt B p0 (0))
     (
      k ((0, false)))
     (
      cond (Ops.le B (Nat.cast (List.length p1)) p0)
       (
        k ((0, false)))
       (
        cond (Ops.inb B p0 (List.length p1))
         (
          cond (!List.getD p1 (Int.toNat p0) (Ty.dflt ty4))
           (
            k ((p0, false)))
           (
            cond (Ops.lt B (IntKind.wrap IntKind.i64 (p0 + 1)) (Nat.cast (List.length p1)))
             (
              k ((IntKind.wrap IntKind.i64 (p0 + 1), false)))
             (
              k ((0, true)))))
         (
          none))))
theorem eq16 {R : Type} (B : Ops) (p0 : Int) (p1 : List ty4.den) (k : AV → Objs → Option R) (n : Nat) : afun tau B gl0 X16 (gnil) ow Try.f16 [.c (.int .i64 p0), .c (.list 4 ty4 p1)] [] k n = T16 B p0 p1 (fun y => k (.tup [(false, [.int .i64 y.1]), (false, [.bool y.2])]) []) := by kernel_rfl
theorem nt16 {R R' : Type} (B : Ops) (p0 : Int) (p1 : List ty4.den) (k0 : (Int × Bool) → Option R') (k : R' → Option R) : T16 B p0 p1 (fun y => ob (k0 y) k) = ob (T16 B p0 p1 k0) k := by
  unfold T16
  repeat' first | exact rfl | apply nat_cond | (apply nat_ob; intro)
def F16 (p0 : Int) (p1 : List ty4.den) : Option (Int × Bool) := T16 Ops.std p0 p1 some
theorem fo16 {R : Type} (p0 : Int) (p1 : List ty4.den) (k : AV → Objs → Option R) (n : Nat) : afun tau Ops.std gl0 X16 (gnil) ow Try.f16 [.c (.int .i64 p0), .c (.list 4 ty4 p1)] [] k n = ob (F16 p0 p1) (fun y => k (.tup [(false, [.int .i64 y.1]), (false, [.bool y.2])]) []) := by rw [eq16]; exact nt16 Ops.std p0 p1 some (fun y => k (.tup [(false, [.int .i64 y.1]), (false, [.bool y.2])]) [])
def e16 {R : Type} (c : Int → List ty4.den → Option (Int × Bool)) : Ent R := fun args objs k =>
  oCons args fun a0 l0 => oC a0 fun x0 => cInt .i64 x0 fun p0 => oCons l0 fun a1 l1 => oC a1 fun x1 => cList 4 ty4 x1 fun p1 => oNil l1 <| oNilO objs <| ob (c p0 p1) fun y => k (.tup [(false, [.int .i64 y.1]), (false, [.bool y.2])]) []
abbrev Sp16 (c : Int → List ty4.den → Option (Int × Bool)) : Prop := ∀ (p0 : Int) (p1 : List ty4.den) (y : Int × Bool), c p0 p1 = some y → Spec Try.prog gl0 16 [.c (.int .i64 p0), .c (.list 4 ty4 p1)] [] (.tup [(false, [.int .i64 y.1]), (false, [.bool y.2])]) []
theorem ek16 {R : Type} {c : Int → List ty4.den → Option (Int × Bool)} (hs : Sp16 c) : EOk 16 (e16 (R := R) c) := fun args objs k r h => by
  unfold e16 at h
  obtain ⟨a0, l0, rfl, q1⟩ := oCons_some h
  obtain ⟨x0, rfl, q2⟩ := oC_some q1
  obtain ⟨p0, rfl, q3⟩ := cInt_some q2
  obtain ⟨a1, l1, rfl, q4⟩ := oCons_some q3
  obtain ⟨x1, rfl, q5⟩ := oC_some q4
  obtain ⟨p1, rfl, q6⟩ := cList_some q5
  obtain ⟨rfl, q7⟩ := oNil_some q6
  obtain ⟨rfl, q8⟩ := oNilO_some q7
  exact eok_of (hs p0 p1) q8
theorem sf16 : Sp16 (F16) := fun p0 p1 y hy => by
  refine spec_of (G := gnil) (gnil_ok) 1000000 (fn := Try.f16) (by kernel_rfl) (by kernel_rfl) (X := X16) (by kernel_rfl) ?_
  rw [fo16, hy]
  rfl
noncomputable def M16 : Int → List ty4.den → Option (Int × Bool) := F16
theorem sm16 : Sp16 M16 := sf16

/-! ### 76: lariat/lariatref7.digit -/
def X76 : Aux := ⟨[], []⟩
def T76 {R : Type} (B : Ops) (p0 : Int) (k : (Bool) → Option R) : Option R :=
  cond (Ops.le B (48) p0)
   (
    k (Ops.le B p0 (57)))
   (
    k false)
theorem eq76 {R : Type} (B : Ops) (p0 : Int) (k : AV → Objs → Option R) (n : Nat) : afun tau B gl0 X76 (gnil) ow Try.f76 [.c (.int .u8 p0)] [] k n = T76 B p0 (fun y => k (.c (.bool y)) []) := by kernel_rfl
theorem nt76 {R R' : Type} (B : Ops) (p0 : Int) (k0 : (Bool) → Option R') (k : R' → Option R) : T76 B p0 (fun y => ob (k0 y) k) = ob (T76 B p0 k0) k := by
  unfold T76
  repeat' first | exact rfl | apply nat_cond | (apply nat_ob; intro)
def F76 (p0 : Int) : Option (Bool) := T76 Ops.std p0 some
theorem fo76 {R : Type} (p0 : Int) (k : AV → Objs → Option R) (n : Nat) : afun tau Ops.std gl0 X76 (gnil) ow Try.f76 [.c (.int .u8 p0)] [] k n = ob (F76 p0) (fun y => k (.c (.bool y)) []) := by rw [eq76]; exact nt76 Ops.std p0 some (fun y => k (.c (.bool y)) [])
def e76 {R : Type} (c : Int → Option (Bool)) : Ent R := fun args objs k =>
  oCons args fun a0 l0 => oC a0 fun x0 => cInt .u8 x0 fun p0 => oNil l0 <| oNilO objs <| ob (c p0) fun y => k (.c (.bool y)) []
abbrev Sp76 (c : Int → Option (Bool)) : Prop := ∀ (p0 : Int) (y : Bool), c p0 = some y → Spec Try.prog gl0 76 [.c (.int .u8 p0)] [] (.c (.bool y)) []
theorem ek76 {R : Type} {c : Int → Option (Bool)} (hs : Sp76 c) : EOk 76 (e76 (R := R) c) := fun args objs k r h => by
  unfold e76 at h
  obtain ⟨a0, l0, rfl, q1⟩ := oCons_some h
  obtain ⟨x0, rfl, q2⟩ := oC_some q1
  obtain ⟨p0, rfl, q3⟩ := cInt_some q2
  obtain ⟨rfl, q4⟩ := oNil_some q3
  obtain ⟨rfl, q5⟩ := oNilO_some q4
  exact eok_of (hs p0) q5
theorem sf76 : Sp76 (F76) := fun p0 y hy => by
  refine spec_of (G := gnil) (gnil_ok) 1000000 (fn := Try.f76) (by kernel_rfl) (by kernel_rfl) (X := X76) (by kernel_rfl) ?_
  rw [fo76, hy]
  rfl
noncomputable def M76 : Int → Option (Bool) := F76
theorem sm76 : Sp76 M76 := sf76

/-! ### 77: lariat/lariatref7.lower -/
def X77 : Aux := ⟨[], []⟩
def T77 {R : Type} (B : Ops) (p0 : Int) (k : (Bool) → Option R) : Option R :=
  cond (Ops.le B (97) p0)
   (
    cond (Ops.le B p0 (122))
     (
      k true)
     (
      k (Ops.eq B p0 (95))))
   (
    k (Ops.eq B p0 (95)))
theorem eq77 {R : Type} (B : Ops) (p0 : Int) (k : AV → Objs → Option R) (n : Nat) : afun tau B gl0 X77 (gnil) ow Try.f77 [.c (.int .u8 p0)] [] k n = T77 B p0 (fun y => k (.c (.bool y)) []) := by kernel_rfl
theorem nt77 {R R' : Type} (B : Ops) (p0 : Int) (k0 : (Bool) → Option R') (k : R' → Option R) : T77 B p0 (fun y => ob (k0 y) k) = ob (T77 B p0 k0) k := by
  unfold T77
  repeat' first | exact rfl | apply nat_cond | (apply nat_ob; intro)
def F77 (p0 : Int) : Option (Bool) := T77 Ops.std p0 some
theorem fo77 {R : Type} (p0 : Int) (k : AV → Objs → Option R) (n : Nat) : afun tau Ops.std gl0 X77 (gnil) ow Try.f77 [.c (.int .u8 p0)] [] k n = ob (F77 p0) (fun y => k (.c (.bool y)) []) := by rw [eq77]; exact nt77 Ops.std p0 some (fun y => k (.c (.bool y)) [])
def e77 {R : Type} (c : Int → Option (Bool)) : Ent R := fun args objs k =>
  oCons args fun a0 l0 => oC a0 fun x0 => cInt .u8 x0 fun p0 => oNil l0 <| oNilO objs <| ob (c p0) fun y => k (.c (.bool y)) []
abbrev Sp77 (c : Int → Option (Bool)) : Prop := ∀ (p0 : Int) (y : Bool), c p0 = some y → Spec Try.prog gl0 77 [.c (.int .u8 p0)] [] (.c (.bool y)) []
theorem ek77 {R : Type} {c : Int → Option (Bool)} (hs : Sp77 c) : EOk 77 (e77 (R := R) c) := fun args objs k r h => by
  unfold e77 at h
  obtain ⟨a0, l0, rfl, q1⟩ := oCons_some h
  obtain ⟨x0, rfl, q2⟩ := oC_some q1
  obtain ⟨p0, rfl, q3⟩ := cInt_some q2
  obtain ⟨rfl, q4⟩ := oNil_some q3
  obtain ⟨rfl, q5⟩ := oNilO_some q4
  exact eok_of (hs p0) q5
theorem sf77 : Sp77 (F77) := fun p0 y hy => by
  refine spec_of (G := gnil) (gnil_ok) 1000000 (fn := Try.f77) (by kernel_rfl) (by kernel_rfl) (X := X77) (by kernel_rfl) ?_
  rw [fo77, hy]
  rfl
noncomputable def M77 : Int → Option (Bool) := F77
theorem sm77 : Sp77 M77 := sf77

/-! ### 78: lariat/lariatref7.sign -/
def X78 : Aux := ⟨[(3, [1, 2, 7, 8, 9, 10, 11, 12, 13, 14, 15, 16, 17, 18, 19, 20, 21, 22, 23, 24, 25]), (9, [1, 2, 3, 4, 7, 8, 9, 10, 11, 12, 13, 14, 15, 16, 17, 18, 19, 20, 21, 22, 23, 24, 25, 26, 27, 28, 29, 30, 31, 32, 33, 34, 35, 36, 37, 38, 39, 40, 41])], [(5, .lin [0, 1, 2, 3, 4, 5, 6, 7, 8, 9, 10]), (11, .lin [0, 1, 2, 3, 4, 5, 6, 7])]⟩
inductive S78 where
  | l0 (v0_1 : Int)
  | l1 (v1_2 : Int)
def T78 {R : Type} (B : Ops) (p0 : List UInt8) (again : S78 → Option R) (k : ((List UInt8)) → Option R) : Option S78 → Option R
  | none =>
    again (.l0 0)
  | some (.l0 v0_1) =>
    cond (Ops.lt B v0_1 (7))
     (
      cond (Ops.lt B (1) (Nat.cast (List.length p0)))
       (
        cond (Ops.inb B (2) (List.length p0 + 1))
         (
          cond (Ops.inb B v0_1 (9))
           (
            cond (List.drop (0) (List.take (Int.toNat (2)) p0) == List.getD [[60, 61], [62, 61], [61, 61], [33, 61], [38, 38], [124, 124], [45, 62], [], []] (Int.toNat v0_1) [])
             (
              cond (Ops.inb B v0_1 (9))
               (
                k (List.getD [[60, 61], [62, 61], [61, 61], [33, 61], [38, 38], [124, 124], [45, 62], [], []] (Int.toNat v0_1) []))
               (
                none))
             (
              again (.l0 (IntKind.wrap IntKind.i64 (v0_1 + 1)))))
           (
            none))
         (
          none))
       (
        again (.l0 (IntKind.wrap IntKind.i64 (v0_1 + 1)))))
     (
      again (.l1 0))
  | some (.l1 v1_2) =>
    cond (Ops.lt B v1_2 (Nat.cast (List.length [40, 41, 91, 93, 43, 45, 42, 60, 62, 33, 64, 59, 61])))
     (
      cond (Ops.inb B (1) (List.length p0 + 1))
       (
        cond (Ops.inb B (IntKind.wrap IntKind.i64 (v1_2 + 1)) (List.length [40, 41, 91, 93, 43, 45, 42, 60, 62, 33, 64, 59, 61] + 1))
         (
          cond (bif Ops.le B (0) v1_2 then Ops.le B v1_2 (IntKind.wrap IntKind.i64 (v1_2 + 1)) else false)
           (
            cond (List.drop (0) (List.take (Int.toNat (1)) p0) == List.drop (Int.toNat v1_2) (List.take (Int.toNat (IntKind.wrap IntKind.i64 (v1_2 + 1))) [40, 41, 91, 93, 43, 45, 42, 60, 62, 33, 64, 59, 61]))
             (
              cond (Ops.inb B (1) (List.length p0 + 1))
               (
                k (List.drop (0) (List.take (Int.toNat (1)) p0)))
               (
                none))
             (
              again (.l1 (IntKind.wrap IntKind.i64 (v1_2 + 1)))))
           (
            none))
         (
          none))
       (
        none))
     (
      k [])
def E78 (p0 : List UInt8) : S78 → List AV × Objs
  | .l0 v0_1 => (mk 42 [(0, .c (.str p0)), (3, .c (.ptr 3 0)), (4, .c (.int .i64 v0_1))], [(3, .box 111 [.str [60, 61], .str [62, 61], .str [61, 61], .str [33, 61], .str [38, 38], .str [124, 124], .str [45, 62], .str [], .str []])])
  | .l1 v1_2 => (mk 42 [(0, .c (.str p0)), (5, .c (.str [40, 41, 91, 93, 43, 45, 42, 60, 62, 33, 64, 59, 61])), (6, .c (.int .i64 v1_2))], [])
def I78 : S78 → Nat
  | .l0 _ => 0
  | .l1 _ => 1
theorem eq78 {R : Type} (B : Ops) (p0 : List UInt8) (k : AV → Objs → Option R) (n : Nat) : afun tau B gl0 X78 (gnil) ow Try.f78 [.c (.str p0)] [] k n = T78 B p0 (fun s => aloop tau B gl0 X78 (gnil) ow [] Try.f78 k (I78 s) (E78 p0 s) n) (fun y => k (.c (.str y)) []) none := by kernel_rfl
theorem el78 {R : Type} (B : Ops) (p0 : List UInt8) (k : AV → Objs → Option R) (n : Nat) : ∀ s, aloop tau B gl0 X78 (gnil) ow [] Try.f78 k (I78 s) (E78 p0 s) (n + 1) = T78 B p0 (fun s => aloop tau B gl0 X78 (gnil) ow [] Try.f78 k (I78 s) (E78 p0 s) n) (fun y => k (.c (.str y)) []) (some s)
  | .l0 v0_1 => by kernel_rfl
  | .l1 v1_2 => by kernel_rfl
theorem nt78 {R R' : Type} (B : Ops) (p0 : List UInt8) (again : S78 → Option R) (again' : S78 → Option R') (k0 : ((List UInt8)) → Option R') (k : R' → Option R) (h : ∀ s, again s = ob (again' s) k) : ∀ s, T78 B p0 again (fun y => ob (k0 y) k) s = ob (T78 B p0 again' k0 s) k
  | none => by unfold T78; repeat' first | exact rfl | exact h _ | apply nat_cond | (apply nat_ob; intro)
  | some (.l0 v0_1) => by unfold T78; repeat' first | exact rfl | exact h _ | apply nat_cond | (apply nat_ob; intro)
  | some (.l1 v1_2) => by unfold T78; repeat' first | exact rfl | exact h _ | apply nat_cond | (apply nat_ob; intro)
def R78 (p0 : List UInt8) : Nat → S78 → Option ((List UInt8))
  | 0, _ => none
  | n + 1, s => T78 Ops.std p0 (R78 p0 n) some (some s)
theorem rr78 {R : Type} (p0 : List UInt8) (k : AV → Objs → Option R) : ∀ (n : Nat) (s : S78), aloop tau Ops.std gl0 X78 (gnil) ow [] Try.f78 k (I78 s) (E78 p0 s) n = ob (R78 p0 n s) (fun y => k (.c (.str y)) [])
  | 0, s => by cases s <;> rfl
  | n + 1, s => by rw [el78]; exact nt78 Ops.std p0 _ _ some (fun y => k (.c (.str y)) []) (rr78 p0 k n) (some s)
def F78 (p0 : List UInt8) : Option ((List UInt8)) := T78 Ops.std p0 (R78 p0 1000000) some none
theorem fo78 {R : Type} (p0 : List UInt8) (k : AV → Objs → Option R) : afun tau Ops.std gl0 X78 (gnil) ow Try.f78 [.c (.str p0)] [] k 1000000 = ob (F78 p0) (fun y => k (.c (.str y)) []) := by rw [eq78]; exact nt78 Ops.std p0 _ _ some (fun y => k (.c (.str y)) []) (rr78 p0 k 1000000) none
def e78 {R : Type} (c : List UInt8 → Option ((List UInt8))) : Ent R := fun args objs k =>
  oCons args fun a0 l0 => oC a0 fun x0 => cStr x0 fun p0 => oNil l0 <| oNilO objs <| ob (c p0) fun y => k (.c (.str y)) []
abbrev Sp78 (c : List UInt8 → Option ((List UInt8))) : Prop := ∀ (p0 : List UInt8) (y : (List UInt8)), c p0 = some y → Spec Try.prog gl0 78 [.c (.str p0)] [] (.c (.str y)) []
theorem ek78 {R : Type} {c : List UInt8 → Option ((List UInt8))} (hs : Sp78 c) : EOk 78 (e78 (R := R) c) := fun args objs k r h => by
  unfold e78 at h
  obtain ⟨a0, l0, rfl, q1⟩ := oCons_some h
  obtain ⟨x0, rfl, q2⟩ := oC_some q1
  obtain ⟨p0, rfl, q3⟩ := cStr_some q2
  obtain ⟨rfl, q4⟩ := oNil_some q3
  obtain ⟨rfl, q5⟩ := oNilO_some q4
  exact eok_of (hs p0) q5
theorem sf78 : Sp78 (F78) := fun p0 y hy => by
  refine spec_of (G := gnil) (gnil_ok) 1000000 (fn := Try.f78) (by kernel_rfl) (by kernel_rfl) (X := X78) (by kernel_rfl) ?_
  rw [fo78, hy]
  rfl
noncomputable def M78 : List UInt8 → Option ((List UInt8)) := F78
theorem sm78 : Sp78 M78 := sf78

/-! ### 61: lariat/lariatref7.Lex -/
def X61 : Aux := ⟨[(5, [1, 2, 3, 4, 7, 8, 9, 10, 11, 12, 13, 14, 15, 16, 17, 18, 19, 20, 21, 22, 23, 24, 25, 26, 27, 28, 29, 30, 31, 32, 33, 34, 35, 36, 37, 38, 39, 40, 41, 42, 43, 44, 45, 46, 47, 48, 49, 50, 51, 52, 53, 54, 55, 56, 57, 58, 59, 60, 61, 62, 63, 64, 65, 66, 67, 68, 69, 70, 71, 72, 73, 74, 75, 76, 77, 78, 79, 80, 81, 82, 83, 84, 85, 86, 87, 88, 89, 90, 91, 92, 93, 94, 95, 96, 97, 98, 99, 100, 101, 102, 103, 104, 105, 106, 107, 108, 109, 110, 111, 112, 113, 114, 115, 116, 117, 118, 119, 120, 121, 122, 123, 124, 125, 126, 127, 128, 129, 130, 131, 132, 133, 134, 135, 136, 137, 138, 139, 140, 141, 142, 143, 144, 145, 146, 147, 148, 149, 150]), (17, [1, 2, 3, 4, 9, 10, 11, 12, 13, 14, 15, 16, 17, 18, 19, 20, 21, 22, 23, 24, 25, 26, 27, 28, 29, 30, 31, 32, 33, 34, 35, 36, 37, 38, 39, 40, 41, 42, 43, 44, 45, 46, 47, 48, 49, 50, 51, 52, 53, 54, 55, 56, 57, 58, 59, 60, 61, 62, 63, 64, 65, 66, 67, 68, 69, 70, 71, 72, 73, 74, 75, 76, 77, 78, 79, 80, 81, 82, 83, 84, 85, 86, 87, 88, 89, 90, 91, 92, 93, 94, 95, 96, 97, 98, 99, 100, 101, 102, 103, 104, 105, 106, 107, 108, 109, 110, 111, 112, 113, 114, 115, 116, 117, 118, 119, 120, 121, 122, 123, 124, 125, 126, 127, 128, 129, 130, 131, 132, 133, 134, 135, 136, 137, 138, 139, 140, 141, 142, 143, 144, 145, 146, 147, 148, 149, 150]), (25, [1, 2, 3, 4, 9, 10, 11, 12, 13, 14, 15, 16, 17, 18, 19, 20, 21, 22, 23, 24, 25, 26, 27, 28, 29, 30, 31, 32, 33, 34, 35, 36, 37, 38, 39, 40, 41, 42, 43, 44, 45, 46, 47, 48, 49, 50, 51, 52, 53, 54, 55, 56, 57, 58, 59, 60, 61, 62, 63, 64, 65, 66, 67, 68, 69, 70, 71, 72, 73, 74, 75, 76, 77, 78, 79, 80, 81, 82, 83, 84, 85, 86, 87, 88, 89, 90, 91, 92, 93, 94, 95, 96, 97, 98, 99, 100, 101, 102, 103, 104, 105, 106, 107, 108, 109, 110, 111, 112, 113, 114, 115, 116, 117, 118, 119, 120, 121, 122, 123, 124, 125, 126, 127, 128, 129, 130, 131, 132, 133, 134, 135, 136, 137, 138, 139, 140, 141, 142, 143, 144, 145, 146, 147, 148, 149, 150]), (1000020, [1, 2, 3, 4, 9, 10, 11, 12, 13, 14, 15, 16, 17, 18, 19, 20, 21, 22, 23, 24, 25, 26, 27, 28, 29, 30, 31, 32, 33, 34, 35, 36, 37, 38, 39, 40, 41, 42, 43, 44, 45, 46, 47, 48, 49, 50, 51, 52, 53, 54, 55, 56, 57, 58, 59, 60, 61, 62, 63, 64, 65, 66, 67, 68, 69, 70, 71, 72, 73, 74, 75, 76, 77, 78, 79, 80, 81, 82, 83, 84, 85, 86, 87, 88, 89, 90, 91, 92, 93, 94, 95, 96, 97, 98, 99, 100, 101, 102, 103, 104, 105, 106, 107, 108, 109, 110, 111, 112, 113, 114, 115, 116, 117, 118, 119, 120, 121, 122, 123, 124, 125, 126, 127, 128, 129, 130, 131, 132, 133, 134, 135, 136, 137, 138, 139, 140, 141, 142, 143, 144, 145, 146, 147, 148, 149, 150]), (1000026, [1, 2, 3, 4, 9, 10, 11, 12, 13, 14, 15, 16, 17, 18, 19, 20, 21, 22, 23, 24, 25, 26, 27, 28, 29, 30, 31, 32, 33, 34, 35, 36, 37, 38, 39, 40, 41, 42, 43, 44, 45, 46, 47, 48, 49, 50, 51, 52, 53, 54, 55, 56, 57, 58, 59, 60, 61, 62, 63, 64, 65, 66, 67, 68, 69, 70, 71, 72, 73, 74, 75, 76, 77, 78, 79, 80, 81, 82, 83, 84, 85, 86, 87, 88, 89, 90, 91, 92, 93, 94, 95, 96, 97, 98, 99, 100, 101, 102, 103, 104, 105, 106, 107, 108, 109, 110, 111, 112, 113, 114, 115, 116, 117, 118, 119, 120, 121, 122, 123, 124, 125, 126, 127, 128, 129, 130, 131, 132, 133, 134, 135, 136, 137, 138, 139, 140, 141, 142, 143, 144, 145, 146, 147, 148, 149, 150]), (1000027, [1, 2, 3, 4, 9, 10, 11, 12, 13, 14, 15, 16, 17, 18, 19, 20, 21, 22, 23, 24, 25, 26, 27, 28, 29, 30, 31, 32, 33, 34, 35, 36, 37, 38, 39, 40, 41, 42, 43, 44, 45, 46, 47, 48, 49, 50, 51, 52, 53, 54, 55, 56, 57, 58, 59, 60, 61, 62, 63, 64, 65, 66, 67, 68, 69, 70, 71, 72, 73, 74, 75, 76, 77, 78, 79, 80, 81, 82, 83, 84, 85, 86, 87, 88, 89, 90, 91, 92, 93, 94, 95, 96, 97, 98, 99, 100, 101, 102, 103, 104, 105, 106, 107, 108, 109, 110, 111, 112, 113, 114, 115, 116, 117, 118, 119, 120, 121, 122, 123, 124, 125, 126, 127, 128, 129, 130, 131, 132, 133, 134, 135, 136, 137, 138, 139, 140, 141, 142, 143, 144, 145, 146, 147, 148, 149, 150]), (1000031, [1, 2, 3, 4, 7, 9, 10, 11, 12, 13, 14, 15, 16, 17, 18, 19, 20, 21, 22, 23, 24, 25, 26, 27, 28, 29, 30, 31, 32, 33, 34, 35, 36, 37, 38, 39, 40, 41, 42, 43, 44, 45, 46, 47, 48, 49, 50, 51, 52, 53, 54, 55, 56, 57, 58, 59, 60, 61, 62, 63, 64, 65, 66, 67, 68, 69, 70, 71, 72, 73, 74, 75, 76, 77, 78, 79, 80, 81, 82, 83, 84, 85, 86, 87, 88, 89, 90, 91, 92, 93, 94, 95, 96, 97, 98, 99, 100, 101, 102, 103, 104, 105, 106, 107, 108, 109, 110, 111, 112, 113, 114, 115, 116, 117, 118, 119, 120, 121, 122, 123, 124, 125, 126, 127, 128, 129, 130, 131, 132, 133, 134, 135, 136, 137, 138, 139, 140, 141, 142, 143, 144, 145, 146, 147, 148, 149, 150]), (1000010, [1, 2, 3, 4, 7, 9, 10, 11, 12, 13, 14, 15, 16, 17, 18, 19, 20, 21, 22, 23, 24, 25, 26, 27, 28, 29, 30, 31, 32, 33, 34, 35, 36, 37, 38, 39, 40, 41, 42, 43, 44, 45, 46, 47, 48, 49, 50, 51, 52, 53, 54, 55, 56, 57, 58, 59, 60, 61, 62, 63, 64, 65, 66, 67, 68, 69, 70, 71, 72, 73, 74, 75, 76, 77, 78, 79, 80, 81, 82, 83, 84, 85, 86, 87, 88, 89, 90, 91, 92, 93, 94, 95, 96, 97, 98, 99, 100, 101, 102, 103, 104, 105, 106, 107, 108, 109, 110, 111, 112, 113, 114, 115, 116, 117, 118, 119, 120, 121, 122, 123, 124, 125, 126, 127, 128, 129, 130, 131, 132, 133, 134, 135, 136, 137, 138, 139, 140, 141, 142, 143, 144, 145, 146, 147, 148, 149, 150]), (1000032, [1, 2, 3, 4, 9, 10, 11, 12, 13, 14, 15, 16, 17, 18, 19, 20, 21, 22, 23, 24, 25, 26, 27, 28, 29, 30, 31, 32, 33, 34, 35, 36, 37, 38, 39, 40, 41, 42, 43, 44, 45, 46, 47, 48, 49, 50, 51, 52, 53, 54, 55, 56, 57, 58, 59, 60, 61, 62, 63, 64, 65, 66, 67, 68, 69, 70, 71, 72, 73, 74, 75, 76, 77, 78, 79, 80, 81, 82, 83, 84, 85, 86, 87, 88, 89, 90, 91, 92, 93, 94, 95, 96, 97, 98, 99, 100, 101, 102, 103, 104, 105, 106, 107, 108, 109, 110, 111, 112, 113, 114, 115, 116, 117, 118, 119, 120, 121, 122, 123, 124, 125, 126, 127, 128, 129, 130, 131, 132, 133, 134, 135, 136, 137, 138, 139, 140, 141, 142, 143, 144, 145, 146, 147, 148, 149, 150])], [(19, .lin [0, 1, 2, 3, 4, 5, 6, 7, 8, 9, 10, 11, 12])]⟩
inductive S61 where
  | l0 (v0_1 : Int) (v0_2 : List ty33.den)
  | l1 (v1_1 : Int) (v1_2 : Int) (v1_3 : List ty33.den) (v1_6 : Int) (v1_7 : Int)
  | l2 (v2_1 : Int) (v2_2 : Int) (v2_3 : List ty33.den) (v2_7 : Int)
  | l1010 (v1010_1 : Int) (v1010_2 : List ty33.den) (v1010_6 : Int)
  | l1020 (v1020_1 : Int) (v1020_2 : Int) (v1020_3 : List ty33.den) (v1020_6 : Int) (v1020_7 : Int)
  | l1026 (v1026_1 : Int) (v1026_2 : Int) (v1026_3 : List ty33.den) (v1026_7 : Int)
  | l1027 (v1027_1 : Int) (v1027_2 : Int) (v1027_3 : List ty33.den) (v1027_7 : Int)
  | l1031 (v1031_1 : Int) (v1031_2 : List ty33.den) (v1031_6 : Int)
  | l1032 (v1032_1 : Int) (v1032_2 : Int) (v1032_3 : List ty33.den) (v1032_4 : Int) (v1032_6 : Int) (v1032_7 : Int)
def T61 {R : Type} (B : Ops) (c76 : Int → Option (Bool)) (c77 : Int → Option (Bool)) (c78 : List UInt8 → Option ((List UInt8))) (p0 : List UInt8) (again : S61 → Option R) (k : (Int × Int × (List ty33.den)) → Option R) : Option S61 → Option R
  | none =>
    cond (Ops.lt B (60000) (Nat.cast (List.length p0)))
     (
      k ((14, 0, mt (Ty.den (Ty.pair (Ty.int IntKind.i64) (Ty.pair Ty.str (Ty.pair (Ty.int IntKind.i64) (Ty.int IntKind.i64))))))))
     (
      again (.l0 0 (mt (Ty.den (Ty.pair (Ty.int IntKind.i64) (Ty.pair Ty.str (Ty.pair (Ty.int IntKind.i64) (Ty.int IntKind.i64))))))))
  | some (.l0 v0_1 v0_2) =>
    cond (Ops.lt B v0_1 (Nat.cast (List.length p0)))
     (
      cond (Ops.inb B v0_1 (List.length p0))
       (
        cond (Ops.eq B (Nat.cast (UInt8.toNat (List.getD p0 (Int.toNat v0_1) (0)))) (32))
         (
          again (.l0 (IntKind.wrap IntKind.i64 (v0_1 + 1)) v0_2))
         (
          cond (Ops.eq B (Nat.cast (UInt8.toNat (List.getD p0 (Int.toNat v0_1) (0)))) (9))
           (
            again (.l0 (IntKind.wrap IntKind.i64 (v0_1 + 1)) v0_2))
           (
            cond (Ops.eq B (Nat.cast (UInt8.toNat (List.getD p0 (Int.toNat v0_1) (0)))) (10))
             (
              again (.l0 (IntKind.wrap IntKind.i64 (v0_1 + 1)) v0_2))
             (
              ob (c76 (Nat.cast (UInt8.toNat (List.getD p0 (Int.toNat v0_1) (0))))) fun y0 =>
              cond (y0)
               (
                again (.l1 v0_1 0 v0_2 0 v0_1))
               (
                ob (c77 (Nat.cast (UInt8.toNat (List.getD p0 (Int.toNat v0_1) (0))))) fun y1 =>
                cond (y1)
                 (
                  again (.l2 v0_1 0 v0_2 v0_1))
                 (
                  cond (Ops.eq B (Nat.cast (UInt8.toNat (List.getD p0 (Int.toNat v0_1) (0)))) (88))
                   (
                    again (.l1031 v0_1 v0_2 v0_1))
                   (
                    cond (Ops.eq B (Nat.cast (UInt8.toNat (List.getD p0 (Int.toNat v0_1) (0)))) (70))
                     (
                      again (.l1031 v0_1 v0_2 v0_1))
                     (
                      cond (Ops.eq B (Nat.cast (UInt8.toNat (List.getD p0 (Int.toNat v0_1) (0)))) (71))
                       (
                        again (.l1031 v0_1 v0_2 v0_1))
                       (
                        cond (Ops.eq B (Nat.cast (UInt8.toNat (List.getD p0 (Int.toNat v0_1) (0)))) (85))
                         (
                          again (.l1031 v0_1 v0_2 v0_1))
                         (
                          cond (Ops.eq B (Nat.cast (UInt8.toNat (List.getD p0 (Int.toNat v0_1) (0)))) (82))
                           (
                            again (.l1031 v0_1 v0_2 v0_1))
                           (
                            again (.l1010 v0_1 v0_2 v0_1))))))))))))
       (
        none))
     (
      cond (Ops.lim B (List.length v0_2 + List.length ((5, mt UInt8, 0, v0_1) :: mt (Ty.den (Ty.pair (Ty.int IntKind.i64) (Ty.pair Ty.str (Ty.pair (Ty.int IntKind.i64) (Ty.int IntKind.i64))))))) (40))
       (
        k ((0, 0, v0_2 ++ (5, mt UInt8, 0, v0_1) :: mt (Ty.den (Ty.pair (Ty.int IntKind.i64) (Ty.pair Ty.str (Ty.pair (Ty.int IntKind.i64) (Ty.int IntKind.i64))))))))
       (
        none))
  | some (.l1 v1_1 v1_2 v1_3 v1_6 v1_7) =>
    cond (Ops.lt B (IntKind.wrap IntKind.i64 (v1_1 + v1_2)) (Nat.cast (List.length p0)))
     (
      cond (Ops.inb B (IntKind.wrap IntKind.i64 (v1_1 + v1_2)) (List.length p0))
       (
        ob (c76 (Nat.cast (UInt8.toNat (List.getD p0 (Int.toNat (IntKind.wrap IntKind.i64 (v1_1 + v1_2))) (0))))) fun y0 =>
        cond (y0)
         (
          cond (Ops.lt B v1_2 (3))
           (
            cond (Ops.inb B (IntKind.wrap IntKind.i64 (v1_1 + v1_2)) (List.length p0))
             (
              again (.l1020 v1_1 v1_2 v1_3 (IntKind.wrap IntKind.i64 (IntKind.wrap IntKind.i64 (10 * v1_6) + IntKind.wrap IntKind.i64 (IntKind.wrap IntKind.u8 (Nat.cast (UInt8.toNat (List.getD p0 (Int.toNat (IntKind.wrap IntKind.i64 (v1_1 + v1_2))) (0))) - 48)))) v1_7))
             (
              none))
           (
            again (.l1020 v1_1 v1_2 v1_3 v1_6 v1_7)))
         (
          cond (Ops.lt B (3) v1_2)
           (
            k ((2, v1_1, mt (Ty.den (Ty.pair (Ty.int IntKind.i64) (Ty.pair Ty.str (Ty.pair (Ty.int IntKind.i64) (Ty.int IntKind.i64))))))))
           (
            again (.l1032 v1_1 v1_2 v1_3 1 v1_6 v1_7))))
       (
        none))
     (
      cond (Ops.lt B (3) v1_2)
       (
        k ((2, v1_1, mt (Ty.den (Ty.pair (Ty.int IntKind.i64) (Ty.pair Ty.str (Ty.pair (Ty.int IntKind.i64) (Ty.int IntKind.i64))))))))
       (
        again (.l1032 v1_1 v1_2 v1_3 1 v1_6 v1_7)))
  | some (.l2 v2_1 v2_2 v2_3 v2_7) =>
    cond (Ops.lt B (IntKind.wrap IntKind.i64 (v2_1 + v2_2)) (Nat.cast (List.length p0)))
     (
      cond (Ops.inb B (IntKind.wrap IntKind.i64 (v2_1 + v2_2)) (List.length p0))
       (
        ob (c77 (Nat.cast (UInt8.toNat (List.getD p0 (Int.toNat (IntKind.wrap IntKind.i64 (v2_1 + v2_2))) (0))))) fun y0 =>
        cond (y0)
         (
          again (.l1026 v2_1 v2_2 v2_3 v2_7))
         (
          cond (Ops.inb B (IntKind.wrap IntKind.i64 (v2_1 + v2_2)) (List.length p0))
           (
            ob (c76 (Nat.cast (UInt8.toNat (List.getD p0 (Int.toNat (IntKind.wrap IntKind.i64 (v2_1 + v2_2))) (0))))) fun y1 =>
            cond (y1)
             (
              again (.l1026 v2_1 v2_2 v2_3 v2_7))
             (
              again (.l1027 v2_1 v2_2 v2_3 v2_7)))
           (
            none)))
       (
        none))
     (
      again (.l1027 v2_1 v2_2 v2_3 v2_7))
  | some (.l1010 v1010_1 v1010_2 v1010_6) =>
    cond (Ops.inb B v1010_1 (List.length p0 + 1))
     (
      ob (c78 (List.drop (Int.toNat v1010_1) (List.take (List.length p0) p0))) fun y0 =>
      cond (Ops.eq B (Nat.cast (List.length y0)) (0))
       (
        k ((2, v1010_1, mt (Ty.den (Ty.pair (Ty.int IntKind.i64) (Ty.pair Ty.str (Ty.pair (Ty.int IntKind.i64) (Ty.int IntKind.i64))))))))
       (
        again (.l1032 v1010_1 (Nat.cast (List.length y0)) v1010_2 4 0 v1010_6)))
     (
      none)
  | some (.l1020 v1020_1 v1020_2 v1020_3 v1020_6 v1020_7) =>
    again (.l1 v1020_1 (IntKind.wrap IntKind.i64 (v1020_2 + 1)) v1020_3 v1020_6 v1020_7)
  | some (.l1026 v1026_1 v1026_2 v1026_3 v1026_7) =>
    again (.l2 v1026_1 (IntKind.wrap IntKind.i64 (v1026_2 + 1)) v1026_3 v1026_7)
  | some (.l1027 v1027_1 v1027_2 v1027_3 v1027_7) =>
    cond (Ops.lt B (8) v1027_2)
     (
      k ((2, v1027_1, mt (Ty.den (Ty.pair (Ty.int IntKind.i64) (Ty.pair Ty.str (Ty.pair (Ty.int IntKind.i64) (Ty.int IntKind.i64))))))))
     (
      again (.l1032 v1027_1 v1027_2 v1027_3 2 0 v1027_7))
  | some (.l1031 v1031_1 v1031_2 v1031_6) =>
    again (.l1032 v1031_1 1 v1031_2 3 0 v1031_6)
  | some (.l1032 v1032_1 v1032_2 v1032_3 v1032_4 v1032_6 v1032_7) =>
    cond (Ops.inb B (IntKind.wrap IntKind.i64 (v1032_1 + v1032_2)) (List.length p0 + 1))
     (
      cond (bif Ops.le B (0) v1032_1 then Ops.le B v1032_1 (IntKind.wrap IntKind.i64 (v1032_1 + v1032_2)) else false)
       (
        cond (Ops.lim B (List.length v1032_3 + List.length ((v1032_4, List.drop (Int.toNat v1032_1) (List.take (Int.toNat (IntKind.wrap IntKind.i64 (v1032_1 + v1032_2))) p0), v1032_6, v1032_7) :: mt (Ty.den (Ty.pair (Ty.int IntKind.i64) (Ty.pair Ty.str (Ty.pair (Ty.int IntKind.i64) (Ty.int IntKind.i64))))))) (40))
         (
          again (.l0 (IntKind.wrap IntKind.i64 (v1032_1 + v1032_2)) (v1032_3 ++ (v1032_4, List.drop (Int.toNat v1032_1) (List.take (Int.toNat (IntKind.wrap IntKind.i64 (v1032_1 + v1032_2))) p0), v1032_6, v1032_7) :: mt (Ty.den (Ty.pair (Ty.int IntKind.i64) (Ty.pair Ty.str (Ty.pair (Ty.int IntKind.i64) (Ty.int IntKind.i64))))))))
         (
          none))
       (
        none))
     (
      none)
def E61 (p0 : List UInt8) : S61 → List AV × Objs
  | .l0 v0_1 v0_2 => (mk 151 [(0, .c (.str p0)), (5, .c (.own 5)), (6, .c (.int .i64 v0_1))], [(5, .row 33 ty33 v0_2)])
  | .l1 v1_1 v1_2 v1_3 v1_6 v1_7 => (mk 151 [(0, .c (.str p0)), (5, .c (.own 5)), (6, .c (.int .i64 v1_1)), (7, .c (.int .i64 v1_2)), (8, .c (.ptr 8 0))], [(5, .row 33 ty33 v1_3), (8, .box 33 [.int .i64 1, .str (mt UInt8), .int .i64 v1_6, .int .i64 v1_7])])
  | .l2 v2_1 v2_2 v2_3 v2_7 => (mk 151 [(0, .c (.str p0)), (5, .c (.own 5)), (6, .c (.int .i64 v2_1)), (7, .c (.int .i64 v2_2)), (8, .c (.ptr 8 0))], [(5, .row 33 ty33 v2_3), (8, .box 33 [.int .i64 2, .str (mt UInt8), .int .i64 0, .int .i64 v2_7])])
  | .l1010 v1010_1 v1010_2 v1010_6 => (mk 151 [(0, .c (.str p0)), (5, .c (.own 5)), (6, .c (.int .i64 v1010_1)), (8, .c (.ptr 8 0))], [(5, .row 33 ty33 v1010_2), (8, .box 33 [.int .i64 4, .str (mt UInt8), .int .i64 0, .int .i64 v1010_6])])
  | .l1020 v1020_1 v1020_2 v1020_3 v1020_6 v1020_7 => (mk 151 [(0, .c (.str p0)), (5, .c (.own 5)), (6, .c (.int .i64 v1020_1)), (7, .c (.int .i64 v1020_2)), (8, .c (.ptr 8 0))], [(5, .row 33 ty33 v1020_3), (8, .box 33 [.int .i64 1, .str (mt UInt8), .int .i64 v1020_6, .int .i64 v1020_7])])
  | .l1026 v1026_1 v1026_2 v1026_3 v1026_7 => (mk 151 [(0, .c (.str p0)), (5, .c (.own 5)), (6, .c (.int .i64 v1026_1)), (7, .c (.int .i64 v1026_2)), (8, .c (.ptr 8 0))], [(5, .row 33 ty33 v1026_3), (8, .box 33 [.int .i64 2, .str (mt UInt8), .int .i64 0, .int .i64 v1026_7])])
  | .l1027 v1027_1 v1027_2 v1027_3 v1027_7 => (mk 151 [(0, .c (.str p0)), (5, .c (.own 5)), (6, .c (.int .i64 v1027_1)), (7, .c (.int .i64 v1027_2)), (8, .c (.ptr 8 0))], [(5, .row 33 ty33 v1027_3), (8, .box 33 [.int .i64 2, .str (mt UInt8), .int .i64 0, .int .i64 v1027_7])])
  | .l1031 v1031_1 v1031_2 v1031_6 => (mk 151 [(0, .c (.str p0)), (5, .c (.own 5)), (6, .c (.int .i64 v1031_1)), (8, .c (.ptr 8 0))], [(5, .row 33 ty33 v1031_2), (8, .box 33 [.int .i64 3, .str (mt UInt8), .int .i64 0, .int .i64 v1031_6])])
  | .l1032 v1032_1 v1032_2 v1032_3 v1032_4 v1032_6 v1032_7 => (mk 151 [(0, .c (.str p0)), (5, .c (.own 5)), (6, .c (.int .i64 v1032_1)), (7, .c (.int .i64 v1032_2)), (8, .c (.ptr 8 0))], [(5, .row 33 ty33 v1032_3), (8, .box 33 [.int .i64 v1032_4, .str (mt UInt8), .int .i64 v1032_6, .int .i64 v1032_7])])
def I61 : S61 → Nat
  | .l0 _ _ => 0
  | .l1 _ _ _ _ _ => 1
  | .l2 _ _ _ _ => 2
  | .l1010 _ _ _ => 1010
  | .l1020 _ _ _ _ _ => 1020
  | .l1026 _ _ _ _ => 1026
  | .l1027 _ _ _ _ => 1027
  | .l1031 _ _ _ => 1031
  | .l1032 _ _ _ _ _ _ => 1032
theorem eq61 {R : Type} (B : Ops) (c76 : Int → Option (Bool)) (c77 : Int → Option (Bool)) (c78 : List UInt8 → Option ((List UInt8))) (p0 : List UInt8) (k : AV → Objs → Option R) (n : Nat) : afun tau B gl0 X61 (ent 76 (e76 c76) (ent 77 (e77 c77) (ent 78 (e78 c78) (gnil)))) ow Try.f61 [.c (.str p0)] [] k n = T61 B c76 c77 c78 p0 (fun s => aloop tau B gl0 X61 (ent 76 (e76 c76) (ent 77 (e77 c77) (ent 78 (e78 c78) (gnil)))) ow [] Try.f61 k (I61 s) (E61 p0 s) n) (fun y => k (.tup [(false, [.own 501000]), (false, [.int .i64 y.1]), (false, [.int .i64 y.2.1])]) [(501000, .row 33 ty33 y.2.2)]) none := by kernel_rfl
theorem el61 {R : Type} (B : Ops) (c76 : Int → Option (Bool)) (c77 : Int → Option (Bool)) (c78 : List UInt8 → Option ((List UInt8))) (p0 : List UInt8) (k : AV → Objs → Option R) (n : Nat) : ∀ s, aloop tau B gl0 X61 (ent 76 (e76 c76) (ent 77 (e77 c77) (ent 78 (e78 c78) (gnil)))) ow [] Try.f61 k (I61 s) (E61 p0 s) (n + 1) = T61 B c76 c77 c78 p0 (fun s => aloop tau B gl0 X61 (ent 76 (e76 c76) (ent 77 (e77 c77) (ent 78 (e78 c78) (gnil)))) ow [] Try.f61 k (I61 s) (E61 p0 s) n) (fun y => k (.tup [(false, [.own 501000]), (false, [.int .i64 y.1]), (false, [.int .i64 y.2.1])]) [(501000, .row 33 ty33 y.2.2)]) (some s)
  | .l0 v0_1 v0_2 => by kernel_rfl
  | .l1 v1_1 v1_2 v1_3 v1_6 v1_7 => by kernel_rfl
  | .l2 v2_1 v2_2 v2_3 v2_7 => by kernel_rfl
  | .l1010 v1010_1 v1010_2 v1010_6 => by kernel_rfl
  | .l1020 v1020_1 v1020_2 v1020_3 v1020_6 v1020_7 => by kernel_rfl
  | .l1026 v1026_1 v1026_2 v1026_3 v1026_7 => by kernel_rfl
  | .l1027 v1027_1 v1027_2 v1027_3 v1027_7 => by kernel_rfl
  | .l1031 v1031_1 v1031_2 v1031_6 => by kernel_rfl
  | .l1032 v1032_1 v1032_2 v1032_3 v1032_4 v1032_6 v1032_7 => by kernel_rfl
theorem nt61 {R R' : Type} (B : Ops) (c76 : Int → Option (Bool)) (c77 : Int → Option (Bool)) (c78 : List UInt8 → Option ((List UInt8))) (p0 : List UInt8) (again : S61 → Option R) (again' : S61 → Option R') (k0 : (Int × Int × (List ty33.den)) → Option R') (k : R' → Option R) (h : ∀ s, again s = ob (again' s) k) : ∀ s, T61 B c76 c77 c78 p0 again (fun y => ob (k0 y) k) s = ob (T61 B c76 c77 c78 p0 again' k0 s) k
  | none => by unfold T61; repeat' first | exact rfl | exact h _ | apply nat_cond | (apply nat_ob; intro)
  | some (.l0 v0_1 v0_2) => by unfold T61; repeat' first | exact rfl | exact h _ | apply nat_cond | (apply nat_ob; intro)
  | some (.l1 v1_1 v1_2 v1_3 v1_6 v1_7) => by unfold T61; repeat' first | exact rfl | exact h _ | apply nat_cond | (apply nat_ob; intro)
  | some (.l2 v2_1 v2_2 v2_3 v2_7) => by unfold T61; repeat' first | exact rfl | exact h _ | apply nat_cond | (apply nat_ob; intro)
  | some (.l1010 v1010_1 v1010_2 v1010_6) => by unfold T61; repeat' first | exact rfl | exact h _ | apply nat_cond | (apply nat_ob; intro)
  | some (.l1020 v1020_1 v1020_2 v1020_3 v1020_6 v1020_7) => by unfold T61; repeat' first | exact rfl | exact h _ | apply nat_cond | (apply nat_ob; intro)
  | some (.l1026 v1026_1 v1026_2 v1026_3 v1026_7) => by unfold T61; repeat' first | exact rfl | exact h _ | apply nat_cond | (apply nat_ob; intro)
  | some (.l1027 v1027_1 v1027_2 v1027_3 v1027_7) => by unfold T61; repeat' first | exact rfl | exact h _ | apply nat_cond | (apply nat_ob; intro)
  | some (.l1031 v1031_1 v1031_2 v1031_6) => by unfold T61; repeat' first | exact rfl | exact h _ | apply nat_cond | (apply nat_ob; intro)
  | some (.l1032 v1032_1 v1032_2 v1032_3 v1032_4 v1032_6 v1032_7) => by unfold T61; repeat' first | exact rfl | exact h _ | apply nat_cond | (apply nat_ob; intro)
def R61 (c76 : Int → Option (Bool)) (c77 : Int → Option (Bool)) (c78 : List UInt8 → Option ((List UInt8))) (p0 : List UInt8) : Nat → S61 → Option (Int × Int × (List ty33.den))
  | 0, _ => none
  | n + 1, s => T61 Ops.std c76 c77 c78 p0 (R61 c76 c77 c78 p0 n) some (some s)
theorem rr61 {R : Type} (c76 : Int → Option (Bool)) (c77 : Int → Option (Bool)) (c78 : List UInt8 → Option ((List UInt8))) (p0 : List UInt8) (k : AV → Objs → Option R) : ∀ (n : Nat) (s : S61), aloop tau Ops.std gl0 X61 (ent 76 (e76 c76) (ent 77 (e77 c77) (ent 78 (e78 c78) (gnil)))) ow [] Try.f61 k (I61 s) (E61 p0 s) n = ob (R61 c76 c77 c78 p0 n s) (fun y => k (.tup [(false, [.own 501000]), (false, [.int .i64 y.1]), (false, [.int .i64 y.2.1])]) [(501000, .row 33 ty33 y.2.2)])
  | 0, s => by cases s <;> rfl
  | n + 1, s => by rw [el61]; exact nt61 Ops.std c76 c77 c78 p0 _ _ some (fun y => k (.tup [(false, [.own 501000]), (false, [.int .i64 y.1]), (false, [.int .i64 y.2.1])]) [(501000, .row 33 ty33 y.2.2)]) (rr61 c76 c77 c78 p0 k n) (some s)
def F61 (c76 : Int → Option (Bool)) (c77 : Int → Option (Bool)) (c78 : List UInt8 → Option ((List UInt8))) (p0 : List UInt8) : Option (Int × Int × (List ty33.den)) := T61 Ops.std c76 c77 c78 p0 (R61 c76 c77 c78 p0 1000000) some none
theorem fo61 {R : Type} (c76 : Int → Option (Bool)) (c77 : Int → Option (Bool)) (c78 : List UInt8 → Option ((List UInt8))) (p0 : List UInt8) (k : AV → Objs → Option R) : afun tau Ops.std gl0 X61 (ent 76 (e76 c76) (ent 77 (e77 c77) (ent 78 (e78 c78) (gnil)))) ow Try.f61 [.c (.str p0)] [] k 1000000 = ob (F61 c76 c77 c78 p0) (fun y => k (.tup [(false, [.own 501000]), (false, [.int .i64 y.1]), (false, [.int .i64 y.2.1])]) [(501000, .row 33 ty33 y.2.2)]) := by rw [eq61]; exact nt61 Ops.std c76 c77 c78 p0 _ _ some (fun y => k (.tup [(false, [.own 501000]), (false, [.int .i64 y.1]), (false, [.int .i64 y.2.1])]) [(501000, .row 33 ty33 y.2.2)]) (rr61 c76 c77 c78 p0 k 1000000) none
def e61 {R : Type} (c : List UInt8 → Option (Int × Int × (List ty33.den))) : Ent R := fun args objs k =>
  oCons args fun a0 l0 => oC a0 fun x0 => cStr x0 fun p0 => oNil l0 <| oNilO objs <| ob (c p0) fun y => k (.tup [(false, [.own 501000]), (false, [.int .i64 y.1]), (false, [.int .i64 y.2.1])]) [(501000, .row 33 ty33 y.2.2)]
abbrev Sp61 (c : List UInt8 → Option (Int × Int × (List ty33.den))) : Prop := ∀ (p0 : List UInt8) (y : Int × Int × (List ty33.den)), c p0 = some y → Spec Try.prog gl0 61 [.c (.str p0)] [] (.tup [(false, [.own 501000]), (false, [.int .i64 y.1]), (false, [.int .i64 y.2.1])]) [(501000, .row 33 ty33 y.2.2)]
theorem ek61 {R : Type} {c : List UInt8 → Option (Int × Int × (List ty33.den))} (hs : Sp61 c) : EOk 61 (e61 (R := R) c) := fun args objs k r h => by
  unfold e61 at h
  obtain ⟨a0, l0, rfl, q1⟩ := oCons_some h
  obtain ⟨x0, rfl, q2⟩ := oC_some q1
  obtain ⟨p0, rfl, q3⟩ := cStr_some q2
  obtain ⟨rfl, q4⟩ := oNil_some q3
  obtain ⟨rfl, q5⟩ := oNilO_some q4
  exact eok_of (hs p0) q5
theorem sf61 {c76 : Int → Option (Bool)} {c77 : Int → Option (Bool)} {c78 : List UInt8 → Option ((List UInt8))} (h76 : Sp76 c76) (h77 : Sp77 c77) (h78 : Sp78 c78) : Sp61 (F61 c76 c77 c78) := fun p0 y hy => by
  refine spec_of (G := ent 76 (e76 c76) (ent 77 (e77 c77) (ent 78 (e78 c78) (gnil)))) (ent_ok (ek76 h76) (ent_ok (ek77 h77) (ent_ok (ek78 h78) (gnil_ok)))) 1000000 (fn := Try.f61) (by kernel_rfl) (by kernel_rfl) (X := X61) (by kernel_rfl) ?_
  rw [fo61, hy]
  rfl
noncomputable def M61 : List UInt8 → Option (Int × Int × (List ty33.den)) := F61 M76 M77 M78
theorem sm61 : Sp61 M61 := sf61 sm76 sm77 sm78

/-! ### 88: (*lariat/lariatref13.reader).sign -/
def X88 : Aux := ⟨[], [(1, .lin [0, 1, 2, 3, 4, 5, 6, 7, 8, 9, 10, 11, 12, 13, 14, 15, 16, 17, 18, 19, 20, 21, 22, 23, 24, 25, 26, 27])]⟩
def T88 {R : Type} (B : Ops) (p0 : List UInt8) (p1 : List ty33.den) (p2 : Int) (p3 : Int) (p4 : Int) (p5 : List ty66.den) (k : (Bool × (List ty33.den) × Int × Int × Int × (List ty66.den)) → Option R) : Option R :=
  cond (Ops.inb B p2 (List.length p1))
   (
    cond (Ops.eq B (Prod.fst (List.getD p1 (Int.toNat p2) (Ty.dflt ty33))) (4))
     (
      cond (Ops.inb B p2 (List.length p1))
       (
        k ((Prod.fst (Prod.snd (List.getD p1 (Int.toNat p2) (Ty.dflt ty33))) == p0, p1, p2, p3, p4, p5)))
       (
        none))
     (
      k ((false, p1, p2, p3, p4, p5))))
   (
    none)
theorem eq88 {R : Type} (B : Ops) (p0 : List UInt8) (p1 : List ty33.den) (p2 : Int) (p3 : Int) (p4 : Int) (p5 : List ty66.den) (k : AV → Objs → Option R) (n : Nat) : afun tau B gl0 X88 (gnil) ow Try.f88 [.c (.ptr 0 0), .c (.str p0)] [(0, .box 86 [.list 33 ty33 p1, .int .i64 p2, .own 1002, .int .i64 p3, .int .i64 p4]), (1002, .row 66 ty66 p5)] k n = T88 B p0 p1 p2 p3 p4 p5 (fun y => k (.c (.bool y.1)) [(0, .box 86 [.list 33 ty33 y.2.1, .int .i64 y.2.2.1, .own 1002, .int .i64 y.2.2.2.1, .int .i64 y.2.2.2.2.1]), (1002, .row 66 ty66 y.2.2.2.2.2)]) := by kernel_rfl
theorem nt88 {R R' : Type} (B : Ops) (p0 : List UInt8) (p1 : List ty33.den) (p2 : Int) (p3 : Int) (p4 : Int) (p5 : List ty66.den) (k0 : (Bool × (List ty33.den) × Int × Int × Int × (List ty66.den)) → Option R') (k : R' → Option R) : T88 B p0 p1 p2 p3 p4 p5 (fun y => ob (k0 y) k) = ob (T88 B p0 p1 p2 p3 p4 p5 k0) k := by
  unfold T88
  repeat' first | exact rfl | apply nat_cond | (apply nat_ob; intro)
def F88 (p0 : List UInt8) (p1 : List ty33.den) (p2 : Int) (p3 : Int) (p4 : Int) (p5 : List ty66.den) : Option (Bool × (List ty33.den) × Int × Int × Int × (List ty66.den)) := T88 Ops.std p0 p1 p2 p3 p4 p5 some
theorem fo88 {R : Type} (p0 : List UInt8) (p1 : List ty33.den) (p2 : Int) (p3 : Int) (p4 : Int) (p5 : List ty66.den) (k : AV → Objs → Option R) (n : Nat) : afun tau Ops.std gl0 X88 (gnil) ow Try.f88 [.c (.ptr 0 0), .c (.str p0)] [(0, .box 86 [.list 33 ty33 p1, .int .i64 p2, .own 1002, .int .i64 p3, .int .i64 p4]), (1002, .row 66 ty66 p5)] k n = ob (F88 p0 p1 p2 p3 p4 p5) (fun y => k (.c (.bool y.1)) [(0, .box 86 [.list 33 ty33 y.2.1, .int .i64 y.2.2.1, .own 1002, .int .i64 y.2.2.2.1, .int .i64 y.2.2.2.2.1]), (1002, .row 66 ty66 y.2.2.2.2.2)]) := by rw [eq88]; exact nt88 Ops.std p0 p1 p2 p3 p4 p5 some (fun y => k (.c (.bool y.1)) [(0, .box 86 [.list 33 ty33 y.2.1, .int .i64 y.2.2.1, .own 1002, .int .i64 y.2.2.2.1, .int .i64 y.2.2.2.2.1]), (1002, .row 66 ty66 y.2.2.2.2.2)])
def e88 {R : Type} (c : List UInt8 → List ty33.den → Int → Int → Int → List ty66.den → Option (Bool × (List ty33.den) × Int × Int × Int × (List ty66.den))) : Ent R := fun args objs k =>
  oCons args fun a0 l0 => oC a0 fun x0 => cPtr 0 x0 <| oCons l0 fun a1 l1 => oC a1 fun x1 => cStr x1 fun p0 => oNil l1 <| oBox 0 86 objs fun b0 o0 => cCons b0 fun u0_0 v0_0 => cList 33 ty33 u0_0 fun p1 => cCons v0_0 fun u0_1 v0_1 => cInt .i64 u0_1 fun p2 => cCons v0_1 fun u0_2 v0_2 => cOwn 1002 u0_2 <| cCons v0_2 fun u0_3 v0_3 => cInt .i64 u0_3 fun p3 => cCons v0_3 fun u0_4 v0_4 => cInt .i64 u0_4 fun p4 => cNil v0_4 <| oRow 1002 66 ty66 o0 fun p5 o1 => oNilO o1 <| ob (c p0 p1 p2 p3 p4 p5) fun y => k (.c (.bool y.1)) [(0, .box 86 [.list 33 ty33 y.2.1, .int .i64 y.2.2.1, .own 1002, .int .i64 y.2.2.2.1, .int .i64 y.2.2.2.2.1]), (1002, .row 66 ty66 y.2.2.2.2.2)]
abbrev Sp88 (c : List UInt8 → List ty33.den → Int → Int → Int → List ty66.den → Option (Bool × (List ty33.den) × Int × Int × Int × (List ty66.den))) : Prop := ∀ (p0 : List UInt8) (p1 : List ty33.den) (p2 : Int) (p3 : Int) (p4 : Int) (p5 : List ty66.den) (y : Bool × (List ty33.den) × Int × Int × Int × (List ty66.den)), c p0 p1 p2 p3 p4 p5 = some y → Spec Try.prog gl0 88 [.c (.ptr 0 0), .c (.str p0)] [(0, .box 86 [.list 33 ty33 p1, .int .i64 p2, .own 1002, .int .i64 p3, .int .i64 p4]), (1002, .row 66 ty66 p5)] (.c (.bool y.1)) [(0, .box 86 [.list 33 ty33 y.2.1, .int .i64 y.2.2.1, .own 1002, .int .i64 y.2.2.2.1, .int .i64 y.2.2.2.2.1]), (1002, .row 66 ty66 y.2.2.2.2.2)]
theorem ek88 {R : Type} {c : List UInt8 → List ty33.den → Int → Int → Int → List ty66.den → Option (Bool × (List ty33.den) × Int × Int × Int × (List ty66.den))} (hs : Sp88 c) : EOk 88 (e88 (R := R) c) := fun args objs k r h => by
  unfold e88 at h
  obtain ⟨a0, l0, rfl, q1⟩ := oCons_some h
  obtain ⟨x0, rfl, q2⟩ := oC_some q1
  obtain ⟨rfl, q3⟩ := cPtr_some q2
  obtain ⟨a1, l1, rfl, q4⟩ := oCons_some q3
  obtain ⟨x1, rfl, q5⟩ := oC_some q4
  obtain ⟨p0, rfl, q6⟩ := cStr_some q5
  obtain ⟨rfl, q7⟩ := oNil_some q6
  obtain ⟨b0, o0, rfl, q8⟩ := oBox_some q7
  obtain ⟨u0_0, v0_0, rfl, q9⟩ := cCons_some q8
  obtain ⟨p1, rfl, q10⟩ := cList_some q9
  obtain ⟨u0_1, v0_1, rfl, q11⟩ := cCons_some q10
  obtain ⟨p2, rfl, q12⟩ := cInt_some q11
  obtain ⟨u0_2, v0_2, rfl, q13⟩ := cCons_some q12
  obtain ⟨rfl, q14⟩ := cOwn_some q13
  obtain ⟨u0_3, v0_3, rfl, q15⟩ := cCons_some q14
  obtain ⟨p3, rfl, q16⟩ := cInt_some q15
  obtain ⟨u0_4, v0_4, rfl, q17⟩ := cCons_some q16
  obtain ⟨p4, rfl, q18⟩ := cInt_some q17
  obtain ⟨rfl, q19⟩ := cNil_some q18
  obtain ⟨p5, o1, rfl, q20⟩ := oRow_some q19
  obtain ⟨rfl, q21⟩ := oNilO_some q20
  exact eok_of (hs p0 p1 p2 p3 p4 p5) q21
theorem sf88 : Sp88 (F88) := fun p0 p1 p2 p3 p4 p5 y hy => by
  refine spec_of (G := gnil) (gnil_ok) 1000000 (fn := Try.f88) (by kernel_rfl) (by kernel_rfl) (X := X88) (by kernel_rfl) ?_
  rw [fo88, hy]
  rfl
noncomputable def M88 : List UInt8 → List ty33.den → Int → Int → Int → List ty66.den → Option (Bool × (List ty33.den) × Int × Int × Int × (List ty66.den)) := F88
theorem sm88 : Sp88 M88 := sf88

/-! ### 63: (*lariat/lariatref13.reader).fail -/
def X63 : Aux := ⟨[], []⟩
def T63 {R : Type} (B : Ops) (p0 : Int) (p1 : Int) (p2 : List ty33.den) (p3 : Int) (p4 : Int) (p5 : Int) (p6 : List ty66.den) (k : ((List ty33.den) × Int × Int × Int × (List ty66.den)) → Option R) : Option R :=
  cond (Ops.eq B p4 (0))
   (
    k ((p2, p3, p0, p1, p6)))
   (
    k ((p2, p3, p4, p5, p6)))
theorem eq63 {R : Type} (B : Ops) (p0 : Int) (p1 : Int) (p2 : List ty33.den) (p3 : Int) (p4 : Int) (p5 : Int) (p6 : List ty66.den) (k : AV → Objs → Option R) (n : Nat) : afun tau B gl0 X63 (gnil) ow Try.f63 [.c (.ptr 0 0), .c (.int .i64 p0), .c (.int .i64 p1)] [(0, .box 86 [.list 33 ty33 p2, .int .i64 p3, .own 1002, .int .i64 p4, .int .i64 p5]), (1002, .row 66 ty66 p6)] k n = T63 B p0 p1 p2 p3 p4 p5 p6 (fun y => k (.tup []) [(0, .box 86 [.list 33 ty33 y.1, .int .i64 y.2.1, .own 1002, .int .i64 y.2.2.1, .int .i64 y.2.2.2.1]), (1002, .row 66 ty66 y.2.2.2.2)]) := by kernel_rfl
theorem nt63 {R R' : Type} (B : Ops) (p0 : Int) (p1 : Int) (p2 : List ty33.den) (p3 : Int) (p4 : Int) (p5 : Int) (p6 : List ty66.den) (k0 : ((List ty33.den) × Int × Int × Int × (List ty66.den)) → Option R') (k : R' → Option R) : T63 B p0 p1 p2 p3 p4 p5 p6 (fun y => ob (k0 y) k) = ob (T63 B p0 p1 p2 p3 p4 p5 p6 k0) k := by
  unfold T63
  repeat' first | exact rfl | apply nat_cond | (apply nat_ob; intro)
def F63 (p0 : Int) (p1 : Int) (p2 : List ty33.den) (p3 : Int) (p4 : Int) (p5 : Int) (p6 : List ty66.den) : Option ((List ty33.den) × Int × Int × Int × (List ty66.den)) := T63 Ops.std p0 p1 p2 p3 p4 p5 p6 some
theorem fo63 {R : Type} (p0 : Int) (p1 : Int) (p2 : List ty33.den) (p3 : Int) (p4 : Int) (p5 : Int) (p6 : List ty66.den) (k : AV → Objs → Option R) (n : Nat) : afun tau Ops.std gl0 X63 (gnil) ow Try.f63 [.c (.ptr 0 0), .c (.int .i64 p0), .c (.int .i64 p1)] [(0, .box 86 [.list 33 ty33 p2, .int .i64 p3, .own 1002, .int .i64 p4, .int .i64 p5]), (1002, .row 66 ty66 p6)] k n = ob (F63 p0 p1 p2 p3 p4 p5 p6) (fun y => k (.tup []) [(0, .box 86 [.list 33 ty33 y.1, .int .i64 y.2.1, .own 1002, .int .i64 y.2.2.1, .int .i64 y.2.2.2.1]), (1002, .row 66 ty66 y.2.2.2.2)]) := by rw [eq63]; exact nt63 Ops.std p0 p1 p2 p3 p4 p5 p6 some (fun y => k (.tup []) [(0, .box 86 [.list 33 ty33 y.1, .int .i64 y.2.1, .own 1002, .int .i64 y.2.2.1, .int .i64 y.2.2.2.1]), (1002, .row 66 ty66 y.2.2.2.2)])
def e63 {R : Type} (c : Int → Int → List ty33.den → Int → Int → Int → List ty66.den → Option ((List ty33.den) × Int × Int × Int × (List ty66.den))) : Ent R := fun args objs k =>
  oCons args fun a0 l0 => oC a0 fun x0 => cPtr 0 x0 <| oCons l0 fun a1 l1 => oC a1 fun x1 => cInt .i64 x1 fun p0 => oCons l1 fun a2 l2 => oC a2 fun x2 => cInt .i64 x2 fun p1 => oNil l2 <| oBox 0 86 objs fun b0 o0 => cCons b0 fun u0_0 v0_0 => cList 33 ty33 u0_0 fun p2 => cCons v0_0 fun u0_1 v0_1 => cInt .i64 u0_1 fun p3 => cCons v0_1 fun u0_2 v0_2 => cOwn 1002 u0_2 <| cCons v0_2 fun u0_3 v0_3 => cInt .i64 u0_3 fun p4 => cCons v0_3 fun u0_4 v0_4 => cInt .i64 u0_4 fun p5 => cNil v0_4 <| oRow 1002 66 ty66 o0 fun p6 o1 => oNilO o1 <| ob (c p0 p1 p2 p3 p4 p5 p6) fun y => k (.tup []) [(0, .box 86 [.list 33 ty33 y.1, .int .i64 y.2.1, .own 1002, .int .i64 y.2.2.1, .int .i64 y.2.2.2.1]), (1002, .row 66 ty66 y.2.2.2.2)]
abbrev Sp63 (c : Int → Int → List ty33.den → Int → Int → Int → List ty66.den → Option ((List ty33.den) × Int × Int × Int × (List ty66.den))) : Prop := ∀ (p0 : Int) (p1 : Int) (p2 : List ty33.den) (p3 : Int) (p4 : Int) (p5 : Int) (p6 : List ty66.den) (y : (List ty33.den) × Int × Int × Int × (List ty66.den)), c p0 p1 p2 p3 p4 p5 p6 = some y → Spec Try.prog gl0 63 [.c (.ptr 0 0), .c (.int .i64 p0), .c (.int .i64 p1)] [(0, .box 86 [.list 33 ty33 p2, .int .i64 p3, .own 1002, .int .i64 p4, .int .i64 p5]), (1002, .row 66 ty66 p6)] (.tup []) [(0, .box 86 [.list 33 ty33 y.1, .int .i64 y.2.1, .own 1002, .int .i64 y.2.2.1, .int .i64 y.2.2.2.1]), (1002, .row 66 ty66 y.2.2.2.2)]
theorem ek63 {R : Type} {c : Int → Int → List ty33.den → Int → Int → Int → List ty66.den → Option ((List ty33.den) × Int × Int × Int × (List ty66.den))} (hs : Sp63 c) : EOk 63 (e63 (R := R) c) := fun args objs k r h => by
  unfold e63 at h
  obtain ⟨a0, l0, rfl, q1⟩ := oCons_some h
  obtain ⟨x0, rfl, q2⟩ := oC_some q1
  obtain ⟨rfl, q3⟩ := cPtr_some q2
  obtain ⟨a1, l1, rfl, q4⟩ := oCons_some q3
  obtain ⟨x1, rfl, q5⟩ := oC_some q4
  obtain ⟨p0, rfl, q6⟩ := cInt_some q5
  obtain ⟨a2, l2, rfl, q7⟩ := oCons_some q6
  obtain ⟨x2, rfl, q8⟩ := oC_some q7
  obtain ⟨p1, rfl, q9⟩ := cInt_some q8
  obtain ⟨rfl, q10⟩ := oNil_some q9
  obtain ⟨b0, o0, rfl, q11⟩ := oBox_some q10
  obtain ⟨u0_0, v0_0, rfl, q12⟩ := cCons_some q11
  obtain ⟨p2, rfl, q13⟩ := cList_some q12
  obtain ⟨u0_1, v0_1, rfl, q14⟩ := cCons_some q13
  obtain ⟨p3, rfl, q15⟩ := cInt_some q14
  obtain ⟨u0_2, v0_2, rfl, q16⟩ := cCons_some q15
  obtain ⟨rfl, q17⟩ := cOwn_some q16
  obtain ⟨u0_3, v0_3, rfl, q18⟩ := cCons_some q17
  obtain ⟨p4, rfl, q19⟩ := cInt_some q18
  obtain ⟨u0_4, v0_4, rfl, q20⟩ := cCons_some q19
  obtain ⟨p5, rfl, q21⟩ := cInt_some q20
  obtain ⟨rfl, q22⟩ := cNil_some q21
  obtain ⟨p6, o1, rfl, q23⟩ := oRow_some q22
  obtain ⟨rfl, q24⟩ := oNilO_some q23
  exact eok_of (hs p0 p1 p2 p3 p4 p5 p6) q24
theorem sf63 : Sp63 (F63) := fun p0 p1 p2 p3 p4 p5 p6 y hy => by
  refine spec_of (G := gnil) (gnil_ok) 1000000 (fn := Try.f63) (by kernel_rfl) (by kernel_rfl) (X := X63) (by kernel_rfl) ?_
  rw [fo63, hy]
  rfl
noncomputable def M63 : Int → Int → List ty33.den → Int → Int → Int → List ty66.den → Option ((List ty33.den) × Int × Int × Int × (List ty66.den)) := F63
theorem sm63 : Sp63 M63 := sf63

/-! ### 89: (*lariat/lariatref13.reader).close -/
def X89 : Aux := ⟨[], []⟩
def T89 {R : Type} (B : Ops) (c88 : List UInt8 → List ty33.den → Int → Int → Int → List ty66.den → Option (Bool × (List ty33.den) × Int × Int × Int × (List ty66.den))) (c63 : Int → Int → List ty33.den → Int → Int → Int → List ty66.den → Option ((List ty33.den) × Int × Int × Int × (List ty66.den))) (p0 : List UInt8) (p1 : List ty33.den) (p2 : Int) (p3 : Int) (p4 : Int) (p5 : List ty66.den) (k : ((List ty33.den) × Int × Int × Int × (List ty66.den)) → Option R) : Option R :=
  cond (!Ops.eq B p3 (0))
   (
    k ((p1, p2, p3, p4, p5)))
   (
    ob (c88 p0 p1 p2 p3 p4 p5) fun y0 =>
    cond (!Prod.fst y0)
     (
      ob (c63 (2) (Prod.fst (Prod.snd (Prod.snd y0))) (Prod.fst (Prod.snd y0)) (Prod.fst (Prod.snd (Prod.snd y0))) (Prod.fst (Prod.snd (Prod.snd (Prod.snd y0)))) (Prod.fst (Prod.snd (Prod.snd (Prod.snd (Prod.snd y0))))) (Prod.snd (Prod.snd (Prod.snd (Prod.snd (Prod.snd y0)))))) fun y1 =>
      k ((Prod.fst y1, Prod.fst (Prod.snd y1), Prod.fst (Prod.snd (Prod.snd y1)), Prod.fst (Prod.snd (Prod.snd (Prod.snd y1))), Prod.snd (Prod.snd (Prod.snd (Prod.snd y1))))))
     (
      k ((Prod.fst (Prod.snd y0), IntKind.wrap IntKind.i64 (Prod.fst (Prod.snd (Prod.snd y0)) + 1), Prod.fst (Prod.snd (Prod.snd (Prod.snd y0))), Prod.fst (Prod.snd (Prod.snd (Prod.snd (Prod.snd y0)))), Prod.snd (Prod.snd (Prod.snd (Prod.snd (Prod.snd y0))))))))
theorem eq89 {R : Type} (B : Ops) (c88 : List UInt8 → List ty33.den → Int → Int → Int → List ty66.den → Option (Bool × (List ty33.den) × Int × Int × Int × (List ty66.den))) (c63 : Int → Int → List ty33.den → Int → Int → Int → List ty66.den → Option ((List ty33.den) × Int × Int × Int × (List ty66.den))) (p0 : List UInt8) (p1 : List ty33.den) (p2 : Int) (p3 : Int) (p4 : Int) (p5 : List ty66.den) (k : AV → Objs → Option R) (n : Nat) : afun tau B gl0 X89 (ent 88 (e88 c88) (ent 63 (e63 c63) (gnil))) ow Try.f89 [.c (.ptr 0 0), .c (.str p0)] [(0, .box 86 [.list 33 ty33 p1, .int .i64 p2, .own 1002, .int .i64 p3, .int .i64 p4]), (1002, .row 66 ty66 p5)] k n = T89 B c88 c63 p0 p1 p2 p3 p4 p5 (fun y => k (.tup []) [(0, .box 86 [.list 33 ty33 y.1, .int .i64 y.2.1, .own 1002, .int .i64 y.2.2.1, .int .i64 y.2.2.2.1]), (1002, .row 66 ty66 y.2.2.2.2)]) := by kernel_rfl
theorem nt89 {R R' : Type} (B : Ops) (c88 : List UInt8 → List ty33.den → Int → Int → Int → List ty66.den → Option (Bool × (List ty33.den) × Int × Int × Int × (List ty66.den))) (c63 : Int → Int → List ty33.den → Int → Int → Int → List ty66.den → Option ((List ty33.den) × Int × Int × Int × (List ty66.den))) (p0 : List UInt8) (p1 : List ty33.den) (p2 : Int) (p3 : Int) (p4 : Int) (p5 : List ty66.den) (k0 : ((List ty33.den) × Int × Int × Int × (List ty66.den)) → Option R') (k : R' → Option R) : T89 B c88 c63 p0 p1 p2 p3 p4 p5 (fun y => ob (k0 y) k) = ob (T89 B c88 c63 p0 p1 p2 p3 p4 p5 k0) k := by
  unfold T89
  repeat' first | exact rfl | apply nat_cond | (apply nat_ob; intro)
def F89 (c88 : List UInt8 → List ty33.den → Int → Int → Int → List ty66.den → Option (Bool × (List ty33.den) × Int × Int × Int × (List ty66.den))) (c63 : Int → Int → List ty33.den → Int → Int → Int → List ty66.den → Option ((List ty33.den) × Int × Int × Int × (List ty66.den))) (p0 : List UInt8) (p1 : List ty33.den) (p2 : Int) (p3 : Int) (p4 : Int) (p5 : List ty66.den) : Option ((List ty33.den) × Int × Int × Int × (List ty66.den)) := T89 Ops.std c88 c63 p0 p1 p2 p3 p4 p5 some
theorem fo89 {R : Type} (c88 : List UInt8 → List ty33.den → Int → Int → Int → List ty66.den → Option (Bool × (List ty33.den) × Int × Int × Int × (List ty66.den))) (c63 : Int → Int → List ty33.den → Int → Int → Int → List ty66.den → Option ((List ty33.den) × Int × Int × Int × (List ty66.den))) (p0 : List UInt8) (p1 : List ty33.den) (p2 : Int) (p3 : Int) (p4 : Int) (p5 : List ty66.den) (k : AV → Objs → Option R) (n : Nat) : afun tau Ops.std gl0 X89 (ent 88 (e88 c88) (ent 63 (e63 c63) (gnil))) ow Try.f89 [.c (.ptr 0 0), .c (.str p0)] [(0, .box 86 [.list 33 ty33 p1, .int .i64 p2, .own 1002, .int .i64 p3, .int .i64 p4]), (1002, .row 66 ty66 p5)] k n = ob (F89 c88 c63 p0 p1 p2 p3 p4 p5) (fun y => k (.tup []) [(0, .box 86 [.list 33 ty33 y.1, .int .i64 y.2.1, .own 1002, .int .i64 y.2.2.1, .int .i64 y.2.2.2.1]), (1002, .row 66 ty66 y.2.2.2.2)]) := by rw [eq89]; exact nt89 Ops.std c88 c63 p0 p1 p2 p3 p4 p5 some (fun y => k (.tup []) [(0, .box 86 [.list 33 ty33 y.1, .int .i64 y.2.1, .own 1002, .int .i64 y.2.2.1, .int .i64 y.2.2.2.1]), (1002, .row 66 ty66 y.2.2.2.2)])
def e89 {R : Type} (c : List UInt8 → List ty33.den → Int → Int → Int → List ty66.den → Option ((List ty33.den) × Int × Int × Int × (List ty66.den))) : Ent R := fun args objs k =>
  oCons args fun a0 l0 => oC a0 fun x0 => cPtr 0 x0 <| oCons l0 fun a1 l1 => oC a1 fun x1 => cStr x1 fun p0 => oNil l1 <| oBox 0 86 objs fun b0 o0 => cCons b0 fun u0_0 v0_0 => cList 33 ty33 u0_0 fun p1 => cCons v0_0 fun u0_1 v0_1 => cInt .i64 u0_1 fun p2 => cCons v0_1 fun u0_2 v0_2 => cOwn 1002 u0_2 <| cCons v0_2 fun u0_3 v0_3 => cInt .i64 u0_3 fun p3 => cCons v0_3 fun u0_4 v0_4 => cInt .i64 u0_4 fun p4 => cNil v0_4 <| oRow 1002 66 ty66 o0 fun p5 o1 => oNilO o1 <| ob (c p0 p1 p2 p3 p4 p5) fun y => k (.tup []) [(0, .box 86 [.list 33 ty33 y.1, .int .i64 y.2.1, .own 1002, .int .i64 y.2.2.1, .int .i64 y.2.2.2.1]), (1002, .row 66 ty66 y.2.2.2.2)]
abbrev Sp89 (c : List UInt8 → List ty33.den → Int → Int → Int → List ty66.den → Option ((List ty33.den) × Int × Int × Int × (List ty66.den))) : Prop := ∀ (p0 : List UInt8) (p1 : List ty33.den) (p2 : Int) (p3 : Int) (p4 : Int) (p5 : List ty66.den) (y : (List ty33.den) × Int × Int × Int × (List ty66.den)), c p0 p1 p2 p3 p4 p5 = some y → Spec Try.prog gl0 89 [.c (.ptr 0 0), .c (.str p0)] [(0, .box 86 [.list 33 ty33 p1, .int .i64 p2, .own 1002, .int .i64 p3, .int .i64 p4]), (1002, .row 66 ty66 p5)] (.tup []) [(0, .box 86 [.list 33 ty33 y.1, .int .i64 y.2.1, .own 1002, .int .i64 y.2.2.1, .int .i64 y.2.2.2.1]), (1002, .row 66 ty66 y.2.2.2.2)]
theorem ek89 {R : Type} {c : List UInt8 → List ty33.den → Int → Int → Int → List ty66.den → Option ((List ty33.den) × Int × Int × Int × (List ty66.den))} (hs : Sp89 c) : EOk 89 (e89 (R := R) c) := fun args objs k r h => by
  unfold e89 at h
  obtain ⟨a0, l0, rfl, q1⟩ := oCons_some h
  obtain ⟨x0, rfl, q2⟩ := oC_some q1
  obtain ⟨rfl, q3⟩ := cPtr_some q2
  obtain ⟨a1, l1, rfl, q4⟩ := oCons_some q3
  obtain ⟨x1, rfl, q5⟩ := oC_some q4
  obtain ⟨p0, rfl, q6⟩ := cStr_some q5
  obtain ⟨rfl, q7⟩ := oNil_some q6
  obtain ⟨b0, o0, rfl, q8⟩ := oBox_some q7
  obtain ⟨u0_0, v0_0, rfl, q9⟩ := cCons_some q8
  obtain ⟨p1, rfl, q10⟩ := cList_some q9
  obtain ⟨u0_1, v0_1, rfl, q11⟩ := cCons_some q10
  obtain ⟨p2, rfl, q12⟩ := cInt_some q11
  obtain ⟨u0_2, v0_2, rfl, q13⟩ := cCons_some q12
  obtain ⟨rfl, q14⟩ := cOwn_some q13
  obtain ⟨u0_3, v0_3, rfl, q15⟩ := cCons_some q14
  obtain ⟨p3, rfl, q16⟩ := cInt_some q15
  obtain ⟨u0_4, v0_4, rfl, q17⟩ := cCons_some q16
  obtain ⟨p4, rfl, q18⟩ := cInt_some q17
  obtain ⟨rfl, q19⟩ := cNil_some q18
  obtain ⟨p5, o1, rfl, q20⟩ := oRow_some q19
  obtain ⟨rfl, q21⟩ := oNilO_some q20
  exact eok_of (hs p0 p1 p2 p3 p4 p5) q21
theorem sf89 {c88 : List UInt8 → List ty33.den → Int → Int → Int → List ty66.den → Option (Bool × (List ty33.den) × Int × Int × Int × (List ty66.den))} {c63 : Int → Int → List ty33.den → Int → Int → Int → List ty66.den → Option ((List ty33.den) × Int × Int × Int × (List ty66.den))} (h88 : Sp88 c88) (h63 : Sp63 c63) : Sp89 (F89 c88 c63) := fun p0 p1 p2 p3 p4 p5 y hy => by
  refine spec_of (G := ent 88 (e88 c88) (ent 63 (e63 c63) (gnil))) (ent_ok (ek88 h88) (ent_ok (ek63 h63) (gnil_ok))) 1000000 (fn := Try.f89) (by kernel_rfl) (by kernel_rfl) (X := X89) (by kernel_rfl) ?_
  rw [fo89, hy]
  rfl
noncomputable def M89 : List UInt8 → List ty33.den → Int → Int → Int → List ty66.den → Option ((List ty33.den) × Int × Int × Int × (List ty66.den)) := F89 M88 M63
theorem sm89 : Sp89 M89 := sf89 sm88 sm63

/-! ### 80: (*lariat/lariatref13.reader).infix -/
def X80 : Aux := ⟨[(1000012, [0, 1, 2, 3, 4, 5, 6, 7, 8, 9, 10, 11, 12, 13, 14, 15, 16, 17, 18, 19, 20, 21, 22, 23, 24, 25, 26, 27, 28, 29, 30, 31, 32, 33, 34, 35, 36, 37, 38, 39, 40, 41, 42, 43, 44, 45, 46, 47, 48, 49, 50, 51, 52, 53, 54, 55, 56, 57, 58, 59, 60, 61, 62])], [(1, .lin [0, 1, 2, 3, 4, 5, 6, 7, 8, 9, 10, 11])]⟩
inductive S80 where
  | l1012 (v1012_0 : List ty33.den) (v1012_1 : Int) (v1012_2 : Int) (v1012_3 : Int) (v1012_4 : List ty66.den)
def T80 {R : Type} (B : Ops) (c88 : List UInt8 → List ty33.den → Int → Int → Int → List ty66.den → Option (Bool × (List ty33.den) × Int × Int × Int × (List ty66.den))) (p0 : Int) (p1 : List ty33.den) (p2 : Int) (p3 : Int) (p4 : Int) (p5 : List ty66.den) (again : S80 → Option R) (k : (Int × (List ty33.den) × Int × Int × Int × (List ty66.den)) → Option R) : Option S80 → Option R
  | none =>
    cond (Ops.inb B p2 (List.length p1))
     (
      cond (Ops.eq B p0 (1))
       (
        ob (c88 ([45, 62] : List UInt8) p1 p2 p3 p4 p5) fun y0 =>
        cond (Prod.fst y0)
         (
          k ((7, Prod.fst (Prod.snd y0), Prod.fst (Prod.snd (Prod.snd y0)), Prod.fst (Prod.snd (Prod.snd (Prod.snd y0))), Prod.fst (Prod.snd (Prod.snd (Prod.snd (Prod.snd y0)))), Prod.snd (Prod.snd (Prod.snd (Prod.snd (Prod.snd y0)))))))
         (
          cond (Ops.eq B p0 (2))
           (
            ob (c88 ([124, 124] : List UInt8) (Prod.fst (Prod.snd y0)) (Prod.fst (Prod.snd (Prod.snd y0))) (Prod.fst (Prod.snd (Prod.snd (Prod.snd y0)))) (Prod.fst (Prod.snd (Prod.snd (Prod.snd (Prod.snd y0))))) (Prod.snd (Prod.snd (Prod.snd (Prod.snd (Prod.snd y0)))))) fun y1 =>
            cond (Prod.fst y1)
             (
              k ((6, Prod.fst (Prod.snd y1), Prod.fst (Prod.snd (Prod.snd y1)), Prod.fst (Prod.snd (Prod.snd (Prod.snd y1))), Prod.fst (Prod.snd (Prod.snd (Prod.snd (Prod.snd y1)))), Prod.snd (Prod.snd (Prod.snd (Prod.snd (Prod.snd y1)))))))
             (
              cond (Ops.eq B p0 (3))
               (
                ob (c88 ([38, 38] : List UInt8) (Prod.fst (Prod.snd y1)) (Prod.fst (Prod.snd (Prod.snd y1))) (Prod.fst (Prod.snd (Prod.snd (Prod.snd y1)))) (Prod.fst (Prod.snd (Prod.snd (Prod.snd (Prod.snd y1))))) (Prod.snd (Prod.snd (Prod.snd (Prod.snd (Prod.snd y1)))))) fun y2 =>
                cond (Prod.fst y2)
                 (
                  k ((5, Prod.fst (Prod.snd y2), Prod.fst (Prod.snd (Prod.snd y2)), Prod.fst (Prod.snd (Prod.snd (Prod.snd y2))), Prod.fst (Prod.snd (Prod.snd (Prod.snd (Prod.snd y2)))), Prod.snd (Prod.snd (Prod.snd (Prod.snd (Prod.snd y2)))))))
                 (
                  cond (Ops.eq B p0 (4))
                   (
                    cond (Ops.eq B (Prod.fst (List.getD p1 (Int.toNat p2) (Ty.dflt ty33))) (3))
                     (
                      cond (Prod.fst (Prod.snd (List.getD p1 (Int.toNat p2) (Ty.dflt ty33))) == ([85] : List UInt8))
                       (
                        k ((9, Prod.fst (Prod.snd y2), Prod.fst (Prod.snd (Prod.snd y2)), Prod.fst (Prod.snd (Prod.snd (Prod.snd y2))), Prod.fst (Prod.snd (Prod.snd (Prod.snd (Prod.snd y2)))), Prod.snd (Prod.snd (Prod.snd (Prod.snd (Prod.snd y2)))))))
                       (
                        cond (Ops.eq B p0 (4))
                         (
                          cond (Ops.eq B (Prod.fst (List.getD p1 (Int.toNat p2) (Ty.dflt ty33))) (3))
                           (
                            cond (Prod.fst (Prod.snd (List.getD p1 (Int.toNat p2) (Ty.dflt ty33))) == ([82] : List UInt8))
                             (
                              k ((10, Prod.fst (Prod.snd y2), Prod.fst (Prod.snd (Prod.snd y2)), Prod.fst (Prod.snd (Prod.snd (Prod.snd y2))), Prod.fst (Prod.snd (Prod.snd (Prod.snd (Prod.snd y2)))), Prod.snd (Prod.snd (Prod.snd (Prod.snd (Prod.snd y2)))))))
                             (
                              again (.l1012 (Prod.fst (Prod.snd y2)) (Prod.fst (Prod.snd (Prod.snd y2))) (Prod.fst (Prod.snd (Prod.snd (Prod.snd y2)))) (Prod.fst (Prod.snd (Prod.snd (Prod.snd (Prod.snd y2))))) (Prod.snd (Prod.snd (Prod.snd (Prod.snd (Prod.snd y2))))))))
                           (
                            again (.l1012 (Prod.fst (Prod.snd y2)) (Prod.fst (Prod.snd (Prod.snd y2))) (Prod.fst (Prod.snd (Prod.snd (Prod.snd y2)))) (Prod.fst (Prod.snd (Prod.snd (Prod.snd (Prod.snd y2))))) (Prod.snd (Prod.snd (Prod.snd (Prod.snd (Prod.snd y2))))))))
                         (
                          again (.l1012 (Prod.fst (Prod.snd y2)) (Prod.fst (Prod.snd (Prod.snd y2))) (Prod.fst (Prod.snd (Prod.snd (Prod.snd y2)))) (Prod.fst (Prod.snd (Prod.snd (Prod.snd (Prod.snd y2))))) (Prod.snd (Prod.snd (Prod.snd (Prod.snd (Prod.snd y2)))))))))
                     (
                      cond (Ops.eq B p0 (4))
                       (
                        cond (Ops.eq B (Prod.fst (List.getD p1 (Int.toNat p2) (Ty.dflt ty33))) (3))
                         (
                          cond (Prod.fst (Prod.snd (List.getD p1 (Int.toNat p2) (Ty.dflt ty33))) == ([82] : List UInt8))
                           (
                            k ((10, Prod.fst (Prod.snd y2), Prod.fst (Prod.snd (Prod.snd y2)), Prod.fst (Prod.snd (Prod.snd (Prod.snd y2))), Prod.fst (Prod.snd (Prod.snd (Prod.snd (Prod.snd y2)))), Prod.snd (Prod.snd (Prod.snd (Prod.snd (Prod.snd y2)))))))
                           (
                            again (.l1012 (Prod.fst (Prod.snd y2)) (Prod.fst (Prod.snd (Prod.snd y2))) (Prod.fst (Prod.snd (Prod.snd (Prod.snd y2)))) (Prod.fst (Prod.snd (Prod.snd (Prod.snd (Prod.snd y2))))) (Prod.snd (Prod.snd (Prod.snd (Prod.snd (Prod.snd y2))))))))
                         (
                          again (.l1012 (Prod.fst (Prod.snd y2)) (Prod.fst (Prod.snd (Prod.snd y2))) (Prod.fst (Prod.snd (Prod.snd (Prod.snd y2)))) (Prod.fst (Prod.snd (Prod.snd (Prod.snd (Prod.snd y2))))) (Prod.snd (Prod.snd (Prod.snd (Prod.snd (Prod.snd y2))))))))
                       (
                        again (.l1012 (Prod.fst (Prod.snd y2)) (Prod.fst (Prod.snd (Prod.snd y2))) (Prod.fst (Prod.snd (Prod.snd (Prod.snd y2)))) (Prod.fst (Prod.snd (Prod.snd (Prod.snd (Prod.snd y2))))) (Prod.snd (Prod.snd (Prod.snd (Prod.snd (Prod.snd y2)))))))))
                   (
                    cond (Ops.eq B p0 (4))
                     (
                      cond (Ops.eq B (Prod.fst (List.getD p1 (Int.toNat p2) (Ty.dflt ty33))) (3))
                       (
                        cond (Prod.fst (Prod.snd (List.getD p1 (Int.toNat p2) (Ty.dflt ty33))) == ([82] : List UInt8))
                         (
                          k ((10, Prod.fst (Prod.snd y2), Prod.fst (Prod.snd (Prod.snd y2)), Prod.fst (Prod.snd (Prod.snd (Prod.snd y2))), Prod.fst (Prod.snd (Prod.snd (Prod.snd (Prod.snd y2)))), Prod.snd (Prod.snd (Prod.snd (Prod.snd (Prod.snd y2)))))))
                         (
                          again (.l1012 (Prod.fst (Prod.snd y2)) (Prod.fst (Prod.snd (Prod.snd y2))) (Prod.fst (Prod.snd (Prod.snd (Prod.snd y2)))) (Prod.fst (Prod.snd (Prod.snd (Prod.snd (Prod.snd y2))))) (Prod.snd (Prod.snd (Prod.snd (Prod.snd (Prod.snd y2))))))))
                       (
                        again (.l1012 (Prod.fst (Prod.snd y2)) (Prod.fst (Prod.snd (Prod.snd y2))) (Prod.fst (Prod.snd (Prod.snd (Prod.snd y2)))) (Prod.fst (Prod.snd (Prod.snd (Prod.snd (Prod.snd y2))))) (Prod.snd (Prod.snd (Prod.snd (Prod.snd (Prod.snd y2))))))))
                     (
                      again (.l1012 (Prod.fst (Prod.snd y2)) (Prod.fst (Prod.snd (Prod.snd y2))) (Prod.fst (Prod.snd (Prod.snd (Prod.snd y2)))) (Prod.fst (Prod.snd (Prod.snd (Prod.snd (Prod.snd y2))))) (Prod.snd (Prod.snd (Prod.snd (Prod.snd (Prod.snd y2))))))))))
               (
                cond (Ops.eq B p0 (4))
                 (
                  cond (Ops.eq B (Prod.fst (List.getD p1 (Int.toNat p2) (Ty.dflt ty33))) (3))
                   (
                    cond (Prod.fst (Prod.snd (List.getD p1 (Int.toNat p2) (Ty.dflt ty33))) == ([85] : List UInt8))
                     (
                      k ((9, Prod.fst (Prod.snd y1), Prod.fst (Prod.snd (Prod.snd y1)), Prod.fst (Prod.snd (Prod.snd (Prod.snd y1))), Prod.fst (Prod.snd (Prod.snd (Prod.snd (Prod.snd y1)))), Prod.snd (Prod.snd (Prod.snd (Prod.snd (Prod.snd y1)))))))
                     (
                      cond (Ops.eq B p0 (4))
                       (
                        cond (Ops.eq B (Prod.fst (List.getD p1 (Int.toNat p2) (Ty.dflt ty33))) (3))
                         (
                          cond (Prod.fst (Prod.snd (List.getD p1 (Int.toNat p2) (Ty.dflt ty33))) == ([82] : List UInt8))
                           (
                            k ((10, Prod.fst (Prod.snd y1), Prod.fst (Prod.snd (Prod.snd y1)), Prod.fst (Prod.snd (Prod.snd (Prod.snd y1))), Prod.fst (Prod.snd (Prod.snd (Prod.snd (Prod.snd y1)))), Prod.snd (Prod.snd (Prod.snd (Prod.snd (Prod.snd y1)))))))
                           (
                            again (.l1012 (Prod.fst (Prod.snd y1)) (Prod.fst (Prod.snd (Prod.snd y1))) (Prod.fst (Prod.snd (Prod.snd (Prod.snd y1)))) (Prod.fst (Prod.snd (Prod.snd (Prod.snd (Prod.snd y1))))) (Prod.snd (Prod.snd (Prod.snd (Prod.snd (Prod.snd y1))))))))
                         (
                          again (.l1012 (Prod.fst (Prod.snd y1)) (Prod.fst (Prod.snd (Prod.snd y1))) (Prod.fst (Prod.snd (Prod.snd (Prod.snd y1)))) (Prod.fst (Prod.snd (Prod.snd (Prod.snd (Prod.snd y1))))) (Prod.snd (Prod.snd (Prod.snd (Prod.snd (Prod.snd y1))))))))
                       (
                        again (.l1012 (Prod.fst (Prod.snd y1)) (Prod.fst (Prod.snd (Prod.snd y1))) (Prod.fst (Prod.snd (Prod.snd (Prod.snd y1)))) (Prod.fst (Prod.snd (Prod.snd (Prod.snd (Prod.snd y1))))) (Prod.snd (Prod.snd (Prod.snd (Prod.snd (Prod.snd y1)))))))))
                   (
                    cond (Ops.eq B p0 (4))
                     (
                      cond (Ops.eq B (Prod.fst (List.getD p1 (Int.toNat p2) (Ty.dflt ty33))) (3))
                       (
                        cond (Prod.fst (Prod.snd (List.getD p1 (Int.toNat p2) (Ty.dflt ty33))) == ([82] : List UInt8))
                         (
                          k ((10, Prod.fst (Prod.snd y1), Prod.fst (Prod.snd (Prod.snd y1)), Prod.fst (Prod.snd (Prod.snd (Prod.snd y1))), Prod.fst (Prod.snd (Prod.snd (Prod.snd (Prod.snd y1)))), Prod.snd (Prod.snd (Prod.snd (Prod.snd (Prod.snd y1)))))))
                         (
                          again (.l1012 (Prod.fst (Prod.snd y1)) (Prod.fst (Prod.snd (Prod.snd y1))) (Prod.fst (Prod.snd (Prod.snd (Prod.snd y1)))) (Prod.fst (Prod.snd (Prod.snd (Prod.snd (Prod.snd y1))))) (Prod.snd (Prod.snd (Prod.snd (Prod.snd (Prod.snd y1))))))))
                       (
                        again (.l1012 (Prod.fst (Prod.snd y1)) (Prod.fst (Prod.snd (Prod.snd y1))) (Prod.fst (Prod.snd (Prod.snd (Prod.snd y1)))) (Prod.fst (Prod.snd (Prod.snd (Prod.snd (Prod.snd y1))))) (Prod.snd (Prod.snd (Prod.snd (Prod.snd (Prod.snd y1))))))))
                     (
                      again (.l1012 (Prod.fst (Prod.snd y1)) (Prod.fst (Prod.snd (Prod.snd y1))) (Prod.fst (Prod.snd (Prod.snd (Prod.snd y1)))) (Prod.fst (Prod.snd (Prod.snd (Prod.snd (Prod.snd y1))))) (Prod.snd (Prod.snd (Prod.snd (Prod.snd (Prod.snd y1)))))))))
                 (
                  cond (Ops.eq B p0 (4))
                   (
                    cond (Ops.eq B (Prod.fst (List.getD p1 (Int.toNat p2) (Ty.dflt ty33))) (3))
                     (
                      cond (Prod.fst (Prod.snd (List.getD p1 (Int.toNat p2) (Ty.dflt ty33))) == ([82] : List UInt8))
                       (
                        k ((10, Prod.fst (Prod.snd y1), Prod.fst (Prod.snd (Prod.snd y1)), Prod.fst (Prod.snd (Prod.snd (Prod.snd y1))), Prod.fst (Prod.snd (Prod.snd (Prod.snd (Prod.snd y1)))), Prod.snd (Prod.snd (Prod.snd (Prod.snd (Prod.snd y1)))))))
                       (
                        again (.l1012 (Prod.fst (Prod.snd y1)) (Prod.fst (Prod.snd (Prod.snd y1))) (Prod.fst (Prod.snd (Prod.snd (Prod.snd y1)))) (Prod.fst (Prod.snd (Prod.snd (Prod.snd (Prod.snd y1))))) (Prod.snd (Prod.snd (Prod.snd (Prod.snd (Prod.snd y1))))))))
                     (
                      again (.l1012 (Prod.fst (Prod.snd y1)) (Prod.fst (Prod.snd (Prod.snd y1))) (Prod.fst (Prod.snd (Prod.snd (Prod.snd y1)))) (Prod.fst (Prod.snd (Prod.snd (Prod.snd (Prod.snd y1))))) (Prod.snd (Prod.snd (Prod.snd (Prod.snd (Prod.snd y1))))))))
                   (
                    again (.l1012 (Prod.fst (Prod.snd y1)) (Prod.fst (Prod.snd (Prod.snd y1))) (Prod.fst (Prod.snd (Prod.snd (Prod.snd y1)))) (Prod.fst (Prod.snd (Prod.snd (Prod.snd (Prod.snd y1))))) (Prod.snd (Prod.snd (Prod.snd (Prod.snd (Prod.snd y1)))))))))))
           (
            cond (Ops.eq B p0 (3))
             (
              ob (c88 ([38, 38] : List UInt8) (Prod.fst (Prod.snd y0)) (Prod.fst (Prod.snd (Prod.snd y0))) (Prod.fst (Prod.snd (Prod.snd (Prod.snd y0)))) (Prod.fst (Prod.snd (Prod.snd (Prod.snd (Prod.snd y0))))) (Prod.snd (Prod.snd (Prod.snd (Prod.snd (Prod.snd y0)))))) fun y1 =>
              cond (Prod.fst y1)
               (
                k ((5, Prod.fst (Prod.snd y1), Prod.fst (Prod.snd (Prod.snd y1)), Prod.fst (Prod.snd (Prod.snd (Prod.snd y1))), Prod.fst (Prod.snd (Prod.snd (Prod.snd (Prod.snd y1)))), Prod.snd (Prod.snd (Prod.snd (Prod.snd (Prod.snd y1)))))))
               (
                cond (Ops.eq B p0 (4))
                 (
                  cond (Ops.eq B (Prod.fst (List.getD p1 (Int.toNat p2) (Ty.dflt ty33))) (3))
                   (
                    cond (Prod.fst (Prod.snd (List.getD p1 (Int.toNat p2) (Ty.dflt ty33))) == ([85] : List UInt8))
                     (
                      k ((9, Prod.fst (Prod.snd y1), Prod.fst (Prod.snd (Prod.snd y1)), Prod.fst (Prod.snd (Prod.snd (Prod.snd y1))), Prod.fst (Prod.snd (Prod.snd (Prod.snd (Prod.snd y1)))), Prod.snd (Prod.snd (Prod.snd (Prod.snd (Prod.snd y1)))))))
                     (
                      cond (Ops.eq B p0 (4))
                       (
                        cond (Ops.eq B (Prod.fst (List.getD p1 (Int.toNat p2) (Ty.dflt ty33))) (3))
                         (
                          cond (Prod.fst (Prod.snd (List.getD p1 (Int.toNat p2) (Ty.dflt ty33))) == ([82] : List UInt8))
                           (
                            k ((10, Prod.fst (Prod.snd y1), Prod.fst (Prod.snd (Prod.snd y1)), Prod.fst (Prod.snd (Prod.snd (Prod.snd y1))), Prod.fst (Prod.snd (Prod.snd (Prod.snd (Prod.snd y1)))), Prod.snd (Prod.snd (Prod.snd (Prod.snd (Prod.snd y1)))))))
                           (
                            again (.l1012 (Prod.fst (Prod.snd y1)) (Prod.fst (Prod.snd (Prod.snd y1))) (Prod.fst (Prod.snd (Prod.snd (Prod.snd y1)))) (Prod.fst (Prod.snd (Prod.snd (Prod.snd (Prod.snd y1))))) (Prod.snd (Prod.snd (Prod.snd (Prod.snd (Prod.snd y1))))))))
                         (
                          again (.l1012 (Prod.fst (Prod.snd y1)) (Prod.fst (Prod.snd (Prod.snd y1))) (Prod.fst (Prod.snd (Prod.snd (Prod.snd y1)))) (Prod.fst (Prod.snd (Prod.snd (Prod.snd (Prod.snd y1))))) (Prod.snd (Prod.snd (Prod.snd (Prod.snd (Prod.snd y1))))))))
                       (
                        again (.l1012 (Prod.fst (Prod.snd y1)) (Prod.fst (Prod.snd (Prod.snd y1))) (Prod.fst (Prod.snd (Prod.snd (Prod.snd y1)))) (Prod.fst (Prod.snd (Prod.snd (Prod.snd (Prod.snd y1))))) (Prod.snd (Prod.snd (Prod.snd (Prod.snd (Prod.snd y1)))))))))
                   (
                    cond (Ops.eq B p0 (4))
                     (
                      cond (Ops.eq B (Prod.fst (List.getD p1 (Int.toNat p2) (Ty.dflt ty33))) (3))
                       (
                        cond (Prod.fst (Prod.snd (List.getD p1 (Int.toNat p2) (Ty.dflt ty33))) == ([82] : List UInt8))
                         (
                          k ((10, Prod.fst (Prod.snd y1), Prod.fst (Prod.snd (Prod.snd y1)), Prod.fst (Prod.snd (Prod.snd (Prod.snd y1))), Prod.fst (Prod.snd (Prod.snd (Prod.snd (Prod.snd y1)))), Prod.snd (Prod.snd (Prod.snd (Prod.snd (Prod.snd y1)))))))
                         (
                          again (.l1012 (Prod.fst (Prod.snd y1)) (Prod.fst (Prod.snd (Prod.snd y1))) (Prod.fst (Prod.snd (Prod.snd (Prod.snd y1)))) (Prod.fst (Prod.snd (Prod.snd (Prod.snd (Prod.snd y1))))) (Prod.snd (Prod.snd (Prod.snd (Prod.snd (Prod.snd y1))))))))
                       (
                        again (.l1012 (Prod.fst (Prod.snd y1)) (Prod.fst (Prod.snd (Prod.snd y1))) (Prod.fst (Prod.snd (Prod.snd (Prod.snd y1)))) (Prod.fst (Prod.snd (Prod.snd (Prod.snd (Prod.snd y1))))) (Prod.snd (Prod.snd (Prod.snd (Prod.snd (Prod.snd y1))))))))
                     (
                      again (.l1012 (Prod.fst (Prod.snd y1)) (Prod.fst (Prod.snd (Prod.snd y1))) (Prod.fst (Prod.snd (Prod.snd (Prod.snd y1)))) (Prod.fst (Prod.snd (Prod.snd (Prod.snd (Prod.snd y1))))) (Prod.snd (Prod.snd (Prod.snd (Prod.snd (Prod.snd y1)))))))))
                 (
                  cond (Ops.eq B p0 (4))
                   (
                    cond (Ops.eq B (Prod.fst (List.getD p1 (Int.toNat p2) (Ty.dflt ty33))) (3))
                     (
                      cond (Prod.fst (Prod.snd (List.getD p1 (Int.toNat p2) (Ty.dflt ty33))) == ([82] : List UInt8))
                       (
                        k ((10, Prod.fst (Prod.snd y1), Prod.fst (Prod.snd (Prod.snd y1)), Prod.fst (Prod.snd (Prod.snd (Prod.snd y1))), Prod.fst (Prod.snd (Prod.snd (Prod.snd (Prod.snd y1)))), Prod.snd (Prod.snd (Prod.snd (Prod.snd (Prod.snd y1)))))))
                       (
                        again (.l1012 (Prod.fst (Prod.snd y1)) (Prod.fst (Prod.snd (Prod.snd y1))) (Prod.fst (Prod.snd (Prod.snd (Prod.snd y1)))) (Prod.fst (Prod.snd (Prod.snd (Prod.snd (Prod.snd y1))))) (Prod.snd (Prod.snd (Prod.snd (Prod.snd (Prod.snd y1))))))))
                     (
                      again (.l1012 (Prod.fst (Prod.snd y1)) (Prod.fst (Prod.snd (Prod.snd y1))) (Prod.fst (Prod.snd (Prod.snd (Prod.snd y1)))) (Prod.fst (Prod.snd (Prod.snd (Prod.snd (Prod.snd y1))))) (Prod.snd (Prod.snd (Prod.snd (Prod.snd (Prod.snd y1))))))))
                   (
                    again (.l1012 (Prod.fst (Prod.snd y1)) (Prod.fst (Prod.snd (Prod.snd y1))) (Prod.fst (Prod.snd (Prod.snd (Prod.snd y1)))) (Prod.fst (Prod.snd (Prod.snd (Prod.snd (Prod.snd y1))))) (Prod.snd (Prod.snd (Prod.snd (Prod.snd (Prod.snd y1))))))))))
             (
              cond (Ops.eq B p0 (4))
               (
                cond (Ops.eq B (Prod.fst (List.getD p1 (Int.toNat p2) (Ty.dflt ty33))) (3))
                 (
                  cond (Prod.fst (Prod.snd (List.getD p1 (Int.toNat p2) (Ty.dflt ty33))) == ([85] : List UInt8))
                   (
                    k ((9, Prod.fst (Prod.snd y0), Prod.fst (Prod.snd (Prod.snd y0)), Prod.fst (Prod.snd (Prod.snd (Prod.snd y0))), Prod.fst (Prod.snd (Prod.snd (Prod.snd (Prod.snd y0)))), Prod.snd (Prod.snd (Prod.snd (Prod.snd (Prod.snd y0)))))))
                   (
                    cond (Ops.eq B p0 (4))
                     (
                      cond (Ops.eq B (Prod.fst (List.getD p1 (Int.toNat p2) (Ty.dflt ty33))) (3))
                       (
                        cond (Prod.fst (Prod.snd (List.getD p1 (Int.toNat p2) (Ty.dflt ty33))) == ([82] : List UInt8))
                         (
                          k ((10, Prod.fst (Prod.snd y0), Prod.fst (Prod.snd (Prod.snd y0)), Prod.fst (Prod.snd (Prod.snd (Prod.snd y0))), Prod.fst (Prod.snd (Prod.snd (Prod.snd (Prod.snd y0)))), Prod.snd (Prod.snd (Prod.snd (Prod.snd (Prod.snd y0)))))))
                         (
                          again (.l1012 (Prod.fst (Prod.snd y0)) (Prod.fst (Prod.snd (Prod.snd y0))) (Prod.fst (Prod.snd (Prod.snd (Prod.snd y0)))) (Prod.fst (Prod.snd (Prod.snd (Prod.snd (Prod.snd y0))))) (Prod.snd (Prod.snd (Prod.snd (Prod.snd (Prod.snd y0))))))))
                       (
                        again (.l1012 (Prod.fst (Prod.snd y0)) (Prod.fst (Prod.snd (Prod.snd y0))) (Prod.fst (Prod.snd (Prod.snd (Prod.snd y0)))) (Prod.fst (Prod.snd (Prod.snd (Prod.snd (Prod.snd y0))))) (Prod.snd (Prod.snd (Prod.snd (Prod.snd (Prod.snd y0))))))))
                     (
                      again (.l1012 (Prod.fst (Prod.snd y0)) (Prod.fst (Prod.snd (Prod.snd y0))) (Prod.fst (Prod.snd (Prod.snd (Prod.snd y0)))) (Prod.fst (Prod.snd (Prod.snd (Prod.snd (Prod.snd y0))))) (Prod.snd (Prod.snd (Prod.snd (Prod.snd (Prod.snd y0)))))))))
                 (
                  cond (Ops.eq B p0 (4))
                   (
                    cond (Ops.eq B (Prod.fst (List.getD p1 (Int.toNat p2) (Ty.dflt ty33))) (3))
                     (
                      cond (Prod.fst (Prod.snd (List.getD p1 (Int.toNat p2) (Ty.dflt ty33))) == ([82] : List UInt8))
                       (
                        k ((10, Prod.fst (Prod.snd y0), Prod.fst (Prod.snd (Prod.snd y0)), Prod.fst (Prod.snd (Prod.snd (Prod.snd y0))), Prod.fst (Prod.snd (Prod.snd (Prod.snd (Prod.snd y0)))), Prod.snd (Prod.snd (Prod.snd (Prod.snd (Prod.snd y0)))))))
                       (
                        again (.l1012 (Prod.fst (Prod.snd y0)) (Prod.fst (Prod.snd (Prod.snd y0))) (Prod.fst (Prod.snd (Prod.snd (Prod.snd y0)))) (Prod.fst (Prod.snd (Prod.snd (Prod.snd (Prod.snd y0))))) (Prod.snd (Prod.snd (Prod.snd (Prod.snd (Prod.snd y0))))))))
                     (
                      again (.l1012 (Prod.fst (Prod.snd y0)) (Prod.fst (Prod.snd (Prod.snd y0))) (Prod.fst (Prod.snd (Prod.snd (Prod.snd y0)))) (Prod.fst (Prod.snd (Prod.snd (Prod.snd (Prod.snd y0))))) (Prod.snd (Prod.snd (Prod.snd (Prod.snd (Prod.snd y0))))))))
                   (
                    again (.l1012 (Prod.fst (Prod.snd y0)) (Prod.fst (Prod.snd (Prod.snd y0))) (Prod.fst (Prod.snd (Prod.snd (Prod.snd y0)))) (Prod.fst (Prod.snd (Prod.snd (Prod.snd (Prod.snd y0))))) (Prod.snd (Prod.snd (Prod.snd (Prod.snd (Prod.snd y0)))))))))
               (
                cond (Ops.eq B p0 (4))
                 (
                  cond (Ops.eq B (Prod.fst (List.getD p1 (Int.toNat p2) (Ty.dflt ty33))) (3))
                   (
                    cond (Prod.fst (Prod.snd (List.getD p1 (Int.toNat p2) (Ty.dflt ty33))) == ([82] : List UInt8))
                     (
                      k ((10, Prod.fst (Prod.snd y0), Prod.fst (Prod.snd (Prod.snd y0)), Prod.fst (Prod.snd (Prod.snd (Prod.snd y0))), Prod.fst (Prod.snd (Prod.snd (Prod.snd (Prod.snd y0)))), Prod.snd (Prod.snd (Prod.snd (Prod.snd (Prod.snd y0)))))))
                     (
                      again (.l1012 (Prod.fst (Prod.snd y0)) (Prod.fst (Prod.snd (Prod.snd y0))) (Prod.fst (Prod.snd (Prod.snd (Prod.snd y0)))) (Prod.fst (Prod.snd (Prod.snd (Prod.snd (Prod.snd y0))))) (Prod.snd (Prod.snd (Prod.snd (Prod.snd (Prod.snd y0))))))))
                   (
                    again (.l1012 (Prod.fst (Prod.snd y0)) (Prod.fst (Prod.snd (Prod.snd y0))) (Prod.fst (Prod.snd (Prod.snd (Prod.snd y0)))) (Prod.fst (Prod.snd (Prod.snd (Prod.snd (Prod.snd y0))))) (Prod.snd (Prod.snd (Prod.snd (Prod.snd (Prod.snd y0))))))))
                 (
                  again (.l1012 (Prod.fst (Prod.snd y0)) (Prod.fst (Prod.snd (Prod.snd y0))) (Prod.fst (Prod.snd (Prod.snd (Prod.snd y0)))) (Prod.fst (Prod.snd (Prod.snd (Prod.snd (Prod.snd y0))))) (Prod.snd (Prod.snd (Prod.snd (Prod.snd (Prod.snd y0))))))))))))
       (
        cond (Ops.eq B p0 (2))
         (
          ob (c88 ([124, 124] : List UInt8) p1 p2 p3 p4 p5) fun y0 =>
          cond (Prod.fst y0)
           (
            k ((6, Prod.fst (Prod.snd y0), Prod.fst (Prod.snd (Prod.snd y0)), Prod.fst (Prod.snd (Prod.snd (Prod.snd y0))), Prod.fst (Prod.snd (Prod.snd (Prod.snd (Prod.snd y0)))), Prod.snd (Prod.snd (Prod.snd (Prod.snd (Prod.snd y0)))))))
           (
            cond (Ops.eq B p0 (3))
             (
              ob (c88 ([38, 38] : List UInt8) (Prod.fst (Prod.snd y0)) (Prod.fst (Prod.snd (Prod.snd y0))) (Prod.fst (Prod.snd (Prod.snd (Prod.snd y0)))) (Prod.fst (Prod.snd (Prod.snd (Prod.snd (Prod.snd y0))))) (Prod.snd (Prod.snd (Prod.snd (Prod.snd (Prod.snd y0)))))) fun y1 =>
              cond (Prod.fst y1)
               (
                k ((5, Prod.fst (Prod.snd y1), Prod.fst (Prod.snd (Prod.snd y1)), Prod.fst (Prod.snd (Prod.snd (Prod.snd y1))), Prod.fst (Prod.snd (Prod.snd (Prod.snd (Prod.snd y1)))), Prod.snd (Prod.snd (Prod.snd (Prod.snd (Prod.snd y1)))))))
               (
                cond (Ops.eq B p0 (4))
                 (
                  cond (Ops.eq B (Prod.fst (List.getD p1 (Int.toNat p2) (Ty.dflt ty33))) (3))
                   (
                    cond (Prod.fst (Prod.snd (List.getD p1 (Int.toNat p2) (Ty.dflt ty33))) == ([85] : List UInt8))
                     (
                      k ((9, Prod.fst (Prod.snd y1), Prod.fst (Prod.snd (Prod.snd y1)), Prod.fst (Prod.snd (Prod.snd (Prod.snd y1))), Prod.fst (Prod.snd (Prod.snd (Prod.snd (Prod.snd y1)))), Prod.snd (Prod.snd (Prod.snd (Prod.snd (Prod.snd y1)))))))
                     (
                      cond (Ops.eq B p0 (4))
                       (
                        cond (Ops.eq B (Prod.fst (List.getD p1 (Int.toNat p2) (Ty.dflt ty33))) (3))
                         (
                          cond (Prod.fst (Prod.snd (List.getD p1 (Int.toNat p2) (Ty.dflt ty33))) == ([82] : List UInt8))
                           (
                            k ((10, Prod.fst (Prod.snd y1), Prod.fst (Prod.snd (Prod.snd y1)), Prod.fst (Prod.snd (Prod.snd (Prod.snd y1))), Prod.fst (Prod.snd (Prod.snd (Prod.snd (Prod.snd y1)))), Prod.snd (Prod.snd (Prod.snd (Prod.snd (Prod.snd y1)))))))
                           (
                            again (.l1012 (Prod.fst (Prod.snd y1)) (Prod.fst (Prod.snd (Prod.snd y1))) (Prod.fst (Prod.snd (Prod.snd (Prod.snd y1)))) (Prod.fst (Prod.snd (Prod.snd (Prod.snd (Prod.snd y1))))) (Prod.snd (Prod.snd (Prod.snd (Prod.snd (Prod.snd y1))))))))
                         (
                          again (.l1012 (Prod.fst (Prod.snd y1)) (Prod.fst (Prod.snd (Prod.snd y1))) (Prod.fst (Prod.snd (Prod.snd (Prod.snd y1)))) (Prod.fst (Prod.snd (Prod.snd (Prod.snd (Prod.snd y1))))) (Prod.snd (Prod.snd (Prod.snd (Prod.snd (Prod.snd y1))))))))
                       (
                        again (.l1012 (Prod.fst (Prod.snd y1)) (Prod.fst (Prod.snd (Prod.snd y1))) (Prod.fst (Prod.snd (Prod.snd (Prod.snd y1)))) (Prod.fst (Prod.snd (Prod.snd (Prod.snd (Prod.snd y1))))) (Prod.snd (Prod.snd (Prod.snd (Prod.snd (Prod.snd y1)))))))))
                   (
                    cond (Ops.eq B p0 (4))
                     (
                      cond (Ops.eq B (Prod.fst (List.getD p1 (Int.toNat p2) (Ty.dflt ty33))) (3))
                       (
                        cond (Prod.fst (Prod.snd (List.getD p1 (Int.toNat p2) (Ty.dflt ty33))) == ([82] : List UInt8))
                         (
                          k ((10, Prod.fst (Prod.snd y1), Prod.fst (Prod.snd (Prod.snd y1)), Prod.fst (Prod.snd (Prod.snd (Prod.snd y1))), Prod.fst (Prod.snd (Prod.snd (Prod.snd (Prod.snd y1)))), Prod.snd (Prod.snd (Prod.snd (Prod.snd (Prod.snd y1)))))))
                         (
                          again (.l1012 (Prod.fst (Prod.snd y1)) (Prod.fst (Prod.snd (Prod.snd y1))) (Prod.fst (Prod.snd (Prod.snd (Prod.snd y1)))) (Prod.fst (Prod.snd (Prod.snd (Prod.snd (Prod.snd y1))))) (Prod.snd (Prod.snd (Prod.snd (Prod.snd (Prod.snd y1))))))))
                       (
                        again (.l1012 (Prod.fst (Prod.snd y1)) (Prod.fst (Prod.snd (Prod.snd y1))) (Prod.fst (Prod.snd (Prod.snd (Prod.snd y1)))) (Prod.fst (Prod.snd (Prod.snd (Prod.snd (Prod.snd y1))))) (Prod.snd (Prod.snd (Prod.snd (Prod.snd (Prod.snd y1))))))))
                     (
                      again (.l1012 (Prod.fst (Prod.snd y1)) (Prod.fst (Prod.snd (Prod.snd y1))) (Prod.fst (Prod.snd (Prod.snd (Prod.snd y1)))) (Prod.fst (Prod.snd (Prod.snd (Prod.snd (Prod.snd y1))))) (Prod.snd (Prod.snd (Prod.snd (Prod.snd (Prod.snd y1)))))))))
                 (
                  cond (Ops.eq B p0 (4))
                   (
                    cond (Ops.eq B (Prod.fst (List.getD p1 (Int.toNat p2) (Ty.dflt ty33))) (3))
                     (
                      cond (Prod.fst (Prod.snd (List.getD p1 (Int.toNat p2) (Ty.dflt ty33))) == ([82] : List UInt8))
                       (
                        k ((10, Prod.fst (Prod.snd y1), Prod.fst (Prod.snd (Prod.snd y1)), Prod.fst (Prod.snd (Prod.snd (Prod.snd y1))), Prod.fst (Prod.snd (Prod.snd (Prod.snd (Prod.snd y1)))), Prod.snd (Prod.snd (Prod.snd (Prod.snd (Prod.snd y1)))))))
                       (
                        again (.l1012 (Prod.fst (Prod.snd y1)) (Prod.fst (Prod.snd (Prod.snd y1))) (Prod.fst (Prod.snd (Prod.snd (Prod.snd y1)))) (Prod.fst (Prod.snd (Prod.snd (Prod.snd (Prod.snd y1))))) (Prod.snd (Prod.snd (Prod.snd (Prod.snd (Prod.snd y1))))))))
                     (
                      again (.l1012 (Prod.fst (Prod.snd y1)) (Prod.fst (Prod.snd (Prod.snd y1))) (Prod.fst (Prod.snd (Prod.snd (Prod.snd y1)))) (Prod.fst (Prod.snd (Prod.snd (Prod.snd (Prod.snd y1))))) (Prod.snd (Prod.snd (Prod.snd (Prod.snd (Prod.snd y1))))))))
                   (
                    again (.l1012 (Prod.fst (Prod.snd y1)) (Prod.fst (Prod.snd (Prod.snd y1))) (Prod.fst (Prod.snd (Prod.snd (Prod.snd y1)))) (Prod.fst (Prod.snd (Prod.snd (Prod.snd (Prod.snd y1))))) (Prod.snd (Prod.snd (Prod.snd (Prod.snd (Prod.snd y1))))))))))
             (
              cond (Ops.eq B p0 (4))
               (
                cond (Ops.eq B (Prod.fst (List.getD p1 (Int.toNat p2) (Ty.dflt ty33))) (3))
                 (
                  cond (Prod.fst (Prod.snd (List.getD p1 (Int.toNat p2) (Ty.dflt ty33))) == ([85] : List UInt8))
                   (
                    k ((9, Prod.fst (Prod.snd y0), Prod.fst (Prod.snd (Prod.snd y0)), Prod.fst (Prod.snd (Prod.snd (Prod.snd y0))), Prod.fst (Prod.snd (Prod.snd (Prod.snd (Prod.snd y0)))), Prod.snd (Prod.snd (Prod.snd (Prod.snd (Prod.snd y0)))))))
                   (
                    cond (Ops.eq B p0 (4))
                     (
                      cond (Ops.eq B (Prod.fst (List.getD p1 (Int.toNat p2) (Ty.dflt ty33))) (3))
                       (
                        cond (Prod.fst (Prod.snd (List.getD p1 (Int.toNat p2) (Ty.dflt ty33))) == ([82] : List UInt8))
                         (
                          k ((10, Prod.fst (Prod.snd y0), Prod.fst (Prod.snd (Prod.snd y0)), Prod.fst (Prod.snd (Prod.snd (Prod.snd y0))), Prod.fst (Prod.snd (Prod.snd (Prod.snd (Prod.snd y0)))), Prod.snd (Prod.snd (Prod.snd (Prod.snd (Prod.snd y0)))))))
                         (
                          again (.l1012 (Prod.fst (Prod.snd y0)) (Prod.fst (Prod.snd (Prod.snd y0))) (Prod.fst (Prod.snd (Prod.snd (Prod.snd y0)))) (Prod.fst (Prod.snd (Prod.snd (Prod.snd (Prod.snd y0))))) (Prod.snd (Prod.snd (Prod.snd (Prod.snd (Prod.snd y0))))))))
                       (
                        again (.l1012 (Prod.fst (Prod.snd y0)) (Prod.fst (Prod.snd (Prod.snd y0))) (Prod.fst (Prod.snd (Prod.snd (Prod.snd y0)))) (Prod.fst (Prod.snd (Prod.snd (Prod.snd (Prod.snd y0))))) (Prod.snd (Prod.snd (Prod.snd (Prod.snd (Prod.snd y0))))))))
                     (
                      again (.l1012 (Prod.fst (Prod.snd y0)) (Prod.fst (Prod.snd (Prod.snd y0))) (Prod.fst (Prod.snd (Prod.snd (Prod.snd y0)))) (Prod.fst (Prod.snd (Prod.snd (Prod.snd (Prod.snd y0))))) (Prod.snd (Prod.snd (Prod.snd (Prod.snd (Prod.snd y0)))))))))
                 (
                  cond (Ops.eq B p0 (4))
                   (
                    cond (Ops.eq B (Prod.fst (List.getD p1 (Int.toNat p2) (Ty.dflt ty33))) (3))
                     (
                      cond (Prod.fst (Prod.snd (List.getD p1 (Int.toNat p2) (Ty.dflt ty33))) == ([82] : List UInt8))
                       (
                        k ((10, Prod.fst (Prod.snd y0), Prod.fst (Prod.snd (Prod.snd y0)), Prod.fst (Prod.snd (Prod.snd (Prod.snd y0))), Prod.fst (Prod.snd (Prod.snd (Prod.snd (Prod.snd y0)))), Prod.snd (Prod.snd (Prod.snd (Prod.snd (Prod.snd y0)))))))
                       (
                        again (.l1012 (Prod.fst (Prod.snd y0)) (Prod.fst (Prod.snd (Prod.snd y0))) (Prod.fst (Prod.snd (Prod.snd (Prod.snd y0)))) (Prod.fst (Prod.snd (Prod.snd (Prod.snd (Prod.snd y0))))) (Prod.snd (Prod.snd (Prod.snd (Prod.snd (Prod.snd y0))))))))
                     (
                      again (.l1012 (Prod.fst (Prod.snd y0)) (Prod.fst (Prod.snd (Prod.snd y0))) (Prod.fst (Prod.snd (Prod.snd (Prod.snd y0)))) (Prod.fst (Prod.snd (Prod.snd (Prod.snd (Prod.snd y0))))) (Prod.snd (Prod.snd (Prod.snd (Prod.snd (Prod.snd y0))))))))
                   (
                    again (.l1012 (Prod.fst (Prod.snd y0)) (Prod.fst (Prod.snd (Prod.snd y0))) (Prod.fst (Prod.snd (Prod.snd (Prod.snd y0)))) (Prod.fst (Prod.snd (Prod.snd (Prod.snd (Prod.snd y0))))) (Prod.snd (Prod.snd (Prod.snd (Prod.snd (Prod.snd y0)))))))))
               (
                cond (Ops.eq B p0 (4))
                 (
                  cond (Ops.eq B (Prod.fst (List.getD p1 (Int.toNat p2) (Ty.dflt ty33))) (3))
                   (
                    cond (Prod.fst (Prod.snd (List.getD p1 (Int.toNat p2) (Ty.dflt ty33))) == ([82] : List UInt8))
                     (
                      k ((10, Prod.fst (Prod.snd y0), Prod.fst (Prod.snd (Prod.snd y0)), Prod.fst (Prod.snd (Prod.snd (Prod.snd y0))), Prod.fst (Prod.snd (Prod.snd (Prod.snd (Prod.snd y0)))), Prod.snd (Prod.snd (Prod.snd (Prod.snd (Prod.snd y0)))))))
                     (
                      again (.l1012 (Prod.fst (Prod.snd y0)) (Prod.fst (Prod.snd (Prod.snd y0))) (Prod.fst (Prod.snd (Prod.snd (Prod.snd y0)))) (Prod.fst (Prod.snd (Prod.snd (Prod.snd (Prod.snd y0))))) (Prod.snd (Prod.snd (Prod.snd (Prod.snd (Prod.snd y0))))))))
                   (
                    again (.l1012 (Prod.fst (Prod.snd y0)) (Prod.fst (Prod.snd (Prod.snd y0))) (Prod.fst (Prod.snd (Prod.snd (Prod.snd y0)))) (Prod.fst (Prod.snd (Prod.snd (Prod.snd (Prod.snd y0))))) (Prod.snd (Prod.snd (Prod.snd (Prod.snd (Prod.snd y0))))))))
                 (
                  again (.l1012 (Prod.fst (Prod.snd y0)) (Prod.fst (Prod.snd (Prod.snd y0))) (Prod.fst (Prod.snd (Prod.snd (Prod.snd y0)))) (Prod.fst (Prod.snd (Prod.snd (Prod.snd (Prod.snd y0))))) (Prod.snd (Prod.snd (Prod.snd (Prod.snd (Prod.snd y0)))))))))))
         (
          cond (Ops.eq B p0 (3))
           (
            ob (c88 ([38, 38] : List UInt8) p1 p2 p3 p4 p5) fun y0 =>
            cond (Prod.fst y0)
             (
              k ((5, Prod.fst (Prod.snd y0), Prod.fst (Prod.snd (Prod.snd y0)), Prod.fst (Prod.snd (Prod.snd (Prod.snd y0))), Prod.fst (Prod.snd (Prod.snd (Prod.snd (Prod.snd y0)))), Prod.snd (Prod.snd (Prod.snd (Prod.snd (Prod.snd y0)))))))
             (
              cond (Ops.eq B p0 (4))
               (
                cond (Ops.eq B (Prod.fst (List.getD p1 (Int.toNat p2) (Ty.dflt ty33))) (3))
                 (
                  cond (Prod.fst (Prod.snd (List.getD p1 (Int.toNat p2) (Ty.dflt ty33))) == ([85] : List UInt8))
                   (
                    k ((9, Prod.fst (Prod.snd y0), Prod.fst (Prod.snd (Prod.snd y0)), Prod.fst (Prod.snd (Prod.snd (Prod.snd y0))), Prod.fst (Prod.snd (Prod.snd (Prod.snd (Prod.snd y0)))), Prod.snd (Prod.snd (Prod.snd (Prod.snd (Prod.snd y0)))))))
                   (
                    cond (Ops.eq B p0 (4))
                     (
                      cond (Ops.eq B (Prod.fst (List.getD p1 (Int.toNat p2) (Ty.dflt ty33))) (3))
                       (
                        cond (Prod.fst (Prod.snd (List.getD p1 (Int.toNat p2) (Ty.dflt ty33))) == ([82] : List UInt8))
                         (
                          k ((10, Prod.fst (Prod.snd y0), Prod.fst (Prod.snd (Prod.snd y0)), Prod.fst (Prod.snd (Prod.snd (Prod.snd y0))), Prod.fst (Prod.snd (Prod.snd (Prod.snd (Prod.snd y0)))), Prod.snd (Prod.snd (Prod.snd (Prod.snd (Prod.snd y0)))))))
                         (
                          again (.l1012 (Prod.fst (Prod.snd y0)) (Prod.fst (Prod.snd (Prod.snd y0))) (Prod.fst (Prod.snd (Prod.snd (Prod.snd y0)))) (Prod.fst (Prod.snd (Prod.snd (Prod.snd (Prod.snd y0))))) (Prod.snd (Prod.snd (Prod.snd (Prod.snd (Prod.snd y0))))))))
                       (
                        again (.l1012 (Prod.fst (Prod.snd y0)) (Prod.fst (Prod.snd (Prod.snd y0))) (Prod.fst (Prod.snd (Prod.snd (Prod.snd y0)))) (Prod.fst (Prod.snd (Prod.snd (Prod.snd (Prod.snd y0))))) (Prod.snd (Prod.snd (Prod.snd (Prod.snd (Prod.snd y0))))))))
                     (
                      again (.l1012 (Prod.fst (Prod.snd y0)) (Prod.fst (Prod.snd (Prod.snd y0))) (Prod.fst (Prod.snd (Prod.snd (Prod.snd y0)))) (Prod.fst (Prod.snd (Prod.snd (Prod.snd (Prod.snd y0))))) (Prod.snd (Prod.snd (Prod.snd (Prod.snd (Prod.snd y0)))))))))
                 (
                  cond (Ops.eq B p0 (4))
                   (
                    cond (Ops.eq B (Prod.fst (List.getD p1 (Int.toNat p2) (Ty.dflt ty33))) (3))
                     (
                      cond (Prod.fst (Prod.snd (List.getD p1 (Int.toNat p2) (Ty.dflt ty33))) == ([82] : List UInt8))
                       (
                        k ((10, Prod.fst (Prod.snd y0), Prod.fst (Prod.snd (Prod.snd y0)), Prod.fst (Prod.snd (Prod.snd (Prod.snd y0))), Prod.fst (Prod.snd (Prod.snd (Prod.snd (Prod.snd y0)))), Prod.snd (Prod.snd (Prod.snd (Prod.snd (Prod.snd y0)))))))
                       (
                        again (.l1012 (Prod.fst (Prod.snd y0)) (Prod.fst (Prod.snd (Prod.snd y0))) (Prod.fst (Prod.snd (Prod.snd (Prod.snd y0)))) (Prod.fst (Prod.snd (Prod.snd (Prod.snd (Prod.snd y0))))) (Prod.snd (Prod.snd (Prod.snd (Prod.snd (Prod.snd y0))))))))
                     (
                      again (.l1012 (Prod.fst (Prod.snd y0)) (Prod.fst (Prod.snd (Prod.snd y0))) (Prod.fst (Prod.snd (Prod.snd (Prod.snd y0)))) (Prod.fst (Prod.snd (Prod.snd (Prod.snd (Prod.snd y0))))) (Prod.snd (Prod.snd (Prod.snd (Prod.snd (Prod.snd y0))))))))
                   (
                    again (.l1012 (Prod.fst (Prod.snd y0)) (Prod.fst (Prod.snd (Prod.snd y0))) (Prod.fst (Prod.snd (Prod.snd (Prod.snd y0)))) (Prod.fst (Prod.snd (Prod.snd (Prod.snd (Prod.snd y0))))) (Prod.snd (Prod.snd (Prod.snd (Prod.snd (Prod.snd y0)))))))))
               (
                cond (Ops.eq B p0 (4))
                 (
                  cond (Ops.eq B (Prod.fst (List.getD p1 (Int.toNat p2) (Ty.dflt ty33))) (3))
                   (
                    cond (Prod.fst (Prod.snd (List.getD p1 (Int.toNat p2) (Ty.dflt ty33))) == ([82] : List UInt8))
                     (
                      k ((10, Prod.fst (Prod.snd y0), Prod.fst (Prod.snd (Prod.snd y0)), Prod.fst (Prod.snd (Prod.snd (Prod.snd y0))), Prod.fst (Prod.snd (Prod.snd (Prod.snd (Prod.snd y0)))), Prod.snd (Prod.snd (Prod.snd (Prod.snd (Prod.snd y0)))))))
                     (
                      again (.l1012 (Prod.fst (Prod.snd y0)) (Prod.fst (Prod.snd (Prod.snd y0))) (Prod.fst (Prod.snd (Prod.snd (Prod.snd y0)))) (Prod.fst (Prod.snd (Prod.snd (Prod.snd (Prod.snd y0))))) (Prod.snd (Prod.snd (Prod.snd (Prod.snd (Prod.snd y0))))))))
                   (
                    again (.l1012 (Prod.fst (Prod.snd y0)) (Prod.fst (Prod.snd (Prod.snd y0))) (Prod.fst (Prod.snd (Prod.snd (Prod.snd y0)))) (Prod.fst (Prod.snd (Prod.snd (Prod.snd (Prod.snd y0))))) (Prod.snd (Prod.snd (Prod.snd (Prod.snd (Prod.snd y0))))))))
                 (
                  again (.l1012 (Prod.fst (Prod.snd y0)) (Prod.fst (Prod.snd (Prod.snd y0))) (Prod.fst (Prod.snd (Prod.snd (Prod.snd y0)))) (Prod.fst (Prod.snd (Prod.snd (Prod.snd (Prod.snd y0))))) (Prod.snd (Prod.snd (Prod.snd (Prod.snd (Prod.snd y0))))))))))
           (
            cond (Ops.eq B p0 (4))
             (
              cond (Ops.eq B (Prod.fst (List.getD p1 (Int.toNat p2) (Ty.dflt ty33))) (3))
               (
                cond (Prod.fst (Prod.snd (List.getD p1 (Int.toNat p2) (Ty.dflt ty33))) == ([85] : List UInt8))
                 (
                  k ((9, p1, p2, p3, p4, p5)))
                 (
                  cond (Ops.eq B p0 (4))
                   (
                    cond (Ops.eq B (Prod.fst (List.getD p1 (Int.toNat p2) (Ty.dflt ty33))) (3))
                     (
                      cond (Prod.fst (Prod.snd (List.getD p1 (Int.toNat p2) (Ty.dflt ty33))) == ([82] : List UInt8))
                       (
                        k ((10, p1, p2, p3, p4, p5)))
                       (
                        again (.l1012 p1 p2 p3 p4 p5)))
                     (
                      again (.l1012 p1 p2 p3 p4 p5)))
                   (
                    again (.l1012 p1 p2 p3 p4 p5))))
               (
                cond (Ops.eq B p0 (4))
                 (
                  cond (Ops.eq B (Prod.fst (List.getD p1 (Int.toNat p2) (Ty.dflt ty33))) (3))
                   (
                    cond (Prod.fst (Prod.snd (List.getD p1 (Int.toNat p2) (Ty.dflt ty33))) == ([82] : List UInt8))
                     (
                      k ((10, p1, p2, p3, p4, p5)))
                     (
                      again (.l1012 p1 p2 p3 p4 p5)))
                   (
                    again (.l1012 p1 p2 p3 p4 p5)))
                 (
                  again (.l1012 p1 p2 p3 p4 p5))))
             (
              cond (Ops.eq B p0 (4))
               (
                cond (Ops.eq B (Prod.fst (List.getD p1 (Int.toNat p2) (Ty.dflt ty33))) (3))
                 (
                  cond (Prod.fst (Prod.snd (List.getD p1 (Int.toNat p2) (Ty.dflt ty33))) == ([82] : List UInt8))
                   (
                    k ((10, p1, p2, p3, p4, p5)))
                   (
                    again (.l1012 p1 p2 p3 p4 p5)))
                 (
                  again (.l1012 p1 p2 p3 p4 p5)))
               (
                again (.l1012 p1 p2 p3 p4 p5)))))))
     (
      none)
  | some (.l1012 v1012_0 v1012_1 v1012_2 v1012_3 v1012_4) =>
    k ((0, v1012_0, v1012_1, v1012_2, v1012_3, v1012_4))
def E80 (p0 : Int) (p1 : List ty33.den) (p2 : Int) (p3 : Int) (p4 : Int) (p5 : List ty66.den) : S80 → List AV × Objs
  | .l1012 v1012_0 v1012_1 v1012_2 v1012_3 v1012_4 => (mk 63 [], [(0, .box 86 [.list 33 ty33 v1012_0, .int .i64 v1012_1, .own 1002, .int .i64 v1012_2, .int .i64 v1012_3]), (1002, .row 66 ty66 v1012_4)])
def I80 : S80 → Nat
  | .l1012 _ _ _ _ _ => 1012
theorem eq80 {R : Type} (B : Ops) (c88 : List UInt8 → List ty33.den → Int → Int → Int → List ty66.den → Option (Bool × (List ty33.den) × Int × Int × Int × (List ty66.den))) (p0 : Int) (p1 : List ty33.den) (p2 : Int) (p3 : Int) (p4 : Int) (p5 : List ty66.den) (k : AV → Objs → Option R) (n : Nat) : afun tau B gl0 X80 (ent 88 (e88 c88) (gnil)) ow Try.f80 [.c (.ptr 0 0), .c (.int .i64 p0)] [(0, .box 86 [.list 33 ty33 p1, .int .i64 p2, .own 1002, .int .i64 p3, .int .i64 p4]), (1002, .row 66 ty66 p5)] k n = T80 B c88 p0 p1 p2 p3 p4 p5 (fun s => aloop tau B gl0 X80 (ent 88 (e88 c88) (gnil)) ow [0] Try.f80 k (I80 s) (E80 p0 p1 p2 p3 p4 p5 s) n) (fun y => k (.c (.int .i64 y.1)) [(0, .box 86 [.list 33 ty33 y.2.1, .int .i64 y.2.2.1, .own 1002, .int .i64 y.2.2.2.1, .int .i64 y.2.2.2.2.1]), (1002, .row 66 ty66 y.2.2.2.2.2)]) none := by kernel_rfl
theorem el80 {R : Type} (B : Ops) (c88 : List UInt8 → List ty33.den → Int → Int → Int → List ty66.den → Option (Bool × (List ty33.den) × Int × Int × Int × (List ty66.den))) (p0 : Int) (p1 : List ty33.den) (p2 : Int) (p3 : Int) (p4 : Int) (p5 : List ty66.den) (k : AV → Objs → Option R) (n : Nat) : ∀ s, aloop tau B gl0 X80 (ent 88 (e88 c88) (gnil)) ow [0] Try.f80 k (I80 s) (E80 p0 p1 p2 p3 p4 p5 s) (n + 1) = T80 B c88 p0 p1 p2 p3 p4 p5 (fun s => aloop tau B gl0 X80 (ent 88 (e88 c88) (gnil)) ow [0] Try.f80 k (I80 s) (E80 p0 p1 p2 p3 p4 p5 s) n) (fun y => k (.c (.int .i64 y.1)) [(0, .box 86 [.list 33 ty33 y.2.1, .int .i64 y.2.2.1, .own 1002, .int .i64 y.2.2.2.1, .int .i64 y.2.2.2.2.1]), (1002, .row 66 ty66 y.2.2.2.2.2)]) (some s)
  | .l1012 v1012_0 v1012_1 v1012_2 v1012_3 v1012_4 => by kernel_rfl
theorem nt80 {R R' : Type} (B : Ops) (c88 : List UInt8 → List ty33.den → Int → Int → Int → List ty66.den → Option (Bool × (List ty33.den) × Int × Int × Int × (List ty66.den))) (p0 : Int) (p1 : List ty33.den) (p2 : Int) (p3 : Int) (p4 : Int) (p5 : List ty66.den) (again : S80 → Option R) (again' : S80 → Option R') (k0 : (Int × (List ty33.den) × Int × Int × Int × (List ty66.den)) → Option R') (k : R' → Option R) (h : ∀ s, again s = ob (again' s) k) : ∀ s, T80 B c88 p0 p1 p2 p3 p4 p5 again (fun y => ob (k0 y) k) s = ob (T80 B c88 p0 p1 p2 p3 p4 p5 again' k0 s) k
  | none => by unfold T80; repeat' first | exact rfl | exact h _ | apply nat_cond | (apply nat_ob; intro)
  | some (.l1012 v1012_0 v1012_1 v1012_2 v1012_3 v1012_4) => by unfold T80; repeat' first | exact rfl | exact h _ | apply nat_cond | (apply nat_ob; intro)
def R80 (c88 : List UInt8 → List ty33.den → Int → Int → Int → List ty66.den → Option (Bool × (List ty33.den) × Int × Int × Int × (List ty66.den))) (p0 : Int) (p1 : List ty33.den) (p2 : Int) (p3 : Int) (p4 : Int) (p5 : List ty66.den) : Nat → S80 → Option (Int × (List ty33.den) × Int × Int × Int × (List ty66.den))
  | 0, _ => none
  | n + 1, s => T80 Ops.std c88 p0 p1 p2 p3 p4 p5 (R80 c88 p0 p1 p2 p3 p4 p5 n) some (some s)
theorem rr80 {R : Type} (c88 : List UInt8 → List ty33.den → Int → Int → Int → List ty66.den → Option (Bool × (List ty33.den) × Int × Int × Int × (List ty66.den))) (p0 : Int) (p1 : List ty33.den) (p2 : Int) (p3 : Int) (p4 : Int) (p5 : List ty66.den) (k : AV → Objs → Option R) : ∀ (n : Nat) (s : S80), aloop tau Ops.std gl0 X80 (ent 88 (e88 c88) (gnil)) ow [0] Try.f80 k (I80 s) (E80 p0 p1 p2 p3 p4 p5 s) n = ob (R80 c88 p0 p1 p2 p3 p4 p5 n s) (fun y => k (.c (.int .i64 y.1)) [(0, .box 86 [.list 33 ty33 y.2.1, .int .i64 y.2.2.1, .own 1002, .int .i64 y.2.2.2.1, .int .i64 y.2.2.2.2.1]), (1002, .row 66 ty66 y.2.2.2.2.2)])
  | 0, s => by cases s <;> rfl
  | n + 1, s => by rw [el80]; exact nt80 Ops.std c88 p0 p1 p2 p3 p4 p5 _ _ some (fun y => k (.c (.int .i64 y.1)) [(0, .box 86 [.list 33 ty33 y.2.1, .int .i64 y.2.2.1, .own 1002, .int .i64 y.2.2.2.1, .int .i64 y.2.2.2.2.1]), (1002, .row 66 ty66 y.2.2.2.2.2)]) (rr80 c88 p0 p1 p2 p3 p4 p5 k n) (some s)
def F80 (c88 : List UInt8 → List ty33.den → Int → Int → Int → List ty66.den → Option (Bool × (List ty33.den) × Int × Int × Int × (List ty66.den))) (p0 : Int) (p1 : List ty33.den) (p2 : Int) (p3 : Int) (p4 : Int) (p5 : List ty66.den) : Option (Int × (List ty33.den) × Int × Int × Int × (List ty66.den)) := T80 Ops.std c88 p0 p1 p2 p3 p4 p5 (R80 c88 p0 p1 p2 p3 p4 p5 1000000) some none
theorem fo80 {R : Type} (c88 : List UInt8 → List ty33.den → Int → Int → Int → List ty66.den → Option (Bool × (List ty33.den) × Int × Int × Int × (List ty66.den))) (p0 : Int) (p1 : List ty33.den) (p2 : Int) (p3 : Int) (p4 : Int) (p5 : List ty66.den) (k : AV → Objs → Option R) : afun tau Ops.std gl0 X80 (ent 88 (e88 c88) (gnil)) ow Try.f80 [.c (.ptr 0 0), .c (.int .i64 p0)] [(0, .box 86 [.list 33 ty33 p1, .int .i64 p2, .own 1002, .int .i64 p3, .int .i64 p4]), (1002, .row 66 ty66 p5)] k 1000000 = ob (F80 c88 p0 p1 p2 p3 p4 p5) (fun y => k (.c (.int .i64 y.1)) [(0, .box 86 [.list 33 ty33 y.2.1, .int .i64 y.2.2.1, .own 1002, .int .i64 y.2.2.2.1, .int .i64 y.2.2.2.2.1]), (1002, .row 66 ty66 y.2.2.2.2.2)]) := by rw [eq80]; exact nt80 Ops.std c88 p0 p1 p2 p3 p4 p5 _ _ some (fun y => k (.c (.int .i64 y.1)) [(0, .box 86 [.list 33 ty33 y.2.1, .int .i64 y.2.2.1, .own 1002, .int .i64 y.2.2.2.1, .int .i64 y.2.2.2.2.1]), (1002, .row 66 ty66 y.2.2.2.2.2)]) (rr80 c88 p0 p1 p2 p3 p4 p5 k 1000000) none
def e80 {R : Type} (c : Int → List ty33.den → Int → Int → Int → List ty66.den → Option (Int × (List ty33.den) × Int × Int × Int × (List ty66.den))) : Ent R := fun args objs k =>
  oCons args fun a0 l0 => oC a0 fun x0 => cPtr 0 x0 <| oCons l0 fun a1 l1 => oC a1 fun x1 => cInt .i64 x1 fun p0 => oNil l1 <| oBox 0 86 objs fun b0 o0 => cCons b0 fun u0_0 v0_0 => cList 33 ty33 u0_0 fun p1 => cCons v0_0 fun u0_1 v0_1 => cInt .i64 u0_1 fun p2 => cCons v0_1 fun u0_2 v0_2 => cOwn 1002 u0_2 <| cCons v0_2 fun u0_3 v0_3 => cInt .i64 u0_3 fun p3 => cCons v0_3 fun u0_4 v0_4 => cInt .i64 u0_4 fun p4 => cNil v0_4 <| oRow 1002 66 ty66 o0 fun p5 o1 => oNilO o1 <| ob (c p0 p1 p2 p3 p4 p5) fun y => k (.c (.int .i64 y.1)) [(0, .box 86 [.list 33 ty33 y.2.1, .int .i64 y.2.2.1, .own 1002, .int .i64 y.2.2.2.1, .int .i64 y.2.2.2.2.1]), (1002, .row 66 ty66 y.2.2.2.2.2)]
abbrev Sp80 (c : Int → List ty33.den → Int → Int → Int → List ty66.den → Option (Int × (List ty33.den) × Int × Int × Int × (List ty66.den))) : Prop := ∀ (p0 : Int) (p1 : List ty33.den) (p2 : Int) (p3 : Int) (p4 : Int) (p5 : List ty66.den) (y : Int × (List ty33.den) × Int × Int × Int × (List ty66.den)), c p0 p1 p2 p3 p4 p5 = some y → Spec Try.prog gl0 80 [.c (.ptr 0 0), .c (.int .i64 p0)] [(0, .box 86 [.list 33 ty33 p1, .int .i64 p2, .own 1002, .int .i64 p3, .int .i64 p4]), (1002, .row 66 ty66 p5)] (.c (.int .i64 y.1)) [(0, .box 86 [.list 33 ty33 y.2.1, .int .i64 y.2.2.1, .own 1002, .int .i64 y.2.2.2.1, .int .i64 y.2.2.2.2.1]), (1002, .row 66 ty66 y.2.2.2.2.2)]
theorem ek80 {R : Type} {c : Int → List ty33.den → Int → Int → Int → List ty66.den → Option (Int × (List ty33.den) × Int × Int × Int × (List ty66.den))} (hs : Sp80 c) : EOk 80 (e80 (R := R) c) := fun args objs k r h => by
  unfold e80 at h
  obtain ⟨a0, l0, rfl, q1⟩ := oCons_some h
  obtain ⟨x0, rfl, q2⟩ := oC_some q1
  obtain ⟨rfl, q3⟩ := cPtr_some q2
  obtain ⟨a1, l1, rfl, q4⟩ := oCons_some q3
  obtain ⟨x1, rfl, q5⟩ := oC_some q4
  obtain ⟨p0, rfl, q6⟩ := cInt_some q5
  obtain ⟨rfl, q7⟩ := oNil_some q6
  obtain ⟨b0, o0, rfl, q8⟩ := oBox_some q7
  obtain ⟨u0_0, v0_0, rfl, q9⟩ := cCons_some q8
  obtain ⟨p1, rfl, q10⟩ := cList_some q9
  obtain ⟨u0_1, v0_1, rfl, q11⟩ := cCons_some q10
  obtain ⟨p2, rfl, q12⟩ := cInt_some q11
  obtain ⟨u0_2, v0_2, rfl, q13⟩ := cCons_some q12
  obtain ⟨rfl, q14⟩ := cOwn_some q13
  obtain ⟨u0_3, v0_3, rfl, q15⟩ := cCons_some q14
  obtain ⟨p3, rfl, q16⟩ := cInt_some q15
  obtain ⟨u0_4, v0_4, rfl, q17⟩ := cCons_some q16
  obtain ⟨p4, rfl, q18⟩ := cInt_some q17
  obtain ⟨rfl, q19⟩ := cNil_some q18
  obtain ⟨p5, o1, rfl, q20⟩ := oRow_some q19
  obtain ⟨rfl, q21⟩ := oNilO_some q20
  exact eok_of (hs p0 p1 p2 p3 p4 p5) q21
theorem sf80 {c88 : List UInt8 → List ty33.den → Int → Int → Int → List ty66.den → Option (Bool × (List ty33.den) × Int × Int × Int × (List ty66.den))} (h88 : Sp88 c88) : Sp80 (F80 c88) := fun p0 p1 p2 p3 p4 p5 y hy => by
  refine spec_of (G := ent 88 (e88 c88) (gnil)) (ent_ok (ek88 h88) (gnil_ok)) 1000000 (fn := Try.f80) (by kernel_rfl) (by kernel_rfl) (X := X80) (by kernel_rfl) ?_
  rw [fo80, hy]
  rfl
noncomputable def M80 : Int → List ty33.den → Int → Int → Int → List ty66.den → Option (Int × (List ty33.den) × Int × Int × Int × (List ty66.den)) := F80 M88
theorem sm80 : Sp80 M80 := sf80 sm88

/-! ### 65: lariat/formula.operands -/
def X65 : Aux := ⟨[], []⟩
def T65 {R : Type} (B : Ops) (p0 : Int) (k : (Int) → Option R) : Option R :=
  cond (Ops.eq B p0 (1))
   (
    k 0)
   (
    cond (Ops.eq B p0 (2))
     (
      k 0)
     (
      cond (Ops.eq B p0 (3))
       (
        k 0)
       (
        cond (Ops.eq B p0 (4))
         (
          k 1)
         (
          cond (Ops.eq B p0 (8))
           (
            k 1)
           (
            cond (Ops.eq B p0 (11))
             (
              k 1)
             (
              cond (Ops.eq B p0 (12))
               (
                k 1)
               (
                cond (Ops.eq B p0 (5))
                 (
                  k 2)
                 (
                  cond (Ops.eq B p0 (6))
                   (
                    k 2)
                   (
                    cond (Ops.eq B p0 (7))
                     (
                      k 2)
                     (
                      cond (Ops.eq B p0 (9))
                       (
                        k 2)
                       (
                        cond (Ops.eq B p0 (10))
                         (
                          k 2)
                         (
                          k (-1)))))))))))))
theorem eq65 {R : Type} (B : Ops) (p0 : Int) (k : AV → Objs → Option R) (n : Nat) : afun tau B gl0 X65 (gnil) ow Try.f65 [.c (.int .i64 p0)] [] k n = T65 B p0 (fun y => k (.c (.int .i64 y)) []) := by kernel_rfl
theorem nt65 {R R' : Type} (B : Ops) (p0 : Int) (k0 : (Int) → Option R') (k : R' → Option R) : T65 B p0 (fun y => ob (k0 y) k) = ob (T65 B p0 k0) k := by
  unfold T65
  repeat' first | exact rfl | apply nat_cond | (apply nat_ob; intro)
def F65 (p0 : Int) : Option (Int) := T65 Ops.std p0 some
theorem fo65 {R : Type} (p0 : Int) (k : AV → Objs → Option R) (n : Nat) : afun tau Ops.std gl0 X65 (gnil) ow Try.f65 [.c (.int .i64 p0)] [] k n = ob (F65 p0) (fun y => k (.c (.int .i64 y)) []) := by rw [eq65]; exact nt65 Ops.std p0 some (fun y => k (.c (.int .i64 y)) [])
def e65 {R : Type} (c : Int → Option (Int)) : Ent R := fun args objs k =>
  oCons args fun a0 l0 => oC a0 fun x0 => cInt .i64 x0 fun p0 => oNil l0 <| oNilO objs <| ob (c p0) fun y => k (.c (.int .i64 y)) []
abbrev Sp65 (c : Int → Option (Int)) : Prop := ∀ (p0 : Int) (y : Int), c p0 = some y → Spec Try.prog gl0 65 [.c (.int .i64 p0)] [] (.c (.int .i64 y)) []
theorem ek65 {R : Type} {c : Int → Option (Int)} (hs : Sp65 c) : EOk 65 (e65 (R := R) c) := fun args objs k r h => by
  unfold e65 at h
  obtain ⟨a0, l0, rfl, q1⟩ := oCons_some h
  obtain ⟨x0, rfl, q2⟩ := oC_some q1
  obtain ⟨p0, rfl, q3⟩ := cInt_some q2
  obtain ⟨rfl, q4⟩ := oNil_some q3
  obtain ⟨rfl, q5⟩ := oNilO_some q4
  exact eok_of (hs p0) q5
theorem sf65 : Sp65 (F65) := fun p0 y hy => by
  refine spec_of (G := gnil) (gnil_ok) 1000000 (fn := Try.f65) (by kernel_rfl) (by kernel_rfl) (X := X65) (by kernel_rfl) ?_
  rw [fo65, hy]
  rfl
noncomputable def M65 : Int → Option (Int) := F65
theorem sm65 : Sp65 M65 := sf65

/-! ### 91: lariat/expr.operands -/
def X91 : Aux := ⟨[], []⟩
def T91 {R : Type} (B : Ops) (p0 : Int) (k : (Int) → Option R) : Option R :=
  cond (Ops.lt B p0 (1))
   (
    k (-1))
   (
    cond (Ops.lt B (16) p0)
     (
      k (-1))
     (
      cond (Ops.le B p0 (3))
       (
        k 0)
       (
        cond (Ops.le B p0 (5))
         (
          k 1)
         (
          k 2))))
theorem eq91 {R : Type} (B : Ops) (p0 : Int) (k : AV → Objs → Option R) (n : Nat) : afun tau B gl0 X91 (gnil) ow Try.f91 [.c (.int .i64 p0)] [] k n = T91 B p0 (fun y => k (.c (.int .i64 y)) []) := by kernel_rfl
theorem nt91 {R R' : Type} (B : Ops) (p0 : Int) (k0 : (Int) → Option R') (k : R' → Option R) : T91 B p0 (fun y => ob (k0 y) k) = ob (T91 B p0 k0) k := by
  unfold T91
  repeat' first | exact rfl | apply nat_cond | (apply nat_ob; intro)
def F91 (p0 : Int) : Option (Int) := T91 Ops.std p0 some
theorem fo91 {R : Type} (p0 : Int) (k : AV → Objs → Option R) (n : Nat) : afun tau Ops.std gl0 X91 (gnil) ow Try.f91 [.c (.int .i64 p0)] [] k n = ob (F91 p0) (fun y => k (.c (.int .i64 y)) []) := by rw [eq91]; exact nt91 Ops.std p0 some (fun y => k (.c (.int .i64 y)) [])
def e91 {R : Type} (c : Int → Option (Int)) : Ent R := fun args objs k =>
  oCons args fun a0 l0 => oC a0 fun x0 => cInt .i64 x0 fun p0 => oNil l0 <| oNilO objs <| ob (c p0) fun y => k (.c (.int .i64 y)) []
abbrev Sp91 (c : Int → Option (Int)) : Prop := ∀ (p0 : Int) (y : Int), c p0 = some y → Spec Try.prog gl0 91 [.c (.int .i64 p0)] [] (.c (.int .i64 y)) []
theorem ek91 {R : Type} {c : Int → Option (Int)} (hs : Sp91 c) : EOk 91 (e91 (R := R) c) := fun args objs k r h => by
  unfold e91 at h
  obtain ⟨a0, l0, rfl, q1⟩ := oCons_some h
  obtain ⟨x0, rfl, q2⟩ := oC_some q1
  obtain ⟨p0, rfl, q3⟩ := cInt_some q2
  obtain ⟨rfl, q4⟩ := oNil_some q3
  obtain ⟨rfl, q5⟩ := oNilO_some q4
  exact eok_of (hs p0) q5
theorem sf91 : Sp91 (F91) := fun p0 y hy => by
  refine spec_of (G := gnil) (gnil_ok) 1000000 (fn := Try.f91) (by kernel_rfl) (by kernel_rfl) (X := X91) (by kernel_rfl) ?_
  rw [fo91, hy]
  rfl
noncomputable def M91 : Int → Option (Int) := F91
theorem sm91 : Sp91 M91 := sf91

/-! ### 92: lariat/expr.may -/
def X92 : Aux := ⟨[], []⟩
def T92 {R : Type} (B : Ops) (c14 : List UInt8 → Option (Bool)) (c91 : Int → Option (Int)) (p0 : Int) (p1 : Int) (p2 : List UInt8) (p3 : List UInt8) (k : (Bool) → Option R) : Option R :=
  cond (Ops.eq B p0 (1))
   (
    cond (Ops.le B (0) p1)
     (
      cond (Ops.le B p1 (999))
       (
        cond (p2 == [])
         (
          k (p3 == []))
         (
          k false))
       (
        k false))
     (
      k false))
   (
    cond (Ops.eq B p0 (2))
     (
      cond (Ops.eq B p1 (0))
       (
        ob (c14 p2) fun y0 =>
        cond (y0)
         (
          k (p3 == []))
         (
          k false))
       (
        k false))
     (
      cond (Ops.eq B p0 (3))
       (
        cond (Ops.eq B p1 (0))
         (
          ob (c14 p2) fun y0 =>
          cond (y0)
           (
            ob (c14 p3) fun y1 =>
            k y1)
           (
            k false))
         (
          k false))
       (
        ob (c91 p0) fun y0 =>
        cond (Ops.lt B (0) y0)
         (
          cond (Ops.eq B p1 (0))
           (
            cond (p2 == [])
             (
              k (p3 == []))
             (
              k false))
           (
            k false))
         (
          k false))))
theorem eq92 {R : Type} (B : Ops) (c14 : List UInt8 → Option (Bool)) (c91 : Int → Option (Int)) (p0 : Int) (p1 : Int) (p2 : List UInt8) (p3 : List UInt8) (k : AV → Objs → Option R) (n : Nat) : afun tau B gl0 X92 (ent 14 (e14 c14) (ent 91 (e91 c91) (gnil))) ow Try.f92 [.agg [.int .i64 p0, .int .i64 p1, .str p2, .str p3]] [] k n = T92 B c14 c91 p0 p1 p2 p3 (fun y => k (.c (.bool y)) []) := by kernel_rfl
theorem nt92 {R R' : Type} (B : Ops) (c14 : List UInt8 → Option (Bool)) (c91 : Int → Option (Int)) (p0 : Int) (p1 : Int) (p2 : List UInt8) (p3 : List UInt8) (k0 : (Bool) → Option R') (k : R' → Option R) : T92 B c14 c91 p0 p1 p2 p3 (fun y => ob (k0 y) k) = ob (T92 B c14 c91 p0 p1 p2 p3 k0) k := by
  unfold T92
  repeat' first | exact rfl | apply nat_cond | (apply nat_ob; intro)
def F92 (c14 : List UInt8 → Option (Bool)) (c91 : Int → Option (Int)) (p0 : Int) (p1 : Int) (p2 : List UInt8) (p3 : List UInt8) : Option (Bool) := T92 Ops.std c14 c91 p0 p1 p2 p3 some
theorem fo92 {R : Type} (c14 : List UInt8 → Option (Bool)) (c91 : Int → Option (Int)) (p0 : Int) (p1 : Int) (p2 : List UInt8) (p3 : List UInt8) (k : AV → Objs → Option R) (n : Nat) : afun tau Ops.std gl0 X92 (ent 14 (e14 c14) (ent 91 (e91 c91) (gnil))) ow Try.f92 [.agg [.int .i64 p0, .int .i64 p1, .str p2, .str p3]] [] k n = ob (F92 c14 c91 p0 p1 p2 p3) (fun y => k (.c (.bool y)) []) := by rw [eq92]; exact nt92 Ops.std c14 c91 p0 p1 p2 p3 some (fun y => k (.c (.bool y)) [])
def e92 {R : Type} (c : Int → Int → List UInt8 → List UInt8 → Option (Bool)) : Ent R := fun args objs k =>
  oCons args fun a0 l0 => oAgg a0 fun x0 => cCons x0 fun z0_0 w0_0 => cInt .i64 z0_0 fun p0 => cCons w0_0 fun z0_1 w0_1 => cInt .i64 z0_1 fun p1 => cCons w0_1 fun z0_2 w0_2 => cStr z0_2 fun p2 => cCons w0_2 fun z0_3 w0_3 => cStr z0_3 fun p3 => cNil w0_3 <| oNil l0 <| oNilO objs <| ob (c p0 p1 p2 p3) fun y => k (.c (.bool y)) []
abbrev Sp92 (c : Int → Int → List UInt8 → List UInt8 → Option (Bool)) : Prop := ∀ (p0 : Int) (p1 : Int) (p2 : List UInt8) (p3 : List UInt8) (y : Bool), c p0 p1 p2 p3 = some y → Spec Try.prog gl0 92 [.agg [.int .i64 p0, .int .i64 p1, .str p2, .str p3]] [] (.c (.bool y)) []
theorem ek92 {R : Type} {c : Int → Int → List UInt8 → List UInt8 → Option (Bool)} (hs : Sp92 c) : EOk 92 (e92 (R := R) c) := fun args objs k r h => by
  unfold e92 at h
  obtain ⟨a0, l0, rfl, q1⟩ := oCons_some h
  obtain ⟨x0, rfl, q2⟩ := oAgg_some q1
  obtain ⟨z0_0, w0_0, rfl, q3⟩ := cCons_some q2
  obtain ⟨p0, rfl, q4⟩ := cInt_some q3
  obtain ⟨z0_1, w0_1, rfl, q5⟩ := cCons_some q4
  obtain ⟨p1, rfl, q6⟩ := cInt_some q5
  obtain ⟨z0_2, w0_2, rfl, q7⟩ := cCons_some q6
  obtain ⟨p2, rfl, q8⟩ := cStr_some q7
  obtain ⟨z0_3, w0_3, rfl, q9⟩ := cCons_some q8
  obtain ⟨p3, rfl, q10⟩ := cStr_some q9
  obtain ⟨rfl, q11⟩ := cNil_some q10
  obtain ⟨rfl, q12⟩ := oNil_some q11
  obtain ⟨rfl, q13⟩ := oNilO_some q12
  exact eok_of (hs p0 p1 p2 p3) q13
theorem sf92 {c14 : List UInt8 → Option (Bool)} {c91 : Int → Option (Int)} (h14 : Sp14 c14) (h91 : Sp91 c91) : Sp92 (F92 c14 c91) := fun p0 p1 p2 p3 y hy => by
  refine spec_of (G := ent 14 (e14 c14) (ent 91 (e91 c91) (gnil))) (ent_ok (ek14 h14) (ent_ok (ek91 h91) (gnil_ok))) 1000000 (fn := Try.f92) (by kernel_rfl) (by kernel_rfl) (X := X92) (by kernel_rfl) ?_
  rw [fo92, hy]
  rfl
noncomputable def M92 : Int → Int → List UInt8 → List UInt8 → Option (Bool) := F92 M14 M91
theorem sm92 : Sp92 M92 := sf92 sm14 sm91

/-! ### 81: lariat/expr.Right -/
def X81 : Aux := ⟨[(3, [1, 2, 4, 5, 6, 10, 11, 12, 13, 14, 15, 16, 17, 18, 19, 20, 21, 22, 23, 24, 25, 26, 27, 28])], []⟩
inductive S81 where
  | l0 (v0_1 : Int) (v0_3 : Int) (v0_4 : Int)
def T81 {R : Type} (B : Ops) (c91 : Int → Option (Int)) (c92 : Int → Int → List UInt8 → List UInt8 → Option (Bool)) (p0 : List ty98.den) (again : S81 → Option R) (k : (Bool) → Option R) : Option S81 → Option R
  | none =>
    again (.l0 0 (Nat.cast (List.length p0)) 0)
  | some (.l0 v0_1 v0_3 v0_4) =>
    cond (Ops.lt B v0_4 v0_3)
     (
      cond (Ops.inb B v0_4 (List.length p0))
       (
        ob (c91 (Prod.fst (List.getD p0 (Int.toNat v0_4) (Ty.dflt ty98)))) fun y0 =>
        ob (c92 (Prod.fst (List.getD p0 (Int.toNat v0_4) (Ty.dflt ty98))) (Prod.fst (Prod.snd (List.getD p0 (Int.toNat v0_4) (Ty.dflt ty98)))) (Prod.fst (Prod.snd (Prod.snd (List.getD p0 (Int.toNat v0_4) (Ty.dflt ty98))))) (Prod.snd (Prod.snd (Prod.snd (List.getD p0 (Int.toNat v0_4) (Ty.dflt ty98)))))) fun y1 =>
        cond (!y1)
         (
          k false)
         (
          cond (Ops.lt B v0_1 y0)
           (
            k false)
           (
            again (.l0 (IntKind.wrap IntKind.i64 (v0_1 + IntKind.wrap IntKind.i64 (1 - y0))) v0_3 (IntKind.wrap IntKind.i64 (v0_4 + 1))))))
       (
        none))
     (
      cond (Ops.eq B v0_1 (1))
       (
        k (Ops.le B (Nat.cast (List.length p0)) (30)))
       (
        k false))
def E81 (p0 : List ty98.den) : S81 → List AV × Objs
  | .l0 v0_1 v0_3 v0_4 => (mk 36 [(0, .c (.list 98 ty98 p0)), (3, .c (.int .i64 v0_1)), (7, .c (.list 98 ty98 p0)), (8, .c (.int .i64 v0_3)), (9, .c (.int .i64 v0_4))], [])
def I81 : S81 → Nat
  | .l0 _ _ _ => 0
theorem eq81 {R : Type} (B : Ops) (c91 : Int → Option (Int)) (c92 : Int → Int → List UInt8 → List UInt8 → Option (Bool)) (p0 : List ty98.den) (k : AV → Objs → Option R) (n : Nat) : afun tau B gl0 X81 (ent 91 (e91 c91) (ent 92 (e92 c92) (gnil))) ow Try.f81 [.c (.list 98 ty98 p0)] [] k n = T81 B c91 c92 p0 (fun s => aloop tau B gl0 X81 (ent 91 (e91 c91) (ent 92 (e92 c92) (gnil))) ow [] Try.f81 k (I81 s) (E81 p0 s) n) (fun y => k (.c (.bool y)) []) none := by kernel_rfl
theorem el81 {R : Type} (B : Ops) (c91 : Int → Option (Int)) (c92 : Int → Int → List UInt8 → List UInt8 → Option (Bool)) (p0 : List ty98.den) (k : AV → Objs → Option R) (n : Nat) : ∀ s, aloop tau B gl0 X81 (ent 91 (e91 c91) (ent 92 (e92 c92) (gnil))) ow [] Try.f81 k (I81 s) (E81 p0 s) (n + 1) = T81 B c91 c92 p0 (fun s => aloop tau B gl0 X81 (ent 91 (e91 c91) (ent 92 (e92 c92) (gnil))) ow [] Try.f81 k (I81 s) (E81 p0 s) n) (fun y => k (.c (.bool y)) []) (some s)
  | .l0 v0_1 v0_3 v0_4 => by kernel_rfl
theorem nt81 {R R' : Type} (B : Ops) (c91 : Int → Option (Int)) (c92 : Int → Int → List UInt8 → List UInt8 → Option (Bool)) (p0 : List ty98.den) (again : S81 → Option R) (again' : S81 → Option R') (k0 : (Bool) → Option R') (k : R' → Option R) (h : ∀ s, again s = ob (again' s) k) : ∀ s, T81 B c91 c92 p0 again (fun y => ob (k0 y) k) s = ob (T81 B c91 c92 p0 again' k0 s) k
  | none => by unfold T81; repeat' first | exact rfl | exact h _ | apply nat_cond | (apply nat_ob; intro)
  | some (.l0 v0_1 v0_3 v0_4) => by unfold T81; repeat' first | exact rfl | exact h _ | apply nat_cond | (apply nat_ob; intro)
def R81 (c91 : Int → Option (Int)) (c92 : Int → Int → List UInt8 → List UInt8 → Option (Bool)) (p0 : List ty98.den) : Nat → S81 → Option (Bool)
  | 0, _ => none
  | n + 1, s => T81 Ops.std c91 c92 p0 (R81 c91 c92 p0 n) some (some s)
theorem rr81 {R : Type} (c91 : Int → Option (Int)) (c92 : Int → Int → List UInt8 → List UInt8 → Option (Bool)) (p0 : List ty98.den) (k : AV → Objs → Option R) : ∀ (n : Nat) (s : S81), aloop tau Ops.std gl0 X81 (ent 91 (e91 c91) (ent 92 (e92 c92) (gnil))) ow [] Try.f81 k (I81 s) (E81 p0 s) n = ob (R81 c91 c92 p0 n s) (fun y => k (.c (.bool y)) [])
  | 0, s => by cases s <;> rfl
  | n + 1, s => by rw [el81]; exact nt81 Ops.std c91 c92 p0 _ _ some (fun y => k (.c (.bool y)) []) (rr81 c91 c92 p0 k n) (some s)
def F81 (c91 : Int → Option (Int)) (c92 : Int → Int → List UInt8 → List UInt8 → Option (Bool)) (p0 : List ty98.den) : Option (Bool) := T81 Ops.std c91 c92 p0 (R81 c91 c92 p0 1000000) some none
theorem fo81 {R : Type} (c91 : Int → Option (Int)) (c92 : Int → Int → List UInt8 → List UInt8 → Option (Bool)) (p0 : List ty98.den) (k : AV → Objs → Option R) : afun tau Ops.std gl0 X81 (ent 91 (e91 c91) (ent 92 (e92 c92) (gnil))) ow Try.f81 [.c (.list 98 ty98 p0)] [] k 1000000 = ob (F81 c91 c92 p0) (fun y => k (.c (.bool y)) []) := by rw [eq81]; exact nt81 Ops.std c91 c92 p0 _ _ some (fun y => k (.c (.bool y)) []) (rr81 c91 c92 p0 k 1000000) none
def e81 {R : Type} (c : List ty98.den → Option (Bool)) : Ent R := fun args objs k =>
  oCons args fun a0 l0 => oC a0 fun x0 => cList 98 ty98 x0 fun p0 => oNil l0 <| oNilO objs <| ob (c p0) fun y => k (.c (.bool y)) []
abbrev Sp81 (c : List ty98.den → Option (Bool)) : Prop := ∀ (p0 : List ty98.den) (y : Bool), c p0 = some y → Spec Try.prog gl0 81 [.c (.list 98 ty98 p0)] [] (.c (.bool y)) []
theorem ek81 {R : Type} {c : List ty98.den → Option (Bool)} (hs : Sp81 c) : EOk 81 (e81 (R := R) c) := fun args objs k r h => by
  unfold e81 at h
  obtain ⟨a0, l0, rfl, q1⟩ := oCons_some h
  obtain ⟨x0, rfl, q2⟩ := oC_some q1
  obtain ⟨p0, rfl, q3⟩ := cList_some q2
  obtain ⟨rfl, q4⟩ := oNil_some q3
  obtain ⟨rfl, q5⟩ := oNilO_some q4
  exact eok_of (hs p0) q5
theorem sf81 {c91 : Int → Option (Int)} {c92 : Int → Int → List UInt8 → List UInt8 → Option (Bool)} (h91 : Sp91 c91) (h92 : Sp92 c92) : Sp81 (F81 c91 c92) := fun p0 y hy => by
  refine spec_of (G := ent 91 (e91 c91) (ent 92 (e92 c92) (gnil))) (ent_ok (ek91 h91) (ent_ok (ek92 h92) (gnil_ok))) 1000000 (fn := Try.f81) (by kernel_rfl) (by kernel_rfl) (X := X81) (by kernel_rfl) ?_
  rw [fo81, hy]
  rfl
noncomputable def M81 : List ty98.den → Option (Bool) := F81 M91 M92
theorem sm81 : Sp81 M81 := sf81 sm91 sm92

/-! ### 64: lariat/formula.Right -/
def X64 : Aux := ⟨[(3, [1, 2, 4, 5, 6, 10, 11, 12, 13, 14, 15, 16, 17, 18, 19, 20, 21, 22, 23, 24, 25, 26, 27, 28, 29, 30, 31, 32, 33, 34, 35, 36, 37, 38, 39, 40, 41, 42, 43, 44, 45, 46, 47, 48, 49])], []⟩
inductive S64 where
  | l0 (v0_1 : Int) (v0_3 : Int) (v0_4 : Int)
def T64 {R : Type} (B : Ops) (c65 : Int → Option (Int)) (c81 : List ty98.den → Option (Bool)) (p0 : List ty66.den) (again : S64 → Option R) (k : (Bool) → Option R) : Option S64 → Option R
  | none =>
    again (.l0 0 (Nat.cast (List.length p0)) 0)
  | some (.l0 v0_1 v0_3 v0_4) =>
    cond (Ops.lt B v0_4 v0_3)
     (
      cond (Ops.inb B v0_4 (List.length p0))
       (
        ob (c65 (Prod.fst (List.getD p0 (Int.toNat v0_4) (Ty.dflt ty66)))) fun y0 =>
        cond (Ops.lt B y0 (0))
         (
          k false)
         (
          cond (Ops.lt B v0_1 y0)
           (
            k false)
           (
            cond (Ops.eq B (Prod.fst (List.getD p0 (Int.toNat v0_4) (Ty.dflt ty66))) (3))
             (
              ob (c81 (Prod.snd (List.getD p0 (Int.toNat v0_4) (Ty.dflt ty66)))) fun y1 =>
              cond (!y1)
               (
                k false)
               (
                cond (!Ops.eq B (Prod.fst (List.getD p0 (Int.toNat v0_4) (Ty.dflt ty66))) (3))
                 (
                  cond (Ops.lt B (0) (Nat.cast (List.length (Prod.snd (List.getD p0 (Int.toNat v0_4) (Ty.dflt ty66))))))
                   (
                    k false)
                   (
                    again (.l0 (IntKind.wrap IntKind.i64 (v0_1 + IntKind.wrap IntKind.i64 (1 - y0))) v0_3 (IntKind.wrap IntKind.i64 (v0_4 + 1)))))
                 (
                  again (.l0 (IntKind.wrap IntKind.i64 (v0_1 + IntKind.wrap IntKind.i64 (1 - y0))) v0_3 (IntKind.wrap IntKind.i64 (v0_4 + 1))))))
             (
              cond (!Ops.eq B (Prod.fst (List.getD p0 (Int.toNat v0_4) (Ty.dflt ty66))) (3))
               (
                cond (Ops.lt B (0) (Nat.cast (List.length (Prod.snd (List.getD p0 (Int.toNat v0_4) (Ty.dflt ty66))))))
                 (
                  k false)
                 (
                  again (.l0 (IntKind.wrap IntKind.i64 (v0_1 + IntKind.wrap IntKind.i64 (1 - y0))) v0_3 (IntKind.wrap IntKind.i64 (v0_4 + 1)))))
               (
                again (.l0 (IntKind.wrap IntKind.i64 (v0_1 + IntKind.wrap IntKind.i64 (1 - y0))) v0_3 (IntKind.wrap IntKind.i64 (v0_4 + 1))))))))
       (
        none))
     (
      cond (Ops.eq B v0_1 (1))
       (
        k (Ops.le B (Nat.cast (List.length p0)) (60)))
       (
        k false))
def E64 (p0 : List ty66.den) : S64 → List AV × Objs
  | .l0 v0_1 v0_3 v0_4 => (mk 57 [(0, .c (.list 66 ty66 p0)), (3, .c (.int .i64 v0_1)), (7, .c (.list 66 ty66 p0)), (8, .c (.int .i64 v0_3)), (9, .c (.int .i64 v0_4))], [])
def I64 : S64 → Nat
  | .l0 _ _ _ => 0
theorem eq64 {R : Type} (B : Ops) (c65 : Int → Option (Int)) (c81 : List ty98.den → Option (Bool)) (p0 : List ty66.den) (k : AV → Objs → Option R) (n : Nat) : afun tau B gl0 X64 (ent 65 (e65 c65) (ent 81 (e81 c81) (gnil))) ow Try.f64 [.c (.list 66 ty66 p0)] [] k n = T64 B c65 c81 p0 (fun s => aloop tau B gl0 X64 (ent 65 (e65 c65) (ent 81 (e81 c81) (gnil))) ow [] Try.f64 k (I64 s) (E64 p0 s) n) (fun y => k (.c (.bool y)) []) none := by kernel_rfl
theorem el64 {R : Type} (B : Ops) (c65 : Int → Option (Int)) (c81 : List ty98.den → Option (Bool)) (p0 : List ty66.den) (k : AV → Objs → Option R) (n : Nat) : ∀ s, aloop tau B gl0 X64 (ent 65 (e65 c65) (ent 81 (e81 c81) (gnil))) ow [] Try.f64 k (I64 s) (E64 p0 s) (n + 1) = T64 B c65 c81 p0 (fun s => aloop tau B gl0 X64 (ent 65 (e65 c65) (ent 81 (e81 c81) (gnil))) ow [] Try.f64 k (I64 s) (E64 p0 s) n) (fun y => k (.c (.bool y)) []) (some s)
  | .l0 v0_1 v0_3 v0_4 => by kernel_rfl
theorem nt64 {R R' : Type} (B : Ops) (c65 : Int → Option (Int)) (c81 : List ty98.den → Option (Bool)) (p0 : List ty66.den) (again : S64 → Option R) (again' : S64 → Option R') (k0 : (Bool) → Option R') (k : R' → Option R) (h : ∀ s, again s = ob (again' s) k) : ∀ s, T64 B c65 c81 p0 again (fun y => ob (k0 y) k) s = ob (T64 B c65 c81 p0 again' k0 s) k
  | none => by unfold T64; repeat' first | exact rfl | exact h _ | apply nat_cond | (apply nat_ob; intro)
  | some (.l0 v0_1 v0_3 v0_4) => by unfold T64; repeat' first | exact rfl | exact h _ | apply nat_cond | (apply nat_ob; intro)
def R64 (c65 : Int → Option (Int)) (c81 : List ty98.den → Option (Bool)) (p0 : List ty66.den) : Nat → S64 → Option (Bool)
  | 0, _ => none
  | n + 1, s => T64 Ops.std c65 c81 p0 (R64 c65 c81 p0 n) some (some s)
theorem rr64 {R : Type} (c65 : Int → Option (Int)) (c81 : List ty98.den → Option (Bool)) (p0 : List ty66.den) (k : AV → Objs → Option R) : ∀ (n : Nat) (s : S64), aloop tau Ops.std gl0 X64 (ent 65 (e65 c65) (ent 81 (e81 c81) (gnil))) ow [] Try.f64 k (I64 s) (E64 p0 s) n = ob (R64 c65 c81 p0 n s) (fun y => k (.c (.bool y)) [])
  | 0, s => by cases s <;> rfl
  | n + 1, s => by rw [el64]; exact nt64 Ops.std c65 c81 p0 _ _ some (fun y => k (.c (.bool y)) []) (rr64 c65 c81 p0 k n) (some s)
def F64 (c65 : Int → Option (Int)) (c81 : List ty98.den → Option (Bool)) (p0 : List ty66.den) : Option (Bool) := T64 Ops.std c65 c81 p0 (R64 c65 c81 p0 1000000) some none
theorem fo64 {R : Type} (c65 : Int → Option (Int)) (c81 : List ty98.den → Option (Bool)) (p0 : List ty66.den) (k : AV → Objs → Option R) : afun tau Ops.std gl0 X64 (ent 65 (e65 c65) (ent 81 (e81 c81) (gnil))) ow Try.f64 [.c (.list 66 ty66 p0)] [] k 1000000 = ob (F64 c65 c81 p0) (fun y => k (.c (.bool y)) []) := by rw [eq64]; exact nt64 Ops.std c65 c81 p0 _ _ some (fun y => k (.c (.bool y)) []) (rr64 c65 c81 p0 k 1000000) none
def e64 {R : Type} (c : List ty66.den → Option (Bool)) : Ent R := fun args objs k =>
  oCons args fun a0 l0 => oC a0 fun x0 => cList 66 ty66 x0 fun p0 => oNil l0 <| oNilO objs <| ob (c p0) fun y => k (.c (.bool y)) []
abbrev Sp64 (c : List ty66.den → Option (Bool)) : Prop := ∀ (p0 : List ty66.den) (y : Bool), c p0 = some y → Spec Try.prog gl0 64 [.c (.list 66 ty66 p0)] [] (.c (.bool y)) []
theorem ek64 {R : Type} {c : List ty66.den → Option (Bool)} (hs : Sp64 c) : EOk 64 (e64 (R := R) c) := fun args objs k r h => by
  unfold e64 at h
  obtain ⟨a0, l0, rfl, q1⟩ := oCons_some h
  obtain ⟨x0, rfl, q2⟩ := oC_some q1
  obtain ⟨p0, rfl, q3⟩ := cList_some q2
  obtain ⟨rfl, q4⟩ := oNil_some q3
  obtain ⟨rfl, q5⟩ := oNilO_some q4
  exact eok_of (hs p0) q5
theorem sf64 {c65 : Int → Option (Int)} {c81 : List ty98.den → Option (Bool)} (h65 : Sp65 c65) (h81 : Sp81 c81) : Sp64 (F64 c65 c81) := fun p0 y hy => by
  refine spec_of (G := ent 65 (e65 c65) (ent 81 (e81 c81) (gnil))) (ent_ok (ek65 h65) (ent_ok (ek81 h81) (gnil_ok))) 1000000 (fn := Try.f64) (by kernel_rfl) (by kernel_rfl) (X := X64) (by kernel_rfl) ?_
  rw [fo64, hy]
  rfl
noncomputable def M64 : List ty66.den → Option (Bool) := F64 M65 M81
theorem sm64 : Sp64 M64 := sf64 sm65 sm81

/-! ### 43: lariat/formula.Kids -/
def X43 : Aux := ⟨[(6, [0, 1, 5, 6, 7, 8, 9, 10, 14, 15, 16, 17, 18, 19, 20, 21, 22, 23, 24, 25, 26, 27, 28, 29, 30, 31, 32, 33, 34, 35, 36, 37])], []⟩
inductive S43 where
  | l0 (v0_1 : Int) (v0_2 : Int) (v0_4 : List ty22.den) (v0_5 : List ty3.den)
def T43 {R : Type} (B : Ops) (c64 : List ty66.den → Option (Bool)) (c65 : Int → Option (Int)) (c66 : List ty3.den → Option ((List ty3.den))) (p0 : List ty66.den) (again : S43 → Option R) (k : ((List ty22.den)) → Option R) : Option S43 → Option R
  | none =>
    ob (c64 p0) fun y0 =>
    cond (!y0)
     (
      k [])
     (
      again (.l0 (Nat.cast (List.length p0)) 0 [] []))
  | some (.l0 v0_1 v0_2 v0_4 v0_5) =>
    cond (Ops.lt B v0_2 v0_1)
     (
      cond (Ops.inb B v0_2 (List.length p0))
       (
        ob (c65 (Prod.fst (List.getD p0 (Int.toNat v0_2) (Ty.dflt ty66)))) fun y0 =>
        cond (Ops.inb B (IntKind.wrap IntKind.i64 (Nat.cast (List.length v0_5) - y0)) (List.length v0_5 + 1))
         (
          ob (c66 (List.drop (Int.toNat (IntKind.wrap IntKind.i64 (Nat.cast (List.length v0_5) - y0))) (List.take (List.length v0_5) v0_5))) fun y1 =>
          cond (Ops.lim B (List.length v0_4 + 1) (24))
           (
            cond (Ops.inb B (IntKind.wrap IntKind.i64 (Nat.cast (List.length v0_5) - y0)) (List.length v0_5 + 1))
             (
              cond (Ops.lim B (List.length (List.take (Int.toNat (IntKind.wrap IntKind.i64 (Nat.cast (List.length v0_5) - y0))) v0_5) + 1) (8))
               (
                again (.l0 v0_1 (IntKind.wrap IntKind.i64 (v0_2 + 1)) (v0_4 ++ [y1]) (List.take (Int.toNat (IntKind.wrap IntKind.i64 (Nat.cast (List.length v0_5) - y0))) v0_5 ++ [v0_2])))
               (
                none))
             (
              none))
           (
            none))
         (
          none))
       (
        none))
     (
      k v0_4)
def E43 (p0 : List ty66.den) : S43 → List AV × Objs
  | .l0 v0_1 v0_2 v0_4 v0_5 => (mk 39 [(2, .c (.own 2)), (3, .c (.own 3)), (4, .c (.own 4)), (11, .c (.list 66 ty66 p0)), (12, .c (.int .i64 v0_1)), (13, .c (.int .i64 v0_2))], [(2, .row 22 ty22 []), (3, .row 22 ty22 v0_4), (4, .row 3 ty3 v0_5)])
def I43 : S43 → Nat
  | .l0 _ _ _ _ => 0
theorem eq43 {R : Type} (B : Ops) (c64 : List ty66.den → Option (Bool)) (c65 : Int → Option (Int)) (c66 : List ty3.den → Option ((List ty3.den))) (p0 : List ty66.den) (k : AV → Objs → Option R) (n : Nat) : afun tau B gl0 X43 (ent 64 (e64 c64) (ent 65 (e65 c65) (ent 66 (e66 c66) (gnil)))) ow Try.f43 [.c (.list 66 ty66 p0)] [] k n = T43 B c64 c65 c66 p0 (fun s => aloop tau B gl0 X43 (ent 64 (e64 c64) (ent 65 (e65 c65) (ent 66 (e66 c66) (gnil)))) ow [] Try.f43 k (I43 s) (E43 p0 s) n) (fun y => k (.c (.own 500)) [(500, .row 22 ty22 y)]) none := by kernel_rfl
theorem el43 {R : Type} (B : Ops) (c64 : List ty66.den → Option (Bool)) (c65 : Int → Option (Int)) (c66 : List ty3.den → Option ((List ty3.den))) (p0 : List ty66.den) (k : AV → Objs → Option R) (n : Nat) : ∀ s, aloop tau B gl0 X43 (ent 64 (e64 c64) (ent 65 (e65 c65) (ent 66 (e66 c66) (gnil)))) ow [] Try.f43 k (I43 s) (E43 p0 s) (n + 1) = T43 B c64 c65 c66 p0 (fun s => aloop tau B gl0 X43 (ent 64 (e64 c64) (ent 65 (e65 c65) (ent 66 (e66 c66) (gnil)))) ow [] Try.f43 k (I43 s) (E43 p0 s) n) (fun y => k (.c (.own 500)) [(500, .row 22 ty22 y)]) (some s)
  | .l0 v0_1 v0_2 v0_4 v0_5 => by kernel_rfl
theorem nt43 {R R' : Type} (B : Ops) (c64 : List ty66.den → Option (Bool)) (c65 : Int → Option (Int)) (c66 : List ty3.den → Option ((List ty3.den))) (p0 : List ty66.den) (again : S43 → Option R) (again' : S43 → Option R') (k0 : ((List ty22.den)) → Option R') (k : R' → Option R) (h : ∀ s, again s = ob (again' s) k) : ∀ s, T43 B c64 c65 c66 p0 again (fun y => ob (k0 y) k) s = ob (T43 B c64 c65 c66 p0 again' k0 s) k
  | none => by unfold T43; repeat' first | exact rfl | exact h _ | apply nat_cond | (apply nat_ob; intro)
  | some (.l0 v0_1 v0_2 v0_4 v0_5) => by unfold T43; repeat' first | exact rfl | exact h _ | apply nat_cond | (apply nat_ob; intro)
def R43 (c64 : List ty66.den → Option (Bool)) (c65 : Int → Option (Int)) (c66 : List ty3.den → Option ((List ty3.den))) (p0 : List ty66.den) : Nat → S43 → Option ((List ty22.den))
  | 0, _ => none
  | n + 1, s => T43 Ops.std c64 c65 c66 p0 (R43 c64 c65 c66 p0 n) some (some s)
theorem rr43 {R : Type} (c64 : List ty66.den → Option (Bool)) (c65 : Int → Option (Int)) (c66 : List ty3.den → Option ((List ty3.den))) (p0 : List ty66.den) (k : AV → Objs → Option R) : ∀ (n : Nat) (s : S43), aloop tau Ops.std gl0 X43 (ent 64 (e64 c64) (ent 65 (e65 c65) (ent 66 (e66 c66) (gnil)))) ow [] Try.f43 k (I43 s) (E43 p0 s) n = ob (R43 c64 c65 c66 p0 n s) (fun y => k (.c (.own 500)) [(500, .row 22 ty22 y)])
  | 0, s => by cases s <;> rfl
  | n + 1, s => by rw [el43]; exact nt43 Ops.std c64 c65 c66 p0 _ _ some (fun y => k (.c (.own 500)) [(500, .row 22 ty22 y)]) (rr43 c64 c65 c66 p0 k n) (some s)
def F43 (c64 : List ty66.den → Option (Bool)) (c65 : Int → Option (Int)) (c66 : List ty3.den → Option ((List ty3.den))) (p0 : List ty66.den) : Option ((List ty22.den)) := T43 Ops.std c64 c65 c66 p0 (R43 c64 c65 c66 p0 1000000) some none
theorem fo43 {R : Type} (c64 : List ty66.den → Option (Bool)) (c65 : Int → Option (Int)) (c66 : List ty3.den → Option ((List ty3.den))) (p0 : List ty66.den) (k : AV → Objs → Option R) : afun tau Ops.std gl0 X43 (ent 64 (e64 c64) (ent 65 (e65 c65) (ent 66 (e66 c66) (gnil)))) ow Try.f43 [.c (.list 66 ty66 p0)] [] k 1000000 = ob (F43 c64 c65 c66 p0) (fun y => k (.c (.own 500)) [(500, .row 22 ty22 y)]) := by rw [eq43]; exact nt43 Ops.std c64 c65 c66 p0 _ _ some (fun y => k (.c (.own 500)) [(500, .row 22 ty22 y)]) (rr43 c64 c65 c66 p0 k 1000000) none
def e43 {R : Type} (c : List ty66.den → Option ((List ty22.den))) : Ent R := fun args objs k =>
  oCons args fun a0 l0 => oC a0 fun x0 => cList 66 ty66 x0 fun p0 => oNil l0 <| oNilO objs <| ob (c p0) fun y => k (.c (.own 500)) [(500, .row 22 ty22 y)]
abbrev Sp43 (c : List ty66.den → Option ((List ty22.den))) : Prop := ∀ (p0 : List ty66.den) (y : (List ty22.den)), c p0 = some y → Spec Try.prog gl0 43 [.c (.list 66 ty66 p0)] [] (.c (.own 500)) [(500, .row 22 ty22 y)]
theorem ek43 {R : Type} {c : List ty66.den → Option ((List ty22.den))} (hs : Sp43 c) : EOk 43 (e43 (R := R) c) := fun args objs k r h => by
  unfold e43 at h
  obtain ⟨a0, l0, rfl, q1⟩ := oCons_some h
  obtain ⟨x0, rfl, q2⟩ := oC_some q1
  obtain ⟨p0, rfl, q3⟩ := cList_some q2
  obtain ⟨rfl, q4⟩ := oNil_some q3
  obtain ⟨rfl, q5⟩ := oNilO_some q4
  exact eok_of (hs p0) q5
theorem sf43 {c64 : List ty66.den → Option (Bool)} {c65 : Int → Option (Int)} {c66 : List ty3.den → Option ((List ty3.den))} (h64 : Sp64 c64) (h65 : Sp65 c65) (h66 : Sp66 c66) : Sp43 (F43 c64 c65 c66) := fun p0 y hy => by
  refine spec_of (G := ent 64 (e64 c64) (ent 65 (e65 c65) (ent 66 (e66 c66) (gnil)))) (ent_ok (ek64 h64) (ent_ok (ek65 h65) (ent_ok (ek66 h66) (gnil_ok)))) 1000000 (fn := Try.f43) (by kernel_rfl) (by kernel_rfl) (X := X43) (by kernel_rfl) ?_
  rw [fo43, hy]
  rfl
noncomputable def M43 : List ty66.den → Option ((List ty22.den)) := F43 M64 M65 M66
theorem sm43 : Sp43 M43 := sf43 sm64 sm65 sm66

/-! ### 32: lariat/nnf.Is -/
def X32 : Aux := ⟨[(3, [1, 2, 4, 5, 6, 7, 11, 12, 13, 14, 15, 16, 17, 18, 19, 20, 21, 22, 23, 24, 25, 26, 27, 28, 29, 30, 31, 32, 33, 34, 35, 36, 37, 38, 39])], []⟩
inductive S32 where
  | l0 (v0_2 : Int) (v0_3 : Int) (v0_4 : List ty22.den)
def T32 {R : Type} (B : Ops) (c43 : List ty66.den → Option ((List ty22.den))) (p0 : List ty66.den) (again : S32 → Option R) (k : (Bool) → Option R) : Option S32 → Option R
  | none =>
    ob (c43 p0) fun y0 =>
    again (.l0 (Nat.cast (List.length p0)) 0 y0)
  | some (.l0 v0_2 v0_3 v0_4) =>
    cond (Ops.lt B v0_3 v0_2)
     (
      cond (Ops.inb B v0_3 (List.length p0))
       (
        cond (Ops.eq B (Prod.fst (List.getD p0 (Int.toNat v0_3) (Ty.dflt ty66))) (7))
         (
          k false)
         (
          cond (Ops.eq B (Prod.fst (List.getD p0 (Int.toNat v0_3) (Ty.dflt ty66))) (11))
           (
            k false)
           (
            cond (Ops.eq B (Prod.fst (List.getD p0 (Int.toNat v0_3) (Ty.dflt ty66))) (12))
             (
              k false)
             (
              cond (Ops.eq B (Prod.fst (List.getD p0 (Int.toNat v0_3) (Ty.dflt ty66))) (4))
               (
                cond (Ops.eq B (Nat.cast (List.length v0_4)) (0))
                 (
                  k false)
                 (
                  cond (Ops.inb B v0_3 (List.length v0_4))
                   (
                    cond (Ops.inb B (0) (List.length (List.getD v0_4 (Int.toNat v0_3) (Ty.dflt ty22))))
                     (
                      cond (Ops.inb B (List.getD (List.getD v0_4 (Int.toNat v0_3) (Ty.dflt ty22)) (Int.toNat (0)) (Ty.dflt (Ty.int IntKind.i64))) (List.length p0))
                       (
                        cond (!Ops.eq B (Prod.fst (List.getD p0 (Int.toNat (List.getD (List.getD v0_4 (Int.toNat v0_3) (Ty.dflt ty22)) (Int.toNat (0)) (Ty.dflt (Ty.int IntKind.i64)))) (Ty.dflt ty66))) (3))
                         (
                          k false)
                         (
                          again (.l0 v0_2 (IntKind.wrap IntKind.i64 (v0_3 + 1)) v0_4)))
                       (
                        none))
                     (
                      none))
                   (
                    none)))
               (
                again (.l0 v0_2 (IntKind.wrap IntKind.i64 (v0_3 + 1)) v0_4))))))
       (
        none))
     (
      k (Ops.lt B (0) (Nat.cast (List.length v0_4))))
def E32 (p0 : List ty66.den) : S32 → List AV × Objs
  | .l0 v0_2 v0_3 v0_4 => (mk 43 [(0, .c (.list 66 ty66 p0)), (3, .c (.own 3)), (8, .c (.list 66 ty66 p0)), (9, .c (.int .i64 v0_2)), (10, .c (.int .i64 v0_3))], [(3, .row 22 ty22 v0_4)])
def I32 : S32 → Nat
  | .l0 _ _ _ => 0
theorem eq32 {R : Type} (B : Ops) (c43 : List ty66.den → Option ((List ty22.den))) (p0 : List ty66.den) (k : AV → Objs → Option R) (n : Nat) : afun tau B gl0 X32 (ent 43 (e43 c43) (gnil)) ow Try.f32 [.c (.list 66 ty66 p0)] [] k n = T32 B c43 p0 (fun s => aloop tau B gl0 X32 (ent 43 (e43 c43) (gnil)) ow [] Try.f32 k (I32 s) (E32 p0 s) n) (fun y => k (.c (.bool y)) []) none := by kernel_rfl
theorem el32 {R : Type} (B : Ops) (c43 : List ty66.den → Option ((List ty22.den))) (p0 : List ty66.den) (k : AV → Objs → Option R) (n : Nat) : ∀ s, aloop tau B gl0 X32 (ent 43 (e43 c43) (gnil)) ow [] Try.f32 k (I32 s) (E32 p0 s) (n + 1) = T32 B c43 p0 (fun s => aloop tau B gl0 X32 (ent 43 (e43 c43) (gnil)) ow [] Try.f32 k (I32 s) (E32 p0 s) n) (fun y => k (.c (.bool y)) []) (some s)
  | .l0 v0_2 v0_3 v0_4 => by kernel_rfl
theorem nt32 {R R' : Type} (B : Ops) (c43 : List ty66.den → Option ((List ty22.den))) (p0 : List ty66.den) (again : S32 → Option R) (again' : S32 → Option R') (k0 : (Bool) → Option R') (k : R' → Option R) (h : ∀ s, again s = ob (again' s) k) : ∀ s, T32 B c43 p0 again (fun y => ob (k0 y) k) s = ob (T32 B c43 p0 again' k0 s) k
  | none => by unfold T32; repeat' first | exact rfl | exact h _ | apply nat_cond | (apply nat_ob; intro)
  | some (.l0 v0_2 v0_3 v0_4) => by unfold T32; repeat' first | exact rfl | exact h _ | apply nat_cond | (apply nat_ob; intro)
def R32 (c43 : List ty66.den → Option ((List ty22.den))) (p0 : List ty66.den) : Nat → S32 → Option (Bool)
  | 0, _ => none
  | n + 1, s => T32 Ops.std c43 p0 (R32 c43 p0 n) some (some s)
theorem rr32 {R : Type} (c43 : List ty66.den → Option ((List ty22.den))) (p0 : List ty66.den) (k : AV → Objs → Option R) : ∀ (n : Nat) (s : S32), aloop tau Ops.std gl0 X32 (ent 43 (e43 c43) (gnil)) ow [] Try.f32 k (I32 s) (E32 p0 s) n = ob (R32 c43 p0 n s) (fun y => k (.c (.bool y)) [])
  | 0, s => by cases s <;> rfl
  | n + 1, s => by rw [el32]; exact nt32 Ops.std c43 p0 _ _ some (fun y => k (.c (.bool y)) []) (rr32 c43 p0 k n) (some s)
def F32 (c43 : List ty66.den → Option ((List ty22.den))) (p0 : List ty66.den) : Option (Bool) := T32 Ops.std c43 p0 (R32 c43 p0 1000000) some none
theorem fo32 {R : Type} (c43 : List ty66.den → Option ((List ty22.den))) (p0 : List ty66.den) (k : AV → Objs → Option R) : afun tau Ops.std gl0 X32 (ent 43 (e43 c43) (gnil)) ow Try.f32 [.c (.list 66 ty66 p0)] [] k 1000000 = ob (F32 c43 p0) (fun y => k (.c (.bool y)) []) := by rw [eq32]; exact nt32 Ops.std c43 p0 _ _ some (fun y => k (.c (.bool y)) []) (rr32 c43 p0 k 1000000) none
def e32 {R : Type} (c : List ty66.den → Option (Bool)) : Ent R := fun args objs k =>
  oCons args fun a0 l0 => oC a0 fun x0 => cList 66 ty66 x0 fun p0 => oNil l0 <| oNilO objs <| ob (c p0) fun y => k (.c (.bool y)) []
abbrev Sp32 (c : List ty66.den → Option (Bool)) : Prop := ∀ (p0 : List ty66.den) (y : Bool), c p0 = some y → Spec Try.prog gl0 32 [.c (.list 66 ty66 p0)] [] (.c (.bool y)) []
theorem ek32 {R : Type} {c : List ty66.den → Option (Bool)} (hs : Sp32 c) : EOk 32 (e32 (R := R) c) := fun args objs k r h => by
  unfold e32 at h
  obtain ⟨a0, l0, rfl, q1⟩ := oCons_some h
  obtain ⟨x0, rfl, q2⟩ := oC_some q1
  obtain ⟨p0, rfl, q3⟩ := cList_some q2
  obtain ⟨rfl, q4⟩ := oNil_some q3
  obtain ⟨rfl, q5⟩ := oNilO_some q4
  exact eok_of (hs p0) q5
theorem sf32 {c43 : List ty66.den → Option ((List ty22.den))} (h43 : Sp43 c43) : Sp32 (F32 c43) := fun p0 y hy => by
  refine spec_of (G := ent 43 (e43 c43) (gnil)) (ent_ok (ek43 h43) (gnil_ok)) 1000000 (fn := Try.f32) (by kernel_rfl) (by kernel_rfl) (X := X32) (by kernel_rfl) ?_
  rw [fo32, hy]
  rfl
noncomputable def M32 : List ty66.den → Option (Bool) := F32 M43
theorem sm32 : Sp32 M32 := sf32 sm43

/-! ### 20: lariat/fair.Duties -/
def X20 : Aux := ⟨[(5, [0, 1, 4, 5, 6, 7, 8, 12, 13, 14, 15, 16, 17, 18, 19, 20, 21, 22, 23, 24, 25, 26, 27, 28])], []⟩
inductive S20 where
  | l0 (v0_1 : Int) (v0_2 : Int) (v0_4 : List ty3.den)
def T20 {R : Type} (B : Ops) (c32 : List ty66.den → Option (Bool)) (p0 : List ty66.den) (again : S20 → Option R) (k : ((List ty3.den)) → Option R) : Option S20 → Option R
  | none =>
    ob (c32 p0) fun y0 =>
    cond (!y0)
     (
      k [])
     (
      again (.l0 (Nat.cast (List.length p0)) 0 []))
  | some (.l0 v0_1 v0_2 v0_4) =>
    cond (Ops.lt B v0_2 v0_1)
     (
      cond (Ops.inb B v0_2 (List.length p0))
       (
        cond (Ops.eq B (Prod.fst (List.getD p0 (Int.toNat v0_2) (Ty.dflt ty66))) (9))
         (
          cond (Ops.lim B (List.length v0_4 + 1) (8))
           (
            again (.l0 v0_1 (IntKind.wrap IntKind.i64 (v0_2 + 1)) (v0_4 ++ [v0_2])))
           (
            none))
         (
          cond (Ops.eq B (Prod.fst (List.getD p0 (Int.toNat v0_2) (Ty.dflt ty66))) (10))
           (
            cond (Ops.lim B (List.length v0_4 + 1) (8))
             (
              again (.l0 v0_1 (IntKind.wrap IntKind.i64 (v0_2 + 1)) (v0_4 ++ [v0_2])))
             (
              none))
           (
            again (.l0 v0_1 (IntKind.wrap IntKind.i64 (v0_2 + 1)) v0_4))))
       (
        none))
     (
      k v0_4)
def E20 (p0 : List ty66.den) : S20 → List AV × Objs
  | .l0 v0_1 v0_2 v0_4 => (mk 30 [(2, .c (.own 2)), (3, .c (.own 3)), (9, .c (.list 66 ty66 p0)), (10, .c (.int .i64 v0_1)), (11, .c (.int .i64 v0_2))], [(2, .row 3 ty3 []), (3, .row 3 ty3 v0_4)])
def I20 : S20 → Nat
  | .l0 _ _ _ => 0
theorem eq20 {R : Type} (B : Ops) (c32 : List ty66.den → Option (Bool)) (p0 : List ty66.den) (k : AV → Objs → Option R) (n : Nat) : afun tau B gl0 X20 (ent 32 (e32 c32) (gnil)) ow Try.f20 [.c (.list 66 ty66 p0)] [] k n = T20 B c32 p0 (fun s => aloop tau B gl0 X20 (ent 32 (e32 c32) (gnil)) ow [] Try.f20 k (I20 s) (E20 p0 s) n) (fun y => k (.c (.own 500)) [(500, .row 3 ty3 y)]) none := by kernel_rfl
theorem el20 {R : Type} (B : Ops) (c32 : List ty66.den → Option (Bool)) (p0 : List ty66.den) (k : AV → Objs → Option R) (n : Nat) : ∀ s, aloop tau B gl0 X20 (ent 32 (e32 c32) (gnil)) ow [] Try.f20 k (I20 s) (E20 p0 s) (n + 1) = T20 B c32 p0 (fun s => aloop tau B gl0 X20 (ent 32 (e32 c32) (gnil)) ow [] Try.f20 k (I20 s) (E20 p0 s) n) (fun y => k (.c (.own 500)) [(500, .row 3 ty3 y)]) (some s)
  | .l0 v0_1 v0_2 v0_4 => by kernel_rfl
theorem nt20 {R R' : Type} (B : Ops) (c32 : List ty66.den → Option (Bool)) (p0 : List ty66.den) (again : S20 → Option R) (again' : S20 → Option R') (k0 : ((List ty3.den)) → Option R') (k : R' → Option R) (h : ∀ s, again s = ob (again' s) k) : ∀ s, T20 B c32 p0 again (fun y => ob (k0 y) k) s = ob (T20 B c32 p0 again' k0 s) k
  | none => by unfold T20; repeat' first | exact rfl | exact h _ | apply nat_cond | (apply nat_ob; intro)
  | some (.l0 v0_1 v0_2 v0_4) => by unfold T20; repeat' first | exact rfl | exact h _ | apply nat_cond | (apply nat_ob; intro)
def R20 (c32 : List ty66.den → Option (Bool)) (p0 : List ty66.den) : Nat → S20 → Option ((List ty3.den))
  | 0, _ => none
  | n + 1, s => T20 Ops.std c32 p0 (R20 c32 p0 n) some (some s)
theorem rr20 {R : Type} (c32 : List ty66.den → Option (Bool)) (p0 : List ty66.den) (k : AV → Objs → Option R) : ∀ (n : Nat) (s : S20), aloop tau Ops.std gl0 X20 (ent 32 (e32 c32) (gnil)) ow [] Try.f20 k (I20 s) (E20 p0 s) n = ob (R20 c32 p0 n s) (fun y => k (.c (.own 500)) [(500, .row 3 ty3 y)])
  | 0, s => by cases s <;> rfl
  | n + 1, s => by rw [el20]; exact nt20 Ops.std c32 p0 _ _ some (fun y => k (.c (.own 500)) [(500, .row 3 ty3 y)]) (rr20 c32 p0 k n) (some s)
def F20 (c32 : List ty66.den → Option (Bool)) (p0 : List ty66.den) : Option ((List ty3.den)) := T20 Ops.std c32 p0 (R20 c32 p0 1000000) some none
theorem fo20 {R : Type} (c32 : List ty66.den → Option (Bool)) (p0 : List ty66.den) (k : AV → Objs → Option R) : afun tau Ops.std gl0 X20 (ent 32 (e32 c32) (gnil)) ow Try.f20 [.c (.list 66 ty66 p0)] [] k 1000000 = ob (F20 c32 p0) (fun y => k (.c (.own 500)) [(500, .row 3 ty3 y)]) := by rw [eq20]; exact nt20 Ops.std c32 p0 _ _ some (fun y => k (.c (.own 500)) [(500, .row 3 ty3 y)]) (rr20 c32 p0 k 1000000) none
def e20 {R : Type} (c : List ty66.den → Option ((List ty3.den))) : Ent R := fun args objs k =>
  oCons args fun a0 l0 => oC a0 fun x0 => cList 66 ty66 x0 fun p0 => oNil l0 <| oNilO objs <| ob (c p0) fun y => k (.c (.own 500)) [(500, .row 3 ty3 y)]
abbrev Sp20 (c : List ty66.den → Option ((List ty3.den))) : Prop := ∀ (p0 : List ty66.den) (y : (List ty3.den)), c p0 = some y → Spec Try.prog gl0 20 [.c (.list 66 ty66 p0)] [] (.c (.own 500)) [(500, .row 3 ty3 y)]
theorem ek20 {R : Type} {c : List ty66.den → Option ((List ty3.den))} (hs : Sp20 c) : EOk 20 (e20 (R := R) c) := fun args objs k r h => by
  unfold e20 at h
  obtain ⟨a0, l0, rfl, q1⟩ := oCons_some h
  obtain ⟨x0, rfl, q2⟩ := oC_some q1
  obtain ⟨p0, rfl, q3⟩ := cList_some q2
  obtain ⟨rfl, q4⟩ := oNil_some q3
  obtain ⟨rfl, q5⟩ := oNilO_some q4
  exact eok_of (hs p0) q5
theorem sf20 {c32 : List ty66.den → Option (Bool)} (h32 : Sp32 c32) : Sp20 (F20 c32) := fun p0 y hy => by
  refine spec_of (G := ent 32 (e32 c32) (gnil)) (ent_ok (ek32 h32) (gnil_ok)) 1000000 (fn := Try.f20) (by kernel_rfl) (by kernel_rfl) (X := X20) (by kernel_rfl) ?_
  rw [fo20, hy]
  rfl
noncomputable def M20 : List ty66.den → Option ((List ty3.den)) := F20 M32
theorem sm20 : Sp20 M20 := sf20 sm32
end Go.Proofs.Ytfdlgmbbflmbgaa.Av
