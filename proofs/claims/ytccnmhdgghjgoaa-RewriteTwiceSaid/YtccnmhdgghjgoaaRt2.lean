/- Twins of functions, printed by gen.py. Conditions: none. -/
import Derived.Test.YtccnmhdgghjgoaaRt1
import Derived.KernelRfl
set_option linter.unusedVariables false
set_option maxRecDepth 100000
set_option maxHeartbeats 8000000
namespace Go.Proofs.Ytccnmhdgghjgoaa.Av
open Go
noncomputable def Rec60 : Nat → (Int → List ty106.den → Int → Int → Int → List ty36.den → Option ((List ty106.den) × Int × Int × Int × (List ty36.den))) × (List ty106.den → Int → Int → Int → List ty36.den → Option ((List ty106.den) × Int × Int × Int × (List ty36.den)))
  | 0 => (fun _ _ _ _ _ _ => none, fun _ _ _ _ _ => none)
  | d + 1 => (F60 (Rec60 d).2 (Rec60 d).1 M98, F97 M119 (Rec60 d).2 (Rec60 d).1 M120 M121 M61)
theorem rec60 : ∀ d, Sp60 (Rec60 d).1 ∧ Sp97 (Rec60 d).2
  | 0 => ⟨(fun p0 p1 p2 p3 p4 p5 y (h : (none : Option ((List ty106.den) × Int × Int × Int × (List ty36.den))) = some y) => by cases h), (fun p0 p1 p2 p3 p4 y (h : (none : Option ((List ty106.den) × Int × Int × Int × (List ty36.den))) = some y) => by cases h)⟩
  | d + 1 => ⟨sf60 (rec60 d).2 (rec60 d).1 sm98, sf97 sm119 (rec60 d).2 (rec60 d).1 sm120 sm121 sm61⟩
noncomputable def M60 : Int → List ty106.den → Int → Int → Int → List ty36.den → Option ((List ty106.den) × Int × Int × Int × (List ty36.den)) := (Rec60 1000000).1
theorem sm60 : Sp60 M60 := (rec60 1000000).1
noncomputable def M97 : List ty106.den → Int → Int → Int → List ty36.den → Option ((List ty106.den) × Int × Int × Int × (List ty36.den)) := (Rec60 1000000).2
theorem sm97 : Sp97 M97 := (rec60 1000000).2

/-! ### 33: lariat/lariatref13.Parse -/
def X33 : Aux := ⟨[], [(9, .lin [0, 1, 2, 3, 4, 5, 6, 7, 8, 9, 10, 11, 12, 13, 14])]⟩
def T33 {R : Type} (B : Ops) (c59 : List UInt8 → Option (Int × Int × (List ty106.den))) (c60 : Int → List ty106.den → Int → Int → Int → List ty36.den → Option ((List ty106.den) × Int × Int × Int × (List ty36.den))) (c61 : Int → Int → List ty106.den → Int → Int → Int → List ty36.den → Option ((List ty106.den) × Int × Int × Int × (List ty36.den))) (p0 : List UInt8) (k : (Int × Int × (List ty36.den)) → Option R) : Option R :=
  ob (c59 p0) fun y0 =>
  cond (!Ops.eq B (Prod.fst y0) (0))
   (
    k ((Prod.fst y0, Prod.fst (Prod.snd y0), mt (Ty.den (Ty.pair (Ty.int IntKind.i64) (Ty.list (97) (Ty.pair (Ty.int IntKind.i64) (Ty.pair (Ty.int IntKind.i64) (Ty.pair Ty.str Ty.str)))))))))
   (
    ob (c60 (1) (Prod.snd (Prod.snd y0)) (0) (0) (0) (mt (Ty.den (Ty.pair (Ty.int IntKind.i64) (Ty.list (97) (Ty.pair (Ty.int IntKind.i64) (Ty.pair (Ty.int IntKind.i64) (Ty.pair Ty.str Ty.str)))))))) fun y1 =>
    cond (Ops.eq B (Prod.fst (Prod.snd (Prod.snd y1))) (0))
     (
      cond (Ops.inb B (Prod.fst (Prod.snd y1)) (List.length (Prod.snd (Prod.snd y0))))
       (
        cond (!Ops.eq B (Prod.fst (List.getD (Prod.snd (Prod.snd y0)) (Int.toNat (Prod.fst (Prod.snd y1))) (Ty.dflt ty106))) (5))
         (
          ob (c61 (2) (Prod.fst (Prod.snd y1)) (Prod.fst y1) (Prod.fst (Prod.snd y1)) (Prod.fst (Prod.snd (Prod.snd y1))) (Prod.fst (Prod.snd (Prod.snd (Prod.snd y1)))) (Prod.snd (Prod.snd (Prod.snd (Prod.snd y1))))) fun y2 =>
          cond (!Ops.eq B (Prod.fst (Prod.snd (Prod.snd y2))) (0))
           (
            cond (Ops.inb B (Prod.fst (Prod.snd (Prod.snd (Prod.snd y2)))) (List.length (Prod.snd (Prod.snd y0))))
             (
              k ((Prod.fst (Prod.snd (Prod.snd y2)), Prod.snd (Prod.snd (Prod.snd (List.getD (Prod.snd (Prod.snd y0)) (Int.toNat (Prod.fst (Prod.snd (Prod.snd (Prod.snd y2))))) (Ty.dflt ty106)))), mt (Ty.den (Ty.pair (Ty.int IntKind.i64) (Ty.list (97) (Ty.pair (Ty.int IntKind.i64) (Ty.pair (Ty.int IntKind.i64) (Ty.pair Ty.str Ty.str)))))))))
             (
              none))
           (
            cond (Ops.lt B (24) (Nat.cast (List.length (Prod.snd (Prod.snd (Prod.snd (Prod.snd y2)))))))
             (
              k ((13, 0, mt (Ty.den (Ty.pair (Ty.int IntKind.i64) (Ty.list (97) (Ty.pair (Ty.int IntKind.i64) (Ty.pair (Ty.int IntKind.i64) (Ty.pair Ty.str Ty.str)))))))))
             (
              k ((0, 0, Prod.snd (Prod.snd (Prod.snd (Prod.snd y2))))))))
         (
          cond (!Ops.eq B (Prod.fst (Prod.snd (Prod.snd y1))) (0))
           (
            cond (Ops.inb B (Prod.fst (Prod.snd (Prod.snd (Prod.snd y1)))) (List.length (Prod.snd (Prod.snd y0))))
             (
              k ((Prod.fst (Prod.snd (Prod.snd y1)), Prod.snd (Prod.snd (Prod.snd (List.getD (Prod.snd (Prod.snd y0)) (Int.toNat (Prod.fst (Prod.snd (Prod.snd (Prod.snd y1))))) (Ty.dflt ty106)))), mt (Ty.den (Ty.pair (Ty.int IntKind.i64) (Ty.list (97) (Ty.pair (Ty.int IntKind.i64) (Ty.pair (Ty.int IntKind.i64) (Ty.pair Ty.str Ty.str)))))))))
             (
              none))
           (
            cond (Ops.lt B (24) (Nat.cast (List.length (Prod.snd (Prod.snd (Prod.snd (Prod.snd y1)))))))
             (
              k ((13, 0, mt (Ty.den (Ty.pair (Ty.int IntKind.i64) (Ty.list (97) (Ty.pair (Ty.int IntKind.i64) (Ty.pair (Ty.int IntKind.i64) (Ty.pair Ty.str Ty.str)))))))))
             (
              k ((0, 0, Prod.snd (Prod.snd (Prod.snd (Prod.snd y1)))))))))
       (
        none))
     (
      cond (!Ops.eq B (Prod.fst (Prod.snd (Prod.snd y1))) (0))
       (
        cond (Ops.inb B (Prod.fst (Prod.snd (Prod.snd (Prod.snd y1)))) (List.length (Prod.snd (Prod.snd y0))))
         (
          k ((Prod.fst (Prod.snd (Prod.snd y1)), Prod.snd (Prod.snd (Prod.snd (List.getD (Prod.snd (Prod.snd y0)) (Int.toNat (Prod.fst (Prod.snd (Prod.snd (Prod.snd y1))))) (Ty.dflt ty106)))), mt (Ty.den (Ty.pair (Ty.int IntKind.i64) (Ty.list (97) (Ty.pair (Ty.int IntKind.i64) (Ty.pair (Ty.int IntKind.i64) (Ty.pair Ty.str Ty.str)))))))))
         (
          none))
       (
        cond (Ops.lt B (24) (Nat.cast (List.length (Prod.snd (Prod.snd (Prod.snd (Prod.snd y1)))))))
         (
          k ((13, 0, mt (Ty.den (Ty.pair (Ty.int IntKind.i64) (Ty.list (97) (Ty.pair (Ty.int IntKind.i64) (Ty.pair (Ty.int IntKind.i64) (Ty.pair Ty.str Ty.str)))))))))
         (
          k ((0, 0, Prod.snd (Prod.snd (Prod.snd (Prod.snd y1)))))))))
theorem eq33 {R : Type} (B : Ops) (c59 : List UInt8 → Option (Int × Int × (List ty106.den))) (c60 : Int → List ty106.den → Int → Int → Int → List ty36.den → Option ((List ty106.den) × Int × Int × Int × (List ty36.den))) (c61 : Int → Int → List ty106.den → Int → Int → Int → List ty36.den → Option ((List ty106.den) × Int × Int × Int × (List ty36.den))) (p0 : List UInt8) (k : AV → Objs → Option R) (n : Nat) : afun tau B gl0 X33 (ent 59 (e59 c59) (ent 60 (e60 c60) (ent 61 (e61 c61) (gnil)))) ow Try.f33 [.c (.str p0)] [] k n = T33 B c59 c60 c61 p0 (fun y => k (.tup [(false, [.own 501000]), (false, [.int .i64 y.1]), (false, [.int .i64 y.2.1])]) [(501000, .row 36 ty36 y.2.2)]) := by kernel_rfl
theorem nt33 {R R' : Type} (B : Ops) (c59 : List UInt8 → Option (Int × Int × (List ty106.den))) (c60 : Int → List ty106.den → Int → Int → Int → List ty36.den → Option ((List ty106.den) × Int × Int × Int × (List ty36.den))) (c61 : Int → Int → List ty106.den → Int → Int → Int → List ty36.den → Option ((List ty106.den) × Int × Int × Int × (List ty36.den))) (p0 : List UInt8) (k0 : (Int × Int × (List ty36.den)) → Option R') (k : R' → Option R) : T33 B c59 c60 c61 p0 (fun y => ob (k0 y) k) = ob (T33 B c59 c60 c61 p0 k0) k := by
  unfold T33
  repeat' first | exact rfl | apply nat_cond | (apply nat_ob; intro)
def F33 (c59 : List UInt8 → Option (Int × Int × (List ty106.den))) (c60 : Int → List ty106.den → Int → Int → Int → List ty36.den → Option ((List ty106.den) × Int × Int × Int × (List ty36.den))) (c61 : Int → Int → List ty106.den → Int → Int → Int → List ty36.den → Option ((List ty106.den) × Int × Int × Int × (List ty36.den))) (p0 : List UInt8) : Option (Int × Int × (List ty36.den)) := T33 Ops.std c59 c60 c61 p0 some
theorem fo33 {R : Type} (c59 : List UInt8 → Option (Int × Int × (List ty106.den))) (c60 : Int → List ty106.den → Int → Int → Int → List ty36.den → Option ((List ty106.den) × Int × Int × Int × (List ty36.den))) (c61 : Int → Int → List ty106.den → Int → Int → Int → List ty36.den → Option ((List ty106.den) × Int × Int × Int × (List ty36.den))) (p0 : List UInt8) (k : AV → Objs → Option R) (n : Nat) : afun tau Ops.std gl0 X33 (ent 59 (e59 c59) (ent 60 (e60 c60) (ent 61 (e61 c61) (gnil)))) ow Try.f33 [.c (.str p0)] [] k n = ob (F33 c59 c60 c61 p0) (fun y => k (.tup [(false, [.own 501000]), (false, [.int .i64 y.1]), (false, [.int .i64 y.2.1])]) [(501000, .row 36 ty36 y.2.2)]) := by rw [eq33]; exact nt33 Ops.std c59 c60 c61 p0 some (fun y => k (.tup [(false, [.own 501000]), (false, [.int .i64 y.1]), (false, [.int .i64 y.2.1])]) [(501000, .row 36 ty36 y.2.2)])
def e33 {R : Type} (c : List UInt8 → Option (Int × Int × (List ty36.den))) : Ent R := fun args objs k =>
  oCons args fun a0 l0 => oC a0 fun x0 => cStr x0 fun p0 => oNil l0 <| oNilO objs <| ob (c p0) fun y => k (.tup [(false, [.own 501000]), (false, [.int .i64 y.1]), (false, [.int .i64 y.2.1])]) [(501000, .row 36 ty36 y.2.2)]
abbrev Sp33 (c : List UInt8 → Option (Int × Int × (List ty36.den))) : Prop := ∀ (p0 : List UInt8) (y : Int × Int × (List ty36.den)), c p0 = some y → Spec Try.prog gl0 33 [.c (.str p0)] [] (.tup [(false, [.own 501000]), (false, [.int .i64 y.1]), (false, [.int .i64 y.2.1])]) [(501000, .row 36 ty36 y.2.2)]
theorem ek33 {R : Type} {c : List UInt8 → Option (Int × Int × (List ty36.den))} (hs : Sp33 c) : EOk 33 (e33 (R := R) c) := fun args objs k r h => by
  unfold e33 at h
  obtain ⟨a0, l0, rfl, q1⟩ := oCons_some h
  obtain ⟨x0, rfl, q2⟩ := oC_some q1
  obtain ⟨p0, rfl, q3⟩ := cStr_some q2
  obtain ⟨rfl, q4⟩ := oNil_some q3
  obtain ⟨rfl, q5⟩ := oNilO_some q4
  exact eok_of (hs p0) q5
theorem sf33 {c59 : List UInt8 → Option (Int × Int × (List ty106.den))} {c60 : Int → List ty106.den → Int → Int → Int → List ty36.den → Option ((List ty106.den) × Int × Int × Int × (List ty36.den))} {c61 : Int → Int → List ty106.den → Int → Int → Int → List ty36.den → Option ((List ty106.den) × Int × Int × Int × (List ty36.den))} (h59 : Sp59 c59) (h60 : Sp60 c60) (h61 : Sp61 c61) : Sp33 (F33 c59 c60 c61) := fun p0 y hy => by
  refine spec_of (G := ent 59 (e59 c59) (ent 60 (e60 c60) (ent 61 (e61 c61) (gnil)))) (ent_ok (ek59 h59) (ent_ok (ek60 h60) (ent_ok (ek61 h61) (gnil_ok)))) 1000000 (fn := Try.f33) (by kernel_rfl) (by kernel_rfl) (X := X33) (by kernel_rfl) ?_
  rw [fo33, hy]
  rfl
noncomputable def M33 : List UInt8 → Option (Int × Int × (List ty36.den)) := F33 M59 M60 M61
theorem sm33 : Sp33 M33 := sf33 sm59 sm60 sm61

/-! ### 10: lariat/lariatlaw15.of -/
def X10 : Aux := ⟨[], []⟩
def T10 {R : Type} (B : Ops) (c33 : List UInt8 → Option (Int × Int × (List ty36.den))) (p0 : List UInt8) (k : ((List ty36.den)) → Option R) : Option R :=
  ob (c33 p0) fun y0 =>
  k (Prod.snd (Prod.snd y0))
theorem eq10 {R : Type} (B : Ops) (c33 : List UInt8 → Option (Int × Int × (List ty36.den))) (p0 : List UInt8) (k : AV → Objs → Option R) (n : Nat) : afun tau B gl0 X10 (ent 33 (e33 c33) (gnil)) ow Try.f10 [.c (.str p0)] [] k n = T10 B c33 p0 (fun y => k (.c (.own 500)) [(500, .row 36 ty36 y)]) := by kernel_rfl
theorem nt10 {R R' : Type} (B : Ops) (c33 : List UInt8 → Option (Int × Int × (List ty36.den))) (p0 : List UInt8) (k0 : ((List ty36.den)) → Option R') (k : R' → Option R) : T10 B c33 p0 (fun y => ob (k0 y) k) = ob (T10 B c33 p0 k0) k := by
  unfold T10
  repeat' first | exact rfl | apply nat_cond | (apply nat_ob; intro)
def F10 (c33 : List UInt8 → Option (Int × Int × (List ty36.den))) (p0 : List UInt8) : Option ((List ty36.den)) := T10 Ops.std c33 p0 some
theorem fo10 {R : Type} (c33 : List UInt8 → Option (Int × Int × (List ty36.den))) (p0 : List UInt8) (k : AV → Objs → Option R) (n : Nat) : afun tau Ops.std gl0 X10 (ent 33 (e33 c33) (gnil)) ow Try.f10 [.c (.str p0)] [] k n = ob (F10 c33 p0) (fun y => k (.c (.own 500)) [(500, .row 36 ty36 y)]) := by rw [eq10]; exact nt10 Ops.std c33 p0 some (fun y => k (.c (.own 500)) [(500, .row 36 ty36 y)])
def e10 {R : Type} (c : List UInt8 → Option ((List ty36.den))) : Ent R := fun args objs k =>
  oCons args fun a0 l0 => oC a0 fun x0 => cStr x0 fun p0 => oNil l0 <| oNilO objs <| ob (c p0) fun y => k (.c (.own 500)) [(500, .row 36 ty36 y)]
abbrev Sp10 (c : List UInt8 → Option ((List ty36.den))) : Prop := ∀ (p0 : List UInt8) (y : (List ty36.den)), c p0 = some y → Spec Try.prog gl0 10 [.c (.str p0)] [] (.c (.own 500)) [(500, .row 36 ty36 y)]
theorem ek10 {R : Type} {c : List UInt8 → Option ((List ty36.den))} (hs : Sp10 c) : EOk 10 (e10 (R := R) c) := fun args objs k r h => by
  unfold e10 at h
  obtain ⟨a0, l0, rfl, q1⟩ := oCons_some h
  obtain ⟨x0, rfl, q2⟩ := oC_some q1
  obtain ⟨p0, rfl, q3⟩ := cStr_some q2
  obtain ⟨rfl, q4⟩ := oNil_some q3
  obtain ⟨rfl, q5⟩ := oNilO_some q4
  exact eok_of (hs p0) q5
theorem sf10 {c33 : List UInt8 → Option (Int × Int × (List ty36.den))} (h33 : Sp33 c33) : Sp10 (F10 c33) := fun p0 y hy => by
  refine spec_of (G := ent 33 (e33 c33) (gnil)) (ent_ok (ek33 h33) (gnil_ok)) 1000000 (fn := Try.f10) (by kernel_rfl) (by kernel_rfl) (X := X10) (by kernel_rfl) ?_
  rw [fo10, hy]
  rfl
noncomputable def M10 : List UInt8 → Option ((List ty36.den)) := F10 M33
theorem sm10 : Sp10 M10 := sf10 sm33

/-! ### 116: lariat/expr.operands -/
def X116 : Aux := ⟨[], []⟩
def T116 {R : Type} (B : Ops) (p0 : Int) (k : (Int) → Option R) : Option R :=
  cond (Ops.lt B p0 (1))
   (
    k (-1))
   (
    cond (Ops.lt B (16) p0)
     (
      k (-1))
     (
      cond (Ops.le B p0 (3))
       (
        k 0)
       (
        cond (Ops.le B p0 (5))
         (
          k 1)
         (
          k 2))))
theorem eq116 {R : Type} (B : Ops) (p0 : Int) (k : AV → Objs → Option R) (n : Nat) : afun tau B gl0 X116 (gnil) ow Try.f116 [.c (.int .i64 p0)] [] k n = T116 B p0 (fun y => k (.c (.int .i64 y)) []) := by kernel_rfl
theorem nt116 {R R' : Type} (B : Ops) (p0 : Int) (k0 : (Int) → Option R') (k : R' → Option R) : T116 B p0 (fun y => ob (k0 y) k) = ob (T116 B p0 k0) k := by
  unfold T116
  repeat' first | exact rfl | apply nat_cond | (apply nat_ob; intro)
def F116 (p0 : Int) : Option (Int) := T116 Ops.std p0 some
theorem fo116 {R : Type} (p0 : Int) (k : AV → Objs → Option R) (n : Nat) : afun tau Ops.std gl0 X116 (gnil) ow Try.f116 [.c (.int .i64 p0)] [] k n = ob (F116 p0) (fun y => k (.c (.int .i64 y)) []) := by rw [eq116]; exact nt116 Ops.std p0 some (fun y => k (.c (.int .i64 y)) [])
def e116 {R : Type} (c : Int → Option (Int)) : Ent R := fun args objs k =>
  oCons args fun a0 l0 => oC a0 fun x0 => cInt .i64 x0 fun p0 => oNil l0 <| oNilO objs <| ob (c p0) fun y => k (.c (.int .i64 y)) []
abbrev Sp116 (c : Int → Option (Int)) : Prop := ∀ (p0 : Int) (y : Int), c p0 = some y → Spec Try.prog gl0 116 [.c (.int .i64 p0)] [] (.c (.int .i64 y)) []
theorem ek116 {R : Type} {c : Int → Option (Int)} (hs : Sp116 c) : EOk 116 (e116 (R := R) c) := fun args objs k r h => by
  unfold e116 at h
  obtain ⟨a0, l0, rfl, q1⟩ := oCons_some h
  obtain ⟨x0, rfl, q2⟩ := oC_some q1
  obtain ⟨p0, rfl, q3⟩ := cInt_some q2
  obtain ⟨rfl, q4⟩ := oNil_some q3
  obtain ⟨rfl, q5⟩ := oNilO_some q4
  exact eok_of (hs p0) q5
theorem sf116 : Sp116 (F116) := fun p0 y hy => by
  refine spec_of (G := gnil) (gnil_ok) 1000000 (fn := Try.f116) (by kernel_rfl) (by kernel_rfl) (X := X116) (by kernel_rfl) ?_
  rw [fo116, hy]
  rfl
noncomputable def M116 : Int → Option (Int) := F116
theorem sm116 : Sp116 M116 := sf116

/-! ### 132: lariat/lex.begins -/
def X132 : Aux := ⟨[], []⟩
def T132 {R : Type} (B : Ops) (p0 : Int) (k : (Bool) → Option R) : Option R :=
  cond (Ops.le B (97) p0)
   (
    cond (Ops.le B p0 (122))
     (
      k true)
     (
      k (Ops.eq B p0 (95))))
   (
    k (Ops.eq B p0 (95)))
theorem eq132 {R : Type} (B : Ops) (p0 : Int) (k : AV → Objs → Option R) (n : Nat) : afun tau B gl0 X132 (gnil) ow Try.f132 [.c (.int .u8 p0)] [] k n = T132 B p0 (fun y => k (.c (.bool y)) []) := by kernel_rfl
theorem nt132 {R R' : Type} (B : Ops) (p0 : Int) (k0 : (Bool) → Option R') (k : R' → Option R) : T132 B p0 (fun y => ob (k0 y) k) = ob (T132 B p0 k0) k := by
  unfold T132
  repeat' first | exact rfl | apply nat_cond | (apply nat_ob; intro)
def F132 (p0 : Int) : Option (Bool) := T132 Ops.std p0 some
theorem fo132 {R : Type} (p0 : Int) (k : AV → Objs → Option R) (n : Nat) : afun tau Ops.std gl0 X132 (gnil) ow Try.f132 [.c (.int .u8 p0)] [] k n = ob (F132 p0) (fun y => k (.c (.bool y)) []) := by rw [eq132]; exact nt132 Ops.std p0 some (fun y => k (.c (.bool y)) [])
def e132 {R : Type} (c : Int → Option (Bool)) : Ent R := fun args objs k =>
  oCons args fun a0 l0 => oC a0 fun x0 => cInt .u8 x0 fun p0 => oNil l0 <| oNilO objs <| ob (c p0) fun y => k (.c (.bool y)) []
abbrev Sp132 (c : Int → Option (Bool)) : Prop := ∀ (p0 : Int) (y : Bool), c p0 = some y → Spec Try.prog gl0 132 [.c (.int .u8 p0)] [] (.c (.bool y)) []
theorem ek132 {R : Type} {c : Int → Option (Bool)} (hs : Sp132 c) : EOk 132 (e132 (R := R) c) := fun args objs k r h => by
  unfold e132 at h
  obtain ⟨a0, l0, rfl, q1⟩ := oCons_some h
  obtain ⟨x0, rfl, q2⟩ := oC_some q1
  obtain ⟨p0, rfl, q3⟩ := cInt_some q2
  obtain ⟨rfl, q4⟩ := oNil_some q3
  obtain ⟨rfl, q5⟩ := oNilO_some q4
  exact eok_of (hs p0) q5
theorem sf132 : Sp132 (F132) := fun p0 y hy => by
  refine spec_of (G := gnil) (gnil_ok) 1000000 (fn := Try.f132) (by kernel_rfl) (by kernel_rfl) (X := X132) (by kernel_rfl) ?_
  rw [fo132, hy]
  rfl
noncomputable def M132 : Int → Option (Bool) := F132
theorem sm132 : Sp132 M132 := sf132

/-! ### 137: lariat/lex.digit -/
def X137 : Aux := ⟨[], []⟩
def T137 {R : Type} (B : Ops) (p0 : Int) (k : (Bool) → Option R) : Option R :=
  cond (Ops.le B (48) p0)
   (
    k (Ops.le B p0 (57)))
   (
    k false)
theorem eq137 {R : Type} (B : Ops) (p0 : Int) (k : AV → Objs → Option R) (n : Nat) : afun tau B gl0 X137 (gnil) ow Try.f137 [.c (.int .u8 p0)] [] k n = T137 B p0 (fun y => k (.c (.bool y)) []) := by kernel_rfl
theorem nt137 {R R' : Type} (B : Ops) (p0 : Int) (k0 : (Bool) → Option R') (k : R' → Option R) : T137 B p0 (fun y => ob (k0 y) k) = ob (T137 B p0 k0) k := by
  unfold T137
  repeat' first | exact rfl | apply nat_cond | (apply nat_ob; intro)
def F137 (p0 : Int) : Option (Bool) := T137 Ops.std p0 some
theorem fo137 {R : Type} (p0 : Int) (k : AV → Objs → Option R) (n : Nat) : afun tau Ops.std gl0 X137 (gnil) ow Try.f137 [.c (.int .u8 p0)] [] k n = ob (F137 p0) (fun y => k (.c (.bool y)) []) := by rw [eq137]; exact nt137 Ops.std p0 some (fun y => k (.c (.bool y)) [])
def e137 {R : Type} (c : Int → Option (Bool)) : Ent R := fun args objs k =>
  oCons args fun a0 l0 => oC a0 fun x0 => cInt .u8 x0 fun p0 => oNil l0 <| oNilO objs <| ob (c p0) fun y => k (.c (.bool y)) []
abbrev Sp137 (c : Int → Option (Bool)) : Prop := ∀ (p0 : Int) (y : Bool), c p0 = some y → Spec Try.prog gl0 137 [.c (.int .u8 p0)] [] (.c (.bool y)) []
theorem ek137 {R : Type} {c : Int → Option (Bool)} (hs : Sp137 c) : EOk 137 (e137 (R := R) c) := fun args objs k r h => by
  unfold e137 at h
  obtain ⟨a0, l0, rfl, q1⟩ := oCons_some h
  obtain ⟨x0, rfl, q2⟩ := oC_some q1
  obtain ⟨p0, rfl, q3⟩ := cInt_some q2
  obtain ⟨rfl, q4⟩ := oNil_some q3
  obtain ⟨rfl, q5⟩ := oNilO_some q4
  exact eok_of (hs p0) q5
theorem sf137 : Sp137 (F137) := fun p0 y hy => by
  refine spec_of (G := gnil) (gnil_ok) 1000000 (fn := Try.f137) (by kernel_rfl) (by kernel_rfl) (X := X137) (by kernel_rfl) ?_
  rw [fo137, hy]
  rfl
noncomputable def M137 : Int → Option (Bool) := F137
theorem sm137 : Sp137 M137 := sf137

/-! ### 134: lariat/lex.within -/
def X134 : Aux := ⟨[], []⟩
def T134 {R : Type} (B : Ops) (c132 : Int → Option (Bool)) (c137 : Int → Option (Bool)) (p0 : Int) (k : (Bool) → Option R) : Option R :=
  ob (c132 p0) fun y0 =>
  cond (y0)
   (
    k true)
   (
    ob (c137 p0) fun y1 =>
    k y1)
theorem eq134 {R : Type} (B : Ops) (c132 : Int → Option (Bool)) (c137 : Int → Option (Bool)) (p0 : Int) (k : AV → Objs → Option R) (n : Nat) : afun tau B gl0 X134 (ent 132 (e132 c132) (ent 137 (e137 c137) (gnil))) ow Try.f134 [.c (.int .u8 p0)] [] k n = T134 B c132 c137 p0 (fun y => k (.c (.bool y)) []) := by kernel_rfl
theorem nt134 {R R' : Type} (B : Ops) (c132 : Int → Option (Bool)) (c137 : Int → Option (Bool)) (p0 : Int) (k0 : (Bool) → Option R') (k : R' → Option R) : T134 B c132 c137 p0 (fun y => ob (k0 y) k) = ob (T134 B c132 c137 p0 k0) k := by
  unfold T134
  repeat' first | exact rfl | apply nat_cond | (apply nat_ob; intro)
def F134 (c132 : Int → Option (Bool)) (c137 : Int → Option (Bool)) (p0 : Int) : Option (Bool) := T134 Ops.std c132 c137 p0 some
theorem fo134 {R : Type} (c132 : Int → Option (Bool)) (c137 : Int → Option (Bool)) (p0 : Int) (k : AV → Objs → Option R) (n : Nat) : afun tau Ops.std gl0 X134 (ent 132 (e132 c132) (ent 137 (e137 c137) (gnil))) ow Try.f134 [.c (.int .u8 p0)] [] k n = ob (F134 c132 c137 p0) (fun y => k (.c (.bool y)) []) := by rw [eq134]; exact nt134 Ops.std c132 c137 p0 some (fun y => k (.c (.bool y)) [])
def e134 {R : Type} (c : Int → Option (Bool)) : Ent R := fun args objs k =>
  oCons args fun a0 l0 => oC a0 fun x0 => cInt .u8 x0 fun p0 => oNil l0 <| oNilO objs <| ob (c p0) fun y => k (.c (.bool y)) []
abbrev Sp134 (c : Int → Option (Bool)) : Prop := ∀ (p0 : Int) (y : Bool), c p0 = some y → Spec Try.prog gl0 134 [.c (.int .u8 p0)] [] (.c (.bool y)) []
theorem ek134 {R : Type} {c : Int → Option (Bool)} (hs : Sp134 c) : EOk 134 (e134 (R := R) c) := fun args objs k r h => by
  unfold e134 at h
  obtain ⟨a0, l0, rfl, q1⟩ := oCons_some h
  obtain ⟨x0, rfl, q2⟩ := oC_some q1
  obtain ⟨p0, rfl, q3⟩ := cInt_some q2
  obtain ⟨rfl, q4⟩ := oNil_some q3
  obtain ⟨rfl, q5⟩ := oNilO_some q4
  exact eok_of (hs p0) q5
theorem sf134 {c132 : Int → Option (Bool)} {c137 : Int → Option (Bool)} (h132 : Sp132 c132) (h137 : Sp137 c137) : Sp134 (F134 c132 c137) := fun p0 y hy => by
  refine spec_of (G := ent 132 (e132 c132) (ent 137 (e137 c137) (gnil))) (ent_ok (ek132 h132) (ent_ok (ek137 h137) (gnil_ok))) 1000000 (fn := Try.f134) (by kernel_rfl) (by kernel_rfl) (X := X134) (by kernel_rfl) ?_
  rw [fo134, hy]
  rfl
noncomputable def M134 : Int → Option (Bool) := F134 M132 M137
theorem sm134 : Sp134 M134 := sf134 sm132 sm137

/-! ### 133: lariat/lex.run -/
def X133 : Aux := ⟨[(2, [2, 3, 4, 6, 7, 8, 9, 10, 11, 12, 13, 14, 15, 16, 17, 18, 19, 20, 21])], []⟩
inductive S133 where
  | l0 (v0_1 : Int)
def T133 {R : Type} (B : Ops) (c134 : Int → Option (Bool)) (p0 : List UInt8) (again : S133 → Option R) (k : ((List UInt8)) → Option R) : Option S133 → Option R
  | none =>
    again (.l0 0)
  | some (.l0 v0_1) =>
    cond (Ops.lt B v0_1 (Nat.cast (List.length p0)))
     (
      cond (Ops.inb B v0_1 (List.length p0))
       (
        ob (c134 (Nat.cast (UInt8.toNat (List.getD p0 (Int.toNat v0_1) (0))))) fun y0 =>
        cond (y0)
         (
          again (.l0 (IntKind.wrap IntKind.i64 (v0_1 + 1))))
         (
          cond (Ops.inb B v0_1 (List.length p0 + 1))
           (
            k (List.drop (0) (List.take (Int.toNat v0_1) p0)))
           (
            none)))
       (
        none))
     (
      cond (Ops.inb B v0_1 (List.length p0 + 1))
       (
        k (List.drop (0) (List.take (Int.toNat v0_1) p0)))
       (
        none))
def E133 (p0 : List UInt8) : S133 → List AV × Objs
  | .l0 v0_1 => (mk 22 [(0, .c (.str p0)), (1, .fn 134 []), (5, .c (.int .i64 v0_1))], [])
def I133 : S133 → Nat
  | .l0 _ => 0
theorem eq133 {R : Type} (B : Ops) (c134 : Int → Option (Bool)) (p0 : List UInt8) (k : AV → Objs → Option R) (n : Nat) : afun tau B gl0 X133 (ent 134 (e134 c134) (gnil)) ow Try.f133 [.c (.str p0), .fn 134 []] [] k n = T133 B c134 p0 (fun s => aloop tau B gl0 X133 (ent 134 (e134 c134) (gnil)) ow [] Try.f133 k (I133 s) (E133 p0 s) n) (fun y => k (.c (.str y)) []) none := by kernel_rfl
theorem el133 {R : Type} (B : Ops) (c134 : Int → Option (Bool)) (p0 : List UInt8) (k : AV → Objs → Option R) (n : Nat) : ∀ s, aloop tau B gl0 X133 (ent 134 (e134 c134) (gnil)) ow [] Try.f133 k (I133 s) (E133 p0 s) (n + 1) = T133 B c134 p0 (fun s => aloop tau B gl0 X133 (ent 134 (e134 c134) (gnil)) ow [] Try.f133 k (I133 s) (E133 p0 s) n) (fun y => k (.c (.str y)) []) (some s)
  | .l0 v0_1 => by kernel_rfl
theorem nt133 {R R' : Type} (B : Ops) (c134 : Int → Option (Bool)) (p0 : List UInt8) (again : S133 → Option R) (again' : S133 → Option R') (k0 : ((List UInt8)) → Option R') (k : R' → Option R) (h : ∀ s, again s = ob (again' s) k) : ∀ s, T133 B c134 p0 again (fun y => ob (k0 y) k) s = ob (T133 B c134 p0 again' k0 s) k
  | none => by unfold T133; repeat' first | exact rfl | exact h _ | apply nat_cond | (apply nat_ob; intro)
  | some (.l0 v0_1) => by unfold T133; repeat' first | exact rfl | exact h _ | apply nat_cond | (apply nat_ob; intro)
def R133 (c134 : Int → Option (Bool)) (p0 : List UInt8) : Nat → S133 → Option ((List UInt8))
  | 0, _ => none
  | n + 1, s => T133 Ops.std c134 p0 (R133 c134 p0 n) some (some s)
theorem rr133 {R : Type} (c134 : Int → Option (Bool)) (p0 : List UInt8) (k : AV → Objs → Option R) : ∀ (n : Nat) (s : S133), aloop tau Ops.std gl0 X133 (ent 134 (e134 c134) (gnil)) ow [] Try.f133 k (I133 s) (E133 p0 s) n = ob (R133 c134 p0 n s) (fun y => k (.c (.str y)) [])
  | 0, s => by cases s <;> rfl
  | n + 1, s => by rw [el133]; exact nt133 Ops.std c134 p0 _ _ some (fun y => k (.c (.str y)) []) (rr133 c134 p0 k n) (some s)
def F133 (c134 : Int → Option (Bool)) (p0 : List UInt8) : Option ((List UInt8)) := T133 Ops.std c134 p0 (R133 c134 p0 1000000) some none
theorem fo133 {R : Type} (c134 : Int → Option (Bool)) (p0 : List UInt8) (k : AV → Objs → Option R) : afun tau Ops.std gl0 X133 (ent 134 (e134 c134) (gnil)) ow Try.f133 [.c (.str p0), .fn 134 []] [] k 1000000 = ob (F133 c134 p0) (fun y => k (.c (.str y)) []) := by rw [eq133]; exact nt133 Ops.std c134 p0 _ _ some (fun y => k (.c (.str y)) []) (rr133 c134 p0 k 1000000) none
def e133 {R : Type} (c : List UInt8 → Option ((List UInt8))) : Ent R := fun args objs k =>
  oCons args fun a0 l0 => oC a0 fun x0 => cStr x0 fun p0 => oCons l0 fun a1 l1 => oFn 134 a1 <| oNil l1 <| oNilO objs <| ob (c p0) fun y => k (.c (.str y)) []
abbrev Sp133 (c : List UInt8 → Option ((List UInt8))) : Prop := ∀ (p0 : List UInt8) (y : (List UInt8)), c p0 = some y → Spec Try.prog gl0 133 [.c (.str p0), .fn 134 []] [] (.c (.str y)) []
theorem ek133 {R : Type} {c : List UInt8 → Option ((List UInt8))} (hs : Sp133 c) : EOk 133 (e133 (R := R) c) := fun args objs k r h => by
  unfold e133 at h
  obtain ⟨a0, l0, rfl, q1⟩ := oCons_some h
  obtain ⟨x0, rfl, q2⟩ := oC_some q1
  obtain ⟨p0, rfl, q3⟩ := cStr_some q2
  obtain ⟨a1, l1, rfl, q4⟩ := oCons_some q3
  obtain ⟨rfl, q5⟩ := oFn_some q4
  obtain ⟨rfl, q6⟩ := oNil_some q5
  obtain ⟨rfl, q7⟩ := oNilO_some q6
  exact eok_of (hs p0) q7
theorem sf133 {c134 : Int → Option (Bool)} (h134 : Sp134 c134) : Sp133 (F133 c134) := fun p0 y hy => by
  refine spec_of (G := ent 134 (e134 c134) (gnil)) (ent_ok (ek134 h134) (gnil_ok)) 1000000 (fn := Try.f133) (by kernel_rfl) (by kernel_rfl) (X := X133) (by kernel_rfl) ?_
  rw [fo133, hy]
  rfl
noncomputable def M133 : List UInt8 → Option ((List UInt8)) := F133 M134
theorem sm133 : Sp133 M133 := sf133 sm134

/-! ### 157: lariat/lex.run#digit -/
def X157 : Aux := ⟨[(2, [2, 3, 4, 6, 7, 8, 9, 10, 11, 12, 13, 14, 15, 16, 17, 18, 19, 20, 21])], []⟩
inductive S157 where
  | l0 (v0_1 : Int)
def T157 {R : Type} (B : Ops) (c137 : Int → Option (Bool)) (p0 : List UInt8) (again : S157 → Option R) (k : ((List UInt8)) → Option R) : Option S157 → Option R
  | none =>
    again (.l0 0)
  | some (.l0 v0_1) =>
    cond (Ops.lt B v0_1 (Nat.cast (List.length p0)))
     (
      cond (Ops.inb B v0_1 (List.length p0))
       (
        ob (c137 (Nat.cast (UInt8.toNat (List.getD p0 (Int.toNat v0_1) (0))))) fun y0 =>
        cond (y0)
         (
          again (.l0 (IntKind.wrap IntKind.i64 (v0_1 + 1))))
         (
          cond (Ops.inb B v0_1 (List.length p0 + 1))
           (
            k (List.drop (0) (List.take (Int.toNat v0_1) p0)))
           (
            none)))
       (
        none))
     (
      cond (Ops.inb B v0_1 (List.length p0 + 1))
       (
        k (List.drop (0) (List.take (Int.toNat v0_1) p0)))
       (
        none))
def E157 (p0 : List UInt8) : S157 → List AV × Objs
  | .l0 v0_1 => (mk 22 [(0, .c (.str p0)), (1, .fn 137 []), (5, .c (.int .i64 v0_1))], [])
def I157 : S157 → Nat
  | .l0 _ => 0
theorem eq157 {R : Type} (B : Ops) (c137 : Int → Option (Bool)) (p0 : List UInt8) (k : AV → Objs → Option R) (n : Nat) : afun tau B gl0 X157 (ent 137 (e137 c137) (gnil)) ow Try.f133 [.c (.str p0), .fn 137 []] [] k n = T157 B c137 p0 (fun s => aloop tau B gl0 X157 (ent 137 (e137 c137) (gnil)) ow [] Try.f133 k (I157 s) (E157 p0 s) n) (fun y => k (.c (.str y)) []) none := by kernel_rfl
theorem el157 {R : Type} (B : Ops) (c137 : Int → Option (Bool)) (p0 : List UInt8) (k : AV → Objs → Option R) (n : Nat) : ∀ s, aloop tau B gl0 X157 (ent 137 (e137 c137) (gnil)) ow [] Try.f133 k (I157 s) (E157 p0 s) (n + 1) = T157 B c137 p0 (fun s => aloop tau B gl0 X157 (ent 137 (e137 c137) (gnil)) ow [] Try.f133 k (I157 s) (E157 p0 s) n) (fun y => k (.c (.str y)) []) (some s)
  | .l0 v0_1 => by kernel_rfl
theorem nt157 {R R' : Type} (B : Ops) (c137 : Int → Option (Bool)) (p0 : List UInt8) (again : S157 → Option R) (again' : S157 → Option R') (k0 : ((List UInt8)) → Option R') (k : R' → Option R) (h : ∀ s, again s = ob (again' s) k) : ∀ s, T157 B c137 p0 again (fun y => ob (k0 y) k) s = ob (T157 B c137 p0 again' k0 s) k
  | none => by unfold T157; repeat' first | exact rfl | exact h _ | apply nat_cond | (apply nat_ob; intro)
  | some (.l0 v0_1) => by unfold T157; repeat' first | exact rfl | exact h _ | apply nat_cond | (apply nat_ob; intro)
def R157 (c137 : Int → Option (Bool)) (p0 : List UInt8) : Nat → S157 → Option ((List UInt8))
  | 0, _ => none
  | n + 1, s => T157 Ops.std c137 p0 (R157 c137 p0 n) some (some s)
theorem rr157 {R : Type} (c137 : Int → Option (Bool)) (p0 : List UInt8) (k : AV → Objs → Option R) : ∀ (n : Nat) (s : S157), aloop tau Ops.std gl0 X157 (ent 137 (e137 c137) (gnil)) ow [] Try.f133 k (I157 s) (E157 p0 s) n = ob (R157 c137 p0 n s) (fun y => k (.c (.str y)) [])
  | 0, s => by cases s <;> rfl
  | n + 1, s => by rw [el157]; exact nt157 Ops.std c137 p0 _ _ some (fun y => k (.c (.str y)) []) (rr157 c137 p0 k n) (some s)
def F157 (c137 : Int → Option (Bool)) (p0 : List UInt8) : Option ((List UInt8)) := T157 Ops.std c137 p0 (R157 c137 p0 1000000) some none
theorem fo157 {R : Type} (c137 : Int → Option (Bool)) (p0 : List UInt8) (k : AV → Objs → Option R) : afun tau Ops.std gl0 X157 (ent 137 (e137 c137) (gnil)) ow Try.f133 [.c (.str p0), .fn 137 []] [] k 1000000 = ob (F157 c137 p0) (fun y => k (.c (.str y)) []) := by rw [eq157]; exact nt157 Ops.std c137 p0 _ _ some (fun y => k (.c (.str y)) []) (rr157 c137 p0 k 1000000) none
def e157 {R : Type} (c : List UInt8 → Option ((List UInt8))) : Ent R := fun args objs k =>
  oCons args fun a0 l0 => oC a0 fun x0 => cStr x0 fun p0 => oCons l0 fun a1 l1 => oFn 137 a1 <| oNil l1 <| oNilO objs <| ob (c p0) fun y => k (.c (.str y)) []
abbrev Sp157 (c : List UInt8 → Option ((List UInt8))) : Prop := ∀ (p0 : List UInt8) (y : (List UInt8)), c p0 = some y → Spec Try.prog gl0 133 [.c (.str p0), .fn 137 []] [] (.c (.str y)) []
theorem ek157 {R : Type} {c : List UInt8 → Option ((List UInt8))} (hs : Sp157 c) : EOk 133 (e157 (R := R) c) := fun args objs k r h => by
  unfold e157 at h
  obtain ⟨a0, l0, rfl, q1⟩ := oCons_some h
  obtain ⟨x0, rfl, q2⟩ := oC_some q1
  obtain ⟨p0, rfl, q3⟩ := cStr_some q2
  obtain ⟨a1, l1, rfl, q4⟩ := oCons_some q3
  obtain ⟨rfl, q5⟩ := oFn_some q4
  obtain ⟨rfl, q6⟩ := oNil_some q5
  obtain ⟨rfl, q7⟩ := oNilO_some q6
  exact eok_of (hs p0) q7
theorem sf157 {c137 : Int → Option (Bool)} (h137 : Sp137 c137) : Sp157 (F157 c137) := fun p0 y hy => by
  refine spec_of (G := ent 137 (e137 c137) (gnil)) (ent_ok (ek137 h137) (gnil_ok)) 1000000 (fn := Try.f133) (by kernel_rfl) (by kernel_rfl) (X := X157) (by kernel_rfl) ?_
  rw [fo157, hy]
  rfl
noncomputable def M157 : List UInt8 → Option ((List UInt8)) := F157 M137
theorem sm157 : Sp157 M157 := sf157 sm137

/-! ### 130: lariat/lex.IsWord -/
def X130 : Aux := ⟨[], []⟩
def T130 {R : Type} (B : Ops) (c132 : Int → Option (Bool)) (c133 : List UInt8 → Option ((List UInt8))) (c134 : Int → Option (Bool)) (c157 : List UInt8 → Option ((List UInt8))) (p0 : List UInt8) (k : (Bool) → Option R) : Option R :=
  cond (!p0 == mt UInt8)
   (
    cond (Ops.le B (Nat.cast (List.length p0)) (8))
     (
      cond (Ops.inb B (0) (List.length p0))
       (
        ob (c132 (Nat.cast (UInt8.toNat (List.getD p0 (Int.toNat (0)) (0))))) fun y0 =>
        cond (y0)
         (
          ob (c133 p0) fun y1 =>
          k (y1 == p0))
         (
          k false))
       (
        none))
     (
      k false))
   (
    k false)
theorem eq130 {R : Type} (B : Ops) (c132 : Int → Option (Bool)) (c133 : List UInt8 → Option ((List UInt8))) (c134 : Int → Option (Bool)) (c157 : List UInt8 → Option ((List UInt8))) (p0 : List UInt8) (k : AV → Objs → Option R) (n : Nat) : afun tau B gl0 X130 (ent 132 (e132 c132) (ent 133 (eAlt 1 134 (e133 c133) (e157 c157)) (ent 134 (e134 c134) (gnil)))) ow Try.f130 [.c (.str p0)] [] k n = T130 B c132 c133 c134 c157 p0 (fun y => k (.c (.bool y)) []) := by kernel_rfl
theorem nt130 {R R' : Type} (B : Ops) (c132 : Int → Option (Bool)) (c133 : List UInt8 → Option ((List UInt8))) (c134 : Int → Option (Bool)) (c157 : List UInt8 → Option ((List UInt8))) (p0 : List UInt8) (k0 : (Bool) → Option R') (k : R' → Option R) : T130 B c132 c133 c134 c157 p0 (fun y => ob (k0 y) k) = ob (T130 B c132 c133 c134 c157 p0 k0) k := by
  unfold T130
  repeat' first | exact rfl | apply nat_cond | (apply nat_ob; intro)
def F130 (c132 : Int → Option (Bool)) (c133 : List UInt8 → Option ((List UInt8))) (c134 : Int → Option (Bool)) (c157 : List UInt8 → Option ((List UInt8))) (p0 : List UInt8) : Option (Bool) := T130 Ops.std c132 c133 c134 c157 p0 some
theorem fo130 {R : Type} (c132 : Int → Option (Bool)) (c133 : List UInt8 → Option ((List UInt8))) (c134 : Int → Option (Bool)) (c157 : List UInt8 → Option ((List UInt8))) (p0 : List UInt8) (k : AV → Objs → Option R) (n : Nat) : afun tau Ops.std gl0 X130 (ent 132 (e132 c132) (ent 133 (eAlt 1 134 (e133 c133) (e157 c157)) (ent 134 (e134 c134) (gnil)))) ow Try.f130 [.c (.str p0)] [] k n = ob (F130 c132 c133 c134 c157 p0) (fun y => k (.c (.bool y)) []) := by rw [eq130]; exact nt130 Ops.std c132 c133 c134 c157 p0 some (fun y => k (.c (.bool y)) [])
def e130 {R : Type} (c : List UInt8 → Option (Bool)) : Ent R := fun args objs k =>
  oCons args fun a0 l0 => oC a0 fun x0 => cStr x0 fun p0 => oNil l0 <| oNilO objs <| ob (c p0) fun y => k (.c (.bool y)) []
abbrev Sp130 (c : List UInt8 → Option (Bool)) : Prop := ∀ (p0 : List UInt8) (y : Bool), c p0 = some y → Spec Try.prog gl0 130 [.c (.str p0)] [] (.c (.bool y)) []
theorem ek130 {R : Type} {c : List UInt8 → Option (Bool)} (hs : Sp130 c) : EOk 130 (e130 (R := R) c) := fun args objs k r h => by
  unfold e130 at h
  obtain ⟨a0, l0, rfl, q1⟩ := oCons_some h
  obtain ⟨x0, rfl, q2⟩ := oC_some q1
  obtain ⟨p0, rfl, q3⟩ := cStr_some q2
  obtain ⟨rfl, q4⟩ := oNil_some q3
  obtain ⟨rfl, q5⟩ := oNilO_some q4
  exact eok_of (hs p0) q5
theorem sf130 {c132 : Int → Option (Bool)} {c133 : List UInt8 → Option ((List UInt8))} {c134 : Int → Option (Bool)} {c157 : List UInt8 → Option ((List UInt8))} (h132 : Sp132 c132) (h133 : Sp133 c133) (h134 : Sp134 c134) (h157 : Sp157 c157) : Sp130 (F130 c132 c133 c134 c157) := fun p0 y hy => by
  refine spec_of (G := ent 132 (e132 c132) (ent 133 (eAlt 1 134 (e133 c133) (e157 c157)) (ent 134 (e134 c134) (gnil)))) (ent_ok (ek132 h132) (ent_ok (eAlt_ok (ek133 h133) (ek157 h157)) (ent_ok (ek134 h134) (gnil_ok)))) 1000000 (fn := Try.f130) (by kernel_rfl) (by kernel_rfl) (X := X130) (by kernel_rfl) ?_
  rw [fo130, hy]
  rfl
noncomputable def M130 : List UInt8 → Option (Bool) := F130 M132 M133 M134 M157
theorem sm130 : Sp130 M130 := sf130 sm132 sm133 sm134 sm157

/-! ### 117: lariat/expr.may -/
def X117 : Aux := ⟨[], []⟩
def T117 {R : Type} (B : Ops) (c130 : List UInt8 → Option (Bool)) (c116 : Int → Option (Int)) (p0 : Int) (p1 : Int) (p2 : List UInt8) (p3 : List UInt8) (k : (Bool) → Option R) : Option R :=
  cond (Ops.eq B p0 (1))
   (
    cond (Ops.le B (0) p1)
     (
      cond (Ops.le B p1 (999))
       (
        cond (p2 == mt UInt8)
         (
          k (p3 == mt UInt8))
         (
          k false))
       (
        k false))
     (
      k false))
   (
    cond (Ops.eq B p0 (2))
     (
      cond (Ops.eq B p1 (0))
       (
        ob (c130 p2) fun y0 =>
        cond (y0)
         (
          k (p3 == mt UInt8))
         (
          k false))
       (
        k false))
     (
      cond (Ops.eq B p0 (3))
       (
        cond (Ops.eq B p1 (0))
         (
          ob (c130 p2) fun y0 =>
          cond (y0)
           (
            ob (c130 p3) fun y1 =>
            k y1)
           (
            k false))
         (
          k false))
       (
        ob (c116 p0) fun y0 =>
        cond (Ops.lt B (0) y0)
         (
          cond (Ops.eq B p1 (0))
           (
            cond (p2 == mt UInt8)
             (
              k (p3 == mt UInt8))
             (
              k false))
           (
            k false))
         (
          k false))))
theorem eq117 {R : Type} (B : Ops) (c130 : List UInt8 → Option (Bool)) (c116 : Int → Option (Int)) (p0 : Int) (p1 : Int) (p2 : List UInt8) (p3 : List UInt8) (k : AV → Objs → Option R) (n : Nat) : afun tau B gl0 X117 (ent 130 (e130 c130) (ent 116 (e116 c116) (gnil))) ow Try.f117 [.agg [.int .i64 p0, .int .i64 p1, .str p2, .str p3]] [] k n = T117 B c130 c116 p0 p1 p2 p3 (fun y => k (.c (.bool y)) []) := by kernel_rfl
theorem nt117 {R R' : Type} (B : Ops) (c130 : List UInt8 → Option (Bool)) (c116 : Int → Option (Int)) (p0 : Int) (p1 : Int) (p2 : List UInt8) (p3 : List UInt8) (k0 : (Bool) → Option R') (k : R' → Option R) : T117 B c130 c116 p0 p1 p2 p3 (fun y => ob (k0 y) k) = ob (T117 B c130 c116 p0 p1 p2 p3 k0) k := by
  unfold T117
  repeat' first | exact rfl | apply nat_cond | (apply nat_ob; intro)
def F117 (c130 : List UInt8 → Option (Bool)) (c116 : Int → Option (Int)) (p0 : Int) (p1 : Int) (p2 : List UInt8) (p3 : List UInt8) : Option (Bool) := T117 Ops.std c130 c116 p0 p1 p2 p3 some
theorem fo117 {R : Type} (c130 : List UInt8 → Option (Bool)) (c116 : Int → Option (Int)) (p0 : Int) (p1 : Int) (p2 : List UInt8) (p3 : List UInt8) (k : AV → Objs → Option R) (n : Nat) : afun tau Ops.std gl0 X117 (ent 130 (e130 c130) (ent 116 (e116 c116) (gnil))) ow Try.f117 [.agg [.int .i64 p0, .int .i64 p1, .str p2, .str p3]] [] k n = ob (F117 c130 c116 p0 p1 p2 p3) (fun y => k (.c (.bool y)) []) := by rw [eq117]; exact nt117 Ops.std c130 c116 p0 p1 p2 p3 some (fun y => k (.c (.bool y)) [])
def e117 {R : Type} (c : Int → Int → List UInt8 → List UInt8 → Option (Bool)) : Ent R := fun args objs k =>
  oCons args fun a0 l0 => oAgg a0 fun x0 => cCons x0 fun z0_0 w0_0 => cInt .i64 z0_0 fun p0 => cCons w0_0 fun z0_1 w0_1 => cInt .i64 z0_1 fun p1 => cCons w0_1 fun z0_2 w0_2 => cStr z0_2 fun p2 => cCons w0_2 fun z0_3 w0_3 => cStr z0_3 fun p3 => cNil w0_3 <| oNil l0 <| oNilO objs <| ob (c p0 p1 p2 p3) fun y => k (.c (.bool y)) []
abbrev Sp117 (c : Int → Int → List UInt8 → List UInt8 → Option (Bool)) : Prop := ∀ (p0 : Int) (p1 : Int) (p2 : List UInt8) (p3 : List UInt8) (y : Bool), c p0 p1 p2 p3 = some y → Spec Try.prog gl0 117 [.agg [.int .i64 p0, .int .i64 p1, .str p2, .str p3]] [] (.c (.bool y)) []
theorem ek117 {R : Type} {c : Int → Int → List UInt8 → List UInt8 → Option (Bool)} (hs : Sp117 c) : EOk 117 (e117 (R := R) c) := fun args objs k r h => by
  unfold e117 at h
  obtain ⟨a0, l0, rfl, q1⟩ := oCons_some h
  obtain ⟨x0, rfl, q2⟩ := oAgg_some q1
  obtain ⟨z0_0, w0_0, rfl, q3⟩ := cCons_some q2
  obtain ⟨p0, rfl, q4⟩ := cInt_some q3
  obtain ⟨z0_1, w0_1, rfl, q5⟩ := cCons_some q4
  obtain ⟨p1, rfl, q6⟩ := cInt_some q5
  obtain ⟨z0_2, w0_2, rfl, q7⟩ := cCons_some q6
  obtain ⟨p2, rfl, q8⟩ := cStr_some q7
  obtain ⟨z0_3, w0_3, rfl, q9⟩ := cCons_some q8
  obtain ⟨p3, rfl, q10⟩ := cStr_some q9
  obtain ⟨rfl, q11⟩ := cNil_some q10
  obtain ⟨rfl, q12⟩ := oNil_some q11
  obtain ⟨rfl, q13⟩ := oNilO_some q12
  exact eok_of (hs p0 p1 p2 p3) q13
theorem sf117 {c130 : List UInt8 → Option (Bool)} {c116 : Int → Option (Int)} (h130 : Sp130 c130) (h116 : Sp116 c116) : Sp117 (F117 c130 c116) := fun p0 p1 p2 p3 y hy => by
  refine spec_of (G := ent 130 (e130 c130) (ent 116 (e116 c116) (gnil))) (ent_ok (ek130 h130) (ent_ok (ek116 h116) (gnil_ok))) 1000000 (fn := Try.f117) (by kernel_rfl) (by kernel_rfl) (X := X117) (by kernel_rfl) ?_
  rw [fo117, hy]
  rfl
noncomputable def M117 : Int → Int → List UInt8 → List UInt8 → Option (Bool) := F117 M130 M116
theorem sm117 : Sp117 M117 := sf117 sm130 sm116

/-! ### 89: lariat/expr.Right -/
def X89 : Aux := ⟨[(3, [1, 2, 4, 5, 6, 10, 11, 12, 13, 14, 15, 16, 17, 18, 19, 20, 21, 22, 23, 24, 25, 26, 27, 28, 29, 30, 31, 32, 33, 34, 35])], []⟩
inductive S89 where
  | l0 (v0_1 : Int) (v0_3 : Int) (v0_4 : Int)
def T89 {R : Type} (B : Ops) (c116 : Int → Option (Int)) (c117 : Int → Int → List UInt8 → List UInt8 → Option (Bool)) (p0 : List ty97.den) (again : S89 → Option R) (k : (Bool) → Option R) : Option S89 → Option R
  | none =>
    again (.l0 0 (Nat.cast (List.length p0)) 0)
  | some (.l0 v0_1 v0_3 v0_4) =>
    cond (Ops.lt B v0_4 v0_3)
     (
      cond (Ops.inb B v0_4 (List.length p0))
       (
        ob (c116 (Prod.fst (List.getD p0 (Int.toNat v0_4) (Ty.dflt ty97)))) fun y0 =>
        ob (c117 (Prod.fst (List.getD p0 (Int.toNat v0_4) (Ty.dflt ty97))) (Prod.fst (Prod.snd (List.getD p0 (Int.toNat v0_4) (Ty.dflt ty97)))) (Prod.fst (Prod.snd (Prod.snd (List.getD p0 (Int.toNat v0_4) (Ty.dflt ty97))))) (Prod.snd (Prod.snd (Prod.snd (List.getD p0 (Int.toNat v0_4) (Ty.dflt ty97)))))) fun y1 =>
        cond (!y1)
         (
          k false)
         (
          cond (Ops.lt B v0_1 y0)
           (
            k false)
           (
            again (.l0 (IntKind.wrap IntKind.i64 (v0_1 + IntKind.wrap IntKind.i64 (1 - y0))) v0_3 (IntKind.wrap IntKind.i64 (v0_4 + 1))))))
       (
        none))
     (
      cond (Ops.eq B v0_1 (1))
       (
        k (Ops.le B (Nat.cast (List.length p0)) (30)))
       (
        k false))
def E89 (p0 : List ty97.den) : S89 → List AV × Objs
  | .l0 v0_1 v0_3 v0_4 => (mk 36 [(0, .c (.list 97 ty97 p0)), (3, .c (.int .i64 v0_1)), (7, .c (.list 97 ty97 p0)), (8, .c (.int .i64 v0_3)), (9, .c (.int .i64 v0_4))], [])
def I89 : S89 → Nat
  | .l0 _ _ _ => 0
theorem eq89 {R : Type} (B : Ops) (c116 : Int → Option (Int)) (c117 : Int → Int → List UInt8 → List UInt8 → Option (Bool)) (p0 : List ty97.den) (k : AV → Objs → Option R) (n : Nat) : afun tau B gl0 X89 (ent 116 (e116 c116) (ent 117 (e117 c117) (gnil))) ow Try.f89 [.c (.list 97 ty97 p0)] [] k n = T89 B c116 c117 p0 (fun s => aloop tau B gl0 X89 (ent 116 (e116 c116) (ent 117 (e117 c117) (gnil))) ow [] Try.f89 k (I89 s) (E89 p0 s) n) (fun y => k (.c (.bool y)) []) none := by kernel_rfl
theorem el89 {R : Type} (B : Ops) (c116 : Int → Option (Int)) (c117 : Int → Int → List UInt8 → List UInt8 → Option (Bool)) (p0 : List ty97.den) (k : AV → Objs → Option R) (n : Nat) : ∀ s, aloop tau B gl0 X89 (ent 116 (e116 c116) (ent 117 (e117 c117) (gnil))) ow [] Try.f89 k (I89 s) (E89 p0 s) (n + 1) = T89 B c116 c117 p0 (fun s => aloop tau B gl0 X89 (ent 116 (e116 c116) (ent 117 (e117 c117) (gnil))) ow [] Try.f89 k (I89 s) (E89 p0 s) n) (fun y => k (.c (.bool y)) []) (some s)
  | .l0 v0_1 v0_3 v0_4 => by kernel_rfl
theorem nt89 {R R' : Type} (B : Ops) (c116 : Int → Option (Int)) (c117 : Int → Int → List UInt8 → List UInt8 → Option (Bool)) (p0 : List ty97.den) (again : S89 → Option R) (again' : S89 → Option R') (k0 : (Bool) → Option R') (k : R' → Option R) (h : ∀ s, again s = ob (again' s) k) : ∀ s, T89 B c116 c117 p0 again (fun y => ob (k0 y) k) s = ob (T89 B c116 c117 p0 again' k0 s) k
  | none => by unfold T89; repeat' first | exact rfl | exact h _ | apply nat_cond | (apply nat_ob; intro)
  | some (.l0 v0_1 v0_3 v0_4) => by unfold T89; repeat' first | exact rfl | exact h _ | apply nat_cond | (apply nat_ob; intro)
def R89 (c116 : Int → Option (Int)) (c117 : Int → Int → List UInt8 → List UInt8 → Option (Bool)) (p0 : List ty97.den) : Nat → S89 → Option (Bool)
  | 0, _ => none
  | n + 1, s => T89 Ops.std c116 c117 p0 (R89 c116 c117 p0 n) some (some s)
theorem rr89 {R : Type} (c116 : Int → Option (Int)) (c117 : Int → Int → List UInt8 → List UInt8 → Option (Bool)) (p0 : List ty97.den) (k : AV → Objs → Option R) : ∀ (n : Nat) (s : S89), aloop tau Ops.std gl0 X89 (ent 116 (e116 c116) (ent 117 (e117 c117) (gnil))) ow [] Try.f89 k (I89 s) (E89 p0 s) n = ob (R89 c116 c117 p0 n s) (fun y => k (.c (.bool y)) [])
  | 0, s => by cases s <;> rfl
  | n + 1, s => by rw [el89]; exact nt89 Ops.std c116 c117 p0 _ _ some (fun y => k (.c (.bool y)) []) (rr89 c116 c117 p0 k n) (some s)
def F89 (c116 : Int → Option (Int)) (c117 : Int → Int → List UInt8 → List UInt8 → Option (Bool)) (p0 : List ty97.den) : Option (Bool) := T89 Ops.std c116 c117 p0 (R89 c116 c117 p0 1000000) some none
theorem fo89 {R : Type} (c116 : Int → Option (Int)) (c117 : Int → Int → List UInt8 → List UInt8 → Option (Bool)) (p0 : List ty97.den) (k : AV → Objs → Option R) : afun tau Ops.std gl0 X89 (ent 116 (e116 c116) (ent 117 (e117 c117) (gnil))) ow Try.f89 [.c (.list 97 ty97 p0)] [] k 1000000 = ob (F89 c116 c117 p0) (fun y => k (.c (.bool y)) []) := by rw [eq89]; exact nt89 Ops.std c116 c117 p0 _ _ some (fun y => k (.c (.bool y)) []) (rr89 c116 c117 p0 k 1000000) none
def e89 {R : Type} (c : List ty97.den → Option (Bool)) : Ent R := fun args objs k =>
  oCons args fun a0 l0 => oC a0 fun x0 => cList 97 ty97 x0 fun p0 => oNil l0 <| oNilO objs <| ob (c p0) fun y => k (.c (.bool y)) []
abbrev Sp89 (c : List ty97.den → Option (Bool)) : Prop := ∀ (p0 : List ty97.den) (y : Bool), c p0 = some y → Spec Try.prog gl0 89 [.c (.list 97 ty97 p0)] [] (.c (.bool y)) []
theorem ek89 {R : Type} {c : List ty97.den → Option (Bool)} (hs : Sp89 c) : EOk 89 (e89 (R := R) c) := fun args objs k r h => by
  unfold e89 at h
  obtain ⟨a0, l0, rfl, q1⟩ := oCons_some h
  obtain ⟨x0, rfl, q2⟩ := oC_some q1
  obtain ⟨p0, rfl, q3⟩ := cList_some q2
  obtain ⟨rfl, q4⟩ := oNil_some q3
  obtain ⟨rfl, q5⟩ := oNilO_some q4
  exact eok_of (hs p0) q5
theorem sf89 {c116 : Int → Option (Int)} {c117 : Int → Int → List UInt8 → List UInt8 → Option (Bool)} (h116 : Sp116 c116) (h117 : Sp117 c117) : Sp89 (F89 c116 c117) := fun p0 y hy => by
  refine spec_of (G := ent 116 (e116 c116) (ent 117 (e117 c117) (gnil))) (ent_ok (ek116 h116) (ent_ok (ek117 h117) (gnil_ok))) 1000000 (fn := Try.f89) (by kernel_rfl) (by kernel_rfl) (X := X89) (by kernel_rfl) ?_
  rw [fo89, hy]
  rfl
noncomputable def M89 : List ty97.den → Option (Bool) := F89 M116 M117
theorem sm89 : Sp89 M89 := sf89 sm116 sm117

/-! ### 52: lariat/formula.operands -/
def X52 : Aux := ⟨[], []⟩
def T52 {R : Type} (B : Ops) (p0 : Int) (k : (Int) → Option R) : Option R :=
  cond (Ops.eq B p0 (1))
   (
    k 0)
   (
    cond (Ops.eq B p0 (2))
     (
      k 0)
     (
      cond (Ops.eq B p0 (3))
       (
        k 0)
       (
        cond (Ops.eq B p0 (4))
         (
          k 1)
         (
          cond (Ops.eq B p0 (8))
           (
            k 1)
           (
            cond (Ops.eq B p0 (11))
             (
              k 1)
             (
              cond (Ops.eq B p0 (12))
               (
                k 1)
               (
                cond (Ops.eq B p0 (5))
                 (
                  k 2)
                 (
                  cond (Ops.eq B p0 (6))
                   (
                    k 2)
                   (
                    cond (Ops.eq B p0 (7))
                     (
                      k 2)
                     (
                      cond (Ops.eq B p0 (9))
                       (
                        k 2)
                       (
                        cond (Ops.eq B p0 (10))
                         (
                          k 2)
                         (
                          k (-1)))))))))))))
theorem eq52 {R : Type} (B : Ops) (p0 : Int) (k : AV → Objs → Option R) (n : Nat) : afun tau B gl0 X52 (gnil) ow Try.f52 [.c (.int .i64 p0)] [] k n = T52 B p0 (fun y => k (.c (.int .i64 y)) []) := by kernel_rfl
theorem nt52 {R R' : Type} (B : Ops) (p0 : Int) (k0 : (Int) → Option R') (k : R' → Option R) : T52 B p0 (fun y => ob (k0 y) k) = ob (T52 B p0 k0) k := by
  unfold T52
  repeat' first | exact rfl | apply nat_cond | (apply nat_ob; intro)
def F52 (p0 : Int) : Option (Int) := T52 Ops.std p0 some
theorem fo52 {R : Type} (p0 : Int) (k : AV → Objs → Option R) (n : Nat) : afun tau Ops.std gl0 X52 (gnil) ow Try.f52 [.c (.int .i64 p0)] [] k n = ob (F52 p0) (fun y => k (.c (.int .i64 y)) []) := by rw [eq52]; exact nt52 Ops.std p0 some (fun y => k (.c (.int .i64 y)) [])
def e52 {R : Type} (c : Int → Option (Int)) : Ent R := fun args objs k =>
  oCons args fun a0 l0 => oC a0 fun x0 => cInt .i64 x0 fun p0 => oNil l0 <| oNilO objs <| ob (c p0) fun y => k (.c (.int .i64 y)) []
abbrev Sp52 (c : Int → Option (Int)) : Prop := ∀ (p0 : Int) (y : Int), c p0 = some y → Spec Try.prog gl0 52 [.c (.int .i64 p0)] [] (.c (.int .i64 y)) []
theorem ek52 {R : Type} {c : Int → Option (Int)} (hs : Sp52 c) : EOk 52 (e52 (R := R) c) := fun args objs k r h => by
  unfold e52 at h
  obtain ⟨a0, l0, rfl, q1⟩ := oCons_some h
  obtain ⟨x0, rfl, q2⟩ := oC_some q1
  obtain ⟨p0, rfl, q3⟩ := cInt_some q2
  obtain ⟨rfl, q4⟩ := oNil_some q3
  obtain ⟨rfl, q5⟩ := oNilO_some q4
  exact eok_of (hs p0) q5
theorem sf52 : Sp52 (F52) := fun p0 y hy => by
  refine spec_of (G := gnil) (gnil_ok) 1000000 (fn := Try.f52) (by kernel_rfl) (by kernel_rfl) (X := X52) (by kernel_rfl) ?_
  rw [fo52, hy]
  rfl
noncomputable def M52 : Int → Option (Int) := F52
theorem sm52 : Sp52 M52 := sf52

/-! ### 51: lariat/formula.Right -/
def X51 : Aux := ⟨[(3, [1, 2, 4, 5, 6, 10, 11, 12, 13, 14, 15, 16, 17, 18, 19, 20, 21, 22, 23, 24, 25, 26, 27, 28, 29, 30, 31, 32, 33, 34, 35, 36, 37, 38, 39, 40, 41, 42, 43, 44, 45, 46, 47, 48, 49, 50, 51, 52, 53, 54, 55, 56])], []⟩
inductive S51 where
  | l0 (v0_1 : Int) (v0_3 : Int) (v0_4 : Int)
def T51 {R : Type} (B : Ops) (c52 : Int → Option (Int)) (c89 : List ty97.den → Option (Bool)) (p0 : List ty36.den) (again : S51 → Option R) (k : (Bool) → Option R) : Option S51 → Option R
  | none =>
    again (.l0 0 (Nat.cast (List.length p0)) 0)
  | some (.l0 v0_1 v0_3 v0_4) =>
    cond (Ops.lt B v0_4 v0_3)
     (
      cond (Ops.inb B v0_4 (List.length p0))
       (
        ob (c52 (Prod.fst (List.getD p0 (Int.toNat v0_4) (Ty.dflt ty36)))) fun y0 =>
        cond (Ops.lt B y0 (0))
         (
          k false)
         (
          cond (Ops.lt B v0_1 y0)
           (
            k false)
           (
            cond (Ops.eq B (Prod.fst (List.getD p0 (Int.toNat v0_4) (Ty.dflt ty36))) (3))
             (
              ob (c89 (Prod.snd (List.getD p0 (Int.toNat v0_4) (Ty.dflt ty36)))) fun y1 =>
              cond (!y1)
               (
                k false)
               (
                cond (!Ops.eq B (Prod.fst (List.getD p0 (Int.toNat v0_4) (Ty.dflt ty36))) (3))
                 (
                  cond (Ops.lt B (0) (Nat.cast (List.length (Prod.snd (List.getD p0 (Int.toNat v0_4) (Ty.dflt ty36))))))
                   (
                    k false)
                   (
                    again (.l0 (IntKind.wrap IntKind.i64 (v0_1 + IntKind.wrap IntKind.i64 (1 - y0))) v0_3 (IntKind.wrap IntKind.i64 (v0_4 + 1)))))
                 (
                  again (.l0 (IntKind.wrap IntKind.i64 (v0_1 + IntKind.wrap IntKind.i64 (1 - y0))) v0_3 (IntKind.wrap IntKind.i64 (v0_4 + 1))))))
             (
              cond (!Ops.eq B (Prod.fst (List.getD p0 (Int.toNat v0_4) (Ty.dflt ty36))) (3))
               (
                cond (Ops.lt B (0) (Nat.cast (List.length (Prod.snd (List.getD p0 (Int.toNat v0_4) (Ty.dflt ty36))))))
                 (
                  k false)
                 (
                  again (.l0 (IntKind.wrap IntKind.i64 (v0_1 + IntKind.wrap IntKind.i64 (1 - y0))) v0_3 (IntKind.wrap IntKind.i64 (v0_4 + 1)))))
               (
                again (.l0 (IntKind.wrap IntKind.i64 (v0_1 + IntKind.wrap IntKind.i64 (1 - y0))) v0_3 (IntKind.wrap IntKind.i64 (v0_4 + 1))))))))
       (
        none))
     (
      cond (Ops.eq B v0_1 (1))
       (
        k (Ops.le B (Nat.cast (List.length p0)) (60)))
       (
        k false))
def E51 (p0 : List ty36.den) : S51 → List AV × Objs
  | .l0 v0_1 v0_3 v0_4 => (mk 57 [(0, .c (.list 36 ty36 p0)), (3, .c (.int .i64 v0_1)), (7, .c (.list 36 ty36 p0)), (8, .c (.int .i64 v0_3)), (9, .c (.int .i64 v0_4))], [])
def I51 : S51 → Nat
  | .l0 _ _ _ => 0
theorem eq51 {R : Type} (B : Ops) (c52 : Int → Option (Int)) (c89 : List ty97.den → Option (Bool)) (p0 : List ty36.den) (k : AV → Objs → Option R) (n : Nat) : afun tau B gl0 X51 (ent 52 (e52 c52) (ent 89 (e89 c89) (gnil))) ow Try.f51 [.c (.list 36 ty36 p0)] [] k n = T51 B c52 c89 p0 (fun s => aloop tau B gl0 X51 (ent 52 (e52 c52) (ent 89 (e89 c89) (gnil))) ow [] Try.f51 k (I51 s) (E51 p0 s) n) (fun y => k (.c (.bool y)) []) none := by kernel_rfl
theorem el51 {R : Type} (B : Ops) (c52 : Int → Option (Int)) (c89 : List ty97.den → Option (Bool)) (p0 : List ty36.den) (k : AV → Objs → Option R) (n : Nat) : ∀ s, aloop tau B gl0 X51 (ent 52 (e52 c52) (ent 89 (e89 c89) (gnil))) ow [] Try.f51 k (I51 s) (E51 p0 s) (n + 1) = T51 B c52 c89 p0 (fun s => aloop tau B gl0 X51 (ent 52 (e52 c52) (ent 89 (e89 c89) (gnil))) ow [] Try.f51 k (I51 s) (E51 p0 s) n) (fun y => k (.c (.bool y)) []) (some s)
  | .l0 v0_1 v0_3 v0_4 => by kernel_rfl
theorem nt51 {R R' : Type} (B : Ops) (c52 : Int → Option (Int)) (c89 : List ty97.den → Option (Bool)) (p0 : List ty36.den) (again : S51 → Option R) (again' : S51 → Option R') (k0 : (Bool) → Option R') (k : R' → Option R) (h : ∀ s, again s = ob (again' s) k) : ∀ s, T51 B c52 c89 p0 again (fun y => ob (k0 y) k) s = ob (T51 B c52 c89 p0 again' k0 s) k
  | none => by unfold T51; repeat' first | exact rfl | exact h _ | apply nat_cond | (apply nat_ob; intro)
  | some (.l0 v0_1 v0_3 v0_4) => by unfold T51; repeat' first | exact rfl | exact h _ | apply nat_cond | (apply nat_ob; intro)
def R51 (c52 : Int → Option (Int)) (c89 : List ty97.den → Option (Bool)) (p0 : List ty36.den) : Nat → S51 → Option (Bool)
  | 0, _ => none
  | n + 1, s => T51 Ops.std c52 c89 p0 (R51 c52 c89 p0 n) some (some s)
theorem rr51 {R : Type} (c52 : Int → Option (Int)) (c89 : List ty97.den → Option (Bool)) (p0 : List ty36.den) (k : AV → Objs → Option R) : ∀ (n : Nat) (s : S51), aloop tau Ops.std gl0 X51 (ent 52 (e52 c52) (ent 89 (e89 c89) (gnil))) ow [] Try.f51 k (I51 s) (E51 p0 s) n = ob (R51 c52 c89 p0 n s) (fun y => k (.c (.bool y)) [])
  | 0, s => by cases s <;> rfl
  | n + 1, s => by rw [el51]; exact nt51 Ops.std c52 c89 p0 _ _ some (fun y => k (.c (.bool y)) []) (rr51 c52 c89 p0 k n) (some s)
def F51 (c52 : Int → Option (Int)) (c89 : List ty97.den → Option (Bool)) (p0 : List ty36.den) : Option (Bool) := T51 Ops.std c52 c89 p0 (R51 c52 c89 p0 1000000) some none
theorem fo51 {R : Type} (c52 : Int → Option (Int)) (c89 : List ty97.den → Option (Bool)) (p0 : List ty36.den) (k : AV → Objs → Option R) : afun tau Ops.std gl0 X51 (ent 52 (e52 c52) (ent 89 (e89 c89) (gnil))) ow Try.f51 [.c (.list 36 ty36 p0)] [] k 1000000 = ob (F51 c52 c89 p0) (fun y => k (.c (.bool y)) []) := by rw [eq51]; exact nt51 Ops.std c52 c89 p0 _ _ some (fun y => k (.c (.bool y)) []) (rr51 c52 c89 p0 k 1000000) none
def e51 {R : Type} (c : List ty36.den → Option (Bool)) : Ent R := fun args objs k =>
  oCons args fun a0 l0 => oC a0 fun x0 => cList 36 ty36 x0 fun p0 => oNil l0 <| oNilO objs <| ob (c p0) fun y => k (.c (.bool y)) []
abbrev Sp51 (c : List ty36.den → Option (Bool)) : Prop := ∀ (p0 : List ty36.den) (y : Bool), c p0 = some y → Spec Try.prog gl0 51 [.c (.list 36 ty36 p0)] [] (.c (.bool y)) []
theorem ek51 {R : Type} {c : List ty36.den → Option (Bool)} (hs : Sp51 c) : EOk 51 (e51 (R := R) c) := fun args objs k r h => by
  unfold e51 at h
  obtain ⟨a0, l0, rfl, q1⟩ := oCons_some h
  obtain ⟨x0, rfl, q2⟩ := oC_some q1
  obtain ⟨p0, rfl, q3⟩ := cList_some q2
  obtain ⟨rfl, q4⟩ := oNil_some q3
  obtain ⟨rfl, q5⟩ := oNilO_some q4
  exact eok_of (hs p0) q5
theorem sf51 {c52 : Int → Option (Int)} {c89 : List ty97.den → Option (Bool)} (h52 : Sp52 c52) (h89 : Sp89 c89) : Sp51 (F51 c52 c89) := fun p0 y hy => by
  refine spec_of (G := ent 52 (e52 c52) (ent 89 (e89 c89) (gnil))) (ent_ok (ek52 h52) (ent_ok (ek89 h89) (gnil_ok))) 1000000 (fn := Try.f51) (by kernel_rfl) (by kernel_rfl) (X := X51) (by kernel_rfl) ?_
  rw [fo51, hy]
  rfl
noncomputable def M51 : List ty36.den → Option (Bool) := F51 M52 M89
theorem sm51 : Sp51 M51 := sf51 sm52 sm89
def e53 {R : Type} (c : List ty3.den → Option ((List ty3.den))) : Ent R := fun args objs k =>
  oCons args fun a0 l0 => oC a0 fun x0 => cList 3 ty3 x0 fun p0 => oNil l0 <| oNilO objs <| ob (c p0) fun y => k (.c (.own 500)) [(500, .row 3 ty3 y)]
abbrev Sp53 (c : List ty3.den → Option ((List ty3.den))) : Prop := ∀ (p0 : List ty3.den) (y : (List ty3.den)), c p0 = some y → Spec Try.prog gl0 53 [.c (.list 3 ty3 p0)] [] (.c (.own 500)) [(500, .row 3 ty3 y)]
theorem ek53 {R : Type} {c : List ty3.den → Option ((List ty3.den))} (hs : Sp53 c) : EOk 53 (e53 (R := R) c) := fun args objs k r h => by
  unfold e53 at h
  obtain ⟨a0, l0, rfl, q1⟩ := oCons_some h
  obtain ⟨x0, rfl, q2⟩ := oC_some q1
  obtain ⟨p0, rfl, q3⟩ := cList_some q2
  obtain ⟨rfl, q4⟩ := oNil_some q3
  obtain ⟨rfl, q5⟩ := oNilO_some q4
  exact eok_of (hs p0) q5
def M53 : List ty3.den → Option ((List ty3.den)) := cloneF (t := ty3) 8
theorem sm53 : Sp53 M53 := by
  have h : ∀ (B : Ops) (xs : List (Ty.den ty3)) (k : AV → Objs → Option AO), afun tau B gl0 X0 gnil ow Try.f53 [.c (.list 3 ty3 xs)] [] k 1 = cloneT B 3 8 ty3 xs k := fun B xs k => by kernel_rfl
  refine clone_sp (fun xs v o h0 => ?_) fun b => ?_
  · exact spec_of (G := gnil) gnil_ok 1 (fn := Try.f53) (by kernel_rfl) (by kernel_rfl) (X := X0) (by kernel_rfl) ((h _ _ _).trans h0)
  · cases b <;> exact spec_of (G := gnil) gnil_ok 1 (fn := Try.f53) (by kernel_rfl) (by kernel_rfl) (X := X0) (by kernel_rfl) (by kernel_rfl)

/-! ### 27: lariat/formula.Kids -/
def X27 : Aux := ⟨[(6, [0, 1, 2, 5, 6, 7, 8, 9, 10, 14, 15, 16, 17, 18, 19, 20, 21, 22, 23, 24, 25, 26, 27, 28, 29, 30, 31, 32, 33, 34, 35, 36, 37, 38])], []⟩
inductive S27 where
  | l0 (v0_1 : Int) (v0_2 : Int) (v0_3 : List ty27.den) (v0_4 : List ty3.den)
def T27 {R : Type} (B : Ops) (c51 : List ty36.den → Option (Bool)) (c52 : Int → Option (Int)) (c53 : List ty3.den → Option ((List ty3.den))) (p0 : List ty36.den) (again : S27 → Option R) (k : ((List ty27.den)) → Option R) : Option S27 → Option R
  | none =>
    ob (c51 p0) fun y0 =>
    cond (!y0)
     (
      k (mt (Ty.den (Ty.list (3) (Ty.int IntKind.i64)))))
     (
      again (.l0 (Nat.cast (List.length p0)) 0 (mt (Ty.den (Ty.list (3) (Ty.int IntKind.i64)))) (mt (Ty.den (Ty.int IntKind.i64)))))
  | some (.l0 v0_1 v0_2 v0_3 v0_4) =>
    cond (Ops.lt B v0_2 v0_1)
     (
      cond (Ops.inb B v0_2 (List.length p0))
       (
        ob (c52 (Prod.fst (List.getD p0 (Int.toNat v0_2) (Ty.dflt ty36)))) fun y0 =>
        cond (Ops.inb B (IntKind.wrap IntKind.i64 (Nat.cast (List.length v0_4) - y0)) (List.length v0_4 + 1))
         (
          ob (c53 (List.drop (Int.toNat (IntKind.wrap IntKind.i64 (Nat.cast (List.length v0_4) - y0))) (List.take (List.length v0_4) v0_4))) fun y1 =>
          cond (Ops.lim B (List.length v0_3 + List.length (y1 :: mt (Ty.den (Ty.list (3) (Ty.int IntKind.i64))))) (24))
           (
            cond (Ops.inb B (IntKind.wrap IntKind.i64 (Nat.cast (List.length v0_4) - y0)) (List.length v0_4 + 1))
             (
              cond (Ops.lim B (List.length (List.take (Int.toNat (IntKind.wrap IntKind.i64 (Nat.cast (List.length v0_4) - y0))) v0_4) + List.length (v0_2 :: mt (Ty.den (Ty.int IntKind.i64)))) (8))
               (
                again (.l0 v0_1 (IntKind.wrap IntKind.i64 (v0_2 + 1)) (v0_3 ++ y1 :: mt (Ty.den (Ty.list (3) (Ty.int IntKind.i64)))) (List.take (Int.toNat (IntKind.wrap IntKind.i64 (Nat.cast (List.length v0_4) - y0))) v0_4 ++ v0_2 :: mt (Ty.den (Ty.int IntKind.i64)))))
               (
                none))
             (
              none))
           (
            none))
         (
          none))
       (
        none))
     (
      k v0_3)
def E27 (p0 : List ty36.den) : S27 → List AV × Objs
  | .l0 v0_1 v0_2 v0_3 v0_4 => (mk 39 [(3, .c (.own 3)), (4, .c (.own 4)), (11, .c (.list 36 ty36 p0)), (12, .c (.int .i64 v0_1)), (13, .c (.int .i64 v0_2))], [(3, .row 27 ty27 v0_3), (4, .row 3 ty3 v0_4)])
def I27 : S27 → Nat
  | .l0 _ _ _ _ => 0
theorem eq27 {R : Type} (B : Ops) (c51 : List ty36.den → Option (Bool)) (c52 : Int → Option (Int)) (c53 : List ty3.den → Option ((List ty3.den))) (p0 : List ty36.den) (k : AV → Objs → Option R) (n : Nat) : afun tau B gl0 X27 (ent 51 (e51 c51) (ent 52 (e52 c52) (ent 53 (e53 c53) (gnil)))) ow Try.f27 [.c (.list 36 ty36 p0)] [] k n = T27 B c51 c52 c53 p0 (fun s => aloop tau B gl0 X27 (ent 51 (e51 c51) (ent 52 (e52 c52) (ent 53 (e53 c53) (gnil)))) ow [] Try.f27 k (I27 s) (E27 p0 s) n) (fun y => k (.c (.own 500)) [(500, .row 27 ty27 y)]) none := by kernel_rfl
theorem el27 {R : Type} (B : Ops) (c51 : List ty36.den → Option (Bool)) (c52 : Int → Option (Int)) (c53 : List ty3.den → Option ((List ty3.den))) (p0 : List ty36.den) (k : AV → Objs → Option R) (n : Nat) : ∀ s, aloop tau B gl0 X27 (ent 51 (e51 c51) (ent 52 (e52 c52) (ent 53 (e53 c53) (gnil)))) ow [] Try.f27 k (I27 s) (E27 p0 s) (n + 1) = T27 B c51 c52 c53 p0 (fun s => aloop tau B gl0 X27 (ent 51 (e51 c51) (ent 52 (e52 c52) (ent 53 (e53 c53) (gnil)))) ow [] Try.f27 k (I27 s) (E27 p0 s) n) (fun y => k (.c (.own 500)) [(500, .row 27 ty27 y)]) (some s)
  | .l0 v0_1 v0_2 v0_3 v0_4 => by kernel_rfl
theorem nt27 {R R' : Type} (B : Ops) (c51 : List ty36.den → Option (Bool)) (c52 : Int → Option (Int)) (c53 : List ty3.den → Option ((List ty3.den))) (p0 : List ty36.den) (again : S27 → Option R) (again' : S27 → Option R') (k0 : ((List ty27.den)) → Option R') (k : R' → Option R) (h : ∀ s, again s = ob (again' s) k) : ∀ s, T27 B c51 c52 c53 p0 again (fun y => ob (k0 y) k) s = ob (T27 B c51 c52 c53 p0 again' k0 s) k
  | none => by unfold T27; repeat' first | exact rfl | exact h _ | apply nat_cond | (apply nat_ob; intro)
  | some (.l0 v0_1 v0_2 v0_3 v0_4) => by unfold T27; repeat' first | exact rfl | exact h _ | apply nat_cond | (apply nat_ob; intro)
def R27 (c51 : List ty36.den → Option (Bool)) (c52 : Int → Option (Int)) (c53 : List ty3.den → Option ((List ty3.den))) (p0 : List ty36.den) : Nat → S27 → Option ((List ty27.den))
  | 0, _ => none
  | n + 1, s => T27 Ops.std c51 c52 c53 p0 (R27 c51 c52 c53 p0 n) some (some s)
theorem rr27 {R : Type} (c51 : List ty36.den → Option (Bool)) (c52 : Int → Option (Int)) (c53 : List ty3.den → Option ((List ty3.den))) (p0 : List ty36.den) (k : AV → Objs → Option R) : ∀ (n : Nat) (s : S27), aloop tau Ops.std gl0 X27 (ent 51 (e51 c51) (ent 52 (e52 c52) (ent 53 (e53 c53) (gnil)))) ow [] Try.f27 k (I27 s) (E27 p0 s) n = ob (R27 c51 c52 c53 p0 n s) (fun y => k (.c (.own 500)) [(500, .row 27 ty27 y)])
  | 0, s => by cases s <;> rfl
  | n + 1, s => by rw [el27]; exact nt27 Ops.std c51 c52 c53 p0 _ _ some (fun y => k (.c (.own 500)) [(500, .row 27 ty27 y)]) (rr27 c51 c52 c53 p0 k n) (some s)
def F27 (c51 : List ty36.den → Option (Bool)) (c52 : Int → Option (Int)) (c53 : List ty3.den → Option ((List ty3.den))) (p0 : List ty36.den) : Option ((List ty27.den)) := T27 Ops.std c51 c52 c53 p0 (R27 c51 c52 c53 p0 1000000) some none
theorem fo27 {R : Type} (c51 : List ty36.den → Option (Bool)) (c52 : Int → Option (Int)) (c53 : List ty3.den → Option ((List ty3.den))) (p0 : List ty36.den) (k : AV → Objs → Option R) : afun tau Ops.std gl0 X27 (ent 51 (e51 c51) (ent 52 (e52 c52) (ent 53 (e53 c53) (gnil)))) ow Try.f27 [.c (.list 36 ty36 p0)] [] k 1000000 = ob (F27 c51 c52 c53 p0) (fun y => k (.c (.own 500)) [(500, .row 27 ty27 y)]) := by rw [eq27]; exact nt27 Ops.std c51 c52 c53 p0 _ _ some (fun y => k (.c (.own 500)) [(500, .row 27 ty27 y)]) (rr27 c51 c52 c53 p0 k 1000000) none
def e27 {R : Type} (c : List ty36.den → Option ((List ty27.den))) : Ent R := fun args objs k =>
  oCons args fun a0 l0 => oC a0 fun x0 => cList 36 ty36 x0 fun p0 => oNil l0 <| oNilO objs <| ob (c p0) fun y => k (.c (.own 500)) [(500, .row 27 ty27 y)]
abbrev Sp27 (c : List ty36.den → Option ((List ty27.den))) : Prop := ∀ (p0 : List ty36.den) (y : (List ty27.den)), c p0 = some y → Spec Try.prog gl0 27 [.c (.list 36 ty36 p0)] [] (.c (.own 500)) [(500, .row 27 ty27 y)]
theorem ek27 {R : Type} {c : List ty36.den → Option ((List ty27.den))} (hs : Sp27 c) : EOk 27 (e27 (R := R) c) := fun args objs k r h => by
  unfold e27 at h
  obtain ⟨a0, l0, rfl, q1⟩ := oCons_some h
  obtain ⟨x0, rfl, q2⟩ := oC_some q1
  obtain ⟨p0, rfl, q3⟩ := cList_some q2
  obtain ⟨rfl, q4⟩ := oNil_some q3
  obtain ⟨rfl, q5⟩ := oNilO_some q4
  exact eok_of (hs p0) q5
theorem sf27 {c51 : List ty36.den → Option (Bool)} {c52 : Int → Option (Int)} {c53 : List ty3.den → Option ((List ty3.den))} (h51 : Sp51 c51) (h52 : Sp52 c52) (h53 : Sp53 c53) : Sp27 (F27 c51 c52 c53) := fun p0 y hy => by
  refine spec_of (G := ent 51 (e51 c51) (ent 52 (e52 c52) (ent 53 (e53 c53) (gnil)))) (ent_ok (ek51 h51) (ent_ok (ek52 h52) (ent_ok (ek53 h53) (gnil_ok)))) 1000000 (fn := Try.f27) (by kernel_rfl) (by kernel_rfl) (X := X27) (by kernel_rfl) ?_
  rw [fo27, hy]
  rfl
noncomputable def M27 : List ty36.den → Option ((List ty27.den)) := F27 M51 M52 M53
theorem sm27 : Sp27 M27 := sf27 sm51 sm52 sm53

/-! ### 26: lariat/nnf.Is -/
def X26 : Aux := ⟨[(3, [1, 2, 4, 5, 6, 7, 11, 12, 13, 14, 15, 16, 17, 18, 19, 20, 21, 22, 23, 24, 25, 26, 27, 28, 29, 30, 31, 32, 33, 34, 35, 36, 37, 38, 39, 40, 41, 42])], []⟩
inductive S26 where
  | l0 (v0_2 : Int) (v0_3 : Int) (v0_4 : List ty27.den)
def T26 {R : Type} (B : Ops) (c27 : List ty36.den → Option ((List ty27.den))) (p0 : List ty36.den) (again : S26 → Option R) (k : (Bool) → Option R) : Option S26 → Option R
  | none =>
    ob (c27 p0) fun y0 =>
    again (.l0 (Nat.cast (List.length p0)) 0 y0)
  | some (.l0 v0_2 v0_3 v0_4) =>
    cond (Ops.lt B v0_3 v0_2)
     (
      cond (Ops.inb B v0_3 (List.length p0))
       (
        cond (Ops.eq B (Prod.fst (List.getD p0 (Int.toNat v0_3) (Ty.dflt ty36))) (7))
         (
          k false)
         (
          cond (Ops.eq B (Prod.fst (List.getD p0 (Int.toNat v0_3) (Ty.dflt ty36))) (11))
           (
            k false)
           (
            cond (Ops.eq B (Prod.fst (List.getD p0 (Int.toNat v0_3) (Ty.dflt ty36))) (12))
             (
              k false)
             (
              cond (Ops.eq B (Prod.fst (List.getD p0 (Int.toNat v0_3) (Ty.dflt ty36))) (4))
               (
                cond (Ops.eq B (Nat.cast (List.length v0_4)) (0))
                 (
                  k false)
                 (
                  cond (Ops.inb B v0_3 (List.length v0_4))
                   (
                    cond (Ops.inb B (0) (List.length (List.getD v0_4 (Int.toNat v0_3) (Ty.dflt ty27))))
                     (
                      cond (Ops.inb B (List.getD (List.getD v0_4 (Int.toNat v0_3) (Ty.dflt ty27)) (Int.toNat (0)) (Ty.dflt (Ty.int IntKind.i64))) (List.length p0))
                       (
                        cond (!Ops.eq B (Prod.fst (List.getD p0 (Int.toNat (List.getD (List.getD v0_4 (Int.toNat v0_3) (Ty.dflt ty27)) (Int.toNat (0)) (Ty.dflt (Ty.int IntKind.i64)))) (Ty.dflt ty36))) (3))
                         (
                          k false)
                         (
                          again (.l0 v0_2 (IntKind.wrap IntKind.i64 (v0_3 + 1)) v0_4)))
                       (
                        none))
                     (
                      none))
                   (
                    none)))
               (
                again (.l0 v0_2 (IntKind.wrap IntKind.i64 (v0_3 + 1)) v0_4))))))
       (
        none))
     (
      k (Ops.lt B (0) (Nat.cast (List.length v0_4))))
def E26 (p0 : List ty36.den) : S26 → List AV × Objs
  | .l0 v0_2 v0_3 v0_4 => (mk 43 [(0, .c (.list 36 ty36 p0)), (3, .c (.own 3)), (8, .c (.list 36 ty36 p0)), (9, .c (.int .i64 v0_2)), (10, .c (.int .i64 v0_3))], [(3, .row 27 ty27 v0_4)])
def I26 : S26 → Nat
  | .l0 _ _ _ => 0
theorem eq26 {R : Type} (B : Ops) (c27 : List ty36.den → Option ((List ty27.den))) (p0 : List ty36.den) (k : AV → Objs → Option R) (n : Nat) : afun tau B gl0 X26 (ent 27 (e27 c27) (gnil)) ow Try.f26 [.c (.list 36 ty36 p0)] [] k n = T26 B c27 p0 (fun s => aloop tau B gl0 X26 (ent 27 (e27 c27) (gnil)) ow [] Try.f26 k (I26 s) (E26 p0 s) n) (fun y => k (.c (.bool y)) []) none := by kernel_rfl
theorem el26 {R : Type} (B : Ops) (c27 : List ty36.den → Option ((List ty27.den))) (p0 : List ty36.den) (k : AV → Objs → Option R) (n : Nat) : ∀ s, aloop tau B gl0 X26 (ent 27 (e27 c27) (gnil)) ow [] Try.f26 k (I26 s) (E26 p0 s) (n + 1) = T26 B c27 p0 (fun s => aloop tau B gl0 X26 (ent 27 (e27 c27) (gnil)) ow [] Try.f26 k (I26 s) (E26 p0 s) n) (fun y => k (.c (.bool y)) []) (some s)
  | .l0 v0_2 v0_3 v0_4 => by kernel_rfl
theorem nt26 {R R' : Type} (B : Ops) (c27 : List ty36.den → Option ((List ty27.den))) (p0 : List ty36.den) (again : S26 → Option R) (again' : S26 → Option R') (k0 : (Bool) → Option R') (k : R' → Option R) (h : ∀ s, again s = ob (again' s) k) : ∀ s, T26 B c27 p0 again (fun y => ob (k0 y) k) s = ob (T26 B c27 p0 again' k0 s) k
  | none => by unfold T26; repeat' first | exact rfl | exact h _ | apply nat_cond | (apply nat_ob; intro)
  | some (.l0 v0_2 v0_3 v0_4) => by unfold T26; repeat' first | exact rfl | exact h _ | apply nat_cond | (apply nat_ob; intro)
def R26 (c27 : List ty36.den → Option ((List ty27.den))) (p0 : List ty36.den) : Nat → S26 → Option (Bool)
  | 0, _ => none
  | n + 1, s => T26 Ops.std c27 p0 (R26 c27 p0 n) some (some s)
theorem rr26 {R : Type} (c27 : List ty36.den → Option ((List ty27.den))) (p0 : List ty36.den) (k : AV → Objs → Option R) : ∀ (n : Nat) (s : S26), aloop tau Ops.std gl0 X26 (ent 27 (e27 c27) (gnil)) ow [] Try.f26 k (I26 s) (E26 p0 s) n = ob (R26 c27 p0 n s) (fun y => k (.c (.bool y)) [])
  | 0, s => by cases s <;> rfl
  | n + 1, s => by rw [el26]; exact nt26 Ops.std c27 p0 _ _ some (fun y => k (.c (.bool y)) []) (rr26 c27 p0 k n) (some s)
def F26 (c27 : List ty36.den → Option ((List ty27.den))) (p0 : List ty36.den) : Option (Bool) := T26 Ops.std c27 p0 (R26 c27 p0 1000000) some none
theorem fo26 {R : Type} (c27 : List ty36.den → Option ((List ty27.den))) (p0 : List ty36.den) (k : AV → Objs → Option R) : afun tau Ops.std gl0 X26 (ent 27 (e27 c27) (gnil)) ow Try.f26 [.c (.list 36 ty36 p0)] [] k 1000000 = ob (F26 c27 p0) (fun y => k (.c (.bool y)) []) := by rw [eq26]; exact nt26 Ops.std c27 p0 _ _ some (fun y => k (.c (.bool y)) []) (rr26 c27 p0 k 1000000) none
def e26 {R : Type} (c : List ty36.den → Option (Bool)) : Ent R := fun args objs k =>
  oCons args fun a0 l0 => oC a0 fun x0 => cList 36 ty36 x0 fun p0 => oNil l0 <| oNilO objs <| ob (c p0) fun y => k (.c (.bool y)) []
abbrev Sp26 (c : List ty36.den → Option (Bool)) : Prop := ∀ (p0 : List ty36.den) (y : Bool), c p0 = some y → Spec Try.prog gl0 26 [.c (.list 36 ty36 p0)] [] (.c (.bool y)) []
theorem ek26 {R : Type} {c : List ty36.den → Option (Bool)} (hs : Sp26 c) : EOk 26 (e26 (R := R) c) := fun args objs k r h => by
  unfold e26 at h
  obtain ⟨a0, l0, rfl, q1⟩ := oCons_some h
  obtain ⟨x0, rfl, q2⟩ := oC_some q1
  obtain ⟨p0, rfl, q3⟩ := cList_some q2
  obtain ⟨rfl, q4⟩ := oNil_some q3
  obtain ⟨rfl, q5⟩ := oNilO_some q4
  exact eok_of (hs p0) q5
theorem sf26 {c27 : List ty36.den → Option ((List ty27.den))} (h27 : Sp27 c27) : Sp26 (F26 c27) := fun p0 y hy => by
  refine spec_of (G := ent 27 (e27 c27) (gnil)) (ent_ok (ek27 h27) (gnil_ok)) 1000000 (fn := Try.f26) (by kernel_rfl) (by kernel_rfl) (X := X26) (by kernel_rfl) ?_
  rw [fo26, hy]
  rfl
noncomputable def M26 : List ty36.den → Option (Bool) := F26 M27
theorem sm26 : Sp26 M26 := sf26 sm27

/-! ### 30: lariat/rewrite.is -/
def X30 : Aux := ⟨[], []⟩
def T30 {R : Type} (B : Ops) (p0 : List ty36.den) (p1 : Int) (k : (Bool) → Option R) : Option R :=
  cond (Ops.eq B (Nat.cast (List.length p0)) (1))
   (
    cond (Ops.inb B (0) (List.length p0))
     (
      k (Ops.eq B (Prod.fst (List.getD p0 (Int.toNat (0)) (Ty.dflt ty36))) p1))
     (
      none))
   (
    k false)
theorem eq30 {R : Type} (B : Ops) (p0 : List ty36.den) (p1 : Int) (k : AV → Objs → Option R) (n : Nat) : afun tau B gl0 X30 (gnil) ow Try.f30 [.c (.list 36 ty36 p0), .c (.int .i64 p1)] [] k n = T30 B p0 p1 (fun y => k (.c (.bool y)) []) := by kernel_rfl
theorem nt30 {R R' : Type} (B : Ops) (p0 : List ty36.den) (p1 : Int) (k0 : (Bool) → Option R') (k : R' → Option R) : T30 B p0 p1 (fun y => ob (k0 y) k) = ob (T30 B p0 p1 k0) k := by
  unfold T30
  repeat' first | exact rfl | apply nat_cond | (apply nat_ob; intro)
def F30 (p0 : List ty36.den) (p1 : Int) : Option (Bool) := T30 Ops.std p0 p1 some
theorem fo30 {R : Type} (p0 : List ty36.den) (p1 : Int) (k : AV → Objs → Option R) (n : Nat) : afun tau Ops.std gl0 X30 (gnil) ow Try.f30 [.c (.list 36 ty36 p0), .c (.int .i64 p1)] [] k n = ob (F30 p0 p1) (fun y => k (.c (.bool y)) []) := by rw [eq30]; exact nt30 Ops.std p0 p1 some (fun y => k (.c (.bool y)) [])
def e30 {R : Type} (c : List ty36.den → Int → Option (Bool)) : Ent R := fun args objs k =>
  oCons args fun a0 l0 => oC a0 fun x0 => cList 36 ty36 x0 fun p0 => oCons l0 fun a1 l1 => oC a1 fun x1 => cInt .i64 x1 fun p1 => oNil l1 <| oNilO objs <| ob (c p0 p1) fun y => k (.c (.bool y)) []
abbrev Sp30 (c : List ty36.den → Int → Option (Bool)) : Prop := ∀ (p0 : List ty36.den) (p1 : Int) (y : Bool), c p0 p1 = some y → Spec Try.prog gl0 30 [.c (.list 36 ty36 p0), .c (.int .i64 p1)] [] (.c (.bool y)) []
theorem ek30 {R : Type} {c : List ty36.den → Int → Option (Bool)} (hs : Sp30 c) : EOk 30 (e30 (R := R) c) := fun args objs k r h => by
  unfold e30 at h
  obtain ⟨a0, l0, rfl, q1⟩ := oCons_some h
  obtain ⟨x0, rfl, q2⟩ := oC_some q1
  obtain ⟨p0, rfl, q3⟩ := cList_some q2
  obtain ⟨a1, l1, rfl, q4⟩ := oCons_some q3
  obtain ⟨x1, rfl, q5⟩ := oC_some q4
  obtain ⟨p1, rfl, q6⟩ := cInt_some q5
  obtain ⟨rfl, q7⟩ := oNil_some q6
  obtain ⟨rfl, q8⟩ := oNilO_some q7
  exact eok_of (hs p0 p1) q8
theorem sf30 : Sp30 (F30) := fun p0 p1 y hy => by
  refine spec_of (G := gnil) (gnil_ok) 1000000 (fn := Try.f30) (by kernel_rfl) (by kernel_rfl) (X := X30) (by kernel_rfl) ?_
  rw [fo30, hy]
  rfl
noncomputable def M30 : List ty36.den → Int → Option (Bool) := F30
theorem sm30 : Sp30 M30 := sf30

/-! ### 118: slices.Equal[[]lariat/api.Term,lariat/api.Term] -/
def X118 : Aux := ⟨[(4, [2, 3, 4, 5, 6, 7, 8, 9, 10, 11, 14, 15, 16, 17, 18, 19, 20, 21, 22, 23, 24, 25])], [(6, .lin [0, 1, 2, 3, 4, 5, 6, 7, 8])]⟩
inductive S118 where
  | l0 (v0_2 : Int) (v0_3 : Int)
def T118 {R : Type} (B : Ops) (p0 : List ty97.den) (p1 : List ty97.den) (again : S118 → Option R) (k : (Bool) → Option R) : Option S118 → Option R
  | none =>
    cond (!Ops.eq B (Nat.cast (List.length p0)) (Nat.cast (List.length p1)))
     (
      k false)
     (
      again (.l0 (Nat.cast (List.length p0)) 0))
  | some (.l0 v0_2 v0_3) =>
    cond (Ops.lt B v0_3 v0_2)
     (
      cond (Ops.inb B v0_3 (List.length p0))
       (
        cond (Ops.inb B v0_3 (List.length p1))
         (
          cond (!(Ops.eq B (Prod.fst (List.getD p0 (Int.toNat v0_3) (Ty.dflt ty97))) (Prod.fst (List.getD p1 (Int.toNat v0_3) (Ty.dflt ty97))) && (Ops.eq B (Prod.fst (Prod.snd (List.getD p0 (Int.toNat v0_3) (Ty.dflt ty97)))) (Prod.fst (Prod.snd (List.getD p1 (Int.toNat v0_3) (Ty.dflt ty97)))) && (Prod.fst (Prod.snd (Prod.snd (List.getD p0 (Int.toNat v0_3) (Ty.dflt ty97)))) == Prod.fst (Prod.snd (Prod.snd (List.getD p1 (Int.toNat v0_3) (Ty.dflt ty97)))) && (Prod.snd (Prod.snd (Prod.snd (List.getD p0 (Int.toNat v0_3) (Ty.dflt ty97)))) == Prod.snd (Prod.snd (Prod.snd (List.getD p1 (Int.toNat v0_3) (Ty.dflt ty97)))) && true)))))
           (
            k false)
           (
            again (.l0 v0_2 (IntKind.wrap IntKind.i64 (v0_3 + 1)))))
         (
          none))
       (
        none))
     (
      k true)
def E118 (p0 : List ty97.den) (p1 : List ty97.den) : S118 → List AV × Objs
  | .l0 v0_2 v0_3 => (mk 26 [(0, .c (.list 97 ty97 p0)), (1, .c (.list 97 ty97 p1)), (12, .c (.int .i64 v0_2)), (13, .c (.int .i64 v0_3))], [])
def I118 : S118 → Nat
  | .l0 _ _ => 0
theorem eq118 {R : Type} (B : Ops) (p0 : List ty97.den) (p1 : List ty97.den) (k : AV → Objs → Option R) (n : Nat) : afun tau B gl0 X118 (gnil) ow Try.f118 [.c (.list 97 ty97 p0), .c (.list 97 ty97 p1)] [] k n = T118 B p0 p1 (fun s => aloop tau B gl0 X118 (gnil) ow [] Try.f118 k (I118 s) (E118 p0 p1 s) n) (fun y => k (.c (.bool y)) []) none := by kernel_rfl
theorem el118 {R : Type} (B : Ops) (p0 : List ty97.den) (p1 : List ty97.den) (k : AV → Objs → Option R) (n : Nat) : ∀ s, aloop tau B gl0 X118 (gnil) ow [] Try.f118 k (I118 s) (E118 p0 p1 s) (n + 1) = T118 B p0 p1 (fun s => aloop tau B gl0 X118 (gnil) ow [] Try.f118 k (I118 s) (E118 p0 p1 s) n) (fun y => k (.c (.bool y)) []) (some s)
  | .l0 v0_2 v0_3 => by kernel_rfl
theorem nt118 {R R' : Type} (B : Ops) (p0 : List ty97.den) (p1 : List ty97.den) (again : S118 → Option R) (again' : S118 → Option R') (k0 : (Bool) → Option R') (k : R' → Option R) (h : ∀ s, again s = ob (again' s) k) : ∀ s, T118 B p0 p1 again (fun y => ob (k0 y) k) s = ob (T118 B p0 p1 again' k0 s) k
  | none => by unfold T118; repeat' first | exact rfl | exact h _ | apply nat_cond | (apply nat_ob; intro)
  | some (.l0 v0_2 v0_3) => by unfold T118; repeat' first | exact rfl | exact h _ | apply nat_cond | (apply nat_ob; intro)
def R118 (p0 : List ty97.den) (p1 : List ty97.den) : Nat → S118 → Option (Bool)
  | 0, _ => none
  | n + 1, s => T118 Ops.std p0 p1 (R118 p0 p1 n) some (some s)
theorem rr118 {R : Type} (p0 : List ty97.den) (p1 : List ty97.den) (k : AV → Objs → Option R) : ∀ (n : Nat) (s : S118), aloop tau Ops.std gl0 X118 (gnil) ow [] Try.f118 k (I118 s) (E118 p0 p1 s) n = ob (R118 p0 p1 n s) (fun y => k (.c (.bool y)) [])
  | 0, s => by cases s <;> rfl
  | n + 1, s => by rw [el118]; exact nt118 Ops.std p0 p1 _ _ some (fun y => k (.c (.bool y)) []) (rr118 p0 p1 k n) (some s)
def F118 (p0 : List ty97.den) (p1 : List ty97.den) : Option (Bool) := T118 Ops.std p0 p1 (R118 p0 p1 1000000) some none
theorem fo118 {R : Type} (p0 : List ty97.den) (p1 : List ty97.den) (k : AV → Objs → Option R) : afun tau Ops.std gl0 X118 (gnil) ow Try.f118 [.c (.list 97 ty97 p0), .c (.list 97 ty97 p1)] [] k 1000000 = ob (F118 p0 p1) (fun y => k (.c (.bool y)) []) := by rw [eq118]; exact nt118 Ops.std p0 p1 _ _ some (fun y => k (.c (.bool y)) []) (rr118 p0 p1 k 1000000) none
def e118 {R : Type} (c : List ty97.den → List ty97.den → Option (Bool)) : Ent R := fun args objs k =>
  oCons args fun a0 l0 => oC a0 fun x0 => cList 97 ty97 x0 fun p0 => oCons l0 fun a1 l1 => oC a1 fun x1 => cList 97 ty97 x1 fun p1 => oNil l1 <| oNilO objs <| ob (c p0 p1) fun y => k (.c (.bool y)) []
abbrev Sp118 (c : List ty97.den → List ty97.den → Option (Bool)) : Prop := ∀ (p0 : List ty97.den) (p1 : List ty97.den) (y : Bool), c p0 p1 = some y → Spec Try.prog gl0 118 [.c (.list 97 ty97 p0), .c (.list 97 ty97 p1)] [] (.c (.bool y)) []
theorem ek118 {R : Type} {c : List ty97.den → List ty97.den → Option (Bool)} (hs : Sp118 c) : EOk 118 (e118 (R := R) c) := fun args objs k r h => by
  unfold e118 at h
  obtain ⟨a0, l0, rfl, q1⟩ := oCons_some h
  obtain ⟨x0, rfl, q2⟩ := oC_some q1
  obtain ⟨p0, rfl, q3⟩ := cList_some q2
  obtain ⟨a1, l1, rfl, q4⟩ := oCons_some q3
  obtain ⟨x1, rfl, q5⟩ := oC_some q4
  obtain ⟨p1, rfl, q6⟩ := cList_some q5
  obtain ⟨rfl, q7⟩ := oNil_some q6
  obtain ⟨rfl, q8⟩ := oNilO_some q7
  exact eok_of (hs p0 p1) q8
theorem sf118 : Sp118 (F118) := fun p0 p1 y hy => by
  refine spec_of (G := gnil) (gnil_ok) 1000000 (fn := Try.f118) (by kernel_rfl) (by kernel_rfl) (X := X118) (by kernel_rfl) ?_
  rw [fo118, hy]
  rfl
noncomputable def M118 : List ty97.den → List ty97.den → Option (Bool) := F118
theorem sm118 : Sp118 M118 := sf118

/-! ### 92: lariat/expr.Same -/
def X92 : Aux := ⟨[], []⟩
def T92 {R : Type} (B : Ops) (c118 : List ty97.den → List ty97.den → Option (Bool)) (p0 : List ty97.den) (p1 : List ty97.den) (k : (Bool) → Option R) : Option R :=
  ob (c118 p0 p1) fun y0 =>
  k y0
theorem eq92 {R : Type} (B : Ops) (c118 : List ty97.den → List ty97.den → Option (Bool)) (p0 : List ty97.den) (p1 : List ty97.den) (k : AV → Objs → Option R) (n : Nat) : afun tau B gl0 X92 (ent 118 (e118 c118) (gnil)) ow Try.f92 [.c (.list 97 ty97 p0), .c (.list 97 ty97 p1)] [] k n = T92 B c118 p0 p1 (fun y => k (.c (.bool y)) []) := by kernel_rfl
theorem nt92 {R R' : Type} (B : Ops) (c118 : List ty97.den → List ty97.den → Option (Bool)) (p0 : List ty97.den) (p1 : List ty97.den) (k0 : (Bool) → Option R') (k : R' → Option R) : T92 B c118 p0 p1 (fun y => ob (k0 y) k) = ob (T92 B c118 p0 p1 k0) k := by
  unfold T92
  repeat' first | exact rfl | apply nat_cond | (apply nat_ob; intro)
def F92 (c118 : List ty97.den → List ty97.den → Option (Bool)) (p0 : List ty97.den) (p1 : List ty97.den) : Option (Bool) := T92 Ops.std c118 p0 p1 some
theorem fo92 {R : Type} (c118 : List ty97.den → List ty97.den → Option (Bool)) (p0 : List ty97.den) (p1 : List ty97.den) (k : AV → Objs → Option R) (n : Nat) : afun tau Ops.std gl0 X92 (ent 118 (e118 c118) (gnil)) ow Try.f92 [.c (.list 97 ty97 p0), .c (.list 97 ty97 p1)] [] k n = ob (F92 c118 p0 p1) (fun y => k (.c (.bool y)) []) := by rw [eq92]; exact nt92 Ops.std c118 p0 p1 some (fun y => k (.c (.bool y)) [])
def e92 {R : Type} (c : List ty97.den → List ty97.den → Option (Bool)) : Ent R := fun args objs k =>
  oCons args fun a0 l0 => oC a0 fun x0 => cList 97 ty97 x0 fun p0 => oCons l0 fun a1 l1 => oC a1 fun x1 => cList 97 ty97 x1 fun p1 => oNil l1 <| oNilO objs <| ob (c p0 p1) fun y => k (.c (.bool y)) []
abbrev Sp92 (c : List ty97.den → List ty97.den → Option (Bool)) : Prop := ∀ (p0 : List ty97.den) (p1 : List ty97.den) (y : Bool), c p0 p1 = some y → Spec Try.prog gl0 92 [.c (.list 97 ty97 p0), .c (.list 97 ty97 p1)] [] (.c (.bool y)) []
theorem ek92 {R : Type} {c : List ty97.den → List ty97.den → Option (Bool)} (hs : Sp92 c) : EOk 92 (e92 (R := R) c) := fun args objs k r h => by
  unfold e92 at h
  obtain ⟨a0, l0, rfl, q1⟩ := oCons_some h
  obtain ⟨x0, rfl, q2⟩ := oC_some q1
  obtain ⟨p0, rfl, q3⟩ := cList_some q2
  obtain ⟨a1, l1, rfl, q4⟩ := oCons_some q3
  obtain ⟨x1, rfl, q5⟩ := oC_some q4
  obtain ⟨p1, rfl, q6⟩ := cList_some q5
  obtain ⟨rfl, q7⟩ := oNil_some q6
  obtain ⟨rfl, q8⟩ := oNilO_some q7
  exact eok_of (hs p0 p1) q8
theorem sf92 {c118 : List ty97.den → List ty97.den → Option (Bool)} (h118 : Sp118 c118) : Sp92 (F92 c118) := fun p0 p1 y hy => by
  refine spec_of (G := ent 118 (e118 c118) (gnil)) (ent_ok (ek118 h118) (gnil_ok)) 1000000 (fn := Try.f92) (by kernel_rfl) (by kernel_rfl) (X := X92) (by kernel_rfl) ?_
  rw [fo92, hy]
  rfl
noncomputable def M92 : List ty97.den → List ty97.den → Option (Bool) := F92 M118
theorem sm92 : Sp92 M92 := sf92 sm118

/-! ### 91: lariat/formula.Same$1 -/
def X91 : Aux := ⟨[], []⟩
def T91 {R : Type} (B : Ops) (c92 : List ty97.den → List ty97.den → Option (Bool)) (p0 : Int) (p1 : List ty97.den) (p2 : Int) (p3 : List ty97.den) (k : (Bool) → Option R) : Option R :=
  cond (Ops.eq B p0 p2)
   (
    ob (c92 p1 p3) fun y0 =>
    k y0)
   (
    k false)
theorem eq91 {R : Type} (B : Ops) (c92 : List ty97.den → List ty97.den → Option (Bool)) (p0 : Int) (p1 : List ty97.den) (p2 : Int) (p3 : List ty97.den) (k : AV → Objs → Option R) (n : Nat) : afun tau B gl0 X91 (ent 92 (e92 c92) (gnil)) ow Try.f91 [.agg [.int .i64 p0, .list 97 ty97 p1], .agg [.int .i64 p2, .list 97 ty97 p3]] [] k n = T91 B c92 p0 p1 p2 p3 (fun y => k (.c (.bool y)) []) := by kernel_rfl
theorem nt91 {R R' : Type} (B : Ops) (c92 : List ty97.den → List ty97.den → Option (Bool)) (p0 : Int) (p1 : List ty97.den) (p2 : Int) (p3 : List ty97.den) (k0 : (Bool) → Option R') (k : R' → Option R) : T91 B c92 p0 p1 p2 p3 (fun y => ob (k0 y) k) = ob (T91 B c92 p0 p1 p2 p3 k0) k := by
  unfold T91
  repeat' first | exact rfl | apply nat_cond | (apply nat_ob; intro)
def F91 (c92 : List ty97.den → List ty97.den → Option (Bool)) (p0 : Int) (p1 : List ty97.den) (p2 : Int) (p3 : List ty97.den) : Option (Bool) := T91 Ops.std c92 p0 p1 p2 p3 some
theorem fo91 {R : Type} (c92 : List ty97.den → List ty97.den → Option (Bool)) (p0 : Int) (p1 : List ty97.den) (p2 : Int) (p3 : List ty97.den) (k : AV → Objs → Option R) (n : Nat) : afun tau Ops.std gl0 X91 (ent 92 (e92 c92) (gnil)) ow Try.f91 [.agg [.int .i64 p0, .list 97 ty97 p1], .agg [.int .i64 p2, .list 97 ty97 p3]] [] k n = ob (F91 c92 p0 p1 p2 p3) (fun y => k (.c (.bool y)) []) := by rw [eq91]; exact nt91 Ops.std c92 p0 p1 p2 p3 some (fun y => k (.c (.bool y)) [])
def e91 {R : Type} (c : Int → List ty97.den → Int → List ty97.den → Option (Bool)) : Ent R := fun args objs k =>
  oCons args fun a0 l0 => oAgg a0 fun x0 => cCons x0 fun z0_0 w0_0 => cInt .i64 z0_0 fun p0 => cCons w0_0 fun z0_1 w0_1 => cList 97 ty97 z0_1 fun p1 => cNil w0_1 <| oCons l0 fun a1 l1 => oAgg a1 fun x1 => cCons x1 fun z1_0 w1_0 => cInt .i64 z1_0 fun p2 => cCons w1_0 fun z1_1 w1_1 => cList 97 ty97 z1_1 fun p3 => cNil w1_1 <| oNil l1 <| oNilO objs <| ob (c p0 p1 p2 p3) fun y => k (.c (.bool y)) []
abbrev Sp91 (c : Int → List ty97.den → Int → List ty97.den → Option (Bool)) : Prop := ∀ (p0 : Int) (p1 : List ty97.den) (p2 : Int) (p3 : List ty97.den) (y : Bool), c p0 p1 p2 p3 = some y → Spec Try.prog gl0 91 [.agg [.int .i64 p0, .list 97 ty97 p1], .agg [.int .i64 p2, .list 97 ty97 p3]] [] (.c (.bool y)) []
theorem ek91 {R : Type} {c : Int → List ty97.den → Int → List ty97.den → Option (Bool)} (hs : Sp91 c) : EOk 91 (e91 (R := R) c) := fun args objs k r h => by
  unfold e91 at h
  obtain ⟨a0, l0, rfl, q1⟩ := oCons_some h
  obtain ⟨x0, rfl, q2⟩ := oAgg_some q1
  obtain ⟨z0_0, w0_0, rfl, q3⟩ := cCons_some q2
  obtain ⟨p0, rfl, q4⟩ := cInt_some q3
  obtain ⟨z0_1, w0_1, rfl, q5⟩ := cCons_some q4
  obtain ⟨p1, rfl, q6⟩ := cList_some q5
  obtain ⟨rfl, q7⟩ := cNil_some q6
  obtain ⟨a1, l1, rfl, q8⟩ := oCons_some q7
  obtain ⟨x1, rfl, q9⟩ := oAgg_some q8
  obtain ⟨z1_0, w1_0, rfl, q10⟩ := cCons_some q9
  obtain ⟨p2, rfl, q11⟩ := cInt_some q10
  obtain ⟨z1_1, w1_1, rfl, q12⟩ := cCons_some q11
  obtain ⟨p3, rfl, q13⟩ := cList_some q12
  obtain ⟨rfl, q14⟩ := cNil_some q13
  obtain ⟨rfl, q15⟩ := oNil_some q14
  obtain ⟨rfl, q16⟩ := oNilO_some q15
  exact eok_of (hs p0 p1 p2 p3) q16
theorem sf91 {c92 : List ty97.den → List ty97.den → Option (Bool)} (h92 : Sp92 c92) : Sp91 (F91 c92) := fun p0 p1 p2 p3 y hy => by
  refine spec_of (G := ent 92 (e92 c92) (gnil)) (ent_ok (ek92 h92) (gnil_ok)) 1000000 (fn := Try.f91) (by kernel_rfl) (by kernel_rfl) (X := X91) (by kernel_rfl) ?_
  rw [fo91, hy]
  rfl
noncomputable def M91 : Int → List ty97.den → Int → List ty97.den → Option (Bool) := F91 M92
theorem sm91 : Sp91 M91 := sf91 sm92

/-! ### 90: slices.EqualFunc[[]lariat/api.Part,[]lariat/api.Part,lariat/api.Part,lariat/api.Part] -/
def X90 : Aux := ⟨[(4, [0, 3, 4, 5, 6, 7, 8, 9, 10, 11, 12, 13, 14, 18, 19, 20, 21, 22, 23, 24, 25, 26, 27, 28, 29, 30, 31])], []⟩
inductive S90 where
  | l0 (v0_2 : Int) (v0_3 : Int)
def T90 {R : Type} (B : Ops) (c91 : Int → List ty97.den → Int → List ty97.den → Option (Bool)) (p0 : List ty36.den) (p1 : List ty36.den) (again : S90 → Option R) (k : (Bool) → Option R) : Option S90 → Option R
  | none =>
    cond (!Ops.eq B (Nat.cast (List.length p0)) (Nat.cast (List.length p1)))
     (
      k false)
     (
      again (.l0 (Nat.cast (List.length p0)) 0))
  | some (.l0 v0_2 v0_3) =>
    cond (Ops.lt B v0_3 v0_2)
     (
      cond (Ops.inb B v0_3 (List.length p0))
       (
        cond (Ops.inb B v0_3 (List.length p1))
         (
          ob (c91 (Prod.fst (List.getD p0 (Int.toNat v0_3) (Ty.dflt ty36))) (Prod.snd (List.getD p0 (Int.toNat v0_3) (Ty.dflt ty36))) (Prod.fst (List.getD p1 (Int.toNat v0_3) (Ty.dflt ty36))) (Prod.snd (List.getD p1 (Int.toNat v0_3) (Ty.dflt ty36)))) fun y0 =>
          cond (!y0)
           (
            k false)
           (
            again (.l0 v0_2 (IntKind.wrap IntKind.i64 (v0_3 + 1)))))
         (
          none))
       (
        none))
     (
      k true)
def E90 (p0 : List ty36.den) (p1 : List ty36.den) : S90 → List AV × Objs
  | .l0 v0_2 v0_3 => (mk 32 [(1, .c (.list 36 ty36 p1)), (2, .fn 91 []), (15, .c (.list 36 ty36 p0)), (16, .c (.int .i64 v0_2)), (17, .c (.int .i64 v0_3))], [])
def I90 : S90 → Nat
  | .l0 _ _ => 0
theorem eq90 {R : Type} (B : Ops) (c91 : Int → List ty97.den → Int → List ty97.den → Option (Bool)) (p0 : List ty36.den) (p1 : List ty36.den) (k : AV → Objs → Option R) (n : Nat) : afun tau B gl0 X90 (ent 91 (e91 c91) (gnil)) ow Try.f90 [.c (.list 36 ty36 p0), .c (.list 36 ty36 p1), .fn 91 []] [] k n = T90 B c91 p0 p1 (fun s => aloop tau B gl0 X90 (ent 91 (e91 c91) (gnil)) ow [] Try.f90 k (I90 s) (E90 p0 p1 s) n) (fun y => k (.c (.bool y)) []) none := by kernel_rfl
theorem el90 {R : Type} (B : Ops) (c91 : Int → List ty97.den → Int → List ty97.den → Option (Bool)) (p0 : List ty36.den) (p1 : List ty36.den) (k : AV → Objs → Option R) (n : Nat) : ∀ s, aloop tau B gl0 X90 (ent 91 (e91 c91) (gnil)) ow [] Try.f90 k (I90 s) (E90 p0 p1 s) (n + 1) = T90 B c91 p0 p1 (fun s => aloop tau B gl0 X90 (ent 91 (e91 c91) (gnil)) ow [] Try.f90 k (I90 s) (E90 p0 p1 s) n) (fun y => k (.c (.bool y)) []) (some s)
  | .l0 v0_2 v0_3 => by kernel_rfl
theorem nt90 {R R' : Type} (B : Ops) (c91 : Int → List ty97.den → Int → List ty97.den → Option (Bool)) (p0 : List ty36.den) (p1 : List ty36.den) (again : S90 → Option R) (again' : S90 → Option R') (k0 : (Bool) → Option R') (k : R' → Option R) (h : ∀ s, again s = ob (again' s) k) : ∀ s, T90 B c91 p0 p1 again (fun y => ob (k0 y) k) s = ob (T90 B c91 p0 p1 again' k0 s) k
  | none => by unfold T90; repeat' first | exact rfl | exact h _ | apply nat_cond | (apply nat_ob; intro)
  | some (.l0 v0_2 v0_3) => by unfold T90; repeat' first | exact rfl | exact h _ | apply nat_cond | (apply nat_ob; intro)
def R90 (c91 : Int → List ty97.den → Int → List ty97.den → Option (Bool)) (p0 : List ty36.den) (p1 : List ty36.den) : Nat → S90 → Option (Bool)
  | 0, _ => none
  | n + 1, s => T90 Ops.std c91 p0 p1 (R90 c91 p0 p1 n) some (some s)
theorem rr90 {R : Type} (c91 : Int → List ty97.den → Int → List ty97.den → Option (Bool)) (p0 : List ty36.den) (p1 : List ty36.den) (k : AV → Objs → Option R) : ∀ (n : Nat) (s : S90), aloop tau Ops.std gl0 X90 (ent 91 (e91 c91) (gnil)) ow [] Try.f90 k (I90 s) (E90 p0 p1 s) n = ob (R90 c91 p0 p1 n s) (fun y => k (.c (.bool y)) [])
  | 0, s => by cases s <;> rfl
  | n + 1, s => by rw [el90]; exact nt90 Ops.std c91 p0 p1 _ _ some (fun y => k (.c (.bool y)) []) (rr90 c91 p0 p1 k n) (some s)
def F90 (c91 : Int → List ty97.den → Int → List ty97.den → Option (Bool)) (p0 : List ty36.den) (p1 : List ty36.den) : Option (Bool) := T90 Ops.std c91 p0 p1 (R90 c91 p0 p1 1000000) some none
theorem fo90 {R : Type} (c91 : Int → List ty97.den → Int → List ty97.den → Option (Bool)) (p0 : List ty36.den) (p1 : List ty36.den) (k : AV → Objs → Option R) : afun tau Ops.std gl0 X90 (ent 91 (e91 c91) (gnil)) ow Try.f90 [.c (.list 36 ty36 p0), .c (.list 36 ty36 p1), .fn 91 []] [] k 1000000 = ob (F90 c91 p0 p1) (fun y => k (.c (.bool y)) []) := by rw [eq90]; exact nt90 Ops.std c91 p0 p1 _ _ some (fun y => k (.c (.bool y)) []) (rr90 c91 p0 p1 k 1000000) none
def e90 {R : Type} (c : List ty36.den → List ty36.den → Option (Bool)) : Ent R := fun args objs k =>
  oCons args fun a0 l0 => oC a0 fun x0 => cList 36 ty36 x0 fun p0 => oCons l0 fun a1 l1 => oC a1 fun x1 => cList 36 ty36 x1 fun p1 => oCons l1 fun a2 l2 => oFn 91 a2 <| oNil l2 <| oNilO objs <| ob (c p0 p1) fun y => k (.c (.bool y)) []
abbrev Sp90 (c : List ty36.den → List ty36.den → Option (Bool)) : Prop := ∀ (p0 : List ty36.den) (p1 : List ty36.den) (y : Bool), c p0 p1 = some y → Spec Try.prog gl0 90 [.c (.list 36 ty36 p0), .c (.list 36 ty36 p1), .fn 91 []] [] (.c (.bool y)) []
theorem ek90 {R : Type} {c : List ty36.den → List ty36.den → Option (Bool)} (hs : Sp90 c) : EOk 90 (e90 (R := R) c) := fun args objs k r h => by
  unfold e90 at h
  obtain ⟨a0, l0, rfl, q1⟩ := oCons_some h
  obtain ⟨x0, rfl, q2⟩ := oC_some q1
  obtain ⟨p0, rfl, q3⟩ := cList_some q2
  obtain ⟨a1, l1, rfl, q4⟩ := oCons_some q3
  obtain ⟨x1, rfl, q5⟩ := oC_some q4
  obtain ⟨p1, rfl, q6⟩ := cList_some q5
  obtain ⟨a2, l2, rfl, q7⟩ := oCons_some q6
  obtain ⟨rfl, q8⟩ := oFn_some q7
  obtain ⟨rfl, q9⟩ := oNil_some q8
  obtain ⟨rfl, q10⟩ := oNilO_some q9
  exact eok_of (hs p0 p1) q10
theorem sf90 {c91 : Int → List ty97.den → Int → List ty97.den → Option (Bool)} (h91 : Sp91 c91) : Sp90 (F90 c91) := fun p0 p1 y hy => by
  refine spec_of (G := ent 91 (e91 c91) (gnil)) (ent_ok (ek91 h91) (gnil_ok)) 1000000 (fn := Try.f90) (by kernel_rfl) (by kernel_rfl) (X := X90) (by kernel_rfl) ?_
  rw [fo90, hy]
  rfl
noncomputable def M90 : List ty36.den → List ty36.den → Option (Bool) := F90 M91
theorem sm90 : Sp90 M90 := sf90 sm91

/-! ### 54: lariat/formula.Same -/
def X54 : Aux := ⟨[], []⟩
def T54 {R : Type} (B : Ops) (c90 : List ty36.den → List ty36.den → Option (Bool)) (c91 : Int → List ty97.den → Int → List ty97.den → Option (Bool)) (p0 : List ty36.den) (p1 : List ty36.den) (k : (Bool) → Option R) : Option R :=
  ob (c90 p0 p1) fun y0 =>
  k y0
theorem eq54 {R : Type} (B : Ops) (c90 : List ty36.den → List ty36.den → Option (Bool)) (c91 : Int → List ty97.den → Int → List ty97.den → Option (Bool)) (p0 : List ty36.den) (p1 : List ty36.den) (k : AV → Objs → Option R) (n : Nat) : afun tau B gl0 X54 (ent 90 (e90 c90) (ent 91 (e91 c91) (gnil))) ow Try.f54 [.c (.list 36 ty36 p0), .c (.list 36 ty36 p1)] [] k n = T54 B c90 c91 p0 p1 (fun y => k (.c (.bool y)) []) := by kernel_rfl
theorem nt54 {R R' : Type} (B : Ops) (c90 : List ty36.den → List ty36.den → Option (Bool)) (c91 : Int → List ty97.den → Int → List ty97.den → Option (Bool)) (p0 : List ty36.den) (p1 : List ty36.den) (k0 : (Bool) → Option R') (k : R' → Option R) : T54 B c90 c91 p0 p1 (fun y => ob (k0 y) k) = ob (T54 B c90 c91 p0 p1 k0) k := by
  unfold T54
  repeat' first | exact rfl | apply nat_cond | (apply nat_ob; intro)
def F54 (c90 : List ty36.den → List ty36.den → Option (Bool)) (c91 : Int → List ty97.den → Int → List ty97.den → Option (Bool)) (p0 : List ty36.den) (p1 : List ty36.den) : Option (Bool) := T54 Ops.std c90 c91 p0 p1 some
theorem fo54 {R : Type} (c90 : List ty36.den → List ty36.den → Option (Bool)) (c91 : Int → List ty97.den → Int → List ty97.den → Option (Bool)) (p0 : List ty36.den) (p1 : List ty36.den) (k : AV → Objs → Option R) (n : Nat) : afun tau Ops.std gl0 X54 (ent 90 (e90 c90) (ent 91 (e91 c91) (gnil))) ow Try.f54 [.c (.list 36 ty36 p0), .c (.list 36 ty36 p1)] [] k n = ob (F54 c90 c91 p0 p1) (fun y => k (.c (.bool y)) []) := by rw [eq54]; exact nt54 Ops.std c90 c91 p0 p1 some (fun y => k (.c (.bool y)) [])
def e54 {R : Type} (c : List ty36.den → List ty36.den → Option (Bool)) : Ent R := fun args objs k =>
  oCons args fun a0 l0 => oC a0 fun x0 => cList 36 ty36 x0 fun p0 => oCons l0 fun a1 l1 => oC a1 fun x1 => cList 36 ty36 x1 fun p1 => oNil l1 <| oNilO objs <| ob (c p0 p1) fun y => k (.c (.bool y)) []
abbrev Sp54 (c : List ty36.den → List ty36.den → Option (Bool)) : Prop := ∀ (p0 : List ty36.den) (p1 : List ty36.den) (y : Bool), c p0 p1 = some y → Spec Try.prog gl0 54 [.c (.list 36 ty36 p0), .c (.list 36 ty36 p1)] [] (.c (.bool y)) []
theorem ek54 {R : Type} {c : List ty36.den → List ty36.den → Option (Bool)} (hs : Sp54 c) : EOk 54 (e54 (R := R) c) := fun args objs k r h => by
  unfold e54 at h
  obtain ⟨a0, l0, rfl, q1⟩ := oCons_some h
  obtain ⟨x0, rfl, q2⟩ := oC_some q1
  obtain ⟨p0, rfl, q3⟩ := cList_some q2
  obtain ⟨a1, l1, rfl, q4⟩ := oCons_some q3
  obtain ⟨x1, rfl, q5⟩ := oC_some q4
  obtain ⟨p1, rfl, q6⟩ := cList_some q5
  obtain ⟨rfl, q7⟩ := oNil_some q6
  obtain ⟨rfl, q8⟩ := oNilO_some q7
  exact eok_of (hs p0 p1) q8
theorem sf54 {c90 : List ty36.den → List ty36.den → Option (Bool)} {c91 : Int → List ty97.den → Int → List ty97.den → Option (Bool)} (h90 : Sp90 c90) (h91 : Sp91 c91) : Sp54 (F54 c90 c91) := fun p0 p1 y hy => by
  refine spec_of (G := ent 90 (e90 c90) (ent 91 (e91 c91) (gnil))) (ent_ok (ek90 h90) (ent_ok (ek91 h91) (gnil_ok))) 1000000 (fn := Try.f54) (by kernel_rfl) (by kernel_rfl) (X := X54) (by kernel_rfl) ?_
  rw [fo54, hy]
  rfl
noncomputable def M54 : List ty36.den → List ty36.den → Option (Bool) := F54 M90 M91
theorem sm54 : Sp54 M54 := sf54 sm90 sm91

/-! ### 55: lariat/rewrite.again -/
def X55 : Aux := ⟨[], []⟩
def T55 {R : Type} (B : Ops) (c27 : List ty36.den → Option ((List ty27.den))) (c54 : List ty36.den → List ty36.den → Option (Bool)) (p0 : Int) (p1 : List ty36.den) (p2 : List ty36.den) (k : (Bool) → Option R) : Option R :=
  ob (c27 p2) fun y0 =>
  cond (Ops.inb B (IntKind.wrap IntKind.i64 (Nat.cast (List.length p2) - 1)) (List.length p2))
   (
    cond (Ops.eq B (Prod.fst (List.getD p2 (Int.toNat (IntKind.wrap IntKind.i64 (Nat.cast (List.length p2) - 1))) (Ty.dflt ty36))) p0)
     (
      cond (Ops.inb B (IntKind.wrap IntKind.i64 (Nat.cast (List.length p2) - 1)) (List.length y0))
       (
        cond (Ops.inb B (0) (List.length (List.getD y0 (Int.toNat (IntKind.wrap IntKind.i64 (Nat.cast (List.length p2) - 1))) (Ty.dflt ty27))))
         (
          cond (Ops.inb B (IntKind.wrap IntKind.i64 (List.getD (List.getD y0 (Int.toNat (IntKind.wrap IntKind.i64 (Nat.cast (List.length p2) - 1))) (Ty.dflt ty27)) (Int.toNat (0)) (Ty.dflt (Ty.int IntKind.i64)) + 1)) (List.length p2 + 1))
           (
            ob (c54 (List.drop (0) (List.take (Int.toNat (IntKind.wrap IntKind.i64 (List.getD (List.getD y0 (Int.toNat (IntKind.wrap IntKind.i64 (Nat.cast (List.length p2) - 1))) (Ty.dflt ty27)) (Int.toNat (0)) (Ty.dflt (Ty.int IntKind.i64)) + 1))) p2)) p1) fun y1 =>
            k y1)
           (
            none))
         (
          none))
       (
        none))
     (
      k false))
   (
    none)
theorem eq55 {R : Type} (B : Ops) (c27 : List ty36.den → Option ((List ty27.den))) (c54 : List ty36.den → List ty36.den → Option (Bool)) (p0 : Int) (p1 : List ty36.den) (p2 : List ty36.den) (k : AV → Objs → Option R) (n : Nat) : afun tau B gl0 X55 (ent 27 (e27 c27) (ent 54 (e54 c54) (gnil))) ow Try.f55 [.c (.int .i64 p0), .c (.list 36 ty36 p1), .c (.list 36 ty36 p2)] [] k n = T55 B c27 c54 p0 p1 p2 (fun y => k (.c (.bool y)) []) := by kernel_rfl
theorem nt55 {R R' : Type} (B : Ops) (c27 : List ty36.den → Option ((List ty27.den))) (c54 : List ty36.den → List ty36.den → Option (Bool)) (p0 : Int) (p1 : List ty36.den) (p2 : List ty36.den) (k0 : (Bool) → Option R') (k : R' → Option R) : T55 B c27 c54 p0 p1 p2 (fun y => ob (k0 y) k) = ob (T55 B c27 c54 p0 p1 p2 k0) k := by
  unfold T55
  repeat' first | exact rfl | apply nat_cond | (apply nat_ob; intro)
def F55 (c27 : List ty36.den → Option ((List ty27.den))) (c54 : List ty36.den → List ty36.den → Option (Bool)) (p0 : Int) (p1 : List ty36.den) (p2 : List ty36.den) : Option (Bool) := T55 Ops.std c27 c54 p0 p1 p2 some
theorem fo55 {R : Type} (c27 : List ty36.den → Option ((List ty27.den))) (c54 : List ty36.den → List ty36.den → Option (Bool)) (p0 : Int) (p1 : List ty36.den) (p2 : List ty36.den) (k : AV → Objs → Option R) (n : Nat) : afun tau Ops.std gl0 X55 (ent 27 (e27 c27) (ent 54 (e54 c54) (gnil))) ow Try.f55 [.c (.int .i64 p0), .c (.list 36 ty36 p1), .c (.list 36 ty36 p2)] [] k n = ob (F55 c27 c54 p0 p1 p2) (fun y => k (.c (.bool y)) []) := by rw [eq55]; exact nt55 Ops.std c27 c54 p0 p1 p2 some (fun y => k (.c (.bool y)) [])
def e55 {R : Type} (c : Int → List ty36.den → List ty36.den → Option (Bool)) : Ent R := fun args objs k =>
  oCons args fun a0 l0 => oC a0 fun x0 => cInt .i64 x0 fun p0 => oCons l0 fun a1 l1 => oC a1 fun x1 => cList 36 ty36 x1 fun p1 => oCons l1 fun a2 l2 => oC a2 fun x2 => cList 36 ty36 x2 fun p2 => oNil l2 <| oNilO objs <| ob (c p0 p1 p2) fun y => k (.c (.bool y)) []
abbrev Sp55 (c : Int → List ty36.den → List ty36.den → Option (Bool)) : Prop := ∀ (p0 : Int) (p1 : List ty36.den) (p2 : List ty36.den) (y : Bool), c p0 p1 p2 = some y → Spec Try.prog gl0 55 [.c (.int .i64 p0), .c (.list 36 ty36 p1), .c (.list 36 ty36 p2)] [] (.c (.bool y)) []
theorem ek55 {R : Type} {c : Int → List ty36.den → List ty36.den → Option (Bool)} (hs : Sp55 c) : EOk 55 (e55 (R := R) c) := fun args objs k r h => by
  unfold e55 at h
  obtain ⟨a0, l0, rfl, q1⟩ := oCons_some h
  obtain ⟨x0, rfl, q2⟩ := oC_some q1
  obtain ⟨p0, rfl, q3⟩ := cInt_some q2
  obtain ⟨a1, l1, rfl, q4⟩ := oCons_some q3
  obtain ⟨x1, rfl, q5⟩ := oC_some q4
  obtain ⟨p1, rfl, q6⟩ := cList_some q5
  obtain ⟨a2, l2, rfl, q7⟩ := oCons_some q6
  obtain ⟨x2, rfl, q8⟩ := oC_some q7
  obtain ⟨p2, rfl, q9⟩ := cList_some q8
  obtain ⟨rfl, q10⟩ := oNil_some q9
  obtain ⟨rfl, q11⟩ := oNilO_some q10
  exact eok_of (hs p0 p1 p2) q11
theorem sf55 {c27 : List ty36.den → Option ((List ty27.den))} {c54 : List ty36.den → List ty36.den → Option (Bool)} (h27 : Sp27 c27) (h54 : Sp54 c54) : Sp55 (F55 c27 c54) := fun p0 p1 p2 y hy => by
  refine spec_of (G := ent 27 (e27 c27) (ent 54 (e54 c54) (gnil))) (ent_ok (ek27 h27) (ent_ok (ek54 h54) (gnil_ok))) 1000000 (fn := Try.f55) (by kernel_rfl) (by kernel_rfl) (X := X55) (by kernel_rfl) ?_
  rw [fo55, hy]
  rfl
noncomputable def M55 : Int → List ty36.den → List ty36.den → Option (Bool) := F55 M27 M54
theorem sm55 : Sp55 M55 := sf55 sm27 sm54
def e57 {R : Type} (c : List ty36.den → Option ((List ty36.den))) : Ent R := fun args objs k =>
  oCons args fun a0 l0 => oC a0 fun x0 => cList 36 ty36 x0 fun p0 => oNil l0 <| oNilO objs <| ob (c p0) fun y => k (.c (.own 500)) [(500, .row 36 ty36 y)]
abbrev Sp57 (c : List ty36.den → Option ((List ty36.den))) : Prop := ∀ (p0 : List ty36.den) (y : (List ty36.den)), c p0 = some y → Spec Try.prog gl0 57 [.c (.list 36 ty36 p0)] [] (.c (.own 500)) [(500, .row 36 ty36 y)]
theorem ek57 {R : Type} {c : List ty36.den → Option ((List ty36.den))} (hs : Sp57 c) : EOk 57 (e57 (R := R) c) := fun args objs k r h => by
  unfold e57 at h
  obtain ⟨a0, l0, rfl, q1⟩ := oCons_some h
  obtain ⟨x0, rfl, q2⟩ := oC_some q1
  obtain ⟨p0, rfl, q3⟩ := cList_some q2
  obtain ⟨rfl, q4⟩ := oNil_some q3
  obtain ⟨rfl, q5⟩ := oNilO_some q4
  exact eok_of (hs p0) q5
def M57 : List ty36.den → Option ((List ty36.den)) := cloneF (t := ty36) 32
theorem sm57 : Sp57 M57 := by
  have h : ∀ (B : Ops) (xs : List (Ty.den ty36)) (k : AV → Objs → Option AO), afun tau B gl0 X0 gnil ow Try.f57 [.c (.list 36 ty36 xs)] [] k 1 = cloneT B 36 32 ty36 xs k := fun B xs k => by kernel_rfl
  refine clone_sp (fun xs v o h0 => ?_) fun b => ?_
  · exact spec_of (G := gnil) gnil_ok 1 (fn := Try.f57) (by kernel_rfl) (by kernel_rfl) (X := X0) (by kernel_rfl) ((h _ _ _).trans h0)
  · cases b <;> exact spec_of (G := gnil) gnil_ok 1 (fn := Try.f57) (by kernel_rfl) (by kernel_rfl) (X := X0) (by kernel_rfl) (by kernel_rfl)
def e58 {R : Type} (c : List ty97.den → Option ((List ty97.den))) : Ent R := fun args objs k =>
  oCons args fun a0 l0 => oC a0 fun x0 => cList 97 ty97 x0 fun p0 => oNil l0 <| oNilO objs <| ob (c p0) fun y => k (.c (.own 500)) [(500, .row 97 ty97 y)]
abbrev Sp58 (c : List ty97.den → Option ((List ty97.den))) : Prop := ∀ (p0 : List ty97.den) (y : (List ty97.den)), c p0 = some y → Spec Try.prog gl0 58 [.c (.list 97 ty97 p0)] [] (.c (.own 500)) [(500, .row 97 ty97 y)]
theorem ek58 {R : Type} {c : List ty97.den → Option ((List ty97.den))} (hs : Sp58 c) : EOk 58 (e58 (R := R) c) := fun args objs k r h => by
  unfold e58 at h
  obtain ⟨a0, l0, rfl, q1⟩ := oCons_some h
  obtain ⟨x0, rfl, q2⟩ := oC_some q1
  obtain ⟨p0, rfl, q3⟩ := cList_some q2
  obtain ⟨rfl, q4⟩ := oNil_some q3
  obtain ⟨rfl, q5⟩ := oNilO_some q4
  exact eok_of (hs p0) q5
def M58 : List ty97.den → Option ((List ty97.den)) := cloneF (t := ty97) 48
theorem sm58 : Sp58 M58 := by
  have h : ∀ (B : Ops) (xs : List (Ty.den ty97)) (k : AV → Objs → Option AO), afun tau B gl0 X0 gnil ow Try.f58 [.c (.list 97 ty97 xs)] [] k 1 = cloneT B 97 48 ty97 xs k := fun B xs k => by kernel_rfl
  refine clone_sp (fun xs v o h0 => ?_) fun b => ?_
  · exact spec_of (G := gnil) gnil_ok 1 (fn := Try.f58) (by kernel_rfl) (by kernel_rfl) (X := X0) (by kernel_rfl) ((h _ _ _).trans h0)
  · cases b <;> exact spec_of (G := gnil) gnil_ok 1 (fn := Try.f58) (by kernel_rfl) (by kernel_rfl) (X := X0) (by kernel_rfl) (by kernel_rfl)

/-! ### 32: lariat/rewrite.copied -/
def X32 : Aux := ⟨[(3, [0, 1, 2, 4, 5, 6, 7, 11, 12, 13, 14, 15, 16, 17, 18, 19, 20, 21, 22, 23])], []⟩
inductive S32 where
  | l0 (v0_0 : Int) (v0_1 : Int) (v0_2 : List ty36.den)
def T32 {R : Type} (B : Ops) (c57 : List ty36.den → Option ((List ty36.den))) (c58 : List ty97.den → Option ((List ty97.den))) (p0 : List ty36.den) (again : S32 → Option R) (k : ((List ty36.den)) → Option R) : Option S32 → Option R
  | none =>
    ob (c57 p0) fun y0 =>
    again (.l0 (Nat.cast (List.length y0)) 0 y0)
  | some (.l0 v0_0 v0_1 v0_2) =>
    cond (Ops.lt B v0_1 v0_0)
     (
      cond (Ops.inb B v0_1 (List.length v0_2))
       (
        ob (c58 (Prod.snd (List.getD v0_2 (Int.toNat v0_1) (Ty.dflt ty36)))) fun y0 =>
        cond (Ops.inb B v0_1 (List.length v0_2))
         (
          again (.l0 v0_0 (IntKind.wrap IntKind.i64 (v0_1 + 1)) (List.set v0_2 (Int.toNat v0_1) (Prod.fst (List.getD v0_2 (Int.toNat v0_1) (Ty.dflt ty36)), y0))))
         (
          none))
       (
        none))
     (
      k v0_2)
def E32 (p0 : List ty36.den) : S32 → List AV × Objs
  | .l0 v0_0 v0_1 v0_2 => (mk 24 [(3, .c (.own 3)), (8, .c (.own 3)), (9, .c (.int .i64 v0_0)), (10, .c (.int .i64 v0_1))], [(3, .row 36 ty36 v0_2)])
def I32 : S32 → Nat
  | .l0 _ _ _ => 0
theorem eq32 {R : Type} (B : Ops) (c57 : List ty36.den → Option ((List ty36.den))) (c58 : List ty97.den → Option ((List ty97.den))) (p0 : List ty36.den) (k : AV → Objs → Option R) (n : Nat) : afun tau B gl0 X32 (ent 57 (e57 c57) (ent 58 (e58 c58) (gnil))) ow Try.f32 [.c (.list 36 ty36 p0)] [] k n = T32 B c57 c58 p0 (fun s => aloop tau B gl0 X32 (ent 57 (e57 c57) (ent 58 (e58 c58) (gnil))) ow [] Try.f32 k (I32 s) (E32 p0 s) n) (fun y => k (.c (.own 500)) [(500, .row 36 ty36 y)]) none := by kernel_rfl
theorem el32 {R : Type} (B : Ops) (c57 : List ty36.den → Option ((List ty36.den))) (c58 : List ty97.den → Option ((List ty97.den))) (p0 : List ty36.den) (k : AV → Objs → Option R) (n : Nat) : ∀ s, aloop tau B gl0 X32 (ent 57 (e57 c57) (ent 58 (e58 c58) (gnil))) ow [] Try.f32 k (I32 s) (E32 p0 s) (n + 1) = T32 B c57 c58 p0 (fun s => aloop tau B gl0 X32 (ent 57 (e57 c57) (ent 58 (e58 c58) (gnil))) ow [] Try.f32 k (I32 s) (E32 p0 s) n) (fun y => k (.c (.own 500)) [(500, .row 36 ty36 y)]) (some s)
  | .l0 v0_0 v0_1 v0_2 => by kernel_rfl
theorem nt32 {R R' : Type} (B : Ops) (c57 : List ty36.den → Option ((List ty36.den))) (c58 : List ty97.den → Option ((List ty97.den))) (p0 : List ty36.den) (again : S32 → Option R) (again' : S32 → Option R') (k0 : ((List ty36.den)) → Option R') (k : R' → Option R) (h : ∀ s, again s = ob (again' s) k) : ∀ s, T32 B c57 c58 p0 again (fun y => ob (k0 y) k) s = ob (T32 B c57 c58 p0 again' k0 s) k
  | none => by unfold T32; repeat' first | exact rfl | exact h _ | apply nat_cond | (apply nat_ob; intro)
  | some (.l0 v0_0 v0_1 v0_2) => by unfold T32; repeat' first | exact rfl | exact h _ | apply nat_cond | (apply nat_ob; intro)
def R32 (c57 : List ty36.den → Option ((List ty36.den))) (c58 : List ty97.den → Option ((List ty97.den))) (p0 : List ty36.den) : Nat → S32 → Option ((List ty36.den))
  | 0, _ => none
  | n + 1, s => T32 Ops.std c57 c58 p0 (R32 c57 c58 p0 n) some (some s)
theorem rr32 {R : Type} (c57 : List ty36.den → Option ((List ty36.den))) (c58 : List ty97.den → Option ((List ty97.den))) (p0 : List ty36.den) (k : AV → Objs → Option R) : ∀ (n : Nat) (s : S32), aloop tau Ops.std gl0 X32 (ent 57 (e57 c57) (ent 58 (e58 c58) (gnil))) ow [] Try.f32 k (I32 s) (E32 p0 s) n = ob (R32 c57 c58 p0 n s) (fun y => k (.c (.own 500)) [(500, .row 36 ty36 y)])
  | 0, s => by cases s <;> rfl
  | n + 1, s => by rw [el32]; exact nt32 Ops.std c57 c58 p0 _ _ some (fun y => k (.c (.own 500)) [(500, .row 36 ty36 y)]) (rr32 c57 c58 p0 k n) (some s)
def F32 (c57 : List ty36.den → Option ((List ty36.den))) (c58 : List ty97.den → Option ((List ty97.den))) (p0 : List ty36.den) : Option ((List ty36.den)) := T32 Ops.std c57 c58 p0 (R32 c57 c58 p0 1000000) some none
theorem fo32 {R : Type} (c57 : List ty36.den → Option ((List ty36.den))) (c58 : List ty97.den → Option ((List ty97.den))) (p0 : List ty36.den) (k : AV → Objs → Option R) : afun tau Ops.std gl0 X32 (ent 57 (e57 c57) (ent 58 (e58 c58) (gnil))) ow Try.f32 [.c (.list 36 ty36 p0)] [] k 1000000 = ob (F32 c57 c58 p0) (fun y => k (.c (.own 500)) [(500, .row 36 ty36 y)]) := by rw [eq32]; exact nt32 Ops.std c57 c58 p0 _ _ some (fun y => k (.c (.own 500)) [(500, .row 36 ty36 y)]) (rr32 c57 c58 p0 k 1000000) none
def e32 {R : Type} (c : List ty36.den → Option ((List ty36.den))) : Ent R := fun args objs k =>
  oCons args fun a0 l0 => oC a0 fun x0 => cList 36 ty36 x0 fun p0 => oNil l0 <| oNilO objs <| ob (c p0) fun y => k (.c (.own 500)) [(500, .row 36 ty36 y)]
abbrev Sp32 (c : List ty36.den → Option ((List ty36.den))) : Prop := ∀ (p0 : List ty36.den) (y : (List ty36.den)), c p0 = some y → Spec Try.prog gl0 32 [.c (.list 36 ty36 p0)] [] (.c (.own 500)) [(500, .row 36 ty36 y)]
theorem ek32 {R : Type} {c : List ty36.den → Option ((List ty36.den))} (hs : Sp32 c) : EOk 32 (e32 (R := R) c) := fun args objs k r h => by
  unfold e32 at h
  obtain ⟨a0, l0, rfl, q1⟩ := oCons_some h
  obtain ⟨x0, rfl, q2⟩ := oC_some q1
  obtain ⟨p0, rfl, q3⟩ := cList_some q2
  obtain ⟨rfl, q4⟩ := oNil_some q3
  obtain ⟨rfl, q5⟩ := oNilO_some q4
  exact eok_of (hs p0) q5
theorem sf32 {c57 : List ty36.den → Option ((List ty36.den))} {c58 : List ty97.den → Option ((List ty97.den))} (h57 : Sp57 c57) (h58 : Sp58 c58) : Sp32 (F32 c57 c58) := fun p0 y hy => by
  refine spec_of (G := ent 57 (e57 c57) (ent 58 (e58 c58) (gnil))) (ent_ok (ek57 h57) (ent_ok (ek58 h58) (gnil_ok))) 1000000 (fn := Try.f32) (by kernel_rfl) (by kernel_rfl) (X := X32) (by kernel_rfl) ?_
  rw [fo32, hy]
  rfl
noncomputable def M32 : List ty36.den → Option ((List ty36.den)) := F32 M57 M58
theorem sm32 : Sp32 M32 := sf32 sm57 sm58

/-! ### 86: lariat/lariatref7.arity -/
def X86 : Aux := ⟨[], []⟩
def T86 {R : Type} (B : Ops) (p0 : Int) (k : (Int) → Option R) : Option R :=
  cond (Ops.le B (1) p0)
   (
    cond (Ops.le B p0 (3))
     (
      k 0)
     (
      cond (Ops.eq B p0 (4))
       (
        k 1)
       (
        cond (Ops.eq B p0 (5))
         (
          k 1)
         (
          cond (Ops.le B (6) p0)
           (
            cond (Ops.le B p0 (16))
             (
              k 2)
             (
              k (-1)))
           (
            k (-1))))))
   (
    cond (Ops.eq B p0 (4))
     (
      k 1)
     (
      cond (Ops.eq B p0 (5))
       (
        k 1)
       (
        cond (Ops.le B (6) p0)
         (
          cond (Ops.le B p0 (16))
           (
            k 2)
           (
            k (-1)))
         (
          k (-1)))))
theorem eq86 {R : Type} (B : Ops) (p0 : Int) (k : AV → Objs → Option R) (n : Nat) : afun tau B gl0 X86 (gnil) ow Try.f86 [.c (.int .i64 p0)] [] k n = T86 B p0 (fun y => k (.c (.int .i64 y)) []) := by kernel_rfl
theorem nt86 {R R' : Type} (B : Ops) (p0 : Int) (k0 : (Int) → Option R') (k : R' → Option R) : T86 B p0 (fun y => ob (k0 y) k) = ob (T86 B p0 k0) k := by
  unfold T86
  repeat' first | exact rfl | apply nat_cond | (apply nat_ob; intro)
def F86 (p0 : Int) : Option (Int) := T86 Ops.std p0 some
theorem fo86 {R : Type} (p0 : Int) (k : AV → Objs → Option R) (n : Nat) : afun tau Ops.std gl0 X86 (gnil) ow Try.f86 [.c (.int .i64 p0)] [] k n = ob (F86 p0) (fun y => k (.c (.int .i64 y)) []) := by rw [eq86]; exact nt86 Ops.std p0 some (fun y => k (.c (.int .i64 y)) [])
def e86 {R : Type} (c : Int → Option (Int)) : Ent R := fun args objs k =>
  oCons args fun a0 l0 => oC a0 fun x0 => cInt .i64 x0 fun p0 => oNil l0 <| oNilO objs <| ob (c p0) fun y => k (.c (.int .i64 y)) []
abbrev Sp86 (c : Int → Option (Int)) : Prop := ∀ (p0 : Int) (y : Int), c p0 = some y → Spec Try.prog gl0 86 [.c (.int .i64 p0)] [] (.c (.int .i64 y)) []
theorem ek86 {R : Type} {c : Int → Option (Int)} (hs : Sp86 c) : EOk 86 (e86 (R := R) c) := fun args objs k r h => by
  unfold e86 at h
  obtain ⟨a0, l0, rfl, q1⟩ := oCons_some h
  obtain ⟨x0, rfl, q2⟩ := oC_some q1
  obtain ⟨p0, rfl, q3⟩ := cInt_some q2
  obtain ⟨rfl, q4⟩ := oNil_some q3
  obtain ⟨rfl, q5⟩ := oNilO_some q4
  exact eok_of (hs p0) q5
theorem sf86 : Sp86 (F86) := fun p0 y hy => by
  refine spec_of (G := gnil) (gnil_ok) 1000000 (fn := Try.f86) (by kernel_rfl) (by kernel_rfl) (X := X86) (by kernel_rfl) ?_
  rw [fo86, hy]
  rfl
noncomputable def M86 : Int → Option (Int) := F86
theorem sm86 : Sp86 M86 := sf86

/-! ### 103: lariat/lariatref7.IsWord -/
def X103 : Aux := ⟨[(2, [1, 2, 4, 5, 6, 7, 8, 9, 10, 11, 12, 13, 14, 15, 16, 17, 18, 19, 20, 21, 22, 23, 24, 25, 26, 27, 28, 29, 30, 31, 32, 33])], []⟩
inductive S103 where
  | l0 (v0_1 : Int)
def T103 {R : Type} (B : Ops) (c95 : Int → Option (Bool)) (c94 : Int → Option (Bool)) (p0 : List UInt8) (again : S103 → Option R) (k : (Bool) → Option R) : Option S103 → Option R
  | none =>
    again (.l0 0)
  | some (.l0 v0_1) =>
    cond (Ops.lt B v0_1 (Nat.cast (List.length p0)))
     (
      cond (Ops.inb B v0_1 (List.length p0))
       (
        ob (c95 (Nat.cast (UInt8.toNat (List.getD p0 (Int.toNat v0_1) (0))))) fun y0 =>
        cond (!y0)
         (
          cond (Ops.eq B v0_1 (0))
           (
            k false)
           (
            cond (Ops.inb B v0_1 (List.length p0))
             (
              ob (c94 (Nat.cast (UInt8.toNat (List.getD p0 (Int.toNat v0_1) (0))))) fun y1 =>
              cond (!y1)
               (
                k false)
               (
                again (.l0 (IntKind.wrap IntKind.i64 (v0_1 + 1)))))
             (
              none)))
         (
          again (.l0 (IntKind.wrap IntKind.i64 (v0_1 + 1)))))
       (
        none))
     (
      cond (Ops.le B (1) (Nat.cast (List.length p0)))
       (
        k (Ops.le B (Nat.cast (List.length p0)) (8)))
       (
        k false))
def E103 (p0 : List UInt8) : S103 → List AV × Objs
  | .l0 v0_1 => (mk 34 [(0, .c (.str p0)), (3, .c (.int .i64 v0_1))], [])
def I103 : S103 → Nat
  | .l0 _ => 0
theorem eq103 {R : Type} (B : Ops) (c95 : Int → Option (Bool)) (c94 : Int → Option (Bool)) (p0 : List UInt8) (k : AV → Objs → Option R) (n : Nat) : afun tau B gl0 X103 (ent 95 (e95 c95) (ent 94 (e94 c94) (gnil))) ow Try.f103 [.c (.str p0)] [] k n = T103 B c95 c94 p0 (fun s => aloop tau B gl0 X103 (ent 95 (e95 c95) (ent 94 (e94 c94) (gnil))) ow [] Try.f103 k (I103 s) (E103 p0 s) n) (fun y => k (.c (.bool y)) []) none := by kernel_rfl
theorem el103 {R : Type} (B : Ops) (c95 : Int → Option (Bool)) (c94 : Int → Option (Bool)) (p0 : List UInt8) (k : AV → Objs → Option R) (n : Nat) : ∀ s, aloop tau B gl0 X103 (ent 95 (e95 c95) (ent 94 (e94 c94) (gnil))) ow [] Try.f103 k (I103 s) (E103 p0 s) (n + 1) = T103 B c95 c94 p0 (fun s => aloop tau B gl0 X103 (ent 95 (e95 c95) (ent 94 (e94 c94) (gnil))) ow [] Try.f103 k (I103 s) (E103 p0 s) n) (fun y => k (.c (.bool y)) []) (some s)
  | .l0 v0_1 => by kernel_rfl
theorem nt103 {R R' : Type} (B : Ops) (c95 : Int → Option (Bool)) (c94 : Int → Option (Bool)) (p0 : List UInt8) (again : S103 → Option R) (again' : S103 → Option R') (k0 : (Bool) → Option R') (k : R' → Option R) (h : ∀ s, again s = ob (again' s) k) : ∀ s, T103 B c95 c94 p0 again (fun y => ob (k0 y) k) s = ob (T103 B c95 c94 p0 again' k0 s) k
  | none => by unfold T103; repeat' first | exact rfl | exact h _ | apply nat_cond | (apply nat_ob; intro)
  | some (.l0 v0_1) => by unfold T103; repeat' first | exact rfl | exact h _ | apply nat_cond | (apply nat_ob; intro)
def R103 (c95 : Int → Option (Bool)) (c94 : Int → Option (Bool)) (p0 : List UInt8) : Nat → S103 → Option (Bool)
  | 0, _ => none
  | n + 1, s => T103 Ops.std c95 c94 p0 (R103 c95 c94 p0 n) some (some s)
theorem rr103 {R : Type} (c95 : Int → Option (Bool)) (c94 : Int → Option (Bool)) (p0 : List UInt8) (k : AV → Objs → Option R) : ∀ (n : Nat) (s : S103), aloop tau Ops.std gl0 X103 (ent 95 (e95 c95) (ent 94 (e94 c94) (gnil))) ow [] Try.f103 k (I103 s) (E103 p0 s) n = ob (R103 c95 c94 p0 n s) (fun y => k (.c (.bool y)) [])
  | 0, s => by cases s <;> rfl
  | n + 1, s => by rw [el103]; exact nt103 Ops.std c95 c94 p0 _ _ some (fun y => k (.c (.bool y)) []) (rr103 c95 c94 p0 k n) (some s)
def F103 (c95 : Int → Option (Bool)) (c94 : Int → Option (Bool)) (p0 : List UInt8) : Option (Bool) := T103 Ops.std c95 c94 p0 (R103 c95 c94 p0 1000000) some none
theorem fo103 {R : Type} (c95 : Int → Option (Bool)) (c94 : Int → Option (Bool)) (p0 : List UInt8) (k : AV → Objs → Option R) : afun tau Ops.std gl0 X103 (ent 95 (e95 c95) (ent 94 (e94 c94) (gnil))) ow Try.f103 [.c (.str p0)] [] k 1000000 = ob (F103 c95 c94 p0) (fun y => k (.c (.bool y)) []) := by rw [eq103]; exact nt103 Ops.std c95 c94 p0 _ _ some (fun y => k (.c (.bool y)) []) (rr103 c95 c94 p0 k 1000000) none
def e103 {R : Type} (c : List UInt8 → Option (Bool)) : Ent R := fun args objs k =>
  oCons args fun a0 l0 => oC a0 fun x0 => cStr x0 fun p0 => oNil l0 <| oNilO objs <| ob (c p0) fun y => k (.c (.bool y)) []
abbrev Sp103 (c : List UInt8 → Option (Bool)) : Prop := ∀ (p0 : List UInt8) (y : Bool), c p0 = some y → Spec Try.prog gl0 103 [.c (.str p0)] [] (.c (.bool y)) []
theorem ek103 {R : Type} {c : List UInt8 → Option (Bool)} (hs : Sp103 c) : EOk 103 (e103 (R := R) c) := fun args objs k r h => by
  unfold e103 at h
  obtain ⟨a0, l0, rfl, q1⟩ := oCons_some h
  obtain ⟨x0, rfl, q2⟩ := oC_some q1
  obtain ⟨p0, rfl, q3⟩ := cStr_some q2
  obtain ⟨rfl, q4⟩ := oNil_some q3
  obtain ⟨rfl, q5⟩ := oNilO_some q4
  exact eok_of (hs p0) q5
theorem sf103 {c95 : Int → Option (Bool)} {c94 : Int → Option (Bool)} (h95 : Sp95 c95) (h94 : Sp94 c94) : Sp103 (F103 c95 c94) := fun p0 y hy => by
  refine spec_of (G := ent 95 (e95 c95) (ent 94 (e94 c94) (gnil))) (ent_ok (ek95 h95) (ent_ok (ek94 h94) (gnil_ok))) 1000000 (fn := Try.f103) (by kernel_rfl) (by kernel_rfl) (X := X103) (by kernel_rfl) ?_
  rw [fo103, hy]
  rfl
noncomputable def M103 : List UInt8 → Option (Bool) := F103 M95 M94
theorem sm103 : Sp103 M103 := sf103 sm95 sm94

/-! ### 66: lariat/lariatref7.Right -/
def X66 : Aux := ⟨[(3, [1, 2, 5, 6, 7, 8, 9, 10, 11, 12, 13, 14, 15, 16, 17, 18, 19, 20, 21, 22, 23, 24, 25, 26, 27, 28, 29, 30, 31, 32, 33, 34, 35, 36, 37, 38, 39, 40, 41, 42, 43, 44, 45, 46, 47, 48, 49, 50, 51, 52, 53, 54, 55, 56, 57, 58, 59, 60, 61, 62, 63, 64, 65, 66, 67, 68, 69, 70, 71, 72, 73, 74, 75, 76, 77, 78, 79, 80, 81, 82, 83, 84, 85, 86, 87, 88, 89, 90, 91, 92, 93, 94, 95, 96, 97, 98, 99, 100, 101, 102, 103]), (1000016, [1, 2, 8, 9, 10, 11, 12, 13, 14, 15, 16, 17, 18, 19, 20, 21, 22, 23, 24, 25, 26, 27, 28, 29, 30, 31, 32, 33, 34, 35, 36, 37, 38, 39, 40, 41, 42, 43, 44, 45, 46, 47, 48, 49, 50, 51, 52, 53, 54, 55, 56, 57, 58, 59, 60, 61, 62, 63, 64, 65, 66, 67, 68, 69, 70, 71, 72, 73, 74, 75, 76, 77, 78, 79, 80, 81, 82, 83, 84, 85, 86, 87, 88, 89, 90, 91, 92, 93, 94, 95, 96, 97, 98, 99, 100, 101, 102, 103]), (1000018, [1, 2, 5, 7, 8, 9, 10, 11, 12, 13, 14, 15, 16, 17, 18, 19, 20, 21, 22, 23, 24, 25, 26, 27, 28, 29, 30, 31, 32, 33, 34, 35, 36, 37, 38, 39, 40, 41, 42, 43, 44, 45, 46, 47, 48, 49, 50, 51, 52, 53, 54, 55, 56, 57, 58, 59, 60, 61, 62, 63, 64, 65, 66, 67, 68, 69, 70, 71, 72, 73, 74, 75, 76, 77, 78, 79, 80, 81, 82, 83, 84, 85, 86, 87, 88, 89, 90, 91, 92, 93, 94, 95, 96, 97, 98, 99, 100, 101, 102, 103])], []⟩
inductive S66 where
  | l0 (v0_1 : Int) (v0_2 : Int)
  | l1016 (v1016_1 : Int) (v1016_2 : Int) (v1016_3 : Int) (v1016_4 : Int) (v1016_5 : Int) (v1016_6 : List UInt8) (v1016_7 : List UInt8) (v1016_8 : Int) (v1016_9 : Int) (v1016_10 : List UInt8) (v1016_11 : List UInt8)
  | l1018 (v1018_1 : Int) (v1018_2 : Int) (v1018_3 : Int)
def T66 {R : Type} (B : Ops) (c86 : Int → Option (Int)) (c103 : List UInt8 → Option (Bool)) (p0 : List ty97.den) (again : S66 → Option R) (k : (Bool) → Option R) : Option S66 → Option R
  | none =>
    again (.l0 0 0)
  | some (.l0 v0_1 v0_2) =>
    cond (Ops.lt B v0_2 (Nat.cast (List.length p0)))
     (
      cond (Ops.inb B v0_2 (List.length p0))
       (
        ob (c86 (Prod.fst (List.getD p0 (Int.toNat v0_2) (Ty.dflt ty97)))) fun y0 =>
        cond (Ops.eq B (Prod.fst (List.getD p0 (Int.toNat v0_2) (Ty.dflt ty97))) (1))
         (
          again (.l1016 v0_1 v0_2 y0 (Prod.fst (List.getD p0 (Int.toNat v0_2) (Ty.dflt ty97))) (Prod.fst (Prod.snd (List.getD p0 (Int.toNat v0_2) (Ty.dflt ty97)))) (Prod.fst (Prod.snd (Prod.snd (List.getD p0 (Int.toNat v0_2) (Ty.dflt ty97))))) (Prod.snd (Prod.snd (Prod.snd (List.getD p0 (Int.toNat v0_2) (Ty.dflt ty97))))) (Prod.fst (List.getD p0 (Int.toNat v0_2) (Ty.dflt ty97))) (Prod.fst (Prod.snd (List.getD p0 (Int.toNat v0_2) (Ty.dflt ty97)))) (mt UInt8) (mt UInt8)))
         (
          cond (Ops.eq B (Prod.fst (List.getD p0 (Int.toNat v0_2) (Ty.dflt ty97))) (2))
           (
            again (.l1016 v0_1 v0_2 y0 (Prod.fst (List.getD p0 (Int.toNat v0_2) (Ty.dflt ty97))) (Prod.fst (Prod.snd (List.getD p0 (Int.toNat v0_2) (Ty.dflt ty97)))) (Prod.fst (Prod.snd (Prod.snd (List.getD p0 (Int.toNat v0_2) (Ty.dflt ty97))))) (Prod.snd (Prod.snd (Prod.snd (List.getD p0 (Int.toNat v0_2) (Ty.dflt ty97))))) (Prod.fst (List.getD p0 (Int.toNat v0_2) (Ty.dflt ty97))) 0 (Prod.fst (Prod.snd (Prod.snd (List.getD p0 (Int.toNat v0_2) (Ty.dflt ty97))))) (mt UInt8)))
           (
            cond (Ops.eq B (Prod.fst (List.getD p0 (Int.toNat v0_2) (Ty.dflt ty97))) (3))
             (
              again (.l1016 v0_1 v0_2 y0 (Prod.fst (List.getD p0 (Int.toNat v0_2) (Ty.dflt ty97))) (Prod.fst (Prod.snd (List.getD p0 (Int.toNat v0_2) (Ty.dflt ty97)))) (Prod.fst (Prod.snd (Prod.snd (List.getD p0 (Int.toNat v0_2) (Ty.dflt ty97))))) (Prod.snd (Prod.snd (Prod.snd (List.getD p0 (Int.toNat v0_2) (Ty.dflt ty97))))) (Prod.fst (List.getD p0 (Int.toNat v0_2) (Ty.dflt ty97))) 0 (Prod.fst (Prod.snd (Prod.snd (List.getD p0 (Int.toNat v0_2) (Ty.dflt ty97))))) (Prod.snd (Prod.snd (Prod.snd (List.getD p0 (Int.toNat v0_2) (Ty.dflt ty97)))))))
             (
              again (.l1016 v0_1 v0_2 y0 (Prod.fst (List.getD p0 (Int.toNat v0_2) (Ty.dflt ty97))) (Prod.fst (Prod.snd (List.getD p0 (Int.toNat v0_2) (Ty.dflt ty97)))) (Prod.fst (Prod.snd (Prod.snd (List.getD p0 (Int.toNat v0_2) (Ty.dflt ty97))))) (Prod.snd (Prod.snd (Prod.snd (List.getD p0 (Int.toNat v0_2) (Ty.dflt ty97))))) (Prod.fst (List.getD p0 (Int.toNat v0_2) (Ty.dflt ty97))) 0 (mt UInt8) (mt UInt8))))))
       (
        none))
     (
      cond (Ops.eq B v0_1 (1))
       (
        k (Ops.le B (Nat.cast (List.length p0)) (30)))
       (
        k false))
  | some (.l1016 v1016_1 v1016_2 v1016_3 v1016_4 v1016_5 v1016_6 v1016_7 v1016_8 v1016_9 v1016_10 v1016_11) =>
    cond (Ops.lt B v1016_3 (0))
     (
      k false)
     (
      cond (Ops.lt B v1016_1 v1016_3)
       (
        k false)
       (
        cond (!(Ops.eq B v1016_4 v1016_8 && (Ops.eq B v1016_5 v1016_9 && (v1016_6 == v1016_10 && (v1016_7 == v1016_11 && true)))))
         (
          k false)
         (
          cond (Ops.lt B v1016_5 (0))
           (
            k false)
           (
            cond (Ops.lt B (999) v1016_5)
             (
              k false)
             (
              cond (Ops.eq B v1016_4 (2))
               (
                ob (c103 v1016_6) fun y0 =>
                cond (!y0)
                 (
                  k false)
                 (
                  cond (Ops.eq B v1016_4 (3))
                   (
                    ob (c103 v1016_7) fun y1 =>
                    cond (!y1)
                     (
                      k false)
                     (
                      again (.l1018 v1016_1 v1016_2 v1016_3)))
                   (
                    again (.l1018 v1016_1 v1016_2 v1016_3))))
               (
                cond (Ops.eq B v1016_4 (3))
                 (
                  ob (c103 v1016_6) fun y0 =>
                  cond (!y0)
                   (
                    k false)
                   (
                    cond (Ops.eq B v1016_4 (3))
                     (
                      ob (c103 v1016_7) fun y1 =>
                      cond (!y1)
                       (
                        k false)
                       (
                        again (.l1018 v1016_1 v1016_2 v1016_3)))
                     (
                      again (.l1018 v1016_1 v1016_2 v1016_3))))
                 (
                  cond (Ops.eq B v1016_4 (3))
                   (
                    ob (c103 v1016_7) fun y0 =>
                    cond (!y0)
                     (
                      k false)
                     (
                      again (.l1018 v1016_1 v1016_2 v1016_3)))
                   (
                    again (.l1018 v1016_1 v1016_2 v1016_3)))))))))
  | some (.l1018 v1018_1 v1018_2 v1018_3) =>
    again (.l0 (IntKind.wrap IntKind.i64 (IntKind.wrap IntKind.i64 (v1018_1 - v1018_3) + 1)) (IntKind.wrap IntKind.i64 (v1018_2 + 1)))
def E66 (p0 : List ty97.den) : S66 → List AV × Objs
  | .l0 v0_1 v0_2 => (mk 104 [(0, .c (.list 97 ty97 p0)), (3, .c (.int .i64 v0_1)), (4, .c (.int .i64 v0_2))], [])
  | .l1016 v1016_1 v1016_2 v1016_3 v1016_4 v1016_5 v1016_6 v1016_7 v1016_8 v1016_9 v1016_10 v1016_11 => (mk 104 [(0, .c (.list 97 ty97 p0)), (3, .c (.int .i64 v1016_1)), (4, .c (.int .i64 v1016_2)), (5, .c (.ptr 5 0)), (6, .c (.int .i64 v1016_3)), (7, .c (.ptr 7 0))], [(5, .box 97 [.int .i64 v1016_4, .int .i64 v1016_5, .str v1016_6, .str v1016_7]), (7, .box 97 [.int .i64 v1016_8, .int .i64 v1016_9, .str v1016_10, .str v1016_11])])
  | .l1018 v1018_1 v1018_2 v1018_3 => (mk 104 [(0, .c (.list 97 ty97 p0)), (3, .c (.int .i64 v1018_1)), (4, .c (.int .i64 v1018_2)), (6, .c (.int .i64 v1018_3))], [])
def I66 : S66 → Nat
  | .l0 _ _ => 0
  | .l1016 _ _ _ _ _ _ _ _ _ _ _ => 1016
  | .l1018 _ _ _ => 1018
theorem eq66 {R : Type} (B : Ops) (c86 : Int → Option (Int)) (c103 : List UInt8 → Option (Bool)) (p0 : List ty97.den) (k : AV → Objs → Option R) (n : Nat) : afun tau B gl0 X66 (ent 86 (e86 c86) (ent 103 (e103 c103) (gnil))) ow Try.f66 [.c (.list 97 ty97 p0)] [] k n = T66 B c86 c103 p0 (fun s => aloop tau B gl0 X66 (ent 86 (e86 c86) (ent 103 (e103 c103) (gnil))) ow [] Try.f66 k (I66 s) (E66 p0 s) n) (fun y => k (.c (.bool y)) []) none := by kernel_rfl
theorem el66 {R : Type} (B : Ops) (c86 : Int → Option (Int)) (c103 : List UInt8 → Option (Bool)) (p0 : List ty97.den) (k : AV → Objs → Option R) (n : Nat) : ∀ s, aloop tau B gl0 X66 (ent 86 (e86 c86) (ent 103 (e103 c103) (gnil))) ow [] Try.f66 k (I66 s) (E66 p0 s) (n + 1) = T66 B c86 c103 p0 (fun s => aloop tau B gl0 X66 (ent 86 (e86 c86) (ent 103 (e103 c103) (gnil))) ow [] Try.f66 k (I66 s) (E66 p0 s) n) (fun y => k (.c (.bool y)) []) (some s)
  | .l0 v0_1 v0_2 => by kernel_rfl
  | .l1016 v1016_1 v1016_2 v1016_3 v1016_4 v1016_5 v1016_6 v1016_7 v1016_8 v1016_9 v1016_10 v1016_11 => by kernel_rfl
  | .l1018 v1018_1 v1018_2 v1018_3 => by kernel_rfl
theorem nt66 {R R' : Type} (B : Ops) (c86 : Int → Option (Int)) (c103 : List UInt8 → Option (Bool)) (p0 : List ty97.den) (again : S66 → Option R) (again' : S66 → Option R') (k0 : (Bool) → Option R') (k : R' → Option R) (h : ∀ s, again s = ob (again' s) k) : ∀ s, T66 B c86 c103 p0 again (fun y => ob (k0 y) k) s = ob (T66 B c86 c103 p0 again' k0 s) k
  | none => by unfold T66; repeat' first | exact rfl | exact h _ | apply nat_cond | (apply nat_ob; intro)
  | some (.l0 v0_1 v0_2) => by unfold T66; repeat' first | exact rfl | exact h _ | apply nat_cond | (apply nat_ob; intro)
  | some (.l1016 v1016_1 v1016_2 v1016_3 v1016_4 v1016_5 v1016_6 v1016_7 v1016_8 v1016_9 v1016_10 v1016_11) => by unfold T66; repeat' first | exact rfl | exact h _ | apply nat_cond | (apply nat_ob; intro)
  | some (.l1018 v1018_1 v1018_2 v1018_3) => by unfold T66; repeat' first | exact rfl | exact h _ | apply nat_cond | (apply nat_ob; intro)
def R66 (c86 : Int → Option (Int)) (c103 : List UInt8 → Option (Bool)) (p0 : List ty97.den) : Nat → S66 → Option (Bool)
  | 0, _ => none
  | n + 1, s => T66 Ops.std c86 c103 p0 (R66 c86 c103 p0 n) some (some s)
theorem rr66 {R : Type} (c86 : Int → Option (Int)) (c103 : List UInt8 → Option (Bool)) (p0 : List ty97.den) (k : AV → Objs → Option R) : ∀ (n : Nat) (s : S66), aloop tau Ops.std gl0 X66 (ent 86 (e86 c86) (ent 103 (e103 c103) (gnil))) ow [] Try.f66 k (I66 s) (E66 p0 s) n = ob (R66 c86 c103 p0 n s) (fun y => k (.c (.bool y)) [])
  | 0, s => by cases s <;> rfl
  | n + 1, s => by rw [el66]; exact nt66 Ops.std c86 c103 p0 _ _ some (fun y => k (.c (.bool y)) []) (rr66 c86 c103 p0 k n) (some s)
def F66 (c86 : Int → Option (Int)) (c103 : List UInt8 → Option (Bool)) (p0 : List ty97.den) : Option (Bool) := T66 Ops.std c86 c103 p0 (R66 c86 c103 p0 1000000) some none
theorem fo66 {R : Type} (c86 : Int → Option (Int)) (c103 : List UInt8 → Option (Bool)) (p0 : List ty97.den) (k : AV → Objs → Option R) : afun tau Ops.std gl0 X66 (ent 86 (e86 c86) (ent 103 (e103 c103) (gnil))) ow Try.f66 [.c (.list 97 ty97 p0)] [] k 1000000 = ob (F66 c86 c103 p0) (fun y => k (.c (.bool y)) []) := by rw [eq66]; exact nt66 Ops.std c86 c103 p0 _ _ some (fun y => k (.c (.bool y)) []) (rr66 c86 c103 p0 k 1000000) none
def e66 {R : Type} (c : List ty97.den → Option (Bool)) : Ent R := fun args objs k =>
  oCons args fun a0 l0 => oC a0 fun x0 => cList 97 ty97 x0 fun p0 => oNil l0 <| oNilO objs <| ob (c p0) fun y => k (.c (.bool y)) []
abbrev Sp66 (c : List ty97.den → Option (Bool)) : Prop := ∀ (p0 : List ty97.den) (y : Bool), c p0 = some y → Spec Try.prog gl0 66 [.c (.list 97 ty97 p0)] [] (.c (.bool y)) []
theorem ek66 {R : Type} {c : List ty97.den → Option (Bool)} (hs : Sp66 c) : EOk 66 (e66 (R := R) c) := fun args objs k r h => by
  unfold e66 at h
  obtain ⟨a0, l0, rfl, q1⟩ := oCons_some h
  obtain ⟨x0, rfl, q2⟩ := oC_some q1
  obtain ⟨p0, rfl, q3⟩ := cList_some q2
  obtain ⟨rfl, q4⟩ := oNil_some q3
  obtain ⟨rfl, q5⟩ := oNilO_some q4
  exact eok_of (hs p0) q5
theorem sf66 {c86 : Int → Option (Int)} {c103 : List UInt8 → Option (Bool)} (h86 : Sp86 c86) (h103 : Sp103 c103) : Sp66 (F66 c86 c103) := fun p0 y hy => by
  refine spec_of (G := ent 86 (e86 c86) (ent 103 (e103 c103) (gnil))) (ent_ok (ek86 h86) (ent_ok (ek103 h103) (gnil_ok))) 1000000 (fn := Try.f66) (by kernel_rfl) (by kernel_rfl) (X := X66) (by kernel_rfl) ?_
  rw [fo66, hy]
  rfl
noncomputable def M66 : List ty97.den → Option (Bool) := F66 M86 M103
theorem sm66 : Sp66 M66 := sf66 sm86 sm103

/-! ### 39: lariat/lariatref13.operands -/
def X39 : Aux := ⟨[], []⟩
def T39 {R : Type} (B : Ops) (p0 : Int) (k : (Int) → Option R) : Option R :=
  cond (Ops.eq B p0 (1))
   (
    k 0)
   (
    cond (Ops.eq B p0 (2))
     (
      k 0)
     (
      cond (Ops.eq B p0 (3))
       (
        k 0)
       (
        cond (Ops.eq B p0 (4))
         (
          k 1)
         (
          cond (Ops.eq B p0 (8))
           (
            k 1)
           (
            cond (Ops.eq B p0 (11))
             (
              k 1)
             (
              cond (Ops.eq B p0 (12))
               (
                k 1)
               (
                cond (Ops.eq B p0 (5))
                 (
                  k 2)
                 (
                  cond (Ops.eq B p0 (6))
                   (
                    k 2)
                   (
                    cond (Ops.eq B p0 (7))
                     (
                      k 2)
                     (
                      cond (Ops.eq B p0 (9))
                       (
                        k 2)
                       (
                        cond (Ops.eq B p0 (10))
                         (
                          k 2)
                         (
                          k (-1)))))))))))))
theorem eq39 {R : Type} (B : Ops) (p0 : Int) (k : AV → Objs → Option R) (n : Nat) : afun tau B gl0 X39 (gnil) ow Try.f39 [.c (.int .i64 p0)] [] k n = T39 B p0 (fun y => k (.c (.int .i64 y)) []) := by kernel_rfl
theorem nt39 {R R' : Type} (B : Ops) (p0 : Int) (k0 : (Int) → Option R') (k : R' → Option R) : T39 B p0 (fun y => ob (k0 y) k) = ob (T39 B p0 k0) k := by
  unfold T39
  repeat' first | exact rfl | apply nat_cond | (apply nat_ob; intro)
def F39 (p0 : Int) : Option (Int) := T39 Ops.std p0 some
theorem fo39 {R : Type} (p0 : Int) (k : AV → Objs → Option R) (n : Nat) : afun tau Ops.std gl0 X39 (gnil) ow Try.f39 [.c (.int .i64 p0)] [] k n = ob (F39 p0) (fun y => k (.c (.int .i64 y)) []) := by rw [eq39]; exact nt39 Ops.std p0 some (fun y => k (.c (.int .i64 y)) [])
def e39 {R : Type} (c : Int → Option (Int)) : Ent R := fun args objs k =>
  oCons args fun a0 l0 => oC a0 fun x0 => cInt .i64 x0 fun p0 => oNil l0 <| oNilO objs <| ob (c p0) fun y => k (.c (.int .i64 y)) []
abbrev Sp39 (c : Int → Option (Int)) : Prop := ∀ (p0 : Int) (y : Int), c p0 = some y → Spec Try.prog gl0 39 [.c (.int .i64 p0)] [] (.c (.int .i64 y)) []
theorem ek39 {R : Type} {c : Int → Option (Int)} (hs : Sp39 c) : EOk 39 (e39 (R := R) c) := fun args objs k r h => by
  unfold e39 at h
  obtain ⟨a0, l0, rfl, q1⟩ := oCons_some h
  obtain ⟨x0, rfl, q2⟩ := oC_some q1
  obtain ⟨p0, rfl, q3⟩ := cInt_some q2
  obtain ⟨rfl, q4⟩ := oNil_some q3
  obtain ⟨rfl, q5⟩ := oNilO_some q4
  exact eok_of (hs p0) q5
theorem sf39 : Sp39 (F39) := fun p0 y hy => by
  refine spec_of (G := gnil) (gnil_ok) 1000000 (fn := Try.f39) (by kernel_rfl) (by kernel_rfl) (X := X39) (by kernel_rfl) ?_
  rw [fo39, hy]
  rfl
noncomputable def M39 : Int → Option (Int) := F39
theorem sm39 : Sp39 M39 := sf39

/-! ### 38: lariat/lariatref13.Right -/
def X38 : Aux := ⟨[(3, [1, 2, 5, 6, 7, 8, 9, 10, 11, 12, 13, 14, 15, 16, 17, 18, 19, 20, 21, 22, 23, 24, 25, 26, 27, 28, 29, 30, 31, 32, 33, 34, 35, 36, 37, 38, 39, 40, 41, 42, 43, 44, 45, 46, 47, 48, 49, 50, 51, 52, 53, 54, 55, 56, 57, 58, 59, 60, 61, 62, 63, 64, 65, 66, 67, 68, 69])], []⟩
inductive S38 where
  | l0 (v0_1 : Int) (v0_2 : Int)
def T38 {R : Type} (B : Ops) (c39 : Int → Option (Int)) (c66 : List ty97.den → Option (Bool)) (p0 : List ty36.den) (again : S38 → Option R) (k : (Bool) → Option R) : Option S38 → Option R
  | none =>
    again (.l0 0 0)
  | some (.l0 v0_1 v0_2) =>
    cond (Ops.lt B v0_2 (Nat.cast (List.length p0)))
     (
      cond (Ops.inb B v0_2 (List.length p0))
       (
        ob (c39 (Prod.fst (List.getD p0 (Int.toNat v0_2) (Ty.dflt ty36)))) fun y0 =>
        cond (Ops.lt B y0 (0))
         (
          k false)
         (
          cond (Ops.lt B v0_1 y0)
           (
            k false)
           (
            cond (Ops.inb B v0_2 (List.length p0))
             (
              cond (Ops.eq B (Prod.fst (List.getD p0 (Int.toNat v0_2) (Ty.dflt ty36))) (3))
               (
                cond (Ops.inb B v0_2 (List.length p0))
                 (
                  ob (c66 (Prod.snd (List.getD p0 (Int.toNat v0_2) (Ty.dflt ty36)))) fun y1 =>
                  cond (!y1)
                   (
                    k false)
                   (
                    cond (Ops.inb B v0_2 (List.length p0))
                     (
                      cond (!Ops.eq B (Prod.fst (List.getD p0 (Int.toNat v0_2) (Ty.dflt ty36))) (3))
                       (
                        cond (Ops.inb B v0_2 (List.length p0))
                         (
                          cond (Ops.lt B (0) (Nat.cast (List.length (Prod.snd (List.getD p0 (Int.toNat v0_2) (Ty.dflt ty36))))))
                           (
                            k false)
                           (
                            again (.l0 (IntKind.wrap IntKind.i64 (IntKind.wrap IntKind.i64 (v0_1 - y0) + 1)) (IntKind.wrap IntKind.i64 (v0_2 + 1)))))
                         (
                          none))
                       (
                        again (.l0 (IntKind.wrap IntKind.i64 (IntKind.wrap IntKind.i64 (v0_1 - y0) + 1)) (IntKind.wrap IntKind.i64 (v0_2 + 1)))))
                     (
                      none)))
                 (
                  none))
               (
                cond (Ops.inb B v0_2 (List.length p0))
                 (
                  cond (!Ops.eq B (Prod.fst (List.getD p0 (Int.toNat v0_2) (Ty.dflt ty36))) (3))
                   (
                    cond (Ops.inb B v0_2 (List.length p0))
                     (
                      cond (Ops.lt B (0) (Nat.cast (List.length (Prod.snd (List.getD p0 (Int.toNat v0_2) (Ty.dflt ty36))))))
                       (
                        k false)
                       (
                        again (.l0 (IntKind.wrap IntKind.i64 (IntKind.wrap IntKind.i64 (v0_1 - y0) + 1)) (IntKind.wrap IntKind.i64 (v0_2 + 1)))))
                     (
                      none))
                   (
                    again (.l0 (IntKind.wrap IntKind.i64 (IntKind.wrap IntKind.i64 (v0_1 - y0) + 1)) (IntKind.wrap IntKind.i64 (v0_2 + 1)))))
                 (
                  none)))
             (
              none))))
       (
        none))
     (
      cond (Ops.eq B v0_1 (1))
       (
        k (Ops.le B (Nat.cast (List.length p0)) (60)))
       (
        k false))
def E38 (p0 : List ty36.den) : S38 → List AV × Objs
  | .l0 v0_1 v0_2 => (mk 70 [(0, .c (.list 36 ty36 p0)), (3, .c (.int .i64 v0_1)), (4, .c (.int .i64 v0_2))], [])
def I38 : S38 → Nat
  | .l0 _ _ => 0
theorem eq38 {R : Type} (B : Ops) (c39 : Int → Option (Int)) (c66 : List ty97.den → Option (Bool)) (p0 : List ty36.den) (k : AV → Objs → Option R) (n : Nat) : afun tau B gl0 X38 (ent 39 (e39 c39) (ent 66 (e66 c66) (gnil))) ow Try.f38 [.c (.list 36 ty36 p0)] [] k n = T38 B c39 c66 p0 (fun s => aloop tau B gl0 X38 (ent 39 (e39 c39) (ent 66 (e66 c66) (gnil))) ow [] Try.f38 k (I38 s) (E38 p0 s) n) (fun y => k (.c (.bool y)) []) none := by kernel_rfl
theorem el38 {R : Type} (B : Ops) (c39 : Int → Option (Int)) (c66 : List ty97.den → Option (Bool)) (p0 : List ty36.den) (k : AV → Objs → Option R) (n : Nat) : ∀ s, aloop tau B gl0 X38 (ent 39 (e39 c39) (ent 66 (e66 c66) (gnil))) ow [] Try.f38 k (I38 s) (E38 p0 s) (n + 1) = T38 B c39 c66 p0 (fun s => aloop tau B gl0 X38 (ent 39 (e39 c39) (ent 66 (e66 c66) (gnil))) ow [] Try.f38 k (I38 s) (E38 p0 s) n) (fun y => k (.c (.bool y)) []) (some s)
  | .l0 v0_1 v0_2 => by kernel_rfl
theorem nt38 {R R' : Type} (B : Ops) (c39 : Int → Option (Int)) (c66 : List ty97.den → Option (Bool)) (p0 : List ty36.den) (again : S38 → Option R) (again' : S38 → Option R') (k0 : (Bool) → Option R') (k : R' → Option R) (h : ∀ s, again s = ob (again' s) k) : ∀ s, T38 B c39 c66 p0 again (fun y => ob (k0 y) k) s = ob (T38 B c39 c66 p0 again' k0 s) k
  | none => by unfold T38; repeat' first | exact rfl | exact h _ | apply nat_cond | (apply nat_ob; intro)
  | some (.l0 v0_1 v0_2) => by unfold T38; repeat' first | exact rfl | exact h _ | apply nat_cond | (apply nat_ob; intro)
def R38 (c39 : Int → Option (Int)) (c66 : List ty97.den → Option (Bool)) (p0 : List ty36.den) : Nat → S38 → Option (Bool)
  | 0, _ => none
  | n + 1, s => T38 Ops.std c39 c66 p0 (R38 c39 c66 p0 n) some (some s)
theorem rr38 {R : Type} (c39 : Int → Option (Int)) (c66 : List ty97.den → Option (Bool)) (p0 : List ty36.den) (k : AV → Objs → Option R) : ∀ (n : Nat) (s : S38), aloop tau Ops.std gl0 X38 (ent 39 (e39 c39) (ent 66 (e66 c66) (gnil))) ow [] Try.f38 k (I38 s) (E38 p0 s) n = ob (R38 c39 c66 p0 n s) (fun y => k (.c (.bool y)) [])
  | 0, s => by cases s <;> rfl
  | n + 1, s => by rw [el38]; exact nt38 Ops.std c39 c66 p0 _ _ some (fun y => k (.c (.bool y)) []) (rr38 c39 c66 p0 k n) (some s)
def F38 (c39 : Int → Option (Int)) (c66 : List ty97.den → Option (Bool)) (p0 : List ty36.den) : Option (Bool) := T38 Ops.std c39 c66 p0 (R38 c39 c66 p0 1000000) some none
theorem fo38 {R : Type} (c39 : Int → Option (Int)) (c66 : List ty97.den → Option (Bool)) (p0 : List ty36.den) (k : AV → Objs → Option R) : afun tau Ops.std gl0 X38 (ent 39 (e39 c39) (ent 66 (e66 c66) (gnil))) ow Try.f38 [.c (.list 36 ty36 p0)] [] k 1000000 = ob (F38 c39 c66 p0) (fun y => k (.c (.bool y)) []) := by rw [eq38]; exact nt38 Ops.std c39 c66 p0 _ _ some (fun y => k (.c (.bool y)) []) (rr38 c39 c66 p0 k 1000000) none
def e38 {R : Type} (c : List ty36.den → Option (Bool)) : Ent R := fun args objs k =>
  oCons args fun a0 l0 => oC a0 fun x0 => cList 36 ty36 x0 fun p0 => oNil l0 <| oNilO objs <| ob (c p0) fun y => k (.c (.bool y)) []
abbrev Sp38 (c : List ty36.den → Option (Bool)) : Prop := ∀ (p0 : List ty36.den) (y : Bool), c p0 = some y → Spec Try.prog gl0 38 [.c (.list 36 ty36 p0)] [] (.c (.bool y)) []
theorem ek38 {R : Type} {c : List ty36.den → Option (Bool)} (hs : Sp38 c) : EOk 38 (e38 (R := R) c) := fun args objs k r h => by
  unfold e38 at h
  obtain ⟨a0, l0, rfl, q1⟩ := oCons_some h
  obtain ⟨x0, rfl, q2⟩ := oC_some q1
  obtain ⟨p0, rfl, q3⟩ := cList_some q2
  obtain ⟨rfl, q4⟩ := oNil_some q3
  obtain ⟨rfl, q5⟩ := oNilO_some q4
  exact eok_of (hs p0) q5
theorem sf38 {c39 : Int → Option (Int)} {c66 : List ty97.den → Option (Bool)} (h39 : Sp39 c39) (h66 : Sp66 c66) : Sp38 (F38 c39 c66) := fun p0 y hy => by
  refine spec_of (G := ent 39 (e39 c39) (ent 66 (e66 c66) (gnil))) (ent_ok (ek39 h39) (ent_ok (ek66 h66) (gnil_ok))) 1000000 (fn := Try.f38) (by kernel_rfl) (by kernel_rfl) (X := X38) (by kernel_rfl) ?_
  rw [fo38, hy]
  rfl
noncomputable def M38 : List ty36.den → Option (Bool) := F38 M39 M66
theorem sm38 : Sp38 M38 := sf38 sm39 sm66

/-! ### 47: lariat/lariatref13.strength -/
def X47 : Aux := ⟨[], []⟩
def T47 {R : Type} (B : Ops) (p0 : Int) (k : (Int) → Option R) : Option R :=
  cond (Ops.eq B p0 (7))
   (
    k 1)
   (
    cond (Ops.eq B p0 (6))
     (
      k 2)
     (
      cond (Ops.eq B p0 (5))
       (
        k 3)
       (
        cond (Ops.eq B p0 (9))
         (
          k 4)
         (
          cond (Ops.eq B p0 (10))
           (
            k 4)
           (
            cond (Ops.eq B p0 (4))
             (
              k 5)
             (
              cond (Ops.eq B p0 (8))
               (
                k 5)
               (
                cond (Ops.eq B p0 (11))
                 (
                  k 5)
                 (
                  cond (Ops.eq B p0 (12))
                   (
                    k 5)
                   (
                    k 6)))))))))
theorem eq47 {R : Type} (B : Ops) (p0 : Int) (k : AV → Objs → Option R) (n : Nat) : afun tau B gl0 X47 (gnil) ow Try.f47 [.c (.int .i64 p0)] [] k n = T47 B p0 (fun y => k (.c (.int .i64 y)) []) := by kernel_rfl
theorem nt47 {R R' : Type} (B : Ops) (p0 : Int) (k0 : (Int) → Option R') (k : R' → Option R) : T47 B p0 (fun y => ob (k0 y) k) = ob (T47 B p0 k0) k := by
  unfold T47
  repeat' first | exact rfl | apply nat_cond | (apply nat_ob; intro)
def F47 (p0 : Int) : Option (Int) := T47 Ops.std p0 some
theorem fo47 {R : Type} (p0 : Int) (k : AV → Objs → Option R) (n : Nat) : afun tau Ops.std gl0 X47 (gnil) ow Try.f47 [.c (.int .i64 p0)] [] k n = ob (F47 p0) (fun y => k (.c (.int .i64 y)) []) := by rw [eq47]; exact nt47 Ops.std p0 some (fun y => k (.c (.int .i64 y)) [])
def e47 {R : Type} (c : Int → Option (Int)) : Ent R := fun args objs k =>
  oCons args fun a0 l0 => oC a0 fun x0 => cInt .i64 x0 fun p0 => oNil l0 <| oNilO objs <| ob (c p0) fun y => k (.c (.int .i64 y)) []
abbrev Sp47 (c : Int → Option (Int)) : Prop := ∀ (p0 : Int) (y : Int), c p0 = some y → Spec Try.prog gl0 47 [.c (.int .i64 p0)] [] (.c (.int .i64 y)) []
theorem ek47 {R : Type} {c : Int → Option (Int)} (hs : Sp47 c) : EOk 47 (e47 (R := R) c) := fun args objs k r h => by
  unfold e47 at h
  obtain ⟨a0, l0, rfl, q1⟩ := oCons_some h
  obtain ⟨x0, rfl, q2⟩ := oC_some q1
  obtain ⟨p0, rfl, q3⟩ := cInt_some q2
  obtain ⟨rfl, q4⟩ := oNil_some q3
  obtain ⟨rfl, q5⟩ := oNilO_some q4
  exact eok_of (hs p0) q5
theorem sf47 : Sp47 (F47) := fun p0 y hy => by
  refine spec_of (G := gnil) (gnil_ok) 1000000 (fn := Try.f47) (by kernel_rfl) (by kernel_rfl) (X := X47) (by kernel_rfl) ?_
  rw [fo47, hy]
  rfl
noncomputable def M47 : Int → Option (Int) := F47
theorem sm47 : Sp47 M47 := sf47

/-! ### 48: lariat/lariatref13.sign -/
def X48 : Aux := ⟨[], []⟩
def T48 {R : Type} (B : Ops) (p0 : Int) (k : ((List UInt8)) → Option R) : Option R :=
  cond (Ops.eq B p0 (1))
   (
    k ([116, 114, 117, 101] : List UInt8))
   (
    cond (Ops.eq B p0 (2))
     (
      k ([102, 97, 108, 115, 101] : List UInt8))
     (
      cond (Ops.eq B p0 (4))
       (
        k ([33] : List UInt8))
       (
        cond (Ops.eq B p0 (5))
         (
          k ([32, 38, 38, 32] : List UInt8))
         (
          cond (Ops.eq B p0 (6))
           (
            k ([32, 124, 124, 32] : List UInt8))
           (
            cond (Ops.eq B p0 (7))
             (
              k ([32, 45, 62, 32] : List UInt8))
             (
              cond (Ops.eq B p0 (8))
               (
                k ([88, 32] : List UInt8))
               (
                cond (Ops.eq B p0 (9))
                 (
                  k ([32, 85, 32] : List UInt8))
                 (
                  cond (Ops.eq B p0 (10))
                   (
                    k ([32, 82, 32] : List UInt8))
                   (
                    cond (Ops.eq B p0 (11))
                     (
                      k ([70, 32] : List UInt8))
                     (
                      cond (Ops.eq B p0 (12))
                       (
                        k ([71, 32] : List UInt8))
                       (
                        k (mt UInt8))))))))))))
theorem eq48 {R : Type} (B : Ops) (p0 : Int) (k : AV → Objs → Option R) (n : Nat) : afun tau B gl0 X48 (gnil) ow Try.f48 [.c (.int .i64 p0)] [] k n = T48 B p0 (fun y => k (.c (.str y)) []) := by kernel_rfl
theorem nt48 {R R' : Type} (B : Ops) (p0 : Int) (k0 : ((List UInt8)) → Option R') (k : R' → Option R) : T48 B p0 (fun y => ob (k0 y) k) = ob (T48 B p0 k0) k := by
  unfold T48
  repeat' first | exact rfl | apply nat_cond | (apply nat_ob; intro)
def F48 (p0 : Int) : Option ((List UInt8)) := T48 Ops.std p0 some
theorem fo48 {R : Type} (p0 : Int) (k : AV → Objs → Option R) (n : Nat) : afun tau Ops.std gl0 X48 (gnil) ow Try.f48 [.c (.int .i64 p0)] [] k n = ob (F48 p0) (fun y => k (.c (.str y)) []) := by rw [eq48]; exact nt48 Ops.std p0 some (fun y => k (.c (.str y)) [])
def e48 {R : Type} (c : Int → Option ((List UInt8))) : Ent R := fun args objs k =>
  oCons args fun a0 l0 => oC a0 fun x0 => cInt .i64 x0 fun p0 => oNil l0 <| oNilO objs <| ob (c p0) fun y => k (.c (.str y)) []
abbrev Sp48 (c : Int → Option ((List UInt8))) : Prop := ∀ (p0 : Int) (y : (List UInt8)), c p0 = some y → Spec Try.prog gl0 48 [.c (.int .i64 p0)] [] (.c (.str y)) []
theorem ek48 {R : Type} {c : Int → Option ((List UInt8))} (hs : Sp48 c) : EOk 48 (e48 (R := R) c) := fun args objs k r h => by
  unfold e48 at h
  obtain ⟨a0, l0, rfl, q1⟩ := oCons_some h
  obtain ⟨x0, rfl, q2⟩ := oC_some q1
  obtain ⟨p0, rfl, q3⟩ := cInt_some q2
  obtain ⟨rfl, q4⟩ := oNil_some q3
  obtain ⟨rfl, q5⟩ := oNilO_some q4
  exact eok_of (hs p0) q5
theorem sf48 : Sp48 (F48) := fun p0 y hy => by
  refine spec_of (G := gnil) (gnil_ok) 1000000 (fn := Try.f48) (by kernel_rfl) (by kernel_rfl) (X := X48) (by kernel_rfl) ?_
  rw [fo48, hy]
  rfl
noncomputable def M48 : Int → Option ((List UInt8)) := F48
theorem sm48 : Sp48 M48 := sf48
def e115 {R : Type} (c : Int → Option ((List UInt8))) : Ent R := fun args objs k =>
  oCons args fun a0 l0 => oC a0 fun x0 => cInt .u64 x0 fun p0 => oNil l0 <| oNilO objs <| ob (c p0) fun y => k (.c (.str y)) []
abbrev Sp115 (c : Int → Option ((List UInt8))) : Prop := ∀ (p0 : Int) (y : (List UInt8)), c p0 = some y → Spec Try.prog gl0 115 [.c (.int .u64 p0)] [] (.c (.str y)) []
theorem ek115 {R : Type} {c : Int → Option ((List UInt8))} (hs : Sp115 c) : EOk 115 (e115 (R := R) c) := fun args objs k r h => by
  unfold e115 at h
  obtain ⟨a0, l0, rfl, q1⟩ := oCons_some h
  obtain ⟨x0, rfl, q2⟩ := oC_some q1
  obtain ⟨p0, rfl, q3⟩ := cInt_some q2
  obtain ⟨rfl, q4⟩ := oNil_some q3
  obtain ⟨rfl, q5⟩ := oNilO_some q4
  exact eok_of (hs p0) q5

/-! ### 115: lariat/lariatref7.plainly -/
def X115 : Aux := ⟨[], []⟩
def T115 {R : Type} (B : Ops) (c115 : Int → Option ((List UInt8))) (p0 : Int) (k : ((List UInt8)) → Option R) : Option R :=
  cond (Ops.eq B (10) (0))
   (
    none)
   (
    cond (Ops.eq B (10) (0))
     (
      none)
     (
      cond (Ops.inb B (IntKind.wrap IntKind.u64 (Int.tmod p0 (10) + 1)) (10 + 1))
       (
        cond (bif Ops.le B (0) (Int.tmod p0 (10)) then Ops.le B (Int.tmod p0 (10)) (IntKind.wrap IntKind.u64 (Int.tmod p0 (10) + 1)) else false)
         (
          cond (Ops.lt B p0 (10))
           (
            k (List.drop (Int.toNat (Int.tmod p0 (10))) (List.take (Int.toNat (IntKind.wrap IntKind.u64 (Int.tmod p0 (10) + 1))) ([48, 49, 50, 51, 52, 53, 54, 55, 56, 57] : List UInt8))))
           (
            cond (Ops.eq B (10) (0))
             (
              none)
             (
              ob (c115 (IntKind.wrap IntKind.u64 (Int.tdiv p0 (10)))) fun y0 =>
              cond (Ops.lim B (List.length y0 + List.length (List.drop (Int.toNat (Int.tmod p0 (10))) (List.take (Int.toNat (IntKind.wrap IntKind.u64 (Int.tmod p0 (10) + 1))) ([48, 49, 50, 51, 52, 53, 54, 55, 56, 57] : List UInt8)))) (1))
               (
                k (y0 ++ List.drop (Int.toNat (Int.tmod p0 (10))) (List.take (Int.toNat (IntKind.wrap IntKind.u64 (Int.tmod p0 (10) + 1))) ([48, 49, 50, 51, 52, 53, 54, 55, 56, 57] : List UInt8))))
               (
                none))))
         (
          none))
       (
        none)))
theorem eq115 {R : Type} (B : Ops) (c115 : Int → Option ((List UInt8))) (p0 : Int) (k : AV → Objs → Option R) (n : Nat) : afun tau B gl0 X115 (ent 115 (e115 c115) (gnil)) ow Try.f115 [.c (.int .u64 p0)] [] k n = T115 B c115 p0 (fun y => k (.c (.str y)) []) := by kernel_rfl
theorem nt115 {R R' : Type} (B : Ops) (c115 : Int → Option ((List UInt8))) (p0 : Int) (k0 : ((List UInt8)) → Option R') (k : R' → Option R) : T115 B c115 p0 (fun y => ob (k0 y) k) = ob (T115 B c115 p0 k0) k := by
  unfold T115
  repeat' first | exact rfl | apply nat_cond | (apply nat_ob; intro)
def F115 (c115 : Int → Option ((List UInt8))) (p0 : Int) : Option ((List UInt8)) := T115 Ops.std c115 p0 some
theorem fo115 {R : Type} (c115 : Int → Option ((List UInt8))) (p0 : Int) (k : AV → Objs → Option R) (n : Nat) : afun tau Ops.std gl0 X115 (ent 115 (e115 c115) (gnil)) ow Try.f115 [.c (.int .u64 p0)] [] k n = ob (F115 c115 p0) (fun y => k (.c (.str y)) []) := by rw [eq115]; exact nt115 Ops.std c115 p0 some (fun y => k (.c (.str y)) [])
theorem sf115 {c115 : Int → Option ((List UInt8))} (h115 : Sp115 c115) : Sp115 (F115 c115) := fun p0 y hy => by
  refine spec_of (G := ent 115 (e115 c115) (gnil)) (ent_ok (ek115 h115) (gnil_ok)) 1000000 (fn := Try.f115) (by kernel_rfl) (by kernel_rfl) (X := X115) (by kernel_rfl) ?_
  rw [fo115, hy]
  rfl
noncomputable def Rec115 : Nat → (Int → Option ((List UInt8)))
  | 0 => fun _ => none
  | d + 1 => F115 (Rec115 d)
theorem rec115 : ∀ d, Sp115 (Rec115 d)
  | 0 => fun p0 y (h : (none : Option ((List UInt8))) = some y) => by cases h
  | d + 1 => sf115 (rec115 d)
noncomputable def M115 : Int → Option ((List UInt8)) := (Rec115 1000000)
theorem sm115 : Sp115 M115 := (rec115 1000000)

/-! ### 87: lariat/lariatref7.decimal -/
def X87 : Aux := ⟨[], []⟩
def T87 {R : Type} (B : Ops) (c115 : Int → Option ((List UInt8))) (p0 : Int) (k : ((List UInt8)) → Option R) : Option R :=
  cond (Ops.lt B p0 (0))
   (
    ob (c115 (IntKind.wrap IntKind.u64 (IntKind.wrap IntKind.u64 (IntKind.wrap IntKind.i64 (0 - IntKind.wrap IntKind.i64 (p0 + 1))) + 1))) fun y0 =>
    cond (Ops.lim B (1 + List.length y0) (1))
     (
      k (([45] : List UInt8) ++ y0))
     (
      none))
   (
    ob (c115 (IntKind.wrap IntKind.u64 p0)) fun y0 =>
    k y0)
theorem eq87 {R : Type} (B : Ops) (c115 : Int → Option ((List UInt8))) (p0 : Int) (k : AV → Objs → Option R) (n : Nat) : afun tau B gl0 X87 (ent 115 (e115 c115) (gnil)) ow Try.f87 [.c (.int .i64 p0)] [] k n = T87 B c115 p0 (fun y => k (.c (.str y)) []) := by kernel_rfl
theorem nt87 {R R' : Type} (B : Ops) (c115 : Int → Option ((List UInt8))) (p0 : Int) (k0 : ((List UInt8)) → Option R') (k : R' → Option R) : T87 B c115 p0 (fun y => ob (k0 y) k) = ob (T87 B c115 p0 k0) k := by
  unfold T87
  repeat' first | exact rfl | apply nat_cond | (apply nat_ob; intro)
def F87 (c115 : Int → Option ((List UInt8))) (p0 : Int) : Option ((List UInt8)) := T87 Ops.std c115 p0 some
theorem fo87 {R : Type} (c115 : Int → Option ((List UInt8))) (p0 : Int) (k : AV → Objs → Option R) (n : Nat) : afun tau Ops.std gl0 X87 (ent 115 (e115 c115) (gnil)) ow Try.f87 [.c (.int .i64 p0)] [] k n = ob (F87 c115 p0) (fun y => k (.c (.str y)) []) := by rw [eq87]; exact nt87 Ops.std c115 p0 some (fun y => k (.c (.str y)) [])
def e87 {R : Type} (c : Int → Option ((List UInt8))) : Ent R := fun args objs k =>
  oCons args fun a0 l0 => oC a0 fun x0 => cInt .i64 x0 fun p0 => oNil l0 <| oNilO objs <| ob (c p0) fun y => k (.c (.str y)) []
abbrev Sp87 (c : Int → Option ((List UInt8))) : Prop := ∀ (p0 : Int) (y : (List UInt8)), c p0 = some y → Spec Try.prog gl0 87 [.c (.int .i64 p0)] [] (.c (.str y)) []
theorem ek87 {R : Type} {c : Int → Option ((List UInt8))} (hs : Sp87 c) : EOk 87 (e87 (R := R) c) := fun args objs k r h => by
  unfold e87 at h
  obtain ⟨a0, l0, rfl, q1⟩ := oCons_some h
  obtain ⟨x0, rfl, q2⟩ := oC_some q1
  obtain ⟨p0, rfl, q3⟩ := cInt_some q2
  obtain ⟨rfl, q4⟩ := oNil_some q3
  obtain ⟨rfl, q5⟩ := oNilO_some q4
  exact eok_of (hs p0) q5
theorem sf87 {c115 : Int → Option ((List UInt8))} (h115 : Sp115 c115) : Sp87 (F87 c115) := fun p0 y hy => by
  refine spec_of (G := ent 115 (e115 c115) (gnil)) (ent_ok (ek115 h115) (gnil_ok)) 1000000 (fn := Try.f87) (by kernel_rfl) (by kernel_rfl) (X := X87) (by kernel_rfl) ?_
  rw [fo87, hy]
  rfl
noncomputable def M87 : Int → Option ((List UInt8)) := F87 M115
theorem sm87 : Sp87 M87 := sf87 sm115

/-! ### 88: lariat/lariatref7.within -/
def X88 : Aux := ⟨[], []⟩
def T88 {R : Type} (B : Ops) (p0 : List UInt8) (p1 : Int) (p2 : Int) (k : ((List UInt8)) → Option R) : Option R :=
  cond (Ops.lt B p1 p2)
   (
    cond (Ops.lim B (1 + List.length p0) (1))
     (
      cond (Ops.lim B (List.length (([40] : List UInt8) ++ p0) + 1) (1))
       (
        k (([40] : List UInt8) ++ p0 ++ ([41] : List UInt8)))
       (
        none))
     (
      none))
   (
    k p0)
theorem eq88 {R : Type} (B : Ops) (p0 : List UInt8) (p1 : Int) (p2 : Int) (k : AV → Objs → Option R) (n : Nat) : afun tau B gl0 X88 (gnil) ow Try.f88 [.agg [.str p0, .int .i64 p1], .c (.int .i64 p2)] [] k n = T88 B p0 p1 p2 (fun y => k (.c (.str y)) []) := by kernel_rfl
theorem nt88 {R R' : Type} (B : Ops) (p0 : List UInt8) (p1 : Int) (p2 : Int) (k0 : ((List UInt8)) → Option R') (k : R' → Option R) : T88 B p0 p1 p2 (fun y => ob (k0 y) k) = ob (T88 B p0 p1 p2 k0) k := by
  unfold T88
  repeat' first | exact rfl | apply nat_cond | (apply nat_ob; intro)
def F88 (p0 : List UInt8) (p1 : Int) (p2 : Int) : Option ((List UInt8)) := T88 Ops.std p0 p1 p2 some
theorem fo88 {R : Type} (p0 : List UInt8) (p1 : Int) (p2 : Int) (k : AV → Objs → Option R) (n : Nat) : afun tau Ops.std gl0 X88 (gnil) ow Try.f88 [.agg [.str p0, .int .i64 p1], .c (.int .i64 p2)] [] k n = ob (F88 p0 p1 p2) (fun y => k (.c (.str y)) []) := by rw [eq88]; exact nt88 Ops.std p0 p1 p2 some (fun y => k (.c (.str y)) [])
def e88 {R : Type} (c : List UInt8 → Int → Int → Option ((List UInt8))) : Ent R := fun args objs k =>
  oCons args fun a0 l0 => oAgg a0 fun x0 => cCons x0 fun z0_0 w0_0 => cStr z0_0 fun p0 => cCons w0_0 fun z0_1 w0_1 => cInt .i64 z0_1 fun p1 => cNil w0_1 <| oCons l0 fun a1 l1 => oC a1 fun x1 => cInt .i64 x1 fun p2 => oNil l1 <| oNilO objs <| ob (c p0 p1 p2) fun y => k (.c (.str y)) []
abbrev Sp88 (c : List UInt8 → Int → Int → Option ((List UInt8))) : Prop := ∀ (p0 : List UInt8) (p1 : Int) (p2 : Int) (y : (List UInt8)), c p0 p1 p2 = some y → Spec Try.prog gl0 88 [.agg [.str p0, .int .i64 p1], .c (.int .i64 p2)] [] (.c (.str y)) []
theorem ek88 {R : Type} {c : List UInt8 → Int → Int → Option ((List UInt8))} (hs : Sp88 c) : EOk 88 (e88 (R := R) c) := fun args objs k r h => by
  unfold e88 at h
  obtain ⟨a0, l0, rfl, q1⟩ := oCons_some h
  obtain ⟨x0, rfl, q2⟩ := oAgg_some q1
  obtain ⟨z0_0, w0_0, rfl, q3⟩ := cCons_some q2
  obtain ⟨p0, rfl, q4⟩ := cStr_some q3
  obtain ⟨z0_1, w0_1, rfl, q5⟩ := cCons_some q4
  obtain ⟨p1, rfl, q6⟩ := cInt_some q5
  obtain ⟨rfl, q7⟩ := cNil_some q6
  obtain ⟨a1, l1, rfl, q8⟩ := oCons_some q7
  obtain ⟨x1, rfl, q9⟩ := oC_some q8
  obtain ⟨p2, rfl, q10⟩ := cInt_some q9
  obtain ⟨rfl, q11⟩ := oNil_some q10
  obtain ⟨rfl, q12⟩ := oNilO_some q11
  exact eok_of (hs p0 p1 p2) q12
theorem sf88 : Sp88 (F88) := fun p0 p1 p2 y hy => by
  refine spec_of (G := gnil) (gnil_ok) 1000000 (fn := Try.f88) (by kernel_rfl) (by kernel_rfl) (X := X88) (by kernel_rfl) ?_
  rw [fo88, hy]
  rfl
noncomputable def M88 : List UInt8 → Int → Int → Option ((List UInt8)) := F88
theorem sm88 : Sp88 M88 := sf88

/-! ### 49: lariat/lariatref7.Print -/
def X49 : Aux := ⟨[(6, [1, 2, 6, 7, 8, 9, 10, 11, 12, 13, 14, 15, 16, 17, 18, 19, 20, 21, 22, 23, 24, 25, 26, 27, 28, 29, 30, 31, 32, 33, 34, 35, 36, 37, 38, 39, 40, 41, 42, 43, 44, 45, 46, 47, 48, 49, 50, 51, 52, 53, 54, 55, 56, 57, 58, 59, 60, 61, 62, 63, 64, 65, 66, 67, 68, 69, 70, 71, 72, 73, 74, 75, 76, 77, 78, 79, 80, 81, 82, 83, 84, 85, 86, 87, 88, 89, 90, 91, 92, 93, 94, 95, 96, 97, 98, 99, 100, 101, 102, 103, 104, 105, 106, 107, 108, 109, 110, 111, 112, 113, 114, 115, 116, 117, 118, 119, 120, 121, 122, 123, 124, 125])], [(31, .lin [0, 1, 2, 3, 4, 5, 6, 7, 8, 9, 10, 11, 12, 13]), (32, .lin [0, 1, 2, 3, 4, 5, 6, 7]), (18, .lin [0, 1, 2, 3, 4, 5, 7, 8, 9, 10, 12, 13, 14, 15, 16, 17, 18, 6, 11, 19, 20, 21, 22]), (19, .lin [0, 1, 2, 3, 4, 5, 6, 7])]⟩
inductive S49 where
  | l0 (v0_1 : Int) (v0_2 : List ty130.den)
def T49 {R : Type} (B : Ops) (c66 : List ty97.den → Option (Bool)) (c85 : Int → Option (Int)) (c86 : Int → Option (Int)) (c87 : Int → Option ((List UInt8))) (c88 : List UInt8 → Int → Int → Option ((List UInt8))) (p0 : List ty97.den) (again : S49 → Option R) (k : ((List UInt8)) → Option R) : Option S49 → Option R
  | none =>
    ob (c66 p0) fun y0 =>
    cond (!y0)
     (
      k (mt UInt8))
     (
      again (.l0 0 (mt (Ty.den (Ty.pair Ty.str (Ty.int IntKind.i64))))))
  | some (.l0 v0_1 v0_2) =>
    cond (Ops.lt B v0_1 (Nat.cast (List.length p0)))
     (
      cond (Ops.inb B v0_1 (List.length p0))
       (
        ob (c85 (Prod.fst (List.getD p0 (Int.toNat v0_1) (Ty.dflt ty97)))) fun y0 =>
        ob (c86 (Prod.fst (List.getD p0 (Int.toNat v0_1) (Ty.dflt ty97)))) fun y1 =>
        cond (Ops.eq B y1 (0))
         (
          cond (Ops.eq B (Prod.fst (List.getD p0 (Int.toNat v0_1) (Ty.dflt ty97))) (1))
           (
            ob (c87 (Prod.fst (Prod.snd (List.getD p0 (Int.toNat v0_1) (Ty.dflt ty97))))) fun y2 =>
            cond (Ops.lim B (List.length v0_2 + List.length ((y2, y0) :: mt (Ty.den (Ty.pair Ty.str (Ty.int IntKind.i64))))) (24))
             (
              again (.l0 (IntKind.wrap IntKind.i64 (v0_1 + 1)) (v0_2 ++ (y2, y0) :: mt (Ty.den (Ty.pair Ty.str (Ty.int IntKind.i64))))))
             (
              none))
           (
            cond (Ops.eq B (Prod.fst (List.getD p0 (Int.toNat v0_1) (Ty.dflt ty97))) (2))
             (
              cond (Ops.lim B (List.length v0_2 + List.length ((Prod.fst (Prod.snd (Prod.snd (List.getD p0 (Int.toNat v0_1) (Ty.dflt ty97)))), y0) :: mt (Ty.den (Ty.pair Ty.str (Ty.int IntKind.i64))))) (24))
               (
                again (.l0 (IntKind.wrap IntKind.i64 (v0_1 + 1)) (v0_2 ++ (Prod.fst (Prod.snd (Prod.snd (List.getD p0 (Int.toNat v0_1) (Ty.dflt ty97)))), y0) :: mt (Ty.den (Ty.pair Ty.str (Ty.int IntKind.i64))))))
               (
                none))
             (
              cond (Ops.lim B (List.length (Prod.fst (Prod.snd (Prod.snd (List.getD p0 (Int.toNat v0_1) (Ty.dflt ty97))))) + 1) (1))
               (
                cond (Ops.lim B (List.length (Prod.fst (Prod.snd (Prod.snd (List.getD p0 (Int.toNat v0_1) (Ty.dflt ty97)))) ++ ([64] : List UInt8)) + List.length (Prod.snd (Prod.snd (Prod.snd (List.getD p0 (Int.toNat v0_1) (Ty.dflt ty97)))))) (1))
                 (
                  cond (Ops.lim B (List.length v0_2 + List.length ((Prod.fst (Prod.snd (Prod.snd (List.getD p0 (Int.toNat v0_1) (Ty.dflt ty97)))) ++ ([64] : List UInt8) ++ Prod.snd (Prod.snd (Prod.snd (List.getD p0 (Int.toNat v0_1) (Ty.dflt ty97)))), y0) :: mt (Ty.den (Ty.pair Ty.str (Ty.int IntKind.i64))))) (24))
                   (
                    again (.l0 (IntKind.wrap IntKind.i64 (v0_1 + 1)) (v0_2 ++ (Prod.fst (Prod.snd (Prod.snd (List.getD p0 (Int.toNat v0_1) (Ty.dflt ty97)))) ++ ([64] : List UInt8) ++ Prod.snd (Prod.snd (Prod.snd (List.getD p0 (Int.toNat v0_1) (Ty.dflt ty97)))), y0) :: mt (Ty.den (Ty.pair Ty.str (Ty.int IntKind.i64))))))
                   (
                    none))
                 (
                  none))
               (
                none))))
         (
          cond (Ops.eq B y1 (1))
           (
            cond (Ops.lt B (Nat.cast (List.length v0_2)) (1))
             (
              k (mt UInt8))
             (
              cond (Ops.inb B (Prod.fst (List.getD p0 (Int.toNat v0_1) (Ty.dflt ty97))) (17))
               (
                cond (Ops.inb B (IntKind.wrap IntKind.i64 (Nat.cast (List.length v0_2) - 1)) (List.length v0_2))
                 (
                  ob (c88 (Prod.fst (List.getD v0_2 (Int.toNat (IntKind.wrap IntKind.i64 (Nat.cast (List.length v0_2) - 1))) (Ty.dflt ty130))) (Prod.snd (List.getD v0_2 (Int.toNat (IntKind.wrap IntKind.i64 (Nat.cast (List.length v0_2) - 1))) (Ty.dflt ty130))) y0) fun y2 =>
                  cond (Ops.lim B (List.length (List.getD ((mt UInt8) :: (mt UInt8) :: (mt UInt8) :: (mt UInt8) :: ([33] : List UInt8) :: ([45] : List UInt8) :: ([42] : List UInt8) :: ([43] : List UInt8) :: ([45] : List UInt8) :: ([60] : List UInt8) :: ([60, 61] : List UInt8) :: ([62] : List UInt8) :: ([62, 61] : List UInt8) :: ([61, 61] : List UInt8) :: ([33, 61] : List UInt8) :: ([38, 38] : List UInt8) :: ([124, 124] : List UInt8) :: mt (List UInt8)) (Int.toNat (Prod.fst (List.getD p0 (Int.toNat v0_1) (Ty.dflt ty97)))) (mt UInt8)) + List.length y2) (1))
                   (
                    cond (Ops.inb B (IntKind.wrap IntKind.i64 (Nat.cast (List.length v0_2) - 1)) (List.length v0_2 + 1))
                     (
                      cond (Ops.lim B (List.length (List.take (Int.toNat (IntKind.wrap IntKind.i64 (Nat.cast (List.length v0_2) - 1))) v0_2) + List.length ((List.getD ((mt UInt8) :: (mt UInt8) :: (mt UInt8) :: (mt UInt8) :: ([33] : List UInt8) :: ([45] : List UInt8) :: ([42] : List UInt8) :: ([43] : List UInt8) :: ([45] : List UInt8) :: ([60] : List UInt8) :: ([60, 61] : List UInt8) :: ([62] : List UInt8) :: ([62, 61] : List UInt8) :: ([61, 61] : List UInt8) :: ([33, 61] : List UInt8) :: ([38, 38] : List UInt8) :: ([124, 124] : List UInt8) :: mt (List UInt8)) (Int.toNat (Prod.fst (List.getD p0 (Int.toNat v0_1) (Ty.dflt ty97)))) (mt UInt8) ++ y2, y0) :: mt (Ty.den (Ty.pair Ty.str (Ty.int IntKind.i64))))) (24))
                       (
                        again (.l0 (IntKind.wrap IntKind.i64 (v0_1 + 1)) (List.take (Int.toNat (IntKind.wrap IntKind.i64 (Nat.cast (List.length v0_2) - 1))) v0_2 ++ (List.getD ((mt UInt8) :: (mt UInt8) :: (mt UInt8) :: (mt UInt8) :: ([33] : List UInt8) :: ([45] : List UInt8) :: ([42] : List UInt8) :: ([43] : List UInt8) :: ([45] : List UInt8) :: ([60] : List UInt8) :: ([60, 61] : List UInt8) :: ([62] : List UInt8) :: ([62, 61] : List UInt8) :: ([61, 61] : List UInt8) :: ([33, 61] : List UInt8) :: ([38, 38] : List UInt8) :: ([124, 124] : List UInt8) :: mt (List UInt8)) (Int.toNat (Prod.fst (List.getD p0 (Int.toNat v0_1) (Ty.dflt ty97)))) (mt UInt8) ++ y2, y0) :: mt (Ty.den (Ty.pair Ty.str (Ty.int IntKind.i64))))))
                       (
                        none))
                     (
                      none))
                   (
                    none))
                 (
                  none))
               (
                none)))
           (
            cond (Ops.lt B (Nat.cast (List.length v0_2)) (2))
             (
              k (mt UInt8))
             (
              cond (Ops.eq B y0 (3))
               (
                cond (Ops.inb B (IntKind.wrap IntKind.i64 (Nat.cast (List.length v0_2) - 2)) (List.length v0_2))
                 (
                  cond (Ops.inb B (Prod.fst (List.getD p0 (Int.toNat v0_1) (Ty.dflt ty97))) (17))
                   (
                    cond (Ops.inb B (IntKind.wrap IntKind.i64 (Nat.cast (List.length v0_2) - 1)) (List.length v0_2))
                     (
                      ob (c88 (Prod.fst (List.getD v0_2 (Int.toNat (IntKind.wrap IntKind.i64 (Nat.cast (List.length v0_2) - 2))) (Ty.dflt ty130))) (Prod.snd (List.getD v0_2 (Int.toNat (IntKind.wrap IntKind.i64 (Nat.cast (List.length v0_2) - 2))) (Ty.dflt ty130))) (4)) fun y2 =>
                      cond (Ops.lim B (List.length y2 + List.length (List.getD ((mt UInt8) :: (mt UInt8) :: (mt UInt8) :: (mt UInt8) :: ([33] : List UInt8) :: ([45] : List UInt8) :: ([42] : List UInt8) :: ([43] : List UInt8) :: ([45] : List UInt8) :: ([60] : List UInt8) :: ([60, 61] : List UInt8) :: ([62] : List UInt8) :: ([62, 61] : List UInt8) :: ([61, 61] : List UInt8) :: ([33, 61] : List UInt8) :: ([38, 38] : List UInt8) :: ([124, 124] : List UInt8) :: mt (List UInt8)) (Int.toNat (Prod.fst (List.getD p0 (Int.toNat v0_1) (Ty.dflt ty97)))) (mt UInt8))) (1))
                       (
                        ob (c88 (Prod.fst (List.getD v0_2 (Int.toNat (IntKind.wrap IntKind.i64 (Nat.cast (List.length v0_2) - 1))) (Ty.dflt ty130))) (Prod.snd (List.getD v0_2 (Int.toNat (IntKind.wrap IntKind.i64 (Nat.cast (List.length v0_2) - 1))) (Ty.dflt ty130))) (IntKind.wrap IntKind.i64 (y0 + 1))) fun y3 =>
                        cond (Ops.lim B (List.length (y2 ++ List.getD ((mt UInt8) :: (mt UInt8) :: (mt UInt8) :: (mt UInt8) :: ([33] : List UInt8) :: ([45] : List UInt8) :: ([42] : List UInt8) :: ([43] : List UInt8) :: ([45] : List UInt8) :: ([60] : List UInt8) :: ([60, 61] : List UInt8) :: ([62] : List UInt8) :: ([62, 61] : List UInt8) :: ([61, 61] : List UInt8) :: ([33, 61] : List UInt8) :: ([38, 38] : List UInt8) :: ([124, 124] : List UInt8) :: mt (List UInt8)) (Int.toNat (Prod.fst (List.getD p0 (Int.toNat v0_1) (Ty.dflt ty97)))) (mt UInt8)) + List.length y3) (1))
                         (
                          cond (Ops.inb B (IntKind.wrap IntKind.i64 (Nat.cast (List.length v0_2) - 2)) (List.length v0_2 + 1))
                           (
                            cond (Ops.lim B (List.length (List.take (Int.toNat (IntKind.wrap IntKind.i64 (Nat.cast (List.length v0_2) - 2))) v0_2) + List.length ((y2 ++ List.getD ((mt UInt8) :: (mt UInt8) :: (mt UInt8) :: (mt UInt8) :: ([33] : List UInt8) :: ([45] : List UInt8) :: ([42] : List UInt8) :: ([43] : List UInt8) :: ([45] : List UInt8) :: ([60] : List UInt8) :: ([60, 61] : List UInt8) :: ([62] : List UInt8) :: ([62, 61] : List UInt8) :: ([61, 61] : List UInt8) :: ([33, 61] : List UInt8) :: ([38, 38] : List UInt8) :: ([124, 124] : List UInt8) :: mt (List UInt8)) (Int.toNat (Prod.fst (List.getD p0 (Int.toNat v0_1) (Ty.dflt ty97)))) (mt UInt8) ++ y3, y0) :: mt (Ty.den (Ty.pair Ty.str (Ty.int IntKind.i64))))) (24))
                             (
                              again (.l0 (IntKind.wrap IntKind.i64 (v0_1 + 1)) (List.take (Int.toNat (IntKind.wrap IntKind.i64 (Nat.cast (List.length v0_2) - 2))) v0_2 ++ (y2 ++ List.getD ((mt UInt8) :: (mt UInt8) :: (mt UInt8) :: (mt UInt8) :: ([33] : List UInt8) :: ([45] : List UInt8) :: ([42] : List UInt8) :: ([43] : List UInt8) :: ([45] : List UInt8) :: ([60] : List UInt8) :: ([60, 61] : List UInt8) :: ([62] : List UInt8) :: ([62, 61] : List UInt8) :: ([61, 61] : List UInt8) :: ([33, 61] : List UInt8) :: ([38, 38] : List UInt8) :: ([124, 124] : List UInt8) :: mt (List UInt8)) (Int.toNat (Prod.fst (List.getD p0 (Int.toNat v0_1) (Ty.dflt ty97)))) (mt UInt8) ++ y3, y0) :: mt (Ty.den (Ty.pair Ty.str (Ty.int IntKind.i64))))))
                             (
                              none))
                           (
                            none))
                         (
                          none))
                       (
                        none))
                     (
                      none))
                   (
                    none))
                 (
                  none))
               (
                cond (Ops.inb B (IntKind.wrap IntKind.i64 (Nat.cast (List.length v0_2) - 2)) (List.length v0_2))
                 (
                  cond (Ops.inb B (Prod.fst (List.getD p0 (Int.toNat v0_1) (Ty.dflt ty97))) (17))
                   (
                    cond (Ops.inb B (IntKind.wrap IntKind.i64 (Nat.cast (List.length v0_2) - 1)) (List.length v0_2))
                     (
                      ob (c88 (Prod.fst (List.getD v0_2 (Int.toNat (IntKind.wrap IntKind.i64 (Nat.cast (List.length v0_2) - 2))) (Ty.dflt ty130))) (Prod.snd (List.getD v0_2 (Int.toNat (IntKind.wrap IntKind.i64 (Nat.cast (List.length v0_2) - 2))) (Ty.dflt ty130))) y0) fun y2 =>
                      cond (Ops.lim B (List.length y2 + List.length (List.getD ((mt UInt8) :: (mt UInt8) :: (mt UInt8) :: (mt UInt8) :: ([33] : List UInt8) :: ([45] : List UInt8) :: ([42] : List UInt8) :: ([43] : List UInt8) :: ([45] : List UInt8) :: ([60] : List UInt8) :: ([60, 61] : List UInt8) :: ([62] : List UInt8) :: ([62, 61] : List UInt8) :: ([61, 61] : List UInt8) :: ([33, 61] : List UInt8) :: ([38, 38] : List UInt8) :: ([124, 124] : List UInt8) :: mt (List UInt8)) (Int.toNat (Prod.fst (List.getD p0 (Int.toNat v0_1) (Ty.dflt ty97)))) (mt UInt8))) (1))
                       (
                        ob (c88 (Prod.fst (List.getD v0_2 (Int.toNat (IntKind.wrap IntKind.i64 (Nat.cast (List.length v0_2) - 1))) (Ty.dflt ty130))) (Prod.snd (List.getD v0_2 (Int.toNat (IntKind.wrap IntKind.i64 (Nat.cast (List.length v0_2) - 1))) (Ty.dflt ty130))) (IntKind.wrap IntKind.i64 (y0 + 1))) fun y3 =>
                        cond (Ops.lim B (List.length (y2 ++ List.getD ((mt UInt8) :: (mt UInt8) :: (mt UInt8) :: (mt UInt8) :: ([33] : List UInt8) :: ([45] : List UInt8) :: ([42] : List UInt8) :: ([43] : List UInt8) :: ([45] : List UInt8) :: ([60] : List UInt8) :: ([60, 61] : List UInt8) :: ([62] : List UInt8) :: ([62, 61] : List UInt8) :: ([61, 61] : List UInt8) :: ([33, 61] : List UInt8) :: ([38, 38] : List UInt8) :: ([124, 124] : List UInt8) :: mt (List UInt8)) (Int.toNat (Prod.fst (List.getD p0 (Int.toNat v0_1) (Ty.dflt ty97)))) (mt UInt8)) + List.length y3) (1))
                         (
                          cond (Ops.inb B (IntKind.wrap IntKind.i64 (Nat.cast (List.length v0_2) - 2)) (List.length v0_2 + 1))
                           (
                            cond (Ops.lim B (List.length (List.take (Int.toNat (IntKind.wrap IntKind.i64 (Nat.cast (List.length v0_2) - 2))) v0_2) + List.length ((y2 ++ List.getD ((mt UInt8) :: (mt UInt8) :: (mt UInt8) :: (mt UInt8) :: ([33] : List UInt8) :: ([45] : List UInt8) :: ([42] : List UInt8) :: ([43] : List UInt8) :: ([45] : List UInt8) :: ([60] : List UInt8) :: ([60, 61] : List UInt8) :: ([62] : List UInt8) :: ([62, 61] : List UInt8) :: ([61, 61] : List UInt8) :: ([33, 61] : List UInt8) :: ([38, 38] : List UInt8) :: ([124, 124] : List UInt8) :: mt (List UInt8)) (Int.toNat (Prod.fst (List.getD p0 (Int.toNat v0_1) (Ty.dflt ty97)))) (mt UInt8) ++ y3, y0) :: mt (Ty.den (Ty.pair Ty.str (Ty.int IntKind.i64))))) (24))
                             (
                              again (.l0 (IntKind.wrap IntKind.i64 (v0_1 + 1)) (List.take (Int.toNat (IntKind.wrap IntKind.i64 (Nat.cast (List.length v0_2) - 2))) v0_2 ++ (y2 ++ List.getD ((mt UInt8) :: (mt UInt8) :: (mt UInt8) :: (mt UInt8) :: ([33] : List UInt8) :: ([45] : List UInt8) :: ([42] : List UInt8) :: ([43] : List UInt8) :: ([45] : List UInt8) :: ([60] : List UInt8) :: ([60, 61] : List UInt8) :: ([62] : List UInt8) :: ([62, 61] : List UInt8) :: ([61, 61] : List UInt8) :: ([33, 61] : List UInt8) :: ([38, 38] : List UInt8) :: ([124, 124] : List UInt8) :: mt (List UInt8)) (Int.toNat (Prod.fst (List.getD p0 (Int.toNat v0_1) (Ty.dflt ty97)))) (mt UInt8) ++ y3, y0) :: mt (Ty.den (Ty.pair Ty.str (Ty.int IntKind.i64))))))
                             (
                              none))
                           (
                            none))
                         (
                          none))
                       (
                        none))
                     (
                      none))
                   (
                    none))
                 (
                  none))))))
       (
        none))
     (
      cond (Ops.eq B (Nat.cast (List.length v0_2)) (0))
       (
        k (mt UInt8))
       (
        cond (Ops.inb B (0) (List.length v0_2))
         (
          k (Prod.fst (List.getD v0_2 (Int.toNat (0)) (Ty.dflt ty130))))
         (
          none)))
def E49 (p0 : List ty97.den) : S49 → List AV × Objs
  | .l0 v0_1 v0_2 => (mk 126 [(0, .c (.list 97 ty97 p0)), (3, .c (.own 3)), (4, .c (.ptr 4 0)), (5, .c (.int .i64 v0_1))], [(3, .row 130 ty130 v0_2), (4, .box 128 [.str (mt UInt8), .str (mt UInt8), .str (mt UInt8), .str (mt UInt8), .str ([33] : List UInt8), .str ([45] : List UInt8), .str ([42] : List UInt8), .str ([43] : List UInt8), .str ([45] : List UInt8), .str ([60] : List UInt8), .str ([60, 61] : List UInt8), .str ([62] : List UInt8), .str ([62, 61] : List UInt8), .str ([61, 61] : List UInt8), .str ([33, 61] : List UInt8), .str ([38, 38] : List UInt8), .str ([124, 124] : List UInt8)])])
def I49 : S49 → Nat
  | .l0 _ _ => 0
theorem eq49 {R : Type} (B : Ops) (c66 : List ty97.den → Option (Bool)) (c85 : Int → Option (Int)) (c86 : Int → Option (Int)) (c87 : Int → Option ((List UInt8))) (c88 : List UInt8 → Int → Int → Option ((List UInt8))) (p0 : List ty97.den) (k : AV → Objs → Option R) (n : Nat) : afun tau B gl0 X49 (ent 66 (e66 c66) (ent 85 (e85 c85) (ent 86 (e86 c86) (ent 87 (e87 c87) (ent 88 (e88 c88) (gnil)))))) ow Try.f49 [.c (.list 97 ty97 p0)] [] k n = T49 B c66 c85 c86 c87 c88 p0 (fun s => aloop tau B gl0 X49 (ent 66 (e66 c66) (ent 85 (e85 c85) (ent 86 (e86 c86) (ent 87 (e87 c87) (ent 88 (e88 c88) (gnil)))))) ow [] Try.f49 k (I49 s) (E49 p0 s) n) (fun y => k (.c (.str y)) []) none := by kernel_rfl
theorem el49 {R : Type} (B : Ops) (c66 : List ty97.den → Option (Bool)) (c85 : Int → Option (Int)) (c86 : Int → Option (Int)) (c87 : Int → Option ((List UInt8))) (c88 : List UInt8 → Int → Int → Option ((List UInt8))) (p0 : List ty97.den) (k : AV → Objs → Option R) (n : Nat) : ∀ s, aloop tau B gl0 X49 (ent 66 (e66 c66) (ent 85 (e85 c85) (ent 86 (e86 c86) (ent 87 (e87 c87) (ent 88 (e88 c88) (gnil)))))) ow [] Try.f49 k (I49 s) (E49 p0 s) (n + 1) = T49 B c66 c85 c86 c87 c88 p0 (fun s => aloop tau B gl0 X49 (ent 66 (e66 c66) (ent 85 (e85 c85) (ent 86 (e86 c86) (ent 87 (e87 c87) (ent 88 (e88 c88) (gnil)))))) ow [] Try.f49 k (I49 s) (E49 p0 s) n) (fun y => k (.c (.str y)) []) (some s)
  | .l0 v0_1 v0_2 => by kernel_rfl
theorem nt49 {R R' : Type} (B : Ops) (c66 : List ty97.den → Option (Bool)) (c85 : Int → Option (Int)) (c86 : Int → Option (Int)) (c87 : Int → Option ((List UInt8))) (c88 : List UInt8 → Int → Int → Option ((List UInt8))) (p0 : List ty97.den) (again : S49 → Option R) (again' : S49 → Option R') (k0 : ((List UInt8)) → Option R') (k : R' → Option R) (h : ∀ s, again s = ob (again' s) k) : ∀ s, T49 B c66 c85 c86 c87 c88 p0 again (fun y => ob (k0 y) k) s = ob (T49 B c66 c85 c86 c87 c88 p0 again' k0 s) k
  | none => by unfold T49; repeat' first | exact rfl | exact h _ | apply nat_cond | (apply nat_ob; intro)
  | some (.l0 v0_1 v0_2) => by unfold T49; repeat' first | exact rfl | exact h _ | apply nat_cond | (apply nat_ob; intro)
def R49 (c66 : List ty97.den → Option (Bool)) (c85 : Int → Option (Int)) (c86 : Int → Option (Int)) (c87 : Int → Option ((List UInt8))) (c88 : List UInt8 → Int → Int → Option ((List UInt8))) (p0 : List ty97.den) : Nat → S49 → Option ((List UInt8))
  | 0, _ => none
  | n + 1, s => T49 Ops.std c66 c85 c86 c87 c88 p0 (R49 c66 c85 c86 c87 c88 p0 n) some (some s)
theorem rr49 {R : Type} (c66 : List ty97.den → Option (Bool)) (c85 : Int → Option (Int)) (c86 : Int → Option (Int)) (c87 : Int → Option ((List UInt8))) (c88 : List UInt8 → Int → Int → Option ((List UInt8))) (p0 : List ty97.den) (k : AV → Objs → Option R) : ∀ (n : Nat) (s : S49), aloop tau Ops.std gl0 X49 (ent 66 (e66 c66) (ent 85 (e85 c85) (ent 86 (e86 c86) (ent 87 (e87 c87) (ent 88 (e88 c88) (gnil)))))) ow [] Try.f49 k (I49 s) (E49 p0 s) n = ob (R49 c66 c85 c86 c87 c88 p0 n s) (fun y => k (.c (.str y)) [])
  | 0, s => by cases s <;> rfl
  | n + 1, s => by rw [el49]; exact nt49 Ops.std c66 c85 c86 c87 c88 p0 _ _ some (fun y => k (.c (.str y)) []) (rr49 c66 c85 c86 c87 c88 p0 k n) (some s)
def F49 (c66 : List ty97.den → Option (Bool)) (c85 : Int → Option (Int)) (c86 : Int → Option (Int)) (c87 : Int → Option ((List UInt8))) (c88 : List UInt8 → Int → Int → Option ((List UInt8))) (p0 : List ty97.den) : Option ((List UInt8)) := T49 Ops.std c66 c85 c86 c87 c88 p0 (R49 c66 c85 c86 c87 c88 p0 1000000) some none
theorem fo49 {R : Type} (c66 : List ty97.den → Option (Bool)) (c85 : Int → Option (Int)) (c86 : Int → Option (Int)) (c87 : Int → Option ((List UInt8))) (c88 : List UInt8 → Int → Int → Option ((List UInt8))) (p0 : List ty97.den) (k : AV → Objs → Option R) : afun tau Ops.std gl0 X49 (ent 66 (e66 c66) (ent 85 (e85 c85) (ent 86 (e86 c86) (ent 87 (e87 c87) (ent 88 (e88 c88) (gnil)))))) ow Try.f49 [.c (.list 97 ty97 p0)] [] k 1000000 = ob (F49 c66 c85 c86 c87 c88 p0) (fun y => k (.c (.str y)) []) := by rw [eq49]; exact nt49 Ops.std c66 c85 c86 c87 c88 p0 _ _ some (fun y => k (.c (.str y)) []) (rr49 c66 c85 c86 c87 c88 p0 k 1000000) none
def e49 {R : Type} (c : List ty97.den → Option ((List UInt8))) : Ent R := fun args objs k =>
  oCons args fun a0 l0 => oC a0 fun x0 => cList 97 ty97 x0 fun p0 => oNil l0 <| oNilO objs <| ob (c p0) fun y => k (.c (.str y)) []
abbrev Sp49 (c : List ty97.den → Option ((List UInt8))) : Prop := ∀ (p0 : List ty97.den) (y : (List UInt8)), c p0 = some y → Spec Try.prog gl0 49 [.c (.list 97 ty97 p0)] [] (.c (.str y)) []
theorem ek49 {R : Type} {c : List ty97.den → Option ((List UInt8))} (hs : Sp49 c) : EOk 49 (e49 (R := R) c) := fun args objs k r h => by
  unfold e49 at h
  obtain ⟨a0, l0, rfl, q1⟩ := oCons_some h
  obtain ⟨x0, rfl, q2⟩ := oC_some q1
  obtain ⟨p0, rfl, q3⟩ := cList_some q2
  obtain ⟨rfl, q4⟩ := oNil_some q3
  obtain ⟨rfl, q5⟩ := oNilO_some q4
  exact eok_of (hs p0) q5
theorem sf49 {c66 : List ty97.den → Option (Bool)} {c85 : Int → Option (Int)} {c86 : Int → Option (Int)} {c87 : Int → Option ((List UInt8))} {c88 : List UInt8 → Int → Int → Option ((List UInt8))} (h66 : Sp66 c66) (h85 : Sp85 c85) (h86 : Sp86 c86) (h87 : Sp87 c87) (h88 : Sp88 c88) : Sp49 (F49 c66 c85 c86 c87 c88) := fun p0 y hy => by
  refine spec_of (G := ent 66 (e66 c66) (ent 85 (e85 c85) (ent 86 (e86 c86) (ent 87 (e87 c87) (ent 88 (e88 c88) (gnil)))))) (ent_ok (ek66 h66) (ent_ok (ek85 h85) (ent_ok (ek86 h86) (ent_ok (ek87 h87) (ent_ok (ek88 h88) (gnil_ok)))))) 1000000 (fn := Try.f49) (by kernel_rfl) (by kernel_rfl) (X := X49) (by kernel_rfl) ?_
  rw [fo49, hy]
  rfl
noncomputable def M49 : List ty97.den → Option ((List UInt8)) := F49 M66 M85 M86 M87 M88
theorem sm49 : Sp49 M49 := sf49 sm66 sm85 sm86 sm87 sm88

/-! ### 50: lariat/lariatref13.within -/
def X50 : Aux := ⟨[], []⟩
def T50 {R : Type} (B : Ops) (p0 : List UInt8) (p1 : Int) (p2 : Int) (k : ((List UInt8)) → Option R) : Option R :=
  cond (Ops.lt B p1 p2)
   (
    cond (Ops.lim B (1 + List.length p0) (1))
     (
      cond (Ops.lim B (List.length (([40] : List UInt8) ++ p0) + 1) (1))
       (
        k (([40] : List UInt8) ++ p0 ++ ([41] : List UInt8)))
       (
        none))
     (
      none))
   (
    k p0)
theorem eq50 {R : Type} (B : Ops) (p0 : List UInt8) (p1 : Int) (p2 : Int) (k : AV → Objs → Option R) (n : Nat) : afun tau B gl0 X50 (gnil) ow Try.f50 [.agg [.str p0, .int .i64 p1], .c (.int .i64 p2)] [] k n = T50 B p0 p1 p2 (fun y => k (.c (.str y)) []) := by kernel_rfl
theorem nt50 {R R' : Type} (B : Ops) (p0 : List UInt8) (p1 : Int) (p2 : Int) (k0 : ((List UInt8)) → Option R') (k : R' → Option R) : T50 B p0 p1 p2 (fun y => ob (k0 y) k) = ob (T50 B p0 p1 p2 k0) k := by
  unfold T50
  repeat' first | exact rfl | apply nat_cond | (apply nat_ob; intro)
def F50 (p0 : List UInt8) (p1 : Int) (p2 : Int) : Option ((List UInt8)) := T50 Ops.std p0 p1 p2 some
theorem fo50 {R : Type} (p0 : List UInt8) (p1 : Int) (p2 : Int) (k : AV → Objs → Option R) (n : Nat) : afun tau Ops.std gl0 X50 (gnil) ow Try.f50 [.agg [.str p0, .int .i64 p1], .c (.int .i64 p2)] [] k n = ob (F50 p0 p1 p2) (fun y => k (.c (.str y)) []) := by rw [eq50]; exact nt50 Ops.std p0 p1 p2 some (fun y => k (.c (.str y)) [])
def e50 {R : Type} (c : List UInt8 → Int → Int → Option ((List UInt8))) : Ent R := fun args objs k =>
  oCons args fun a0 l0 => oAgg a0 fun x0 => cCons x0 fun z0_0 w0_0 => cStr z0_0 fun p0 => cCons w0_0 fun z0_1 w0_1 => cInt .i64 z0_1 fun p1 => cNil w0_1 <| oCons l0 fun a1 l1 => oC a1 fun x1 => cInt .i64 x1 fun p2 => oNil l1 <| oNilO objs <| ob (c p0 p1 p2) fun y => k (.c (.str y)) []
abbrev Sp50 (c : List UInt8 → Int → Int → Option ((List UInt8))) : Prop := ∀ (p0 : List UInt8) (p1 : Int) (p2 : Int) (y : (List UInt8)), c p0 p1 p2 = some y → Spec Try.prog gl0 50 [.agg [.str p0, .int .i64 p1], .c (.int .i64 p2)] [] (.c (.str y)) []
theorem ek50 {R : Type} {c : List UInt8 → Int → Int → Option ((List UInt8))} (hs : Sp50 c) : EOk 50 (e50 (R := R) c) := fun args objs k r h => by
  unfold e50 at h
  obtain ⟨a0, l0, rfl, q1⟩ := oCons_some h
  obtain ⟨x0, rfl, q2⟩ := oAgg_some q1
  obtain ⟨z0_0, w0_0, rfl, q3⟩ := cCons_some q2
  obtain ⟨p0, rfl, q4⟩ := cStr_some q3
  obtain ⟨z0_1, w0_1, rfl, q5⟩ := cCons_some q4
  obtain ⟨p1, rfl, q6⟩ := cInt_some q5
  obtain ⟨rfl, q7⟩ := cNil_some q6
  obtain ⟨a1, l1, rfl, q8⟩ := oCons_some q7
  obtain ⟨x1, rfl, q9⟩ := oC_some q8
  obtain ⟨p2, rfl, q10⟩ := cInt_some q9
  obtain ⟨rfl, q11⟩ := oNil_some q10
  obtain ⟨rfl, q12⟩ := oNilO_some q11
  exact eok_of (hs p0 p1 p2) q12
theorem sf50 : Sp50 (F50) := fun p0 p1 p2 y hy => by
  refine spec_of (G := gnil) (gnil_ok) 1000000 (fn := Try.f50) (by kernel_rfl) (by kernel_rfl) (X := X50) (by kernel_rfl) ?_
  rw [fo50, hy]
  rfl
noncomputable def M50 : List UInt8 → Int → Int → Option ((List UInt8)) := F50
theorem sm50 : Sp50 M50 := sf50

/-! ### 25: lariat/lariatref13.Print -/
def X25 : Aux := ⟨[(5, [1, 2, 5, 6, 7, 8, 9, 10, 11, 12, 13, 14, 15, 16, 17, 18, 19, 20, 21, 22, 23, 24, 25, 26, 27, 28, 29, 30, 31, 32, 33, 34, 35, 36, 37, 38, 39, 40, 41, 42, 43, 44, 45, 46, 47, 48, 49, 50, 51, 52, 53, 54, 55, 56, 57, 58, 59, 60, 61, 62, 63, 64, 65, 66, 67, 68, 69, 70, 71, 72, 73, 74, 75, 76, 77, 78, 79, 80, 81, 82, 83, 84, 85, 86, 87, 88, 89, 90, 91, 92, 93, 94, 95, 96, 97, 98, 99, 100, 101, 102, 103, 104, 105, 106, 107, 108, 109, 110, 111, 112, 113, 114, 115, 116, 117, 118, 119, 120, 121, 122, 123, 124, 125, 126, 127, 128, 129, 130, 131, 132, 133, 134])], [(27, .lin [0, 1, 2, 3, 4, 5, 6, 7, 8, 9, 10, 11]), (28, .lin [0, 1, 2, 3, 4, 5, 6, 7, 8, 9]), (18, .lin [0, 1, 2, 3, 4, 5, 7, 8, 10, 11, 12, 13, 14, 15, 6, 9, 16, 17, 18, 19]), (19, .lin [0, 1, 2, 3, 4, 5, 6, 7, 8, 9])]⟩
inductive S25 where
  | l0 (v0_1 : Int) (v0_2 : List ty89.den)
def T25 {R : Type} (B : Ops) (c38 : List ty36.den → Option (Bool)) (c47 : Int → Option (Int)) (c48 : Int → Option ((List UInt8))) (c39 : Int → Option (Int)) (c49 : List ty97.den → Option ((List UInt8))) (c50 : List UInt8 → Int → Int → Option ((List UInt8))) (p0 : List ty36.den) (again : S25 → Option R) (k : ((List UInt8)) → Option R) : Option S25 → Option R
  | none =>
    ob (c38 p0) fun y0 =>
    cond (!y0)
     (
      k (mt UInt8))
     (
      again (.l0 0 (mt (Ty.den (Ty.pair Ty.str (Ty.int IntKind.i64))))))
  | some (.l0 v0_1 v0_2) =>
    cond (Ops.lt B v0_1 (Nat.cast (List.length p0)))
     (
      cond (Ops.inb B v0_1 (List.length p0))
       (
        ob (c47 (Prod.fst (List.getD p0 (Int.toNat v0_1) (Ty.dflt ty36)))) fun y0 =>
        cond (Ops.inb B v0_1 (List.length p0))
         (
          ob (c48 (Prod.fst (List.getD p0 (Int.toNat v0_1) (Ty.dflt ty36)))) fun y1 =>
          cond (Ops.inb B v0_1 (List.length p0))
           (
            ob (c39 (Prod.fst (List.getD p0 (Int.toNat v0_1) (Ty.dflt ty36)))) fun y2 =>
            cond (Ops.eq B y2 (0))
             (
              cond (Ops.inb B v0_1 (List.length p0))
               (
                cond (Ops.eq B (Prod.fst (List.getD p0 (Int.toNat v0_1) (Ty.dflt ty36))) (3))
                 (
                  cond (Ops.inb B v0_1 (List.length p0))
                   (
                    ob (c49 (Prod.snd (List.getD p0 (Int.toNat v0_1) (Ty.dflt ty36)))) fun y3 =>
                    cond (Ops.lim B (1 + List.length y3) (1))
                     (
                      cond (Ops.lim B (List.length (([91] : List UInt8) ++ y3) + 1) (1))
                       (
                        cond (Ops.lim B (List.length v0_2 + List.length ((([91] : List UInt8) ++ y3 ++ ([93] : List UInt8), y0) :: mt (Ty.den (Ty.pair Ty.str (Ty.int IntKind.i64))))) (24))
                         (
                          again (.l0 (IntKind.wrap IntKind.i64 (v0_1 + 1)) (v0_2 ++ (([91] : List UInt8) ++ y3 ++ ([93] : List UInt8), y0) :: mt (Ty.den (Ty.pair Ty.str (Ty.int IntKind.i64))))))
                         (
                          none))
                       (
                        none))
                     (
                      none))
                   (
                    none))
                 (
                  cond (Ops.lim B (List.length v0_2 + List.length ((y1, y0) :: mt (Ty.den (Ty.pair Ty.str (Ty.int IntKind.i64))))) (24))
                   (
                    again (.l0 (IntKind.wrap IntKind.i64 (v0_1 + 1)) (v0_2 ++ (y1, y0) :: mt (Ty.den (Ty.pair Ty.str (Ty.int IntKind.i64))))))
                   (
                    none)))
               (
                none))
             (
              cond (Ops.eq B y2 (1))
               (
                cond (Ops.lt B (Nat.cast (List.length v0_2)) (1))
                 (
                  k (mt UInt8))
                 (
                  cond (Ops.inb B (IntKind.wrap IntKind.i64 (Nat.cast (List.length v0_2) - 1)) (List.length v0_2))
                   (
                    ob (c50 (Prod.fst (List.getD v0_2 (Int.toNat (IntKind.wrap IntKind.i64 (Nat.cast (List.length v0_2) - 1))) (Ty.dflt ty89))) (Prod.snd (List.getD v0_2 (Int.toNat (IntKind.wrap IntKind.i64 (Nat.cast (List.length v0_2) - 1))) (Ty.dflt ty89))) y0) fun y3 =>
                    cond (Ops.lim B (List.length y1 + List.length y3) (1))
                     (
                      cond (Ops.eq B (IntKind.wrap IntKind.i64 (Nat.cast (List.length v0_2) - 1)) (IntKind.wrap IntKind.i64 (Nat.cast (List.length v0_2) - 1)))
                       (
                        cond (Ops.inb B (IntKind.wrap IntKind.i64 (Nat.cast (List.length v0_2) - 1)) (List.length v0_2 + 1))
                         (
                          cond (Ops.lt B (0) (Nat.cast (List.length ((y1 ++ y3, y0) :: mt (Ty.den (Ty.pair Ty.str (Ty.int IntKind.i64)))))))
                           (
                            cond (Ops.lim B (List.length (List.take (Int.toNat (IntKind.wrap IntKind.i64 (Nat.cast (List.length v0_2) - 1))) v0_2) + List.length ((y1 ++ y3, y0) :: mt (Ty.den (Ty.pair Ty.str (Ty.int IntKind.i64))))) (24))
                             (
                              again (.l0 (IntKind.wrap IntKind.i64 (v0_1 + 1)) (List.take (Int.toNat (IntKind.wrap IntKind.i64 (Nat.cast (List.length v0_2) - 1))) v0_2 ++ (y1 ++ y3, y0) :: mt (Ty.den (Ty.pair Ty.str (Ty.int IntKind.i64))))))
                             (
                              none))
                           (
                            none))
                         (
                          none))
                       (
                        none))
                     (
                      none))
                   (
                    none)))
               (
                cond (Ops.lt B (Nat.cast (List.length v0_2)) (2))
                 (
                  k (mt UInt8))
                 (
                  cond (Ops.eq B y0 (1))
                   (
                    cond (Ops.inb B (IntKind.wrap IntKind.i64 (Nat.cast (List.length v0_2) - 2)) (List.length v0_2))
                     (
                      cond (Ops.inb B (IntKind.wrap IntKind.i64 (Nat.cast (List.length v0_2) - 1)) (List.length v0_2))
                       (
                        ob (c50 (Prod.fst (List.getD v0_2 (Int.toNat (IntKind.wrap IntKind.i64 (Nat.cast (List.length v0_2) - 2))) (Ty.dflt ty89))) (Prod.snd (List.getD v0_2 (Int.toNat (IntKind.wrap IntKind.i64 (Nat.cast (List.length v0_2) - 2))) (Ty.dflt ty89))) (IntKind.wrap IntKind.i64 (y0 + 1))) fun y3 =>
                        cond (Ops.lim B (List.length y3 + List.length y1) (1))
                         (
                          ob (c50 (Prod.fst (List.getD v0_2 (Int.toNat (IntKind.wrap IntKind.i64 (Nat.cast (List.length v0_2) - 1))) (Ty.dflt ty89))) (Prod.snd (List.getD v0_2 (Int.toNat (IntKind.wrap IntKind.i64 (Nat.cast (List.length v0_2) - 1))) (Ty.dflt ty89))) y0) fun y4 =>
                          cond (Ops.lim B (List.length (y3 ++ y1) + List.length y4) (1))
                           (
                            cond (Ops.eq B (IntKind.wrap IntKind.i64 (Nat.cast (List.length v0_2) - 2)) (IntKind.wrap IntKind.i64 (Nat.cast (List.length v0_2) - 2)))
                             (
                              cond (Ops.inb B (IntKind.wrap IntKind.i64 (Nat.cast (List.length v0_2) - 2)) (List.length v0_2 + 1))
                               (
                                cond (Ops.lt B (0) (Nat.cast (List.length ((y3 ++ y1 ++ y4, y0) :: mt (Ty.den (Ty.pair Ty.str (Ty.int IntKind.i64)))))))
                                 (
                                  cond (Ops.lim B (List.length (List.take (Int.toNat (IntKind.wrap IntKind.i64 (Nat.cast (List.length v0_2) - 2))) v0_2) + List.length ((y3 ++ y1 ++ y4, y0) :: mt (Ty.den (Ty.pair Ty.str (Ty.int IntKind.i64))))) (24))
                                   (
                                    again (.l0 (IntKind.wrap IntKind.i64 (v0_1 + 1)) (List.take (Int.toNat (IntKind.wrap IntKind.i64 (Nat.cast (List.length v0_2) - 2))) v0_2 ++ (y3 ++ y1 ++ y4, y0) :: mt (Ty.den (Ty.pair Ty.str (Ty.int IntKind.i64))))))
                                   (
                                    none))
                                 (
                                  none))
                               (
                                none))
                             (
                              none))
                           (
                            none))
                         (
                          none))
                       (
                        none))
                     (
                      none))
                   (
                    cond (Ops.eq B y0 (4))
                     (
                      cond (Ops.inb B (IntKind.wrap IntKind.i64 (Nat.cast (List.length v0_2) - 2)) (List.length v0_2))
                       (
                        cond (Ops.inb B (IntKind.wrap IntKind.i64 (Nat.cast (List.length v0_2) - 1)) (List.length v0_2))
                         (
                          ob (c50 (Prod.fst (List.getD v0_2 (Int.toNat (IntKind.wrap IntKind.i64 (Nat.cast (List.length v0_2) - 2))) (Ty.dflt ty89))) (Prod.snd (List.getD v0_2 (Int.toNat (IntKind.wrap IntKind.i64 (Nat.cast (List.length v0_2) - 2))) (Ty.dflt ty89))) (IntKind.wrap IntKind.i64 (y0 + 1))) fun y3 =>
                          cond (Ops.lim B (List.length y3 + List.length y1) (1))
                           (
                            ob (c50 (Prod.fst (List.getD v0_2 (Int.toNat (IntKind.wrap IntKind.i64 (Nat.cast (List.length v0_2) - 1))) (Ty.dflt ty89))) (Prod.snd (List.getD v0_2 (Int.toNat (IntKind.wrap IntKind.i64 (Nat.cast (List.length v0_2) - 1))) (Ty.dflt ty89))) y0) fun y4 =>
                            cond (Ops.lim B (List.length (y3 ++ y1) + List.length y4) (1))
                             (
                              cond (Ops.eq B (IntKind.wrap IntKind.i64 (Nat.cast (List.length v0_2) - 2)) (IntKind.wrap IntKind.i64 (Nat.cast (List.length v0_2) - 2)))
                               (
                                cond (Ops.inb B (IntKind.wrap IntKind.i64 (Nat.cast (List.length v0_2) - 2)) (List.length v0_2 + 1))
                                 (
                                  cond (Ops.lt B (0) (Nat.cast (List.length ((y3 ++ y1 ++ y4, y0) :: mt (Ty.den (Ty.pair Ty.str (Ty.int IntKind.i64)))))))
                                   (
                                    cond (Ops.lim B (List.length (List.take (Int.toNat (IntKind.wrap IntKind.i64 (Nat.cast (List.length v0_2) - 2))) v0_2) + List.length ((y3 ++ y1 ++ y4, y0) :: mt (Ty.den (Ty.pair Ty.str (Ty.int IntKind.i64))))) (24))
                                     (
                                      again (.l0 (IntKind.wrap IntKind.i64 (v0_1 + 1)) (List.take (Int.toNat (IntKind.wrap IntKind.i64 (Nat.cast (List.length v0_2) - 2))) v0_2 ++ (y3 ++ y1 ++ y4, y0) :: mt (Ty.den (Ty.pair Ty.str (Ty.int IntKind.i64))))))
                                     (
                                      none))
                                   (
                                    none))
                                 (
                                  none))
                               (
                                none))
                             (
                              none))
                           (
                            none))
                         (
                          none))
                       (
                        none))
                     (
                      cond (Ops.inb B (IntKind.wrap IntKind.i64 (Nat.cast (List.length v0_2) - 2)) (List.length v0_2))
                       (
                        cond (Ops.inb B (IntKind.wrap IntKind.i64 (Nat.cast (List.length v0_2) - 1)) (List.length v0_2))
                         (
                          ob (c50 (Prod.fst (List.getD v0_2 (Int.toNat (IntKind.wrap IntKind.i64 (Nat.cast (List.length v0_2) - 2))) (Ty.dflt ty89))) (Prod.snd (List.getD v0_2 (Int.toNat (IntKind.wrap IntKind.i64 (Nat.cast (List.length v0_2) - 2))) (Ty.dflt ty89))) y0) fun y3 =>
                          cond (Ops.lim B (List.length y3 + List.length y1) (1))
                           (
                            ob (c50 (Prod.fst (List.getD v0_2 (Int.toNat (IntKind.wrap IntKind.i64 (Nat.cast (List.length v0_2) - 1))) (Ty.dflt ty89))) (Prod.snd (List.getD v0_2 (Int.toNat (IntKind.wrap IntKind.i64 (Nat.cast (List.length v0_2) - 1))) (Ty.dflt ty89))) (IntKind.wrap IntKind.i64 (y0 + 1))) fun y4 =>
                            cond (Ops.lim B (List.length (y3 ++ y1) + List.length y4) (1))
                             (
                              cond (Ops.eq B (IntKind.wrap IntKind.i64 (Nat.cast (List.length v0_2) - 2)) (IntKind.wrap IntKind.i64 (Nat.cast (List.length v0_2) - 2)))
                               (
                                cond (Ops.inb B (IntKind.wrap IntKind.i64 (Nat.cast (List.length v0_2) - 2)) (List.length v0_2 + 1))
                                 (
                                  cond (Ops.lt B (0) (Nat.cast (List.length ((y3 ++ y1 ++ y4, y0) :: mt (Ty.den (Ty.pair Ty.str (Ty.int IntKind.i64)))))))
                                   (
                                    cond (Ops.lim B (List.length (List.take (Int.toNat (IntKind.wrap IntKind.i64 (Nat.cast (List.length v0_2) - 2))) v0_2) + List.length ((y3 ++ y1 ++ y4, y0) :: mt (Ty.den (Ty.pair Ty.str (Ty.int IntKind.i64))))) (24))
                                     (
                                      again (.l0 (IntKind.wrap IntKind.i64 (v0_1 + 1)) (List.take (Int.toNat (IntKind.wrap IntKind.i64 (Nat.cast (List.length v0_2) - 2))) v0_2 ++ (y3 ++ y1 ++ y4, y0) :: mt (Ty.den (Ty.pair Ty.str (Ty.int IntKind.i64))))))
                                     (
                                      none))
                                   (
                                    none))
                                 (
                                  none))
                               (
                                none))
                             (
                              none))
                           (
                            none))
                         (
                          none))
                       (
                        none)))))))
           (
            none))
         (
          none))
       (
        none))
     (
      cond (Ops.eq B (Nat.cast (List.length v0_2)) (0))
       (
        k (mt UInt8))
       (
        cond (Ops.inb B (0) (List.length v0_2))
         (
          k (Prod.fst (List.getD v0_2 (Int.toNat (0)) (Ty.dflt ty89))))
         (
          none)))
def E25 (p0 : List ty36.den) : S25 → List AV × Objs
  | .l0 v0_1 v0_2 => (mk 135 [(0, .c (.list 36 ty36 p0)), (3, .c (.own 3)), (4, .c (.int .i64 v0_1))], [(3, .row 89 ty89 v0_2)])
def I25 : S25 → Nat
  | .l0 _ _ => 0
theorem eq25 {R : Type} (B : Ops) (c38 : List ty36.den → Option (Bool)) (c47 : Int → Option (Int)) (c48 : Int → Option ((List UInt8))) (c39 : Int → Option (Int)) (c49 : List ty97.den → Option ((List UInt8))) (c50 : List UInt8 → Int → Int → Option ((List UInt8))) (p0 : List ty36.den) (k : AV → Objs → Option R) (n : Nat) : afun tau B gl0 X25 (ent 38 (e38 c38) (ent 47 (e47 c47) (ent 48 (e48 c48) (ent 39 (e39 c39) (ent 49 (e49 c49) (ent 50 (e50 c50) (gnil))))))) ow Try.f25 [.c (.list 36 ty36 p0)] [] k n = T25 B c38 c47 c48 c39 c49 c50 p0 (fun s => aloop tau B gl0 X25 (ent 38 (e38 c38) (ent 47 (e47 c47) (ent 48 (e48 c48) (ent 39 (e39 c39) (ent 49 (e49 c49) (ent 50 (e50 c50) (gnil))))))) ow [] Try.f25 k (I25 s) (E25 p0 s) n) (fun y => k (.c (.str y)) []) none := by kernel_rfl
theorem el25 {R : Type} (B : Ops) (c38 : List ty36.den → Option (Bool)) (c47 : Int → Option (Int)) (c48 : Int → Option ((List UInt8))) (c39 : Int → Option (Int)) (c49 : List ty97.den → Option ((List UInt8))) (c50 : List UInt8 → Int → Int → Option ((List UInt8))) (p0 : List ty36.den) (k : AV → Objs → Option R) (n : Nat) : ∀ s, aloop tau B gl0 X25 (ent 38 (e38 c38) (ent 47 (e47 c47) (ent 48 (e48 c48) (ent 39 (e39 c39) (ent 49 (e49 c49) (ent 50 (e50 c50) (gnil))))))) ow [] Try.f25 k (I25 s) (E25 p0 s) (n + 1) = T25 B c38 c47 c48 c39 c49 c50 p0 (fun s => aloop tau B gl0 X25 (ent 38 (e38 c38) (ent 47 (e47 c47) (ent 48 (e48 c48) (ent 39 (e39 c39) (ent 49 (e49 c49) (ent 50 (e50 c50) (gnil))))))) ow [] Try.f25 k (I25 s) (E25 p0 s) n) (fun y => k (.c (.str y)) []) (some s)
  | .l0 v0_1 v0_2 => by kernel_rfl
theorem nt25 {R R' : Type} (B : Ops) (c38 : List ty36.den → Option (Bool)) (c47 : Int → Option (Int)) (c48 : Int → Option ((List UInt8))) (c39 : Int → Option (Int)) (c49 : List ty97.den → Option ((List UInt8))) (c50 : List UInt8 → Int → Int → Option ((List UInt8))) (p0 : List ty36.den) (again : S25 → Option R) (again' : S25 → Option R') (k0 : ((List UInt8)) → Option R') (k : R' → Option R) (h : ∀ s, again s = ob (again' s) k) : ∀ s, T25 B c38 c47 c48 c39 c49 c50 p0 again (fun y => ob (k0 y) k) s = ob (T25 B c38 c47 c48 c39 c49 c50 p0 again' k0 s) k
  | none => by unfold T25; repeat' first | exact rfl | exact h _ | apply nat_cond | (apply nat_ob; intro)
  | some (.l0 v0_1 v0_2) => by unfold T25; repeat' first | exact rfl | exact h _ | apply nat_cond | (apply nat_ob; intro)
def R25 (c38 : List ty36.den → Option (Bool)) (c47 : Int → Option (Int)) (c48 : Int → Option ((List UInt8))) (c39 : Int → Option (Int)) (c49 : List ty97.den → Option ((List UInt8))) (c50 : List UInt8 → Int → Int → Option ((List UInt8))) (p0 : List ty36.den) : Nat → S25 → Option ((List UInt8))
  | 0, _ => none
  | n + 1, s => T25 Ops.std c38 c47 c48 c39 c49 c50 p0 (R25 c38 c47 c48 c39 c49 c50 p0 n) some (some s)
theorem rr25 {R : Type} (c38 : List ty36.den → Option (Bool)) (c47 : Int → Option (Int)) (c48 : Int → Option ((List UInt8))) (c39 : Int → Option (Int)) (c49 : List ty97.den → Option ((List UInt8))) (c50 : List UInt8 → Int → Int → Option ((List UInt8))) (p0 : List ty36.den) (k : AV → Objs → Option R) : ∀ (n : Nat) (s : S25), aloop tau Ops.std gl0 X25 (ent 38 (e38 c38) (ent 47 (e47 c47) (ent 48 (e48 c48) (ent 39 (e39 c39) (ent 49 (e49 c49) (ent 50 (e50 c50) (gnil))))))) ow [] Try.f25 k (I25 s) (E25 p0 s) n = ob (R25 c38 c47 c48 c39 c49 c50 p0 n s) (fun y => k (.c (.str y)) [])
  | 0, s => by cases s <;> rfl
  | n + 1, s => by rw [el25]; exact nt25 Ops.std c38 c47 c48 c39 c49 c50 p0 _ _ some (fun y => k (.c (.str y)) []) (rr25 c38 c47 c48 c39 c49 c50 p0 k n) (some s)
def F25 (c38 : List ty36.den → Option (Bool)) (c47 : Int → Option (Int)) (c48 : Int → Option ((List UInt8))) (c39 : Int → Option (Int)) (c49 : List ty97.den → Option ((List UInt8))) (c50 : List UInt8 → Int → Int → Option ((List UInt8))) (p0 : List ty36.den) : Option ((List UInt8)) := T25 Ops.std c38 c47 c48 c39 c49 c50 p0 (R25 c38 c47 c48 c39 c49 c50 p0 1000000) some none
theorem fo25 {R : Type} (c38 : List ty36.den → Option (Bool)) (c47 : Int → Option (Int)) (c48 : Int → Option ((List UInt8))) (c39 : Int → Option (Int)) (c49 : List ty97.den → Option ((List UInt8))) (c50 : List UInt8 → Int → Int → Option ((List UInt8))) (p0 : List ty36.den) (k : AV → Objs → Option R) : afun tau Ops.std gl0 X25 (ent 38 (e38 c38) (ent 47 (e47 c47) (ent 48 (e48 c48) (ent 39 (e39 c39) (ent 49 (e49 c49) (ent 50 (e50 c50) (gnil))))))) ow Try.f25 [.c (.list 36 ty36 p0)] [] k 1000000 = ob (F25 c38 c47 c48 c39 c49 c50 p0) (fun y => k (.c (.str y)) []) := by rw [eq25]; exact nt25 Ops.std c38 c47 c48 c39 c49 c50 p0 _ _ some (fun y => k (.c (.str y)) []) (rr25 c38 c47 c48 c39 c49 c50 p0 k 1000000) none
def e25 {R : Type} (c : List ty36.den → Option ((List UInt8))) : Ent R := fun args objs k =>
  oCons args fun a0 l0 => oC a0 fun x0 => cList 36 ty36 x0 fun p0 => oNil l0 <| oNilO objs <| ob (c p0) fun y => k (.c (.str y)) []
abbrev Sp25 (c : List ty36.den → Option ((List UInt8))) : Prop := ∀ (p0 : List ty36.den) (y : (List UInt8)), c p0 = some y → Spec Try.prog gl0 25 [.c (.list 36 ty36 p0)] [] (.c (.str y)) []
theorem ek25 {R : Type} {c : List ty36.den → Option ((List UInt8))} (hs : Sp25 c) : EOk 25 (e25 (R := R) c) := fun args objs k r h => by
  unfold e25 at h
  obtain ⟨a0, l0, rfl, q1⟩ := oCons_some h
  obtain ⟨x0, rfl, q2⟩ := oC_some q1
  obtain ⟨p0, rfl, q3⟩ := cList_some q2
  obtain ⟨rfl, q4⟩ := oNil_some q3
  obtain ⟨rfl, q5⟩ := oNilO_some q4
  exact eok_of (hs p0) q5
theorem sf25 {c38 : List ty36.den → Option (Bool)} {c47 : Int → Option (Int)} {c48 : Int → Option ((List UInt8))} {c39 : Int → Option (Int)} {c49 : List ty97.den → Option ((List UInt8))} {c50 : List UInt8 → Int → Int → Option ((List UInt8))} (h38 : Sp38 c38) (h47 : Sp47 c47) (h48 : Sp48 c48) (h39 : Sp39 c39) (h49 : Sp49 c49) (h50 : Sp50 c50) : Sp25 (F25 c38 c47 c48 c39 c49 c50) := fun p0 y hy => by
  refine spec_of (G := ent 38 (e38 c38) (ent 47 (e47 c47) (ent 48 (e48 c48) (ent 39 (e39 c39) (ent 49 (e49 c49) (ent 50 (e50 c50) (gnil))))))) (ent_ok (ek38 h38) (ent_ok (ek47 h47) (ent_ok (ek48 h48) (ent_ok (ek39 h39) (ent_ok (ek49 h49) (ent_ok (ek50 h50) (gnil_ok))))))) 1000000 (fn := Try.f25) (by kernel_rfl) (by kernel_rfl) (X := X25) (by kernel_rfl) ?_
  rw [fo25, hy]
  rfl
noncomputable def M25 : List ty36.den → Option ((List UInt8)) := F25 M38 M47 M48 M39 M49 M50
theorem sm25 : Sp25 M25 := sf25 sm38 sm47 sm48 sm39 sm49 sm50
def e93 {R : Type} (c : Int → Option ((List ty36.den))) : Ent R := fun args objs k =>
  oCons args fun a0 l0 => oC a0 fun x0 => cNl x0 <| oCons l0 fun a1 l1 => oC a1 fun x1 => cInt .i64 x1 fun p0 => oNil l1 <| oNilO objs <| ob (c p0) fun y => k (.c (.own 500)) [(500, .row 36 ty36 y)]
abbrev Sp93 (c : Int → Option ((List ty36.den))) : Prop := ∀ (p0 : Int) (y : (List ty36.den)), c p0 = some y → Spec Try.prog gl0 93 [.c .nil, .c (.int .i64 p0)] [] (.c (.own 500)) [(500, .row 36 ty36 y)]
theorem ek93 {R : Type} {c : Int → Option ((List ty36.den))} (hs : Sp93 c) : EOk 93 (e93 (R := R) c) := fun args objs k r h => by
  unfold e93 at h
  obtain ⟨a0, l0, rfl, q1⟩ := oCons_some h
  obtain ⟨x0, rfl, q2⟩ := oC_some q1
  obtain ⟨rfl, q3⟩ := cNl_some q2
  obtain ⟨a1, l1, rfl, q4⟩ := oCons_some q3
  obtain ⟨x1, rfl, q5⟩ := oC_some q4
  obtain ⟨p0, rfl, q6⟩ := cInt_some q5
  obtain ⟨rfl, q7⟩ := oNil_some q6
  obtain ⟨rfl, q8⟩ := oNilO_some q7
  exact eok_of (hs p0) q8
def M93 : Int → Option ((List ty36.den)) := growF93
theorem sm93 : Sp93 M93 := fun p0 y hy => grow_sp93 p0 y hy

/-! ### 56: slices.Concat[[]lariat/api.Part,lariat/api.Part] -/
def X56 : Aux := ⟨[(3, [1, 2, 4, 5, 6, 7, 8, 12, 13, 14, 15, 16, 17, 18, 19, 20, 21, 22, 23, 24, 25, 26, 27, 28, 29, 30, 31, 32, 33, 34, 35]), (11, [0, 1, 2, 3, 4, 5, 7, 8, 9, 10, 11, 12, 13, 14, 15, 16, 17, 18, 19, 20, 21, 22, 23, 24, 28, 29, 30, 31, 32, 33, 34, 35])], []⟩
inductive S56 where
  | l0 (v0_1 : Int) (v0_3 : Int) (v0_4 : Int)
  | l1 (v1_1 : Int) (v1_2 : Int) (v1_3 : List ty36.den)
def T56 {R : Type} (B : Ops) (c93 : Int → Option ((List ty36.den))) (p0 : List ty24.den) (again : S56 → Option R) (k : ((List ty36.den)) → Option R) : Option S56 → Option R
  | none =>
    again (.l0 0 (Nat.cast (List.length p0)) 0)
  | some (.l0 v0_1 v0_3 v0_4) =>
    cond (Ops.lt B v0_4 v0_3)
     (
      cond (Ops.inb B v0_4 (List.length p0))
       (
        cond (Ops.lt B (IntKind.wrap IntKind.i64 (v0_1 + Nat.cast (List.length (List.getD p0 (Int.toNat v0_4) (Ty.dflt ty24))))) (0))
         (
          none)
         (
          again (.l0 (IntKind.wrap IntKind.i64 (v0_1 + Nat.cast (List.length (List.getD p0 (Int.toNat v0_4) (Ty.dflt ty24))))) v0_3 (IntKind.wrap IntKind.i64 (v0_4 + 1)))))
       (
        none))
     (
      ob (c93 v0_1) fun y0 =>
      again (.l1 (Nat.cast (List.length p0)) 0 y0))
  | some (.l1 v1_1 v1_2 v1_3) =>
    cond (Ops.lt B v1_2 v1_1)
     (
      cond (Ops.inb B v1_2 (List.length p0))
       (
        cond (Ops.lim B (List.length v1_3 + List.length (List.getD p0 (Int.toNat v1_2) (Ty.dflt ty24))) (32))
         (
          again (.l1 v1_1 (IntKind.wrap IntKind.i64 (v1_2 + 1)) (v1_3 ++ List.getD p0 (Int.toNat v1_2) (Ty.dflt ty24))))
         (
          none))
       (
        none))
     (
      k v1_3)
def E56 (p0 : List ty24.den) : S56 → List AV × Objs
  | .l0 v0_1 v0_3 v0_4 => (mk 36 [(0, .c (.list 24 ty24 p0)), (3, .c (.int .i64 v0_1)), (9, .c (.list 24 ty24 p0)), (10, .c (.int .i64 v0_3)), (11, .c (.int .i64 v0_4))], [])
  | .l1 v1_1 v1_2 v1_3 => (mk 36 [(6, .c (.own 6)), (25, .c (.list 24 ty24 p0)), (26, .c (.int .i64 v1_1)), (27, .c (.int .i64 v1_2))], [(6, .row 36 ty36 v1_3)])
def I56 : S56 → Nat
  | .l0 _ _ _ => 0
  | .l1 _ _ _ => 1
theorem eq56 {R : Type} (B : Ops) (c93 : Int → Option ((List ty36.den))) (p0 : List ty24.den) (k : AV → Objs → Option R) (n : Nat) : afun tau B gl0 X56 (ent 93 (e93 c93) (gnil)) ow Try.f56 [.c (.list 24 ty24 p0)] [] k n = T56 B c93 p0 (fun s => aloop tau B gl0 X56 (ent 93 (e93 c93) (gnil)) ow [] Try.f56 k (I56 s) (E56 p0 s) n) (fun y => k (.c (.own 500)) [(500, .row 36 ty36 y)]) none := by kernel_rfl
theorem el56 {R : Type} (B : Ops) (c93 : Int → Option ((List ty36.den))) (p0 : List ty24.den) (k : AV → Objs → Option R) (n : Nat) : ∀ s, aloop tau B gl0 X56 (ent 93 (e93 c93) (gnil)) ow [] Try.f56 k (I56 s) (E56 p0 s) (n + 1) = T56 B c93 p0 (fun s => aloop tau B gl0 X56 (ent 93 (e93 c93) (gnil)) ow [] Try.f56 k (I56 s) (E56 p0 s) n) (fun y => k (.c (.own 500)) [(500, .row 36 ty36 y)]) (some s)
  | .l0 v0_1 v0_3 v0_4 => by kernel_rfl
  | .l1 v1_1 v1_2 v1_3 => by kernel_rfl
theorem nt56 {R R' : Type} (B : Ops) (c93 : Int → Option ((List ty36.den))) (p0 : List ty24.den) (again : S56 → Option R) (again' : S56 → Option R') (k0 : ((List ty36.den)) → Option R') (k : R' → Option R) (h : ∀ s, again s = ob (again' s) k) : ∀ s, T56 B c93 p0 again (fun y => ob (k0 y) k) s = ob (T56 B c93 p0 again' k0 s) k
  | none => by unfold T56; repeat' first | exact rfl | exact h _ | apply nat_cond | (apply nat_ob; intro)
  | some (.l0 v0_1 v0_3 v0_4) => by unfold T56; repeat' first | exact rfl | exact h _ | apply nat_cond | (apply nat_ob; intro)
  | some (.l1 v1_1 v1_2 v1_3) => by unfold T56; repeat' first | exact rfl | exact h _ | apply nat_cond | (apply nat_ob; intro)
def R56 (c93 : Int → Option ((List ty36.den))) (p0 : List ty24.den) : Nat → S56 → Option ((List ty36.den))
  | 0, _ => none
  | n + 1, s => T56 Ops.std c93 p0 (R56 c93 p0 n) some (some s)
theorem rr56 {R : Type} (c93 : Int → Option ((List ty36.den))) (p0 : List ty24.den) (k : AV → Objs → Option R) : ∀ (n : Nat) (s : S56), aloop tau Ops.std gl0 X56 (ent 93 (e93 c93) (gnil)) ow [] Try.f56 k (I56 s) (E56 p0 s) n = ob (R56 c93 p0 n s) (fun y => k (.c (.own 500)) [(500, .row 36 ty36 y)])
  | 0, s => by cases s <;> rfl
  | n + 1, s => by rw [el56]; exact nt56 Ops.std c93 p0 _ _ some (fun y => k (.c (.own 500)) [(500, .row 36 ty36 y)]) (rr56 c93 p0 k n) (some s)
def F56 (c93 : Int → Option ((List ty36.den))) (p0 : List ty24.den) : Option ((List ty36.den)) := T56 Ops.std c93 p0 (R56 c93 p0 1000000) some none
theorem fo56 {R : Type} (c93 : Int → Option ((List ty36.den))) (p0 : List ty24.den) (k : AV → Objs → Option R) : afun tau Ops.std gl0 X56 (ent 93 (e93 c93) (gnil)) ow Try.f56 [.c (.list 24 ty24 p0)] [] k 1000000 = ob (F56 c93 p0) (fun y => k (.c (.own 500)) [(500, .row 36 ty36 y)]) := by rw [eq56]; exact nt56 Ops.std c93 p0 _ _ some (fun y => k (.c (.own 500)) [(500, .row 36 ty36 y)]) (rr56 c93 p0 k 1000000) none
def e56 {R : Type} (c : List ty24.den → Option ((List ty36.den))) : Ent R := fun args objs k =>
  oCons args fun a0 l0 => oC a0 fun x0 => cList 24 ty24 x0 fun p0 => oNil l0 <| oNilO objs <| ob (c p0) fun y => k (.c (.own 500)) [(500, .row 36 ty36 y)]
abbrev Sp56 (c : List ty24.den → Option ((List ty36.den))) : Prop := ∀ (p0 : List ty24.den) (y : (List ty36.den)), c p0 = some y → Spec Try.prog gl0 56 [.c (.list 24 ty24 p0)] [] (.c (.own 500)) [(500, .row 36 ty36 y)]
theorem ek56 {R : Type} {c : List ty24.den → Option ((List ty36.den))} (hs : Sp56 c) : EOk 56 (e56 (R := R) c) := fun args objs k r h => by
  unfold e56 at h
  obtain ⟨a0, l0, rfl, q1⟩ := oCons_some h
  obtain ⟨x0, rfl, q2⟩ := oC_some q1
  obtain ⟨p0, rfl, q3⟩ := cList_some q2
  obtain ⟨rfl, q4⟩ := oNil_some q3
  obtain ⟨rfl, q5⟩ := oNilO_some q4
  exact eok_of (hs p0) q5
theorem sf56 {c93 : Int → Option ((List ty36.den))} (h93 : Sp93 c93) : Sp56 (F56 c93) := fun p0 y hy => by
  refine spec_of (G := ent 93 (e93 c93) (gnil)) (ent_ok (ek93 h93) (gnil_ok)) 1000000 (fn := Try.f56) (by kernel_rfl) (by kernel_rfl) (X := X56) (by kernel_rfl) ?_
  rw [fo56, hy]
  rfl
noncomputable def M56 : List ty24.den → Option ((List ty36.den)) := F56 M93
theorem sm56 : Sp56 M56 := sf56 sm93

/-! ### 31: lariat/rewrite.whole -/
def X31 : Aux := ⟨[], []⟩
def T31 {R : Type} (B : Ops) (c56 : List ty24.den → Option ((List ty36.den))) (p0 : Int) (p1 : List ty24.den) (k : ((List ty36.den)) → Option R) : Option R :=
  ob (c56 p1) fun y0 =>
  cond (Ops.lim B (List.length y0 + List.length ((p0, mt (Ty.den (Ty.pair (Ty.int IntKind.i64) (Ty.pair (Ty.int IntKind.i64) (Ty.pair Ty.str Ty.str))))) :: mt (Ty.den (Ty.pair (Ty.int IntKind.i64) (Ty.list (97) (Ty.pair (Ty.int IntKind.i64) (Ty.pair (Ty.int IntKind.i64) (Ty.pair Ty.str Ty.str)))))))) (32))
   (
    k (y0 ++ (p0, mt (Ty.den (Ty.pair (Ty.int IntKind.i64) (Ty.pair (Ty.int IntKind.i64) (Ty.pair Ty.str Ty.str))))) :: mt (Ty.den (Ty.pair (Ty.int IntKind.i64) (Ty.list (97) (Ty.pair (Ty.int IntKind.i64) (Ty.pair (Ty.int IntKind.i64) (Ty.pair Ty.str Ty.str))))))))
   (
    none)
theorem eq31 {R : Type} (B : Ops) (c56 : List ty24.den → Option ((List ty36.den))) (p0 : Int) (p1 : List ty24.den) (k : AV → Objs → Option R) (n : Nat) : afun tau B gl0 X31 (ent 56 (e56 c56) (gnil)) ow Try.f31 [.c (.int .i64 p0), .c (.list 24 ty24 p1)] [] k n = T31 B c56 p0 p1 (fun y => k (.c (.own 500)) [(500, .row 36 ty36 y)]) := by kernel_rfl
theorem nt31 {R R' : Type} (B : Ops) (c56 : List ty24.den → Option ((List ty36.den))) (p0 : Int) (p1 : List ty24.den) (k0 : ((List ty36.den)) → Option R') (k : R' → Option R) : T31 B c56 p0 p1 (fun y => ob (k0 y) k) = ob (T31 B c56 p0 p1 k0) k := by
  unfold T31
  repeat' first | exact rfl | apply nat_cond | (apply nat_ob; intro)
def F31 (c56 : List ty24.den → Option ((List ty36.den))) (p0 : Int) (p1 : List ty24.den) : Option ((List ty36.den)) := T31 Ops.std c56 p0 p1 some
theorem fo31 {R : Type} (c56 : List ty24.den → Option ((List ty36.den))) (p0 : Int) (p1 : List ty24.den) (k : AV → Objs → Option R) (n : Nat) : afun tau Ops.std gl0 X31 (ent 56 (e56 c56) (gnil)) ow Try.f31 [.c (.int .i64 p0), .c (.list 24 ty24 p1)] [] k n = ob (F31 c56 p0 p1) (fun y => k (.c (.own 500)) [(500, .row 36 ty36 y)]) := by rw [eq31]; exact nt31 Ops.std c56 p0 p1 some (fun y => k (.c (.own 500)) [(500, .row 36 ty36 y)])
def e31 {R : Type} (c : Int → List ty24.den → Option ((List ty36.den))) : Ent R := fun args objs k =>
  oCons args fun a0 l0 => oC a0 fun x0 => cInt .i64 x0 fun p0 => oCons l0 fun a1 l1 => oC a1 fun x1 => cList 24 ty24 x1 fun p1 => oNil l1 <| oNilO objs <| ob (c p0 p1) fun y => k (.c (.own 500)) [(500, .row 36 ty36 y)]
abbrev Sp31 (c : Int → List ty24.den → Option ((List ty36.den))) : Prop := ∀ (p0 : Int) (p1 : List ty24.den) (y : (List ty36.den)), c p0 p1 = some y → Spec Try.prog gl0 31 [.c (.int .i64 p0), .c (.list 24 ty24 p1)] [] (.c (.own 500)) [(500, .row 36 ty36 y)]
theorem ek31 {R : Type} {c : Int → List ty24.den → Option ((List ty36.den))} (hs : Sp31 c) : EOk 31 (e31 (R := R) c) := fun args objs k r h => by
  unfold e31 at h
  obtain ⟨a0, l0, rfl, q1⟩ := oCons_some h
  obtain ⟨x0, rfl, q2⟩ := oC_some q1
  obtain ⟨p0, rfl, q3⟩ := cInt_some q2
  obtain ⟨a1, l1, rfl, q4⟩ := oCons_some q3
  obtain ⟨x1, rfl, q5⟩ := oC_some q4
  obtain ⟨p1, rfl, q6⟩ := cList_some q5
  obtain ⟨rfl, q7⟩ := oNil_some q6
  obtain ⟨rfl, q8⟩ := oNilO_some q7
  exact eok_of (hs p0 p1) q8
theorem sf31 {c56 : List ty24.den → Option ((List ty36.den))} (h56 : Sp56 c56) : Sp31 (F31 c56) := fun p0 p1 y hy => by
  refine spec_of (G := ent 56 (e56 c56) (gnil)) (ent_ok (ek56 h56) (gnil_ok)) 1000000 (fn := Try.f31) (by kernel_rfl) (by kernel_rfl) (X := X31) (by kernel_rfl) ?_
  rw [fo31, hy]
  rfl
noncomputable def M31 : Int → List ty24.den → Option ((List ty36.den)) := F31 M56
theorem sm31 : Sp31 M31 := sf31 sm56

/-! ### 28: lariat/rewrite.joined -/
def X28 : Aux := ⟨[(2000000, [])], []⟩
def T28 {R : Type} (B : Ops) (c30 : List ty36.den → Int → Option (Bool)) (c54 : List ty36.den → List ty36.den → Option (Bool)) (c31 : Int → List ty24.den → Option ((List ty36.den))) (p0 : Int) (p1 : List ty36.den) (p2 : List ty36.den) (k : ((List ty36.den)) → Option R) : Option R :=
  cond (Ops.eq B p0 (6))
   (
    ob (c30 p1 (2)) fun y0 =>
    cond (y0)
     (
      k p2)
     (
      ob (c30 p2 (2)) fun y1 =>
      cond (y1)
       (
        k p1)
       (
        ob (c30 p1 (1)) fun y2 =>
        cond (y2)
         (
          k ((1, mt (Ty.den (Ty.pair (Ty.int IntKind.i64) (Ty.pair (Ty.int IntKind.i64) (Ty.pair Ty.str Ty.str))))) :: mt (Ty.den (Ty.pair (Ty.int IntKind.i64) (Ty.list (97) (Ty.pair (Ty.int IntKind.i64) (Ty.pair (Ty.int IntKind.i64) (Ty.pair Ty.str Ty.str))))))))
         (
          ob (c30 p2 (1)) fun y3 =>
          cond (y3)
           (
            k ((1, mt (Ty.den (Ty.pair (Ty.int IntKind.i64) (Ty.pair (Ty.int IntKind.i64) (Ty.pair Ty.str Ty.str))))) :: mt (Ty.den (Ty.pair (Ty.int IntKind.i64) (Ty.list (97) (Ty.pair (Ty.int IntKind.i64) (Ty.pair (Ty.int IntKind.i64) (Ty.pair Ty.str Ty.str))))))))
           (
            ob (c54 p1 p2) fun y4 =>
            cond (y4)
             (
              k p1)
             (
              ob (c31 p0 (p1 :: p2 :: mt (Ty.den (Ty.list (36) (Ty.pair (Ty.int IntKind.i64) (Ty.list (97) (Ty.pair (Ty.int IntKind.i64) (Ty.pair (Ty.int IntKind.i64) (Ty.pair Ty.str Ty.str))))))))) fun y5 =>
              k y5))))))
   (
    ob (c30 p1 (1)) fun y0 =>
    cond (y0)
     (
      k p2)
     (
      ob (c30 p2 (1)) fun y1 =>
      cond (y1)
       (
        k p1)
       (
        ob (c30 p1 (2)) fun y2 =>
        cond (y2)
         (
          k ((2, mt (Ty.den (Ty.pair (Ty.int IntKind.i64) (Ty.pair (Ty.int IntKind.i64) (Ty.pair Ty.str Ty.str))))) :: mt (Ty.den (Ty.pair (Ty.int IntKind.i64) (Ty.list (97) (Ty.pair (Ty.int IntKind.i64) (Ty.pair (Ty.int IntKind.i64) (Ty.pair Ty.str Ty.str))))))))
         (
          ob (c30 p2 (2)) fun y3 =>
          cond (y3)
           (
            k ((2, mt (Ty.den (Ty.pair (Ty.int IntKind.i64) (Ty.pair (Ty.int IntKind.i64) (Ty.pair Ty.str Ty.str))))) :: mt (Ty.den (Ty.pair (Ty.int IntKind.i64) (Ty.list (97) (Ty.pair (Ty.int IntKind.i64) (Ty.pair (Ty.int IntKind.i64) (Ty.pair Ty.str Ty.str))))))))
           (
            ob (c54 p1 p2) fun y4 =>
            cond (y4)
             (
              k p1)
             (
              ob (c31 p0 (p1 :: p2 :: mt (Ty.den (Ty.list (36) (Ty.pair (Ty.int IntKind.i64) (Ty.list (97) (Ty.pair (Ty.int IntKind.i64) (Ty.pair (Ty.int IntKind.i64) (Ty.pair Ty.str Ty.str))))))))) fun y5 =>
              k y5))))))
theorem eq28 {R : Type} (B : Ops) (c30 : List ty36.den → Int → Option (Bool)) (c54 : List ty36.den → List ty36.den → Option (Bool)) (c31 : Int → List ty24.den → Option ((List ty36.den))) (p0 : Int) (p1 : List ty36.den) (p2 : List ty36.den) (k : AV → Objs → Option R) (n : Nat) : afun tau B gl0 X28 (ent 30 (e30 c30) (ent 54 (e54 c54) (ent 31 (e31 c31) (gnil)))) ow Try.f28 [.c (.int .i64 p0), .c (.list 36 ty36 p1), .c (.list 36 ty36 p2)] [] k n = T28 B c30 c54 c31 p0 p1 p2 (fun y => k (.c (.list 36 ty36 y)) []) := by kernel_rfl
theorem nt28 {R R' : Type} (B : Ops) (c30 : List ty36.den → Int → Option (Bool)) (c54 : List ty36.den → List ty36.den → Option (Bool)) (c31 : Int → List ty24.den → Option ((List ty36.den))) (p0 : Int) (p1 : List ty36.den) (p2 : List ty36.den) (k0 : ((List ty36.den)) → Option R') (k : R' → Option R) : T28 B c30 c54 c31 p0 p1 p2 (fun y => ob (k0 y) k) = ob (T28 B c30 c54 c31 p0 p1 p2 k0) k := by
  unfold T28
  repeat' first | exact rfl | apply nat_cond | (apply nat_ob; intro)
def F28 (c30 : List ty36.den → Int → Option (Bool)) (c54 : List ty36.den → List ty36.den → Option (Bool)) (c31 : Int → List ty24.den → Option ((List ty36.den))) (p0 : Int) (p1 : List ty36.den) (p2 : List ty36.den) : Option ((List ty36.den)) := T28 Ops.std c30 c54 c31 p0 p1 p2 some
theorem fo28 {R : Type} (c30 : List ty36.den → Int → Option (Bool)) (c54 : List ty36.den → List ty36.den → Option (Bool)) (c31 : Int → List ty24.den → Option ((List ty36.den))) (p0 : Int) (p1 : List ty36.den) (p2 : List ty36.den) (k : AV → Objs → Option R) (n : Nat) : afun tau Ops.std gl0 X28 (ent 30 (e30 c30) (ent 54 (e54 c54) (ent 31 (e31 c31) (gnil)))) ow Try.f28 [.c (.int .i64 p0), .c (.list 36 ty36 p1), .c (.list 36 ty36 p2)] [] k n = ob (F28 c30 c54 c31 p0 p1 p2) (fun y => k (.c (.list 36 ty36 y)) []) := by rw [eq28]; exact nt28 Ops.std c30 c54 c31 p0 p1 p2 some (fun y => k (.c (.list 36 ty36 y)) [])
def e28 {R : Type} (c : Int → List ty36.den → List ty36.den → Option ((List ty36.den))) : Ent R := fun args objs k =>
  oCons args fun a0 l0 => oC a0 fun x0 => cInt .i64 x0 fun p0 => oCons l0 fun a1 l1 => oC a1 fun x1 => cList 36 ty36 x1 fun p1 => oCons l1 fun a2 l2 => oC a2 fun x2 => cList 36 ty36 x2 fun p2 => oNil l2 <| oNilO objs <| ob (c p0 p1 p2) fun y => k (.c (.list 36 ty36 y)) []
abbrev Sp28 (c : Int → List ty36.den → List ty36.den → Option ((List ty36.den))) : Prop := ∀ (p0 : Int) (p1 : List ty36.den) (p2 : List ty36.den) (y : (List ty36.den)), c p0 p1 p2 = some y → Spec Try.prog gl0 28 [.c (.int .i64 p0), .c (.list 36 ty36 p1), .c (.list 36 ty36 p2)] [] (.c (.list 36 ty36 y)) []
theorem ek28 {R : Type} {c : Int → List ty36.den → List ty36.den → Option ((List ty36.den))} (hs : Sp28 c) : EOk 28 (e28 (R := R) c) := fun args objs k r h => by
  unfold e28 at h
  obtain ⟨a0, l0, rfl, q1⟩ := oCons_some h
  obtain ⟨x0, rfl, q2⟩ := oC_some q1
  obtain ⟨p0, rfl, q3⟩ := cInt_some q2
  obtain ⟨a1, l1, rfl, q4⟩ := oCons_some q3
  obtain ⟨x1, rfl, q5⟩ := oC_some q4
  obtain ⟨p1, rfl, q6⟩ := cList_some q5
  obtain ⟨a2, l2, rfl, q7⟩ := oCons_some q6
  obtain ⟨x2, rfl, q8⟩ := oC_some q7
  obtain ⟨p2, rfl, q9⟩ := cList_some q8
  obtain ⟨rfl, q10⟩ := oNil_some q9
  obtain ⟨rfl, q11⟩ := oNilO_some q10
  exact eok_of (hs p0 p1 p2) q11
theorem sf28 {c30 : List ty36.den → Int → Option (Bool)} {c54 : List ty36.den → List ty36.den → Option (Bool)} {c31 : Int → List ty24.den → Option ((List ty36.den))} (h30 : Sp30 c30) (h54 : Sp54 c54) (h31 : Sp31 c31) : Sp28 (F28 c30 c54 c31) := fun p0 p1 p2 y hy => by
  refine spec_of (G := ent 30 (e30 c30) (ent 54 (e54 c54) (ent 31 (e31 c31) (gnil)))) (ent_ok (ek30 h30) (ent_ok (ek54 h54) (ent_ok (ek31 h31) (gnil_ok)))) 1000000 (fn := Try.f28) (by kernel_rfl) (by kernel_rfl) (X := X28) (by kernel_rfl) ?_
  rw [fo28, hy]
  rfl
noncomputable def M28 : Int → List ty36.den → List ty36.den → Option ((List ty36.den)) := F28 M30 M54 M31
theorem sm28 : Sp28 M28 := sf28 sm30 sm54 sm31
end Go.Proofs.Ytccnmhdgghjgoaa.Av
