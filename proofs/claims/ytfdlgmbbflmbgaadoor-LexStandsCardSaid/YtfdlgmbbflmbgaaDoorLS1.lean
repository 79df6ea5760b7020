/- Twins of functions, printed by gen.py. Conditions: none. -/
import Derived.Test.YtfdlgmbbflmbgaaDoorCl1
import Derived.KernelRfl
set_option linter.unusedVariables false
set_option maxRecDepth 100000
set_option maxHeartbeats 8000000
namespace Go.Proofs.YtfdlgmbbflmbgaaDoor.Av
open Go

/-! ### 61: slices.Index[[]byte,byte] -/
def X61 : Aux := ⟨[(2, [2, 3, 4, 5, 6, 9, 10, 11, 12, 13, 14, 15, 16, 17, 18])], []⟩
inductive S61 where
  | l0 (v0_2 : Int) (v0_3 : Int)
def T61 {R : Type} (B : Ops) (p0 : List ty5.den) (p1 : Int) (again : S61 → Option R) (k : (Int) → Option R) : Option S61 → Option R
  | none =>
    again (.l0 (Nat.cast (List.length p0)) 0)
  | some (.l0 v0_2 v0_3) =>
    cond (Ops.lt B v0_3 v0_2)
     (
      cond (Ops.inb B v0_3 (List.length p0))
       (
        cond (Ops.eq B p1 (List.getD p0 (Int.toNat v0_3) (Ty.dflt ty5)))
         (
          k v0_3)
         (
          again (.l0 v0_2 (IntKind.wrap IntKind.i64 (v0_3 + 1)))))
       (
        none))
     (
      k (-1))
def E61 (p0 : List ty5.den) (p1 : Int) : S61 → List AV × Objs
  | .l0 v0_2 v0_3 => (mk 19 [(0, .c (.list 5 ty5 p0)), (1, .c (.int .u8 p1)), (7, .c (.int .i64 v0_2)), (8, .c (.int .i64 v0_3))], [])
def I61 : S61 → Nat
  | .l0 _ _ => 0
theorem eq61 {R : Type} (B : Ops) (p0 : List ty5.den) (p1 : Int) (k : AV → Objs → Option R) (n : Nat) : afun tau B gl0 X61 (gnil) ow Tryd.f61 [.c (.list 5 ty5 p0), .c (.int .u8 p1)] [] k n = T61 B p0 p1 (fun s => aloop tau B gl0 X61 (gnil) ow [] Tryd.f61 k (I61 s) (E61 p0 p1 s) n) (fun y => k (.c (.int .i64 y)) []) none := by kernel_rfl
theorem el61 {R : Type} (B : Ops) (p0 : List ty5.den) (p1 : Int) (k : AV → Objs → Option R) (n : Nat) : ∀ s, aloop tau B gl0 X61 (gnil) ow [] Tryd.f61 k (I61 s) (E61 p0 p1 s) (n + 1) = T61 B p0 p1 (fun s => aloop tau B gl0 X61 (gnil) ow [] Tryd.f61 k (I61 s) (E61 p0 p1 s) n) (fun y => k (.c (.int .i64 y)) []) (some s)
  | .l0 v0_2 v0_3 => by kernel_rfl
theorem nt61 {R R' : Type} (B : Ops) (p0 : List ty5.den) (p1 : Int) (again : S61 → Option R) (again' : S61 → Option R') (k0 : (Int) → Option R') (k : R' → Option R) (h : ∀ s, again s = ob (again' s) k) : ∀ s, T61 B p0 p1 again (fun y => ob (k0 y) k) s = ob (T61 B p0 p1 again' k0 s) k
  | none => by unfold T61; repeat' first | exact rfl | exact h _ | apply nat_cond | (apply nat_ob; intro)
  | some (.l0 v0_2 v0_3) => by unfold T61; repeat' first | exact rfl | exact h _ | apply nat_cond | (apply nat_ob; intro)
def R61 (p0 : List ty5.den) (p1 : Int) : Nat → S61 → Option (Int)
  | 0, _ => none
  | n + 1, s => T61 Ops.std p0 p1 (R61 p0 p1 n) some (some s)
theorem rr61 {R : Type} (p0 : List ty5.den) (p1 : Int) (k : AV → Objs → Option R) : ∀ (n : Nat) (s : S61), aloop tau Ops.std gl0 X61 (gnil) ow [] Tryd.f61 k (I61 s) (E61 p0 p1 s) n = ob (R61 p0 p1 n s) (fun y => k (.c (.int .i64 y)) [])
  | 0, s => by cases s <;> rfl
  | n + 1, s => by rw [el61]; exact nt61 Ops.std p0 p1 _ _ some (fun y => k (.c (.int .i64 y)) []) (rr61 p0 p1 k n) (some s)
def F61 (p0 : List ty5.den) (p1 : Int) : Option (Int) := T61 Ops.std p0 p1 (R61 p0 p1 1000000) some none
theorem fo61 {R : Type} (p0 : List ty5.den) (p1 : Int) (k : AV → Objs → Option R) : afun tau Ops.std gl0 X61 (gnil) ow Tryd.f61 [.c (.list 5 ty5 p0), .c (.int .u8 p1)] [] k 1000000 = ob (F61 p0 p1) (fun y => k (.c (.int .i64 y)) []) := by rw [eq61]; exact nt61 Ops.std p0 p1 _ _ some (fun y => k (.c (.int .i64 y)) []) (rr61 p0 p1 k 1000000) none
def e61 {R : Type} (c : List ty5.den → Int → Option (Int)) : Ent R := fun args objs k =>
  oCons args fun a0 l0 => oC a0 fun x0 => cList 5 ty5 x0 fun p0 => oCons l0 fun a1 l1 => oC a1 fun x1 => cInt .u8 x1 fun p1 => oNil l1 <| oNilO objs <| ob (c p0 p1) fun y => k (.c (.int .i64 y)) []
abbrev Sp61 (c : List ty5.den → Int → Option (Int)) : Prop := ∀ (p0 : List ty5.den) (p1 : Int) (y : Int), c p0 p1 = some y → Spec Tryd.prog gl0 61 [.c (.list 5 ty5 p0), .c (.int .u8 p1)] [] (.c (.int .i64 y)) []
theorem ek61 {R : Type} {c : List ty5.den → Int → Option (Int)} (hs : Sp61 c) : EOk 61 (e61 (R := R) c) := fun args objs k r h => by
  unfold e61 at h
  obtain ⟨a0, l0, rfl, q1⟩ := oCons_some h
  obtain ⟨x0, rfl, q2⟩ := oC_some q1
  obtain ⟨p0, rfl, q3⟩ := cList_some q2
  obtain ⟨a1, l1, rfl, q4⟩ := oCons_some q3
  obtain ⟨x1, rfl, q5⟩ := oC_some q4
  obtain ⟨p1, rfl, q6⟩ := cInt_some q5
  obtain ⟨rfl, q7⟩ := oNil_some q6
  obtain ⟨rfl, q8⟩ := oNilO_some q7
  exact eok_of (hs p0 p1) q8
theorem sf61 : Sp61 (F61) := fun p0 p1 y hy => by
  refine spec_of (G := gnil) (gnil_ok) 1000000 (fn := Tryd.f61) (by kernel_rfl) (by kernel_rfl) (X := X61) (by kernel_rfl) ?_
  rw [fo61, hy]
  rfl
noncomputable def M61 : List ty5.den → Int → Option (Int) := F61
theorem sm61 : Sp61 M61 := sf61

/-! ### 29: slices.Contains[[]byte,byte] -/
def X29 : Aux := ⟨[], []⟩
def T29 {R : Type} (B : Ops) (c61 : List ty5.den → Int → Option (Int)) (p0 : List ty5.den) (p1 : Int) (k : (Bool) → Option R) : Option R :=
  ob (c61 p0 p1) fun y0 =>
  k (Ops.le B (0) y0)
theorem eq29 {R : Type} (B : Ops) (c61 : List ty5.den → Int → Option (Int)) (p0 : List ty5.den) (p1 : Int) (k : AV → Objs → Option R) (n : Nat) : afun tau B gl0 X29 (ent 61 (e61 c61) (gnil)) ow Tryd.f29 [.c (.list 5 ty5 p0), .c (.int .u8 p1)] [] k n = T29 B c61 p0 p1 (fun y => k (.c (.bool y)) []) := by kernel_rfl
theorem nt29 {R R' : Type} (B : Ops) (c61 : List ty5.den → Int → Option (Int)) (p0 : List ty5.den) (p1 : Int) (k0 : (Bool) → Option R') (k : R' → Option R) : T29 B c61 p0 p1 (fun y => ob (k0 y) k) = ob (T29 B c61 p0 p1 k0) k := by
  unfold T29
  repeat' first | exact rfl | apply nat_cond | (apply nat_ob; intro)
def F29 (c61 : List ty5.den → Int → Option (Int)) (p0 : List ty5.den) (p1 : Int) : Option (Bool) := T29 Ops.std c61 p0 p1 some
theorem fo29 {R : Type} (c61 : List ty5.den → Int → Option (Int)) (p0 : List ty5.den) (p1 : Int) (k : AV → Objs → Option R) (n : Nat) : afun tau Ops.std gl0 X29 (ent 61 (e61 c61) (gnil)) ow Tryd.f29 [.c (.list 5 ty5 p0), .c (.int .u8 p1)] [] k n = ob (F29 c61 p0 p1) (fun y => k (.c (.bool y)) []) := by rw [eq29]; exact nt29 Ops.std c61 p0 p1 some (fun y => k (.c (.bool y)) [])
def e29 {R : Type} (c : List ty5.den → Int → Option (Bool)) : Ent R := fun args objs k =>
  oCons args fun a0 l0 => oC a0 fun x0 => cList 5 ty5 x0 fun p0 => oCons l0 fun a1 l1 => oC a1 fun x1 => cInt .u8 x1 fun p1 => oNil l1 <| oNilO objs <| ob (c p0 p1) fun y => k (.c (.bool y)) []
abbrev Sp29 (c : List ty5.den → Int → Option (Bool)) : Prop := ∀ (p0 : List ty5.den) (p1 : Int) (y : Bool), c p0 p1 = some y → Spec Tryd.prog gl0 29 [.c (.list 5 ty5 p0), .c (.int .u8 p1)] [] (.c (.bool y)) []
theorem ek29 {R : Type} {c : List ty5.den → Int → Option (Bool)} (hs : Sp29 c) : EOk 29 (e29 (R := R) c) := fun args objs k r h => by
  unfold e29 at h
  obtain ⟨a0, l0, rfl, q1⟩ := oCons_some h
  obtain ⟨x0, rfl, q2⟩ := oC_some q1
  obtain ⟨p0, rfl, q3⟩ := cList_some q2
  obtain ⟨a1, l1, rfl, q4⟩ := oCons_some q3
  obtain ⟨x1, rfl, q5⟩ := oC_some q4
  obtain ⟨p1, rfl, q6⟩ := cInt_some q5
  obtain ⟨rfl, q7⟩ := oNil_some q6
  obtain ⟨rfl, q8⟩ := oNilO_some q7
  exact eok_of (hs p0 p1) q8
theorem sf29 {c61 : List ty5.den → Int → Option (Int)} (h61 : Sp61 c61) : Sp29 (F29 c61) := fun p0 p1 y hy => by
  refine spec_of (G := ent 61 (e61 c61) (gnil)) (ent_ok (ek61 h61) (gnil_ok)) 1000000 (fn := Tryd.f29) (by kernel_rfl) (by kernel_rfl) (X := X29) (by kernel_rfl) ?_
  rw [fo29, hy]
  rfl
noncomputable def M29 : List ty5.den → Int → Option (Bool) := F29 M61
theorem sm29 : Sp29 M29 := sf29 sm61

/-! ### 62: lariat/lex.digit -/
def X62 : Aux := ⟨[], []⟩
def T62 {R : Type} (B : Ops) (p0 : Int) (k : (Bool) → Option R) : Option R :=
  cond (Ops.le B (48) p0)
   (
    k (Ops.le B p0 (57)))
   (
    k false)
theorem eq62 {R : Type} (B : Ops) (p0 : Int) (k : AV → Objs → Option R) (n : Nat) : afun tau B gl0 X62 (gnil) ow Tryd.f62 [.c (.int .u8 p0)] [] k n = T62 B p0 (fun y => k (.c (.bool y)) []) := by kernel_rfl
theorem nt62 {R R' : Type} (B : Ops) (p0 : Int) (k0 : (Bool) → Option R') (k : R' → Option R) : T62 B p0 (fun y => ob (k0 y) k) = ob (T62 B p0 k0) k := by
  unfold T62
  repeat' first | exact rfl | apply nat_cond | (apply nat_ob; intro)
def F62 (p0 : Int) : Option (Bool) := T62 Ops.std p0 some
theorem fo62 {R : Type} (p0 : Int) (k : AV → Objs → Option R) (n : Nat) : afun tau Ops.std gl0 X62 (gnil) ow Tryd.f62 [.c (.int .u8 p0)] [] k n = ob (F62 p0) (fun y => k (.c (.bool y)) []) := by rw [eq62]; exact nt62 Ops.std p0 some (fun y => k (.c (.bool y)) [])
def e62 {R : Type} (c : Int → Option (Bool)) : Ent R := fun args objs k =>
  oCons args fun a0 l0 => oC a0 fun x0 => cInt .u8 x0 fun p0 => oNil l0 <| oNilO objs <| ob (c p0) fun y => k (.c (.bool y)) []
abbrev Sp62 (c : Int → Option (Bool)) : Prop := ∀ (p0 : Int) (y : Bool), c p0 = some y → Spec Tryd.prog gl0 62 [.c (.int .u8 p0)] [] (.c (.bool y)) []
theorem ek62 {R : Type} {c : Int → Option (Bool)} (hs : Sp62 c) : EOk 62 (e62 (R := R) c) := fun args objs k r h => by
  unfold e62 at h
  obtain ⟨a0, l0, rfl, q1⟩ := oCons_some h
  obtain ⟨x0, rfl, q2⟩ := oC_some q1
  obtain ⟨p0, rfl, q3⟩ := cInt_some q2
  obtain ⟨rfl, q4⟩ := oNil_some q3
  obtain ⟨rfl, q5⟩ := oNilO_some q4
  exact eok_of (hs p0) q5
theorem sf62 : Sp62 (F62) := fun p0 y hy => by
  refine spec_of (G := gnil) (gnil_ok) 1000000 (fn := Tryd.f62) (by kernel_rfl) (by kernel_rfl) (X := X62) (by kernel_rfl) ?_
  rw [fo62, hy]
  rfl
noncomputable def M62 : Int → Option (Bool) := F62
theorem sm62 : Sp62 M62 := sf62

/-! ### 34: lariat/lex.begins -/
def X34 : Aux := ⟨[], []⟩
def T34 {R : Type} (B : Ops) (p0 : Int) (k : (Bool) → Option R) : Option R :=
  cond (Ops.le B (97) p0)
   (
    cond (Ops.le B p0 (122))
     (
      k true)
     (
      k (Ops.eq B p0 (95))))
   (
    k (Ops.eq B p0 (95)))
theorem eq34 {R : Type} (B : Ops) (p0 : Int) (k : AV → Objs → Option R) (n : Nat) : afun tau B gl0 X34 (gnil) ow Tryd.f34 [.c (.int .u8 p0)] [] k n = T34 B p0 (fun y => k (.c (.bool y)) []) := by kernel_rfl
theorem nt34 {R R' : Type} (B : Ops) (p0 : Int) (k0 : (Bool) → Option R') (k : R' → Option R) : T34 B p0 (fun y => ob (k0 y) k) = ob (T34 B p0 k0) k := by
  unfold T34
  repeat' first | exact rfl | apply nat_cond | (apply nat_ob; intro)
def F34 (p0 : Int) : Option (Bool) := T34 Ops.std p0 some
theorem fo34 {R : Type} (p0 : Int) (k : AV → Objs → Option R) (n : Nat) : afun tau Ops.std gl0 X34 (gnil) ow Tryd.f34 [.c (.int .u8 p0)] [] k n = ob (F34 p0) (fun y => k (.c (.bool y)) []) := by rw [eq34]; exact nt34 Ops.std p0 some (fun y => k (.c (.bool y)) [])
def e34 {R : Type} (c : Int → Option (Bool)) : Ent R := fun args objs k =>
  oCons args fun a0 l0 => oC a0 fun x0 => cInt .u8 x0 fun p0 => oNil l0 <| oNilO objs <| ob (c p0) fun y => k (.c (.bool y)) []
abbrev Sp34 (c : Int → Option (Bool)) : Prop := ∀ (p0 : Int) (y : Bool), c p0 = some y → Spec Tryd.prog gl0 34 [.c (.int .u8 p0)] [] (.c (.bool y)) []
theorem ek34 {R : Type} {c : Int → Option (Bool)} (hs : Sp34 c) : EOk 34 (e34 (R := R) c) := fun args objs k r h => by
  unfold e34 at h
  obtain ⟨a0, l0, rfl, q1⟩ := oCons_some h
  obtain ⟨x0, rfl, q2⟩ := oC_some q1
  obtain ⟨p0, rfl, q3⟩ := cInt_some q2
  obtain ⟨rfl, q4⟩ := oNil_some q3
  obtain ⟨rfl, q5⟩ := oNilO_some q4
  exact eok_of (hs p0) q5
theorem sf34 : Sp34 (F34) := fun p0 y hy => by
  refine spec_of (G := gnil) (gnil_ok) 1000000 (fn := Tryd.f34) (by kernel_rfl) (by kernel_rfl) (X := X34) (by kernel_rfl) ?_
  rw [fo34, hy]
  rfl
noncomputable def M34 : Int → Option (Bool) := F34
theorem sm34 : Sp34 M34 := sf34

/-! ### 36: lariat/lex.within -/
def X36 : Aux := ⟨[], []⟩
def T36 {R : Type} (B : Ops) (c34 : Int → Option (Bool)) (c62 : Int → Option (Bool)) (p0 : Int) (k : (Bool) → Option R) : Option R :=
  ob (c34 p0) fun y0 =>
  cond (y0)
   (
    k true)
   (
    ob (c62 p0) fun y1 =>
    k y1)
theorem eq36 {R : Type} (B : Ops) (c34 : Int → Option (Bool)) (c62 : Int → Option (Bool)) (p0 : Int) (k : AV → Objs → Option R) (n : Nat) : afun tau B gl0 X36 (ent 34 (e34 c34) (ent 62 (e62 c62) (gnil))) ow Tryd.f36 [.c (.int .u8 p0)] [] k n = T36 B c34 c62 p0 (fun y => k (.c (.bool y)) []) := by kernel_rfl
theorem nt36 {R R' : Type} (B : Ops) (c34 : Int → Option (Bool)) (c62 : Int → Option (Bool)) (p0 : Int) (k0 : (Bool) → Option R') (k : R' → Option R) : T36 B c34 c62 p0 (fun y => ob (k0 y) k) = ob (T36 B c34 c62 p0 k0) k := by
  unfold T36
  repeat' first | exact rfl | apply nat_cond | (apply nat_ob; intro)
def F36 (c34 : Int → Option (Bool)) (c62 : Int → Option (Bool)) (p0 : Int) : Option (Bool) := T36 Ops.std c34 c62 p0 some
theorem fo36 {R : Type} (c34 : Int → Option (Bool)) (c62 : Int → Option (Bool)) (p0 : Int) (k : AV → Objs → Option R) (n : Nat) : afun tau Ops.std gl0 X36 (ent 34 (e34 c34) (ent 62 (e62 c62) (gnil))) ow Tryd.f36 [.c (.int .u8 p0)] [] k n = ob (F36 c34 c62 p0) (fun y => k (.c (.bool y)) []) := by rw [eq36]; exact nt36 Ops.std c34 c62 p0 some (fun y => k (.c (.bool y)) [])
def e36 {R : Type} (c : Int → Option (Bool)) : Ent R := fun args objs k =>
  oCons args fun a0 l0 => oC a0 fun x0 => cInt .u8 x0 fun p0 => oNil l0 <| oNilO objs <| ob (c p0) fun y => k (.c (.bool y)) []
abbrev Sp36 (c : Int → Option (Bool)) : Prop := ∀ (p0 : Int) (y : Bool), c p0 = some y → Spec Tryd.prog gl0 36 [.c (.int .u8 p0)] [] (.c (.bool y)) []
theorem ek36 {R : Type} {c : Int → Option (Bool)} (hs : Sp36 c) : EOk 36 (e36 (R := R) c) := fun args objs k r h => by
  unfold e36 at h
  obtain ⟨a0, l0, rfl, q1⟩ := oCons_some h
  obtain ⟨x0, rfl, q2⟩ := oC_some q1
  obtain ⟨p0, rfl, q3⟩ := cInt_some q2
  obtain ⟨rfl, q4⟩ := oNil_some q3
  obtain ⟨rfl, q5⟩ := oNilO_some q4
  exact eok_of (hs p0) q5
theorem sf36 {c34 : Int → Option (Bool)} {c62 : Int → Option (Bool)} (h34 : Sp34 c34) (h62 : Sp62 c62) : Sp36 (F36 c34 c62) := fun p0 y hy => by
  refine spec_of (G := ent 34 (e34 c34) (ent 62 (e62 c62) (gnil))) (ent_ok (ek34 h34) (ent_ok (ek62 h62) (gnil_ok))) 1000000 (fn := Tryd.f36) (by kernel_rfl) (by kernel_rfl) (X := X36) (by kernel_rfl) ?_
  rw [fo36, hy]
  rfl
noncomputable def M36 : Int → Option (Bool) := F36 M34 M62
theorem sm36 : Sp36 M36 := sf36 sm34 sm62

/-! ### 35: lariat/lex.run -/
def X35 : Aux := ⟨[(2, [2, 3, 4, 6, 7, 8, 9, 10, 11, 12, 13, 14, 15, 16, 17, 18, 19, 20, 21])], []⟩
inductive S35 where
  | l0 (v0_1 : Int)
def T35 {R : Type} (B : Ops) (c36 : Int → Option (Bool)) (p0 : List UInt8) (again : S35 → Option R) (k : ((List UInt8)) → Option R) : Option S35 → Option R
  | none =>
    again (.l0 0)
  | some (.l0 v0_1) =>
    cond (Ops.lt B v0_1 (Nat.cast (List.length p0)))
     (
      cond (Ops.inb B v0_1 (List.length p0))
       (
        ob (c36 (Nat.cast (UInt8.toNat (List.getD p0 (Int.toNat v0_1) (0))))) fun y0 =>
        cond (y0)
         (
          again (.l0 (IntKind.wrap IntKind.i64 (v0_1 + 1))))
         (
          cond (Ops.inb B v0_1 (List.length p0 + 1))
           (
            k (List.drop (0) (List.take (Int.toNat v0_1) p0)))
           (
            none)))
       (
        none))
     (
      cond (Ops.inb B v0_1 (List.length p0 + 1))
       (
        k (List.drop (0) (List.take (Int.toNat v0_1) p0)))
       (
        none))
def E35 (p0 : List UInt8) : S35 → List AV × Objs
  | .l0 v0_1 => (mk 22 [(0, .c (.str p0)), (1, .fn 36 []), (5, .c (.int .i64 v0_1))], [])
def I35 : S35 → Nat
  | .l0 _ => 0
theorem eq35 {R : Type} (B : Ops) (c36 : Int → Option (Bool)) (p0 : List UInt8) (k : AV → Objs → Option R) (n : Nat) : afun tau B gl0 X35 (ent 36 (e36 c36) (gnil)) ow Tryd.f35 [.c (.str p0), .fn 36 []] [] k n = T35 B c36 p0 (fun s => aloop tau B gl0 X35 (ent 36 (e36 c36) (gnil)) ow [] Tryd.f35 k (I35 s) (E35 p0 s) n) (fun y => k (.c (.str y)) []) none := by kernel_rfl
theorem el35 {R : Type} (B : Ops) (c36 : Int → Option (Bool)) (p0 : List UInt8) (k : AV → Objs → Option R) (n : Nat) : ∀ s, aloop tau B gl0 X35 (ent 36 (e36 c36) (gnil)) ow [] Tryd.f35 k (I35 s) (E35 p0 s) (n + 1) = T35 B c36 p0 (fun s => aloop tau B gl0 X35 (ent 36 (e36 c36) (gnil)) ow [] Tryd.f35 k (I35 s) (E35 p0 s) n) (fun y => k (.c (.str y)) []) (some s)
  | .l0 v0_1 => by kernel_rfl
theorem nt35 {R R' : Type} (B : Ops) (c36 : Int → Option (Bool)) (p0 : List UInt8) (again : S35 → Option R) (again' : S35 → Option R') (k0 : ((List UInt8)) → Option R') (k : R' → Option R) (h : ∀ s, again s = ob (again' s) k) : ∀ s, T35 B c36 p0 again (fun y => ob (k0 y) k) s = ob (T35 B c36 p0 again' k0 s) k
  | none => by unfold T35; repeat' first | exact rfl | exact h _ | apply nat_cond | (apply nat_ob; intro)
  | some (.l0 v0_1) => by unfold T35; repeat' first | exact rfl | exact h _ | apply nat_cond | (apply nat_ob; intro)
def R35 (c36 : Int → Option (Bool)) (p0 : List UInt8) : Nat → S35 → Option ((List UInt8))
  | 0, _ => none
  | n + 1, s => T35 Ops.std c36 p0 (R35 c36 p0 n) some (some s)
theorem rr35 {R : Type} (c36 : Int → Option (Bool)) (p0 : List UInt8) (k : AV → Objs → Option R) : ∀ (n : Nat) (s : S35), aloop tau Ops.std gl0 X35 (ent 36 (e36 c36) (gnil)) ow [] Tryd.f35 k (I35 s) (E35 p0 s) n = ob (R35 c36 p0 n s) (fun y => k (.c (.str y)) [])
  | 0, s => by cases s <;> rfl
  | n + 1, s => by rw [el35]; exact nt35 Ops.std c36 p0 _ _ some (fun y => k (.c (.str y)) []) (rr35 c36 p0 k n) (some s)
def F35 (c36 : Int → Option (Bool)) (p0 : List UInt8) : Option ((List UInt8)) := T35 Ops.std c36 p0 (R35 c36 p0 1000000) some none
theorem fo35 {R : Type} (c36 : Int → Option (Bool)) (p0 : List UInt8) (k : AV → Objs → Option R) : afun tau Ops.std gl0 X35 (ent 36 (e36 c36) (gnil)) ow Tryd.f35 [.c (.str p0), .fn 36 []] [] k 1000000 = ob (F35 c36 p0) (fun y => k (.c (.str y)) []) := by rw [eq35]; exact nt35 Ops.std c36 p0 _ _ some (fun y => k (.c (.str y)) []) (rr35 c36 p0 k 1000000) none
def e35 {R : Type} (c : List UInt8 → Option ((List UInt8))) : Ent R := fun args objs k =>
  oCons args fun a0 l0 => oC a0 fun x0 => cStr x0 fun p0 => oCons l0 fun a1 l1 => oFn 36 a1 <| oNil l1 <| oNilO objs <| ob (c p0) fun y => k (.c (.str y)) []
abbrev Sp35 (c : List UInt8 → Option ((List UInt8))) : Prop := ∀ (p0 : List UInt8) (y : (List UInt8)), c p0 = some y → Spec Tryd.prog gl0 35 [.c (.str p0), .fn 36 []] [] (.c (.str y)) []
theorem ek35 {R : Type} {c : List UInt8 → Option ((List UInt8))} (hs : Sp35 c) : EOk 35 (e35 (R := R) c) := fun args objs k r h => by
  unfold e35 at h
  obtain ⟨a0, l0, rfl, q1⟩ := oCons_some h
  obtain ⟨x0, rfl, q2⟩ := oC_some q1
  obtain ⟨p0, rfl, q3⟩ := cStr_some q2
  obtain ⟨a1, l1, rfl, q4⟩ := oCons_some q3
  obtain ⟨rfl, q5⟩ := oFn_some q4
  obtain ⟨rfl, q6⟩ := oNil_some q5
  obtain ⟨rfl, q7⟩ := oNilO_some q6
  exact eok_of (hs p0) q7
theorem sf35 {c36 : Int → Option (Bool)} (h36 : Sp36 c36) : Sp35 (F35 c36) := fun p0 y hy => by
  refine spec_of (G := ent 36 (e36 c36) (gnil)) (ent_ok (ek36 h36) (gnil_ok)) 1000000 (fn := Tryd.f35) (by kernel_rfl) (by kernel_rfl) (X := X35) (by kernel_rfl) ?_
  rw [fo35, hy]
  rfl
noncomputable def M35 : List UInt8 → Option ((List UInt8)) := F35 M36
theorem sm35 : Sp35 M35 := sf35 sm36

/-! ### 63: lariat/lex.number -/
def X63 : Aux := ⟨[(3, [1, 2, 4, 5, 8, 9, 10, 11, 12, 13, 14, 15, 16, 17, 18, 19])], []⟩
inductive S63 where
  | l0 (v0_1 : Int) (v0_2 : Int) (v0_3 : Int)
def T63 {R : Type} (B : Ops) (p0 : List UInt8) (again : S63 → Option R) (k : (Int) → Option R) : Option S63 → Option R
  | none =>
    again (.l0 0 (Nat.cast (List.length p0)) 0)
  | some (.l0 v0_1 v0_2 v0_3) =>
    cond (Ops.lt B v0_3 v0_2)
     (
      cond (Ops.inb B v0_3 (List.length p0))
       (
        again (.l0 (IntKind.wrap IntKind.i64 (IntKind.wrap IntKind.i64 (10 * v0_1) + IntKind.wrap IntKind.i64 (IntKind.wrap IntKind.u8 (Nat.cast (UInt8.toNat (List.getD p0 (Int.toNat v0_3) (0))) - 48)))) v0_2 (IntKind.wrap IntKind.i64 (v0_3 + 1))))
       (
        none))
     (
      k v0_1)
def E63 (p0 : List UInt8) : S63 → List AV × Objs
  | .l0 v0_1 v0_2 v0_3 => (mk 20 [(0, .c (.str p0)), (3, .c (.int .i64 v0_1)), (6, .c (.int .i64 v0_2)), (7, .c (.int .i64 v0_3))], [])
def I63 : S63 → Nat
  | .l0 _ _ _ => 0
theorem eq63 {R : Type} (B : Ops) (p0 : List UInt8) (k : AV → Objs → Option R) (n : Nat) : afun tau B gl0 X63 (gnil) ow Tryd.f63 [.c (.str p0)] [] k n = T63 B p0 (fun s => aloop tau B gl0 X63 (gnil) ow [] Tryd.f63 k (I63 s) (E63 p0 s) n) (fun y => k (.c (.int .i64 y)) []) none := by kernel_rfl
theorem el63 {R : Type} (B : Ops) (p0 : List UInt8) (k : AV → Objs → Option R) (n : Nat) : ∀ s, aloop tau B gl0 X63 (gnil) ow [] Tryd.f63 k (I63 s) (E63 p0 s) (n + 1) = T63 B p0 (fun s => aloop tau B gl0 X63 (gnil) ow [] Tryd.f63 k (I63 s) (E63 p0 s) n) (fun y => k (.c (.int .i64 y)) []) (some s)
  | .l0 v0_1 v0_2 v0_3 => by kernel_rfl
theorem nt63 {R R' : Type} (B : Ops) (p0 : List UInt8) (again : S63 → Option R) (again' : S63 → Option R') (k0 : (Int) → Option R') (k : R' → Option R) (h : ∀ s, again s = ob (again' s) k) : ∀ s, T63 B p0 again (fun y => ob (k0 y) k) s = ob (T63 B p0 again' k0 s) k
  | none => by unfold T63; repeat' first | exact rfl | exact h _ | apply nat_cond | (apply nat_ob; intro)
  | some (.l0 v0_1 v0_2 v0_3) => by unfold T63; repeat' first | exact rfl | exact h _ | apply nat_cond | (apply nat_ob; intro)
def R63 (p0 : List UInt8) : Nat → S63 → Option (Int)
  | 0, _ => none
  | n + 1, s => T63 Ops.std p0 (R63 p0 n) some (some s)
theorem rr63 {R : Type} (p0 : List UInt8) (k : AV → Objs → Option R) : ∀ (n : Nat) (s : S63), aloop tau Ops.std gl0 X63 (gnil) ow [] Tryd.f63 k (I63 s) (E63 p0 s) n = ob (R63 p0 n s) (fun y => k (.c (.int .i64 y)) [])
  | 0, s => by cases s <;> rfl
  | n + 1, s => by rw [el63]; exact nt63 Ops.std p0 _ _ some (fun y => k (.c (.int .i64 y)) []) (rr63 p0 k n) (some s)
def F63 (p0 : List UInt8) : Option (Int) := T63 Ops.std p0 (R63 p0 1000000) some none
theorem fo63 {R : Type} (p0 : List UInt8) (k : AV → Objs → Option R) : afun tau Ops.std gl0 X63 (gnil) ow Tryd.f63 [.c (.str p0)] [] k 1000000 = ob (F63 p0) (fun y => k (.c (.int .i64 y)) []) := by rw [eq63]; exact nt63 Ops.std p0 _ _ some (fun y => k (.c (.int .i64 y)) []) (rr63 p0 k 1000000) none
def e63 {R : Type} (c : List UInt8 → Option (Int)) : Ent R := fun args objs k =>
  oCons args fun a0 l0 => oC a0 fun x0 => cStr x0 fun p0 => oNil l0 <| oNilO objs <| ob (c p0) fun y => k (.c (.int .i64 y)) []
abbrev Sp63 (c : List UInt8 → Option (Int)) : Prop := ∀ (p0 : List UInt8) (y : Int), c p0 = some y → Spec Tryd.prog gl0 63 [.c (.str p0)] [] (.c (.int .i64 y)) []
theorem ek63 {R : Type} {c : List UInt8 → Option (Int)} (hs : Sp63 c) : EOk 63 (e63 (R := R) c) := fun args objs k r h => by
  unfold e63 at h
  obtain ⟨a0, l0, rfl, q1⟩ := oCons_some h
  obtain ⟨x0, rfl, q2⟩ := oC_some q1
  obtain ⟨p0, rfl, q3⟩ := cStr_some q2
  obtain ⟨rfl, q4⟩ := oNil_some q3
  obtain ⟨rfl, q5⟩ := oNilO_some q4
  exact eok_of (hs p0) q5
theorem sf63 : Sp63 (F63) := fun p0 y hy => by
  refine spec_of (G := gnil) (gnil_ok) 1000000 (fn := Tryd.f63) (by kernel_rfl) (by kernel_rfl) (X := X63) (by kernel_rfl) ?_
  rw [fo63, hy]
  rfl
noncomputable def M63 : List UInt8 → Option (Int) := F63
theorem sm63 : Sp63 M63 := sf63

/-! ### 64: lariat/lex.signs -/
def X64 : Aux := ⟨[], []⟩
def T64 {R : Type} (B : Ops) (k : ((List ty9.den)) → Option R) : Option R :=
  k (([60, 61] : List UInt8) :: ([62, 61] : List UInt8) :: ([61, 61] : List UInt8) :: ([33, 61] : List UInt8) :: ([38, 38] : List UInt8) :: ([124, 124] : List UInt8) :: ([45, 62] : List UInt8) :: ([40] : List UInt8) :: ([41] : List UInt8) :: ([91] : List UInt8) :: ([93] : List UInt8) :: ([43] : List UInt8) :: ([45] : List UInt8) :: ([42] : List UInt8) :: ([60] : List UInt8) :: ([62] : List UInt8) :: ([33] : List UInt8) :: ([64] : List UInt8) :: ([59] : List UInt8) :: ([61] : List UInt8) :: mt (Ty.den Ty.str))
theorem eq64 {R : Type} (B : Ops) (k : AV → Objs → Option R) (n : Nat) : afun tau B gl0 X64 (gnil) ow Tryd.f64 [] [] k n = T64 B (fun y => k (.c (.own 500)) [(500, .row 9 ty9 y)]) := by kernel_rfl
theorem nt64 {R R' : Type} (B : Ops) (k0 : ((List ty9.den)) → Option R') (k : R' → Option R) : T64 B (fun y => ob (k0 y) k) = ob (T64 B k0) k := by
  unfold T64
  repeat' first | exact rfl | apply nat_cond | (apply nat_ob; intro)
def F64 : Option ((List ty9.den)) := T64 Ops.std some
theorem fo64 {R : Type} (k : AV → Objs → Option R) (n : Nat) : afun tau Ops.std gl0 X64 (gnil) ow Tryd.f64 [] [] k n = ob (F64) (fun y => k (.c (.own 500)) [(500, .row 9 ty9 y)]) := by rw [eq64]; exact nt64 Ops.std some (fun y => k (.c (.own 500)) [(500, .row 9 ty9 y)])
def e64 {R : Type} (c : Option ((List ty9.den))) : Ent R := fun args objs k =>
  oNil args <| oNilO objs <| ob (c ) fun y => k (.c (.own 500)) [(500, .row 9 ty9 y)]
abbrev Sp64 (c : Option ((List ty9.den))) : Prop := ∀ (y : (List ty9.den)), c = some y → Spec Tryd.prog gl0 64 [] [] (.c (.own 500)) [(500, .row 9 ty9 y)]
theorem ek64 {R : Type} {c : Option ((List ty9.den))} (hs : Sp64 c) : EOk 64 (e64 (R := R) c) := fun args objs k r h => by
  unfold e64 at h
  obtain ⟨rfl, q1⟩ := oNil_some h
  obtain ⟨rfl, q2⟩ := oNilO_some q1
  exact eok_of (hs ) q2
theorem sf64 : Sp64 (F64) := fun y hy => by
  refine spec_of (G := gnil) (gnil_ok) 1000000 (fn := Tryd.f64) (by kernel_rfl) (by kernel_rfl) (X := X64) (by kernel_rfl) ?_
  rw [fo64, hy]
  rfl
noncomputable def M64 : Option ((List ty9.den)) := F64
theorem sm64 : Sp64 M64 := sf64

/-! ### 89: internal/stringslite.HasPrefix -/
def X89 : Aux := ⟨[], []⟩
def T89 {R : Type} (B : Ops) (p0 : List UInt8) (p1 : List UInt8) (k : (Bool) → Option R) : Option R :=
  cond (Ops.le B (Nat.cast (List.length p1)) (Nat.cast (List.length p0)))
   (
    cond (Ops.inb B (Nat.cast (List.length p1)) (List.length p0 + 1))
     (
      k (List.drop (0) (List.take (Int.toNat (Nat.cast (List.length p1))) p0) == p1))
     (
      none))
   (
    k false)
theorem eq89 {R : Type} (B : Ops) (p0 : List UInt8) (p1 : List UInt8) (k : AV → Objs → Option R) (n : Nat) : afun tau B gl0 X89 (gnil) ow Tryd.f89 [.c (.str p0), .c (.str p1)] [] k n = T89 B p0 p1 (fun y => k (.c (.bool y)) []) := by kernel_rfl
theorem nt89 {R R' : Type} (B : Ops) (p0 : List UInt8) (p1 : List UInt8) (k0 : (Bool) → Option R') (k : R' → Option R) : T89 B p0 p1 (fun y => ob (k0 y) k) = ob (T89 B p0 p1 k0) k := by
  unfold T89
  repeat' first | exact rfl | apply nat_cond | (apply nat_ob; intro)
def F89 (p0 : List UInt8) (p1 : List UInt8) : Option (Bool) := T89 Ops.std p0 p1 some
theorem fo89 {R : Type} (p0 : List UInt8) (p1 : List UInt8) (k : AV → Objs → Option R) (n : Nat) : afun tau Ops.std gl0 X89 (gnil) ow Tryd.f89 [.c (.str p0), .c (.str p1)] [] k n = ob (F89 p0 p1) (fun y => k (.c (.bool y)) []) := by rw [eq89]; exact nt89 Ops.std p0 p1 some (fun y => k (.c (.bool y)) [])
def e89 {R : Type} (c : List UInt8 → List UInt8 → Option (Bool)) : Ent R := fun args objs k =>
  oCons args fun a0 l0 => oC a0 fun x0 => cStr x0 fun p0 => oCons l0 fun a1 l1 => oC a1 fun x1 => cStr x1 fun p1 => oNil l1 <| oNilO objs <| ob (c p0 p1) fun y => k (.c (.bool y)) []
abbrev Sp89 (c : List UInt8 → List UInt8 → Option (Bool)) : Prop := ∀ (p0 : List UInt8) (p1 : List UInt8) (y : Bool), c p0 p1 = some y → Spec Tryd.prog gl0 89 [.c (.str p0), .c (.str p1)] [] (.c (.bool y)) []
theorem ek89 {R : Type} {c : List UInt8 → List UInt8 → Option (Bool)} (hs : Sp89 c) : EOk 89 (e89 (R := R) c) := fun args objs k r h => by
  unfold e89 at h
  obtain ⟨a0, l0, rfl, q1⟩ := oCons_some h
  obtain ⟨x0, rfl, q2⟩ := oC_some q1
  obtain ⟨p0, rfl, q3⟩ := cStr_some q2
  obtain ⟨a1, l1, rfl, q4⟩ := oCons_some q3
  obtain ⟨x1, rfl, q5⟩ := oC_some q4
  obtain ⟨p1, rfl, q6⟩ := cStr_some q5
  obtain ⟨rfl, q7⟩ := oNil_some q6
  obtain ⟨rfl, q8⟩ := oNilO_some q7
  exact eok_of (hs p0 p1) q8
theorem sf89 : Sp89 (F89) := fun p0 p1 y hy => by
  refine spec_of (G := gnil) (gnil_ok) 1000000 (fn := Tryd.f89) (by kernel_rfl) (by kernel_rfl) (X := X89) (by kernel_rfl) ?_
  rw [fo89, hy]
  rfl
noncomputable def M89 : List UInt8 → List UInt8 → Option (Bool) := F89
theorem sm89 : Sp89 M89 := sf89

/-! ### 65: strings.HasPrefix -/
def X65 : Aux := ⟨[], []⟩
def T65 {R : Type} (B : Ops) (c89 : List UInt8 → List UInt8 → Option (Bool)) (p0 : List UInt8) (p1 : List UInt8) (k : (Bool) → Option R) : Option R :=
  ob (c89 p0 p1) fun y0 =>
  k y0
theorem eq65 {R : Type} (B : Ops) (c89 : List UInt8 → List UInt8 → Option (Bool)) (p0 : List UInt8) (p1 : List UInt8) (k : AV → Objs → Option R) (n : Nat) : afun tau B gl0 X65 (ent 89 (e89 c89) (gnil)) ow Tryd.f65 [.c (.str p0), .c (.str p1)] [] k n = T65 B c89 p0 p1 (fun y => k (.c (.bool y)) []) := by kernel_rfl
theorem nt65 {R R' : Type} (B : Ops) (c89 : List UInt8 → List UInt8 → Option (Bool)) (p0 : List UInt8) (p1 : List UInt8) (k0 : (Bool) → Option R') (k : R' → Option R) : T65 B c89 p0 p1 (fun y => ob (k0 y) k) = ob (T65 B c89 p0 p1 k0) k := by
  unfold T65
  repeat' first | exact rfl | apply nat_cond | (apply nat_ob; intro)
def F65 (c89 : List UInt8 → List UInt8 → Option (Bool)) (p0 : List UInt8) (p1 : List UInt8) : Option (Bool) := T65 Ops.std c89 p0 p1 some
theorem fo65 {R : Type} (c89 : List UInt8 → List UInt8 → Option (Bool)) (p0 : List UInt8) (p1 : List UInt8) (k : AV → Objs → Option R) (n : Nat) : afun tau Ops.std gl0 X65 (ent 89 (e89 c89) (gnil)) ow Tryd.f65 [.c (.str p0), .c (.str p1)] [] k n = ob (F65 c89 p0 p1) (fun y => k (.c (.bool y)) []) := by rw [eq65]; exact nt65 Ops.std c89 p0 p1 some (fun y => k (.c (.bool y)) [])
def e65 {R : Type} (c : List UInt8 → List UInt8 → Option (Bool)) : Ent R := fun args objs k =>
  oCons args fun a0 l0 => oC a0 fun x0 => cStr x0 fun p0 => oCons l0 fun a1 l1 => oC a1 fun x1 => cStr x1 fun p1 => oNil l1 <| oNilO objs <| ob (c p0 p1) fun y => k (.c (.bool y)) []
abbrev Sp65 (c : List UInt8 → List UInt8 → Option (Bool)) : Prop := ∀ (p0 : List UInt8) (p1 : List UInt8) (y : Bool), c p0 p1 = some y → Spec Tryd.prog gl0 65 [.c (.str p0), .c (.str p1)] [] (.c (.bool y)) []
theorem ek65 {R : Type} {c : List UInt8 → List UInt8 → Option (Bool)} (hs : Sp65 c) : EOk 65 (e65 (R := R) c) := fun args objs k r h => by
  unfold e65 at h
  obtain ⟨a0, l0, rfl, q1⟩ := oCons_some h
  obtain ⟨x0, rfl, q2⟩ := oC_some q1
  obtain ⟨p0, rfl, q3⟩ := cStr_some q2
  obtain ⟨a1, l1, rfl, q4⟩ := oCons_some q3
  obtain ⟨x1, rfl, q5⟩ := oC_some q4
  obtain ⟨p1, rfl, q6⟩ := cStr_some q5
  obtain ⟨rfl, q7⟩ := oNil_some q6
  obtain ⟨rfl, q8⟩ := oNilO_some q7
  exact eok_of (hs p0 p1) q8
theorem sf65 {c89 : List UInt8 → List UInt8 → Option (Bool)} (h89 : Sp89 c89) : Sp65 (F65 c89) := fun p0 p1 y hy => by
  refine spec_of (G := ent 89 (e89 c89) (gnil)) (ent_ok (ek89 h89) (gnil_ok)) 1000000 (fn := Tryd.f65) (by kernel_rfl) (by kernel_rfl) (X := X65) (by kernel_rfl) ?_
  rw [fo65, hy]
  rfl
noncomputable def M65 : List UInt8 → List UInt8 → Option (Bool) := F65 M89
theorem sm65 : Sp65 M65 := sf65 sm89

/-! ### 139: lariat/lex.run#digit -/
def X139 : Aux := ⟨[(2, [2, 3, 4, 6, 7, 8, 9, 10, 11, 12, 13, 14, 15, 16, 17, 18, 19, 20, 21])], []⟩
inductive S139 where
  | l0 (v0_1 : Int)
def T139 {R : Type} (B : Ops) (c62 : Int → Option (Bool)) (p0 : List UInt8) (again : S139 → Option R) (k : ((List UInt8)) → Option R) : Option S139 → Option R
  | none =>
    again (.l0 0)
  | some (.l0 v0_1) =>
    cond (Ops.lt B v0_1 (Nat.cast (List.length p0)))
     (
      cond (Ops.inb B v0_1 (List.length p0))
       (
        ob (c62 (Nat.cast (UInt8.toNat (List.getD p0 (Int.toNat v0_1) (0))))) fun y0 =>
        cond (y0)
         (
          again (.l0 (IntKind.wrap IntKind.i64 (v0_1 + 1))))
         (
          cond (Ops.inb B v0_1 (List.length p0 + 1))
           (
            k (List.drop (0) (List.take (Int.toNat v0_1) p0)))
           (
            none)))
       (
        none))
     (
      cond (Ops.inb B v0_1 (List.length p0 + 1))
       (
        k (List.drop (0) (List.take (Int.toNat v0_1) p0)))
       (
        none))
def E139 (p0 : List UInt8) : S139 → List AV × Objs
  | .l0 v0_1 => (mk 22 [(0, .c (.str p0)), (1, .fn 62 []), (5, .c (.int .i64 v0_1))], [])
def I139 : S139 → Nat
  | .l0 _ => 0
theorem eq139 {R : Type} (B : Ops) (c62 : Int → Option (Bool)) (p0 : List UInt8) (k : AV → Objs → Option R) (n : Nat) : afun tau B gl0 X139 (ent 62 (e62 c62) (gnil)) ow Tryd.f35 [.c (.str p0), .fn 62 []] [] k n = T139 B c62 p0 (fun s => aloop tau B gl0 X139 (ent 62 (e62 c62) (gnil)) ow [] Tryd.f35 k (I139 s) (E139 p0 s) n) (fun y => k (.c (.str y)) []) none := by kernel_rfl
theorem el139 {R : Type} (B : Ops) (c62 : Int → Option (Bool)) (p0 : List UInt8) (k : AV → Objs → Option R) (n : Nat) : ∀ s, aloop tau B gl0 X139 (ent 62 (e62 c62) (gnil)) ow [] Tryd.f35 k (I139 s) (E139 p0 s) (n + 1) = T139 B c62 p0 (fun s => aloop tau B gl0 X139 (ent 62 (e62 c62) (gnil)) ow [] Tryd.f35 k (I139 s) (E139 p0 s) n) (fun y => k (.c (.str y)) []) (some s)
  | .l0 v0_1 => by kernel_rfl
theorem nt139 {R R' : Type} (B : Ops) (c62 : Int → Option (Bool)) (p0 : List UInt8) (again : S139 → Option R) (again' : S139 → Option R') (k0 : ((List UInt8)) → Option R') (k : R' → Option R) (h : ∀ s, again s = ob (again' s) k) : ∀ s, T139 B c62 p0 again (fun y => ob (k0 y) k) s = ob (T139 B c62 p0 again' k0 s) k
  | none => by unfold T139; repeat' first | exact rfl | exact h _ | apply nat_cond | (apply nat_ob; intro)
  | some (.l0 v0_1) => by unfold T139; repeat' first | exact rfl | exact h _ | apply nat_cond | (apply nat_ob; intro)
def R139 (c62 : Int → Option (Bool)) (p0 : List UInt8) : Nat → S139 → Option ((List UInt8))
  | 0, _ => none
  | n + 1, s => T139 Ops.std c62 p0 (R139 c62 p0 n) some (some s)
theorem rr139 {R : Type} (c62 : Int → Option (Bool)) (p0 : List UInt8) (k : AV → Objs → Option R) : ∀ (n : Nat) (s : S139), aloop tau Ops.std gl0 X139 (ent 62 (e62 c62) (gnil)) ow [] Tryd.f35 k (I139 s) (E139 p0 s) n = ob (R139 c62 p0 n s) (fun y => k (.c (.str y)) [])
  | 0, s => by cases s <;> rfl
  | n + 1, s => by rw [el139]; exact nt139 Ops.std c62 p0 _ _ some (fun y => k (.c (.str y)) []) (rr139 c62 p0 k n) (some s)
def F139 (c62 : Int → Option (Bool)) (p0 : List UInt8) : Option ((List UInt8)) := T139 Ops.std c62 p0 (R139 c62 p0 1000000) some none
theorem fo139 {R : Type} (c62 : Int → Option (Bool)) (p0 : List UInt8) (k : AV → Objs → Option R) : afun tau Ops.std gl0 X139 (ent 62 (e62 c62) (gnil)) ow Tryd.f35 [.c (.str p0), .fn 62 []] [] k 1000000 = ob (F139 c62 p0) (fun y => k (.c (.str y)) []) := by rw [eq139]; exact nt139 Ops.std c62 p0 _ _ some (fun y => k (.c (.str y)) []) (rr139 c62 p0 k 1000000) none
def e139 {R : Type} (c : List UInt8 → Option ((List UInt8))) : Ent R := fun args objs k =>
  oCons args fun a0 l0 => oC a0 fun x0 => cStr x0 fun p0 => oCons l0 fun a1 l1 => oFn 62 a1 <| oNil l1 <| oNilO objs <| ob (c p0) fun y => k (.c (.str y)) []
abbrev Sp139 (c : List UInt8 → Option ((List UInt8))) : Prop := ∀ (p0 : List UInt8) (y : (List UInt8)), c p0 = some y → Spec Tryd.prog gl0 35 [.c (.str p0), .fn 62 []] [] (.c (.str y)) []
theorem ek139 {R : Type} {c : List UInt8 → Option ((List UInt8))} (hs : Sp139 c) : EOk 35 (e139 (R := R) c) := fun args objs k r h => by
  unfold e139 at h
  obtain ⟨a0, l0, rfl, q1⟩ := oCons_some h
  obtain ⟨x0, rfl, q2⟩ := oC_some q1
  obtain ⟨p0, rfl, q3⟩ := cStr_some q2
  obtain ⟨a1, l1, rfl, q4⟩ := oCons_some q3
  obtain ⟨rfl, q5⟩ := oFn_some q4
  obtain ⟨rfl, q6⟩ := oNil_some q5
  obtain ⟨rfl, q7⟩ := oNilO_some q6
  exact eok_of (hs p0) q7
theorem sf139 {c62 : Int → Option (Bool)} (h62 : Sp62 c62) : Sp139 (F139 c62) := fun p0 y hy => by
  refine spec_of (G := ent 62 (e62 c62) (gnil)) (ent_ok (ek62 h62) (gnil_ok)) 1000000 (fn := Tryd.f35) (by kernel_rfl) (by kernel_rfl) (X := X139) (by kernel_rfl) ?_
  rw [fo139, hy]
  rfl
noncomputable def M139 : List UInt8 → Option ((List UInt8)) := F139 M62
theorem sm139 : Sp139 M139 := sf139 sm62

/-! ### 30: lariat/lex.token -/
def X30 : Aux := ⟨[(15, [1, 3, 4, 5, 6, 7, 8, 9, 10, 11, 12, 13, 14, 15, 16, 17, 18, 19, 20, 21, 22, 23, 24, 25, 26, 27, 28, 29, 30, 31, 32, 33, 34, 35, 36, 37, 38, 39, 40, 41, 45, 46, 47, 48, 49, 50, 51, 52, 53, 54])], []⟩
inductive S30 where
  | l0 (v0_1 : Int) (v0_2 : Int) (v0_7 : List ty9.den)
def T30 {R : Type} (B : Ops) (c62 : Int → Option (Bool)) (c35 : List UInt8 → Option ((List UInt8))) (c63 : List UInt8 → Option (Int)) (c34 : Int → Option (Bool)) (c36 : Int → Option (Bool)) (c29 : List ty5.den → Int → Option (Bool)) (c64 : Option ((List ty9.den))) (c65 : List UInt8 → List UInt8 → Option (Bool)) (c139 : List UInt8 → Option ((List UInt8))) (p0 : List UInt8) (again : S30 → Option R) (k : (Int × (List UInt8) × Int × Int) → Option R) : Option S30 → Option R
  | none =>
    cond (Ops.inb B (0) (List.length p0))
     (
      ob (c62 (Nat.cast (UInt8.toNat (List.getD p0 (Int.toNat (0)) (0))))) fun y0 =>
      cond (y0)
       (
        ob (c139 p0) fun y1 =>
        cond (Ops.le B (Nat.cast (List.length y1)) (3))
         (
          ob (c63 y1) fun y2 =>
          k ((1, y1, y2, 0)))
         (
          k ((0, mt UInt8, 0, 0))))
       (
        ob (c34 (Nat.cast (UInt8.toNat (List.getD p0 (Int.toNat (0)) (0))))) fun y1 =>
        cond (y1)
         (
          ob (c35 p0) fun y2 =>
          cond (Ops.le B (Nat.cast (List.length y2)) (8))
           (
            k ((2, y2, 0, 0)))
           (
            k ((0, mt UInt8, 0, 0))))
         (
          ob (c29 (88 :: 70 :: 71 :: 85 :: 82 :: mt (Ty.den (Ty.int IntKind.u8))) (Nat.cast (UInt8.toNat (List.getD p0 (Int.toNat (0)) (0))))) fun y2 =>
          cond (y2)
           (
            cond (Ops.inb B (1) (List.length p0 + 1))
             (
              k ((3, List.drop (0) (List.take (Int.toNat (1)) p0), 0, 0)))
             (
              none))
           (
            ob (c64) fun y3 =>
            again (.l0 (Nat.cast (List.length y3)) 0 y3)))))
     (
      none)
  | some (.l0 v0_1 v0_2 v0_7) =>
    cond (Ops.lt B v0_2 v0_1)
     (
      cond (Ops.inb B v0_2 (List.length v0_7))
       (
        ob (c65 p0 (List.getD v0_7 (Int.toNat v0_2) (Ty.dflt ty9))) fun y0 =>
        cond (y0)
         (
          k ((4, List.getD v0_7 (Int.toNat v0_2) (Ty.dflt ty9), 0, 0)))
         (
          again (.l0 v0_1 (IntKind.wrap IntKind.i64 (v0_2 + 1)) v0_7)))
       (
        none))
     (
      k ((0, mt UInt8, 0, 0)))
def E30 (p0 : List UInt8) : S30 → List AV × Objs
  | .l0 v0_1 v0_2 v0_7 => (mk 55 [(0, .c (.str p0)), (2, .c (.ptr 2 0)), (42, .c (.own 42)), (43, .c (.int .i64 v0_1)), (44, .c (.int .i64 v0_2))], [(2, .box 30 [.int .i64 0, .str (mt UInt8), .int .i64 0, .int .i64 0]), (42, .row 9 ty9 v0_7)])
def I30 : S30 → Nat
  | .l0 _ _ _ => 0
theorem eq30 {R : Type} (B : Ops) (c62 : Int → Option (Bool)) (c35 : List UInt8 → Option ((List UInt8))) (c63 : List UInt8 → Option (Int)) (c34 : Int → Option (Bool)) (c36 : Int → Option (Bool)) (c29 : List ty5.den → Int → Option (Bool)) (c64 : Option ((List ty9.den))) (c65 : List UInt8 → List UInt8 → Option (Bool)) (c139 : List UInt8 → Option ((List UInt8))) (p0 : List UInt8) (k : AV → Objs → Option R) (n : Nat) : afun tau B gl0 X30 (ent 62 (e62 c62) (ent 35 (eAlt 1 36 (e35 c35) (e139 c139)) (ent 63 (e63 c63) (ent 34 (e34 c34) (ent 36 (e36 c36) (ent 29 (e29 c29) (ent 64 (e64 c64) (ent 65 (e65 c65) (gnil))))))))) ow Tryd.f30 [.c (.str p0)] [] k n = T30 B c62 c35 c63 c34 c36 c29 c64 c65 c139 p0 (fun s => aloop tau B gl0 X30 (ent 62 (e62 c62) (ent 35 (eAlt 1 36 (e35 c35) (e139 c139)) (ent 63 (e63 c63) (ent 34 (e34 c34) (ent 36 (e36 c36) (ent 29 (e29 c29) (ent 64 (e64 c64) (ent 65 (e65 c65) (gnil))))))))) ow [] Tryd.f30 k (I30 s) (E30 p0 s) n) (fun y => k (.agg [.int .i64 y.1, .str y.2.1, .int .i64 y.2.2.1, .int .i64 y.2.2.2]) []) none := by kernel_rfl
theorem el30 {R : Type} (B : Ops) (c62 : Int → Option (Bool)) (c35 : List UInt8 → Option ((List UInt8))) (c63 : List UInt8 → Option (Int)) (c34 : Int → Option (Bool)) (c36 : Int → Option (Bool)) (c29 : List ty5.den → Int → Option (Bool)) (c64 : Option ((List ty9.den))) (c65 : List UInt8 → List UInt8 → Option (Bool)) (c139 : List UInt8 → Option ((List UInt8))) (p0 : List UInt8) (k : AV → Objs → Option R) (n : Nat) : ∀ s, aloop tau B gl0 X30 (ent 62 (e62 c62) (ent 35 (eAlt 1 36 (e35 c35) (e139 c139)) (ent 63 (e63 c63) (ent 34 (e34 c34) (ent 36 (e36 c36) (ent 29 (e29 c29) (ent 64 (e64 c64) (ent 65 (e65 c65) (gnil))))))))) ow [] Tryd.f30 k (I30 s) (E30 p0 s) (n + 1) = T30 B c62 c35 c63 c34 c36 c29 c64 c65 c139 p0 (fun s => aloop tau B gl0 X30 (ent 62 (e62 c62) (ent 35 (eAlt 1 36 (e35 c35) (e139 c139)) (ent 63 (e63 c63) (ent 34 (e34 c34) (ent 36 (e36 c36) (ent 29 (e29 c29) (ent 64 (e64 c64) (ent 65 (e65 c65) (gnil))))))))) ow [] Tryd.f30 k (I30 s) (E30 p0 s) n) (fun y => k (.agg [.int .i64 y.1, .str y.2.1, .int .i64 y.2.2.1, .int .i64 y.2.2.2]) []) (some s)
  | .l0 v0_1 v0_2 v0_7 => by kernel_rfl
theorem nt30 {R R' : Type} (B : Ops) (c62 : Int → Option (Bool)) (c35 : List UInt8 → Option ((List UInt8))) (c63 : List UInt8 → Option (Int)) (c34 : Int → Option (Bool)) (c36 : Int → Option (Bool)) (c29 : List ty5.den → Int → Option (Bool)) (c64 : Option ((List ty9.den))) (c65 : List UInt8 → List UInt8 → Option (Bool)) (c139 : List UInt8 → Option ((List UInt8))) (p0 : List UInt8) (again : S30 → Option R) (again' : S30 → Option R') (k0 : (Int × (List UInt8) × Int × Int) → Option R') (k : R' → Option R) (h : ∀ s, again s = ob (again' s) k) : ∀ s, T30 B c62 c35 c63 c34 c36 c29 c64 c65 c139 p0 again (fun y => ob (k0 y) k) s = ob (T30 B c62 c35 c63 c34 c36 c29 c64 c65 c139 p0 again' k0 s) k
  | none => by unfold T30; repeat' first | exact rfl | exact h _ | apply nat_cond | (apply nat_ob; intro)
  | some (.l0 v0_1 v0_2 v0_7) => by unfold T30; repeat' first | exact rfl | exact h _ | apply nat_cond | (apply nat_ob; intro)
def R30 (c62 : Int → Option (Bool)) (c35 : List UInt8 → Option ((List UInt8))) (c63 : List UInt8 → Option (Int)) (c34 : Int → Option (Bool)) (c36 : Int → Option (Bool)) (c29 : List ty5.den → Int → Option (Bool)) (c64 : Option ((List ty9.den))) (c65 : List UInt8 → List UInt8 → Option (Bool)) (c139 : List UInt8 → Option ((List UInt8))) (p0 : List UInt8) : Nat → S30 → Option (Int × (List UInt8) × Int × Int)
  | 0, _ => none
  | n + 1, s => T30 Ops.std c62 c35 c63 c34 c36 c29 c64 c65 c139 p0 (R30 c62 c35 c63 c34 c36 c29 c64 c65 c139 p0 n) some (some s)
theorem rr30 {R : Type} (c62 : Int → Option (Bool)) (c35 : List UInt8 → Option ((List UInt8))) (c63 : List UInt8 → Option (Int)) (c34 : Int → Option (Bool)) (c36 : Int → Option (Bool)) (c29 : List ty5.den → Int → Option (Bool)) (c64 : Option ((List ty9.den))) (c65 : List UInt8 → List UInt8 → Option (Bool)) (c139 : List UInt8 → Option ((List UInt8))) (p0 : List UInt8) (k : AV → Objs → Option R) : ∀ (n : Nat) (s : S30), aloop tau Ops.std gl0 X30 (ent 62 (e62 c62) (ent 35 (eAlt 1 36 (e35 c35) (e139 c139)) (ent 63 (e63 c63) (ent 34 (e34 c34) (ent 36 (e36 c36) (ent 29 (e29 c29) (ent 64 (e64 c64) (ent 65 (e65 c65) (gnil))))))))) ow [] Tryd.f30 k (I30 s) (E30 p0 s) n = ob (R30 c62 c35 c63 c34 c36 c29 c64 c65 c139 p0 n s) (fun y => k (.agg [.int .i64 y.1, .str y.2.1, .int .i64 y.2.2.1, .int .i64 y.2.2.2]) [])
  | 0, s => by cases s <;> rfl
  | n + 1, s => by rw [el30]; exact nt30 Ops.std c62 c35 c63 c34 c36 c29 c64 c65 c139 p0 _ _ some (fun y => k (.agg [.int .i64 y.1, .str y.2.1, .int .i64 y.2.2.1, .int .i64 y.2.2.2]) []) (rr30 c62 c35 c63 c34 c36 c29 c64 c65 c139 p0 k n) (some s)
def F30 (c62 : Int → Option (Bool)) (c35 : List UInt8 → Option ((List UInt8))) (c63 : List UInt8 → Option (Int)) (c34 : Int → Option (Bool)) (c36 : Int → Option (Bool)) (c29 : List ty5.den → Int → Option (Bool)) (c64 : Option ((List ty9.den))) (c65 : List UInt8 → List UInt8 → Option (Bool)) (c139 : List UInt8 → Option ((List UInt8))) (p0 : List UInt8) : Option (Int × (List UInt8) × Int × Int) := T30 Ops.std c62 c35 c63 c34 c36 c29 c64 c65 c139 p0 (R30 c62 c35 c63 c34 c36 c29 c64 c65 c139 p0 1000000) some none
theorem fo30 {R : Type} (c62 : Int → Option (Bool)) (c35 : List UInt8 → Option ((List UInt8))) (c63 : List UInt8 → Option (Int)) (c34 : Int → Option (Bool)) (c36 : Int → Option (Bool)) (c29 : List ty5.den → Int → Option (Bool)) (c64 : Option ((List ty9.den))) (c65 : List UInt8 → List UInt8 → Option (Bool)) (c139 : List UInt8 → Option ((List UInt8))) (p0 : List UInt8) (k : AV → Objs → Option R) : afun tau Ops.std gl0 X30 (ent 62 (e62 c62) (ent 35 (eAlt 1 36 (e35 c35) (e139 c139)) (ent 63 (e63 c63) (ent 34 (e34 c34) (ent 36 (e36 c36) (ent 29 (e29 c29) (ent 64 (e64 c64) (ent 65 (e65 c65) (gnil))))))))) ow Tryd.f30 [.c (.str p0)] [] k 1000000 = ob (F30 c62 c35 c63 c34 c36 c29 c64 c65 c139 p0) (fun y => k (.agg [.int .i64 y.1, .str y.2.1, .int .i64 y.2.2.1, .int .i64 y.2.2.2]) []) := by rw [eq30]; exact nt30 Ops.std c62 c35 c63 c34 c36 c29 c64 c65 c139 p0 _ _ some (fun y => k (.agg [.int .i64 y.1, .str y.2.1, .int .i64 y.2.2.1, .int .i64 y.2.2.2]) []) (rr30 c62 c35 c63 c34 c36 c29 c64 c65 c139 p0 k 1000000) none
def e30 {R : Type} (c : List UInt8 → Option (Int × (List UInt8) × Int × Int)) : Ent R := fun args objs k =>
  oCons args fun a0 l0 => oC a0 fun x0 => cStr x0 fun p0 => oNil l0 <| oNilO objs <| ob (c p0) fun y => k (.agg [.int .i64 y.1, .str y.2.1, .int .i64 y.2.2.1, .int .i64 y.2.2.2]) []
abbrev Sp30 (c : List UInt8 → Option (Int × (List UInt8) × Int × Int)) : Prop := ∀ (p0 : List UInt8) (y : Int × (List UInt8) × Int × Int), c p0 = some y → Spec Tryd.prog gl0 30 [.c (.str p0)] [] (.agg [.int .i64 y.1, .str y.2.1, .int .i64 y.2.2.1, .int .i64 y.2.2.2]) []
theorem ek30 {R : Type} {c : List UInt8 → Option (Int × (List UInt8) × Int × Int)} (hs : Sp30 c) : EOk 30 (e30 (R := R) c) := fun args objs k r h => by
  unfold e30 at h
  obtain ⟨a0, l0, rfl, q1⟩ := oCons_some h
  obtain ⟨x0, rfl, q2⟩ := oC_some q1
  obtain ⟨p0, rfl, q3⟩ := cStr_some q2
  obtain ⟨rfl, q4⟩ := oNil_some q3
  obtain ⟨rfl, q5⟩ := oNilO_some q4
  exact eok_of (hs p0) q5
theorem sf30 {c62 : Int → Option (Bool)} {c35 : List UInt8 → Option ((List UInt8))} {c63 : List UInt8 → Option (Int)} {c34 : Int → Option (Bool)} {c36 : Int → Option (Bool)} {c29 : List ty5.den → Int → Option (Bool)} {c64 : Option ((List ty9.den))} {c65 : List UInt8 → List UInt8 → Option (Bool)} {c139 : List UInt8 → Option ((List UInt8))} (h62 : Sp62 c62) (h35 : Sp35 c35) (h63 : Sp63 c63) (h34 : Sp34 c34) (h36 : Sp36 c36) (h29 : Sp29 c29) (h64 : Sp64 c64) (h65 : Sp65 c65) (h139 : Sp139 c139) : Sp30 (F30 c62 c35 c63 c34 c36 c29 c64 c65 c139) := fun p0 y hy => by
  refine spec_of (G := ent 62 (e62 c62) (ent 35 (eAlt 1 36 (e35 c35) (e139 c139)) (ent 63 (e63 c63) (ent 34 (e34 c34) (ent 36 (e36 c36) (ent 29 (e29 c29) (ent 64 (e64 c64) (ent 65 (e65 c65) (gnil))))))))) (ent_ok (ek62 h62) (ent_ok (eAlt_ok (ek35 h35) (ek139 h139)) (ent_ok (ek63 h63) (ent_ok (ek34 h34) (ent_ok (ek36 h36) (ent_ok (ek29 h29) (ent_ok (ek64 h64) (ent_ok (ek65 h65) (gnil_ok))))))))) 1000000 (fn := Tryd.f30) (by kernel_rfl) (by kernel_rfl) (X := X30) (by kernel_rfl) ?_
  rw [fo30, hy]
  rfl
noncomputable def M30 : List UInt8 → Option (Int × (List UInt8) × Int × Int) := F30 M62 M35 M63 M34 M36 M29 M64 M65 M139
theorem sm30 : Sp30 M30 := sf30 sm62 sm35 sm63 sm34 sm36 sm29 sm64 sm65 sm139

/-! ### 8: lariat/lex.Lex -/
def X8 : Aux := ⟨[(5, [1, 2, 3, 4, 7, 8, 9, 10, 11, 12, 13, 14, 15, 16, 17, 18, 19, 20, 21, 22, 23, 24, 25, 26, 27, 28, 29, 30, 31, 32, 33, 34, 35, 36, 37, 38, 39, 40, 41, 42, 43, 44, 45, 46, 47])], []⟩
inductive S8 where
  | l0 (v0_1 : Int) (v0_2 : List ty30.den)
def T8 {R : Type} (B : Ops) (c29 : List ty5.den → Int → Option (Bool)) (c30 : List UInt8 → Option (Int × (List UInt8) × Int × Int)) (p0 : List UInt8) (again : S8 → Option R) (k : (Int × Int × (List ty30.den)) → Option R) : Option S8 → Option R
  | none =>
    cond (Ops.lt B (60000) (Nat.cast (List.length p0)))
     (
      k ((14, 0, mt (Ty.den (Ty.pair (Ty.int IntKind.i64) (Ty.pair Ty.str (Ty.pair (Ty.int IntKind.i64) (Ty.int IntKind.i64))))))))
     (
      again (.l0 0 (mt (Ty.den (Ty.pair (Ty.int IntKind.i64) (Ty.pair Ty.str (Ty.pair (Ty.int IntKind.i64) (Ty.int IntKind.i64))))))))
  | some (.l0 v0_1 v0_2) =>
    cond (Ops.lt B v0_1 (Nat.cast (List.length p0)))
     (
      cond (Ops.inb B v0_1 (List.length p0))
       (
        ob (c29 (32 :: 9 :: 10 :: mt (Ty.den (Ty.int IntKind.u8))) (Nat.cast (UInt8.toNat (List.getD p0 (Int.toNat v0_1) (0))))) fun y0 =>
        cond (y0)
         (
          again (.l0 (IntKind.wrap IntKind.i64 (v0_1 + 1)) v0_2))
         (
          cond (Ops.inb B v0_1 (List.length p0 + 1))
           (
            ob (c30 (List.drop (Int.toNat v0_1) (List.take (List.length p0) p0))) fun y1 =>
            cond (Ops.eq B (Prod.fst y1) (0))
             (
              k ((2, v0_1, mt (Ty.den (Ty.pair (Ty.int IntKind.i64) (Ty.pair Ty.str (Ty.pair (Ty.int IntKind.i64) (Ty.int IntKind.i64))))))))
             (
              cond (Ops.lim B (List.length v0_2 + List.length ((Prod.fst y1, Prod.fst (Prod.snd y1), Prod.fst (Prod.snd (Prod.snd y1)), v0_1) :: mt (Ty.den (Ty.pair (Ty.int IntKind.i64) (Ty.pair Ty.str (Ty.pair (Ty.int IntKind.i64) (Ty.int IntKind.i64))))))) (40))
               (
                again (.l0 (IntKind.wrap IntKind.i64 (v0_1 + Nat.cast (List.length (Prod.fst (Prod.snd y1))))) (v0_2 ++ (Prod.fst y1, Prod.fst (Prod.snd y1), Prod.fst (Prod.snd (Prod.snd y1)), v0_1) :: mt (Ty.den (Ty.pair (Ty.int IntKind.i64) (Ty.pair Ty.str (Ty.pair (Ty.int IntKind.i64) (Ty.int IntKind.i64))))))))
               (
                none)))
           (
            none)))
       (
        none))
     (
      cond (Ops.lim B (List.length v0_2 + List.length ((5, mt UInt8, 0, Nat.cast (List.length p0)) :: mt (Ty.den (Ty.pair (Ty.int IntKind.i64) (Ty.pair Ty.str (Ty.pair (Ty.int IntKind.i64) (Ty.int IntKind.i64))))))) (40))
       (
        k ((0, 0, v0_2 ++ (5, mt UInt8, 0, Nat.cast (List.length p0)) :: mt (Ty.den (Ty.pair (Ty.int IntKind.i64) (Ty.pair Ty.str (Ty.pair (Ty.int IntKind.i64) (Ty.int IntKind.i64))))))))
       (
        none))
def E8 (p0 : List UInt8) : S8 → List AV × Objs
  | .l0 v0_1 v0_2 => (mk 48 [(0, .c (.str p0)), (5, .c (.own 5)), (6, .c (.int .i64 v0_1))], [(5, .row 30 ty30 v0_2)])
def I8 : S8 → Nat
  | .l0 _ _ => 0
theorem eq8 {R : Type} (B : Ops) (c29 : List ty5.den → Int → Option (Bool)) (c30 : List UInt8 → Option (Int × (List UInt8) × Int × Int)) (p0 : List UInt8) (k : AV → Objs → Option R) (n : Nat) : afun tau B gl0 X8 (ent 29 (e29 c29) (ent 30 (e30 c30) (gnil))) ow Tryd.f8 [.c (.str p0)] [] k n = T8 B c29 c30 p0 (fun s => aloop tau B gl0 X8 (ent 29 (e29 c29) (ent 30 (e30 c30) (gnil))) ow [] Tryd.f8 k (I8 s) (E8 p0 s) n) (fun y => k (.tup [(false, [.own 501000]), (false, [.int .i64 y.1]), (false, [.int .i64 y.2.1])]) [(501000, .row 30 ty30 y.2.2)]) none := by kernel_rfl
theorem el8 {R : Type} (B : Ops) (c29 : List ty5.den → Int → Option (Bool)) (c30 : List UInt8 → Option (Int × (List UInt8) × Int × Int)) (p0 : List UInt8) (k : AV → Objs → Option R) (n : Nat) : ∀ s, aloop tau B gl0 X8 (ent 29 (e29 c29) (ent 30 (e30 c30) (gnil))) ow [] Tryd.f8 k (I8 s) (E8 p0 s) (n + 1) = T8 B c29 c30 p0 (fun s => aloop tau B gl0 X8 (ent 29 (e29 c29) (ent 30 (e30 c30) (gnil))) ow [] Tryd.f8 k (I8 s) (E8 p0 s) n) (fun y => k (.tup [(false, [.own 501000]), (false, [.int .i64 y.1]), (false, [.int .i64 y.2.1])]) [(501000, .row 30 ty30 y.2.2)]) (some s)
  | .l0 v0_1 v0_2 => by kernel_rfl
theorem nt8 {R R' : Type} (B : Ops) (c29 : List ty5.den → Int → Option (Bool)) (c30 : List UInt8 → Option (Int × (List UInt8) × Int × Int)) (p0 : List UInt8) (again : S8 → Option R) (again' : S8 → Option R') (k0 : (Int × Int × (List ty30.den)) → Option R') (k : R' → Option R) (h : ∀ s, again s = ob (again' s) k) : ∀ s, T8 B c29 c30 p0 again (fun y => ob (k0 y) k) s = ob (T8 B c29 c30 p0 again' k0 s) k
  | none => by unfold T8; repeat' first | exact rfl | exact h _ | apply nat_cond | (apply nat_ob; intro)
  | some (.l0 v0_1 v0_2) => by unfold T8; repeat' first | exact rfl | exact h _ | apply nat_cond | (apply nat_ob; intro)
def R8 (c29 : List ty5.den → Int → Option (Bool)) (c30 : List UInt8 → Option (Int × (List UInt8) × Int × Int)) (p0 : List UInt8) : Nat → S8 → Option (Int × Int × (List ty30.den))
  | 0, _ => none
  | n + 1, s => T8 Ops.std c29 c30 p0 (R8 c29 c30 p0 n) some (some s)
theorem rr8 {R : Type} (c29 : List ty5.den → Int → Option (Bool)) (c30 : List UInt8 → Option (Int × (List UInt8) × Int × Int)) (p0 : List UInt8) (k : AV → Objs → Option R) : ∀ (n : Nat) (s : S8), aloop tau Ops.std gl0 X8 (ent 29 (e29 c29) (ent 30 (e30 c30) (gnil))) ow [] Tryd.f8 k (I8 s) (E8 p0 s) n = ob (R8 c29 c30 p0 n s) (fun y => k (.tup [(false, [.own 501000]), (false, [.int .i64 y.1]), (false, [.int .i64 y.2.1])]) [(501000, .row 30 ty30 y.2.2)])
  | 0, s => by cases s <;> rfl
  | n + 1, s => by rw [el8]; exact nt8 Ops.std c29 c30 p0 _ _ some (fun y => k (.tup [(false, [.own 501000]), (false, [.int .i64 y.1]), (false, [.int .i64 y.2.1])]) [(501000, .row 30 ty30 y.2.2)]) (rr8 c29 c30 p0 k n) (some s)
def F8 (c29 : List ty5.den → Int → Option (Bool)) (c30 : List UInt8 → Option (Int × (List UInt8) × Int × Int)) (p0 : List UInt8) : Option (Int × Int × (List ty30.den)) := T8 Ops.std c29 c30 p0 (R8 c29 c30 p0 1000000) some none
theorem fo8 {R : Type} (c29 : List ty5.den → Int → Option (Bool)) (c30 : List UInt8 → Option (Int × (List UInt8) × Int × Int)) (p0 : List UInt8) (k : AV → Objs → Option R) : afun tau Ops.std gl0 X8 (ent 29 (e29 c29) (ent 30 (e30 c30) (gnil))) ow Tryd.f8 [.c (.str p0)] [] k 1000000 = ob (F8 c29 c30 p0) (fun y => k (.tup [(false, [.own 501000]), (false, [.int .i64 y.1]), (false, [.int .i64 y.2.1])]) [(501000, .row 30 ty30 y.2.2)]) := by rw [eq8]; exact nt8 Ops.std c29 c30 p0 _ _ some (fun y => k (.tup [(false, [.own 501000]), (false, [.int .i64 y.1]), (false, [.int .i64 y.2.1])]) [(501000, .row 30 ty30 y.2.2)]) (rr8 c29 c30 p0 k 1000000) none
def e8 {R : Type} (c : List UInt8 → Option (Int × Int × (List ty30.den))) : Ent R := fun args objs k =>
  oCons args fun a0 l0 => oC a0 fun x0 => cStr x0 fun p0 => oNil l0 <| oNilO objs <| ob (c p0) fun y => k (.tup [(false, [.own 501000]), (false, [.int .i64 y.1]), (false, [.int .i64 y.2.1])]) [(501000, .row 30 ty30 y.2.2)]
abbrev Sp8 (c : List UInt8 → Option (Int × Int × (List ty30.den))) : Prop := ∀ (p0 : List UInt8) (y : Int × Int × (List ty30.den)), c p0 = some y → Spec Tryd.prog gl0 8 [.c (.str p0)] [] (.tup [(false, [.own 501000]), (false, [.int .i64 y.1]), (false, [.int .i64 y.2.1])]) [(501000, .row 30 ty30 y.2.2)]
theorem ek8 {R : Type} {c : List UInt8 → Option (Int × Int × (List ty30.den))} (hs : Sp8 c) : EOk 8 (e8 (R := R) c) := fun args objs k r h => by
  unfold e8 at h
  obtain ⟨a0, l0, rfl, q1⟩ := oCons_some h
  obtain ⟨x0, rfl, q2⟩ := oC_some q1
  obtain ⟨p0, rfl, q3⟩ := cStr_some q2
  obtain ⟨rfl, q4⟩ := oNil_some q3
  obtain ⟨rfl, q5⟩ := oNilO_some q4
  exact eok_of (hs p0) q5
theorem sf8 {c29 : List ty5.den → Int → Option (Bool)} {c30 : List UInt8 → Option (Int × (List UInt8) × Int × Int)} (h29 : Sp29 c29) (h30 : Sp30 c30) : Sp8 (F8 c29 c30) := fun p0 y hy => by
  refine spec_of (G := ent 29 (e29 c29) (ent 30 (e30 c30) (gnil))) (ent_ok (ek29 h29) (ent_ok (ek30 h30) (gnil_ok))) 1000000 (fn := Tryd.f8) (by kernel_rfl) (by kernel_rfl) (X := X8) (by kernel_rfl) ?_
  rw [fo8, hy]
  rfl
noncomputable def M8 : List UInt8 → Option (Int × Int × (List ty30.den)) := F8 M29 M30
theorem sm8 : Sp8 M8 := sf8 sm29 sm30

/-! ### 6: lariat/lariatlaw7.known -/
def X6 : Aux := ⟨[], []⟩
def T6 {R : Type} (B : Ops) (c8 : List UInt8 → Option (Int × Int × (List ty30.den))) (k : (Bool) → Option R) : Option R :=
  ob (c8 ([120, 60, 61, 49, 48] : List UInt8)) fun y0 =>
  cond (Ops.eq B (Prod.fst y0) (0))
   (
    cond (Ops.eq B (Nat.cast (List.length (Prod.snd (Prod.snd y0)))) (4))
     (
      cond (Ops.inb B (0) (List.length (Prod.snd (Prod.snd y0))))
       (
        cond (Ops.eq B (Prod.fst (List.getD (Prod.snd (Prod.snd y0)) (Int.toNat (0)) (Ty.dflt ty30))) (2))
         (
          cond (Ops.inb B (1) (List.length (Prod.snd (Prod.snd y0))))
           (
            cond (Ops.eq B (Prod.fst (List.getD (Prod.snd (Prod.snd y0)) (Int.toNat (1)) (Ty.dflt ty30))) (4))
             (
              cond (Ops.inb B (1) (List.length (Prod.snd (Prod.snd y0))))
               (
                cond (Prod.fst (Prod.snd (List.getD (Prod.snd (Prod.snd y0)) (Int.toNat (1)) (Ty.dflt ty30))) == ([60, 61] : List UInt8))
                 (
                  cond (Ops.inb B (2) (List.length (Prod.snd (Prod.snd y0))))
                   (
                    cond (Ops.eq B (Prod.fst (List.getD (Prod.snd (Prod.snd y0)) (Int.toNat (2)) (Ty.dflt ty30))) (1))
                     (
                      cond (Ops.inb B (2) (List.length (Prod.snd (Prod.snd y0))))
                       (
                        cond (Ops.eq B (Prod.fst (Prod.snd (Prod.snd (List.getD (Prod.snd (Prod.snd y0)) (Int.toNat (2)) (Ty.dflt ty30))))) (10))
                         (
                          cond (Ops.inb B (3) (List.length (Prod.snd (Prod.snd y0))))
                           (
                            cond (Ops.eq B (Prod.fst (List.getD (Prod.snd (Prod.snd y0)) (Int.toNat (3)) (Ty.dflt ty30))) (5))
                             (
                              cond (Ops.inb B (3) (List.length (Prod.snd (Prod.snd y0))))
                               (
                                k (Ops.eq B (Prod.snd (Prod.snd (Prod.snd (List.getD (Prod.snd (Prod.snd y0)) (Int.toNat (3)) (Ty.dflt ty30))))) (5)))
                               (
                                none))
                             (
                              k false))
                           (
                            none))
                         (
                          k false))
                       (
                        none))
                     (
                      k false))
                   (
                    none))
                 (
                  k false))
               (
                none))
             (
              k false))
           (
            none))
         (
          k false))
       (
        none))
     (
      k false))
   (
    k false)
theorem eq6 {R : Type} (B : Ops) (c8 : List UInt8 → Option (Int × Int × (List ty30.den))) (k : AV → Objs → Option R) (n : Nat) : afun tau B gl0 X6 (ent 8 (e8 c8) (gnil)) ow Tryd.f6 [] [] k n = T6 B c8 (fun y => k (.c (.bool y)) []) := by kernel_rfl
theorem nt6 {R R' : Type} (B : Ops) (c8 : List UInt8 → Option (Int × Int × (List ty30.den))) (k0 : (Bool) → Option R') (k : R' → Option R) : T6 B c8 (fun y => ob (k0 y) k) = ob (T6 B c8 k0) k := by
  unfold T6
  repeat' first | exact rfl | apply nat_cond | (apply nat_ob; intro)
def F6 (c8 : List UInt8 → Option (Int × Int × (List ty30.den))) : Option (Bool) := T6 Ops.std c8 some
theorem fo6 {R : Type} (c8 : List UInt8 → Option (Int × Int × (List ty30.den))) (k : AV → Objs → Option R) (n : Nat) : afun tau Ops.std gl0 X6 (ent 8 (e8 c8) (gnil)) ow Tryd.f6 [] [] k n = ob (F6 c8) (fun y => k (.c (.bool y)) []) := by rw [eq6]; exact nt6 Ops.std c8 some (fun y => k (.c (.bool y)) [])
def e6 {R : Type} (c : Option (Bool)) : Ent R := fun args objs k =>
  oNil args <| oNilO objs <| ob (c ) fun y => k (.c (.bool y)) []
abbrev Sp6 (c : Option (Bool)) : Prop := ∀ (y : Bool), c = some y → Spec Tryd.prog gl0 6 [] [] (.c (.bool y)) []
theorem ek6 {R : Type} {c : Option (Bool)} (hs : Sp6 c) : EOk 6 (e6 (R := R) c) := fun args objs k r h => by
  unfold e6 at h
  obtain ⟨rfl, q1⟩ := oNil_some h
  obtain ⟨rfl, q2⟩ := oNilO_some q1
  exact eok_of (hs ) q2
theorem sf6 {c8 : List UInt8 → Option (Int × Int × (List ty30.den))} (h8 : Sp8 c8) : Sp6 (F6 c8) := fun y hy => by
  refine spec_of (G := ent 8 (e8 c8) (gnil)) (ent_ok (ek8 h8) (gnil_ok)) 1000000 (fn := Tryd.f6) (by kernel_rfl) (by kernel_rfl) (X := X6) (by kernel_rfl) ?_
  rw [fo6, hy]
  rfl
noncomputable def M6 : Option (Bool) := F6 M8
theorem sm6 : Sp6 M6 := sf6 sm8

/-! ### 25: lariat/lariathand.Pick -/
def X25 : Aux := ⟨[], []⟩
def T25 {R : Type} (B : Ops) (p0 : Int) (p1 : Int) (k : (Int) → Option R) : Option R :=
  cond (Ops.eq B p1 (0))
   (
    none)
   (
    cond (Ops.lt B (Int.tmod p0 p1) (0))
     (
      k (IntKind.wrap IntKind.i64 (Int.tmod p0 p1 + p1)))
     (
      k (Int.tmod p0 p1)))
theorem eq25 {R : Type} (B : Ops) (p0 : Int) (p1 : Int) (k : AV → Objs → Option R) (n : Nat) : afun tau B gl0 X25 (gnil) ow Tryd.f25 [.c (.int .i64 p0), .c (.int .i64 p1)] [] k n = T25 B p0 p1 (fun y => k (.c (.int .i64 y)) []) := by kernel_rfl
theorem nt25 {R R' : Type} (B : Ops) (p0 : Int) (p1 : Int) (k0 : (Int) → Option R') (k : R' → Option R) : T25 B p0 p1 (fun y => ob (k0 y) k) = ob (T25 B p0 p1 k0) k := by
  unfold T25
  repeat' first | exact rfl | apply nat_cond | (apply nat_ob; intro)
def F25 (p0 : Int) (p1 : Int) : Option (Int) := T25 Ops.std p0 p1 some
theorem fo25 {R : Type} (p0 : Int) (p1 : Int) (k : AV → Objs → Option R) (n : Nat) : afun tau Ops.std gl0 X25 (gnil) ow Tryd.f25 [.c (.int .i64 p0), .c (.int .i64 p1)] [] k n = ob (F25 p0 p1) (fun y => k (.c (.int .i64 y)) []) := by rw [eq25]; exact nt25 Ops.std p0 p1 some (fun y => k (.c (.int .i64 y)) [])
def e25 {R : Type} (c : Int → Int → Option (Int)) : Ent R := fun args objs k =>
  oCons args fun a0 l0 => oC a0 fun x0 => cInt .i64 x0 fun p0 => oCons l0 fun a1 l1 => oC a1 fun x1 => cInt .i64 x1 fun p1 => oNil l1 <| oNilO objs <| ob (c p0 p1) fun y => k (.c (.int .i64 y)) []
abbrev Sp25 (c : Int → Int → Option (Int)) : Prop := ∀ (p0 : Int) (p1 : Int) (y : Int), c p0 p1 = some y → Spec Tryd.prog gl0 25 [.c (.int .i64 p0), .c (.int .i64 p1)] [] (.c (.int .i64 y)) []
theorem ek25 {R : Type} {c : Int → Int → Option (Int)} (hs : Sp25 c) : EOk 25 (e25 (R := R) c) := fun args objs k r h => by
  unfold e25 at h
  obtain ⟨a0, l0, rfl, q1⟩ := oCons_some h
  obtain ⟨x0, rfl, q2⟩ := oC_some q1
  obtain ⟨p0, rfl, q3⟩ := cInt_some q2
  obtain ⟨a1, l1, rfl, q4⟩ := oCons_some q3
  obtain ⟨x1, rfl, q5⟩ := oC_some q4
  obtain ⟨p1, rfl, q6⟩ := cInt_some q5
  obtain ⟨rfl, q7⟩ := oNil_some q6
  obtain ⟨rfl, q8⟩ := oNilO_some q7
  exact eok_of (hs p0 p1) q8
theorem sf25 : Sp25 (F25) := fun p0 p1 y hy => by
  refine spec_of (G := gnil) (gnil_ok) 1000000 (fn := Tryd.f25) (by kernel_rfl) (by kernel_rfl) (X := X25) (by kernel_rfl) ?_
  rw [fo25, hy]
  rfl
noncomputable def M25 : Int → Int → Option (Int) := F25
theorem sm25 : Sp25 M25 := sf25

/-! ### 58: (*lariat/lariathand.feed).next -/
def X58 : Aux := ⟨[], [(4, .lin [0, 1, 2, 3, 4, 5, 6, 7, 8, 9, 10, 11, 12, 13, 14, 15, 16, 17, 18, 19, 20, 21, 22, 23, 24, 25, 26, 27, 28, 29, 30])]⟩
def T58 {R : Type} (B : Ops) (c25 : Int → Int → Option (Int)) (p0 : Int) (p1 : List ty3.den) (p2 : Int) (k : (Int × (List ty3.den) × Int) → Option R) : Option R :=
  cond (Ops.eq B (Nat.cast (List.length p1)) (0))
   (
    k ((0, p1, p2)))
   (
    cond (Ops.eq B (Nat.cast (List.length p1)) (0))
     (
      none)
     (
      cond (Ops.inb B (Int.tmod (IntKind.wrap IntKind.i64 (p2 + 1)) (Nat.cast (List.length p1))) (List.length p1))
       (
        cond (Ops.eq B (Nat.cast (List.length p1)) (0))
         (
          none)
         (
          cond (Ops.eq B (IntKind.wrap IntKind.i64 (1 + IntKind.wrap IntKind.i64 (Int.tdiv (IntKind.wrap IntKind.i64 (p2 + 1)) (Nat.cast (List.length p1))))) (0))
           (
            none)
           (
            ob (c25 (IntKind.wrap IntKind.i64 (Int.tdiv (List.getD p1 (Int.toNat (Int.tmod (IntKind.wrap IntKind.i64 (p2 + 1)) (Nat.cast (List.length p1)))) (Ty.dflt ty3)) (IntKind.wrap IntKind.i64 (1 + IntKind.wrap IntKind.i64 (Int.tdiv (IntKind.wrap IntKind.i64 (p2 + 1)) (Nat.cast (List.length p1))))))) p0) fun y0 =>
            k ((y0, p1, IntKind.wrap IntKind.i64 (p2 + 1))))))
       (
        none)))
theorem eq58 {R : Type} (B : Ops) (c25 : Int → Int → Option (Int)) (p0 : Int) (p1 : List ty3.den) (p2 : Int) (k : AV → Objs → Option R) (n : Nat) : afun tau B gl0 X58 (ent 25 (e25 c25) (gnil)) ow Tryd.f58 [.c (.ptr 0 0), .c (.int .i64 p0)] [(0, .box 78 [.list 3 ty3 p1, .int .i64 p2])] k n = T58 B c25 p0 p1 p2 (fun y => k (.c (.int .i64 y.1)) [(0, .box 78 [.list 3 ty3 y.2.1, .int .i64 y.2.2])]) := by kernel_rfl
theorem nt58 {R R' : Type} (B : Ops) (c25 : Int → Int → Option (Int)) (p0 : Int) (p1 : List ty3.den) (p2 : Int) (k0 : (Int × (List ty3.den) × Int) → Option R') (k : R' → Option R) : T58 B c25 p0 p1 p2 (fun y => ob (k0 y) k) = ob (T58 B c25 p0 p1 p2 k0) k := by
  unfold T58
  repeat' first | exact rfl | apply nat_cond | (apply nat_ob; intro)
def F58 (c25 : Int → Int → Option (Int)) (p0 : Int) (p1 : List ty3.den) (p2 : Int) : Option (Int × (List ty3.den) × Int) := T58 Ops.std c25 p0 p1 p2 some
theorem fo58 {R : Type} (c25 : Int → Int → Option (Int)) (p0 : Int) (p1 : List ty3.den) (p2 : Int) (k : AV → Objs → Option R) (n : Nat) : afun tau Ops.std gl0 X58 (ent 25 (e25 c25) (gnil)) ow Tryd.f58 [.c (.ptr 0 0), .c (.int .i64 p0)] [(0, .box 78 [.list 3 ty3 p1, .int .i64 p2])] k n = ob (F58 c25 p0 p1 p2) (fun y => k (.c (.int .i64 y.1)) [(0, .box 78 [.list 3 ty3 y.2.1, .int .i64 y.2.2])]) := by rw [eq58]; exact nt58 Ops.std c25 p0 p1 p2 some (fun y => k (.c (.int .i64 y.1)) [(0, .box 78 [.list 3 ty3 y.2.1, .int .i64 y.2.2])])
def e58 {R : Type} (c : Int → List ty3.den → Int → Option (Int × (List ty3.den) × Int)) : Ent R := fun args objs k =>
  oCons args fun a0 l0 => oC a0 fun x0 => cPtr 0 x0 <| oCons l0 fun a1 l1 => oC a1 fun x1 => cInt .i64 x1 fun p0 => oNil l1 <| oBox 0 78 objs fun b0 o0 => cCons b0 fun u0_0 v0_0 => cList 3 ty3 u0_0 fun p1 => cCons v0_0 fun u0_1 v0_1 => cInt .i64 u0_1 fun p2 => cNil v0_1 <| oNilO o0 <| ob (c p0 p1 p2) fun y => k (.c (.int .i64 y.1)) [(0, .box 78 [.list 3 ty3 y.2.1, .int .i64 y.2.2])]
abbrev Sp58 (c : Int → List ty3.den → Int → Option (Int × (List ty3.den) × Int)) : Prop := ∀ (p0 : Int) (p1 : List ty3.den) (p2 : Int) (y : Int × (List ty3.den) × Int), c p0 p1 p2 = some y → Spec Tryd.prog gl0 58 [.c (.ptr 0 0), .c (.int .i64 p0)] [(0, .box 78 [.list 3 ty3 p1, .int .i64 p2])] (.c (.int .i64 y.1)) [(0, .box 78 [.list 3 ty3 y.2.1, .int .i64 y.2.2])]
theorem ek58 {R : Type} {c : Int → List ty3.den → Int → Option (Int × (List ty3.den) × Int)} (hs : Sp58 c) : EOk 58 (e58 (R := R) c) := fun args objs k r h => by
  unfold e58 at h
  obtain ⟨a0, l0, rfl, q1⟩ := oCons_some h
  obtain ⟨x0, rfl, q2⟩ := oC_some q1
  obtain ⟨rfl, q3⟩ := cPtr_some q2
  obtain ⟨a1, l1, rfl, q4⟩ := oCons_some q3
  obtain ⟨x1, rfl, q5⟩ := oC_some q4
  obtain ⟨p0, rfl, q6⟩ := cInt_some q5
  obtain ⟨rfl, q7⟩ := oNil_some q6
  obtain ⟨b0, o0, rfl, q8⟩ := oBox_some q7
  obtain ⟨u0_0, v0_0, rfl, q9⟩ := cCons_some q8
  obtain ⟨p1, rfl, q10⟩ := cList_some q9
  obtain ⟨u0_1, v0_1, rfl, q11⟩ := cCons_some q10
  obtain ⟨p2, rfl, q12⟩ := cInt_some q11
  obtain ⟨rfl, q13⟩ := cNil_some q12
  obtain ⟨rfl, q14⟩ := oNilO_some q13
  exact eok_of (hs p0 p1 p2) q14
theorem sf58 {c25 : Int → Int → Option (Int)} (h25 : Sp25 c25) : Sp58 (F58 c25) := fun p0 p1 p2 y hy => by
  refine spec_of (G := ent 25 (e25 c25) (gnil)) (ent_ok (ek25 h25) (gnil_ok)) 1000000 (fn := Tryd.f58) (by kernel_rfl) (by kernel_rfl) (X := X58) (by kernel_rfl) ?_
  rw [fo58, hy]
  rfl
noncomputable def M58 : Int → List ty3.den → Int → Option (Int × (List ty3.den) × Int) := F58 M25
theorem sm58 : Sp58 M58 := sf58 sm25
def e43 {R : Type} (c : Int → List ty3.den → Int → Option ((List UInt8) × (List ty3.den) × Int)) : Ent R := fun args objs k =>
  oCons args fun a0 l0 => oC a0 fun x0 => cPtr 0 x0 <| oCons l0 fun a1 l1 => oC a1 fun x1 => cInt .i64 x1 fun p0 => oNil l1 <| oBox 0 78 objs fun b0 o0 => cCons b0 fun u0_0 v0_0 => cList 3 ty3 u0_0 fun p1 => cCons v0_0 fun u0_1 v0_1 => cInt .i64 u0_1 fun p2 => cNil v0_1 <| oNilO o0 <| ob (c p0 p1 p2) fun y => k (.c (.str y.1)) [(0, .box 78 [.list 3 ty3 y.2.1, .int .i64 y.2.2])]
abbrev Sp43 (c : Int → List ty3.den → Int → Option ((List UInt8) × (List ty3.den) × Int)) : Prop := ∀ (p0 : Int) (p1 : List ty3.den) (p2 : Int) (y : (List UInt8) × (List ty3.den) × Int), c p0 p1 p2 = some y → Spec Tryd.prog gl0 43 [.c (.ptr 0 0), .c (.int .i64 p0)] [(0, .box 78 [.list 3 ty3 p1, .int .i64 p2])] (.c (.str y.1)) [(0, .box 78 [.list 3 ty3 y.2.1, .int .i64 y.2.2])]
theorem ek43 {R : Type} {c : Int → List ty3.den → Int → Option ((List UInt8) × (List ty3.den) × Int)} (hs : Sp43 c) : EOk 43 (e43 (R := R) c) := fun args objs k r h => by
  unfold e43 at h
  obtain ⟨a0, l0, rfl, q1⟩ := oCons_some h
  obtain ⟨x0, rfl, q2⟩ := oC_some q1
  obtain ⟨rfl, q3⟩ := cPtr_some q2
  obtain ⟨a1, l1, rfl, q4⟩ := oCons_some q3
  obtain ⟨x1, rfl, q5⟩ := oC_some q4
  obtain ⟨p0, rfl, q6⟩ := cInt_some q5
  obtain ⟨rfl, q7⟩ := oNil_some q6
  obtain ⟨b0, o0, rfl, q8⟩ := oBox_some q7
  obtain ⟨u0_0, v0_0, rfl, q9⟩ := cCons_some q8
  obtain ⟨p1, rfl, q10⟩ := cList_some q9
  obtain ⟨u0_1, v0_1, rfl, q11⟩ := cCons_some q10
  obtain ⟨p2, rfl, q12⟩ := cInt_some q11
  obtain ⟨rfl, q13⟩ := cNil_some q12
  obtain ⟨rfl, q14⟩ := oNilO_some q13
  exact eok_of (hs p0 p1 p2) q14

/-! ### 43: (*lariat/lariathand.feed).formula -/
def X43 : Aux := ⟨[(1000004, [2, 3, 4, 6, 7, 8, 9, 10, 11, 12, 13, 14, 15, 16, 17, 18, 19, 20, 21, 22, 23, 24, 25, 26, 27, 28, 29, 30, 31, 32, 33, 34, 35, 36, 37, 38, 39, 40, 41, 42, 43, 44, 45, 46, 47, 48, 49, 50, 51, 52, 53, 54, 55, 56, 57, 58, 59, 60, 61, 62, 63, 64, 65, 66, 67, 68, 69, 70, 71, 72, 73, 74, 75, 76, 77, 78, 79, 80, 81, 82, 83, 84, 85, 86, 87, 88, 89, 90, 91, 92, 93, 94, 95, 96, 97, 98, 99, 100, 101, 102, 103, 104, 105, 106, 107, 108, 109, 110])], [(11, .lin [0, 1, 2, 5, 6, 10, 11, 12, 3, 4, 7, 8, 9, 13, 14, 15, 16]), (13, .lin [0, 1, 2, 5, 6, 10, 11, 12, 3, 4, 7, 8, 9, 13, 14, 15, 16])]⟩
inductive S43 where
  | l1004 (v1004_1 : Int) (v1004_2 : List ty3.den) (v1004_3 : Int)
def T43 {R : Type} (B : Ops) (c58 : Int → List ty3.den → Int → Option (Int × (List ty3.den) × Int)) (c43 : Int → List ty3.den → Int → Option ((List UInt8) × (List ty3.den) × Int)) (p0 : Int) (p1 : List ty3.den) (p2 : Int) (again : S43 → Option R) (k : ((List UInt8) × (List ty3.den) × Int) → Option R) : Option S43 → Option R
  | none =>
    ob (c58 (22) p1 p2) fun y0 =>
    cond (Ops.lt B (2) p0)
     (
      cond (Ops.eq B (4) (0))
       (
        none)
       (
        again (.l1004 (IntKind.wrap IntKind.i64 (18 + Int.tmod (Prod.fst y0) (4))) (Prod.fst (Prod.snd y0)) (Prod.snd (Prod.snd y0)))))
     (
      cond (Ops.lt B (9) (Prod.snd (Prod.snd y0)))
       (
        cond (Ops.eq B (4) (0))
         (
          none)
         (
          again (.l1004 (IntKind.wrap IntKind.i64 (18 + Int.tmod (Prod.fst y0) (4))) (Prod.fst (Prod.snd y0)) (Prod.snd (Prod.snd y0)))))
       (
        again (.l1004 (Prod.fst y0) (Prod.fst (Prod.snd y0)) (Prod.snd (Prod.snd y0)))))
  | some (.l1004 v1004_1 v1004_2 v1004_3) =>
    cond (Ops.lt B v1004_1 (3))
     (
      ob (c43 (IntKind.wrap IntKind.i64 (p0 + 1)) v1004_2 v1004_3) fun y0 =>
      cond (Ops.lim B (3 + List.length (Prod.fst y0)) (1))
       (
        cond (Ops.lim B (List.length (([71, 32, 40] : List UInt8) ++ Prod.fst y0) + 1) (1))
         (
          k ((([71, 32, 40] : List UInt8) ++ Prod.fst y0 ++ ([41] : List UInt8), Prod.fst (Prod.snd y0), Prod.snd (Prod.snd y0))))
         (
          none))
       (
        none))
     (
      cond (Ops.lt B v1004_1 (6))
       (
        ob (c43 (IntKind.wrap IntKind.i64 (p0 + 1)) v1004_2 v1004_3) fun y0 =>
        cond (Ops.lim B (3 + List.length (Prod.fst y0)) (1))
         (
          cond (Ops.lim B (List.length (([70, 32, 40] : List UInt8) ++ Prod.fst y0) + 1) (1))
           (
            k ((([70, 32, 40] : List UInt8) ++ Prod.fst y0 ++ ([41] : List UInt8), Prod.fst (Prod.snd y0), Prod.snd (Prod.snd y0))))
           (
            none))
         (
          none))
       (
        cond (Ops.lt B v1004_1 (8))
         (
          ob (c43 (IntKind.wrap IntKind.i64 (p0 + 1)) v1004_2 v1004_3) fun y0 =>
          cond (Ops.lim B (2 + List.length (Prod.fst y0)) (1))
           (
            k ((([88, 32] : List UInt8) ++ Prod.fst y0, Prod.fst (Prod.snd y0), Prod.snd (Prod.snd y0))))
           (
            none))
         (
          cond (Ops.lt B v1004_1 (11))
           (
            ob (c43 (IntKind.wrap IntKind.i64 (p0 + 1)) v1004_2 v1004_3) fun y0 =>
            cond (Ops.lim B (1 + List.length (Prod.fst y0)) (1))
             (
              ob (c58 (2) (Prod.fst (Prod.snd y0)) (Prod.snd (Prod.snd y0))) fun y1 =>
              cond (Ops.inb B (Prod.fst y1) (2))
               (
                cond (Ops.lim B (List.length (([40] : List UInt8) ++ Prod.fst y0) + List.length (List.getD (([32, 85, 32] : List UInt8) :: ([32, 82, 32] : List UInt8) :: mt (List UInt8)) (Int.toNat (Prod.fst y1)) (mt UInt8))) (1))
                 (
                  ob (c43 (IntKind.wrap IntKind.i64 (p0 + 1)) (Prod.fst (Prod.snd y1)) (Prod.snd (Prod.snd y1))) fun y2 =>
                  cond (Ops.lim B (List.length (([40] : List UInt8) ++ Prod.fst y0 ++ List.getD (([32, 85, 32] : List UInt8) :: ([32, 82, 32] : List UInt8) :: mt (List UInt8)) (Int.toNat (Prod.fst y1)) (mt UInt8)) + List.length (Prod.fst y2)) (1))
                   (
                    cond (Ops.lim B (List.length (([40] : List UInt8) ++ Prod.fst y0 ++ List.getD (([32, 85, 32] : List UInt8) :: ([32, 82, 32] : List UInt8) :: mt (List UInt8)) (Int.toNat (Prod.fst y1)) (mt UInt8) ++ Prod.fst y2) + 1) (1))
                     (
                      k ((([40] : List UInt8) ++ Prod.fst y0 ++ List.getD (([32, 85, 32] : List UInt8) :: ([32, 82, 32] : List UInt8) :: mt (List UInt8)) (Int.toNat (Prod.fst y1)) (mt UInt8) ++ Prod.fst y2 ++ ([41] : List UInt8), Prod.fst (Prod.snd y2), Prod.snd (Prod.snd y2))))
                     (
                      none))
                   (
                    none))
                 (
                  none))
               (
                none))
             (
              none))
           (
            cond (Ops.lt B v1004_1 (15))
             (
              ob (c43 (IntKind.wrap IntKind.i64 (p0 + 1)) v1004_2 v1004_3) fun y0 =>
              cond (Ops.lim B (1 + List.length (Prod.fst y0)) (1))
               (
                ob (c58 (3) (Prod.fst (Prod.snd y0)) (Prod.snd (Prod.snd y0))) fun y1 =>
                cond (Ops.inb B (Prod.fst y1) (3))
                 (
                  cond (Ops.lim B (List.length (([40] : List UInt8) ++ Prod.fst y0) + List.length (List.getD (([32, 38, 38, 32] : List UInt8) :: ([32, 124, 124, 32] : List UInt8) :: ([32, 45, 62, 32] : List UInt8) :: mt (List UInt8)) (Int.toNat (Prod.fst y1)) (mt UInt8))) (1))
                   (
                    ob (c43 (IntKind.wrap IntKind.i64 (p0 + 1)) (Prod.fst (Prod.snd y1)) (Prod.snd (Prod.snd y1))) fun y2 =>
                    cond (Ops.lim B (List.length (([40] : List UInt8) ++ Prod.fst y0 ++ List.getD (([32, 38, 38, 32] : List UInt8) :: ([32, 124, 124, 32] : List UInt8) :: ([32, 45, 62, 32] : List UInt8) :: mt (List UInt8)) (Int.toNat (Prod.fst y1)) (mt UInt8)) + List.length (Prod.fst y2)) (1))
                     (
                      cond (Ops.lim B (List.length (([40] : List UInt8) ++ Prod.fst y0 ++ List.getD (([32, 38, 38, 32] : List UInt8) :: ([32, 124, 124, 32] : List UInt8) :: ([32, 45, 62, 32] : List UInt8) :: mt (List UInt8)) (Int.toNat (Prod.fst y1)) (mt UInt8) ++ Prod.fst y2) + 1) (1))
                       (
                        k ((([40] : List UInt8) ++ Prod.fst y0 ++ List.getD (([32, 38, 38, 32] : List UInt8) :: ([32, 124, 124, 32] : List UInt8) :: ([32, 45, 62, 32] : List UInt8) :: mt (List UInt8)) (Int.toNat (Prod.fst y1)) (mt UInt8) ++ Prod.fst y2 ++ ([41] : List UInt8), Prod.fst (Prod.snd y2), Prod.snd (Prod.snd y2))))
                       (
                        none))
                     (
                      none))
                   (
                    none))
                 (
                  none))
               (
                none))
             (
              cond (Ops.lt B v1004_1 (17))
               (
                ob (c43 (IntKind.wrap IntKind.i64 (p0 + 1)) v1004_2 v1004_3) fun y0 =>
                cond (Ops.lim B (1 + List.length (Prod.fst y0)) (1))
                 (
                  k ((([33] : List UInt8) ++ Prod.fst y0, Prod.fst (Prod.snd y0), Prod.snd (Prod.snd y0))))
                 (
                  none))
               (
                cond (Ops.eq B v1004_1 (17))
                 (
                  ob (c43 (IntKind.wrap IntKind.i64 (p0 + 1)) v1004_2 v1004_3) fun y0 =>
                  cond (Ops.lim B (4 + List.length (Prod.fst y0)) (1))
                   (
                    k ((([71, 32, 70, 32] : List UInt8) ++ Prod.fst y0, Prod.fst (Prod.snd y0), Prod.snd (Prod.snd y0))))
                   (
                    none))
                 (
                  cond (Ops.eq B v1004_1 (18))
                   (
                    ob (c58 (2) v1004_2 v1004_3) fun y0 =>
                    cond (Ops.inb B (Prod.fst y0) (2))
                     (
                      k ((List.getD (([116, 114, 117, 101] : List UInt8) :: ([102, 97, 108, 115, 101] : List UInt8) :: mt (List UInt8)) (Int.toNat (Prod.fst y0)) (mt UInt8), Prod.fst (Prod.snd y0), Prod.snd (Prod.snd y0))))
                     (
                      none))
                   (
                    ob (c58 (6) v1004_2 v1004_3) fun y0 =>
                    cond (Ops.inb B (Prod.fst y0) (6))
                     (
                      k ((List.getD (([91, 120, 61, 61, 49, 93] : List UInt8) :: ([91, 112, 64, 97, 93] : List UInt8) :: ([91, 121, 60, 49, 93] : List UInt8) :: ([91, 113, 64, 98, 38, 38, 120, 62, 48, 93] : List UInt8) :: ([91, 120, 61, 61, 121, 93] : List UInt8) :: ([91, 112, 64, 98, 93] : List UInt8) :: mt (List UInt8)) (Int.toNat (Prod.fst y0)) (mt UInt8), Prod.fst (Prod.snd y0), Prod.snd (Prod.snd y0))))
                     (
                      none)))))))))
def E43 (p0 : Int) (p1 : List ty3.den) (p2 : Int) : S43 → List AV × Objs
  | .l1004 v1004_1 v1004_2 v1004_3 => (mk 111 [(0, .c (.ptr 0 0)), (1, .c (.int .i64 p0)), (5, .c (.int .i64 v1004_1))], [(0, .box 78 [.list 3 ty3 v1004_2, .int .i64 v1004_3])])
def I43 : S43 → Nat
  | .l1004 _ _ _ => 1004
theorem eq43 {R : Type} (B : Ops) (c58 : Int → List ty3.den → Int → Option (Int × (List ty3.den) × Int)) (c43 : Int → List ty3.den → Int → Option ((List UInt8) × (List ty3.den) × Int)) (p0 : Int) (p1 : List ty3.den) (p2 : Int) (k : AV → Objs → Option R) (n : Nat) : afun tau B gl0 X43 (ent 58 (e58 c58) (ent 43 (e43 c43) (gnil))) ow Tryd.f43 [.c (.ptr 0 0), .c (.int .i64 p0)] [(0, .box 78 [.list 3 ty3 p1, .int .i64 p2])] k n = T43 B c58 c43 p0 p1 p2 (fun s => aloop tau B gl0 X43 (ent 58 (e58 c58) (ent 43 (e43 c43) (gnil))) ow [0] Tryd.f43 k (I43 s) (E43 p0 p1 p2 s) n) (fun y => k (.c (.str y.1)) [(0, .box 78 [.list 3 ty3 y.2.1, .int .i64 y.2.2])]) none := by kernel_rfl
theorem el43 {R : Type} (B : Ops) (c58 : Int → List ty3.den → Int → Option (Int × (List ty3.den) × Int)) (c43 : Int → List ty3.den → Int → Option ((List UInt8) × (List ty3.den) × Int)) (p0 : Int) (p1 : List ty3.den) (p2 : Int) (k : AV → Objs → Option R) (n : Nat) : ∀ s, aloop tau B gl0 X43 (ent 58 (e58 c58) (ent 43 (e43 c43) (gnil))) ow [0] Tryd.f43 k (I43 s) (E43 p0 p1 p2 s) (n + 1) = T43 B c58 c43 p0 p1 p2 (fun s => aloop tau B gl0 X43 (ent 58 (e58 c58) (ent 43 (e43 c43) (gnil))) ow [0] Tryd.f43 k (I43 s) (E43 p0 p1 p2 s) n) (fun y => k (.c (.str y.1)) [(0, .box 78 [.list 3 ty3 y.2.1, .int .i64 y.2.2])]) (some s)
  | .l1004 v1004_1 v1004_2 v1004_3 => by kernel_rfl
theorem nt43 {R R' : Type} (B : Ops) (c58 : Int → List ty3.den → Int → Option (Int × (List ty3.den) × Int)) (c43 : Int → List ty3.den → Int → Option ((List UInt8) × (List ty3.den) × Int)) (p0 : Int) (p1 : List ty3.den) (p2 : Int) (again : S43 → Option R) (again' : S43 → Option R') (k0 : ((List UInt8) × (List ty3.den) × Int) → Option R') (k : R' → Option R) (h : ∀ s, again s = ob (again' s) k) : ∀ s, T43 B c58 c43 p0 p1 p2 again (fun y => ob (k0 y) k) s = ob (T43 B c58 c43 p0 p1 p2 again' k0 s) k
  | none => by unfold T43; repeat' first | exact rfl | exact h _ | apply nat_cond | (apply nat_ob; intro)
  | some (.l1004 v1004_1 v1004_2 v1004_3) => by unfold T43; repeat' first | exact rfl | exact h _ | apply nat_cond | (apply nat_ob; intro)
def R43 (c58 : Int → List ty3.den → Int → Option (Int × (List ty3.den) × Int)) (c43 : Int → List ty3.den → Int → Option ((List UInt8) × (List ty3.den) × Int)) (p0 : Int) (p1 : List ty3.den) (p2 : Int) : Nat → S43 → Option ((List UInt8) × (List ty3.den) × Int)
  | 0, _ => none
  | n + 1, s => T43 Ops.std c58 c43 p0 p1 p2 (R43 c58 c43 p0 p1 p2 n) some (some s)
theorem rr43 {R : Type} (c58 : Int → List ty3.den → Int → Option (Int × (List ty3.den) × Int)) (c43 : Int → List ty3.den → Int → Option ((List UInt8) × (List ty3.den) × Int)) (p0 : Int) (p1 : List ty3.den) (p2 : Int) (k : AV → Objs → Option R) : ∀ (n : Nat) (s : S43), aloop tau Ops.std gl0 X43 (ent 58 (e58 c58) (ent 43 (e43 c43) (gnil))) ow [0] Tryd.f43 k (I43 s) (E43 p0 p1 p2 s) n = ob (R43 c58 c43 p0 p1 p2 n s) (fun y => k (.c (.str y.1)) [(0, .box 78 [.list 3 ty3 y.2.1, .int .i64 y.2.2])])
  | 0, s => by cases s <;> rfl
  | n + 1, s => by rw [el43]; exact nt43 Ops.std c58 c43 p0 p1 p2 _ _ some (fun y => k (.c (.str y.1)) [(0, .box 78 [.list 3 ty3 y.2.1, .int .i64 y.2.2])]) (rr43 c58 c43 p0 p1 p2 k n) (some s)
def F43 (c58 : Int → List ty3.den → Int → Option (Int × (List ty3.den) × Int)) (c43 : Int → List ty3.den → Int → Option ((List UInt8) × (List ty3.den) × Int)) (p0 : Int) (p1 : List ty3.den) (p2 : Int) : Option ((List UInt8) × (List ty3.den) × Int) := T43 Ops.std c58 c43 p0 p1 p2 (R43 c58 c43 p0 p1 p2 1000000) some none
theorem fo43 {R : Type} (c58 : Int → List ty3.den → Int → Option (Int × (List ty3.den) × Int)) (c43 : Int → List ty3.den → Int → Option ((List UInt8) × (List ty3.den) × Int)) (p0 : Int) (p1 : List ty3.den) (p2 : Int) (k : AV → Objs → Option R) : afun tau Ops.std gl0 X43 (ent 58 (e58 c58) (ent 43 (e43 c43) (gnil))) ow Tryd.f43 [.c (.ptr 0 0), .c (.int .i64 p0)] [(0, .box 78 [.list 3 ty3 p1, .int .i64 p2])] k 1000000 = ob (F43 c58 c43 p0 p1 p2) (fun y => k (.c (.str y.1)) [(0, .box 78 [.list 3 ty3 y.2.1, .int .i64 y.2.2])]) := by rw [eq43]; exact nt43 Ops.std c58 c43 p0 p1 p2 _ _ some (fun y => k (.c (.str y.1)) [(0, .box 78 [.list 3 ty3 y.2.1, .int .i64 y.2.2])]) (rr43 c58 c43 p0 p1 p2 k 1000000) none
theorem sf43 {c58 : Int → List ty3.den → Int → Option (Int × (List ty3.den) × Int)} {c43 : Int → List ty3.den → Int → Option ((List UInt8) × (List ty3.den) × Int)} (h58 : Sp58 c58) (h43 : Sp43 c43) : Sp43 (F43 c58 c43) := fun p0 p1 p2 y hy => by
  refine spec_of (G := ent 58 (e58 c58) (ent 43 (e43 c43) (gnil))) (ent_ok (ek58 h58) (ent_ok (ek43 h43) (gnil_ok))) 1000000 (fn := Tryd.f43) (by kernel_rfl) (by kernel_rfl) (X := X43) (by kernel_rfl) ?_
  rw [fo43, hy]
  rfl
noncomputable def Rec43 : Nat → (Int → List ty3.den → Int → Option ((List UInt8) × (List ty3.den) × Int))
  | 0 => fun _ _ _ => none
  | d + 1 => F43 M58 (Rec43 d)
theorem rec43 : ∀ d, Sp43 (Rec43 d)
  | 0 => fun p0 p1 p2 y (h : (none : Option ((List UInt8) × (List ty3.den) × Int)) = some y) => by cases h
  | d + 1 => sf43 sm58 (rec43 d)
noncomputable def M43 : Int → List ty3.den → Int → Option ((List UInt8) × (List ty3.den) × Int) := (Rec43 1000000)
theorem sm43 : Sp43 M43 := (rec43 1000000)

/-! ### 16: lariat/lariathand.Formula -/
def X16 : Aux := ⟨[], []⟩
def T16 {R : Type} (B : Ops) (c43 : Int → List ty3.den → Int → Option ((List UInt8) × (List ty3.den) × Int)) (p0 : List ty3.den) (k : ((List UInt8)) → Option R) : Option R :=
  ob (c43 (0) p0 (0)) fun y0 =>
  k (Prod.fst y0)
theorem eq16 {R : Type} (B : Ops) (c43 : Int → List ty3.den → Int → Option ((List UInt8) × (List ty3.den) × Int)) (p0 : List ty3.den) (k : AV → Objs → Option R) (n : Nat) : afun tau B gl0 X16 (ent 43 (e43 c43) (gnil)) ow Tryd.f16 [.c (.list 3 ty3 p0)] [] k n = T16 B c43 p0 (fun y => k (.c (.str y)) []) := by kernel_rfl
theorem nt16 {R R' : Type} (B : Ops) (c43 : Int → List ty3.den → Int → Option ((List UInt8) × (List ty3.den) × Int)) (p0 : List ty3.den) (k0 : ((List UInt8)) → Option R') (k : R' → Option R) : T16 B c43 p0 (fun y => ob (k0 y) k) = ob (T16 B c43 p0 k0) k := by
  unfold T16
  repeat' first | exact rfl | apply nat_cond | (apply nat_ob; intro)
def F16 (c43 : Int → List ty3.den → Int → Option ((List UInt8) × (List ty3.den) × Int)) (p0 : List ty3.den) : Option ((List UInt8)) := T16 Ops.std c43 p0 some
theorem fo16 {R : Type} (c43 : Int → List ty3.den → Int → Option ((List UInt8) × (List ty3.den) × Int)) (p0 : List ty3.den) (k : AV → Objs → Option R) (n : Nat) : afun tau Ops.std gl0 X16 (ent 43 (e43 c43) (gnil)) ow Tryd.f16 [.c (.list 3 ty3 p0)] [] k n = ob (F16 c43 p0) (fun y => k (.c (.str y)) []) := by rw [eq16]; exact nt16 Ops.std c43 p0 some (fun y => k (.c (.str y)) [])
def e16 {R : Type} (c : List ty3.den → Option ((List UInt8))) : Ent R := fun args objs k =>
  oCons args fun a0 l0 => oC a0 fun x0 => cList 3 ty3 x0 fun p0 => oNil l0 <| oNilO objs <| ob (c p0) fun y => k (.c (.str y)) []
abbrev Sp16 (c : List ty3.den → Option ((List UInt8))) : Prop := ∀ (p0 : List ty3.den) (y : (List UInt8)), c p0 = some y → Spec Tryd.prog gl0 16 [.c (.list 3 ty3 p0)] [] (.c (.str y)) []
theorem ek16 {R : Type} {c : List ty3.den → Option ((List UInt8))} (hs : Sp16 c) : EOk 16 (e16 (R := R) c) := fun args objs k r h => by
  unfold e16 at h
  obtain ⟨a0, l0, rfl, q1⟩ := oCons_some h
  obtain ⟨x0, rfl, q2⟩ := oC_some q1
  obtain ⟨p0, rfl, q3⟩ := cList_some q2
  obtain ⟨rfl, q4⟩ := oNil_some q3
  obtain ⟨rfl, q5⟩ := oNilO_some q4
  exact eok_of (hs p0) q5
theorem sf16 {c43 : Int → List ty3.den → Int → Option ((List UInt8) × (List ty3.den) × Int)} (h43 : Sp43 c43) : Sp16 (F16 c43) := fun p0 y hy => by
  refine spec_of (G := ent 43 (e43 c43) (gnil)) (ent_ok (ek43 h43) (gnil_ok)) 1000000 (fn := Tryd.f16) (by kernel_rfl) (by kernel_rfl) (X := X16) (by kernel_rfl) ?_
  rw [fo16, hy]
  rfl
noncomputable def M16 : List ty3.den → Option ((List UInt8)) := F16 M43
theorem sm16 : Sp16 M16 := sf16 sm43

/-! ### 26: lariat/lariathand.Bent -/
def X26 : Aux := ⟨[(2, [2, 3, 4, 6, 7, 8, 9, 10, 11, 12, 13, 14, 15, 16, 17, 18, 19, 20, 21, 22, 23, 24, 25, 26, 27, 28, 29, 30, 31, 32, 33, 34, 35, 36, 37, 38, 39, 40, 41, 42, 43, 44, 45, 46, 47, 48, 49, 50, 51, 52, 53, 54])], [(6, .lin [0, 1, 2, 3, 4, 5, 6, 7, 8, 9, 10, 11, 12, 13, 14, 15, 16])]⟩
inductive S26 where
  | l0 (v0_0 : List UInt8) (v0_2 : Int)
def T26 {R : Type} (B : Ops) (c25 : Int → Int → Option (Int)) (p0 : List UInt8) (p1 : List ty3.den) (again : S26 → Option R) (k : ((List UInt8)) → Option R) : Option S26 → Option R
  | none =>
    again (.l0 p0 0)
  | some (.l0 v0_0 v0_2) =>
    cond (Ops.lt B v0_2 (Nat.cast (List.length p1)))
     (
      cond (Ops.lt B v0_2 (2))
       (
        cond (Ops.lt B (0) (Nat.cast (List.length v0_0)))
         (
          cond (Ops.inb B v0_2 (List.length p1))
           (
            cond (Ops.eq B (17) (0))
             (
              none)
             (
              ob (c25 (IntKind.wrap IntKind.i64 (Int.tdiv (List.getD p1 (Int.toNat v0_2) (Ty.dflt ty3)) (17))) (Nat.cast (List.length v0_0))) fun y0 =>
              cond (Ops.inb B v0_2 (List.length p1))
               (
                ob (c25 (List.getD p1 (Int.toNat v0_2) (Ty.dflt ty3)) (17)) fun y1 =>
                cond (Ops.inb B y1 (17))
                 (
                  cond (Ops.inb B y0 (List.length v0_0 + 1))
                   (
                    cond (Ops.lim B (List.length (List.drop (0) (List.take (Int.toNat y0) v0_0)) + List.length (List.getD (([32] : List UInt8) :: ([40] : List UInt8) :: ([41] : List UInt8) :: ([91] : List UInt8) :: ([93] : List UInt8) :: ([85] : List UInt8) :: ([88] : List UInt8) :: ([33] : List UInt8) :: ([45] : List UInt8) :: ([57] : List UInt8) :: ([61] : List UInt8) :: ([60] : List UInt8) :: ([64] : List UInt8) :: ([119] : List UInt8) :: mt UInt8 :: ([38, 38] : List UInt8) :: ([82] : List UInt8) :: mt (List UInt8)) (Int.toNat y1) (mt UInt8))) (1))
                     (
                      cond (Ops.inb B v0_2 (List.length p1))
                       (
                        cond (Ops.eq B (7) (0))
                         (
                          none)
                         (
                          ob (c25 (IntKind.wrap IntKind.i64 (Int.tdiv (List.getD p1 (Int.toNat v0_2) (Ty.dflt ty3)) (7))) (2)) fun y2 =>
                          cond (Ops.inb B (IntKind.wrap IntKind.i64 (y0 + y2)) (List.length v0_0 + 1))
                           (
                            cond (Ops.lim B (List.length (List.drop (0) (List.take (Int.toNat y0) v0_0) ++ List.getD (([32] : List UInt8) :: ([40] : List UInt8) :: ([41] : List UInt8) :: ([91] : List UInt8) :: ([93] : List UInt8) :: ([85] : List UInt8) :: ([88] : List UInt8) :: ([33] : List UInt8) :: ([45] : List UInt8) :: ([57] : List UInt8) :: ([61] : List UInt8) :: ([60] : List UInt8) :: ([64] : List UInt8) :: ([119] : List UInt8) :: mt UInt8 :: ([38, 38] : List UInt8) :: ([82] : List UInt8) :: mt (List UInt8)) (Int.toNat y1) (mt UInt8)) + List.length (List.drop (Int.toNat (IntKind.wrap IntKind.i64 (y0 + y2))) (List.take (List.length v0_0) v0_0))) (1))
                             (
                              again (.l0 (List.drop (0) (List.take (Int.toNat y0) v0_0) ++ List.getD (([32] : List UInt8) :: ([40] : List UInt8) :: ([41] : List UInt8) :: ([91] : List UInt8) :: ([93] : List UInt8) :: ([85] : List UInt8) :: ([88] : List UInt8) :: ([33] : List UInt8) :: ([45] : List UInt8) :: ([57] : List UInt8) :: ([61] : List UInt8) :: ([60] : List UInt8) :: ([64] : List UInt8) :: ([119] : List UInt8) :: mt UInt8 :: ([38, 38] : List UInt8) :: ([82] : List UInt8) :: mt (List UInt8)) (Int.toNat y1) (mt UInt8) ++ List.drop (Int.toNat (IntKind.wrap IntKind.i64 (y0 + y2))) (List.take (List.length v0_0) v0_0)) (IntKind.wrap IntKind.i64 (v0_2 + 1))))
                             (
                              none))
                           (
                            none)))
                       (
                        none))
                     (
                      none))
                   (
                    none))
                 (
                  none))
               (
                none)))
           (
            none))
         (
          k v0_0))
       (
        k v0_0))
     (
      k v0_0)
def E26 (p0 : List UInt8) (p1 : List ty3.den) : S26 → List AV × Objs
  | .l0 v0_0 v0_2 => (mk 55 [(0, .c (.str v0_0)), (1, .c (.list 3 ty3 p1)), (5, .c (.int .i64 v0_2))], [])
def I26 : S26 → Nat
  | .l0 _ _ => 0
theorem eq26 {R : Type} (B : Ops) (c25 : Int → Int → Option (Int)) (p0 : List UInt8) (p1 : List ty3.den) (k : AV → Objs → Option R) (n : Nat) : afun tau B gl0 X26 (ent 25 (e25 c25) (gnil)) ow Tryd.f26 [.c (.str p0), .c (.list 3 ty3 p1)] [] k n = T26 B c25 p0 p1 (fun s => aloop tau B gl0 X26 (ent 25 (e25 c25) (gnil)) ow [] Tryd.f26 k (I26 s) (E26 p0 p1 s) n) (fun y => k (.c (.str y)) []) none := by kernel_rfl
theorem el26 {R : Type} (B : Ops) (c25 : Int → Int → Option (Int)) (p0 : List UInt8) (p1 : List ty3.den) (k : AV → Objs → Option R) (n : Nat) : ∀ s, aloop tau B gl0 X26 (ent 25 (e25 c25) (gnil)) ow [] Tryd.f26 k (I26 s) (E26 p0 p1 s) (n + 1) = T26 B c25 p0 p1 (fun s => aloop tau B gl0 X26 (ent 25 (e25 c25) (gnil)) ow [] Tryd.f26 k (I26 s) (E26 p0 p1 s) n) (fun y => k (.c (.str y)) []) (some s)
  | .l0 v0_0 v0_2 => by kernel_rfl
theorem nt26 {R R' : Type} (B : Ops) (c25 : Int → Int → Option (Int)) (p0 : List UInt8) (p1 : List ty3.den) (again : S26 → Option R) (again' : S26 → Option R') (k0 : ((List UInt8)) → Option R') (k : R' → Option R) (h : ∀ s, again s = ob (again' s) k) : ∀ s, T26 B c25 p0 p1 again (fun y => ob (k0 y) k) s = ob (T26 B c25 p0 p1 again' k0 s) k
  | none => by unfold T26; repeat' first | exact rfl | exact h _ | apply nat_cond | (apply nat_ob; intro)
  | some (.l0 v0_0 v0_2) => by unfold T26; repeat' first | exact rfl | exact h _ | apply nat_cond | (apply nat_ob; intro)
def R26 (c25 : Int → Int → Option (Int)) (p0 : List UInt8) (p1 : List ty3.den) : Nat → S26 → Option ((List UInt8))
  | 0, _ => none
  | n + 1, s => T26 Ops.std c25 p0 p1 (R26 c25 p0 p1 n) some (some s)
theorem rr26 {R : Type} (c25 : Int → Int → Option (Int)) (p0 : List UInt8) (p1 : List ty3.den) (k : AV → Objs → Option R) : ∀ (n : Nat) (s : S26), aloop tau Ops.std gl0 X26 (ent 25 (e25 c25) (gnil)) ow [] Tryd.f26 k (I26 s) (E26 p0 p1 s) n = ob (R26 c25 p0 p1 n s) (fun y => k (.c (.str y)) [])
  | 0, s => by cases s <;> rfl
  | n + 1, s => by rw [el26]; exact nt26 Ops.std c25 p0 p1 _ _ some (fun y => k (.c (.str y)) []) (rr26 c25 p0 p1 k n) (some s)
def F26 (c25 : Int → Int → Option (Int)) (p0 : List UInt8) (p1 : List ty3.den) : Option ((List UInt8)) := T26 Ops.std c25 p0 p1 (R26 c25 p0 p1 1000000) some none
theorem fo26 {R : Type} (c25 : Int → Int → Option (Int)) (p0 : List UInt8) (p1 : List ty3.den) (k : AV → Objs → Option R) : afun tau Ops.std gl0 X26 (ent 25 (e25 c25) (gnil)) ow Tryd.f26 [.c (.str p0), .c (.list 3 ty3 p1)] [] k 1000000 = ob (F26 c25 p0 p1) (fun y => k (.c (.str y)) []) := by rw [eq26]; exact nt26 Ops.std c25 p0 p1 _ _ some (fun y => k (.c (.str y)) []) (rr26 c25 p0 p1 k 1000000) none
def e26 {R : Type} (c : List UInt8 → List ty3.den → Option ((List UInt8))) : Ent R := fun args objs k =>
  oCons args fun a0 l0 => oC a0 fun x0 => cStr x0 fun p0 => oCons l0 fun a1 l1 => oC a1 fun x1 => cList 3 ty3 x1 fun p1 => oNil l1 <| oNilO objs <| ob (c p0 p1) fun y => k (.c (.str y)) []
abbrev Sp26 (c : List UInt8 → List ty3.den → Option ((List UInt8))) : Prop := ∀ (p0 : List UInt8) (p1 : List ty3.den) (y : (List UInt8)), c p0 p1 = some y → Spec Tryd.prog gl0 26 [.c (.str p0), .c (.list 3 ty3 p1)] [] (.c (.str y)) []
theorem ek26 {R : Type} {c : List UInt8 → List ty3.den → Option ((List UInt8))} (hs : Sp26 c) : EOk 26 (e26 (R := R) c) := fun args objs k r h => by
  unfold e26 at h
  obtain ⟨a0, l0, rfl, q1⟩ := oCons_some h
  obtain ⟨x0, rfl, q2⟩ := oC_some q1
  obtain ⟨p0, rfl, q3⟩ := cStr_some q2
  obtain ⟨a1, l1, rfl, q4⟩ := oCons_some q3
  obtain ⟨x1, rfl, q5⟩ := oC_some q4
  obtain ⟨p1, rfl, q6⟩ := cList_some q5
  obtain ⟨rfl, q7⟩ := oNil_some q6
  obtain ⟨rfl, q8⟩ := oNilO_some q7
  exact eok_of (hs p0 p1) q8
theorem sf26 {c25 : Int → Int → Option (Int)} (h25 : Sp25 c25) : Sp26 (F26 c25) := fun p0 p1 y hy => by
  refine spec_of (G := ent 25 (e25 c25) (gnil)) (ent_ok (ek25 h25) (gnil_ok)) 1000000 (fn := Tryd.f26) (by kernel_rfl) (by kernel_rfl) (X := X26) (by kernel_rfl) ?_
  rw [fo26, hy]
  rfl
noncomputable def M26 : List UInt8 → List ty3.den → Option ((List UInt8)) := F26 M25
theorem sm26 : Sp26 M26 := sf26 sm25
def e57 {R : Type} (c : Int → List ty3.den → Int → Option ((List UInt8) × (List ty3.den) × Int)) : Ent R := fun args objs k =>
  oCons args fun a0 l0 => oC a0 fun x0 => cPtr 0 x0 <| oCons l0 fun a1 l1 => oC a1 fun x1 => cInt .i64 x1 fun p0 => oNil l1 <| oBox 0 78 objs fun b0 o0 => cCons b0 fun u0_0 v0_0 => cList 3 ty3 u0_0 fun p1 => cCons v0_0 fun u0_1 v0_1 => cInt .i64 u0_1 fun p2 => cNil v0_1 <| oNilO o0 <| ob (c p0 p1 p2) fun y => k (.c (.str y.1)) [(0, .box 78 [.list 3 ty3 y.2.1, .int .i64 y.2.2])]
abbrev Sp57 (c : Int → List ty3.den → Int → Option ((List UInt8) × (List ty3.den) × Int)) : Prop := ∀ (p0 : Int) (p1 : List ty3.den) (p2 : Int) (y : (List UInt8) × (List ty3.den) × Int), c p0 p1 p2 = some y → Spec Tryd.prog gl0 57 [.c (.ptr 0 0), .c (.int .i64 p0)] [(0, .box 78 [.list 3 ty3 p1, .int .i64 p2])] (.c (.str y.1)) [(0, .box 78 [.list 3 ty3 y.2.1, .int .i64 y.2.2])]
theorem ek57 {R : Type} {c : Int → List ty3.den → Int → Option ((List UInt8) × (List ty3.den) × Int)} (hs : Sp57 c) : EOk 57 (e57 (R := R) c) := fun args objs k r h => by
  unfold e57 at h
  obtain ⟨a0, l0, rfl, q1⟩ := oCons_some h
  obtain ⟨x0, rfl, q2⟩ := oC_some q1
  obtain ⟨rfl, q3⟩ := cPtr_some q2
  obtain ⟨a1, l1, rfl, q4⟩ := oCons_some q3
  obtain ⟨x1, rfl, q5⟩ := oC_some q4
  obtain ⟨p0, rfl, q6⟩ := cInt_some q5
  obtain ⟨rfl, q7⟩ := oNil_some q6
  obtain ⟨b0, o0, rfl, q8⟩ := oBox_some q7
  obtain ⟨u0_0, v0_0, rfl, q9⟩ := cCons_some q8
  obtain ⟨p1, rfl, q10⟩ := cList_some q9
  obtain ⟨u0_1, v0_1, rfl, q11⟩ := cCons_some q10
  obtain ⟨p2, rfl, q12⟩ := cInt_some q11
  obtain ⟨rfl, q13⟩ := cNil_some q12
  obtain ⟨rfl, q14⟩ := oNilO_some q13
  exact eok_of (hs p0 p1 p2) q14

/-! ### 57: (*lariat/lariathand.feed).expr -/
def X57 : Aux := ⟨[(1000004, [2, 3, 4, 6, 7, 8, 9, 10, 11, 12, 13, 14, 15, 16, 17, 18, 19, 20, 21, 22, 23, 24, 25, 26, 27, 28, 29, 30, 31, 32, 33, 34, 35, 36, 37, 38, 39, 40, 41, 42, 43, 44, 45, 46, 47, 48, 49, 50, 51, 52, 53, 54, 55, 56, 57, 58, 59, 60, 61, 62, 63, 64, 65, 66, 67, 68, 69, 70, 71, 72, 73, 74, 75, 76, 77, 78, 79, 80, 81, 82, 83, 84, 85, 86, 87, 88, 89, 90, 91, 92, 93, 94, 95, 96, 97, 98, 99, 100, 101, 102, 103, 104, 105, 106, 107, 108, 109, 110, 111, 112, 113, 114, 115, 116])], [(24, .lin [0, 5, 1, 2, 3, 4, 6, 7, 8, 9, 10])]⟩
inductive S57 where
  | l1004 (v1004_1 : Int) (v1004_2 : List ty3.den) (v1004_3 : Int)
def T57 {R : Type} (B : Ops) (c58 : Int → List ty3.den → Int → Option (Int × (List ty3.den) × Int)) (c57 : Int → List ty3.den → Int → Option ((List UInt8) × (List ty3.den) × Int)) (p0 : Int) (p1 : List ty3.den) (p2 : Int) (again : S57 → Option R) (k : ((List UInt8) × (List ty3.den) × Int) → Option R) : Option S57 → Option R
  | none =>
    ob (c58 (20) p1 p2) fun y0 =>
    cond (Ops.lt B (3) p0)
     (
      cond (Ops.eq B (6) (0))
       (
        none)
       (
        again (.l1004 (IntKind.wrap IntKind.i64 (14 + Int.tmod (Prod.fst y0) (6))) (Prod.fst (Prod.snd y0)) (Prod.snd (Prod.snd y0)))))
     (
      cond (Ops.lt B (14) (Prod.snd (Prod.snd y0)))
       (
        cond (Ops.eq B (6) (0))
         (
          none)
         (
          again (.l1004 (IntKind.wrap IntKind.i64 (14 + Int.tmod (Prod.fst y0) (6))) (Prod.fst (Prod.snd y0)) (Prod.snd (Prod.snd y0)))))
       (
        again (.l1004 (Prod.fst y0) (Prod.fst (Prod.snd y0)) (Prod.snd (Prod.snd y0)))))
  | some (.l1004 v1004_1 v1004_2 v1004_3) =>
    cond (Ops.lt B v1004_1 (10))
     (
      ob (c57 (IntKind.wrap IntKind.i64 (p0 + 1)) v1004_2 v1004_3) fun y0 =>
      ob (c57 (IntKind.wrap IntKind.i64 (p0 + 1)) (Prod.fst (Prod.snd y0)) (Prod.snd (Prod.snd y0))) fun y1 =>
      ob (c58 (11) (Prod.fst (Prod.snd y1)) (Prod.snd (Prod.snd y1))) fun y2 =>
      cond (Ops.inb B (Prod.fst y2) (11))
       (
        ob (c58 (2) (Prod.fst (Prod.snd y2)) (Prod.snd (Prod.snd y2))) fun y3 =>
        cond (Ops.eq B (Prod.fst y3) (0))
         (
          cond (Ops.lim B (1 + List.length (Prod.fst y0)) (1))
           (
            cond (Ops.lim B (List.length (([40] : List UInt8) ++ Prod.fst y0) + 1) (1))
             (
              cond (Ops.lim B (List.length (([40] : List UInt8) ++ Prod.fst y0 ++ ([41] : List UInt8)) + List.length (List.getD (([43] : List UInt8) :: ([45] : List UInt8) :: ([42] : List UInt8) :: ([60] : List UInt8) :: ([60, 61] : List UInt8) :: ([61, 61] : List UInt8) :: ([33, 61] : List UInt8) :: ([38, 38] : List UInt8) :: ([124, 124] : List UInt8) :: ([62] : List UInt8) :: ([62, 61] : List UInt8) :: mt (List UInt8)) (Int.toNat (Prod.fst y2)) (mt UInt8))) (1))
               (
                cond (Ops.lim B (List.length (([40] : List UInt8) ++ Prod.fst y0 ++ ([41] : List UInt8) ++ List.getD (([43] : List UInt8) :: ([45] : List UInt8) :: ([42] : List UInt8) :: ([60] : List UInt8) :: ([60, 61] : List UInt8) :: ([61, 61] : List UInt8) :: ([33, 61] : List UInt8) :: ([38, 38] : List UInt8) :: ([124, 124] : List UInt8) :: ([62] : List UInt8) :: ([62, 61] : List UInt8) :: mt (List UInt8)) (Int.toNat (Prod.fst y2)) (mt UInt8)) + 1) (1))
                 (
                  cond (Ops.lim B (List.length (([40] : List UInt8) ++ Prod.fst y0 ++ ([41] : List UInt8) ++ List.getD (([43] : List UInt8) :: ([45] : List UInt8) :: ([42] : List UInt8) :: ([60] : List UInt8) :: ([60, 61] : List UInt8) :: ([61, 61] : List UInt8) :: ([33, 61] : List UInt8) :: ([38, 38] : List UInt8) :: ([124, 124] : List UInt8) :: ([62] : List UInt8) :: ([62, 61] : List UInt8) :: mt (List UInt8)) (Int.toNat (Prod.fst y2)) (mt UInt8) ++ ([40] : List UInt8)) + List.length (Prod.fst y1)) (1))
                   (
                    cond (Ops.lim B (List.length (([40] : List UInt8) ++ Prod.fst y0 ++ ([41] : List UInt8) ++ List.getD (([43] : List UInt8) :: ([45] : List UInt8) :: ([42] : List UInt8) :: ([60] : List UInt8) :: ([60, 61] : List UInt8) :: ([61, 61] : List UInt8) :: ([33, 61] : List UInt8) :: ([38, 38] : List UInt8) :: ([124, 124] : List UInt8) :: ([62] : List UInt8) :: ([62, 61] : List UInt8) :: mt (List UInt8)) (Int.toNat (Prod.fst y2)) (mt UInt8) ++ ([40] : List UInt8) ++ Prod.fst y1) + 1) (1))
                     (
                      k ((([40] : List UInt8) ++ Prod.fst y0 ++ ([41] : List UInt8) ++ List.getD (([43] : List UInt8) :: ([45] : List UInt8) :: ([42] : List UInt8) :: ([60] : List UInt8) :: ([60, 61] : List UInt8) :: ([61, 61] : List UInt8) :: ([33, 61] : List UInt8) :: ([38, 38] : List UInt8) :: ([124, 124] : List UInt8) :: ([62] : List UInt8) :: ([62, 61] : List UInt8) :: mt (List UInt8)) (Int.toNat (Prod.fst y2)) (mt UInt8) ++ ([40] : List UInt8) ++ Prod.fst y1 ++ ([41] : List UInt8), Prod.fst (Prod.snd y3), Prod.snd (Prod.snd y3))))
                     (
                      none))
                   (
                    none))
                 (
                  none))
               (
                none))
             (
              none))
           (
            none))
         (
          cond (Ops.lim B (1 + List.length (Prod.fst y0)) (1))
           (
            cond (Ops.lim B (List.length (([40] : List UInt8) ++ Prod.fst y0) + 1) (1))
             (
              cond (Ops.lim B (List.length (([40] : List UInt8) ++ Prod.fst y0 ++ ([32] : List UInt8)) + List.length (List.getD (([43] : List UInt8) :: ([45] : List UInt8) :: ([42] : List UInt8) :: ([60] : List UInt8) :: ([60, 61] : List UInt8) :: ([61, 61] : List UInt8) :: ([33, 61] : List UInt8) :: ([38, 38] : List UInt8) :: ([124, 124] : List UInt8) :: ([62] : List UInt8) :: ([62, 61] : List UInt8) :: mt (List UInt8)) (Int.toNat (Prod.fst y2)) (mt UInt8))) (1))
               (
                cond (Ops.lim B (List.length (([40] : List UInt8) ++ Prod.fst y0 ++ ([32] : List UInt8) ++ List.getD (([43] : List UInt8) :: ([45] : List UInt8) :: ([42] : List UInt8) :: ([60] : List UInt8) :: ([60, 61] : List UInt8) :: ([61, 61] : List UInt8) :: ([33, 61] : List UInt8) :: ([38, 38] : List UInt8) :: ([124, 124] : List UInt8) :: ([62] : List UInt8) :: ([62, 61] : List UInt8) :: mt (List UInt8)) (Int.toNat (Prod.fst y2)) (mt UInt8)) + 1) (1))
                 (
                  cond (Ops.lim B (List.length (([40] : List UInt8) ++ Prod.fst y0 ++ ([32] : List UInt8) ++ List.getD (([43] : List UInt8) :: ([45] : List UInt8) :: ([42] : List UInt8) :: ([60] : List UInt8) :: ([60, 61] : List UInt8) :: ([61, 61] : List UInt8) :: ([33, 61] : List UInt8) :: ([38, 38] : List UInt8) :: ([124, 124] : List UInt8) :: ([62] : List UInt8) :: ([62, 61] : List UInt8) :: mt (List UInt8)) (Int.toNat (Prod.fst y2)) (mt UInt8) ++ ([32] : List UInt8)) + List.length (Prod.fst y1)) (1))
                   (
                    cond (Ops.lim B (List.length (([40] : List UInt8) ++ Prod.fst y0 ++ ([32] : List UInt8) ++ List.getD (([43] : List UInt8) :: ([45] : List UInt8) :: ([42] : List UInt8) :: ([60] : List UInt8) :: ([60, 61] : List UInt8) :: ([61, 61] : List UInt8) :: ([33, 61] : List UInt8) :: ([38, 38] : List UInt8) :: ([124, 124] : List UInt8) :: ([62] : List UInt8) :: ([62, 61] : List UInt8) :: mt (List UInt8)) (Int.toNat (Prod.fst y2)) (mt UInt8) ++ ([32] : List UInt8) ++ Prod.fst y1) + 1) (1))
                     (
                      k ((([40] : List UInt8) ++ Prod.fst y0 ++ ([32] : List UInt8) ++ List.getD (([43] : List UInt8) :: ([45] : List UInt8) :: ([42] : List UInt8) :: ([60] : List UInt8) :: ([60, 61] : List UInt8) :: ([61, 61] : List UInt8) :: ([33, 61] : List UInt8) :: ([38, 38] : List UInt8) :: ([124, 124] : List UInt8) :: ([62] : List UInt8) :: ([62, 61] : List UInt8) :: mt (List UInt8)) (Int.toNat (Prod.fst y2)) (mt UInt8) ++ ([32] : List UInt8) ++ Prod.fst y1 ++ ([41] : List UInt8), Prod.fst (Prod.snd y3), Prod.snd (Prod.snd y3))))
                     (
                      none))
                   (
                    none))
                 (
                  none))
               (
                none))
             (
              none))
           (
            none)))
       (
        none))
     (
      cond (Ops.eq B v1004_1 (10))
       (
        ob (c57 (IntKind.wrap IntKind.i64 (p0 + 1)) v1004_2 v1004_3) fun y0 =>
        cond (Ops.lim B (2 + List.length (Prod.fst y0)) (1))
         (
          cond (Ops.lim B (List.length (([33, 40] : List UInt8) ++ Prod.fst y0) + 1) (1))
           (
            k ((([33, 40] : List UInt8) ++ Prod.fst y0 ++ ([41] : List UInt8), Prod.fst (Prod.snd y0), Prod.snd (Prod.snd y0))))
           (
            none))
         (
          none))
       (
        cond (Ops.eq B v1004_1 (11))
         (
          ob (c57 (IntKind.wrap IntKind.i64 (p0 + 1)) v1004_2 v1004_3) fun y0 =>
          cond (Ops.lim B (2 + List.length (Prod.fst y0)) (1))
           (
            cond (Ops.lim B (List.length (([45, 40] : List UInt8) ++ Prod.fst y0) + 1) (1))
             (
              k ((([45, 40] : List UInt8) ++ Prod.fst y0 ++ ([41] : List UInt8), Prod.fst (Prod.snd y0), Prod.snd (Prod.snd y0))))
             (
              none))
           (
            none))
         (
          cond (Ops.eq B v1004_1 (12))
           (
            ob (c57 (IntKind.wrap IntKind.i64 (p0 + 1)) v1004_2 v1004_3) fun y0 =>
            cond (Ops.lim B (List.length (Prod.fst y0) + 1) (1))
             (
              ob (c57 (IntKind.wrap IntKind.i64 (p0 + 1)) (Prod.fst (Prod.snd y0)) (Prod.snd (Prod.snd y0))) fun y1 =>
              cond (Ops.lim B (List.length (Prod.fst y0 ++ ([43] : List UInt8)) + List.length (Prod.fst y1)) (1))
               (
                k ((Prod.fst y0 ++ ([43] : List UInt8) ++ Prod.fst y1, Prod.fst (Prod.snd y1), Prod.snd (Prod.snd y1))))
               (
                none))
             (
              none))
           (
            cond (Ops.eq B v1004_1 (13))
             (
              ob (c57 (IntKind.wrap IntKind.i64 (p0 + 1)) v1004_2 v1004_3) fun y0 =>
              cond (Ops.lim B (2 + List.length (Prod.fst y0)) (1))
               (
                k ((([33, 33] : List UInt8) ++ Prod.fst y0, Prod.fst (Prod.snd y0), Prod.snd (Prod.snd y0))))
               (
                none))
             (
              cond (Ops.eq B v1004_1 (14))
               (
                ob (c58 (4) v1004_2 v1004_3) fun y0 =>
                cond (Ops.inb B (Prod.fst y0) (4))
                 (
                  k ((List.getD (([48] : List UInt8) :: ([49] : List UInt8) :: ([50] : List UInt8) :: ([48, 48, 55] : List UInt8) :: mt (List UInt8)) (Int.toNat (Prod.fst y0)) (mt UInt8), Prod.fst (Prod.snd y0), Prod.snd (Prod.snd y0))))
                 (
                  none))
               (
                cond (Ops.eq B v1004_1 (15))
                 (
                  ob (c58 (4) v1004_2 v1004_3) fun y0 =>
                  cond (Ops.inb B (Prod.fst y0) (4))
                   (
                    k ((List.getD (([48] : List UInt8) :: ([49] : List UInt8) :: ([50] : List UInt8) :: ([48, 48, 55] : List UInt8) :: mt (List UInt8)) (Int.toNat (Prod.fst y0)) (mt UInt8), Prod.fst (Prod.snd y0), Prod.snd (Prod.snd y0))))
                   (
                    none))
                 (
                  cond (Ops.eq B v1004_1 (16))
                   (
                    ob (c58 (2) v1004_2 v1004_3) fun y0 =>
                    cond (Ops.inb B (Prod.fst y0) (3))
                     (
                      cond (Ops.lim B (List.length (List.getD ((112 :: mt UInt8) :: (113 :: mt UInt8) :: (114 :: mt UInt8) :: mt (List UInt8)) (Int.toNat (Prod.fst y0)) (mt UInt8)) + 1) (1))
                       (
                        ob (c58 (3) (Prod.fst (Prod.snd y0)) (Prod.snd (Prod.snd y0))) fun y1 =>
                        cond (Ops.inb B (Prod.fst y1) (4))
                         (
                          cond (Ops.lim B (List.length (List.getD ((112 :: mt UInt8) :: (113 :: mt UInt8) :: (114 :: mt UInt8) :: mt (List UInt8)) (Int.toNat (Prod.fst y0)) (mt UInt8) ++ ([64] : List UInt8)) + List.length (List.getD ((97 :: mt UInt8) :: (98 :: mt UInt8) :: (99 :: mt UInt8) :: (100 :: mt UInt8) :: mt (List UInt8)) (Int.toNat (Prod.fst y1)) (mt UInt8))) (1))
                           (
                            k ((List.getD ((112 :: mt UInt8) :: (113 :: mt UInt8) :: (114 :: mt UInt8) :: mt (List UInt8)) (Int.toNat (Prod.fst y0)) (mt UInt8) ++ ([64] : List UInt8) ++ List.getD ((97 :: mt UInt8) :: (98 :: mt UInt8) :: (99 :: mt UInt8) :: (100 :: mt UInt8) :: mt (List UInt8)) (Int.toNat (Prod.fst y1)) (mt UInt8), Prod.fst (Prod.snd y1), Prod.snd (Prod.snd y1))))
                           (
                            none))
                         (
                          none))
                       (
                        none))
                     (
                      none))
                   (
                    ob (c58 (2) v1004_2 v1004_3) fun y0 =>
                    cond (Ops.inb B (Prod.fst y0) (3))
                     (
                      k ((List.getD ((120 :: mt UInt8) :: (121 :: mt UInt8) :: (122 :: mt UInt8) :: mt (List UInt8)) (Int.toNat (Prod.fst y0)) (mt UInt8), Prod.fst (Prod.snd y0), Prod.snd (Prod.snd y0))))
                     (
                      none)))))))))
def E57 (p0 : Int) (p1 : List ty3.den) (p2 : Int) : S57 → List AV × Objs
  | .l1004 v1004_1 v1004_2 v1004_3 => (mk 117 [(0, .c (.ptr 0 0)), (1, .c (.int .i64 p0)), (5, .c (.int .i64 v1004_1))], [(0, .box 78 [.list 3 ty3 v1004_2, .int .i64 v1004_3])])
def I57 : S57 → Nat
  | .l1004 _ _ _ => 1004
theorem eq57 {R : Type} (B : Ops) (c58 : Int → List ty3.den → Int → Option (Int × (List ty3.den) × Int)) (c57 : Int → List ty3.den → Int → Option ((List UInt8) × (List ty3.den) × Int)) (p0 : Int) (p1 : List ty3.den) (p2 : Int) (k : AV → Objs → Option R) (n : Nat) : afun tau B gl0 X57 (ent 58 (e58 c58) (ent 57 (e57 c57) (gnil))) ow Tryd.f57 [.c (.ptr 0 0), .c (.int .i64 p0)] [(0, .box 78 [.list 3 ty3 p1, .int .i64 p2])] k n = T57 B c58 c57 p0 p1 p2 (fun s => aloop tau B gl0 X57 (ent 58 (e58 c58) (ent 57 (e57 c57) (gnil))) ow [0] Tryd.f57 k (I57 s) (E57 p0 p1 p2 s) n) (fun y => k (.c (.str y.1)) [(0, .box 78 [.list 3 ty3 y.2.1, .int .i64 y.2.2])]) none := by kernel_rfl
theorem el57 {R : Type} (B : Ops) (c58 : Int → List ty3.den → Int → Option (Int × (List ty3.den) × Int)) (c57 : Int → List ty3.den → Int → Option ((List UInt8) × (List ty3.den) × Int)) (p0 : Int) (p1 : List ty3.den) (p2 : Int) (k : AV → Objs → Option R) (n : Nat) : ∀ s, aloop tau B gl0 X57 (ent 58 (e58 c58) (ent 57 (e57 c57) (gnil))) ow [0] Tryd.f57 k (I57 s) (E57 p0 p1 p2 s) (n + 1) = T57 B c58 c57 p0 p1 p2 (fun s => aloop tau B gl0 X57 (ent 58 (e58 c58) (ent 57 (e57 c57) (gnil))) ow [0] Tryd.f57 k (I57 s) (E57 p0 p1 p2 s) n) (fun y => k (.c (.str y.1)) [(0, .box 78 [.list 3 ty3 y.2.1, .int .i64 y.2.2])]) (some s)
  | .l1004 v1004_1 v1004_2 v1004_3 => by kernel_rfl
theorem nt57 {R R' : Type} (B : Ops) (c58 : Int → List ty3.den → Int → Option (Int × (List ty3.den) × Int)) (c57 : Int → List ty3.den → Int → Option ((List UInt8) × (List ty3.den) × Int)) (p0 : Int) (p1 : List ty3.den) (p2 : Int) (again : S57 → Option R) (again' : S57 → Option R') (k0 : ((List UInt8) × (List ty3.den) × Int) → Option R') (k : R' → Option R) (h : ∀ s, again s = ob (again' s) k) : ∀ s, T57 B c58 c57 p0 p1 p2 again (fun y => ob (k0 y) k) s = ob (T57 B c58 c57 p0 p1 p2 again' k0 s) k
  | none => by unfold T57; repeat' first | exact rfl | exact h _ | apply nat_cond | (apply nat_ob; intro)
  | some (.l1004 v1004_1 v1004_2 v1004_3) => by unfold T57; repeat' first | exact rfl | exact h _ | apply nat_cond | (apply nat_ob; intro)
def R57 (c58 : Int → List ty3.den → Int → Option (Int × (List ty3.den) × Int)) (c57 : Int → List ty3.den → Int → Option ((List UInt8) × (List ty3.den) × Int)) (p0 : Int) (p1 : List ty3.den) (p2 : Int) : Nat → S57 → Option ((List UInt8) × (List ty3.den) × Int)
  | 0, _ => none
  | n + 1, s => T57 Ops.std c58 c57 p0 p1 p2 (R57 c58 c57 p0 p1 p2 n) some (some s)
theorem rr57 {R : Type} (c58 : Int → List ty3.den → Int → Option (Int × (List ty3.den) × Int)) (c57 : Int → List ty3.den → Int → Option ((List UInt8) × (List ty3.den) × Int)) (p0 : Int) (p1 : List ty3.den) (p2 : Int) (k : AV → Objs → Option R) : ∀ (n : Nat) (s : S57), aloop tau Ops.std gl0 X57 (ent 58 (e58 c58) (ent 57 (e57 c57) (gnil))) ow [0] Tryd.f57 k (I57 s) (E57 p0 p1 p2 s) n = ob (R57 c58 c57 p0 p1 p2 n s) (fun y => k (.c (.str y.1)) [(0, .box 78 [.list 3 ty3 y.2.1, .int .i64 y.2.2])])
  | 0, s => by cases s <;> rfl
  | n + 1, s => by rw [el57]; exact nt57 Ops.std c58 c57 p0 p1 p2 _ _ some (fun y => k (.c (.str y.1)) [(0, .box 78 [.list 3 ty3 y.2.1, .int .i64 y.2.2])]) (rr57 c58 c57 p0 p1 p2 k n) (some s)
def F57 (c58 : Int → List ty3.den → Int → Option (Int × (List ty3.den) × Int)) (c57 : Int → List ty3.den → Int → Option ((List UInt8) × (List ty3.den) × Int)) (p0 : Int) (p1 : List ty3.den) (p2 : Int) : Option ((List UInt8) × (List ty3.den) × Int) := T57 Ops.std c58 c57 p0 p1 p2 (R57 c58 c57 p0 p1 p2 1000000) some none
theorem fo57 {R : Type} (c58 : Int → List ty3.den → Int → Option (Int × (List ty3.den) × Int)) (c57 : Int → List ty3.den → Int → Option ((List UInt8) × (List ty3.den) × Int)) (p0 : Int) (p1 : List ty3.den) (p2 : Int) (k : AV → Objs → Option R) : afun tau Ops.std gl0 X57 (ent 58 (e58 c58) (ent 57 (e57 c57) (gnil))) ow Tryd.f57 [.c (.ptr 0 0), .c (.int .i64 p0)] [(0, .box 78 [.list 3 ty3 p1, .int .i64 p2])] k 1000000 = ob (F57 c58 c57 p0 p1 p2) (fun y => k (.c (.str y.1)) [(0, .box 78 [.list 3 ty3 y.2.1, .int .i64 y.2.2])]) := by rw [eq57]; exact nt57 Ops.std c58 c57 p0 p1 p2 _ _ some (fun y => k (.c (.str y.1)) [(0, .box 78 [.list 3 ty3 y.2.1, .int .i64 y.2.2])]) (rr57 c58 c57 p0 p1 p2 k 1000000) none
theorem sf57 {c58 : Int → List ty3.den → Int → Option (Int × (List ty3.den) × Int)} {c57 : Int → List ty3.den → Int → Option ((List UInt8) × (List ty3.den) × Int)} (h58 : Sp58 c58) (h57 : Sp57 c57) : Sp57 (F57 c58 c57) := fun p0 p1 p2 y hy => by
  refine spec_of (G := ent 58 (e58 c58) (ent 57 (e57 c57) (gnil))) (ent_ok (ek58 h58) (ent_ok (ek57 h57) (gnil_ok))) 1000000 (fn := Tryd.f57) (by kernel_rfl) (by kernel_rfl) (X := X57) (by kernel_rfl) ?_
  rw [fo57, hy]
  rfl
noncomputable def Rec57 : Nat → (Int → List ty3.den → Int → Option ((List UInt8) × (List ty3.den) × Int))
  | 0 => fun _ _ _ => none
  | d + 1 => F57 M58 (Rec57 d)
theorem rec57 : ∀ d, Sp57 (Rec57 d)
  | 0 => fun p0 p1 p2 y (h : (none : Option ((List UInt8) × (List ty3.den) × Int)) = some y) => by cases h
  | d + 1 => sf57 sm58 (rec57 d)
noncomputable def M57 : Int → List ty3.den → Int → Option ((List UInt8) × (List ty3.den) × Int) := (Rec57 1000000)
theorem sm57 : Sp57 M57 := (rec57 1000000)

/-! ### 27: lariat/lariathand.Expr -/
def X27 : Aux := ⟨[], []⟩
def T27 {R : Type} (B : Ops) (c57 : Int → List ty3.den → Int → Option ((List UInt8) × (List ty3.den) × Int)) (p0 : List ty3.den) (k : ((List UInt8)) → Option R) : Option R :=
  ob (c57 (0) p0 (0)) fun y0 =>
  k (Prod.fst y0)
theorem eq27 {R : Type} (B : Ops) (c57 : Int → List ty3.den → Int → Option ((List UInt8) × (List ty3.den) × Int)) (p0 : List ty3.den) (k : AV → Objs → Option R) (n : Nat) : afun tau B gl0 X27 (ent 57 (e57 c57) (gnil)) ow Tryd.f27 [.c (.list 3 ty3 p0)] [] k n = T27 B c57 p0 (fun y => k (.c (.str y)) []) := by kernel_rfl
theorem nt27 {R R' : Type} (B : Ops) (c57 : Int → List ty3.den → Int → Option ((List UInt8) × (List ty3.den) × Int)) (p0 : List ty3.den) (k0 : ((List UInt8)) → Option R') (k : R' → Option R) : T27 B c57 p0 (fun y => ob (k0 y) k) = ob (T27 B c57 p0 k0) k := by
  unfold T27
  repeat' first | exact rfl | apply nat_cond | (apply nat_ob; intro)
def F27 (c57 : Int → List ty3.den → Int → Option ((List UInt8) × (List ty3.den) × Int)) (p0 : List ty3.den) : Option ((List UInt8)) := T27 Ops.std c57 p0 some
theorem fo27 {R : Type} (c57 : Int → List ty3.den → Int → Option ((List UInt8) × (List ty3.den) × Int)) (p0 : List ty3.den) (k : AV → Objs → Option R) (n : Nat) : afun tau Ops.std gl0 X27 (ent 57 (e57 c57) (gnil)) ow Tryd.f27 [.c (.list 3 ty3 p0)] [] k n = ob (F27 c57 p0) (fun y => k (.c (.str y)) []) := by rw [eq27]; exact nt27 Ops.std c57 p0 some (fun y => k (.c (.str y)) [])
def e27 {R : Type} (c : List ty3.den → Option ((List UInt8))) : Ent R := fun args objs k =>
  oCons args fun a0 l0 => oC a0 fun x0 => cList 3 ty3 x0 fun p0 => oNil l0 <| oNilO objs <| ob (c p0) fun y => k (.c (.str y)) []
abbrev Sp27 (c : List ty3.den → Option ((List UInt8))) : Prop := ∀ (p0 : List ty3.den) (y : (List UInt8)), c p0 = some y → Spec Tryd.prog gl0 27 [.c (.list 3 ty3 p0)] [] (.c (.str y)) []
theorem ek27 {R : Type} {c : List ty3.den → Option ((List UInt8))} (hs : Sp27 c) : EOk 27 (e27 (R := R) c) := fun args objs k r h => by
  unfold e27 at h
  obtain ⟨a0, l0, rfl, q1⟩ := oCons_some h
  obtain ⟨x0, rfl, q2⟩ := oC_some q1
  obtain ⟨p0, rfl, q3⟩ := cList_some q2
  obtain ⟨rfl, q4⟩ := oNil_some q3
  obtain ⟨rfl, q5⟩ := oNilO_some q4
  exact eok_of (hs p0) q5
theorem sf27 {c57 : Int → List ty3.den → Int → Option ((List UInt8) × (List ty3.den) × Int)} (h57 : Sp57 c57) : Sp27 (F27 c57) := fun p0 y hy => by
  refine spec_of (G := ent 57 (e57 c57) (gnil)) (ent_ok (ek57 h57) (gnil_ok)) 1000000 (fn := Tryd.f27) (by kernel_rfl) (by kernel_rfl) (X := X27) (by kernel_rfl) ?_
  rw [fo27, hy]
  rfl
noncomputable def M27 : List ty3.den → Option ((List UInt8)) := F27 M57
theorem sm27 : Sp27 M27 := sf27 sm57

/-! ### 59: (*lariat/lariathand.feed).guard -/
def X59 : Aux := ⟨[], []⟩
def T59 {R : Type} (B : Ops) (c58 : Int → List ty3.den → Int → Option (Int × (List ty3.den) × Int)) (p0 : List ty3.den) (p1 : Int) (k : ((List UInt8) × (List ty3.den) × Int) → Option R) : Option R :=
  ob (c58 (2) p0 p1) fun y0 =>
  cond (Ops.inb B (Prod.fst y0) (3))
   (
    cond (Ops.lim B (List.length (List.getD ((120 :: mt UInt8) :: (121 :: mt UInt8) :: (122 :: mt UInt8) :: mt (List UInt8)) (Int.toNat (Prod.fst y0)) (mt UInt8)) + 2) (1))
     (
      cond (Ops.lim B (List.length (List.getD ((120 :: mt UInt8) :: (121 :: mt UInt8) :: (122 :: mt UInt8) :: mt (List UInt8)) (Int.toNat (Prod.fst y0)) (mt UInt8)) + 2) (1))
       (
        cond (Ops.lim B (List.length (List.getD ((120 :: mt UInt8) :: (121 :: mt UInt8) :: (122 :: mt UInt8) :: mt (List UInt8)) (Int.toNat (Prod.fst y0)) (mt UInt8)) + 3) (1))
         (
          cond (Ops.lim B (List.length (List.getD ((120 :: mt UInt8) :: (121 :: mt UInt8) :: (122 :: mt UInt8) :: mt (List UInt8)) (Int.toNat (Prod.fst y0)) (mt UInt8)) + 2) (1))
           (
            ob (c58 (9) (Prod.fst (Prod.snd y0)) (Prod.snd (Prod.snd y0))) fun y1 =>
            cond (Ops.inb B (Prod.fst y1) (9))
             (
              k ((List.getD (([49] : List UInt8) :: ([49] : List UInt8) :: (List.getD ((120 :: mt UInt8) :: (121 :: mt UInt8) :: (122 :: mt UInt8) :: mt (List UInt8)) (Int.toNat (Prod.fst y0)) (mt UInt8) ++ ([60, 49] : List UInt8)) :: (List.getD ((120 :: mt UInt8) :: (121 :: mt UInt8) :: (122 :: mt UInt8) :: mt (List UInt8)) (Int.toNat (Prod.fst y0)) (mt UInt8) ++ ([62, 48] : List UInt8)) :: (List.getD ((120 :: mt UInt8) :: (121 :: mt UInt8) :: (122 :: mt UInt8) :: mt (List UInt8)) (Int.toNat (Prod.fst y0)) (mt UInt8) ++ ([61, 61, 49] : List UInt8)) :: ([120, 33, 61, 121] : List UInt8) :: ([112, 64, 97, 124, 124, 120, 60, 50] : List UInt8) :: ([33, 40, 113, 64, 98, 41] : List UInt8) :: (List.getD ((120 :: mt UInt8) :: (121 :: mt UInt8) :: (122 :: mt UInt8) :: mt (List UInt8)) (Int.toNat (Prod.fst y0)) (mt UInt8) ++ ([60, 50] : List UInt8)) :: mt (List UInt8)) (Int.toNat (Prod.fst y1)) (mt UInt8), Prod.fst (Prod.snd y1), Prod.snd (Prod.snd y1))))
             (
              none))
           (
            none))
         (
          none))
       (
        none))
     (
      none))
   (
    none)
theorem eq59 {R : Type} (B : Ops) (c58 : Int → List ty3.den → Int → Option (Int × (List ty3.den) × Int)) (p0 : List ty3.den) (p1 : Int) (k : AV → Objs → Option R) (n : Nat) : afun tau B gl0 X59 (ent 58 (e58 c58) (gnil)) ow Tryd.f59 [.c (.ptr 0 0)] [(0, .box 78 [.list 3 ty3 p0, .int .i64 p1])] k n = T59 B c58 p0 p1 (fun y => k (.c (.str y.1)) [(0, .box 78 [.list 3 ty3 y.2.1, .int .i64 y.2.2])]) := by kernel_rfl
theorem nt59 {R R' : Type} (B : Ops) (c58 : Int → List ty3.den → Int → Option (Int × (List ty3.den) × Int)) (p0 : List ty3.den) (p1 : Int) (k0 : ((List UInt8) × (List ty3.den) × Int) → Option R') (k : R' → Option R) : T59 B c58 p0 p1 (fun y => ob (k0 y) k) = ob (T59 B c58 p0 p1 k0) k := by
  unfold T59
  repeat' first | exact rfl | apply nat_cond | (apply nat_ob; intro)
def F59 (c58 : Int → List ty3.den → Int → Option (Int × (List ty3.den) × Int)) (p0 : List ty3.den) (p1 : Int) : Option ((List UInt8) × (List ty3.den) × Int) := T59 Ops.std c58 p0 p1 some
theorem fo59 {R : Type} (c58 : Int → List ty3.den → Int → Option (Int × (List ty3.den) × Int)) (p0 : List ty3.den) (p1 : Int) (k : AV → Objs → Option R) (n : Nat) : afun tau Ops.std gl0 X59 (ent 58 (e58 c58) (gnil)) ow Tryd.f59 [.c (.ptr 0 0)] [(0, .box 78 [.list 3 ty3 p0, .int .i64 p1])] k n = ob (F59 c58 p0 p1) (fun y => k (.c (.str y.1)) [(0, .box 78 [.list 3 ty3 y.2.1, .int .i64 y.2.2])]) := by rw [eq59]; exact nt59 Ops.std c58 p0 p1 some (fun y => k (.c (.str y.1)) [(0, .box 78 [.list 3 ty3 y.2.1, .int .i64 y.2.2])])
def e59 {R : Type} (c : List ty3.den → Int → Option ((List UInt8) × (List ty3.den) × Int)) : Ent R := fun args objs k =>
  oCons args fun a0 l0 => oC a0 fun x0 => cPtr 0 x0 <| oNil l0 <| oBox 0 78 objs fun b0 o0 => cCons b0 fun u0_0 v0_0 => cList 3 ty3 u0_0 fun p0 => cCons v0_0 fun u0_1 v0_1 => cInt .i64 u0_1 fun p1 => cNil v0_1 <| oNilO o0 <| ob (c p0 p1) fun y => k (.c (.str y.1)) [(0, .box 78 [.list 3 ty3 y.2.1, .int .i64 y.2.2])]
abbrev Sp59 (c : List ty3.den → Int → Option ((List UInt8) × (List ty3.den) × Int)) : Prop := ∀ (p0 : List ty3.den) (p1 : Int) (y : (List UInt8) × (List ty3.den) × Int), c p0 p1 = some y → Spec Tryd.prog gl0 59 [.c (.ptr 0 0)] [(0, .box 78 [.list 3 ty3 p0, .int .i64 p1])] (.c (.str y.1)) [(0, .box 78 [.list 3 ty3 y.2.1, .int .i64 y.2.2])]
theorem ek59 {R : Type} {c : List ty3.den → Int → Option ((List UInt8) × (List ty3.den) × Int)} (hs : Sp59 c) : EOk 59 (e59 (R := R) c) := fun args objs k r h => by
  unfold e59 at h
  obtain ⟨a0, l0, rfl, q1⟩ := oCons_some h
  obtain ⟨x0, rfl, q2⟩ := oC_some q1
  obtain ⟨rfl, q3⟩ := cPtr_some q2
  obtain ⟨rfl, q4⟩ := oNil_some q3
  obtain ⟨b0, o0, rfl, q5⟩ := oBox_some q4
  obtain ⟨u0_0, v0_0, rfl, q6⟩ := cCons_some q5
  obtain ⟨p0, rfl, q7⟩ := cList_some q6
  obtain ⟨u0_1, v0_1, rfl, q8⟩ := cCons_some q7
  obtain ⟨p1, rfl, q9⟩ := cInt_some q8
  obtain ⟨rfl, q10⟩ := cNil_some q9
  obtain ⟨rfl, q11⟩ := oNilO_some q10
  exact eok_of (hs p0 p1) q11
theorem sf59 {c58 : Int → List ty3.den → Int → Option (Int × (List ty3.den) × Int)} (h58 : Sp58 c58) : Sp59 (F59 c58) := fun p0 p1 y hy => by
  refine spec_of (G := ent 58 (e58 c58) (gnil)) (ent_ok (ek58 h58) (gnil_ok)) 1000000 (fn := Tryd.f59) (by kernel_rfl) (by kernel_rfl) (X := X59) (by kernel_rfl) ?_
  rw [fo59, hy]
  rfl
noncomputable def M59 : List ty3.den → Int → Option ((List UInt8) × (List ty3.den) × Int) := F59 M58
theorem sm59 : Sp59 M59 := sf59 sm58

/-! ### 60: (*lariat/lariathand.feed).small -/
def X60 : Aux := ⟨[], [(2, .lin [0, 1, 2, 3, 4, 5, 6, 7, 8, 9, 14, 10, 11, 12, 13, 15, 16, 17])]⟩
def T60 {R : Type} (B : Ops) (c58 : Int → List ty3.den → Int → Option (Int × (List ty3.den) × Int)) (p0 : List ty3.den) (p1 : Int) (k : ((List UInt8) × (List ty3.den) × Int) → Option R) : Option R :=
  ob (c58 (2) p0 p1) fun y0 =>
  cond (Ops.inb B (Prod.fst y0) (3))
   (
    cond (Ops.lim B (2 + List.length (List.getD ((120 :: mt UInt8) :: (121 :: mt UInt8) :: (122 :: mt UInt8) :: mt (List UInt8)) (Int.toNat (Prod.fst y0)) (mt UInt8))) (1))
     (
      cond (Ops.lim B (List.length (List.getD ((120 :: mt UInt8) :: (121 :: mt UInt8) :: (122 :: mt UInt8) :: mt (List UInt8)) (Int.toNat (Prod.fst y0)) (mt UInt8)) + 2) (1))
       (
        cond (Ops.lim B (List.length (List.getD ((120 :: mt UInt8) :: (121 :: mt UInt8) :: (122 :: mt UInt8) :: mt (List UInt8)) (Int.toNat (Prod.fst y0)) (mt UInt8)) + 2) (1))
         (
          cond (Ops.lim B (2 + List.length (List.getD ((120 :: mt UInt8) :: (121 :: mt UInt8) :: (122 :: mt UInt8) :: mt (List UInt8)) (Int.toNat (Prod.fst y0)) (mt UInt8))) (1))
           (
            ob (c58 (2) (Prod.fst (Prod.snd y0)) (Prod.snd (Prod.snd y0))) fun y1 =>
            cond (Ops.inb B (Prod.fst y1) (3))
             (
              ob (c58 (8) (Prod.fst (Prod.snd y1)) (Prod.snd (Prod.snd y1))) fun y2 =>
              cond (Ops.inb B (Prod.fst y2) (8))
               (
                k ((List.getD (([48] : List UInt8) :: ([49] : List UInt8) :: List.getD ((120 :: mt UInt8) :: (121 :: mt UInt8) :: (122 :: mt UInt8) :: mt (List UInt8)) (Int.toNat (Prod.fst y0)) (mt UInt8) :: (([49, 45] : List UInt8) ++ List.getD ((120 :: mt UInt8) :: (121 :: mt UInt8) :: (122 :: mt UInt8) :: mt (List UInt8)) (Int.toNat (Prod.fst y0)) (mt UInt8)) :: (List.getD ((120 :: mt UInt8) :: (121 :: mt UInt8) :: (122 :: mt UInt8) :: mt (List UInt8)) (Int.toNat (Prod.fst y0)) (mt UInt8) ++ ([43, 49] : List UInt8)) :: (List.getD ((120 :: mt UInt8) :: (121 :: mt UInt8) :: (122 :: mt UInt8) :: mt (List UInt8)) (Int.toNat (Prod.fst y0)) (mt UInt8) ++ ([45, 49] : List UInt8)) :: (([50, 45] : List UInt8) ++ List.getD ((120 :: mt UInt8) :: (121 :: mt UInt8) :: (122 :: mt UInt8) :: mt (List UInt8)) (Int.toNat (Prod.fst y0)) (mt UInt8)) :: List.getD ((120 :: mt UInt8) :: (121 :: mt UInt8) :: (122 :: mt UInt8) :: mt (List UInt8)) (Int.toNat (Prod.fst y1)) (mt UInt8) :: mt (List UInt8)) (Int.toNat (Prod.fst y2)) (mt UInt8), Prod.fst (Prod.snd y2), Prod.snd (Prod.snd y2))))
               (
                none))
             (
              none))
           (
            none))
         (
          none))
       (
        none))
     (
      none))
   (
    none)
theorem eq60 {R : Type} (B : Ops) (c58 : Int → List ty3.den → Int → Option (Int × (List ty3.den) × Int)) (p0 : List ty3.den) (p1 : Int) (k : AV → Objs → Option R) (n : Nat) : afun tau B gl0 X60 (ent 58 (e58 c58) (gnil)) ow Tryd.f60 [.c (.ptr 0 0)] [(0, .box 78 [.list 3 ty3 p0, .int .i64 p1])] k n = T60 B c58 p0 p1 (fun y => k (.c (.str y.1)) [(0, .box 78 [.list 3 ty3 y.2.1, .int .i64 y.2.2])]) := by kernel_rfl
theorem nt60 {R R' : Type} (B : Ops) (c58 : Int → List ty3.den → Int → Option (Int × (List ty3.den) × Int)) (p0 : List ty3.den) (p1 : Int) (k0 : ((List UInt8) × (List ty3.den) × Int) → Option R') (k : R' → Option R) : T60 B c58 p0 p1 (fun y => ob (k0 y) k) = ob (T60 B c58 p0 p1 k0) k := by
  unfold T60
  repeat' first | exact rfl | apply nat_cond | (apply nat_ob; intro)
def F60 (c58 : Int → List ty3.den → Int → Option (Int × (List ty3.den) × Int)) (p0 : List ty3.den) (p1 : Int) : Option ((List UInt8) × (List ty3.den) × Int) := T60 Ops.std c58 p0 p1 some
theorem fo60 {R : Type} (c58 : Int → List ty3.den → Int → Option (Int × (List ty3.den) × Int)) (p0 : List ty3.den) (p1 : Int) (k : AV → Objs → Option R) (n : Nat) : afun tau Ops.std gl0 X60 (ent 58 (e58 c58) (gnil)) ow Tryd.f60 [.c (.ptr 0 0)] [(0, .box 78 [.list 3 ty3 p0, .int .i64 p1])] k n = ob (F60 c58 p0 p1) (fun y => k (.c (.str y.1)) [(0, .box 78 [.list 3 ty3 y.2.1, .int .i64 y.2.2])]) := by rw [eq60]; exact nt60 Ops.std c58 p0 p1 some (fun y => k (.c (.str y.1)) [(0, .box 78 [.list 3 ty3 y.2.1, .int .i64 y.2.2])])
def e60 {R : Type} (c : List ty3.den → Int → Option ((List UInt8) × (List ty3.den) × Int)) : Ent R := fun args objs k =>
  oCons args fun a0 l0 => oC a0 fun x0 => cPtr 0 x0 <| oNil l0 <| oBox 0 78 objs fun b0 o0 => cCons b0 fun u0_0 v0_0 => cList 3 ty3 u0_0 fun p0 => cCons v0_0 fun u0_1 v0_1 => cInt .i64 u0_1 fun p1 => cNil v0_1 <| oNilO o0 <| ob (c p0 p1) fun y => k (.c (.str y.1)) [(0, .box 78 [.list 3 ty3 y.2.1, .int .i64 y.2.2])]
abbrev Sp60 (c : List ty3.den → Int → Option ((List UInt8) × (List ty3.den) × Int)) : Prop := ∀ (p0 : List ty3.den) (p1 : Int) (y : (List UInt8) × (List ty3.den) × Int), c p0 p1 = some y → Spec Tryd.prog gl0 60 [.c (.ptr 0 0)] [(0, .box 78 [.list 3 ty3 p0, .int .i64 p1])] (.c (.str y.1)) [(0, .box 78 [.list 3 ty3 y.2.1, .int .i64 y.2.2])]
theorem ek60 {R : Type} {c : List ty3.den → Int → Option ((List UInt8) × (List ty3.den) × Int)} (hs : Sp60 c) : EOk 60 (e60 (R := R) c) := fun args objs k r h => by
  unfold e60 at h
  obtain ⟨a0, l0, rfl, q1⟩ := oCons_some h
  obtain ⟨x0, rfl, q2⟩ := oC_some q1
  obtain ⟨rfl, q3⟩ := cPtr_some q2
  obtain ⟨rfl, q4⟩ := oNil_some q3
  obtain ⟨b0, o0, rfl, q5⟩ := oBox_some q4
  obtain ⟨u0_0, v0_0, rfl, q6⟩ := cCons_some q5
  obtain ⟨p0, rfl, q7⟩ := cList_some q6
  obtain ⟨u0_1, v0_1, rfl, q8⟩ := cCons_some q7
  obtain ⟨p1, rfl, q9⟩ := cInt_some q8
  obtain ⟨rfl, q10⟩ := cNil_some q9
  obtain ⟨rfl, q11⟩ := oNilO_some q10
  exact eok_of (hs p0 p1) q11
theorem sf60 {c58 : Int → List ty3.den → Int → Option (Int × (List ty3.den) × Int)} (h58 : Sp58 c58) : Sp60 (F60 c58) := fun p0 p1 y hy => by
  refine spec_of (G := ent 58 (e58 c58) (gnil)) (ent_ok (ek58 h58) (gnil_ok)) 1000000 (fn := Tryd.f60) (by kernel_rfl) (by kernel_rfl) (X := X60) (by kernel_rfl) ?_
  rw [fo60, hy]
  rfl
noncomputable def M60 : List ty3.den → Int → Option ((List UInt8) × (List ty3.den) × Int) := F60 M58
theorem sm60 : Sp60 M60 := sf60 sm58

/-! ### 28: lariat/lariathand.Trans -/
def X28 : Aux := ⟨[(9, [0, 1, 2, 3, 4, 7, 10, 11, 12, 13, 14, 15, 16, 17, 18, 19, 20, 21, 22, 23, 24, 25, 26, 27, 28, 29, 30, 31, 32, 33, 34, 35, 36, 37, 38, 39, 40, 41, 42, 43, 44, 45, 46, 47, 48, 49, 50, 51, 52, 53, 54, 55, 56, 57, 58, 59, 60, 61, 62, 63, 64, 65, 66, 67, 68, 69, 70, 71, 72, 73, 74, 75, 76, 77, 78, 79, 80, 81, 82, 83, 84, 85, 86, 87, 88, 89, 90, 91, 92, 93])], [(2, .lin [0, 1, 6, 12, 18, 19, 2, 3, 4, 5, 7, 8, 9, 10, 11, 13, 14, 15, 16, 17, 20, 21, 22, 23, 24]), (14, .lin [0, 1, 2, 3, 4, 5, 6, 13, 7, 8, 9, 10, 11, 12, 14, 15, 16])]⟩
inductive S28 where
  | l0 (v0_0 : List UInt8) (v0_1 : Int) (v0_2 : Int) (v0_3 : List ty3.den) (v0_4 : Int)
def T28 {R : Type} (B : Ops) (c58 : Int → List ty3.den → Int → Option (Int × (List ty3.den) × Int)) (c59 : List ty3.den → Int → Option ((List UInt8) × (List ty3.den) × Int)) (c57 : Int → List ty3.den → Int → Option ((List UInt8) × (List ty3.den) × Int)) (c60 : List ty3.den → Int → Option ((List UInt8) × (List ty3.den) × Int)) (p0 : List ty3.den) (p1 : Int) (again : S28 → Option R) (k : ((List UInt8)) → Option R) : Option S28 → Option R
  | none =>
    ob (c58 p1 p0 (0)) fun y0 =>
    cond (Ops.inb B (Prod.fst y0) (3))
     (
      cond (Ops.lim B (List.length (List.getD ((112 :: mt UInt8) :: (113 :: mt UInt8) :: (114 :: mt UInt8) :: mt (List UInt8)) (Int.toNat (Prod.fst y0)) (mt UInt8)) + 1) (1))
       (
        ob (c58 (3) (Prod.fst (Prod.snd y0)) (Prod.snd (Prod.snd y0))) fun y1 =>
        cond (Ops.inb B (Prod.fst y1) (4))
         (
          cond (Ops.lim B (List.length (List.getD ((112 :: mt UInt8) :: (113 :: mt UInt8) :: (114 :: mt UInt8) :: mt (List UInt8)) (Int.toNat (Prod.fst y0)) (mt UInt8) ++ ([32] : List UInt8)) + List.length (List.getD ((97 :: mt UInt8) :: (98 :: mt UInt8) :: (99 :: mt UInt8) :: (100 :: mt UInt8) :: mt (List UInt8)) (Int.toNat (Prod.fst y1)) (mt UInt8))) (1))
           (
            cond (Ops.lim B (List.length (List.getD ((112 :: mt UInt8) :: (113 :: mt UInt8) :: (114 :: mt UInt8) :: mt (List UInt8)) (Int.toNat (Prod.fst y0)) (mt UInt8) ++ ([32] : List UInt8) ++ List.getD ((97 :: mt UInt8) :: (98 :: mt UInt8) :: (99 :: mt UInt8) :: (100 :: mt UInt8) :: mt (List UInt8)) (Int.toNat (Prod.fst y1)) (mt UInt8)) + 1) (1))
             (
              ob (c58 (3) (Prod.fst (Prod.snd y1)) (Prod.snd (Prod.snd y1))) fun y2 =>
              cond (Ops.inb B (Prod.fst y2) (4))
               (
                cond (Ops.lim B (List.length (List.getD ((112 :: mt UInt8) :: (113 :: mt UInt8) :: (114 :: mt UInt8) :: mt (List UInt8)) (Int.toNat (Prod.fst y0)) (mt UInt8) ++ ([32] : List UInt8) ++ List.getD ((97 :: mt UInt8) :: (98 :: mt UInt8) :: (99 :: mt UInt8) :: (100 :: mt UInt8) :: mt (List UInt8)) (Int.toNat (Prod.fst y1)) (mt UInt8) ++ ([32] : List UInt8)) + List.length (List.getD ((97 :: mt UInt8) :: (98 :: mt UInt8) :: (99 :: mt UInt8) :: (100 :: mt UInt8) :: mt (List UInt8)) (Int.toNat (Prod.fst y2)) (mt UInt8))) (1))
                 (
                  cond (Ops.lim B (List.length (List.getD ((112 :: mt UInt8) :: (113 :: mt UInt8) :: (114 :: mt UInt8) :: mt (List UInt8)) (Int.toNat (Prod.fst y0)) (mt UInt8) ++ ([32] : List UInt8) ++ List.getD ((97 :: mt UInt8) :: (98 :: mt UInt8) :: (99 :: mt UInt8) :: (100 :: mt UInt8) :: mt (List UInt8)) (Int.toNat (Prod.fst y1)) (mt UInt8) ++ ([32] : List UInt8) ++ List.getD ((97 :: mt UInt8) :: (98 :: mt UInt8) :: (99 :: mt UInt8) :: (100 :: mt UInt8) :: mt (List UInt8)) (Int.toNat (Prod.fst y2)) (mt UInt8)) + 1) (1))
                   (
                    ob (c58 (8) (Prod.fst (Prod.snd y2)) (Prod.snd (Prod.snd y2))) fun y3 =>
                    cond (Ops.inb B (Prod.fst y3) (8))
                     (
                      cond (Ops.lim B (List.length (List.getD ((112 :: mt UInt8) :: (113 :: mt UInt8) :: (114 :: mt UInt8) :: mt (List UInt8)) (Int.toNat (Prod.fst y0)) (mt UInt8) ++ ([32] : List UInt8) ++ List.getD ((97 :: mt UInt8) :: (98 :: mt UInt8) :: (99 :: mt UInt8) :: (100 :: mt UInt8) :: mt (List UInt8)) (Int.toNat (Prod.fst y1)) (mt UInt8) ++ ([32] : List UInt8) ++ List.getD ((97 :: mt UInt8) :: (98 :: mt UInt8) :: (99 :: mt UInt8) :: (100 :: mt UInt8) :: mt (List UInt8)) (Int.toNat (Prod.fst y2)) (mt UInt8) ++ ([32] : List UInt8)) + List.length (List.getD (([45] : List UInt8) :: ([45] : List UInt8) :: ([45] : List UInt8) :: ([45] : List UInt8) :: ([99, 33] : List UInt8) :: ([99, 63] : List UInt8) :: ([100, 33] : List UInt8) :: ([99, 63] : List UInt8) :: mt (List UInt8)) (Int.toNat (Prod.fst y3)) (mt UInt8))) (1))
                       (
                        cond (Ops.lim B (List.length (List.getD ((112 :: mt UInt8) :: (113 :: mt UInt8) :: (114 :: mt UInt8) :: mt (List UInt8)) (Int.toNat (Prod.fst y0)) (mt UInt8) ++ ([32] : List UInt8) ++ List.getD ((97 :: mt UInt8) :: (98 :: mt UInt8) :: (99 :: mt UInt8) :: (100 :: mt UInt8) :: mt (List UInt8)) (Int.toNat (Prod.fst y1)) (mt UInt8) ++ ([32] : List UInt8) ++ List.getD ((97 :: mt UInt8) :: (98 :: mt UInt8) :: (99 :: mt UInt8) :: (100 :: mt UInt8) :: mt (List UInt8)) (Int.toNat (Prod.fst y2)) (mt UInt8) ++ ([32] : List UInt8) ++ List.getD (([45] : List UInt8) :: ([45] : List UInt8) :: ([45] : List UInt8) :: ([45] : List UInt8) :: ([99, 33] : List UInt8) :: ([99, 63] : List UInt8) :: ([100, 33] : List UInt8) :: ([99, 63] : List UInt8) :: mt (List UInt8)) (Int.toNat (Prod.fst y3)) (mt UInt8)) + 1) (1))
                         (
                          ob (c59 (Prod.fst (Prod.snd y3)) (Prod.snd (Prod.snd y3))) fun y4 =>
                          ob (c58 (9) (Prod.fst (Prod.snd y4)) (Prod.snd (Prod.snd y4))) fun y5 =>
                          cond (Ops.eq B (Prod.fst y5) (8))
                           (
                            ob (c57 (2) (Prod.fst (Prod.snd y5)) (Prod.snd (Prod.snd y5))) fun y6 =>
                            cond (Ops.lim B (List.length (List.getD ((112 :: mt UInt8) :: (113 :: mt UInt8) :: (114 :: mt UInt8) :: mt (List UInt8)) (Int.toNat (Prod.fst y0)) (mt UInt8) ++ ([32] : List UInt8) ++ List.getD ((97 :: mt UInt8) :: (98 :: mt UInt8) :: (99 :: mt UInt8) :: (100 :: mt UInt8) :: mt (List UInt8)) (Int.toNat (Prod.fst y1)) (mt UInt8) ++ ([32] : List UInt8) ++ List.getD ((97 :: mt UInt8) :: (98 :: mt UInt8) :: (99 :: mt UInt8) :: (100 :: mt UInt8) :: mt (List UInt8)) (Int.toNat (Prod.fst y2)) (mt UInt8) ++ ([32] : List UInt8) ++ List.getD (([45] : List UInt8) :: ([45] : List UInt8) :: ([45] : List UInt8) :: ([45] : List UInt8) :: ([99, 33] : List UInt8) :: ([99, 63] : List UInt8) :: ([100, 33] : List UInt8) :: ([99, 63] : List UInt8) :: mt (List UInt8)) (Int.toNat (Prod.fst y3)) (mt UInt8) ++ ([32] : List UInt8)) + List.length (Prod.fst y6)) (1))
                             (
                              ob (c58 (4) (Prod.fst (Prod.snd y6)) (Prod.snd (Prod.snd y6))) fun y7 =>
                              cond (Ops.inb B (Prod.fst y7) (4))
                               (
                                again (.l0 (List.getD ((112 :: mt UInt8) :: (113 :: mt UInt8) :: (114 :: mt UInt8) :: mt (List UInt8)) (Int.toNat (Prod.fst y0)) (mt UInt8) ++ ([32] : List UInt8) ++ List.getD ((97 :: mt UInt8) :: (98 :: mt UInt8) :: (99 :: mt UInt8) :: (100 :: mt UInt8) :: mt (List UInt8)) (Int.toNat (Prod.fst y1)) (mt UInt8) ++ ([32] : List UInt8) ++ List.getD ((97 :: mt UInt8) :: (98 :: mt UInt8) :: (99 :: mt UInt8) :: (100 :: mt UInt8) :: mt (List UInt8)) (Int.toNat (Prod.fst y2)) (mt UInt8) ++ ([32] : List UInt8) ++ List.getD (([45] : List UInt8) :: ([45] : List UInt8) :: ([45] : List UInt8) :: ([45] : List UInt8) :: ([99, 33] : List UInt8) :: ([99, 63] : List UInt8) :: ([100, 33] : List UInt8) :: ([99, 63] : List UInt8) :: mt (List UInt8)) (Int.toNat (Prod.fst y3)) (mt UInt8) ++ ([32] : List UInt8) ++ Prod.fst y6) (List.getD (0 :: 1 :: 1 :: 2 :: mt Int) (Int.toNat (Prod.fst y7)) (0)) 0 (Prod.fst (Prod.snd y7)) (Prod.snd (Prod.snd y7))))
                               (
                                none))
                             (
                              none))
                           (
                            cond (Ops.lim B (List.length (List.getD ((112 :: mt UInt8) :: (113 :: mt UInt8) :: (114 :: mt UInt8) :: mt (List UInt8)) (Int.toNat (Prod.fst y0)) (mt UInt8) ++ ([32] : List UInt8) ++ List.getD ((97 :: mt UInt8) :: (98 :: mt UInt8) :: (99 :: mt UInt8) :: (100 :: mt UInt8) :: mt (List UInt8)) (Int.toNat (Prod.fst y1)) (mt UInt8) ++ ([32] : List UInt8) ++ List.getD ((97 :: mt UInt8) :: (98 :: mt UInt8) :: (99 :: mt UInt8) :: (100 :: mt UInt8) :: mt (List UInt8)) (Int.toNat (Prod.fst y2)) (mt UInt8) ++ ([32] : List UInt8) ++ List.getD (([45] : List UInt8) :: ([45] : List UInt8) :: ([45] : List UInt8) :: ([45] : List UInt8) :: ([99, 33] : List UInt8) :: ([99, 63] : List UInt8) :: ([100, 33] : List UInt8) :: ([99, 63] : List UInt8) :: mt (List UInt8)) (Int.toNat (Prod.fst y3)) (mt UInt8) ++ ([32] : List UInt8)) + List.length (Prod.fst y4)) (1))
                             (
                              ob (c58 (4) (Prod.fst (Prod.snd y5)) (Prod.snd (Prod.snd y5))) fun y6 =>
                              cond (Ops.inb B (Prod.fst y6) (4))
                               (
                                again (.l0 (List.getD ((112 :: mt UInt8) :: (113 :: mt UInt8) :: (114 :: mt UInt8) :: mt (List UInt8)) (Int.toNat (Prod.fst y0)) (mt UInt8) ++ ([32] : List UInt8) ++ List.getD ((97 :: mt UInt8) :: (98 :: mt UInt8) :: (99 :: mt UInt8) :: (100 :: mt UInt8) :: mt (List UInt8)) (Int.toNat (Prod.fst y1)) (mt UInt8) ++ ([32] : List UInt8) ++ List.getD ((97 :: mt UInt8) :: (98 :: mt UInt8) :: (99 :: mt UInt8) :: (100 :: mt UInt8) :: mt (List UInt8)) (Int.toNat (Prod.fst y2)) (mt UInt8) ++ ([32] : List UInt8) ++ List.getD (([45] : List UInt8) :: ([45] : List UInt8) :: ([45] : List UInt8) :: ([45] : List UInt8) :: ([99, 33] : List UInt8) :: ([99, 63] : List UInt8) :: ([100, 33] : List UInt8) :: ([99, 63] : List UInt8) :: mt (List UInt8)) (Int.toNat (Prod.fst y3)) (mt UInt8) ++ ([32] : List UInt8) ++ Prod.fst y4) (List.getD (0 :: 1 :: 1 :: 2 :: mt Int) (Int.toNat (Prod.fst y6)) (0)) 0 (Prod.fst (Prod.snd y6)) (Prod.snd (Prod.snd y6))))
                               (
                                none))
                             (
                              none)))
                         (
                          none))
                       (
                        none))
                     (
                      none))
                   (
                    none))
                 (
                  none))
               (
                none))
             (
              none))
           (
            none))
         (
          none))
       (
        none))
     (
      none)
  | some (.l0 v0_0 v0_1 v0_2 v0_3 v0_4) =>
    cond (Ops.lt B v0_2 v0_1)
     (
      ob (c58 (2) v0_3 v0_4) fun y0 =>
      cond (Ops.inb B (Prod.fst y0) (3))
       (
        ob (c60 (Prod.fst (Prod.snd y0)) (Prod.snd (Prod.snd y0))) fun y1 =>
        ob (c58 (6) (Prod.fst (Prod.snd y1)) (Prod.snd (Prod.snd y1))) fun y2 =>
        cond (Ops.eq B (Prod.fst y2) (0))
         (
          cond (Ops.lim B (List.length v0_0 + 3) (1))
           (
            cond (Ops.lim B (List.length (v0_0 ++ ([32, 59, 32] : List UInt8)) + List.length (List.getD ((120 :: mt UInt8) :: (121 :: mt UInt8) :: (122 :: mt UInt8) :: mt (List UInt8)) (Int.toNat (Prod.fst y0)) (mt UInt8))) (1))
             (
              cond (Ops.lim B (List.length (v0_0 ++ ([32, 59, 32] : List UInt8) ++ List.getD ((120 :: mt UInt8) :: (121 :: mt UInt8) :: (122 :: mt UInt8) :: mt (List UInt8)) (Int.toNat (Prod.fst y0)) (mt UInt8)) + 3) (1))
               (
                cond (Ops.lim B (List.length (v0_0 ++ ([32, 59, 32] : List UInt8) ++ List.getD ((120 :: mt UInt8) :: (121 :: mt UInt8) :: (122 :: mt UInt8) :: mt (List UInt8)) (Int.toNat (Prod.fst y0)) (mt UInt8) ++ ([32, 61, 32] : List UInt8)) + List.length (Prod.fst y1)) (1))
                 (
                  again (.l0 (v0_0 ++ ([32, 59, 32] : List UInt8) ++ List.getD ((120 :: mt UInt8) :: (121 :: mt UInt8) :: (122 :: mt UInt8) :: mt (List UInt8)) (Int.toNat (Prod.fst y0)) (mt UInt8) ++ ([32, 61, 32] : List UInt8) ++ Prod.fst y1) v0_1 (IntKind.wrap IntKind.i64 (v0_2 + 1)) (Prod.fst (Prod.snd y2)) (Prod.snd (Prod.snd y2))))
                 (
                  none))
               (
                none))
             (
              none))
           (
            none))
         (
          cond (Ops.eq B (Prod.fst y2) (1))
           (
            cond (Ops.lim B (List.length v0_0 + 3) (1))
             (
              cond (Ops.lim B (List.length (v0_0 ++ ([32, 59, 32] : List UInt8)) + List.length (List.getD ((120 :: mt UInt8) :: (121 :: mt UInt8) :: (122 :: mt UInt8) :: mt (List UInt8)) (Int.toNat (Prod.fst y0)) (mt UInt8))) (1))
               (
                cond (Ops.lim B (List.length (v0_0 ++ ([32, 59, 32] : List UInt8) ++ List.getD ((120 :: mt UInt8) :: (121 :: mt UInt8) :: (122 :: mt UInt8) :: mt (List UInt8)) (Int.toNat (Prod.fst y0)) (mt UInt8)) + 3) (1))
                 (
                  cond (Ops.lim B (List.length (v0_0 ++ ([32, 59, 32] : List UInt8) ++ List.getD ((120 :: mt UInt8) :: (121 :: mt UInt8) :: (122 :: mt UInt8) :: mt (List UInt8)) (Int.toNat (Prod.fst y0)) (mt UInt8) ++ ([32, 61, 32] : List UInt8)) + 1) (1))
                   (
                    again (.l0 (v0_0 ++ ([32, 59, 32] : List UInt8) ++ List.getD ((120 :: mt UInt8) :: (121 :: mt UInt8) :: (122 :: mt UInt8) :: mt (List UInt8)) (Int.toNat (Prod.fst y0)) (mt UInt8) ++ ([32, 61, 32] : List UInt8) ++ ([48] : List UInt8)) v0_1 (IntKind.wrap IntKind.i64 (v0_2 + 1)) (Prod.fst (Prod.snd y2)) (Prod.snd (Prod.snd y2))))
                   (
                    none))
                 (
                  none))
               (
                none))
             (
              none))
           (
            cond (Ops.lim B (3 + List.length (List.getD ((120 :: mt UInt8) :: (121 :: mt UInt8) :: (122 :: mt UInt8) :: mt (List UInt8)) (Int.toNat (Prod.fst y0)) (mt UInt8))) (1))
             (
              cond (Ops.lim B (List.length (([49, 45, 40] : List UInt8) ++ List.getD ((120 :: mt UInt8) :: (121 :: mt UInt8) :: (122 :: mt UInt8) :: mt (List UInt8)) (Int.toNat (Prod.fst y0)) (mt UInt8)) + 4) (1))
               (
                cond (Ops.lim B (1 + List.length (List.getD ((120 :: mt UInt8) :: (121 :: mt UInt8) :: (122 :: mt UInt8) :: mt (List UInt8)) (Int.toNat (Prod.fst y0)) (mt UInt8))) (1))
                 (
                  cond (Ops.lim B (List.length (([40] : List UInt8) ++ List.getD ((120 :: mt UInt8) :: (121 :: mt UInt8) :: (122 :: mt UInt8) :: mt (List UInt8)) (Int.toNat (Prod.fst y0)) (mt UInt8)) + 3) (1))
                   (
                    ob (c58 (2) (Prod.fst (Prod.snd y2)) (Prod.snd (Prod.snd y2))) fun y3 =>
                    cond (Ops.inb B (Prod.fst y3) (3))
                     (
                      cond (Ops.lim B (1 + List.length (List.getD ((120 :: mt UInt8) :: (121 :: mt UInt8) :: (122 :: mt UInt8) :: mt (List UInt8)) (Int.toNat (Prod.fst y3)) (mt UInt8))) (1))
                       (
                        cond (Ops.lim B (List.length (([40] : List UInt8) ++ List.getD ((120 :: mt UInt8) :: (121 :: mt UInt8) :: (122 :: mt UInt8) :: mt (List UInt8)) (Int.toNat (Prod.fst y3)) (mt UInt8)) + 4) (1))
                         (
                          ob (c58 (3) (Prod.fst (Prod.snd y3)) (Prod.snd (Prod.snd y3))) fun y4 =>
                          cond (Ops.inb B (Prod.fst y4) (3))
                           (
                            cond (Ops.lim B (List.length v0_0 + 3) (1))
                             (
                              cond (Ops.lim B (List.length (v0_0 ++ ([32, 59, 32] : List UInt8)) + List.length (List.getD ((120 :: mt UInt8) :: (121 :: mt UInt8) :: (122 :: mt UInt8) :: mt (List UInt8)) (Int.toNat (Prod.fst y0)) (mt UInt8))) (1))
                               (
                                cond (Ops.lim B (List.length (v0_0 ++ ([32, 59, 32] : List UInt8) ++ List.getD ((120 :: mt UInt8) :: (121 :: mt UInt8) :: (122 :: mt UInt8) :: mt (List UInt8)) (Int.toNat (Prod.fst y0)) (mt UInt8)) + 3) (1))
                                 (
                                  cond (Ops.lim B (List.length (v0_0 ++ ([32, 59, 32] : List UInt8) ++ List.getD ((120 :: mt UInt8) :: (121 :: mt UInt8) :: (122 :: mt UInt8) :: mt (List UInt8)) (Int.toNat (Prod.fst y0)) (mt UInt8) ++ ([32, 61, 32] : List UInt8)) + List.length (List.getD ((([49, 45, 40] : List UInt8) ++ List.getD ((120 :: mt UInt8) :: (121 :: mt UInt8) :: (122 :: mt UInt8) :: mt (List UInt8)) (Int.toNat (Prod.fst y0)) (mt UInt8) ++ ([61, 61, 49, 41] : List UInt8)) :: (([40] : List UInt8) ++ List.getD ((120 :: mt UInt8) :: (121 :: mt UInt8) :: (122 :: mt UInt8) :: mt (List UInt8)) (Int.toNat (Prod.fst y0)) (mt UInt8) ++ ([60, 49, 41] : List UInt8)) :: (([40] : List UInt8) ++ List.getD ((120 :: mt UInt8) :: (121 :: mt UInt8) :: (122 :: mt UInt8) :: mt (List UInt8)) (Int.toNat (Prod.fst y3)) (mt UInt8) ++ ([61, 61, 48, 41] : List UInt8)) :: mt (List UInt8)) (Int.toNat (Prod.fst y4)) (mt UInt8))) (1))
                                   (
                                    again (.l0 (v0_0 ++ ([32, 59, 32] : List UInt8) ++ List.getD ((120 :: mt UInt8) :: (121 :: mt UInt8) :: (122 :: mt UInt8) :: mt (List UInt8)) (Int.toNat (Prod.fst y0)) (mt UInt8) ++ ([32, 61, 32] : List UInt8) ++ List.getD ((([49, 45, 40] : List UInt8) ++ List.getD ((120 :: mt UInt8) :: (121 :: mt UInt8) :: (122 :: mt UInt8) :: mt (List UInt8)) (Int.toNat (Prod.fst y0)) (mt UInt8) ++ ([61, 61, 49, 41] : List UInt8)) :: (([40] : List UInt8) ++ List.getD ((120 :: mt UInt8) :: (121 :: mt UInt8) :: (122 :: mt UInt8) :: mt (List UInt8)) (Int.toNat (Prod.fst y0)) (mt UInt8) ++ ([60, 49, 41] : List UInt8)) :: (([40] : List UInt8) ++ List.getD ((120 :: mt UInt8) :: (121 :: mt UInt8) :: (122 :: mt UInt8) :: mt (List UInt8)) (Int.toNat (Prod.fst y3)) (mt UInt8) ++ ([61, 61, 48, 41] : List UInt8)) :: mt (List UInt8)) (Int.toNat (Prod.fst y4)) (mt UInt8)) v0_1 (IntKind.wrap IntKind.i64 (v0_2 + 1)) (Prod.fst (Prod.snd y4)) (Prod.snd (Prod.snd y4))))
                                   (
                                    none))
                                 (
                                  none))
                               (
                                none))
                             (
                              none))
                           (
                            none))
                         (
                          none))
                       (
                        none))
                     (
                      none))
                   (
                    none))
                 (
                  none))
               (
                none))
             (
              none))))
       (
        none))
     (
      k v0_0)
def E28 (p0 : List ty3.den) (p1 : Int) : S28 → List AV × Objs
  | .l0 v0_0 v0_1 v0_2 v0_3 v0_4 => (mk 94 [(5, .c (.ptr 5 0)), (6, .c (.str v0_0)), (8, .c (.int .i64 v0_1)), (9, .c (.int .i64 v0_2))], [(5, .box 78 [.list 3 ty3 v0_3, .int .i64 v0_4])])
def I28 : S28 → Nat
  | .l0 _ _ _ _ _ => 0
theorem eq28 {R : Type} (B : Ops) (c58 : Int → List ty3.den → Int → Option (Int × (List ty3.den) × Int)) (c59 : List ty3.den → Int → Option ((List UInt8) × (List ty3.den) × Int)) (c57 : Int → List ty3.den → Int → Option ((List UInt8) × (List ty3.den) × Int)) (c60 : List ty3.den → Int → Option ((List UInt8) × (List ty3.den) × Int)) (p0 : List ty3.den) (p1 : Int) (k : AV → Objs → Option R) (n : Nat) : afun tau B gl0 X28 (ent 58 (e58 c58) (ent 59 (e59 c59) (ent 57 (e57 c57) (ent 60 (e60 c60) (gnil))))) ow Tryd.f28 [.c (.list 3 ty3 p0), .c (.int .i64 p1)] [] k n = T28 B c58 c59 c57 c60 p0 p1 (fun s => aloop tau B gl0 X28 (ent 58 (e58 c58) (ent 59 (e59 c59) (ent 57 (e57 c57) (ent 60 (e60 c60) (gnil))))) ow [] Tryd.f28 k (I28 s) (E28 p0 p1 s) n) (fun y => k (.c (.str y)) []) none := by kernel_rfl
theorem el28 {R : Type} (B : Ops) (c58 : Int → List ty3.den → Int → Option (Int × (List ty3.den) × Int)) (c59 : List ty3.den → Int → Option ((List UInt8) × (List ty3.den) × Int)) (c57 : Int → List ty3.den → Int → Option ((List UInt8) × (List ty3.den) × Int)) (c60 : List ty3.den → Int → Option ((List UInt8) × (List ty3.den) × Int)) (p0 : List ty3.den) (p1 : Int) (k : AV → Objs → Option R) (n : Nat) : ∀ s, aloop tau B gl0 X28 (ent 58 (e58 c58) (ent 59 (e59 c59) (ent 57 (e57 c57) (ent 60 (e60 c60) (gnil))))) ow [] Tryd.f28 k (I28 s) (E28 p0 p1 s) (n + 1) = T28 B c58 c59 c57 c60 p0 p1 (fun s => aloop tau B gl0 X28 (ent 58 (e58 c58) (ent 59 (e59 c59) (ent 57 (e57 c57) (ent 60 (e60 c60) (gnil))))) ow [] Tryd.f28 k (I28 s) (E28 p0 p1 s) n) (fun y => k (.c (.str y)) []) (some s)
  | .l0 v0_0 v0_1 v0_2 v0_3 v0_4 => by kernel_rfl
theorem nt28 {R R' : Type} (B : Ops) (c58 : Int → List ty3.den → Int → Option (Int × (List ty3.den) × Int)) (c59 : List ty3.den → Int → Option ((List UInt8) × (List ty3.den) × Int)) (c57 : Int → List ty3.den → Int → Option ((List UInt8) × (List ty3.den) × Int)) (c60 : List ty3.den → Int → Option ((List UInt8) × (List ty3.den) × Int)) (p0 : List ty3.den) (p1 : Int) (again : S28 → Option R) (again' : S28 → Option R') (k0 : ((List UInt8)) → Option R') (k : R' → Option R) (h : ∀ s, again s = ob (again' s) k) : ∀ s, T28 B c58 c59 c57 c60 p0 p1 again (fun y => ob (k0 y) k) s = ob (T28 B c58 c59 c57 c60 p0 p1 again' k0 s) k
  | none => by unfold T28; repeat' first | exact rfl | exact h _ | apply nat_cond | (apply nat_ob; intro)
  | some (.l0 v0_0 v0_1 v0_2 v0_3 v0_4) => by unfold T28; repeat' first | exact rfl | exact h _ | apply nat_cond | (apply nat_ob; intro)
def R28 (c58 : Int → List ty3.den → Int → Option (Int × (List ty3.den) × Int)) (c59 : List ty3.den → Int → Option ((List UInt8) × (List ty3.den) × Int)) (c57 : Int → List ty3.den → Int → Option ((List UInt8) × (List ty3.den) × Int)) (c60 : List ty3.den → Int → Option ((List UInt8) × (List ty3.den) × Int)) (p0 : List ty3.den) (p1 : Int) : Nat → S28 → Option ((List UInt8))
  | 0, _ => none
  | n + 1, s => T28 Ops.std c58 c59 c57 c60 p0 p1 (R28 c58 c59 c57 c60 p0 p1 n) some (some s)
theorem rr28 {R : Type} (c58 : Int → List ty3.den → Int → Option (Int × (List ty3.den) × Int)) (c59 : List ty3.den → Int → Option ((List UInt8) × (List ty3.den) × Int)) (c57 : Int → List ty3.den → Int → Option ((List UInt8) × (List ty3.den) × Int)) (c60 : List ty3.den → Int → Option ((List UInt8) × (List ty3.den) × Int)) (p0 : List ty3.den) (p1 : Int) (k : AV → Objs → Option R) : ∀ (n : Nat) (s : S28), aloop tau Ops.std gl0 X28 (ent 58 (e58 c58) (ent 59 (e59 c59) (ent 57 (e57 c57) (ent 60 (e60 c60) (gnil))))) ow [] Tryd.f28 k (I28 s) (E28 p0 p1 s) n = ob (R28 c58 c59 c57 c60 p0 p1 n s) (fun y => k (.c (.str y)) [])
  | 0, s => by cases s <;> rfl
  | n + 1, s => by rw [el28]; exact nt28 Ops.std c58 c59 c57 c60 p0 p1 _ _ some (fun y => k (.c (.str y)) []) (rr28 c58 c59 c57 c60 p0 p1 k n) (some s)
def F28 (c58 : Int → List ty3.den → Int → Option (Int × (List ty3.den) × Int)) (c59 : List ty3.den → Int → Option ((List UInt8) × (List ty3.den) × Int)) (c57 : Int → List ty3.den → Int → Option ((List UInt8) × (List ty3.den) × Int)) (c60 : List ty3.den → Int → Option ((List UInt8) × (List ty3.den) × Int)) (p0 : List ty3.den) (p1 : Int) : Option ((List UInt8)) := T28 Ops.std c58 c59 c57 c60 p0 p1 (R28 c58 c59 c57 c60 p0 p1 1000000) some none
theorem fo28 {R : Type} (c58 : Int → List ty3.den → Int → Option (Int × (List ty3.den) × Int)) (c59 : List ty3.den → Int → Option ((List UInt8) × (List ty3.den) × Int)) (c57 : Int → List ty3.den → Int → Option ((List UInt8) × (List ty3.den) × Int)) (c60 : List ty3.den → Int → Option ((List UInt8) × (List ty3.den) × Int)) (p0 : List ty3.den) (p1 : Int) (k : AV → Objs → Option R) : afun tau Ops.std gl0 X28 (ent 58 (e58 c58) (ent 59 (e59 c59) (ent 57 (e57 c57) (ent 60 (e60 c60) (gnil))))) ow Tryd.f28 [.c (.list 3 ty3 p0), .c (.int .i64 p1)] [] k 1000000 = ob (F28 c58 c59 c57 c60 p0 p1) (fun y => k (.c (.str y)) []) := by rw [eq28]; exact nt28 Ops.std c58 c59 c57 c60 p0 p1 _ _ some (fun y => k (.c (.str y)) []) (rr28 c58 c59 c57 c60 p0 p1 k 1000000) none
def e28 {R : Type} (c : List ty3.den → Int → Option ((List UInt8))) : Ent R := fun args objs k =>
  oCons args fun a0 l0 => oC a0 fun x0 => cList 3 ty3 x0 fun p0 => oCons l0 fun a1 l1 => oC a1 fun x1 => cInt .i64 x1 fun p1 => oNil l1 <| oNilO objs <| ob (c p0 p1) fun y => k (.c (.str y)) []
abbrev Sp28 (c : List ty3.den → Int → Option ((List UInt8))) : Prop := ∀ (p0 : List ty3.den) (p1 : Int) (y : (List UInt8)), c p0 p1 = some y → Spec Tryd.prog gl0 28 [.c (.list 3 ty3 p0), .c (.int .i64 p1)] [] (.c (.str y)) []
theorem ek28 {R : Type} {c : List ty3.den → Int → Option ((List UInt8))} (hs : Sp28 c) : EOk 28 (e28 (R := R) c) := fun args objs k r h => by
  unfold e28 at h
  obtain ⟨a0, l0, rfl, q1⟩ := oCons_some h
  obtain ⟨x0, rfl, q2⟩ := oC_some q1
  obtain ⟨p0, rfl, q3⟩ := cList_some q2
  obtain ⟨a1, l1, rfl, q4⟩ := oCons_some q3
  obtain ⟨x1, rfl, q5⟩ := oC_some q4
  obtain ⟨p1, rfl, q6⟩ := cInt_some q5
  obtain ⟨rfl, q7⟩ := oNil_some q6
  obtain ⟨rfl, q8⟩ := oNilO_some q7
  exact eok_of (hs p0 p1) q8
theorem sf28 {c58 : Int → List ty3.den → Int → Option (Int × (List ty3.den) × Int)} {c59 : List ty3.den → Int → Option ((List UInt8) × (List ty3.den) × Int)} {c57 : Int → List ty3.den → Int → Option ((List UInt8) × (List ty3.den) × Int)} {c60 : List ty3.den → Int → Option ((List UInt8) × (List ty3.den) × Int)} (h58 : Sp58 c58) (h59 : Sp59 c59) (h57 : Sp57 c57) (h60 : Sp60 c60) : Sp28 (F28 c58 c59 c57 c60) := fun p0 p1 y hy => by
  refine spec_of (G := ent 58 (e58 c58) (ent 59 (e59 c59) (ent 57 (e57 c57) (ent 60 (e60 c60) (gnil))))) (ent_ok (ek58 h58) (ent_ok (ek59 h59) (ent_ok (ek57 h57) (ent_ok (ek60 h60) (gnil_ok))))) 1000000 (fn := Tryd.f28) (by kernel_rfl) (by kernel_rfl) (X := X28) (by kernel_rfl) ?_
  rw [fo28, hy]
  rfl
noncomputable def M28 : List ty3.den → Int → Option ((List UInt8)) := F28 M58 M59 M57 M60
theorem sm28 : Sp28 M28 := sf28 sm58 sm59 sm57 sm60

/-! ### 7: lariat/lariatlaw7.text -/
def X7 : Aux := ⟨[], []⟩
def T7 {R : Type} (B : Ops) (c25 : Int → Int → Option (Int)) (c16 : List ty3.den → Option ((List UInt8))) (c26 : List UInt8 → List ty3.den → Option ((List UInt8))) (c27 : List ty3.den → Option ((List UInt8))) (c28 : List ty3.den → Int → Option ((List UInt8))) (p0 : List ty3.den) (p1 : List ty3.den) (p2 : List UInt8) (p3 : Int) (k : ((List UInt8)) → Option R) : Option R :=
  ob (c25 p3 (4)) fun y0 =>
  cond (Ops.eq B y0 (0))
   (
    k p2)
   (
    cond (Ops.eq B y0 (1))
     (
      ob (c16 p0) fun y1 =>
      ob (c26 y1 p1) fun y2 =>
      k y2)
     (
      cond (Ops.eq B y0 (2))
       (
        ob (c27 p0) fun y1 =>
        ob (c26 y1 p1) fun y2 =>
        k y2)
       (
        ob (c28 p0 (2)) fun y1 =>
        ob (c26 y1 p1) fun y2 =>
        k y2)))
theorem eq7 {R : Type} (B : Ops) (c25 : Int → Int → Option (Int)) (c16 : List ty3.den → Option ((List UInt8))) (c26 : List UInt8 → List ty3.den → Option ((List UInt8))) (c27 : List ty3.den → Option ((List UInt8))) (c28 : List ty3.den → Int → Option ((List UInt8))) (p0 : List ty3.den) (p1 : List ty3.den) (p2 : List UInt8) (p3 : Int) (k : AV → Objs → Option R) (n : Nat) : afun tau B gl0 X7 (ent 25 (e25 c25) (ent 16 (e16 c16) (ent 26 (e26 c26) (ent 27 (e27 c27) (ent 28 (e28 c28) (gnil)))))) ow Tryd.f7 [.c (.list 3 ty3 p0), .c (.list 3 ty3 p1), .c (.str p2), .c (.int .i64 p3)] [] k n = T7 B c25 c16 c26 c27 c28 p0 p1 p2 p3 (fun y => k (.c (.str y)) []) := by kernel_rfl
theorem nt7 {R R' : Type} (B : Ops) (c25 : Int → Int → Option (Int)) (c16 : List ty3.den → Option ((List UInt8))) (c26 : List UInt8 → List ty3.den → Option ((List UInt8))) (c27 : List ty3.den → Option ((List UInt8))) (c28 : List ty3.den → Int → Option ((List UInt8))) (p0 : List ty3.den) (p1 : List ty3.den) (p2 : List UInt8) (p3 : Int) (k0 : ((List UInt8)) → Option R') (k : R' → Option R) : T7 B c25 c16 c26 c27 c28 p0 p1 p2 p3 (fun y => ob (k0 y) k) = ob (T7 B c25 c16 c26 c27 c28 p0 p1 p2 p3 k0) k := by
  unfold T7
  repeat' first | exact rfl | apply nat_cond | (apply nat_ob; intro)
def F7 (c25 : Int → Int → Option (Int)) (c16 : List ty3.den → Option ((List UInt8))) (c26 : List UInt8 → List ty3.den → Option ((List UInt8))) (c27 : List ty3.den → Option ((List UInt8))) (c28 : List ty3.den → Int → Option ((List UInt8))) (p0 : List ty3.den) (p1 : List ty3.den) (p2 : List UInt8) (p3 : Int) : Option ((List UInt8)) := T7 Ops.std c25 c16 c26 c27 c28 p0 p1 p2 p3 some
theorem fo7 {R : Type} (c25 : Int → Int → Option (Int)) (c16 : List ty3.den → Option ((List UInt8))) (c26 : List UInt8 → List ty3.den → Option ((List UInt8))) (c27 : List ty3.den → Option ((List UInt8))) (c28 : List ty3.den → Int → Option ((List UInt8))) (p0 : List ty3.den) (p1 : List ty3.den) (p2 : List UInt8) (p3 : Int) (k : AV → Objs → Option R) (n : Nat) : afun tau Ops.std gl0 X7 (ent 25 (e25 c25) (ent 16 (e16 c16) (ent 26 (e26 c26) (ent 27 (e27 c27) (ent 28 (e28 c28) (gnil)))))) ow Tryd.f7 [.c (.list 3 ty3 p0), .c (.list 3 ty3 p1), .c (.str p2), .c (.int .i64 p3)] [] k n = ob (F7 c25 c16 c26 c27 c28 p0 p1 p2 p3) (fun y => k (.c (.str y)) []) := by rw [eq7]; exact nt7 Ops.std c25 c16 c26 c27 c28 p0 p1 p2 p3 some (fun y => k (.c (.str y)) [])
def e7 {R : Type} (c : List ty3.den → List ty3.den → List UInt8 → Int → Option ((List UInt8))) : Ent R := fun args objs k =>
  oCons args fun a0 l0 => oC a0 fun x0 => cList 3 ty3 x0 fun p0 => oCons l0 fun a1 l1 => oC a1 fun x1 => cList 3 ty3 x1 fun p1 => oCons l1 fun a2 l2 => oC a2 fun x2 => cStr x2 fun p2 => oCons l2 fun a3 l3 => oC a3 fun x3 => cInt .i64 x3 fun p3 => oNil l3 <| oNilO objs <| ob (c p0 p1 p2 p3) fun y => k (.c (.str y)) []
abbrev Sp7 (c : List ty3.den → List ty3.den → List UInt8 → Int → Option ((List UInt8))) : Prop := ∀ (p0 : List ty3.den) (p1 : List ty3.den) (p2 : List UInt8) (p3 : Int) (y : (List UInt8)), c p0 p1 p2 p3 = some y → Spec Tryd.prog gl0 7 [.c (.list 3 ty3 p0), .c (.list 3 ty3 p1), .c (.str p2), .c (.int .i64 p3)] [] (.c (.str y)) []
theorem ek7 {R : Type} {c : List ty3.den → List ty3.den → List UInt8 → Int → Option ((List UInt8))} (hs : Sp7 c) : EOk 7 (e7 (R := R) c) := fun args objs k r h => by
  unfold e7 at h
  obtain ⟨a0, l0, rfl, q1⟩ := oCons_some h
  obtain ⟨x0, rfl, q2⟩ := oC_some q1
  obtain ⟨p0, rfl, q3⟩ := cList_some q2
  obtain ⟨a1, l1, rfl, q4⟩ := oCons_some q3
  obtain ⟨x1, rfl, q5⟩ := oC_some q4
  obtain ⟨p1, rfl, q6⟩ := cList_some q5
  obtain ⟨a2, l2, rfl, q7⟩ := oCons_some q6
  obtain ⟨x2, rfl, q8⟩ := oC_some q7
  obtain ⟨p2, rfl, q9⟩ := cStr_some q8
  obtain ⟨a3, l3, rfl, q10⟩ := oCons_some q9
  obtain ⟨x3, rfl, q11⟩ := oC_some q10
  obtain ⟨p3, rfl, q12⟩ := cInt_some q11
  obtain ⟨rfl, q13⟩ := oNil_some q12
  obtain ⟨rfl, q14⟩ := oNilO_some q13
  exact eok_of (hs p0 p1 p2 p3) q14
theorem sf7 {c25 : Int → Int → Option (Int)} {c16 : List ty3.den → Option ((List UInt8))} {c26 : List UInt8 → List ty3.den → Option ((List UInt8))} {c27 : List ty3.den → Option ((List UInt8))} {c28 : List ty3.den → Int → Option ((List UInt8))} (h25 : Sp25 c25) (h16 : Sp16 c16) (h26 : Sp26 c26) (h27 : Sp27 c27) (h28 : Sp28 c28) : Sp7 (F7 c25 c16 c26 c27 c28) := fun p0 p1 p2 p3 y hy => by
  refine spec_of (G := ent 25 (e25 c25) (ent 16 (e16 c16) (ent 26 (e26 c26) (ent 27 (e27 c27) (ent 28 (e28 c28) (gnil)))))) (ent_ok (ek25 h25) (ent_ok (ek16 h16) (ent_ok (ek26 h26) (ent_ok (ek27 h27) (ent_ok (ek28 h28) (gnil_ok)))))) 1000000 (fn := Tryd.f7) (by kernel_rfl) (by kernel_rfl) (X := X7) (by kernel_rfl) ?_
  rw [fo7, hy]
  rfl
noncomputable def M7 : List ty3.den → List ty3.den → List UInt8 → Int → Option ((List UInt8)) := F7 M25 M16 M26 M27 M28
theorem sm7 : Sp7 M7 := sf7 sm25 sm16 sm26 sm27 sm28

/-! ### 31: lariat/lariatref7.digit -/
def X31 : Aux := ⟨[], []⟩
def T31 {R : Type} (B : Ops) (p0 : Int) (k : (Bool) → Option R) : Option R :=
  cond (Ops.le B (48) p0)
   (
    k (Ops.le B p0 (57)))
   (
    k false)
theorem eq31 {R : Type} (B : Ops) (p0 : Int) (k : AV → Objs → Option R) (n : Nat) : afun tau B gl0 X31 (gnil) ow Tryd.f31 [.c (.int .u8 p0)] [] k n = T31 B p0 (fun y => k (.c (.bool y)) []) := by kernel_rfl
theorem nt31 {R R' : Type} (B : Ops) (p0 : Int) (k0 : (Bool) → Option R') (k : R' → Option R) : T31 B p0 (fun y => ob (k0 y) k) = ob (T31 B p0 k0) k := by
  unfold T31
  repeat' first | exact rfl | apply nat_cond | (apply nat_ob; intro)
def F31 (p0 : Int) : Option (Bool) := T31 Ops.std p0 some
theorem fo31 {R : Type} (p0 : Int) (k : AV → Objs → Option R) (n : Nat) : afun tau Ops.std gl0 X31 (gnil) ow Tryd.f31 [.c (.int .u8 p0)] [] k n = ob (F31 p0) (fun y => k (.c (.bool y)) []) := by rw [eq31]; exact nt31 Ops.std p0 some (fun y => k (.c (.bool y)) [])
def e31 {R : Type} (c : Int → Option (Bool)) : Ent R := fun args objs k =>
  oCons args fun a0 l0 => oC a0 fun x0 => cInt .u8 x0 fun p0 => oNil l0 <| oNilO objs <| ob (c p0) fun y => k (.c (.bool y)) []
abbrev Sp31 (c : Int → Option (Bool)) : Prop := ∀ (p0 : Int) (y : Bool), c p0 = some y → Spec Tryd.prog gl0 31 [.c (.int .u8 p0)] [] (.c (.bool y)) []
theorem ek31 {R : Type} {c : Int → Option (Bool)} (hs : Sp31 c) : EOk 31 (e31 (R := R) c) := fun args objs k r h => by
  unfold e31 at h
  obtain ⟨a0, l0, rfl, q1⟩ := oCons_some h
  obtain ⟨x0, rfl, q2⟩ := oC_some q1
  obtain ⟨p0, rfl, q3⟩ := cInt_some q2
  obtain ⟨rfl, q4⟩ := oNil_some q3
  obtain ⟨rfl, q5⟩ := oNilO_some q4
  exact eok_of (hs p0) q5
theorem sf31 : Sp31 (F31) := fun p0 y hy => by
  refine spec_of (G := gnil) (gnil_ok) 1000000 (fn := Tryd.f31) (by kernel_rfl) (by kernel_rfl) (X := X31) (by kernel_rfl) ?_
  rw [fo31, hy]
  rfl
noncomputable def M31 : Int → Option (Bool) := F31
theorem sm31 : Sp31 M31 := sf31

/-! ### 32: lariat/lariatref7.lower -/
def X32 : Aux := ⟨[], []⟩
def T32 {R : Type} (B : Ops) (p0 : Int) (k : (Bool) → Option R) : Option R :=
  cond (Ops.le B (97) p0)
   (
    cond (Ops.le B p0 (122))
     (
      k true)
     (
      k (Ops.eq B p0 (95))))
   (
    k (Ops.eq B p0 (95)))
theorem eq32 {R : Type} (B : Ops) (p0 : Int) (k : AV → Objs → Option R) (n : Nat) : afun tau B gl0 X32 (gnil) ow Tryd.f32 [.c (.int .u8 p0)] [] k n = T32 B p0 (fun y => k (.c (.bool y)) []) := by kernel_rfl
theorem nt32 {R R' : Type} (B : Ops) (p0 : Int) (k0 : (Bool) → Option R') (k : R' → Option R) : T32 B p0 (fun y => ob (k0 y) k) = ob (T32 B p0 k0) k := by
  unfold T32
  repeat' first | exact rfl | apply nat_cond | (apply nat_ob; intro)
def F32 (p0 : Int) : Option (Bool) := T32 Ops.std p0 some
theorem fo32 {R : Type} (p0 : Int) (k : AV → Objs → Option R) (n : Nat) : afun tau Ops.std gl0 X32 (gnil) ow Tryd.f32 [.c (.int .u8 p0)] [] k n = ob (F32 p0) (fun y => k (.c (.bool y)) []) := by rw [eq32]; exact nt32 Ops.std p0 some (fun y => k (.c (.bool y)) [])
def e32 {R : Type} (c : Int → Option (Bool)) : Ent R := fun args objs k =>
  oCons args fun a0 l0 => oC a0 fun x0 => cInt .u8 x0 fun p0 => oNil l0 <| oNilO objs <| ob (c p0) fun y => k (.c (.bool y)) []
abbrev Sp32 (c : Int → Option (Bool)) : Prop := ∀ (p0 : Int) (y : Bool), c p0 = some y → Spec Tryd.prog gl0 32 [.c (.int .u8 p0)] [] (.c (.bool y)) []
theorem ek32 {R : Type} {c : Int → Option (Bool)} (hs : Sp32 c) : EOk 32 (e32 (R := R) c) := fun args objs k r h => by
  unfold e32 at h
  obtain ⟨a0, l0, rfl, q1⟩ := oCons_some h
  obtain ⟨x0, rfl, q2⟩ := oC_some q1
  obtain ⟨p0, rfl, q3⟩ := cInt_some q2
  obtain ⟨rfl, q4⟩ := oNil_some q3
  obtain ⟨rfl, q5⟩ := oNilO_some q4
  exact eok_of (hs p0) q5
theorem sf32 : Sp32 (F32) := fun p0 y hy => by
  refine spec_of (G := gnil) (gnil_ok) 1000000 (fn := Tryd.f32) (by kernel_rfl) (by kernel_rfl) (X := X32) (by kernel_rfl) ?_
  rw [fo32, hy]
  rfl
noncomputable def M32 : Int → Option (Bool) := F32
theorem sm32 : Sp32 M32 := sf32

/-! ### 33: lariat/lariatref7.sign -/
def X33 : Aux := ⟨[(3, [1, 2, 5, 6, 7, 8, 9, 10, 11, 12, 13, 14, 15, 16, 17, 18, 19, 20, 21, 22, 23, 24, 25, 26, 27, 28, 29, 30, 31, 32, 33, 34, 35, 36, 37, 38, 39, 40, 41]), (9, [1, 2, 3, 4, 7, 8, 9, 10, 11, 12, 13, 14, 15, 16, 17, 18, 19, 20, 21, 22, 23, 24, 25, 26, 27, 28, 29, 30, 31, 32, 33, 34, 35, 36, 37, 38, 39, 40, 41])], [(5, .lin [0, 1, 2, 3, 4, 5, 6, 7, 8, 9, 10]), (11, .lin [0, 1, 2, 3, 4, 5, 6, 7])]⟩
inductive S33 where
  | l0 (v0_1 : Int)
  | l1 (v1_2 : Int)
def T33 {R : Type} (B : Ops) (p0 : List UInt8) (again : S33 → Option R) (k : ((List UInt8)) → Option R) : Option S33 → Option R
  | none =>
    again (.l0 0)
  | some (.l0 v0_1) =>
    cond (Ops.lt B v0_1 (7))
     (
      cond (Ops.lt B (1) (Nat.cast (List.length p0)))
       (
        cond (Ops.inb B (2) (List.length p0 + 1))
         (
          cond (Ops.inb B v0_1 (9))
           (
            cond (List.drop (0) (List.take (Int.toNat (2)) p0) == List.getD (([60, 61] : List UInt8) :: ([62, 61] : List UInt8) :: ([61, 61] : List UInt8) :: ([33, 61] : List UInt8) :: ([38, 38] : List UInt8) :: ([124, 124] : List UInt8) :: ([45, 62] : List UInt8) :: (mt UInt8) :: (mt UInt8) :: mt (List UInt8)) (Int.toNat v0_1) (mt UInt8))
             (
              cond (Ops.inb B v0_1 (9))
               (
                k (List.getD (([60, 61] : List UInt8) :: ([62, 61] : List UInt8) :: ([61, 61] : List UInt8) :: ([33, 61] : List UInt8) :: ([38, 38] : List UInt8) :: ([124, 124] : List UInt8) :: ([45, 62] : List UInt8) :: (mt UInt8) :: (mt UInt8) :: mt (List UInt8)) (Int.toNat v0_1) (mt UInt8)))
               (
                none))
             (
              again (.l0 (IntKind.wrap IntKind.i64 (v0_1 + 1)))))
           (
            none))
         (
          none))
       (
        again (.l0 (IntKind.wrap IntKind.i64 (v0_1 + 1)))))
     (
      again (.l1 0))
  | some (.l1 v1_2) =>
    cond (Ops.lt B v1_2 (Nat.cast (13)))
     (
      cond (Ops.inb B (1) (List.length p0 + 1))
       (
        cond (Ops.inb B (IntKind.wrap IntKind.i64 (v1_2 + 1)) (13 + 1))
         (
          cond (bif Ops.le B (0) v1_2 then Ops.le B v1_2 (IntKind.wrap IntKind.i64 (v1_2 + 1)) else false)
           (
            cond (List.drop (0) (List.take (Int.toNat (1)) p0) == List.drop (Int.toNat v1_2) (List.take (Int.toNat (IntKind.wrap IntKind.i64 (v1_2 + 1))) ([40, 41, 91, 93, 43, 45, 42, 60, 62, 33, 64, 59, 61] : List UInt8)))
             (
              cond (Ops.inb B (1) (List.length p0 + 1))
               (
                k (List.drop (0) (List.take (Int.toNat (1)) p0)))
               (
                none))
             (
              again (.l1 (IntKind.wrap IntKind.i64 (v1_2 + 1)))))
           (
            none))
         (
          none))
       (
        none))
     (
      k (mt UInt8))
def E33 (p0 : List UInt8) : S33 → List AV × Objs
  | .l0 v0_1 => (mk 42 [(0, .c (.str p0)), (3, .c (.ptr 3 0)), (4, .c (.int .i64 v0_1))], [(3, .box 117 [.str ([60, 61] : List UInt8), .str ([62, 61] : List UInt8), .str ([61, 61] : List UInt8), .str ([33, 61] : List UInt8), .str ([38, 38] : List UInt8), .str ([124, 124] : List UInt8), .str ([45, 62] : List UInt8), .str (mt UInt8), .str (mt UInt8)])])
  | .l1 v1_2 => (mk 42 [(0, .c (.str p0)), (5, .c (.str ([40, 41, 91, 93, 43, 45, 42, 60, 62, 33, 64, 59, 61] : List UInt8))), (6, .c (.int .i64 v1_2))], [])
def I33 : S33 → Nat
  | .l0 _ => 0
  | .l1 _ => 1
theorem eq33 {R : Type} (B : Ops) (p0 : List UInt8) (k : AV → Objs → Option R) (n : Nat) : afun tau B gl0 X33 (gnil) ow Tryd.f33 [.c (.str p0)] [] k n = T33 B p0 (fun s => aloop tau B gl0 X33 (gnil) ow [] Tryd.f33 k (I33 s) (E33 p0 s) n) (fun y => k (.c (.str y)) []) none := by kernel_rfl
theorem el33 {R : Type} (B : Ops) (p0 : List UInt8) (k : AV → Objs → Option R) (n : Nat) : ∀ s, aloop tau B gl0 X33 (gnil) ow [] Tryd.f33 k (I33 s) (E33 p0 s) (n + 1) = T33 B p0 (fun s => aloop tau B gl0 X33 (gnil) ow [] Tryd.f33 k (I33 s) (E33 p0 s) n) (fun y => k (.c (.str y)) []) (some s)
  | .l0 v0_1 => by kernel_rfl
  | .l1 v1_2 => by kernel_rfl
theorem nt33 {R R' : Type} (B : Ops) (p0 : List UInt8) (again : S33 → Option R) (again' : S33 → Option R') (k0 : ((List UInt8)) → Option R') (k : R' → Option R) (h : ∀ s, again s = ob (again' s) k) : ∀ s, T33 B p0 again (fun y => ob (k0 y) k) s = ob (T33 B p0 again' k0 s) k
  | none => by unfold T33; repeat' first | exact rfl | exact h _ | apply nat_cond | (apply nat_ob; intro)
  | some (.l0 v0_1) => by unfold T33; repeat' first | exact rfl | exact h _ | apply nat_cond | (apply nat_ob; intro)
  | some (.l1 v1_2) => by unfold T33; repeat' first | exact rfl | exact h _ | apply nat_cond | (apply nat_ob; intro)
def R33 (p0 : List UInt8) : Nat → S33 → Option ((List UInt8))
  | 0, _ => none
  | n + 1, s => T33 Ops.std p0 (R33 p0 n) some (some s)
theorem rr33 {R : Type} (p0 : List UInt8) (k : AV → Objs → Option R) : ∀ (n : Nat) (s : S33), aloop tau Ops.std gl0 X33 (gnil) ow [] Tryd.f33 k (I33 s) (E33 p0 s) n = ob (R33 p0 n s) (fun y => k (.c (.str y)) [])
  | 0, s => by cases s <;> rfl
  | n + 1, s => by rw [el33]; exact nt33 Ops.std p0 _ _ some (fun y => k (.c (.str y)) []) (rr33 p0 k n) (some s)
def F33 (p0 : List UInt8) : Option ((List UInt8)) := T33 Ops.std p0 (R33 p0 1000000) some none
theorem fo33 {R : Type} (p0 : List UInt8) (k : AV → Objs → Option R) : afun tau Ops.std gl0 X33 (gnil) ow Tryd.f33 [.c (.str p0)] [] k 1000000 = ob (F33 p0) (fun y => k (.c (.str y)) []) := by rw [eq33]; exact nt33 Ops.std p0 _ _ some (fun y => k (.c (.str y)) []) (rr33 p0 k 1000000) none
def e33 {R : Type} (c : List UInt8 → Option ((List UInt8))) : Ent R := fun args objs k =>
  oCons args fun a0 l0 => oC a0 fun x0 => cStr x0 fun p0 => oNil l0 <| oNilO objs <| ob (c p0) fun y => k (.c (.str y)) []
abbrev Sp33 (c : List UInt8 → Option ((List UInt8))) : Prop := ∀ (p0 : List UInt8) (y : (List UInt8)), c p0 = some y → Spec Tryd.prog gl0 33 [.c (.str p0)] [] (.c (.str y)) []
theorem ek33 {R : Type} {c : List UInt8 → Option ((List UInt8))} (hs : Sp33 c) : EOk 33 (e33 (R := R) c) := fun args objs k r h => by
  unfold e33 at h
  obtain ⟨a0, l0, rfl, q1⟩ := oCons_some h
  obtain ⟨x0, rfl, q2⟩ := oC_some q1
  obtain ⟨p0, rfl, q3⟩ := cStr_some q2
  obtain ⟨rfl, q4⟩ := oNil_some q3
  obtain ⟨rfl, q5⟩ := oNilO_some q4
  exact eok_of (hs p0) q5
theorem sf33 : Sp33 (F33) := fun p0 y hy => by
  refine spec_of (G := gnil) (gnil_ok) 1000000 (fn := Tryd.f33) (by kernel_rfl) (by kernel_rfl) (X := X33) (by kernel_rfl) ?_
  rw [fo33, hy]
  rfl
noncomputable def M33 : List UInt8 → Option ((List UInt8)) := F33
theorem sm33 : Sp33 M33 := sf33

/-! ### 9: lariat/lariatref7.Lex -/
def X9 : Aux := ⟨[(5, [1, 2, 3, 4, 7, 8, 9, 10, 11, 12, 13, 14, 15, 16, 17, 18, 19, 20, 21, 22, 23, 24, 25, 26, 27, 28, 29, 30, 31, 32, 33, 34, 35, 36, 37, 38, 39, 40, 41, 42, 43, 44, 45, 46, 47, 48, 49, 50, 51, 52, 53, 54, 55, 56, 57, 58, 59, 60, 61, 62, 63, 64, 65, 66, 67, 68, 69, 70, 71, 72, 73, 74, 75, 76, 77, 78, 79, 80, 81, 82, 83, 84, 85, 86, 87, 88, 89, 90, 91, 92, 93, 94, 95, 96, 97, 98, 99, 100, 101, 102, 103, 104, 105, 106, 107, 108, 109, 110, 111, 112, 113, 114, 115, 116, 117, 118, 119, 120, 121, 122, 123, 124, 125, 126, 127, 128, 129, 130, 131, 132, 133, 134, 135, 136, 137, 138, 139, 140, 141, 142, 143, 144, 145, 146, 147, 148, 149, 150]), (17, [1, 2, 3, 4, 9, 10, 11, 12, 13, 14, 15, 16, 17, 18, 19, 20, 21, 22, 23, 24, 25, 26, 27, 28, 29, 30, 31, 32, 33, 34, 35, 36, 37, 38, 39, 40, 41, 42, 43, 44, 45, 46, 47, 48, 49, 50, 51, 52, 53, 54, 55, 56, 57, 58, 59, 60, 61, 62, 63, 64, 65, 66, 67, 68, 69, 70, 71, 72, 73, 74, 75, 76, 77, 78, 79, 80, 81, 82, 83, 84, 85, 86, 87, 88, 89, 90, 91, 92, 93, 94, 95, 96, 97, 98, 99, 100, 101, 102, 103, 104, 105, 106, 107, 108, 109, 110, 111, 112, 113, 114, 115, 116, 117, 118, 119, 120, 121, 122, 123, 124, 125, 126, 127, 128, 129, 130, 131, 132, 133, 134, 135, 136, 137, 138, 139, 140, 141, 142, 143, 144, 145, 146, 147, 148, 149, 150]), (25, [1, 2, 3, 4, 9, 10, 11, 12, 13, 14, 15, 16, 17, 18, 19, 20, 21, 22, 23, 24, 25, 26, 27, 28, 29, 30, 31, 32, 33, 34, 35, 36, 37, 38, 39, 40, 41, 42, 43, 44, 45, 46, 47, 48, 49, 50, 51, 52, 53, 54, 55, 56, 57, 58, 59, 60, 61, 62, 63, 64, 65, 66, 67, 68, 69, 70, 71, 72, 73, 74, 75, 76, 77, 78, 79, 80, 81, 82, 83, 84, 85, 86, 87, 88, 89, 90, 91, 92, 93, 94, 95, 96, 97, 98, 99, 100, 101, 102, 103, 104, 105, 106, 107, 108, 109, 110, 111, 112, 113, 114, 115, 116, 117, 118, 119, 120, 121, 122, 123, 124, 125, 126, 127, 128, 129, 130, 131, 132, 133, 134, 135, 136, 137, 138, 139, 140, 141, 142, 143, 144, 145, 146, 147, 148, 149, 150]), (1000020, [1, 2, 3, 4, 9, 10, 11, 12, 13, 14, 15, 16, 17, 18, 19, 20, 21, 22, 23, 24, 25, 26, 27, 28, 29, 30, 31, 32, 33, 34, 35, 36, 37, 38, 39, 40, 41, 42, 43, 44, 45, 46, 47, 48, 49, 50, 51, 52, 53, 54, 55, 56, 57, 58, 59, 60, 61, 62, 63, 64, 65, 66, 67, 68, 69, 70, 71, 72, 73, 74, 75, 76, 77, 78, 79, 80, 81, 82, 83, 84, 85, 86, 87, 88, 89, 90, 91, 92, 93, 94, 95, 96, 97, 98, 99, 100, 101, 102, 103, 104, 105, 106, 107, 108, 109, 110, 111, 112, 113, 114, 115, 116, 117, 118, 119, 120, 121, 122, 123, 124, 125, 126, 127, 128, 129, 130, 131, 132, 133, 134, 135, 136, 137, 138, 139, 140, 141, 142, 143, 144, 145, 146, 147, 148, 149, 150]), (1000026, [1, 2, 3, 4, 9, 10, 11, 12, 13, 14, 15, 16, 17, 18, 19, 20, 21, 22, 23, 24, 25, 26, 27, 28, 29, 30, 31, 32, 33, 34, 35, 36, 37, 38, 39, 40, 41, 42, 43, 44, 45, 46, 47, 48, 49, 50, 51, 52, 53, 54, 55, 56, 57, 58, 59, 60, 61, 62, 63, 64, 65, 66, 67, 68, 69, 70, 71, 72, 73, 74, 75, 76, 77, 78, 79, 80, 81, 82, 83, 84, 85, 86, 87, 88, 89, 90, 91, 92, 93, 94, 95, 96, 97, 98, 99, 100, 101, 102, 103, 104, 105, 106, 107, 108, 109, 110, 111, 112, 113, 114, 115, 116, 117, 118, 119, 120, 121, 122, 123, 124, 125, 126, 127, 128, 129, 130, 131, 132, 133, 134, 135, 136, 137, 138, 139, 140, 141, 142, 143, 144, 145, 146, 147, 148, 149, 150]), (1000027, [1, 2, 3, 4, 9, 10, 11, 12, 13, 14, 15, 16, 17, 18, 19, 20, 21, 22, 23, 24, 25, 26, 27, 28, 29, 30, 31, 32, 33, 34, 35, 36, 37, 38, 39, 40, 41, 42, 43, 44, 45, 46, 47, 48, 49, 50, 51, 52, 53, 54, 55, 56, 57, 58, 59, 60, 61, 62, 63, 64, 65, 66, 67, 68, 69, 70, 71, 72, 73, 74, 75, 76, 77, 78, 79, 80, 81, 82, 83, 84, 85, 86, 87, 88, 89, 90, 91, 92, 93, 94, 95, 96, 97, 98, 99, 100, 101, 102, 103, 104, 105, 106, 107, 108, 109, 110, 111, 112, 113, 114, 115, 116, 117, 118, 119, 120, 121, 122, 123, 124, 125, 126, 127, 128, 129, 130, 131, 132, 133, 134, 135, 136, 137, 138, 139, 140, 141, 142, 143, 144, 145, 146, 147, 148, 149, 150]), (1000031, [1, 2, 3, 4, 7, 9, 10, 11, 12, 13, 14, 15, 16, 17, 18, 19, 20, 21, 22, 23, 24, 25, 26, 27, 28, 29, 30, 31, 32, 33, 34, 35, 36, 37, 38, 39, 40, 41, 42, 43, 44, 45, 46, 47, 48, 49, 50, 51, 52, 53, 54, 55, 56, 57, 58, 59, 60, 61, 62, 63, 64, 65, 66, 67, 68, 69, 70, 71, 72, 73, 74, 75, 76, 77, 78, 79, 80, 81, 82, 83, 84, 85, 86, 87, 88, 89, 90, 91, 92, 93, 94, 95, 96, 97, 98, 99, 100, 101, 102, 103, 104, 105, 106, 107, 108, 109, 110, 111, 112, 113, 114, 115, 116, 117, 118, 119, 120, 121, 122, 123, 124, 125, 126, 127, 128, 129, 130, 131, 132, 133, 134, 135, 136, 137, 138, 139, 140, 141, 142, 143, 144, 145, 146, 147, 148, 149, 150]), (1000010, [1, 2, 3, 4, 7, 9, 10, 11, 12, 13, 14, 15, 16, 17, 18, 19, 20, 21, 22, 23, 24, 25, 26, 27, 28, 29, 30, 31, 32, 33, 34, 35, 36, 37, 38, 39, 40, 41, 42, 43, 44, 45, 46, 47, 48, 49, 50, 51, 52, 53, 54, 55, 56, 57, 58, 59, 60, 61, 62, 63, 64, 65, 66, 67, 68, 69, 70, 71, 72, 73, 74, 75, 76, 77, 78, 79, 80, 81, 82, 83, 84, 85, 86, 87, 88, 89, 90, 91, 92, 93, 94, 95, 96, 97, 98, 99, 100, 101, 102, 103, 104, 105, 106, 107, 108, 109, 110, 111, 112, 113, 114, 115, 116, 117, 118, 119, 120, 121, 122, 123, 124, 125, 126, 127, 128, 129, 130, 131, 132, 133, 134, 135, 136, 137, 138, 139, 140, 141, 142, 143, 144, 145, 146, 147, 148, 149, 150]), (1000032, [1, 2, 3, 4, 9, 10, 11, 12, 13, 14, 15, 16, 17, 18, 19, 20, 21, 22, 23, 24, 25, 26, 27, 28, 29, 30, 31, 32, 33, 34, 35, 36, 37, 38, 39, 40, 41, 42, 43, 44, 45, 46, 47, 48, 49, 50, 51, 52, 53, 54, 55, 56, 57, 58, 59, 60, 61, 62, 63, 64, 65, 66, 67, 68, 69, 70, 71, 72, 73, 74, 75, 76, 77, 78, 79, 80, 81, 82, 83, 84, 85, 86, 87, 88, 89, 90, 91, 92, 93, 94, 95, 96, 97, 98, 99, 100, 101, 102, 103, 104, 105, 106, 107, 108, 109, 110, 111, 112, 113, 114, 115, 116, 117, 118, 119, 120, 121, 122, 123, 124, 125, 126, 127, 128, 129, 130, 131, 132, 133, 134, 135, 136, 137, 138, 139, 140, 141, 142, 143, 144, 145, 146, 147, 148, 149, 150])], [(19, .lin [0, 1, 2, 3, 4, 5, 6, 7, 8, 9, 10, 11, 12])]⟩
inductive S9 where
  | l0 (v0_1 : Int) (v0_2 : List ty30.den)
  | l1 (v1_1 : Int) (v1_2 : Int) (v1_3 : List ty30.den) (v1_6 : Int) (v1_7 : Int)
  | l2 (v2_1 : Int) (v2_2 : Int) (v2_3 : List ty30.den) (v2_7 : Int)
  | l1010 (v1010_1 : Int) (v1010_2 : List ty30.den) (v1010_6 : Int)
  | l1020 (v1020_1 : Int) (v1020_2 : Int) (v1020_3 : List ty30.den) (v1020_6 : Int) (v1020_7 : Int)
  | l1026 (v1026_1 : Int) (v1026_2 : Int) (v1026_3 : List ty30.den) (v1026_7 : Int)
  | l1027 (v1027_1 : Int) (v1027_2 : Int) (v1027_3 : List ty30.den) (v1027_7 : Int)
  | l1031 (v1031_1 : Int) (v1031_2 : List ty30.den) (v1031_6 : Int)
  | l1032 (v1032_1 : Int) (v1032_2 : Int) (v1032_3 : List ty30.den) (v1032_4 : Int) (v1032_6 : Int) (v1032_7 : Int)
def T9 {R : Type} (B : Ops) (c31 : Int → Option (Bool)) (c32 : Int → Option (Bool)) (c33 : List UInt8 → Option ((List UInt8))) (p0 : List UInt8) (again : S9 → Option R) (k : (Int × Int × (List ty30.den)) → Option R) : Option S9 → Option R
  | none =>
    cond (Ops.lt B (60000) (Nat.cast (List.length p0)))
     (
      k ((14, 0, mt (Ty.den (Ty.pair (Ty.int IntKind.i64) (Ty.pair Ty.str (Ty.pair (Ty.int IntKind.i64) (Ty.int IntKind.i64))))))))
     (
      again (.l0 0 (mt (Ty.den (Ty.pair (Ty.int IntKind.i64) (Ty.pair Ty.str (Ty.pair (Ty.int IntKind.i64) (Ty.int IntKind.i64))))))))
  | some (.l0 v0_1 v0_2) =>
    cond (Ops.lt B v0_1 (Nat.cast (List.length p0)))
     (
      cond (Ops.inb B v0_1 (List.length p0))
       (
        cond (Ops.eq B (Nat.cast (UInt8.toNat (List.getD p0 (Int.toNat v0_1) (0)))) (32))
         (
          again (.l0 (IntKind.wrap IntKind.i64 (v0_1 + 1)) v0_2))
         (
          cond (Ops.eq B (Nat.cast (UInt8.toNat (List.getD p0 (Int.toNat v0_1) (0)))) (9))
           (
            again (.l0 (IntKind.wrap IntKind.i64 (v0_1 + 1)) v0_2))
           (
            cond (Ops.eq B (Nat.cast (UInt8.toNat (List.getD p0 (Int.toNat v0_1) (0)))) (10))
             (
              again (.l0 (IntKind.wrap IntKind.i64 (v0_1 + 1)) v0_2))
             (
              ob (c31 (Nat.cast (UInt8.toNat (List.getD p0 (Int.toNat v0_1) (0))))) fun y0 =>
              cond (y0)
               (
                again (.l1 v0_1 0 v0_2 0 v0_1))
               (
                ob (c32 (Nat.cast (UInt8.toNat (List.getD p0 (Int.toNat v0_1) (0))))) fun y1 =>
                cond (y1)
                 (
                  again (.l2 v0_1 0 v0_2 v0_1))
                 (
                  cond (Ops.eq B (Nat.cast (UInt8.toNat (List.getD p0 (Int.toNat v0_1) (0)))) (88))
                   (
                    again (.l1031 v0_1 v0_2 v0_1))
                   (
                    cond (Ops.eq B (Nat.cast (UInt8.toNat (List.getD p0 (Int.toNat v0_1) (0)))) (70))
                     (
                      again (.l1031 v0_1 v0_2 v0_1))
                     (
                      cond (Ops.eq B (Nat.cast (UInt8.toNat (List.getD p0 (Int.toNat v0_1) (0)))) (71))
                       (
                        again (.l1031 v0_1 v0_2 v0_1))
                       (
                        cond (Ops.eq B (Nat.cast (UInt8.toNat (List.getD p0 (Int.toNat v0_1) (0)))) (85))
                         (
                          again (.l1031 v0_1 v0_2 v0_1))
                         (
                          cond (Ops.eq B (Nat.cast (UInt8.toNat (List.getD p0 (Int.toNat v0_1) (0)))) (82))
                           (
                            again (.l1031 v0_1 v0_2 v0_1))
                           (
                            again (.l1010 v0_1 v0_2 v0_1))))))))))))
       (
        none))
     (
      cond (Ops.lim B (List.length v0_2 + List.length ((5, mt UInt8, 0, v0_1) :: mt (Ty.den (Ty.pair (Ty.int IntKind.i64) (Ty.pair Ty.str (Ty.pair (Ty.int IntKind.i64) (Ty.int IntKind.i64))))))) (40))
       (
        k ((0, 0, v0_2 ++ (5, mt UInt8, 0, v0_1) :: mt (Ty.den (Ty.pair (Ty.int IntKind.i64) (Ty.pair Ty.str (Ty.pair (Ty.int IntKind.i64) (Ty.int IntKind.i64))))))))
       (
        none))
  | some (.l1 v1_1 v1_2 v1_3 v1_6 v1_7) =>
    cond (Ops.lt B (IntKind.wrap IntKind.i64 (v1_1 + v1_2)) (Nat.cast (List.length p0)))
     (
      cond (Ops.inb B (IntKind.wrap IntKind.i64 (v1_1 + v1_2)) (List.length p0))
       (
        ob (c31 (Nat.cast (UInt8.toNat (List.getD p0 (Int.toNat (IntKind.wrap IntKind.i64 (v1_1 + v1_2))) (0))))) fun y0 =>
        cond (y0)
         (
          cond (Ops.lt B v1_2 (3))
           (
            cond (Ops.inb B (IntKind.wrap IntKind.i64 (v1_1 + v1_2)) (List.length p0))
             (
              again (.l1020 v1_1 v1_2 v1_3 (IntKind.wrap IntKind.i64 (IntKind.wrap IntKind.i64 (10 * v1_6) + IntKind.wrap IntKind.i64 (IntKind.wrap IntKind.u8 (Nat.cast (UInt8.toNat (List.getD p0 (Int.toNat (IntKind.wrap IntKind.i64 (v1_1 + v1_2))) (0))) - 48)))) v1_7))
             (
              none))
           (
            again (.l1020 v1_1 v1_2 v1_3 v1_6 v1_7)))
         (
          cond (Ops.lt B (3) v1_2)
           (
            k ((2, v1_1, mt (Ty.den (Ty.pair (Ty.int IntKind.i64) (Ty.pair Ty.str (Ty.pair (Ty.int IntKind.i64) (Ty.int IntKind.i64))))))))
           (
            again (.l1032 v1_1 v1_2 v1_3 1 v1_6 v1_7))))
       (
        none))
     (
      cond (Ops.lt B (3) v1_2)
       (
        k ((2, v1_1, mt (Ty.den (Ty.pair (Ty.int IntKind.i64) (Ty.pair Ty.str (Ty.pair (Ty.int IntKind.i64) (Ty.int IntKind.i64))))))))
       (
        again (.l1032 v1_1 v1_2 v1_3 1 v1_6 v1_7)))
  | some (.l2 v2_1 v2_2 v2_3 v2_7) =>
    cond (Ops.lt B (IntKind.wrap IntKind.i64 (v2_1 + v2_2)) (Nat.cast (List.length p0)))
     (
      cond (Ops.inb B (IntKind.wrap IntKind.i64 (v2_1 + v2_2)) (List.length p0))
       (
        ob (c32 (Nat.cast (UInt8.toNat (List.getD p0 (Int.toNat (IntKind.wrap IntKind.i64 (v2_1 + v2_2))) (0))))) fun y0 =>
        cond (y0)
         (
          again (.l1026 v2_1 v2_2 v2_3 v2_7))
         (
          cond (Ops.inb B (IntKind.wrap IntKind.i64 (v2_1 + v2_2)) (List.length p0))
           (
            ob (c31 (Nat.cast (UInt8.toNat (List.getD p0 (Int.toNat (IntKind.wrap IntKind.i64 (v2_1 + v2_2))) (0))))) fun y1 =>
            cond (y1)
             (
              again (.l1026 v2_1 v2_2 v2_3 v2_7))
             (
              again (.l1027 v2_1 v2_2 v2_3 v2_7)))
           (
            none)))
       (
        none))
     (
      again (.l1027 v2_1 v2_2 v2_3 v2_7))
  | some (.l1010 v1010_1 v1010_2 v1010_6) =>
    cond (Ops.inb B v1010_1 (List.length p0 + 1))
     (
      ob (c33 (List.drop (Int.toNat v1010_1) (List.take (List.length p0) p0))) fun y0 =>
      cond (Ops.eq B (Nat.cast (List.length y0)) (0))
       (
        k ((2, v1010_1, mt (Ty.den (Ty.pair (Ty.int IntKind.i64) (Ty.pair Ty.str (Ty.pair (Ty.int IntKind.i64) (Ty.int IntKind.i64))))))))
       (
        again (.l1032 v1010_1 (Nat.cast (List.length y0)) v1010_2 4 0 v1010_6)))
     (
      none)
  | some (.l1020 v1020_1 v1020_2 v1020_3 v1020_6 v1020_7) =>
    again (.l1 v1020_1 (IntKind.wrap IntKind.i64 (v1020_2 + 1)) v1020_3 v1020_6 v1020_7)
  | some (.l1026 v1026_1 v1026_2 v1026_3 v1026_7) =>
    again (.l2 v1026_1 (IntKind.wrap IntKind.i64 (v1026_2 + 1)) v1026_3 v1026_7)
  | some (.l1027 v1027_1 v1027_2 v1027_3 v1027_7) =>
    cond (Ops.lt B (8) v1027_2)
     (
      k ((2, v1027_1, mt (Ty.den (Ty.pair (Ty.int IntKind.i64) (Ty.pair Ty.str (Ty.pair (Ty.int IntKind.i64) (Ty.int IntKind.i64))))))))
     (
      again (.l1032 v1027_1 v1027_2 v1027_3 2 0 v1027_7))
  | some (.l1031 v1031_1 v1031_2 v1031_6) =>
    again (.l1032 v1031_1 1 v1031_2 3 0 v1031_6)
  | some (.l1032 v1032_1 v1032_2 v1032_3 v1032_4 v1032_6 v1032_7) =>
    cond (Ops.inb B (IntKind.wrap IntKind.i64 (v1032_1 + v1032_2)) (List.length p0 + 1))
     (
      cond (bif Ops.le B (0) v1032_1 then Ops.le B v1032_1 (IntKind.wrap IntKind.i64 (v1032_1 + v1032_2)) else false)
       (
        cond (Ops.lim B (List.length v1032_3 + List.length ((v1032_4, List.drop (Int.toNat v1032_1) (List.take (Int.toNat (IntKind.wrap IntKind.i64 (v1032_1 + v1032_2))) p0), v1032_6, v1032_7) :: mt (Ty.den (Ty.pair (Ty.int IntKind.i64) (Ty.pair Ty.str (Ty.pair (Ty.int IntKind.i64) (Ty.int IntKind.i64))))))) (40))
         (
          again (.l0 (IntKind.wrap IntKind.i64 (v1032_1 + v1032_2)) (v1032_3 ++ (v1032_4, List.drop (Int.toNat v1032_1) (List.take (Int.toNat (IntKind.wrap IntKind.i64 (v1032_1 + v1032_2))) p0), v1032_6, v1032_7) :: mt (Ty.den (Ty.pair (Ty.int IntKind.i64) (Ty.pair Ty.str (Ty.pair (Ty.int IntKind.i64) (Ty.int IntKind.i64))))))))
         (
          none))
       (
        none))
     (
      none)
def E9 (p0 : List UInt8) : S9 → List AV × Objs
  | .l0 v0_1 v0_2 => (mk 151 [(0, .c (.str p0)), (5, .c (.own 5)), (6, .c (.int .i64 v0_1))], [(5, .row 30 ty30 v0_2)])
  | .l1 v1_1 v1_2 v1_3 v1_6 v1_7 => (mk 151 [(0, .c (.str p0)), (5, .c (.own 5)), (6, .c (.int .i64 v1_1)), (7, .c (.int .i64 v1_2)), (8, .c (.ptr 8 0))], [(5, .row 30 ty30 v1_3), (8, .box 30 [.int .i64 1, .str (mt UInt8), .int .i64 v1_6, .int .i64 v1_7])])
  | .l2 v2_1 v2_2 v2_3 v2_7 => (mk 151 [(0, .c (.str p0)), (5, .c (.own 5)), (6, .c (.int .i64 v2_1)), (7, .c (.int .i64 v2_2)), (8, .c (.ptr 8 0))], [(5, .row 30 ty30 v2_3), (8, .box 30 [.int .i64 2, .str (mt UInt8), .int .i64 0, .int .i64 v2_7])])
  | .l1010 v1010_1 v1010_2 v1010_6 => (mk 151 [(0, .c (.str p0)), (5, .c (.own 5)), (6, .c (.int .i64 v1010_1)), (8, .c (.ptr 8 0))], [(5, .row 30 ty30 v1010_2), (8, .box 30 [.int .i64 4, .str (mt UInt8), .int .i64 0, .int .i64 v1010_6])])
  | .l1020 v1020_1 v1020_2 v1020_3 v1020_6 v1020_7 => (mk 151 [(0, .c (.str p0)), (5, .c (.own 5)), (6, .c (.int .i64 v1020_1)), (7, .c (.int .i64 v1020_2)), (8, .c (.ptr 8 0))], [(5, .row 30 ty30 v1020_3), (8, .box 30 [.int .i64 1, .str (mt UInt8), .int .i64 v1020_6, .int .i64 v1020_7])])
  | .l1026 v1026_1 v1026_2 v1026_3 v1026_7 => (mk 151 [(0, .c (.str p0)), (5, .c (.own 5)), (6, .c (.int .i64 v1026_1)), (7, .c (.int .i64 v1026_2)), (8, .c (.ptr 8 0))], [(5, .row 30 ty30 v1026_3), (8, .box 30 [.int .i64 2, .str (mt UInt8), .int .i64 0, .int .i64 v1026_7])])
  | .l1027 v1027_1 v1027_2 v1027_3 v1027_7 => (mk 151 [(0, .c (.str p0)), (5, .c (.own 5)), (6, .c (.int .i64 v1027_1)), (7, .c (.int .i64 v1027_2)), (8, .c (.ptr 8 0))], [(5, .row 30 ty30 v1027_3), (8, .box 30 [.int .i64 2, .str (mt UInt8), .int .i64 0, .int .i64 v1027_7])])
  | .l1031 v1031_1 v1031_2 v1031_6 => (mk 151 [(0, .c (.str p0)), (5, .c (.own 5)), (6, .c (.int .i64 v1031_1)), (8, .c (.ptr 8 0))], [(5, .row 30 ty30 v1031_2), (8, .box 30 [.int .i64 3, .str (mt UInt8), .int .i64 0, .int .i64 v1031_6])])
  | .l1032 v1032_1 v1032_2 v1032_3 v1032_4 v1032_6 v1032_7 => (mk 151 [(0, .c (.str p0)), (5, .c (.own 5)), (6, .c (.int .i64 v1032_1)), (7, .c (.int .i64 v1032_2)), (8, .c (.ptr 8 0))], [(5, .row 30 ty30 v1032_3), (8, .box 30 [.int .i64 v1032_4, .str (mt UInt8), .int .i64 v1032_6, .int .i64 v1032_7])])
def I9 : S9 → Nat
  | .l0 _ _ => 0
  | .l1 _ _ _ _ _ => 1
  | .l2 _ _ _ _ => 2
  | .l1010 _ _ _ => 1010
  | .l1020 _ _ _ _ _ => 1020
  | .l1026 _ _ _ _ => 1026
  | .l1027 _ _ _ _ => 1027
  | .l1031 _ _ _ => 1031
  | .l1032 _ _ _ _ _ _ => 1032
theorem eq9 {R : Type} (B : Ops) (c31 : Int → Option (Bool)) (c32 : Int → Option (Bool)) (c33 : List UInt8 → Option ((List UInt8))) (p0 : List UInt8) (k : AV → Objs → Option R) (n : Nat) : afun tau B gl0 X9 (ent 31 (e31 c31) (ent 32 (e32 c32) (ent 33 (e33 c33) (gnil)))) ow Tryd.f9 [.c (.str p0)] [] k n = T9 B c31 c32 c33 p0 (fun s => aloop tau B gl0 X9 (ent 31 (e31 c31) (ent 32 (e32 c32) (ent 33 (e33 c33) (gnil)))) ow [] Tryd.f9 k (I9 s) (E9 p0 s) n) (fun y => k (.tup [(false, [.own 501000]), (false, [.int .i64 y.1]), (false, [.int .i64 y.2.1])]) [(501000, .row 30 ty30 y.2.2)]) none := by kernel_rfl
theorem el9 {R : Type} (B : Ops) (c31 : Int → Option (Bool)) (c32 : Int → Option (Bool)) (c33 : List UInt8 → Option ((List UInt8))) (p0 : List UInt8) (k : AV → Objs → Option R) (n : Nat) : ∀ s, aloop tau B gl0 X9 (ent 31 (e31 c31) (ent 32 (e32 c32) (ent 33 (e33 c33) (gnil)))) ow [] Tryd.f9 k (I9 s) (E9 p0 s) (n + 1) = T9 B c31 c32 c33 p0 (fun s => aloop tau B gl0 X9 (ent 31 (e31 c31) (ent 32 (e32 c32) (ent 33 (e33 c33) (gnil)))) ow [] Tryd.f9 k (I9 s) (E9 p0 s) n) (fun y => k (.tup [(false, [.own 501000]), (false, [.int .i64 y.1]), (false, [.int .i64 y.2.1])]) [(501000, .row 30 ty30 y.2.2)]) (some s)
  | .l0 v0_1 v0_2 => by kernel_rfl
  | .l1 v1_1 v1_2 v1_3 v1_6 v1_7 => by kernel_rfl
  | .l2 v2_1 v2_2 v2_3 v2_7 => by kernel_rfl
  | .l1010 v1010_1 v1010_2 v1010_6 => by kernel_rfl
  | .l1020 v1020_1 v1020_2 v1020_3 v1020_6 v1020_7 => by kernel_rfl
  | .l1026 v1026_1 v1026_2 v1026_3 v1026_7 => by kernel_rfl
  | .l1027 v1027_1 v1027_2 v1027_3 v1027_7 => by kernel_rfl
  | .l1031 v1031_1 v1031_2 v1031_6 => by kernel_rfl
  | .l1032 v1032_1 v1032_2 v1032_3 v1032_4 v1032_6 v1032_7 => by kernel_rfl
theorem nt9 {R R' : Type} (B : Ops) (c31 : Int → Option (Bool)) (c32 : Int → Option (Bool)) (c33 : List UInt8 → Option ((List UInt8))) (p0 : List UInt8) (again : S9 → Option R) (again' : S9 → Option R') (k0 : (Int × Int × (List ty30.den)) → Option R') (k : R' → Option R) (h : ∀ s, again s = ob (again' s) k) : ∀ s, T9 B c31 c32 c33 p0 again (fun y => ob (k0 y) k) s = ob (T9 B c31 c32 c33 p0 again' k0 s) k
  | none => by unfold T9; repeat' first | exact rfl | exact h _ | apply nat_cond | (apply nat_ob; intro)
  | some (.l0 v0_1 v0_2) => by unfold T9; repeat' first | exact rfl | exact h _ | apply nat_cond | (apply nat_ob; intro)
  | some (.l1 v1_1 v1_2 v1_3 v1_6 v1_7) => by unfold T9; repeat' first | exact rfl | exact h _ | apply nat_cond | (apply nat_ob; intro)
  | some (.l2 v2_1 v2_2 v2_3 v2_7) => by unfold T9; repeat' first | exact rfl | exact h _ | apply nat_cond | (apply nat_ob; intro)
  | some (.l1010 v1010_1 v1010_2 v1010_6) => by unfold T9; repeat' first | exact rfl | exact h _ | apply nat_cond | (apply nat_ob; intro)
  | some (.l1020 v1020_1 v1020_2 v1020_3 v1020_6 v1020_7) => by unfold T9; repeat' first | exact rfl | exact h _ | apply nat_cond | (apply nat_ob; intro)
  | some (.l1026 v1026_1 v1026_2 v1026_3 v1026_7) => by unfold T9; repeat' first | exact rfl | exact h _ | apply nat_cond | (apply nat_ob; intro)
  | some (.l1027 v1027_1 v1027_2 v1027_3 v1027_7) => by unfold T9; repeat' first | exact rfl | exact h _ | apply nat_cond | (apply nat_ob; intro)
  | some (.l1031 v1031_1 v1031_2 v1031_6) => by unfold T9; repeat' first | exact rfl | exact h _ | apply nat_cond | (apply nat_ob; intro)
  | some (.l1032 v1032_1 v1032_2 v1032_3 v1032_4 v1032_6 v1032_7) => by unfold T9; repeat' first | exact rfl | exact h _ | apply nat_cond | (apply nat_ob; intro)
def R9 (c31 : Int → Option (Bool)) (c32 : Int → Option (Bool)) (c33 : List UInt8 → Option ((List UInt8))) (p0 : List UInt8) : Nat → S9 → Option (Int × Int × (List ty30.den))
  | 0, _ => none
  | n + 1, s => T9 Ops.std c31 c32 c33 p0 (R9 c31 c32 c33 p0 n) some (some s)
theorem rr9 {R : Type} (c31 : Int → Option (Bool)) (c32 : Int → Option (Bool)) (c33 : List UInt8 → Option ((List UInt8))) (p0 : List UInt8) (k : AV → Objs → Option R) : ∀ (n : Nat) (s : S9), aloop tau Ops.std gl0 X9 (ent 31 (e31 c31) (ent 32 (e32 c32) (ent 33 (e33 c33) (gnil)))) ow [] Tryd.f9 k (I9 s) (E9 p0 s) n = ob (R9 c31 c32 c33 p0 n s) (fun y => k (.tup [(false, [.own 501000]), (false, [.int .i64 y.1]), (false, [.int .i64 y.2.1])]) [(501000, .row 30 ty30 y.2.2)])
  | 0, s => by cases s <;> rfl
  | n + 1, s => by rw [el9]; exact nt9 Ops.std c31 c32 c33 p0 _ _ some (fun y => k (.tup [(false, [.own 501000]), (false, [.int .i64 y.1]), (false, [.int .i64 y.2.1])]) [(501000, .row 30 ty30 y.2.2)]) (rr9 c31 c32 c33 p0 k n) (some s)
def F9 (c31 : Int → Option (Bool)) (c32 : Int → Option (Bool)) (c33 : List UInt8 → Option ((List UInt8))) (p0 : List UInt8) : Option (Int × Int × (List ty30.den)) := T9 Ops.std c31 c32 c33 p0 (R9 c31 c32 c33 p0 1000000) some none
theorem fo9 {R : Type} (c31 : Int → Option (Bool)) (c32 : Int → Option (Bool)) (c33 : List UInt8 → Option ((List UInt8))) (p0 : List UInt8) (k : AV → Objs → Option R) : afun tau Ops.std gl0 X9 (ent 31 (e31 c31) (ent 32 (e32 c32) (ent 33 (e33 c33) (gnil)))) ow Tryd.f9 [.c (.str p0)] [] k 1000000 = ob (F9 c31 c32 c33 p0) (fun y => k (.tup [(false, [.own 501000]), (false, [.int .i64 y.1]), (false, [.int .i64 y.2.1])]) [(501000, .row 30 ty30 y.2.2)]) := by rw [eq9]; exact nt9 Ops.std c31 c32 c33 p0 _ _ some (fun y => k (.tup [(false, [.own 501000]), (false, [.int .i64 y.1]), (false, [.int .i64 y.2.1])]) [(501000, .row 30 ty30 y.2.2)]) (rr9 c31 c32 c33 p0 k 1000000) none
def e9 {R : Type} (c : List UInt8 → Option (Int × Int × (List ty30.den))) : Ent R := fun args objs k =>
  oCons args fun a0 l0 => oC a0 fun x0 => cStr x0 fun p0 => oNil l0 <| oNilO objs <| ob (c p0) fun y => k (.tup [(false, [.own 501000]), (false, [.int .i64 y.1]), (false, [.int .i64 y.2.1])]) [(501000, .row 30 ty30 y.2.2)]
abbrev Sp9 (c : List UInt8 → Option (Int × Int × (List ty30.den))) : Prop := ∀ (p0 : List UInt8) (y : Int × Int × (List ty30.den)), c p0 = some y → Spec Tryd.prog gl0 9 [.c (.str p0)] [] (.tup [(false, [.own 501000]), (false, [.int .i64 y.1]), (false, [.int .i64 y.2.1])]) [(501000, .row 30 ty30 y.2.2)]
theorem ek9 {R : Type} {c : List UInt8 → Option (Int × Int × (List ty30.den))} (hs : Sp9 c) : EOk 9 (e9 (R := R) c) := fun args objs k r h => by
  unfold e9 at h
  obtain ⟨a0, l0, rfl, q1⟩ := oCons_some h
  obtain ⟨x0, rfl, q2⟩ := oC_some q1
  obtain ⟨p0, rfl, q3⟩ := cStr_some q2
  obtain ⟨rfl, q4⟩ := oNil_some q3
  obtain ⟨rfl, q5⟩ := oNilO_some q4
  exact eok_of (hs p0) q5
theorem sf9 {c31 : Int → Option (Bool)} {c32 : Int → Option (Bool)} {c33 : List UInt8 → Option ((List UInt8))} (h31 : Sp31 c31) (h32 : Sp32 c32) (h33 : Sp33 c33) : Sp9 (F9 c31 c32 c33) := fun p0 y hy => by
  refine spec_of (G := ent 31 (e31 c31) (ent 32 (e32 c32) (ent 33 (e33 c33) (gnil)))) (ent_ok (ek31 h31) (ent_ok (ek32 h32) (ent_ok (ek33 h33) (gnil_ok)))) 1000000 (fn := Tryd.f9) (by kernel_rfl) (by kernel_rfl) (X := X9) (by kernel_rfl) ?_
  rw [fo9, hy]
  rfl
noncomputable def M9 : List UInt8 → Option (Int × Int × (List ty30.den)) := F9 M31 M32 M33
theorem sm9 : Sp9 M9 := sf9 sm31 sm32 sm33

/-! ### 10: lariat/lex.IsWord -/
def X10 : Aux := ⟨[], []⟩
def T10 {R : Type} (B : Ops) (c34 : Int → Option (Bool)) (c35 : List UInt8 → Option ((List UInt8))) (c36 : Int → Option (Bool)) (c139 : List UInt8 → Option ((List UInt8))) (p0 : List UInt8) (k : (Bool) → Option R) : Option R :=
  cond (!p0 == mt UInt8)
   (
    cond (Ops.le B (Nat.cast (List.length p0)) (8))
     (
      cond (Ops.inb B (0) (List.length p0))
       (
        ob (c34 (Nat.cast (UInt8.toNat (List.getD p0 (Int.toNat (0)) (0))))) fun y0 =>
        cond (y0)
         (
          ob (c35 p0) fun y1 =>
          k (y1 == p0))
         (
          k false))
       (
        none))
     (
      k false))
   (
    k false)
theorem eq10 {R : Type} (B : Ops) (c34 : Int → Option (Bool)) (c35 : List UInt8 → Option ((List UInt8))) (c36 : Int → Option (Bool)) (c139 : List UInt8 → Option ((List UInt8))) (p0 : List UInt8) (k : AV → Objs → Option R) (n : Nat) : afun tau B gl0 X10 (ent 34 (e34 c34) (ent 35 (eAlt 1 36 (e35 c35) (e139 c139)) (ent 36 (e36 c36) (gnil)))) ow Tryd.f10 [.c (.str p0)] [] k n = T10 B c34 c35 c36 c139 p0 (fun y => k (.c (.bool y)) []) := by kernel_rfl
theorem nt10 {R R' : Type} (B : Ops) (c34 : Int → Option (Bool)) (c35 : List UInt8 → Option ((List UInt8))) (c36 : Int → Option (Bool)) (c139 : List UInt8 → Option ((List UInt8))) (p0 : List UInt8) (k0 : (Bool) → Option R') (k : R' → Option R) : T10 B c34 c35 c36 c139 p0 (fun y => ob (k0 y) k) = ob (T10 B c34 c35 c36 c139 p0 k0) k := by
  unfold T10
  repeat' first | exact rfl | apply nat_cond | (apply nat_ob; intro)
def F10 (c34 : Int → Option (Bool)) (c35 : List UInt8 → Option ((List UInt8))) (c36 : Int → Option (Bool)) (c139 : List UInt8 → Option ((List UInt8))) (p0 : List UInt8) : Option (Bool) := T10 Ops.std c34 c35 c36 c139 p0 some
theorem fo10 {R : Type} (c34 : Int → Option (Bool)) (c35 : List UInt8 → Option ((List UInt8))) (c36 : Int → Option (Bool)) (c139 : List UInt8 → Option ((List UInt8))) (p0 : List UInt8) (k : AV → Objs → Option R) (n : Nat) : afun tau Ops.std gl0 X10 (ent 34 (e34 c34) (ent 35 (eAlt 1 36 (e35 c35) (e139 c139)) (ent 36 (e36 c36) (gnil)))) ow Tryd.f10 [.c (.str p0)] [] k n = ob (F10 c34 c35 c36 c139 p0) (fun y => k (.c (.bool y)) []) := by rw [eq10]; exact nt10 Ops.std c34 c35 c36 c139 p0 some (fun y => k (.c (.bool y)) [])
def e10 {R : Type} (c : List UInt8 → Option (Bool)) : Ent R := fun args objs k =>
  oCons args fun a0 l0 => oC a0 fun x0 => cStr x0 fun p0 => oNil l0 <| oNilO objs <| ob (c p0) fun y => k (.c (.bool y)) []
abbrev Sp10 (c : List UInt8 → Option (Bool)) : Prop := ∀ (p0 : List UInt8) (y : Bool), c p0 = some y → Spec Tryd.prog gl0 10 [.c (.str p0)] [] (.c (.bool y)) []
theorem ek10 {R : Type} {c : List UInt8 → Option (Bool)} (hs : Sp10 c) : EOk 10 (e10 (R := R) c) := fun args objs k r h => by
  unfold e10 at h
  obtain ⟨a0, l0, rfl, q1⟩ := oCons_some h
  obtain ⟨x0, rfl, q2⟩ := oC_some q1
  obtain ⟨p0, rfl, q3⟩ := cStr_some q2
  obtain ⟨rfl, q4⟩ := oNil_some q3
  obtain ⟨rfl, q5⟩ := oNilO_some q4
  exact eok_of (hs p0) q5
theorem sf10 {c34 : Int → Option (Bool)} {c35 : List UInt8 → Option ((List UInt8))} {c36 : Int → Option (Bool)} {c139 : List UInt8 → Option ((List UInt8))} (h34 : Sp34 c34) (h35 : Sp35 c35) (h36 : Sp36 c36) (h139 : Sp139 c139) : Sp10 (F10 c34 c35 c36 c139) := fun p0 y hy => by
  refine spec_of (G := ent 34 (e34 c34) (ent 35 (eAlt 1 36 (e35 c35) (e139 c139)) (ent 36 (e36 c36) (gnil)))) (ent_ok (ek34 h34) (ent_ok (eAlt_ok (ek35 h35) (ek139 h139)) (ent_ok (ek36 h36) (gnil_ok)))) 1000000 (fn := Tryd.f10) (by kernel_rfl) (by kernel_rfl) (X := X10) (by kernel_rfl) ?_
  rw [fo10, hy]
  rfl
noncomputable def M10 : List UInt8 → Option (Bool) := F10 M34 M35 M36 M139
theorem sm10 : Sp10 M10 := sf10 sm34 sm35 sm36 sm139

/-! ### 3: lariat/lariatlaw7.LexStands -/
def X3 : Aux := ⟨[(9, [0, 1, 2, 3, 4, 5, 6, 7, 8, 11, 12, 14, 15, 16, 17, 18, 19, 20, 21, 22, 23, 24, 25, 26, 27, 28, 29, 30, 31, 32, 33, 34, 35, 36, 37, 38, 39, 40, 43, 44, 45, 46, 47, 48, 49, 50, 51, 52, 53, 54, 55, 56, 57, 58, 59, 60, 61, 62, 63, 64, 65, 66, 67, 68, 69, 70, 71, 72, 73, 74, 75, 76, 77, 78, 79, 80, 81, 82, 83, 84, 85, 86, 87, 88, 89, 90, 91, 92, 93, 94, 95, 96, 97, 98, 99, 100, 101, 102, 103, 104, 105, 106, 107, 108, 109, 110, 111, 112, 113, 114, 115, 116, 117, 118, 119, 120, 121, 122, 123, 124, 125, 126, 127, 128, 129, 130, 131, 132, 133, 134, 135, 136, 137, 138, 139, 140, 141, 142, 143, 144, 145, 146, 147, 148, 149, 150, 151, 152, 153, 154, 155, 156, 157, 158, 159, 160, 161, 162, 163, 164, 165, 166, 167, 168, 169]), (15, [0, 1, 2, 3, 4, 5, 6, 7, 8, 11, 12, 13, 14, 17, 18, 19, 20, 21, 22, 23, 24, 25, 26, 27, 28, 29, 30, 31, 32, 33, 34, 35, 36, 37, 38, 39, 40, 43, 44, 45, 46, 47, 48, 49, 50, 51, 52, 53, 54, 55, 56, 57, 58, 59, 60, 61, 62, 63, 64, 65, 66, 67, 68, 69, 70, 71, 72, 73, 74, 75, 76, 77, 78, 79, 80, 81, 82, 83, 84, 85, 86, 87, 88, 89, 90, 91, 92, 93, 94, 95, 96, 97, 98, 99, 100, 101, 102, 103, 104, 105, 106, 107, 108, 109, 110, 111, 112, 113, 114, 115, 116, 117, 118, 119, 120, 121, 122, 123, 124, 125, 126, 127, 128, 129, 130, 131, 132, 133, 134, 135, 136, 137, 138, 139, 140, 141, 142, 143, 144, 145, 146, 147, 148, 149, 150, 151, 152, 153, 154, 155, 156, 157, 158, 159, 160, 161, 162, 163, 164, 165, 166, 167, 168, 169]), (1000014, [0, 1, 2, 3, 4, 5, 6, 7, 8, 11, 12, 14, 16, 17, 18, 19, 20, 21, 22, 23, 24, 25, 26, 27, 28, 29, 30, 31, 32, 33, 34, 35, 36, 37, 38, 39, 40, 43, 44, 45, 46, 47, 48, 49, 50, 51, 52, 53, 54, 55, 56, 57, 58, 59, 60, 61, 62, 63, 64, 65, 66, 67, 68, 69, 70, 71, 72, 73, 74, 75, 76, 77, 78, 79, 80, 81, 82, 83, 84, 85, 86, 87, 88, 89, 90, 91, 92, 93, 94, 95, 96, 97, 98, 99, 100, 101, 102, 103, 104, 105, 106, 107, 108, 109, 110, 111, 112, 113, 114, 115, 116, 117, 118, 119, 120, 121, 122, 123, 124, 125, 126, 127, 128, 129, 130, 131, 132, 133, 134, 135, 136, 137, 138, 139, 140, 141, 142, 143, 144, 145, 146, 147, 148, 149, 150, 151, 152, 153, 154, 155, 156, 157, 158, 159, 160, 161, 162, 163, 164, 165, 166, 167, 168, 169]), (1000016, [0, 1, 2, 3, 4, 5, 6, 7, 8, 11, 12, 13, 14, 17, 18, 19, 20, 21, 22, 23, 24, 25, 26, 27, 28, 29, 30, 31, 32, 33, 34, 35, 36, 37, 38, 39, 40, 43, 44, 45, 46, 47, 48, 49, 50, 51, 52, 53, 54, 55, 56, 57, 58, 59, 60, 61, 62, 63, 64, 65, 66, 67, 68, 69, 70, 71, 72, 73, 74, 75, 76, 77, 78, 79, 80, 81, 82, 83, 84, 85, 86, 87, 88, 89, 90, 91, 92, 93, 94, 95, 96, 97, 98, 99, 100, 101, 102, 103, 104, 105, 106, 107, 108, 109, 110, 111, 112, 113, 114, 115, 116, 117, 118, 119, 120, 121, 122, 123, 124, 125, 126, 127, 128, 129, 130, 131, 132, 133, 134, 135, 136, 137, 138, 139, 140, 141, 142, 143, 144, 145, 146, 147, 148, 149, 150, 151, 152, 153, 154, 155, 156, 157, 158, 159, 160, 161, 162, 163, 164, 165, 166, 167, 168, 169]), (1000023, [0, 1, 2, 3, 4, 5, 6, 7, 8, 11, 12, 14, 15, 16, 17, 18, 19, 20, 21, 22, 23, 24, 25, 26, 27, 28, 29, 30, 31, 32, 33, 34, 35, 36, 37, 38, 39, 40, 43, 44, 45, 46, 47, 48, 49, 50, 51, 52, 53, 54, 55, 56, 57, 58, 59, 60, 61, 62, 63, 64, 65, 66, 67, 68, 69, 70, 71, 72, 73, 74, 75, 76, 77, 78, 79, 80, 81, 82, 83, 84, 85, 86, 87, 88, 89, 90, 91, 92, 93, 94, 95, 96, 97, 98, 99, 100, 101, 102, 103, 104, 105, 106, 107, 108, 109, 110, 111, 112, 113, 114, 115, 116, 117, 118, 119, 120, 121, 122, 123, 124, 125, 126, 127, 128, 129, 130, 131, 132, 133, 134, 135, 136, 137, 138, 139, 140, 141, 142, 143, 144, 145, 146, 147, 148, 149, 150, 151, 152, 153, 154, 155, 156, 157, 158, 159, 160, 161, 162, 163, 164, 165, 166, 167, 168, 169])], [(12, .lin [0, 1, 2, 3, 4, 5, 6, 7, 8, 9, 10, 11, 12, 13, 14, 15, 16, 17, 18, 19, 20, 21, 22, 23, 24, 25, 26, 27, 28, 29, 30, 31, 32, 33, 34, 35, 36, 37, 38, 39, 40]), (21, .lin [0, 1, 2, 3, 4, 5, 6, 7, 8, 9, 10, 11, 12, 13, 14, 15, 16, 17, 18, 19, 20, 21, 22, 23, 24, 25, 26, 27, 28, 29, 30, 31, 32, 33])]⟩
inductive S3 where
  | l0 (v0_0 : List UInt8) (v0_1 : Int) (v0_2 : Int) (v0_3 : Int) (v0_4 : List ty30.den)
  | l1 (v1_0 : List UInt8) (v1_1 : Int) (v1_2 : Int) (v1_3 : Int) (v1_4 : List ty30.den) (v1_5 : Int) (v1_6 : List UInt8) (v1_7 : Int) (v1_8 : Int)
  | l1014 (v1014_0 : List UInt8) (v1014_1 : Int) (v1014_2 : Int) (v1014_3 : Int) (v1014_4 : List ty30.den) (v1014_5 : Int) (v1014_6 : List UInt8) (v1014_7 : Int) (v1014_8 : Int)
  | l1016 (v1016_0 : List UInt8) (v1016_1 : Int) (v1016_2 : Int) (v1016_3 : Int) (v1016_4 : List ty30.den) (v1016_5 : Int) (v1016_6 : List UInt8) (v1016_7 : Int) (v1016_8 : Int)
  | l1023 (v1023_0 : List UInt8) (v1023_1 : Int) (v1023_2 : Int) (v1023_3 : Int) (v1023_4 : List ty30.den)
def T3 {R : Type} (B : Ops) (c6 : Option (Bool)) (c7 : List ty3.den → List ty3.den → List UInt8 → Int → Option ((List UInt8))) (c8 : List UInt8 → Option (Int × Int × (List ty30.den))) (p0 : List ty3.den) (p1 : List ty3.den) (p2 : List UInt8) (p3 : Int) (again : S3 → Option R) (k : (Bool) → Option R) : Option S3 → Option R
  | none =>
    ob (c6) fun y0 =>
    cond (!y0)
     (
      k false)
     (
      ob (c7 p0 p1 p2 p3) fun y1 =>
      ob (c8 y1) fun y2 =>
      ob (c6) fun y3 =>
      cond (!y3)
       (
        ob (c6) fun y4 =>
        k y4)
       (
        cond (!Ops.eq B (Prod.fst y2) (0))
         (
          ob (c6) fun y4 =>
          k y4)
         (
          again (.l0 y1 0 (Nat.cast (List.length (Prod.snd (Prod.snd y2)))) 0 (Prod.snd (Prod.snd y2))))))
  | some (.l0 v0_0 v0_1 v0_2 v0_3 v0_4) =>
    cond (Ops.lt B v0_3 v0_2)
     (
      cond (Ops.inb B v0_3 (List.length v0_4))
       (
        cond (Ops.lt B (Prod.snd (Prod.snd (Prod.snd (List.getD v0_4 (Int.toNat v0_3) (Ty.dflt ty30))))) v0_1)
         (
          k false)
         (
          cond (Ops.lt B (Nat.cast (List.length v0_0)) (IntKind.wrap IntKind.i64 (Prod.snd (Prod.snd (Prod.snd (List.getD v0_4 (Int.toNat v0_3) (Ty.dflt ty30)))) + Nat.cast (List.length (Prod.fst (Prod.snd (List.getD v0_4 (Int.toNat v0_3) (Ty.dflt ty30))))))))
           (
            k false)
           (
            cond (Ops.inb B (IntKind.wrap IntKind.i64 (Prod.snd (Prod.snd (Prod.snd (List.getD v0_4 (Int.toNat v0_3) (Ty.dflt ty30)))) + Nat.cast (List.length (Prod.fst (Prod.snd (List.getD v0_4 (Int.toNat v0_3) (Ty.dflt ty30))))))) (List.length v0_0 + 1))
             (
              cond (bif Ops.le B (0) (Prod.snd (Prod.snd (Prod.snd (List.getD v0_4 (Int.toNat v0_3) (Ty.dflt ty30))))) then Ops.le B (Prod.snd (Prod.snd (Prod.snd (List.getD v0_4 (Int.toNat v0_3) (Ty.dflt ty30))))) (IntKind.wrap IntKind.i64 (Prod.snd (Prod.snd (Prod.snd (List.getD v0_4 (Int.toNat v0_3) (Ty.dflt ty30)))) + Nat.cast (List.length (Prod.fst (Prod.snd (List.getD v0_4 (Int.toNat v0_3) (Ty.dflt ty30))))))) else false)
               (
                cond (!List.drop (Int.toNat (Prod.snd (Prod.snd (Prod.snd (List.getD v0_4 (Int.toNat v0_3) (Ty.dflt ty30)))))) (List.take (Int.toNat (IntKind.wrap IntKind.i64 (Prod.snd (Prod.snd (Prod.snd (List.getD v0_4 (Int.toNat v0_3) (Ty.dflt ty30)))) + Nat.cast (List.length (Prod.fst (Prod.snd (List.getD v0_4 (Int.toNat v0_3) (Ty.dflt ty30)))))))) v0_0) == Prod.fst (Prod.snd (List.getD v0_4 (Int.toNat v0_3) (Ty.dflt ty30))))
                 (
                  k false)
                 (
                  cond (!Ops.eq B (Prod.fst (List.getD v0_4 (Int.toNat v0_3) (Ty.dflt ty30))) (5) == Ops.eq B v0_3 (IntKind.wrap IntKind.i64 (Nat.cast (List.length v0_4) - 1)))
                   (
                    k false)
                   (
                    again (.l1014 v0_0 v0_1 v0_2 v0_3 v0_4 (Prod.fst (List.getD v0_4 (Int.toNat v0_3) (Ty.dflt ty30))) (Prod.fst (Prod.snd (List.getD v0_4 (Int.toNat v0_3) (Ty.dflt ty30)))) (Prod.fst (Prod.snd (Prod.snd (List.getD v0_4 (Int.toNat v0_3) (Ty.dflt ty30))))) (Prod.snd (Prod.snd (Prod.snd (List.getD v0_4 (Int.toNat v0_3) (Ty.dflt ty30)))))))))
               (
                none))
             (
              none))))
       (
        none))
     (
      cond (Ops.lt B (0) (Nat.cast (List.length v0_4)))
       (
        k (Ops.eq B v0_1 (Nat.cast (List.length v0_0))))
       (
        k false))
  | some (.l1 v1_0 v1_1 v1_2 v1_3 v1_4 v1_5 v1_6 v1_7 v1_8) =>
    cond (Ops.lt B v1_1 v1_8)
     (
      cond (Ops.inb B v1_1 (List.length v1_0))
       (
        cond (!Ops.eq B (Nat.cast (UInt8.toNat (List.getD v1_0 (Int.toNat v1_1) (0)))) (32))
         (
          cond (Ops.inb B v1_1 (List.length v1_0))
           (
            cond (!Ops.eq B (Nat.cast (UInt8.toNat (List.getD v1_0 (Int.toNat v1_1) (0)))) (9))
             (
              cond (Ops.inb B v1_1 (List.length v1_0))
               (
                cond (!Ops.eq B (Nat.cast (UInt8.toNat (List.getD v1_0 (Int.toNat v1_1) (0)))) (10))
                 (
                  k false)
                 (
                  again (.l1016 v1_0 v1_1 v1_2 v1_3 v1_4 v1_5 v1_6 v1_7 v1_8)))
               (
                none))
             (
              again (.l1016 v1_0 v1_1 v1_2 v1_3 v1_4 v1_5 v1_6 v1_7 v1_8)))
           (
            none))
         (
          again (.l1016 v1_0 v1_1 v1_2 v1_3 v1_4 v1_5 v1_6 v1_7 v1_8)))
       (
        none))
     (
      ob (c8 v1_6) fun y0 =>
      cond (!Ops.eq B (Prod.fst y0) (0))
       (
        k false)
       (
        cond (Ops.lt B (Nat.cast (List.length (Prod.snd (Prod.snd y0)))) (1))
         (
          k false)
         (
          cond (Ops.inb B (0) (List.length (Prod.snd (Prod.snd y0))))
           (
            cond (!Ops.eq B (Prod.fst (List.getD (Prod.snd (Prod.snd y0)) (Int.toNat (0)) (Ty.dflt ty30))) v1_5)
             (
              k false)
             (
              cond (Ops.inb B (0) (List.length (Prod.snd (Prod.snd y0))))
               (
                cond (!Ops.eq B (Prod.fst (Prod.snd (Prod.snd (List.getD (Prod.snd (Prod.snd y0)) (Int.toNat (0)) (Ty.dflt ty30))))) v1_7)
                 (
                  k false)
                 (
                  cond (Ops.inb B (0) (List.length (Prod.snd (Prod.snd y0))))
                   (
                    cond (!Prod.fst (Prod.snd (List.getD (Prod.snd (Prod.snd y0)) (Int.toNat (0)) (Ty.dflt ty30))) == v1_6)
                     (
                      k false)
                     (
                      again (.l1023 v1_0 (IntKind.wrap IntKind.i64 (v1_8 + Nat.cast (List.length v1_6))) v1_2 v1_3 v1_4)))
                   (
                    none)))
               (
                none)))
           (
            none))))
  | some (.l1014 v1014_0 v1014_1 v1014_2 v1014_3 v1014_4 v1014_5 v1014_6 v1014_7 v1014_8) =>
    again (.l1 v1014_0 v1014_1 v1014_2 v1014_3 v1014_4 v1014_5 v1014_6 v1014_7 v1014_8)
  | some (.l1016 v1016_0 v1016_1 v1016_2 v1016_3 v1016_4 v1016_5 v1016_6 v1016_7 v1016_8) =>
    again (.l1 v1016_0 (IntKind.wrap IntKind.i64 (v1016_1 + 1)) v1016_2 v1016_3 v1016_4 v1016_5 v1016_6 v1016_7 v1016_8)
  | some (.l1023 v1023_0 v1023_1 v1023_2 v1023_3 v1023_4) =>
    again (.l0 v1023_0 v1023_1 v1023_2 (IntKind.wrap IntKind.i64 (v1023_3 + 1)) v1023_4)
def E3 (p0 : List ty3.den) (p1 : List ty3.den) (p2 : List UInt8) (p3 : Int) : S3 → List AV × Objs
  | .l0 v0_0 v0_1 v0_2 v0_3 v0_4 => (mk 170 [(9, .c (.str v0_0)), (10, .c (.own 10)), (13, .c (.int .i64 v0_1)), (41, .c (.int .i64 v0_2)), (42, .c (.int .i64 v0_3))], [(10, .row 30 ty30 v0_4)])
  | .l1 v1_0 v1_1 v1_2 v1_3 v1_4 v1_5 v1_6 v1_7 v1_8 => (mk 170 [(9, .c (.str v1_0)), (10, .c (.own 10)), (15, .c (.ptr 15 0)), (16, .c (.int .i64 v1_1)), (41, .c (.int .i64 v1_2)), (42, .c (.int .i64 v1_3))], [(10, .row 30 ty30 v1_4), (15, .box 30 [.int .i64 v1_5, .str v1_6, .int .i64 v1_7, .int .i64 v1_8])])
  | .l1014 v1014_0 v1014_1 v1014_2 v1014_3 v1014_4 v1014_5 v1014_6 v1014_7 v1014_8 => (mk 170 [(9, .c (.str v1014_0)), (10, .c (.own 10)), (13, .c (.int .i64 v1014_1)), (15, .c (.ptr 15 0)), (41, .c (.int .i64 v1014_2)), (42, .c (.int .i64 v1014_3))], [(10, .row 30 ty30 v1014_4), (15, .box 30 [.int .i64 v1014_5, .str v1014_6, .int .i64 v1014_7, .int .i64 v1014_8])])
  | .l1016 v1016_0 v1016_1 v1016_2 v1016_3 v1016_4 v1016_5 v1016_6 v1016_7 v1016_8 => (mk 170 [(9, .c (.str v1016_0)), (10, .c (.own 10)), (15, .c (.ptr 15 0)), (16, .c (.int .i64 v1016_1)), (41, .c (.int .i64 v1016_2)), (42, .c (.int .i64 v1016_3))], [(10, .row 30 ty30 v1016_4), (15, .box 30 [.int .i64 v1016_5, .str v1016_6, .int .i64 v1016_7, .int .i64 v1016_8])])
  | .l1023 v1023_0 v1023_1 v1023_2 v1023_3 v1023_4 => (mk 170 [(9, .c (.str v1023_0)), (10, .c (.own 10)), (13, .c (.int .i64 v1023_1)), (41, .c (.int .i64 v1023_2)), (42, .c (.int .i64 v1023_3))], [(10, .row 30 ty30 v1023_4)])
def I3 : S3 → Nat
  | .l0 _ _ _ _ _ => 0
  | .l1 _ _ _ _ _ _ _ _ _ => 1
  | .l1014 _ _ _ _ _ _ _ _ _ => 1014
  | .l1016 _ _ _ _ _ _ _ _ _ => 1016
  | .l1023 _ _ _ _ _ => 1023
theorem eq3 {R : Type} (B : Ops) (c6 : Option (Bool)) (c7 : List ty3.den → List ty3.den → List UInt8 → Int → Option ((List UInt8))) (c8 : List UInt8 → Option (Int × Int × (List ty30.den))) (p0 : List ty3.den) (p1 : List ty3.den) (p2 : List UInt8) (p3 : Int) (k : AV → Objs → Option R) (n : Nat) : afun tau B gl0 X3 (ent 6 (e6 c6) (ent 7 (e7 c7) (ent 8 (e8 c8) (gnil)))) ow Tryd.f3 [.c (.list 3 ty3 p0), .c (.list 3 ty3 p1), .c (.str p2), .c (.int .i64 p3)] [] k n = T3 B c6 c7 c8 p0 p1 p2 p3 (fun s => aloop tau B gl0 X3 (ent 6 (e6 c6) (ent 7 (e7 c7) (ent 8 (e8 c8) (gnil)))) ow [] Tryd.f3 k (I3 s) (E3 p0 p1 p2 p3 s) n) (fun y => k (.c (.bool y)) []) none := by kernel_rfl
theorem el3 {R : Type} (B : Ops) (c6 : Option (Bool)) (c7 : List ty3.den → List ty3.den → List UInt8 → Int → Option ((List UInt8))) (c8 : List UInt8 → Option (Int × Int × (List ty30.den))) (p0 : List ty3.den) (p1 : List ty3.den) (p2 : List UInt8) (p3 : Int) (k : AV → Objs → Option R) (n : Nat) : ∀ s, aloop tau B gl0 X3 (ent 6 (e6 c6) (ent 7 (e7 c7) (ent 8 (e8 c8) (gnil)))) ow [] Tryd.f3 k (I3 s) (E3 p0 p1 p2 p3 s) (n + 1) = T3 B c6 c7 c8 p0 p1 p2 p3 (fun s => aloop tau B gl0 X3 (ent 6 (e6 c6) (ent 7 (e7 c7) (ent 8 (e8 c8) (gnil)))) ow [] Tryd.f3 k (I3 s) (E3 p0 p1 p2 p3 s) n) (fun y => k (.c (.bool y)) []) (some s)
  | .l0 v0_0 v0_1 v0_2 v0_3 v0_4 => by kernel_rfl
  | .l1 v1_0 v1_1 v1_2 v1_3 v1_4 v1_5 v1_6 v1_7 v1_8 => by kernel_rfl
  | .l1014 v1014_0 v1014_1 v1014_2 v1014_3 v1014_4 v1014_5 v1014_6 v1014_7 v1014_8 => by kernel_rfl
  | .l1016 v1016_0 v1016_1 v1016_2 v1016_3 v1016_4 v1016_5 v1016_6 v1016_7 v1016_8 => by kernel_rfl
  | .l1023 v1023_0 v1023_1 v1023_2 v1023_3 v1023_4 => by kernel_rfl
theorem nt3 {R R' : Type} (B : Ops) (c6 : Option (Bool)) (c7 : List ty3.den → List ty3.den → List UInt8 → Int → Option ((List UInt8))) (c8 : List UInt8 → Option (Int × Int × (List ty30.den))) (p0 : List ty3.den) (p1 : List ty3.den) (p2 : List UInt8) (p3 : Int) (again : S3 → Option R) (again' : S3 → Option R') (k0 : (Bool) → Option R') (k : R' → Option R) (h : ∀ s, again s = ob (again' s) k) : ∀ s, T3 B c6 c7 c8 p0 p1 p2 p3 again (fun y => ob (k0 y) k) s = ob (T3 B c6 c7 c8 p0 p1 p2 p3 again' k0 s) k
  | none => by unfold T3; repeat' first | exact rfl | exact h _ | apply nat_cond | (apply nat_ob; intro)
  | some (.l0 v0_0 v0_1 v0_2 v0_3 v0_4) => by unfold T3; repeat' first | exact rfl | exact h _ | apply nat_cond | (apply nat_ob; intro)
  | some (.l1 v1_0 v1_1 v1_2 v1_3 v1_4 v1_5 v1_6 v1_7 v1_8) => by unfold T3; repeat' first | exact rfl | exact h _ | apply nat_cond | (apply nat_ob; intro)
  | some (.l1014 v1014_0 v1014_1 v1014_2 v1014_3 v1014_4 v1014_5 v1014_6 v1014_7 v1014_8) => by unfold T3; repeat' first | exact rfl | exact h _ | apply nat_cond | (apply nat_ob; intro)
  | some (.l1016 v1016_0 v1016_1 v1016_2 v1016_3 v1016_4 v1016_5 v1016_6 v1016_7 v1016_8) => by unfold T3; repeat' first | exact rfl | exact h _ | apply nat_cond | (apply nat_ob; intro)
  | some (.l1023 v1023_0 v1023_1 v1023_2 v1023_3 v1023_4) => by unfold T3; repeat' first | exact rfl | exact h _ | apply nat_cond | (apply nat_ob; intro)
def R3 (c6 : Option (Bool)) (c7 : List ty3.den → List ty3.den → List UInt8 → Int → Option ((List UInt8))) (c8 : List UInt8 → Option (Int × Int × (List ty30.den))) (p0 : List ty3.den) (p1 : List ty3.den) (p2 : List UInt8) (p3 : Int) : Nat → S3 → Option (Bool)
  | 0, _ => none
  | n + 1, s => T3 Ops.std c6 c7 c8 p0 p1 p2 p3 (R3 c6 c7 c8 p0 p1 p2 p3 n) some (some s)
theorem rr3 {R : Type} (c6 : Option (Bool)) (c7 : List ty3.den → List ty3.den → List UInt8 → Int → Option ((List UInt8))) (c8 : List UInt8 → Option (Int × Int × (List ty30.den))) (p0 : List ty3.den) (p1 : List ty3.den) (p2 : List UInt8) (p3 : Int) (k : AV → Objs → Option R) : ∀ (n : Nat) (s : S3), aloop tau Ops.std gl0 X3 (ent 6 (e6 c6) (ent 7 (e7 c7) (ent 8 (e8 c8) (gnil)))) ow [] Tryd.f3 k (I3 s) (E3 p0 p1 p2 p3 s) n = ob (R3 c6 c7 c8 p0 p1 p2 p3 n s) (fun y => k (.c (.bool y)) [])
  | 0, s => by cases s <;> rfl
  | n + 1, s => by rw [el3]; exact nt3 Ops.std c6 c7 c8 p0 p1 p2 p3 _ _ some (fun y => k (.c (.bool y)) []) (rr3 c6 c7 c8 p0 p1 p2 p3 k n) (some s)
def F3 (c6 : Option (Bool)) (c7 : List ty3.den → List ty3.den → List UInt8 → Int → Option ((List UInt8))) (c8 : List UInt8 → Option (Int × Int × (List ty30.den))) (p0 : List ty3.den) (p1 : List ty3.den) (p2 : List UInt8) (p3 : Int) : Option (Bool) := T3 Ops.std c6 c7 c8 p0 p1 p2 p3 (R3 c6 c7 c8 p0 p1 p2 p3 1000000) some none
theorem fo3 {R : Type} (c6 : Option (Bool)) (c7 : List ty3.den → List ty3.den → List UInt8 → Int → Option ((List UInt8))) (c8 : List UInt8 → Option (Int × Int × (List ty30.den))) (p0 : List ty3.den) (p1 : List ty3.den) (p2 : List UInt8) (p3 : Int) (k : AV → Objs → Option R) : afun tau Ops.std gl0 X3 (ent 6 (e6 c6) (ent 7 (e7 c7) (ent 8 (e8 c8) (gnil)))) ow Tryd.f3 [.c (.list 3 ty3 p0), .c (.list 3 ty3 p1), .c (.str p2), .c (.int .i64 p3)] [] k 1000000 = ob (F3 c6 c7 c8 p0 p1 p2 p3) (fun y => k (.c (.bool y)) []) := by rw [eq3]; exact nt3 Ops.std c6 c7 c8 p0 p1 p2 p3 _ _ some (fun y => k (.c (.bool y)) []) (rr3 c6 c7 c8 p0 p1 p2 p3 k 1000000) none
def e3 {R : Type} (c : List ty3.den → List ty3.den → List UInt8 → Int → Option (Bool)) : Ent R := fun args objs k =>
  oCons args fun a0 l0 => oC a0 fun x0 => cList 3 ty3 x0 fun p0 => oCons l0 fun a1 l1 => oC a1 fun x1 => cList 3 ty3 x1 fun p1 => oCons l1 fun a2 l2 => oC a2 fun x2 => cStr x2 fun p2 => oCons l2 fun a3 l3 => oC a3 fun x3 => cInt .i64 x3 fun p3 => oNil l3 <| oNilO objs <| ob (c p0 p1 p2 p3) fun y => k (.c (.bool y)) []
abbrev Sp3 (c : List ty3.den → List ty3.den → List UInt8 → Int → Option (Bool)) : Prop := ∀ (p0 : List ty3.den) (p1 : List ty3.den) (p2 : List UInt8) (p3 : Int) (y : Bool), c p0 p1 p2 p3 = some y → Spec Tryd.prog gl0 3 [.c (.list 3 ty3 p0), .c (.list 3 ty3 p1), .c (.str p2), .c (.int .i64 p3)] [] (.c (.bool y)) []
theorem ek3 {R : Type} {c : List ty3.den → List ty3.den → List UInt8 → Int → Option (Bool)} (hs : Sp3 c) : EOk 3 (e3 (R := R) c) := fun args objs k r h => by
  unfold e3 at h
  obtain ⟨a0, l0, rfl, q1⟩ := oCons_some h
  obtain ⟨x0, rfl, q2⟩ := oC_some q1
  obtain ⟨p0, rfl, q3⟩ := cList_some q2
  obtain ⟨a1, l1, rfl, q4⟩ := oCons_some q3
  obtain ⟨x1, rfl, q5⟩ := oC_some q4
  obtain ⟨p1, rfl, q6⟩ := cList_some q5
  obtain ⟨a2, l2, rfl, q7⟩ := oCons_some q6
  obtain ⟨x2, rfl, q8⟩ := oC_some q7
  obtain ⟨p2, rfl, q9⟩ := cStr_some q8
  obtain ⟨a3, l3, rfl, q10⟩ := oCons_some q9
  obtain ⟨x3, rfl, q11⟩ := oC_some q10
  obtain ⟨p3, rfl, q12⟩ := cInt_some q11
  obtain ⟨rfl, q13⟩ := oNil_some q12
  obtain ⟨rfl, q14⟩ := oNilO_some q13
  exact eok_of (hs p0 p1 p2 p3) q14
theorem sf3 {c6 : Option (Bool)} {c7 : List ty3.den → List ty3.den → List UInt8 → Int → Option ((List UInt8))} {c8 : List UInt8 → Option (Int × Int × (List ty30.den))} (h6 : Sp6 c6) (h7 : Sp7 c7) (h8 : Sp8 c8) : Sp3 (F3 c6 c7 c8) := fun p0 p1 p2 p3 y hy => by
  refine spec_of (G := ent 6 (e6 c6) (ent 7 (e7 c7) (ent 8 (e8 c8) (gnil)))) (ent_ok (ek6 h6) (ent_ok (ek7 h7) (ent_ok (ek8 h8) (gnil_ok)))) 1000000 (fn := Tryd.f3) (by kernel_rfl) (by kernel_rfl) (X := X3) (by kernel_rfl) ?_
  rw [fo3, hy]
  rfl
noncomputable def M3 : List ty3.den → List ty3.den → List UInt8 → Int → Option (Bool) := F3 M6 M7 M8
theorem sm3 : Sp3 M3 := sf3 sm6 sm7 sm8

/-! ### 11: lariat/lariatref7.IsWord -/
def X11 : Aux := ⟨[(2, [1, 2, 4, 5, 6, 7, 8, 9, 10, 11, 12, 13, 14, 15, 16, 17, 18, 19, 20, 21, 22, 23, 24, 25, 26, 27, 28, 29, 30, 31, 32, 33])], []⟩
inductive S11 where
  | l0 (v0_1 : Int)
def T11 {R : Type} (B : Ops) (c32 : Int → Option (Bool)) (c31 : Int → Option (Bool)) (p0 : List UInt8) (again : S11 → Option R) (k : (Bool) → Option R) : Option S11 → Option R
  | none =>
    again (.l0 0)
  | some (.l0 v0_1) =>
    cond (Ops.lt B v0_1 (Nat.cast (List.length p0)))
     (
      cond (Ops.inb B v0_1 (List.length p0))
       (
        ob (c32 (Nat.cast (UInt8.toNat (List.getD p0 (Int.toNat v0_1) (0))))) fun y0 =>
        cond (!y0)
         (
          cond (Ops.eq B v0_1 (0))
           (
            k false)
           (
            cond (Ops.inb B v0_1 (List.length p0))
             (
              ob (c31 (Nat.cast (UInt8.toNat (List.getD p0 (Int.toNat v0_1) (0))))) fun y1 =>
              cond (!y1)
               (
                k false)
               (
                again (.l0 (IntKind.wrap IntKind.i64 (v0_1 + 1)))))
             (
              none)))
         (
          again (.l0 (IntKind.wrap IntKind.i64 (v0_1 + 1)))))
       (
        none))
     (
      cond (Ops.le B (1) (Nat.cast (List.length p0)))
       (
        k (Ops.le B (Nat.cast (List.length p0)) (8)))
       (
        k false))
def E11 (p0 : List UInt8) : S11 → List AV × Objs
  | .l0 v0_1 => (mk 34 [(0, .c (.str p0)), (3, .c (.int .i64 v0_1))], [])
def I11 : S11 → Nat
  | .l0 _ => 0
theorem eq11 {R : Type} (B : Ops) (c32 : Int → Option (Bool)) (c31 : Int → Option (Bool)) (p0 : List UInt8) (k : AV → Objs → Option R) (n : Nat) : afun tau B gl0 X11 (ent 32 (e32 c32) (ent 31 (e31 c31) (gnil))) ow Tryd.f11 [.c (.str p0)] [] k n = T11 B c32 c31 p0 (fun s => aloop tau B gl0 X11 (ent 32 (e32 c32) (ent 31 (e31 c31) (gnil))) ow [] Tryd.f11 k (I11 s) (E11 p0 s) n) (fun y => k (.c (.bool y)) []) none := by kernel_rfl
theorem el11 {R : Type} (B : Ops) (c32 : Int → Option (Bool)) (c31 : Int → Option (Bool)) (p0 : List UInt8) (k : AV → Objs → Option R) (n : Nat) : ∀ s, aloop tau B gl0 X11 (ent 32 (e32 c32) (ent 31 (e31 c31) (gnil))) ow [] Tryd.f11 k (I11 s) (E11 p0 s) (n + 1) = T11 B c32 c31 p0 (fun s => aloop tau B gl0 X11 (ent 32 (e32 c32) (ent 31 (e31 c31) (gnil))) ow [] Tryd.f11 k (I11 s) (E11 p0 s) n) (fun y => k (.c (.bool y)) []) (some s)
  | .l0 v0_1 => by kernel_rfl
theorem nt11 {R R' : Type} (B : Ops) (c32 : Int → Option (Bool)) (c31 : Int → Option (Bool)) (p0 : List UInt8) (again : S11 → Option R) (again' : S11 → Option R') (k0 : (Bool) → Option R') (k : R' → Option R) (h : ∀ s, again s = ob (again' s) k) : ∀ s, T11 B c32 c31 p0 again (fun y => ob (k0 y) k) s = ob (T11 B c32 c31 p0 again' k0 s) k
  | none => by unfold T11; repeat' first | exact rfl | exact h _ | apply nat_cond | (apply nat_ob; intro)
  | some (.l0 v0_1) => by unfold T11; repeat' first | exact rfl | exact h _ | apply nat_cond | (apply nat_ob; intro)
def R11 (c32 : Int → Option (Bool)) (c31 : Int → Option (Bool)) (p0 : List UInt8) : Nat → S11 → Option (Bool)
  | 0, _ => none
  | n + 1, s => T11 Ops.std c32 c31 p0 (R11 c32 c31 p0 n) some (some s)
theorem rr11 {R : Type} (c32 : Int → Option (Bool)) (c31 : Int → Option (Bool)) (p0 : List UInt8) (k : AV → Objs → Option R) : ∀ (n : Nat) (s : S11), aloop tau Ops.std gl0 X11 (ent 32 (e32 c32) (ent 31 (e31 c31) (gnil))) ow [] Tryd.f11 k (I11 s) (E11 p0 s) n = ob (R11 c32 c31 p0 n s) (fun y => k (.c (.bool y)) [])
  | 0, s => by cases s <;> rfl
  | n + 1, s => by rw [el11]; exact nt11 Ops.std c32 c31 p0 _ _ some (fun y => k (.c (.bool y)) []) (rr11 c32 c31 p0 k n) (some s)
def F11 (c32 : Int → Option (Bool)) (c31 : Int → Option (Bool)) (p0 : List UInt8) : Option (Bool) := T11 Ops.std c32 c31 p0 (R11 c32 c31 p0 10000000000000000000) some none
theorem fo11 {R : Type} (c32 : Int → Option (Bool)) (c31 : Int → Option (Bool)) (p0 : List UInt8) (k : AV → Objs → Option R) : afun tau Ops.std gl0 X11 (ent 32 (e32 c32) (ent 31 (e31 c31) (gnil))) ow Tryd.f11 [.c (.str p0)] [] k 10000000000000000000 = ob (F11 c32 c31 p0) (fun y => k (.c (.bool y)) []) := by rw [eq11]; exact nt11 Ops.std c32 c31 p0 _ _ some (fun y => k (.c (.bool y)) []) (rr11 c32 c31 p0 k 10000000000000000000) none
def e11 {R : Type} (c : List UInt8 → Option (Bool)) : Ent R := fun args objs k =>
  oCons args fun a0 l0 => oC a0 fun x0 => cStr x0 fun p0 => oNil l0 <| oNilO objs <| ob (c p0) fun y => k (.c (.bool y)) []
abbrev Sp11 (c : List UInt8 → Option (Bool)) : Prop := ∀ (p0 : List UInt8) (y : Bool), c p0 = some y → Spec Tryd.prog gl0 11 [.c (.str p0)] [] (.c (.bool y)) []
theorem ek11 {R : Type} {c : List UInt8 → Option (Bool)} (hs : Sp11 c) : EOk 11 (e11 (R := R) c) := fun args objs k r h => by
  unfold e11 at h
  obtain ⟨a0, l0, rfl, q1⟩ := oCons_some h
  obtain ⟨x0, rfl, q2⟩ := oC_some q1
  obtain ⟨p0, rfl, q3⟩ := cStr_some q2
  obtain ⟨rfl, q4⟩ := oNil_some q3
  obtain ⟨rfl, q5⟩ := oNilO_some q4
  exact eok_of (hs p0) q5
theorem sf11 {c32 : Int → Option (Bool)} {c31 : Int → Option (Bool)} (h32 : Sp32 c32) (h31 : Sp31 c31) : Sp11 (F11 c32 c31) := fun p0 y hy => by
  refine spec_of (G := ent 32 (e32 c32) (ent 31 (e31 c31) (gnil))) (ent_ok (ek32 h32) (ent_ok (ek31 h31) (gnil_ok))) 10000000000000000000 (fn := Tryd.f11) (by kernel_rfl) (by kernel_rfl) (X := X11) (by kernel_rfl) ?_
  rw [fo11, hy]
  rfl
noncomputable def M11 : List UInt8 → Option (Bool) := F11 M32 M31
theorem sm11 : Sp11 M11 := sf11 sm32 sm31
end Go.Proofs.YtfdlgmbbflmbgaaDoor.Av
