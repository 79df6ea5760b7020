/- Twins of functions, printed by gen.py. Conditions: none. -/
import Derived.Test.YtfdlgmbbflmbgaaCl1
import Derived.KernelRfl
set_option linter.unusedVariables false
set_option maxRecDepth 100000
set_option maxHeartbeats 8000000
namespace Go.Proofs.Ytfdlgmbbflmbgaa.Av
open Go

/-! ### 57: lariat/lex.digit -/
def X57 : Aux := ⟨[], []⟩
def T57 {R : Type} (B : Ops) (p0 : Int) (k : (Bool) → Option R) : Option R :=
  cond (Ops.le B (48) p0)
   (
    k (Ops.le B p0 (57)))
   (
    k false)
theorem eq57 {R : Type} (B : Ops) (p0 : Int) (k : AV → Objs → Option R) (n : Nat) : afun tau B gl0 X57 (gnil) ow Try.f57 [.c (.int .u8 p0)] [] k n = T57 B p0 (fun y => k (.c (.bool y)) []) := by kernel_rfl
theorem nt57 {R R' : Type} (B : Ops) (p0 : Int) (k0 : (Bool) → Option R') (k : R' → Option R) : T57 B p0 (fun y => ob (k0 y) k) = ob (T57 B p0 k0) k := by
  unfold T57
  repeat' first | exact rfl | apply nat_cond | (apply nat_ob; intro)
def F57 (p0 : Int) : Option (Bool) := T57 Ops.std p0 some
theorem fo57 {R : Type} (p0 : Int) (k : AV → Objs → Option R) (n : Nat) : afun tau Ops.std gl0 X57 (gnil) ow Try.f57 [.c (.int .u8 p0)] [] k n = ob (F57 p0) (fun y => k (.c (.bool y)) []) := by rw [eq57]; exact nt57 Ops.std p0 some (fun y => k (.c (.bool y)) [])
def e57 {R : Type} (c : Int → Option (Bool)) : Ent R := fun args objs k =>
  oCons args fun a0 l0 => oC a0 fun x0 => cInt .u8 x0 fun p0 => oNil l0 <| oNilO objs <| ob (c p0) fun y => k (.c (.bool y)) []
abbrev Sp57 (c : Int → Option (Bool)) : Prop := ∀ (p0 : Int) (y : Bool), c p0 = some y → Spec Try.prog gl0 57 [.c (.int .u8 p0)] [] (.c (.bool y)) []
theorem ek57 {R : Type} {c : Int → Option (Bool)} (hs : Sp57 c) : EOk 57 (e57 (R := R) c) := fun args objs k r h => by
  unfold e57 at h
  obtain ⟨a0, l0, rfl, q1⟩ := oCons_some h
  obtain ⟨x0, rfl, q2⟩ := oC_some q1
  obtain ⟨p0, rfl, q3⟩ := cInt_some q2
  obtain ⟨rfl, q4⟩ := oNil_some q3
  obtain ⟨rfl, q5⟩ := oNilO_some q4
  exact eok_of (hs p0) q5
theorem sf57 : Sp57 (F57) := fun p0 y hy => by
  refine spec_of (G := gnil) (gnil_ok) 1000000 (fn := Try.f57) (by kernel_rfl) (by kernel_rfl) (X := X57) (by kernel_rfl) ?_
  rw [fo57, hy]
  rfl
noncomputable def M57 : Int → Option (Bool) := F57
theorem sm57 : Sp57 M57 := sf57

/-! ### 39: lariat/lex.begins -/
def X39 : Aux := ⟨[], []⟩
def T39 {R : Type} (B : Ops) (p0 : Int) (k : (Bool) → Option R) : Option R :=
  cond (Ops.le B (97) p0)
   (
    cond (Ops.le B p0 (122))
     (
      k true)
     (
      k (Ops.eq B p0 (95))))
   (
    k (Ops.eq B p0 (95)))
theorem eq39 {R : Type} (B : Ops) (p0 : Int) (k : AV → Objs → Option R) (n : Nat) : afun tau B gl0 X39 (gnil) ow Try.f39 [.c (.int .u8 p0)] [] k n = T39 B p0 (fun y => k (.c (.bool y)) []) := by kernel_rfl
theorem nt39 {R R' : Type} (B : Ops) (p0 : Int) (k0 : (Bool) → Option R') (k : R' → Option R) : T39 B p0 (fun y => ob (k0 y) k) = ob (T39 B p0 k0) k := by
  unfold T39
  repeat' first | exact rfl | apply nat_cond | (apply nat_ob; intro)
def F39 (p0 : Int) : Option (Bool) := T39 Ops.std p0 some
theorem fo39 {R : Type} (p0 : Int) (k : AV → Objs → Option R) (n : Nat) : afun tau Ops.std gl0 X39 (gnil) ow Try.f39 [.c (.int .u8 p0)] [] k n = ob (F39 p0) (fun y => k (.c (.bool y)) []) := by rw [eq39]; exact nt39 Ops.std p0 some (fun y => k (.c (.bool y)) [])
def e39 {R : Type} (c : Int → Option (Bool)) : Ent R := fun args objs k =>
  oCons args fun a0 l0 => oC a0 fun x0 => cInt .u8 x0 fun p0 => oNil l0 <| oNilO objs <| ob (c p0) fun y => k (.c (.bool y)) []
abbrev Sp39 (c : Int → Option (Bool)) : Prop := ∀ (p0 : Int) (y : Bool), c p0 = some y → Spec Try.prog gl0 39 [.c (.int .u8 p0)] [] (.c (.bool y)) []
theorem ek39 {R : Type} {c : Int → Option (Bool)} (hs : Sp39 c) : EOk 39 (e39 (R := R) c) := fun args objs k r h => by
  unfold e39 at h
  obtain ⟨a0, l0, rfl, q1⟩ := oCons_some h
  obtain ⟨x0, rfl, q2⟩ := oC_some q1
  obtain ⟨p0, rfl, q3⟩ := cInt_some q2
  obtain ⟨rfl, q4⟩ := oNil_some q3
  obtain ⟨rfl, q5⟩ := oNilO_some q4
  exact eok_of (hs p0) q5
theorem sf39 : Sp39 (F39) := fun p0 y hy => by
  refine spec_of (G := gnil) (gnil_ok) 1000000 (fn := Try.f39) (by kernel_rfl) (by kernel_rfl) (X := X39) (by kernel_rfl) ?_
  rw [fo39, hy]
  rfl
noncomputable def M39 : Int → Option (Bool) := F39
theorem sm39 : Sp39 M39 := sf39

/-! ### 41: lariat/lex.within -/
def X41 : Aux := ⟨[], []⟩
def T41 {R : Type} (B : Ops) (c39 : Int → Option (Bool)) (c57 : Int → Option (Bool)) (p0 : Int) (k : (Bool) → Option R) : Option R :=
  ob (c39 p0) fun y0 =>
  cond (y0)
   (
    k true)
   (
    ob (c57 p0) fun y1 =>
    k y1)
theorem eq41 {R : Type} (B : Ops) (c39 : Int → Option (Bool)) (c57 : Int → Option (Bool)) (p0 : Int) (k : AV → Objs → Option R) (n : Nat) : afun tau B gl0 X41 (ent 39 (e39 c39) (ent 57 (e57 c57) (gnil))) ow Try.f41 [.c (.int .u8 p0)] [] k n = T41 B c39 c57 p0 (fun y => k (.c (.bool y)) []) := by kernel_rfl
theorem nt41 {R R' : Type} (B : Ops) (c39 : Int → Option (Bool)) (c57 : Int → Option (Bool)) (p0 : Int) (k0 : (Bool) → Option R') (k : R' → Option R) : T41 B c39 c57 p0 (fun y => ob (k0 y) k) = ob (T41 B c39 c57 p0 k0) k := by
  unfold T41
  repeat' first | exact rfl | apply nat_cond | (apply nat_ob; intro)
def F41 (c39 : Int → Option (Bool)) (c57 : Int → Option (Bool)) (p0 : Int) : Option (Bool) := T41 Ops.std c39 c57 p0 some
theorem fo41 {R : Type} (c39 : Int → Option (Bool)) (c57 : Int → Option (Bool)) (p0 : Int) (k : AV → Objs → Option R) (n : Nat) : afun tau Ops.std gl0 X41 (ent 39 (e39 c39) (ent 57 (e57 c57) (gnil))) ow Try.f41 [.c (.int .u8 p0)] [] k n = ob (F41 c39 c57 p0) (fun y => k (.c (.bool y)) []) := by rw [eq41]; exact nt41 Ops.std c39 c57 p0 some (fun y => k (.c (.bool y)) [])
def e41 {R : Type} (c : Int → Option (Bool)) : Ent R := fun args objs k =>
  oCons args fun a0 l0 => oC a0 fun x0 => cInt .u8 x0 fun p0 => oNil l0 <| oNilO objs <| ob (c p0) fun y => k (.c (.bool y)) []
abbrev Sp41 (c : Int → Option (Bool)) : Prop := ∀ (p0 : Int) (y : Bool), c p0 = some y → Spec Try.prog gl0 41 [.c (.int .u8 p0)] [] (.c (.bool y)) []
theorem ek41 {R : Type} {c : Int → Option (Bool)} (hs : Sp41 c) : EOk 41 (e41 (R := R) c) := fun args objs k r h => by
  unfold e41 at h
  obtain ⟨a0, l0, rfl, q1⟩ := oCons_some h
  obtain ⟨x0, rfl, q2⟩ := oC_some q1
  obtain ⟨p0, rfl, q3⟩ := cInt_some q2
  obtain ⟨rfl, q4⟩ := oNil_some q3
  obtain ⟨rfl, q5⟩ := oNilO_some q4
  exact eok_of (hs p0) q5
theorem sf41 {c39 : Int → Option (Bool)} {c57 : Int → Option (Bool)} (h39 : Sp39 c39) (h57 : Sp57 c57) : Sp41 (F41 c39 c57) := fun p0 y hy => by
  refine spec_of (G := ent 39 (e39 c39) (ent 57 (e57 c57) (gnil))) (ent_ok (ek39 h39) (ent_ok (ek57 h57) (gnil_ok))) 1000000 (fn := Try.f41) (by kernel_rfl) (by kernel_rfl) (X := X41) (by kernel_rfl) ?_
  rw [fo41, hy]
  rfl
noncomputable def M41 : Int → Option (Bool) := F41 M39 M57
theorem sm41 : Sp41 M41 := sf41 sm39 sm57

/-! ### 40: lariat/lex.run -/
def X40 : Aux := ⟨[(2, [2, 3, 6, 7, 8, 9, 10, 11, 12, 13, 14, 15, 16, 17, 18])], []⟩
inductive S40 where
  | l0 (v0_2 : Int)
def T40 {R : Type} (B : Ops) (c41 : Int → Option (Bool)) (p0 : List UInt8) (again : S40 → Option R) (k : ((List UInt8)) → Option R) : Option S40 → Option R
  | none =>
    again (.l0 0)
  | some (.l0 v0_2) =>
    cond (Ops.lt B v0_2 (Nat.cast (List.length p0)))
     (
      cond (Ops.inb B v0_2 (List.length p0))
       (
        ob (c41 (Nat.cast (UInt8.toNat (List.getD p0 (Int.toNat v0_2) (0))))) fun y0 =>
        cond (y0)
         (
          again (.l0 (IntKind.wrap IntKind.i64 (v0_2 + 1))))
         (
          cond (Ops.inb B v0_2 (List.length p0 + 1))
           (
            k (List.drop (0) (List.take (Int.toNat v0_2) p0)))
           (
            none)))
       (
        none))
     (
      cond (Ops.inb B v0_2 (List.length p0 + 1))
       (
        k (List.drop (0) (List.take (Int.toNat v0_2) p0)))
       (
        none))
def E40 (p0 : List UInt8) : S40 → List AV × Objs
  | .l0 v0_2 => (mk 22 [(0, .c (.str p0)), (1, .fn 41 []), (4, .c (.str [])), (5, .c (.int .i64 v0_2))], [])
def I40 : S40 → Nat
  | .l0 _ => 0
theorem eq40 {R : Type} (B : Ops) (c41 : Int → Option (Bool)) (p0 : List UInt8) (k : AV → Objs → Option R) (n : Nat) : afun tau B gl0 X40 (ent 41 (e41 c41) (gnil)) ow Try.f40 [.c (.str p0), .fn 41 []] [] k n = T40 B c41 p0 (fun s => aloop tau B gl0 X40 (ent 41 (e41 c41) (gnil)) ow [] Try.f40 k (I40 s) (E40 p0 s) n) (fun y => k (.c (.str y)) []) none := by kernel_rfl
theorem el40 {R : Type} (B : Ops) (c41 : Int → Option (Bool)) (p0 : List UInt8) (k : AV → Objs → Option R) (n : Nat) : ∀ s, aloop tau B gl0 X40 (ent 41 (e41 c41) (gnil)) ow [] Try.f40 k (I40 s) (E40 p0 s) (n + 1) = T40 B c41 p0 (fun s => aloop tau B gl0 X40 (ent 41 (e41 c41) (gnil)) ow [] Try.f40 k (I40 s) (E40 p0 s) n) (fun y => k (.c (.str y)) []) (some s)
  | .l0 v0_2 => by kernel_rfl
theorem nt40 {R R' : Type} (B : Ops) (c41 : Int → Option (Bool)) (p0 : List UInt8) (again : S40 → Option R) (again' : S40 → Option R') (k0 : ((List UInt8)) → Option R') (k : R' → Option R) (h : ∀ s, again s = ob (again' s) k) : ∀ s, T40 B c41 p0 again (fun y => ob (k0 y) k) s = ob (T40 B c41 p0 again' k0 s) k
  | none => by unfold T40; repeat' first | exact rfl | exact h _ | apply nat_cond | (apply nat_ob; intro)
  | some (.l0 v0_2) => by unfold T40; repeat' first | exact rfl | exact h _ | apply nat_cond | (apply nat_ob; intro)
def R40 (c41 : Int → Option (Bool)) (p0 : List UInt8) : Nat → S40 → Option ((List UInt8))
  | 0, _ => none
  | n + 1, s => T40 Ops.std c41 p0 (R40 c41 p0 n) some (some s)
theorem rr40 {R : Type} (c41 : Int → Option (Bool)) (p0 : List UInt8) (k : AV → Objs → Option R) : ∀ (n : Nat) (s : S40), aloop tau Ops.std gl0 X40 (ent 41 (e41 c41) (gnil)) ow [] Try.f40 k (I40 s) (E40 p0 s) n = ob (R40 c41 p0 n s) (fun y => k (.c (.str y)) [])
  | 0, s => by cases s <;> rfl
  | n + 1, s => by rw [el40]; exact nt40 Ops.std c41 p0 _ _ some (fun y => k (.c (.str y)) []) (rr40 c41 p0 k n) (some s)
def F40 (c41 : Int → Option (Bool)) (p0 : List UInt8) : Option ((List UInt8)) := T40 Ops.std c41 p0 (R40 c41 p0 1000000) some none
theorem fo40 {R : Type} (c41 : Int → Option (Bool)) (p0 : List UInt8) (k : AV → Objs → Option R) : afun tau Ops.std gl0 X40 (ent 41 (e41 c41) (gnil)) ow Try.f40 [.c (.str p0), .fn 41 []] [] k 1000000 = ob (F40 c41 p0) (fun y => k (.c (.str y)) []) := by rw [eq40]; exact nt40 Ops.std c41 p0 _ _ some (fun y => k (.c (.str y)) []) (rr40 c41 p0 k 1000000) none
def e40 {R : Type} (c : List UInt8 → Option ((List UInt8))) : Ent R := fun args objs k =>
  oCons args fun a0 l0 => oC a0 fun x0 => cStr x0 fun p0 => oCons l0 fun a1 l1 => oFn 41 a1 <| oNil l1 <| oNilO objs <| ob (c p0) fun y => k (.c (.str y)) []
abbrev Sp40 (c : List UInt8 → Option ((List UInt8))) : Prop := ∀ (p0 : List UInt8) (y : (List UInt8)), c p0 = some y → Spec Try.prog gl0 40 [.c (.str p0), .fn 41 []] [] (.c (.str y)) []
theorem ek40 {R : Type} {c : List UInt8 → Option ((List UInt8))} (hs : Sp40 c) : EOk 40 (e40 (R := R) c) := fun args objs k r h => by
  unfold e40 at h
  obtain ⟨a0, l0, rfl, q1⟩ := oCons_some h
  obtain ⟨x0, rfl, q2⟩ := oC_some q1
  obtain ⟨p0, rfl, q3⟩ := cStr_some q2
  obtain ⟨a1, l1, rfl, q4⟩ := oCons_some q3
  obtain ⟨rfl, q5⟩ := oFn_some q4
  obtain ⟨rfl, q6⟩ := oNil_some q5
  obtain ⟨rfl, q7⟩ := oNilO_some q6
  exact eok_of (hs p0) q7
theorem sf40 {c41 : Int → Option (Bool)} (h41 : Sp41 c41) : Sp40 (F40 c41) := fun p0 y hy => by
  refine spec_of (G := ent 41 (e41 c41) (gnil)) (ent_ok (ek41 h41) (gnil_ok)) 1000000 (fn := Try.f40) (by kernel_rfl) (by kernel_rfl) (X := X40) (by kernel_rfl) ?_
  rw [fo40, hy]
  rfl
noncomputable def M40 : List UInt8 → Option ((List UInt8)) := F40 M41
theorem sm40 : Sp40 M40 := sf40 sm41

/-! ### 12: lariat/lariathand.Pick -/
def X12 : Aux := ⟨[], []⟩
def T12 {R : Type} (B : Ops) (p0 : Int) (p1 : Int) (k : (Int) → Option R) : Option R :=
  cond (Ops.eq B p1 (0))
   (
    none)
   (
    cond (Ops.lt B (Int.tmod p0 p1) (0))
     (
      k (IntKind.wrap IntKind.i64 (Int.tmod p0 p1 + p1)))
     (
      k (Int.tmod p0 p1)))
theorem eq12 {R : Type} (B : Ops) (p0 : Int) (p1 : Int) (k : AV → Objs → Option R) (n : Nat) : afun tau B gl0 X12 (gnil) ow Try.f12 [.c (.int .i64 p0), .c (.int .i64 p1)] [] k n = T12 B p0 p1 (fun y => k (.c (.int .i64 y)) []) := by kernel_rfl
theorem nt12 {R R' : Type} (B : Ops) (p0 : Int) (p1 : Int) (k0 : (Int) → Option R') (k : R' → Option R) : T12 B p0 p1 (fun y => ob (k0 y) k) = ob (T12 B p0 p1 k0) k := by
  unfold T12
  repeat' first | exact rfl | apply nat_cond | (apply nat_ob; intro)
def F12 (p0 : Int) (p1 : Int) : Option (Int) := T12 Ops.std p0 p1 some
theorem fo12 {R : Type} (p0 : Int) (p1 : Int) (k : AV → Objs → Option R) (n : Nat) : afun tau Ops.std gl0 X12 (gnil) ow Try.f12 [.c (.int .i64 p0), .c (.int .i64 p1)] [] k n = ob (F12 p0 p1) (fun y => k (.c (.int .i64 y)) []) := by rw [eq12]; exact nt12 Ops.std p0 p1 some (fun y => k (.c (.int .i64 y)) [])
def e12 {R : Type} (c : Int → Int → Option (Int)) : Ent R := fun args objs k =>
  oCons args fun a0 l0 => oC a0 fun x0 => cInt .i64 x0 fun p0 => oCons l0 fun a1 l1 => oC a1 fun x1 => cInt .i64 x1 fun p1 => oNil l1 <| oNilO objs <| ob (c p0 p1) fun y => k (.c (.int .i64 y)) []
abbrev Sp12 (c : Int → Int → Option (Int)) : Prop := ∀ (p0 : Int) (p1 : Int) (y : Int), c p0 p1 = some y → Spec Try.prog gl0 12 [.c (.int .i64 p0), .c (.int .i64 p1)] [] (.c (.int .i64 y)) []
theorem ek12 {R : Type} {c : Int → Int → Option (Int)} (hs : Sp12 c) : EOk 12 (e12 (R := R) c) := fun args objs k r h => by
  unfold e12 at h
  obtain ⟨a0, l0, rfl, q1⟩ := oCons_some h
  obtain ⟨x0, rfl, q2⟩ := oC_some q1
  obtain ⟨p0, rfl, q3⟩ := cInt_some q2
  obtain ⟨a1, l1, rfl, q4⟩ := oCons_some q3
  obtain ⟨x1, rfl, q5⟩ := oC_some q4
  obtain ⟨p1, rfl, q6⟩ := cInt_some q5
  obtain ⟨rfl, q7⟩ := oNil_some q6
  obtain ⟨rfl, q8⟩ := oNilO_some q7
  exact eok_of (hs p0 p1) q8
theorem sf12 : Sp12 (F12) := fun p0 p1 y hy => by
  refine spec_of (G := gnil) (gnil_ok) 1000000 (fn := Try.f12) (by kernel_rfl) (by kernel_rfl) (X := X12) (by kernel_rfl) ?_
  rw [fo12, hy]
  rfl
noncomputable def M12 : Int → Int → Option (Int) := F12
theorem sm12 : Sp12 M12 := sf12

/-! ### 56: slices.Index[[]byte,byte] -/
def X56 : Aux := ⟨[(2, [2, 3, 4, 5, 6, 9, 10, 11, 12, 13, 14, 15, 16, 17, 18])], []⟩
inductive S56 where
  | l0 (v0_2 : Int) (v0_3 : Int)
def T56 {R : Type} (B : Ops) (p0 : List ty5.den) (p1 : Int) (again : S56 → Option R) (k : (Int) → Option R) : Option S56 → Option R
  | none =>
    again (.l0 (Nat.cast (List.length p0)) 0)
  | some (.l0 v0_2 v0_3) =>
    cond (Ops.lt B v0_3 v0_2)
     (
      cond (Ops.inb B v0_3 (List.length p0))
       (
        cond (Ops.eq B p1 (List.getD p0 (Int.toNat v0_3) (Ty.dflt ty5)))
         (
          k v0_3)
         (
          again (.l0 v0_2 (IntKind.wrap IntKind.i64 (v0_3 + 1)))))
       (
        none))
     (
      k (-1))
def E56 (p0 : List ty5.den) (p1 : Int) : S56 → List AV × Objs
  | .l0 v0_2 v0_3 => (mk 19 [(0, .c (.list 5 ty5 p0)), (1, .c (.int .u8 p1)), (7, .c (.int .i64 v0_2)), (8, .c (.int .i64 v0_3))], [])
def I56 : S56 → Nat
  | .l0 _ _ => 0
theorem eq56 {R : Type} (B : Ops) (p0 : List ty5.den) (p1 : Int) (k : AV → Objs → Option R) (n : Nat) : afun tau B gl0 X56 (gnil) ow Try.f56 [.c (.list 5 ty5 p0), .c (.int .u8 p1)] [] k n = T56 B p0 p1 (fun s => aloop tau B gl0 X56 (gnil) ow [] Try.f56 k (I56 s) (E56 p0 p1 s) n) (fun y => k (.c (.int .i64 y)) []) none := by kernel_rfl
theorem el56 {R : Type} (B : Ops) (p0 : List ty5.den) (p1 : Int) (k : AV → Objs → Option R) (n : Nat) : ∀ s, aloop tau B gl0 X56 (gnil) ow [] Try.f56 k (I56 s) (E56 p0 p1 s) (n + 1) = T56 B p0 p1 (fun s => aloop tau B gl0 X56 (gnil) ow [] Try.f56 k (I56 s) (E56 p0 p1 s) n) (fun y => k (.c (.int .i64 y)) []) (some s)
  | .l0 v0_2 v0_3 => by kernel_rfl
theorem nt56 {R R' : Type} (B : Ops) (p0 : List ty5.den) (p1 : Int) (again : S56 → Option R) (again' : S56 → Option R') (k0 : (Int) → Option R') (k : R' → Option R) (h : ∀ s, again s = ob (again' s) k) : ∀ s, T56 B p0 p1 again (fun y => ob (k0 y) k) s = ob (T56 B p0 p1 again' k0 s) k
  | none => by unfold T56; repeat' first | exact rfl | exact h _ | apply nat_cond | (apply nat_ob; intro)
  | some (.l0 v0_2 v0_3) => by unfold T56; repeat' first | exact rfl | exact h _ | apply nat_cond | (apply nat_ob; intro)
def R56 (p0 : List ty5.den) (p1 : Int) : Nat → S56 → Option (Int)
  | 0, _ => none
  | n + 1, s => T56 Ops.std p0 p1 (R56 p0 p1 n) some (some s)
theorem rr56 {R : Type} (p0 : List ty5.den) (p1 : Int) (k : AV → Objs → Option R) : ∀ (n : Nat) (s : S56), aloop tau Ops.std gl0 X56 (gnil) ow [] Try.f56 k (I56 s) (E56 p0 p1 s) n = ob (R56 p0 p1 n s) (fun y => k (.c (.int .i64 y)) [])
  | 0, s => by cases s <;> rfl
  | n + 1, s => by rw [el56]; exact nt56 Ops.std p0 p1 _ _ some (fun y => k (.c (.int .i64 y)) []) (rr56 p0 p1 k n) (some s)
def F56 (p0 : List ty5.den) (p1 : Int) : Option (Int) := T56 Ops.std p0 p1 (R56 p0 p1 1000000) some none
theorem fo56 {R : Type} (p0 : List ty5.den) (p1 : Int) (k : AV → Objs → Option R) : afun tau Ops.std gl0 X56 (gnil) ow Try.f56 [.c (.list 5 ty5 p0), .c (.int .u8 p1)] [] k 1000000 = ob (F56 p0 p1) (fun y => k (.c (.int .i64 y)) []) := by rw [eq56]; exact nt56 Ops.std p0 p1 _ _ some (fun y => k (.c (.int .i64 y)) []) (rr56 p0 p1 k 1000000) none
def e56 {R : Type} (c : List ty5.den → Int → Option (Int)) : Ent R := fun args objs k =>
  oCons args fun a0 l0 => oC a0 fun x0 => cList 5 ty5 x0 fun p0 => oCons l0 fun a1 l1 => oC a1 fun x1 => cInt .u8 x1 fun p1 => oNil l1 <| oNilO objs <| ob (c p0 p1) fun y => k (.c (.int .i64 y)) []
abbrev Sp56 (c : List ty5.den → Int → Option (Int)) : Prop := ∀ (p0 : List ty5.den) (p1 : Int) (y : Int), c p0 p1 = some y → Spec Try.prog gl0 56 [.c (.list 5 ty5 p0), .c (.int .u8 p1)] [] (.c (.int .i64 y)) []
theorem ek56 {R : Type} {c : List ty5.den → Int → Option (Int)} (hs : Sp56 c) : EOk 56 (e56 (R := R) c) := fun args objs k r h => by
  unfold e56 at h
  obtain ⟨a0, l0, rfl, q1⟩ := oCons_some h
  obtain ⟨x0, rfl, q2⟩ := oC_some q1
  obtain ⟨p0, rfl, q3⟩ := cList_some q2
  obtain ⟨a1, l1, rfl, q4⟩ := oCons_some q3
  obtain ⟨x1, rfl, q5⟩ := oC_some q4
  obtain ⟨p1, rfl, q6⟩ := cInt_some q5
  obtain ⟨rfl, q7⟩ := oNil_some q6
  obtain ⟨rfl, q8⟩ := oNilO_some q7
  exact eok_of (hs p0 p1) q8
theorem sf56 : Sp56 (F56) := fun p0 p1 y hy => by
  refine spec_of (G := gnil) (gnil_ok) 1000000 (fn := Try.f56) (by kernel_rfl) (by kernel_rfl) (X := X56) (by kernel_rfl) ?_
  rw [fo56, hy]
  rfl
noncomputable def M56 : List ty5.den → Int → Option (Int) := F56
theorem sm56 : Sp56 M56 := sf56

/-! ### 37: slices.Contains[[]byte,byte] -/
def X37 : Aux := ⟨[], []⟩
def T37 {R : Type} (B : Ops) (c56 : List ty5.den → Int → Option (Int)) (p0 : List ty5.den) (p1 : Int) (k : (Bool) → Option R) : Option R :=
  ob (c56 p0 p1) fun y0 =>
  k (Ops.le B (0) y0)
theorem eq37 {R : Type} (B : Ops) (c56 : List ty5.den → Int → Option (Int)) (p0 : List ty5.den) (p1 : Int) (k : AV → Objs → Option R) (n : Nat) : afun tau B gl0 X37 (ent 56 (e56 c56) (gnil)) ow Try.f37 [.c (.list 5 ty5 p0), .c (.int .u8 p1)] [] k n = T37 B c56 p0 p1 (fun y => k (.c (.bool y)) []) := by kernel_rfl
theorem nt37 {R R' : Type} (B : Ops) (c56 : List ty5.den → Int → Option (Int)) (p0 : List ty5.den) (p1 : Int) (k0 : (Bool) → Option R') (k : R' → Option R) : T37 B c56 p0 p1 (fun y => ob (k0 y) k) = ob (T37 B c56 p0 p1 k0) k := by
  unfold T37
  repeat' first | exact rfl | apply nat_cond | (apply nat_ob; intro)
def F37 (c56 : List ty5.den → Int → Option (Int)) (p0 : List ty5.den) (p1 : Int) : Option (Bool) := T37 Ops.std c56 p0 p1 some
theorem fo37 {R : Type} (c56 : List ty5.den → Int → Option (Int)) (p0 : List ty5.den) (p1 : Int) (k : AV → Objs → Option R) (n : Nat) : afun tau Ops.std gl0 X37 (ent 56 (e56 c56) (gnil)) ow Try.f37 [.c (.list 5 ty5 p0), .c (.int .u8 p1)] [] k n = ob (F37 c56 p0 p1) (fun y => k (.c (.bool y)) []) := by rw [eq37]; exact nt37 Ops.std c56 p0 p1 some (fun y => k (.c (.bool y)) [])
def e37 {R : Type} (c : List ty5.den → Int → Option (Bool)) : Ent R := fun args objs k =>
  oCons args fun a0 l0 => oC a0 fun x0 => cList 5 ty5 x0 fun p0 => oCons l0 fun a1 l1 => oC a1 fun x1 => cInt .u8 x1 fun p1 => oNil l1 <| oNilO objs <| ob (c p0 p1) fun y => k (.c (.bool y)) []
abbrev Sp37 (c : List ty5.den → Int → Option (Bool)) : Prop := ∀ (p0 : List ty5.den) (p1 : Int) (y : Bool), c p0 p1 = some y → Spec Try.prog gl0 37 [.c (.list 5 ty5 p0), .c (.int .u8 p1)] [] (.c (.bool y)) []
theorem ek37 {R : Type} {c : List ty5.den → Int → Option (Bool)} (hs : Sp37 c) : EOk 37 (e37 (R := R) c) := fun args objs k r h => by
  unfold e37 at h
  obtain ⟨a0, l0, rfl, q1⟩ := oCons_some h
  obtain ⟨x0, rfl, q2⟩ := oC_some q1
  obtain ⟨p0, rfl, q3⟩ := cList_some q2
  obtain ⟨a1, l1, rfl, q4⟩ := oCons_some q3
  obtain ⟨x1, rfl, q5⟩ := oC_some q4
  obtain ⟨p1, rfl, q6⟩ := cInt_some q5
  obtain ⟨rfl, q7⟩ := oNil_some q6
  obtain ⟨rfl, q8⟩ := oNilO_some q7
  exact eok_of (hs p0 p1) q8
theorem sf37 {c56 : List ty5.den → Int → Option (Int)} (h56 : Sp56 c56) : Sp37 (F37 c56) := fun p0 p1 y hy => by
  refine spec_of (G := ent 56 (e56 c56) (gnil)) (ent_ok (ek56 h56) (gnil_ok)) 1000000 (fn := Try.f37) (by kernel_rfl) (by kernel_rfl) (X := X37) (by kernel_rfl) ?_
  rw [fo37, hy]
  rfl
noncomputable def M37 : List ty5.den → Int → Option (Bool) := F37 M56
theorem sm37 : Sp37 M37 := sf37 sm56

/-! ### 59: lariat/lex.signs -/
def X59 : Aux := ⟨[], []⟩
def T59 {R : Type} (B : Ops) (k : ((List ty9.den)) → Option R) : Option R :=
  k (Array.toList (ByteArray.data { data := List.toArray (60 :: 61 :: mt UInt8) }) :: Array.toList (ByteArray.data { data := List.toArray (62 :: 61 :: mt UInt8) }) :: Array.toList (ByteArray.data { data := List.toArray (61 :: 61 :: mt UInt8) }) :: Array.toList (ByteArray.data { data := List.toArray (33 :: 61 :: mt UInt8) }) :: Array.toList (ByteArray.data { data := List.toArray (38 :: 38 :: mt UInt8) }) :: Array.toList (ByteArray.data { data := List.toArray (124 :: 124 :: mt UInt8) }) :: Array.toList (ByteArray.data { data := List.toArray (45 :: 62 :: mt UInt8) }) :: Array.toList (ByteArray.data { data := List.toArray (40 :: mt UInt8) }) :: Array.toList (ByteArray.data { data := List.toArray (41 :: mt UInt8) }) :: Array.toList (ByteArray.data { data := List.toArray (91 :: mt UInt8) }) :: Array.toList (ByteArray.data { data := List.toArray (93 :: mt UInt8) }) :: Array.toList (ByteArray.data { data := List.toArray (43 :: mt UInt8) }) :: Array.toList (ByteArray.data { data := List.toArray (45 :: mt UInt8) }) :: Array.toList (ByteArray.data { data := List.toArray (42 :: mt UInt8) }) :: Array.toList (ByteArray.data { data := List.toArray (60 :: mt UInt8) }) :: Array.toList (ByteArray.data { data := List.toArray (62 :: mt UInt8) }) :: Array.toList (ByteArray.data { data := List.toArray (33 :: mt UInt8) }) :: Array.toList (ByteArray.data { data := List.toArray (64 :: mt UInt8) }) :: Array.toList (ByteArray.data { data := List.toArray (59 :: mt UInt8) }) :: Array.toList (ByteArray.data { data := List.toArray (61 :: mt UInt8) }) :: mt (Ty.den Ty.str))
theorem eq59 {R : Type} (B : Ops) (k : AV → Objs → Option R) (n : Nat) : afun tau B gl0 X59 (gnil) ow Try.f59 [] [] k n = T59 B (fun y => k (.c (.own 500)) [(500, .row 9 ty9 y)]) := by kernel_rfl
theorem nt59 {R R' : Type} (B : Ops) (k0 : ((List ty9.den)) → Option R') (k : R' → Option R) : T59 B (fun y => ob (k0 y) k) = ob (T59 B k0) k := by
  unfold T59
  repeat' first | exact rfl | apply nat_cond | (apply nat_ob; intro)
def F59 : Option ((List ty9.den)) := T59 Ops.std some
theorem fo59 {R : Type} (k : AV → Objs → Option R) (n : Nat) : afun tau Ops.std gl0 X59 (gnil) ow Try.f59 [] [] k n = ob (F59) (fun y => k (.c (.own 500)) [(500, .row 9 ty9 y)]) := by rw [eq59]; exact nt59 Ops.std some (fun y => k (.c (.own 500)) [(500, .row 9 ty9 y)])
def e59 {R : Type} (c : Option ((List ty9.den))) : Ent R := fun args objs k =>
  oNil args <| oNilO objs <| ob (c ) fun y => k (.c (.own 500)) [(500, .row 9 ty9 y)]
abbrev Sp59 (c : Option ((List ty9.den))) : Prop := ∀ (y : (List ty9.den)), c = some y → Spec Try.prog gl0 59 [] [] (.c (.own 500)) [(500, .row 9 ty9 y)]
theorem ek59 {R : Type} {c : Option ((List ty9.den))} (hs : Sp59 c) : EOk 59 (e59 (R := R) c) := fun args objs k r h => by
  unfold e59 at h
  obtain ⟨rfl, q1⟩ := oNil_some h
  obtain ⟨rfl, q2⟩ := oNilO_some q1
  exact eok_of (hs ) q2
theorem sf59 : Sp59 (F59) := fun y hy => by
  refine spec_of (G := gnil) (gnil_ok) 1000000 (fn := Try.f59) (by kernel_rfl) (by kernel_rfl) (X := X59) (by kernel_rfl) ?_
  rw [fo59, hy]
  rfl
noncomputable def M59 : Option ((List ty9.den)) := F59
theorem sm59 : Sp59 M59 := sf59

/-! ### 75: internal/stringslite.HasPrefix -/
def X75 : Aux := ⟨[], []⟩
def T75 {R : Type} (B : Ops) (p0 : List UInt8) (p1 : List UInt8) (k : (Bool) → Option R) : Option R :=
  cond (Ops.le B (Nat.cast (List.length p1)) (Nat.cast (List.length p0)))
   (
    cond (Ops.inb B (Nat.cast (List.length p1)) (List.length p0 + 1))
     (
      k (List.drop (0) (List.take (Int.toNat (Nat.cast (List.length p1))) p0) == p1))
     (
      none))
   (
    k false)
theorem eq75 {R : Type} (B : Ops) (p0 : List UInt8) (p1 : List UInt8) (k : AV → Objs → Option R) (n : Nat) : afun tau B gl0 X75 (gnil) ow Try.f75 [.c (.str p0), .c (.str p1)] [] k n = T75 B p0 p1 (fun y => k (.c (.bool y)) []) := by kernel_rfl
theorem nt75 {R R' : Type} (B : Ops) (p0 : List UInt8) (p1 : List UInt8) (k0 : (Bool) → Option R') (k : R' → Option R) : T75 B p0 p1 (fun y => ob (k0 y) k) = ob (T75 B p0 p1 k0) k := by
  unfold T75
  repeat' first | exact rfl | apply nat_cond | (apply nat_ob; intro)
def F75 (p0 : List UInt8) (p1 : List UInt8) : Option (Bool) := T75 Ops.std p0 p1 some
theorem fo75 {R : Type} (p0 : List UInt8) (p1 : List UInt8) (k : AV → Objs → Option R) (n : Nat) : afun tau Ops.std gl0 X75 (gnil) ow Try.f75 [.c (.str p0), .c (.str p1)] [] k n = ob (F75 p0 p1) (fun y => k (.c (.bool y)) []) := by rw [eq75]; exact nt75 Ops.std p0 p1 some (fun y => k (.c (.bool y)) [])
def e75 {R : Type} (c : List UInt8 → List UInt8 → Option (Bool)) : Ent R := fun args objs k =>
  oCons args fun a0 l0 => oC a0 fun x0 => cStr x0 fun p0 => oCons l0 fun a1 l1 => oC a1 fun x1 => cStr x1 fun p1 => oNil l1 <| oNilO objs <| ob (c p0 p1) fun y => k (.c (.bool y)) []
abbrev Sp75 (c : List UInt8 → List UInt8 → Option (Bool)) : Prop := ∀ (p0 : List UInt8) (p1 : List UInt8) (y : Bool), c p0 p1 = some y → Spec Try.prog gl0 75 [.c (.str p0), .c (.str p1)] [] (.c (.bool y)) []
theorem ek75 {R : Type} {c : List UInt8 → List UInt8 → Option (Bool)} (hs : Sp75 c) : EOk 75 (e75 (R := R) c) := fun args objs k r h => by
  unfold e75 at h
  obtain ⟨a0, l0, rfl, q1⟩ := oCons_some h
  obtain ⟨x0, rfl, q2⟩ := oC_some q1
  obtain ⟨p0, rfl, q3⟩ := cStr_some q2
  obtain ⟨a1, l1, rfl, q4⟩ := oCons_some q3
  obtain ⟨x1, rfl, q5⟩ := oC_some q4
  obtain ⟨p1, rfl, q6⟩ := cStr_some q5
  obtain ⟨rfl, q7⟩ := oNil_some q6
  obtain ⟨rfl, q8⟩ := oNilO_some q7
  exact eok_of (hs p0 p1) q8
theorem sf75 : Sp75 (F75) := fun p0 p1 y hy => by
  refine spec_of (G := gnil) (gnil_ok) 1000000 (fn := Try.f75) (by kernel_rfl) (by kernel_rfl) (X := X75) (by kernel_rfl) ?_
  rw [fo75, hy]
  rfl
noncomputable def M75 : List UInt8 → List UInt8 → Option (Bool) := F75
theorem sm75 : Sp75 M75 := sf75

/-! ### 60: strings.HasPrefix -/
def X60 : Aux := ⟨[], []⟩
def T60 {R : Type} (B : Ops) (c75 : List UInt8 → List UInt8 → Option (Bool)) (p0 : List UInt8) (p1 : List UInt8) (k : (Bool) → Option R) : Option R :=
  ob (c75 p0 p1) fun y0 =>
  k y0
theorem eq60 {R : Type} (B : Ops) (c75 : List UInt8 → List UInt8 → Option (Bool)) (p0 : List UInt8) (p1 : List UInt8) (k : AV → Objs → Option R) (n : Nat) : afun tau B gl0 X60 (ent 75 (e75 c75) (gnil)) ow Try.f60 [.c (.str p0), .c (.str p1)] [] k n = T60 B c75 p0 p1 (fun y => k (.c (.bool y)) []) := by kernel_rfl
theorem nt60 {R R' : Type} (B : Ops) (c75 : List UInt8 → List UInt8 → Option (Bool)) (p0 : List UInt8) (p1 : List UInt8) (k0 : (Bool) → Option R') (k : R' → Option R) : T60 B c75 p0 p1 (fun y => ob (k0 y) k) = ob (T60 B c75 p0 p1 k0) k := by
  unfold T60
  repeat' first | exact rfl | apply nat_cond | (apply nat_ob; intro)
def F60 (c75 : List UInt8 → List UInt8 → Option (Bool)) (p0 : List UInt8) (p1 : List UInt8) : Option (Bool) := T60 Ops.std c75 p0 p1 some
theorem fo60 {R : Type} (c75 : List UInt8 → List UInt8 → Option (Bool)) (p0 : List UInt8) (p1 : List UInt8) (k : AV → Objs → Option R) (n : Nat) : afun tau Ops.std gl0 X60 (ent 75 (e75 c75) (gnil)) ow Try.f60 [.c (.str p0), .c (.str p1)] [] k n = ob (F60 c75 p0 p1) (fun y => k (.c (.bool y)) []) := by rw [eq60]; exact nt60 Ops.std c75 p0 p1 some (fun y => k (.c (.bool y)) [])
def e60 {R : Type} (c : List UInt8 → List UInt8 → Option (Bool)) : Ent R := fun args objs k =>
  oCons args fun a0 l0 => oC a0 fun x0 => cStr x0 fun p0 => oCons l0 fun a1 l1 => oC a1 fun x1 => cStr x1 fun p1 => oNil l1 <| oNilO objs <| ob (c p0 p1) fun y => k (.c (.bool y)) []
abbrev Sp60 (c : List UInt8 → List UInt8 → Option (Bool)) : Prop := ∀ (p0 : List UInt8) (p1 : List UInt8) (y : Bool), c p0 p1 = some y → Spec Try.prog gl0 60 [.c (.str p0), .c (.str p1)] [] (.c (.bool y)) []
theorem ek60 {R : Type} {c : List UInt8 → List UInt8 → Option (Bool)} (hs : Sp60 c) : EOk 60 (e60 (R := R) c) := fun args objs k r h => by
  unfold e60 at h
  obtain ⟨a0, l0, rfl, q1⟩ := oCons_some h
  obtain ⟨x0, rfl, q2⟩ := oC_some q1
  obtain ⟨p0, rfl, q3⟩ := cStr_some q2
  obtain ⟨a1, l1, rfl, q4⟩ := oCons_some q3
  obtain ⟨x1, rfl, q5⟩ := oC_some q4
  obtain ⟨p1, rfl, q6⟩ := cStr_some q5
  obtain ⟨rfl, q7⟩ := oNil_some q6
  obtain ⟨rfl, q8⟩ := oNilO_some q7
  exact eok_of (hs p0 p1) q8
theorem sf60 {c75 : List UInt8 → List UInt8 → Option (Bool)} (h75 : Sp75 c75) : Sp60 (F60 c75) := fun p0 p1 y hy => by
  refine spec_of (G := ent 75 (e75 c75) (gnil)) (ent_ok (ek75 h75) (gnil_ok)) 1000000 (fn := Try.f60) (by kernel_rfl) (by kernel_rfl) (X := X60) (by kernel_rfl) ?_
  rw [fo60, hy]
  rfl
noncomputable def M60 : List UInt8 → List UInt8 → Option (Bool) := F60 M75
theorem sm60 : Sp60 M60 := sf60 sm75

/-! ### 58: lariat/lex.number -/
def X58 : Aux := ⟨[(3, [1, 4, 5, 8, 9, 10, 11, 12, 13, 14, 15, 16, 17, 18])], []⟩
inductive S58 where
  | l0 (v0_2 : Int) (v0_3 : Int) (v0_4 : Int)
def T58 {R : Type} (B : Ops) (p0 : List UInt8) (again : S58 → Option R) (k : (Int) → Option R) : Option S58 → Option R
  | none =>
    again (.l0 0 (Nat.cast (List.length p0)) 0)
  | some (.l0 v0_2 v0_3 v0_4) =>
    cond (Ops.lt B v0_4 v0_3)
     (
      cond (Ops.inb B v0_4 (List.length p0))
       (
        again (.l0 (IntKind.wrap IntKind.i64 (IntKind.wrap IntKind.i64 (10 * v0_2) + IntKind.wrap IntKind.i64 (IntKind.wrap IntKind.u8 (Nat.cast (UInt8.toNat (List.getD p0 (Int.toNat v0_4) (0))) - 48)))) v0_3 (IntKind.wrap IntKind.i64 (v0_4 + 1))))
       (
        none))
     (
      k v0_2)
def E58 (p0 : List UInt8) : S58 → List AV × Objs
  | .l0 v0_2 v0_3 v0_4 => (mk 20 [(0, .c (.str p0)), (2, .c (.int .i64 0)), (3, .c (.int .i64 v0_2)), (6, .c (.int .i64 v0_3)), (7, .c (.int .i64 v0_4))], [])
def I58 : S58 → Nat
  | .l0 _ _ _ => 0
theorem eq58 {R : Type} (B : Ops) (p0 : List UInt8) (k : AV → Objs → Option R) (n : Nat) : afun tau B gl0 X58 (gnil) ow Try.f58 [.c (.str p0)] [] k n = T58 B p0 (fun s => aloop tau B gl0 X58 (gnil) ow [] Try.f58 k (I58 s) (E58 p0 s) n) (fun y => k (.c (.int .i64 y)) []) none := by kernel_rfl
theorem el58 {R : Type} (B : Ops) (p0 : List UInt8) (k : AV → Objs → Option R) (n : Nat) : ∀ s, aloop tau B gl0 X58 (gnil) ow [] Try.f58 k (I58 s) (E58 p0 s) (n + 1) = T58 B p0 (fun s => aloop tau B gl0 X58 (gnil) ow [] Try.f58 k (I58 s) (E58 p0 s) n) (fun y => k (.c (.int .i64 y)) []) (some s)
  | .l0 v0_2 v0_3 v0_4 => by kernel_rfl
theorem nt58 {R R' : Type} (B : Ops) (p0 : List UInt8) (again : S58 → Option R) (again' : S58 → Option R') (k0 : (Int) → Option R') (k : R' → Option R) (h : ∀ s, again s = ob (again' s) k) : ∀ s, T58 B p0 again (fun y => ob (k0 y) k) s = ob (T58 B p0 again' k0 s) k
  | none => by unfold T58; repeat' first | exact rfl | exact h _ | apply nat_cond | (apply nat_ob; intro)
  | some (.l0 v0_2 v0_3 v0_4) => by unfold T58; repeat' first | exact rfl | exact h _ | apply nat_cond | (apply nat_ob; intro)
def R58 (p0 : List UInt8) : Nat → S58 → Option (Int)
  | 0, _ => none
  | n + 1, s => T58 Ops.std p0 (R58 p0 n) some (some s)
theorem rr58 {R : Type} (p0 : List UInt8) (k : AV → Objs → Option R) : ∀ (n : Nat) (s : S58), aloop tau Ops.std gl0 X58 (gnil) ow [] Try.f58 k (I58 s) (E58 p0 s) n = ob (R58 p0 n s) (fun y => k (.c (.int .i64 y)) [])
  | 0, s => by cases s <;> rfl
  | n + 1, s => by rw [el58]; exact nt58 Ops.std p0 _ _ some (fun y => k (.c (.int .i64 y)) []) (rr58 p0 k n) (some s)
def F58 (p0 : List UInt8) : Option (Int) := T58 Ops.std p0 (R58 p0 1000000) some none
theorem fo58 {R : Type} (p0 : List UInt8) (k : AV → Objs → Option R) : afun tau Ops.std gl0 X58 (gnil) ow Try.f58 [.c (.str p0)] [] k 1000000 = ob (F58 p0) (fun y => k (.c (.int .i64 y)) []) := by rw [eq58]; exact nt58 Ops.std p0 _ _ some (fun y => k (.c (.int .i64 y)) []) (rr58 p0 k 1000000) none
def e58 {R : Type} (c : List UInt8 → Option (Int)) : Ent R := fun args objs k =>
  oCons args fun a0 l0 => oC a0 fun x0 => cStr x0 fun p0 => oNil l0 <| oNilO objs <| ob (c p0) fun y => k (.c (.int .i64 y)) []
abbrev Sp58 (c : List UInt8 → Option (Int)) : Prop := ∀ (p0 : List UInt8) (y : Int), c p0 = some y → Spec Try.prog gl0 58 [.c (.str p0)] [] (.c (.int .i64 y)) []
theorem ek58 {R : Type} {c : List UInt8 → Option (Int)} (hs : Sp58 c) : EOk 58 (e58 (R := R) c) := fun args objs k r h => by
  unfold e58 at h
  obtain ⟨a0, l0, rfl, q1⟩ := oCons_some h
  obtain ⟨x0, rfl, q2⟩ := oC_some q1
  obtain ⟨p0, rfl, q3⟩ := cStr_some q2
  obtain ⟨rfl, q4⟩ := oNil_some q3
  obtain ⟨rfl, q5⟩ := oNilO_some q4
  exact eok_of (hs p0) q5
theorem sf58 : Sp58 (F58) := fun p0 y hy => by
  refine spec_of (G := gnil) (gnil_ok) 1000000 (fn := Try.f58) (by kernel_rfl) (by kernel_rfl) (X := X58) (by kernel_rfl) ?_
  rw [fo58, hy]
  rfl
noncomputable def M58 : List UInt8 → Option (Int) := F58
theorem sm58 : Sp58 M58 := sf58

/-! ### 117: lariat/lex.run#digit -/
def X117 : Aux := ⟨[(2, [2, 3, 6, 7, 8, 9, 10, 11, 12, 13, 14, 15, 16, 17, 18])], []⟩
inductive S117 where
  | l0 (v0_2 : Int)
def T117 {R : Type} (B : Ops) (c57 : Int → Option (Bool)) (p0 : List UInt8) (again : S117 → Option R) (k : ((List UInt8)) → Option R) : Option S117 → Option R
  | none =>
    again (.l0 0)
  | some (.l0 v0_2) =>
    cond (Ops.lt B v0_2 (Nat.cast (List.length p0)))
     (
      cond (Ops.inb B v0_2 (List.length p0))
       (
        ob (c57 (Nat.cast (UInt8.toNat (List.getD p0 (Int.toNat v0_2) (0))))) fun y0 =>
        cond (y0)
         (
          again (.l0 (IntKind.wrap IntKind.i64 (v0_2 + 1))))
         (
          cond (Ops.inb B v0_2 (List.length p0 + 1))
           (
            k (List.drop (0) (List.take (Int.toNat v0_2) p0)))
           (
            none)))
       (
        none))
     (
      cond (Ops.inb B v0_2 (List.length p0 + 1))
       (
        k (List.drop (0) (List.take (Int.toNat v0_2) p0)))
       (
        none))
def E117 (p0 : List UInt8) : S117 → List AV × Objs
  | .l0 v0_2 => (mk 22 [(0, .c (.str p0)), (1, .fn 57 []), (4, .c (.str (Array.toList (ByteArray.data { data := List.toArray (mt UInt8) })))), (5, .c (.int .i64 v0_2))], [])
def I117 : S117 → Nat
  | .l0 _ => 0
theorem eq117 {R : Type} (B : Ops) (c57 : Int → Option (Bool)) (p0 : List UInt8) (k : AV → Objs → Option R) (n : Nat) : afun tau B gl0 X117 (ent 57 (e57 c57) (gnil)) ow Try.f40 [.c (.str p0), .fn 57 []] [] k n = T117 B c57 p0 (fun s => aloop tau B gl0 X117 (ent 57 (e57 c57) (gnil)) ow [] Try.f40 k (I117 s) (E117 p0 s) n) (fun y => k (.c (.str y)) []) none := by kernel_rfl
theorem el117 {R : Type} (B : Ops) (c57 : Int → Option (Bool)) (p0 : List UInt8) (k : AV → Objs → Option R) (n : Nat) : ∀ s, aloop tau B gl0 X117 (ent 57 (e57 c57) (gnil)) ow [] Try.f40 k (I117 s) (E117 p0 s) (n + 1) = T117 B c57 p0 (fun s => aloop tau B gl0 X117 (ent 57 (e57 c57) (gnil)) ow [] Try.f40 k (I117 s) (E117 p0 s) n) (fun y => k (.c (.str y)) []) (some s)
  | .l0 v0_2 => by kernel_rfl
theorem nt117 {R R' : Type} (B : Ops) (c57 : Int → Option (Bool)) (p0 : List UInt8) (again : S117 → Option R) (again' : S117 → Option R') (k0 : ((List UInt8)) → Option R') (k : R' → Option R) (h : ∀ s, again s = ob (again' s) k) : ∀ s, T117 B c57 p0 again (fun y => ob (k0 y) k) s = ob (T117 B c57 p0 again' k0 s) k
  | none => by unfold T117; repeat' first | exact rfl | exact h _ | apply nat_cond | (apply nat_ob; intro)
  | some (.l0 v0_2) => by unfold T117; repeat' first | exact rfl | exact h _ | apply nat_cond | (apply nat_ob; intro)
def R117 (c57 : Int → Option (Bool)) (p0 : List UInt8) : Nat → S117 → Option ((List UInt8))
  | 0, _ => none
  | n + 1, s => T117 Ops.std c57 p0 (R117 c57 p0 n) some (some s)
theorem rr117 {R : Type} (c57 : Int → Option (Bool)) (p0 : List UInt8) (k : AV → Objs → Option R) : ∀ (n : Nat) (s : S117), aloop tau Ops.std gl0 X117 (ent 57 (e57 c57) (gnil)) ow [] Try.f40 k (I117 s) (E117 p0 s) n = ob (R117 c57 p0 n s) (fun y => k (.c (.str y)) [])
  | 0, s => by cases s <;> rfl
  | n + 1, s => by rw [el117]; exact nt117 Ops.std c57 p0 _ _ some (fun y => k (.c (.str y)) []) (rr117 c57 p0 k n) (some s)
def F117 (c57 : Int → Option (Bool)) (p0 : List UInt8) : Option ((List UInt8)) := T117 Ops.std c57 p0 (R117 c57 p0 1000000) some none
theorem fo117 {R : Type} (c57 : Int → Option (Bool)) (p0 : List UInt8) (k : AV → Objs → Option R) : afun tau Ops.std gl0 X117 (ent 57 (e57 c57) (gnil)) ow Try.f40 [.c (.str p0), .fn 57 []] [] k 1000000 = ob (F117 c57 p0) (fun y => k (.c (.str y)) []) := by rw [eq117]; exact nt117 Ops.std c57 p0 _ _ some (fun y => k (.c (.str y)) []) (rr117 c57 p0 k 1000000) none
def e117 {R : Type} (c : List UInt8 → Option ((List UInt8))) : Ent R := fun args objs k =>
  oCons args fun a0 l0 => oC a0 fun x0 => cStr x0 fun p0 => oCons l0 fun a1 l1 => oFn 57 a1 <| oNil l1 <| oNilO objs <| ob (c p0) fun y => k (.c (.str y)) []
abbrev Sp117 (c : List UInt8 → Option ((List UInt8))) : Prop := ∀ (p0 : List UInt8) (y : (List UInt8)), c p0 = some y → Spec Try.prog gl0 40 [.c (.str p0), .fn 57 []] [] (.c (.str y)) []
theorem ek117 {R : Type} {c : List UInt8 → Option ((List UInt8))} (hs : Sp117 c) : EOk 40 (e117 (R := R) c) := fun args objs k r h => by
  unfold e117 at h
  obtain ⟨a0, l0, rfl, q1⟩ := oCons_some h
  obtain ⟨x0, rfl, q2⟩ := oC_some q1
  obtain ⟨p0, rfl, q3⟩ := cStr_some q2
  obtain ⟨a1, l1, rfl, q4⟩ := oCons_some q3
  obtain ⟨rfl, q5⟩ := oFn_some q4
  obtain ⟨rfl, q6⟩ := oNil_some q5
  obtain ⟨rfl, q7⟩ := oNilO_some q6
  exact eok_of (hs p0) q7
theorem sf117 {c57 : Int → Option (Bool)} (h57 : Sp57 c57) : Sp117 (F117 c57) := fun p0 y hy => by
  refine spec_of (G := ent 57 (e57 c57) (gnil)) (ent_ok (ek57 h57) (gnil_ok)) 1000000 (fn := Try.f40) (by kernel_rfl) (by kernel_rfl) (X := X117) (by kernel_rfl) ?_
  rw [fo117, hy]
  rfl
noncomputable def M117 : List UInt8 → Option ((List UInt8)) := F117 M57
theorem sm117 : Sp117 M117 := sf117 sm57

/-! ### 38: lariat/lex.token -/
def X38 : Aux := ⟨[(15, [1, 3, 4, 5, 6, 7, 8, 9, 10, 11, 12, 13, 14, 15, 16, 17, 18, 19, 20, 21, 22, 23, 24, 25, 26, 27, 28, 29, 30, 31, 32, 33, 34, 35, 36, 37, 38, 39, 40, 41, 45, 46, 47, 48, 49, 50, 51, 52, 53])], []⟩
inductive S38 where
  | l0 (v0_1 : Int) (v0_2 : Int) (v0_7 : List ty9.den)
def T38 {R : Type} (B : Ops) (c57 : Int → Option (Bool)) (c40 : List UInt8 → Option ((List UInt8))) (c58 : List UInt8 → Option (Int)) (c39 : Int → Option (Bool)) (c41 : Int → Option (Bool)) (c37 : List ty5.den → Int → Option (Bool)) (c59 : Option ((List ty9.den))) (c60 : List UInt8 → List UInt8 → Option (Bool)) (c117 : List UInt8 → Option ((List UInt8))) (p0 : List UInt8) (again : S38 → Option R) (k : (Int × (List UInt8) × Int × Int) → Option R) : Option S38 → Option R
  | none =>
    cond (Ops.inb B (0) (List.length p0))
     (
      ob (c57 (Nat.cast (UInt8.toNat (List.getD p0 (Int.toNat (0)) (0))))) fun y0 =>
      cond (y0)
       (
        ob (c117 p0) fun y1 =>
        cond (Ops.le B (Nat.cast (List.length y1)) (3))
         (
          ob (c58 y1) fun y2 =>
          k ((1, y1, y2, 0)))
         (
          k ((0, mt UInt8, 0, 0))))
       (
        ob (c39 (Nat.cast (UInt8.toNat (List.getD p0 (Int.toNat (0)) (0))))) fun y1 =>
        cond (y1)
         (
          ob (c40 p0) fun y2 =>
          cond (Ops.le B (Nat.cast (List.length y2)) (8))
           (
            k ((2, y2, 0, 0)))
           (
            k ((0, mt UInt8, 0, 0))))
         (
          ob (c37 (88 :: 70 :: 71 :: 85 :: 82 :: mt (Ty.den (Ty.int IntKind.u8))) (Nat.cast (UInt8.toNat (List.getD p0 (Int.toNat (0)) (0))))) fun y2 =>
          cond (y2)
           (
            cond (Ops.inb B (1) (List.length p0 + 1))
             (
              k ((3, List.drop (0) (List.take (Int.toNat (1)) p0), 0, 0)))
             (
              none))
           (
            ob (c59) fun y3 =>
            again (.l0 (Nat.cast (List.length y3)) 0 y3)))))
     (
      none)
  | some (.l0 v0_1 v0_2 v0_7) =>
    cond (Ops.lt B v0_2 v0_1)
     (
      cond (Ops.inb B v0_2 (List.length v0_7))
       (
        ob (c60 p0 (List.getD v0_7 (Int.toNat v0_2) (Ty.dflt ty9))) fun y0 =>
        cond (y0)
         (
          k ((4, List.getD v0_7 (Int.toNat v0_2) (Ty.dflt ty9), 0, 0)))
         (
          again (.l0 v0_1 (IntKind.wrap IntKind.i64 (v0_2 + 1)) v0_7)))
       (
        none))
     (
      k ((0, mt UInt8, 0, 0)))
def E38 (p0 : List UInt8) : S38 → List AV × Objs
  | .l0 v0_1 v0_2 v0_7 => (mk 55 [(0, .c (.str p0)), (2, .c (.ptr 2 0)), (42, .c (.own 42)), (43, .c (.int .i64 v0_1)), (44, .c (.int .i64 v0_2))], [(2, .box 33 [.int .i64 0, .str (mt UInt8), .int .i64 0, .int .i64 0]), (42, .row 9 ty9 v0_7)])
def I38 : S38 → Nat
  | .l0 _ _ _ => 0
theorem eq38 {R : Type} (B : Ops) (c57 : Int → Option (Bool)) (c40 : List UInt8 → Option ((List UInt8))) (c58 : List UInt8 → Option (Int)) (c39 : Int → Option (Bool)) (c41 : Int → Option (Bool)) (c37 : List ty5.den → Int → Option (Bool)) (c59 : Option ((List ty9.den))) (c60 : List UInt8 → List UInt8 → Option (Bool)) (c117 : List UInt8 → Option ((List UInt8))) (p0 : List UInt8) (k : AV → Objs → Option R) (n : Nat) : afun tau B gl0 X38 (ent 57 (e57 c57) (ent 40 (eAlt 1 41 (e40 c40) (e117 c117)) (ent 58 (e58 c58) (ent 39 (e39 c39) (ent 41 (e41 c41) (ent 37 (e37 c37) (ent 59 (e59 c59) (ent 60 (e60 c60) (gnil))))))))) ow Try.f38 [.c (.str p0)] [] k n = T38 B c57 c40 c58 c39 c41 c37 c59 c60 c117 p0 (fun s => aloop tau B gl0 X38 (ent 57 (e57 c57) (ent 40 (eAlt 1 41 (e40 c40) (e117 c117)) (ent 58 (e58 c58) (ent 39 (e39 c39) (ent 41 (e41 c41) (ent 37 (e37 c37) (ent 59 (e59 c59) (ent 60 (e60 c60) (gnil))))))))) ow [] Try.f38 k (I38 s) (E38 p0 s) n) (fun y => k (.agg [.int .i64 y.1, .str y.2.1, .int .i64 y.2.2.1, .int .i64 y.2.2.2]) []) none := by kernel_rfl
theorem el38 {R : Type} (B : Ops) (c57 : Int → Option (Bool)) (c40 : List UInt8 → Option ((List UInt8))) (c58 : List UInt8 → Option (Int)) (c39 : Int → Option (Bool)) (c41 : Int → Option (Bool)) (c37 : List ty5.den → Int → Option (Bool)) (c59 : Option ((List ty9.den))) (c60 : List UInt8 → List UInt8 → Option (Bool)) (c117 : List UInt8 → Option ((List UInt8))) (p0 : List UInt8) (k : AV → Objs → Option R) (n : Nat) : ∀ s, aloop tau B gl0 X38 (ent 57 (e57 c57) (ent 40 (eAlt 1 41 (e40 c40) (e117 c117)) (ent 58 (e58 c58) (ent 39 (e39 c39) (ent 41 (e41 c41) (ent 37 (e37 c37) (ent 59 (e59 c59) (ent 60 (e60 c60) (gnil))))))))) ow [] Try.f38 k (I38 s) (E38 p0 s) (n + 1) = T38 B c57 c40 c58 c39 c41 c37 c59 c60 c117 p0 (fun s => aloop tau B gl0 X38 (ent 57 (e57 c57) (ent 40 (eAlt 1 41 (e40 c40) (e117 c117)) (ent 58 (e58 c58) (ent 39 (e39 c39) (ent 41 (e41 c41) (ent 37 (e37 c37) (ent 59 (e59 c59) (ent 60 (e60 c60) (gnil))))))))) ow [] Try.f38 k (I38 s) (E38 p0 s) n) (fun y => k (.agg [.int .i64 y.1, .str y.2.1, .int .i64 y.2.2.1, .int .i64 y.2.2.2]) []) (some s)
  | .l0 v0_1 v0_2 v0_7 => by kernel_rfl
theorem nt38 {R R' : Type} (B : Ops) (c57 : Int → Option (Bool)) (c40 : List UInt8 → Option ((List UInt8))) (c58 : List UInt8 → Option (Int)) (c39 : Int → Option (Bool)) (c41 : Int → Option (Bool)) (c37 : List ty5.den → Int → Option (Bool)) (c59 : Option ((List ty9.den))) (c60 : List UInt8 → List UInt8 → Option (Bool)) (c117 : List UInt8 → Option ((List UInt8))) (p0 : List UInt8) (again : S38 → Option R) (again' : S38 → Option R') (k0 : (Int × (List UInt8) × Int × Int) → Option R') (k : R' → Option R) (h : ∀ s, again s = ob (again' s) k) : ∀ s, T38 B c57 c40 c58 c39 c41 c37 c59 c60 c117 p0 again (fun y => ob (k0 y) k) s = ob (T38 B c57 c40 c58 c39 c41 c37 c59 c60 c117 p0 again' k0 s) k
  | none => by unfold T38; repeat' first | exact rfl | exact h _ | apply nat_cond | (apply nat_ob; intro)
  | some (.l0 v0_1 v0_2 v0_7) => by unfold T38; repeat' first | exact rfl | exact h _ | apply nat_cond | (apply nat_ob; intro)
def R38 (c57 : Int → Option (Bool)) (c40 : List UInt8 → Option ((List UInt8))) (c58 : List UInt8 → Option (Int)) (c39 : Int → Option (Bool)) (c41 : Int → Option (Bool)) (c37 : List ty5.den → Int → Option (Bool)) (c59 : Option ((List ty9.den))) (c60 : List UInt8 → List UInt8 → Option (Bool)) (c117 : List UInt8 → Option ((List UInt8))) (p0 : List UInt8) : Nat → S38 → Option (Int × (List UInt8) × Int × Int)
  | 0, _ => none
  | n + 1, s => T38 Ops.std c57 c40 c58 c39 c41 c37 c59 c60 c117 p0 (R38 c57 c40 c58 c39 c41 c37 c59 c60 c117 p0 n) some (some s)
theorem rr38 {R : Type} (c57 : Int → Option (Bool)) (c40 : List UInt8 → Option ((List UInt8))) (c58 : List UInt8 → Option (Int)) (c39 : Int → Option (Bool)) (c41 : Int → Option (Bool)) (c37 : List ty5.den → Int → Option (Bool)) (c59 : Option ((List ty9.den))) (c60 : List UInt8 → List UInt8 → Option (Bool)) (c117 : List UInt8 → Option ((List UInt8))) (p0 : List UInt8) (k : AV → Objs → Option R) : ∀ (n : Nat) (s : S38), aloop tau Ops.std gl0 X38 (ent 57 (e57 c57) (ent 40 (eAlt 1 41 (e40 c40) (e117 c117)) (ent 58 (e58 c58) (ent 39 (e39 c39) (ent 41 (e41 c41) (ent 37 (e37 c37) (ent 59 (e59 c59) (ent 60 (e60 c60) (gnil))))))))) ow [] Try.f38 k (I38 s) (E38 p0 s) n = ob (R38 c57 c40 c58 c39 c41 c37 c59 c60 c117 p0 n s) (fun y => k (.agg [.int .i64 y.1, .str y.2.1, .int .i64 y.2.2.1, .int .i64 y.2.2.2]) [])
  | 0, s => by cases s <;> rfl
  | n + 1, s => by rw [el38]; exact nt38 Ops.std c57 c40 c58 c39 c41 c37 c59 c60 c117 p0 _ _ some (fun y => k (.agg [.int .i64 y.1, .str y.2.1, .int .i64 y.2.2.1, .int .i64 y.2.2.2]) []) (rr38 c57 c40 c58 c39 c41 c37 c59 c60 c117 p0 k n) (some s)
def F38 (c57 : Int → Option (Bool)) (c40 : List UInt8 → Option ((List UInt8))) (c58 : List UInt8 → Option (Int)) (c39 : Int → Option (Bool)) (c41 : Int → Option (Bool)) (c37 : List ty5.den → Int → Option (Bool)) (c59 : Option ((List ty9.den))) (c60 : List UInt8 → List UInt8 → Option (Bool)) (c117 : List UInt8 → Option ((List UInt8))) (p0 : List UInt8) : Option (Int × (List UInt8) × Int × Int) := T38 Ops.std c57 c40 c58 c39 c41 c37 c59 c60 c117 p0 (R38 c57 c40 c58 c39 c41 c37 c59 c60 c117 p0 1000000) some none
theorem fo38 {R : Type} (c57 : Int → Option (Bool)) (c40 : List UInt8 → Option ((List UInt8))) (c58 : List UInt8 → Option (Int)) (c39 : Int → Option (Bool)) (c41 : Int → Option (Bool)) (c37 : List ty5.den → Int → Option (Bool)) (c59 : Option ((List ty9.den))) (c60 : List UInt8 → List UInt8 → Option (Bool)) (c117 : List UInt8 → Option ((List UInt8))) (p0 : List UInt8) (k : AV → Objs → Option R) : afun tau Ops.std gl0 X38 (ent 57 (e57 c57) (ent 40 (eAlt 1 41 (e40 c40) (e117 c117)) (ent 58 (e58 c58) (ent 39 (e39 c39) (ent 41 (e41 c41) (ent 37 (e37 c37) (ent 59 (e59 c59) (ent 60 (e60 c60) (gnil))))))))) ow Try.f38 [.c (.str p0)] [] k 1000000 = ob (F38 c57 c40 c58 c39 c41 c37 c59 c60 c117 p0) (fun y => k (.agg [.int .i64 y.1, .str y.2.1, .int .i64 y.2.2.1, .int .i64 y.2.2.2]) []) := by rw [eq38]; exact nt38 Ops.std c57 c40 c58 c39 c41 c37 c59 c60 c117 p0 _ _ some (fun y => k (.agg [.int .i64 y.1, .str y.2.1, .int .i64 y.2.2.1, .int .i64 y.2.2.2]) []) (rr38 c57 c40 c58 c39 c41 c37 c59 c60 c117 p0 k 1000000) none
def e38 {R : Type} (c : List UInt8 → Option (Int × (List UInt8) × Int × Int)) : Ent R := fun args objs k =>
  oCons args fun a0 l0 => oC a0 fun x0 => cStr x0 fun p0 => oNil l0 <| oNilO objs <| ob (c p0) fun y => k (.agg [.int .i64 y.1, .str y.2.1, .int .i64 y.2.2.1, .int .i64 y.2.2.2]) []
abbrev Sp38 (c : List UInt8 → Option (Int × (List UInt8) × Int × Int)) : Prop := ∀ (p0 : List UInt8) (y : Int × (List UInt8) × Int × Int), c p0 = some y → Spec Try.prog gl0 38 [.c (.str p0)] [] (.agg [.int .i64 y.1, .str y.2.1, .int .i64 y.2.2.1, .int .i64 y.2.2.2]) []
theorem ek38 {R : Type} {c : List UInt8 → Option (Int × (List UInt8) × Int × Int)} (hs : Sp38 c) : EOk 38 (e38 (R := R) c) := fun args objs k r h => by
  unfold e38 at h
  obtain ⟨a0, l0, rfl, q1⟩ := oCons_some h
  obtain ⟨x0, rfl, q2⟩ := oC_some q1
  obtain ⟨p0, rfl, q3⟩ := cStr_some q2
  obtain ⟨rfl, q4⟩ := oNil_some q3
  obtain ⟨rfl, q5⟩ := oNilO_some q4
  exact eok_of (hs p0) q5
theorem sf38 {c57 : Int → Option (Bool)} {c40 : List UInt8 → Option ((List UInt8))} {c58 : List UInt8 → Option (Int)} {c39 : Int → Option (Bool)} {c41 : Int → Option (Bool)} {c37 : List ty5.den → Int → Option (Bool)} {c59 : Option ((List ty9.den))} {c60 : List UInt8 → List UInt8 → Option (Bool)} {c117 : List UInt8 → Option ((List UInt8))} (h57 : Sp57 c57) (h40 : Sp40 c40) (h58 : Sp58 c58) (h39 : Sp39 c39) (h41 : Sp41 c41) (h37 : Sp37 c37) (h59 : Sp59 c59) (h60 : Sp60 c60) (h117 : Sp117 c117) : Sp38 (F38 c57 c40 c58 c39 c41 c37 c59 c60 c117) := fun p0 y hy => by
  refine spec_of (G := ent 57 (e57 c57) (ent 40 (eAlt 1 41 (e40 c40) (e117 c117)) (ent 58 (e58 c58) (ent 39 (e39 c39) (ent 41 (e41 c41) (ent 37 (e37 c37) (ent 59 (e59 c59) (ent 60 (e60 c60) (gnil))))))))) (ent_ok (ek57 h57) (ent_ok (eAlt_ok (ek40 h40) (ek117 h117)) (ent_ok (ek58 h58) (ent_ok (ek39 h39) (ent_ok (ek41 h41) (ent_ok (ek37 h37) (ent_ok (ek59 h59) (ent_ok (ek60 h60) (gnil_ok))))))))) 1000000 (fn := Try.f38) (by kernel_rfl) (by kernel_rfl) (X := X38) (by kernel_rfl) ?_
  rw [fo38, hy]
  rfl
noncomputable def M38 : List UInt8 → Option (Int × (List UInt8) × Int × Int) := F38 M57 M40 M58 M39 M41 M37 M59 M60 M117
theorem sm38 : Sp38 M38 := sf38 sm57 sm40 sm58 sm39 sm41 sm37 sm59 sm60 sm117

/-! ### 13: lariat/lex.Lex -/
def X13 : Aux := ⟨[(5, [1, 2, 3, 4, 7, 8, 9, 10, 11, 12, 13, 14, 15, 16, 17, 18, 19, 20, 21, 22, 23, 24, 25, 26, 27, 28, 29, 30, 31, 32, 33, 34, 35, 36, 37, 38, 39, 40, 41])], []⟩
inductive S13 where
  | l0 (v0_1 : Int) (v0_2 : List ty33.den)
def T13 {R : Type} (B : Ops) (c37 : List ty5.den → Int → Option (Bool)) (c38 : List UInt8 → Option (Int × (List UInt8) × Int × Int)) (p0 : List UInt8) (again : S13 → Option R) (k : (Int × Int × (List ty33.den)) → Option R) : Option S13 → Option R
  | none =>
    cond (Ops.lt B (60000) (Nat.cast (List.length p0)))
     (
      k ((14, 0, mt (Ty.den (Ty.pair (Ty.int IntKind.i64) (Ty.pair Ty.str (Ty.pair (Ty.int IntKind.i64) (Ty.int IntKind.i64))))))))
     (
      again (.l0 0 (mt (Ty.den (Ty.pair (Ty.int IntKind.i64) (Ty.pair Ty.str (Ty.pair (Ty.int IntKind.i64) (Ty.int IntKind.i64))))))))
  | some (.l0 v0_1 v0_2) =>
    cond (Ops.lt B v0_1 (Nat.cast (List.length p0)))
     (
      cond (Ops.inb B v0_1 (List.length p0))
       (
        ob (c37 (32 :: 9 :: 10 :: mt (Ty.den (Ty.int IntKind.u8))) (Nat.cast (UInt8.toNat (List.getD p0 (Int.toNat v0_1) (0))))) fun y0 =>
        cond (y0)
         (
          again (.l0 (IntKind.wrap IntKind.i64 (v0_1 + 1)) v0_2))
         (
          cond (Ops.inb B v0_1 (List.length p0 + 1))
           (
            ob (c38 (List.drop (Int.toNat v0_1) (List.take (List.length p0) p0))) fun y1 =>
            cond (Ops.eq B (Prod.fst y1) (0))
             (
              k ((2, v0_1, mt (Ty.den (Ty.pair (Ty.int IntKind.i64) (Ty.pair Ty.str (Ty.pair (Ty.int IntKind.i64) (Ty.int IntKind.i64))))))))
             (
              cond (Ops.lim B (List.length v0_2 + List.length ((Prod.fst y1, Prod.fst (Prod.snd y1), Prod.fst (Prod.snd (Prod.snd y1)), v0_1) :: mt (Ty.den (Ty.pair (Ty.int IntKind.i64) (Ty.pair Ty.str (Ty.pair (Ty.int IntKind.i64) (Ty.int IntKind.i64))))))) (40))
               (
                again (.l0 (IntKind.wrap IntKind.i64 (v0_1 + Nat.cast (List.length (Prod.fst (Prod.snd y1))))) (v0_2 ++ (Prod.fst y1, Prod.fst (Prod.snd y1), Prod.fst (Prod.snd (Prod.snd y1)), v0_1) :: mt (Ty.den (Ty.pair (Ty.int IntKind.i64) (Ty.pair Ty.str (Ty.pair (Ty.int IntKind.i64) (Ty.int IntKind.i64))))))))
               (
                none)))
           (
            none)))
       (
        none))
     (
      cond (Ops.lim B (List.length v0_2 + List.length ((5, mt UInt8, 0, Nat.cast (List.length p0)) :: mt (Ty.den (Ty.pair (Ty.int IntKind.i64) (Ty.pair Ty.str (Ty.pair (Ty.int IntKind.i64) (Ty.int IntKind.i64))))))) (40))
       (
        k ((0, 0, v0_2 ++ (5, mt UInt8, 0, Nat.cast (List.length p0)) :: mt (Ty.den (Ty.pair (Ty.int IntKind.i64) (Ty.pair Ty.str (Ty.pair (Ty.int IntKind.i64) (Ty.int IntKind.i64))))))))
       (
        none))
def E13 (p0 : List UInt8) : S13 → List AV × Objs
  | .l0 v0_1 v0_2 => (mk 48 [(0, .c (.str p0)), (5, .c (.own 5)), (6, .c (.int .i64 v0_1))], [(5, .row 33 ty33 v0_2)])
def I13 : S13 → Nat
  | .l0 _ _ => 0
theorem eq13 {R : Type} (B : Ops) (c37 : List ty5.den → Int → Option (Bool)) (c38 : List UInt8 → Option (Int × (List UInt8) × Int × Int)) (p0 : List UInt8) (k : AV → Objs → Option R) (n : Nat) : afun tau B gl0 X13 (ent 37 (e37 c37) (ent 38 (e38 c38) (gnil))) ow Try.f13 [.c (.str p0)] [] k n = T13 B c37 c38 p0 (fun s => aloop tau B gl0 X13 (ent 37 (e37 c37) (ent 38 (e38 c38) (gnil))) ow [] Try.f13 k (I13 s) (E13 p0 s) n) (fun y => k (.tup [(false, [.own 501000]), (false, [.int .i64 y.1]), (false, [.int .i64 y.2.1])]) [(501000, .row 33 ty33 y.2.2)]) none := by kernel_rfl
theorem el13 {R : Type} (B : Ops) (c37 : List ty5.den → Int → Option (Bool)) (c38 : List UInt8 → Option (Int × (List UInt8) × Int × Int)) (p0 : List UInt8) (k : AV → Objs → Option R) (n : Nat) : ∀ s, aloop tau B gl0 X13 (ent 37 (e37 c37) (ent 38 (e38 c38) (gnil))) ow [] Try.f13 k (I13 s) (E13 p0 s) (n + 1) = T13 B c37 c38 p0 (fun s => aloop tau B gl0 X13 (ent 37 (e37 c37) (ent 38 (e38 c38) (gnil))) ow [] Try.f13 k (I13 s) (E13 p0 s) n) (fun y => k (.tup [(false, [.own 501000]), (false, [.int .i64 y.1]), (false, [.int .i64 y.2.1])]) [(501000, .row 33 ty33 y.2.2)]) (some s)
  | .l0 v0_1 v0_2 => by kernel_rfl
theorem nt13 {R R' : Type} (B : Ops) (c37 : List ty5.den → Int → Option (Bool)) (c38 : List UInt8 → Option (Int × (List UInt8) × Int × Int)) (p0 : List UInt8) (again : S13 → Option R) (again' : S13 → Option R') (k0 : (Int × Int × (List ty33.den)) → Option R') (k : R' → Option R) (h : ∀ s, again s = ob (again' s) k) : ∀ s, T13 B c37 c38 p0 again (fun y => ob (k0 y) k) s = ob (T13 B c37 c38 p0 again' k0 s) k
  | none => by unfold T13; repeat' first | exact rfl | exact h _ | apply nat_cond | (apply nat_ob; intro)
  | some (.l0 v0_1 v0_2) => by unfold T13; repeat' first | exact rfl | exact h _ | apply nat_cond | (apply nat_ob; intro)
def R13 (c37 : List ty5.den → Int → Option (Bool)) (c38 : List UInt8 → Option (Int × (List UInt8) × Int × Int)) (p0 : List UInt8) : Nat → S13 → Option (Int × Int × (List ty33.den))
  | 0, _ => none
  | n + 1, s => T13 Ops.std c37 c38 p0 (R13 c37 c38 p0 n) some (some s)
theorem rr13 {R : Type} (c37 : List ty5.den → Int → Option (Bool)) (c38 : List UInt8 → Option (Int × (List UInt8) × Int × Int)) (p0 : List UInt8) (k : AV → Objs → Option R) : ∀ (n : Nat) (s : S13), aloop tau Ops.std gl0 X13 (ent 37 (e37 c37) (ent 38 (e38 c38) (gnil))) ow [] Try.f13 k (I13 s) (E13 p0 s) n = ob (R13 c37 c38 p0 n s) (fun y => k (.tup [(false, [.own 501000]), (false, [.int .i64 y.1]), (false, [.int .i64 y.2.1])]) [(501000, .row 33 ty33 y.2.2)])
  | 0, s => by cases s <;> rfl
  | n + 1, s => by rw [el13]; exact nt13 Ops.std c37 c38 p0 _ _ some (fun y => k (.tup [(false, [.own 501000]), (false, [.int .i64 y.1]), (false, [.int .i64 y.2.1])]) [(501000, .row 33 ty33 y.2.2)]) (rr13 c37 c38 p0 k n) (some s)
def F13 (c37 : List ty5.den → Int → Option (Bool)) (c38 : List UInt8 → Option (Int × (List UInt8) × Int × Int)) (p0 : List UInt8) : Option (Int × Int × (List ty33.den)) := T13 Ops.std c37 c38 p0 (R13 c37 c38 p0 1000000) some none
theorem fo13 {R : Type} (c37 : List ty5.den → Int → Option (Bool)) (c38 : List UInt8 → Option (Int × (List UInt8) × Int × Int)) (p0 : List UInt8) (k : AV → Objs → Option R) : afun tau Ops.std gl0 X13 (ent 37 (e37 c37) (ent 38 (e38 c38) (gnil))) ow Try.f13 [.c (.str p0)] [] k 1000000 = ob (F13 c37 c38 p0) (fun y => k (.tup [(false, [.own 501000]), (false, [.int .i64 y.1]), (false, [.int .i64 y.2.1])]) [(501000, .row 33 ty33 y.2.2)]) := by rw [eq13]; exact nt13 Ops.std c37 c38 p0 _ _ some (fun y => k (.tup [(false, [.own 501000]), (false, [.int .i64 y.1]), (false, [.int .i64 y.2.1])]) [(501000, .row 33 ty33 y.2.2)]) (rr13 c37 c38 p0 k 1000000) none
def e13 {R : Type} (c : List UInt8 → Option (Int × Int × (List ty33.den))) : Ent R := fun args objs k =>
  oCons args fun a0 l0 => oC a0 fun x0 => cStr x0 fun p0 => oNil l0 <| oNilO objs <| ob (c p0) fun y => k (.tup [(false, [.own 501000]), (false, [.int .i64 y.1]), (false, [.int .i64 y.2.1])]) [(501000, .row 33 ty33 y.2.2)]
abbrev Sp13 (c : List UInt8 → Option (Int × Int × (List ty33.den))) : Prop := ∀ (p0 : List UInt8) (y : Int × Int × (List ty33.den)), c p0 = some y → Spec Try.prog gl0 13 [.c (.str p0)] [] (.tup [(false, [.own 501000]), (false, [.int .i64 y.1]), (false, [.int .i64 y.2.1])]) [(501000, .row 33 ty33 y.2.2)]
theorem ek13 {R : Type} {c : List UInt8 → Option (Int × Int × (List ty33.den))} (hs : Sp13 c) : EOk 13 (e13 (R := R) c) := fun args objs k r h => by
  unfold e13 at h
  obtain ⟨a0, l0, rfl, q1⟩ := oCons_some h
  obtain ⟨x0, rfl, q2⟩ := oC_some q1
  obtain ⟨p0, rfl, q3⟩ := cStr_some q2
  obtain ⟨rfl, q4⟩ := oNil_some q3
  obtain ⟨rfl, q5⟩ := oNilO_some q4
  exact eok_of (hs p0) q5
theorem sf13 {c37 : List ty5.den → Int → Option (Bool)} {c38 : List UInt8 → Option (Int × (List UInt8) × Int × Int)} (h37 : Sp37 c37) (h38 : Sp38 c38) : Sp13 (F13 c37 c38) := fun p0 y hy => by
  refine spec_of (G := ent 37 (e37 c37) (ent 38 (e38 c38) (gnil))) (ent_ok (ek37 h37) (ent_ok (ek38 h38) (gnil_ok))) 1000000 (fn := Try.f13) (by kernel_rfl) (by kernel_rfl) (X := X13) (by kernel_rfl) ?_
  rw [fo13, hy]
  rfl
noncomputable def M13 : List UInt8 → Option (Int × Int × (List ty33.den)) := F13 M37 M38
theorem sm13 : Sp13 M13 := sf13 sm37 sm38

/-! ### 11: lariat/lariatlaw7.known -/
def X11 : Aux := ⟨[], []⟩
def T11 {R : Type} (B : Ops) (c13 : List UInt8 → Option (Int × Int × (List ty33.den))) (k : (Bool) → Option R) : Option R :=
  ob (c13 (Array.toList (ByteArray.data { data := List.toArray (120 :: 60 :: 61 :: 49 :: 48 :: mt UInt8) }))) fun y0 =>
  cond (Ops.eq B (Prod.fst y0) (0))
   (
    cond (Ops.eq B (Nat.cast (List.length (Prod.snd (Prod.snd y0)))) (4))
     (
      cond (Ops.inb B (0) (List.length (Prod.snd (Prod.snd y0))))
       (
        cond (Ops.eq B (Prod.fst (List.getD (Prod.snd (Prod.snd y0)) (Int.toNat (0)) (Ty.dflt ty33))) (2))
         (
          cond (Ops.inb B (1) (List.length (Prod.snd (Prod.snd y0))))
           (
            cond (Ops.eq B (Prod.fst (List.getD (Prod.snd (Prod.snd y0)) (Int.toNat (1)) (Ty.dflt ty33))) (4))
             (
              cond (Ops.inb B (1) (List.length (Prod.snd (Prod.snd y0))))
               (
                cond (Prod.fst (Prod.snd (List.getD (Prod.snd (Prod.snd y0)) (Int.toNat (1)) (Ty.dflt ty33))) == Array.toList (ByteArray.data { data := List.toArray (60 :: 61 :: mt UInt8) }))
                 (
                  cond (Ops.inb B (2) (List.length (Prod.snd (Prod.snd y0))))
                   (
                    cond (Ops.eq B (Prod.fst (List.getD (Prod.snd (Prod.snd y0)) (Int.toNat (2)) (Ty.dflt ty33))) (1))
                     (
                      cond (Ops.inb B (2) (List.length (Prod.snd (Prod.snd y0))))
                       (
                        cond (Ops.eq B (Prod.fst (Prod.snd (Prod.snd (List.getD (Prod.snd (Prod.snd y0)) (Int.toNat (2)) (Ty.dflt ty33))))) (10))
                         (
                          cond (Ops.inb B (3) (List.length (Prod.snd (Prod.snd y0))))
                           (
                            cond (Ops.eq B (Prod.fst (List.getD (Prod.snd (Prod.snd y0)) (Int.toNat (3)) (Ty.dflt ty33))) (5))
                             (
                              cond (Ops.inb B (3) (List.length (Prod.snd (Prod.snd y0))))
                               (
                                k (Ops.eq B (Prod.snd (Prod.snd (Prod.snd (List.getD (Prod.snd (Prod.snd y0)) (Int.toNat (3)) (Ty.dflt ty33))))) (5)))
                               (
                                none))
                             (
                              k false))
                           (
                            none))
                         (
                          k false))
                       (
                        none))
                     (
                      k false))
                   (
                    none))
                 (
                  k false))
               (
                none))
             (
              k false))
           (
            none))
         (
          k false))
       (
        none))
     (
      k false))
   (
    k false)
theorem eq11 {R : Type} (B : Ops) (c13 : List UInt8 → Option (Int × Int × (List ty33.den))) (k : AV → Objs → Option R) (n : Nat) : afun tau B gl0 X11 (ent 13 (e13 c13) (gnil)) ow Try.f11 [] [] k n = T11 B c13 (fun y => k (.c (.bool y)) []) := by kernel_rfl
theorem nt11 {R R' : Type} (B : Ops) (c13 : List UInt8 → Option (Int × Int × (List ty33.den))) (k0 : (Bool) → Option R') (k : R' → Option R) : T11 B c13 (fun y => ob (k0 y) k) = ob (T11 B c13 k0) k := by
  unfold T11
  repeat' first | exact rfl | apply nat_cond | (apply nat_ob; intro)
def F11 (c13 : List UInt8 → Option (Int × Int × (List ty33.den))) : Option (Bool) := T11 Ops.std c13 some
theorem fo11 {R : Type} (c13 : List UInt8 → Option (Int × Int × (List ty33.den))) (k : AV → Objs → Option R) (n : Nat) : afun tau Ops.std gl0 X11 (ent 13 (e13 c13) (gnil)) ow Try.f11 [] [] k n = ob (F11 c13) (fun y => k (.c (.bool y)) []) := by rw [eq11]; exact nt11 Ops.std c13 some (fun y => k (.c (.bool y)) [])
def e11 {R : Type} (c : Option (Bool)) : Ent R := fun args objs k =>
  oNil args <| oNilO objs <| ob (c ) fun y => k (.c (.bool y)) []
abbrev Sp11 (c : Option (Bool)) : Prop := ∀ (y : Bool), c = some y → Spec Try.prog gl0 11 [] [] (.c (.bool y)) []
theorem ek11 {R : Type} {c : Option (Bool)} (hs : Sp11 c) : EOk 11 (e11 (R := R) c) := fun args objs k r h => by
  unfold e11 at h
  obtain ⟨rfl, q1⟩ := oNil_some h
  obtain ⟨rfl, q2⟩ := oNilO_some q1
  exact eok_of (hs ) q2
theorem sf11 {c13 : List UInt8 → Option (Int × Int × (List ty33.den))} (h13 : Sp13 c13) : Sp11 (F11 c13) := fun y hy => by
  refine spec_of (G := ent 13 (e13 c13) (gnil)) (ent_ok (ek13 h13) (gnil_ok)) 1000000 (fn := Try.f11) (by kernel_rfl) (by kernel_rfl) (X := X11) (by kernel_rfl) ?_
  rw [fo11, hy]
  rfl
noncomputable def M11 : Option (Bool) := F11 M13
theorem sm11 : Sp11 M11 := sf11 sm13

/-! ### 3: lariat/lariatlaw7.LexJoins -/
def X3 : Aux := ⟨[(7, [2, 3, 4, 9, 10, 11, 12, 13, 14, 15, 16, 17, 18, 19, 20, 21, 22, 23, 24, 25, 26, 27, 28, 29, 30, 31, 32, 33, 34, 35, 36, 37, 38, 39, 40, 41, 42, 43, 44, 45, 46, 47, 48, 49, 50, 51, 52, 53, 54, 55, 56, 57, 58, 59, 60, 61, 62, 63, 64, 65, 66, 67, 68, 69, 70, 71, 72, 73, 74, 75, 76, 77, 78, 79, 80, 81, 82, 83, 84, 85, 86, 87, 88, 89, 90, 91, 92, 93, 94, 95, 96, 97, 98, 99, 100, 101, 102, 103, 104, 105, 106, 107, 108, 109, 110, 111, 112, 113, 114, 115, 116, 117, 118, 119, 120, 121, 122, 123, 124, 125, 126, 127, 128]), (21, [0, 1, 2, 3, 4, 5, 6, 8, 9, 10, 12, 13, 14, 15, 16, 17, 18, 19, 20, 21, 22, 23, 24, 25, 26, 27, 28, 29, 30, 31, 32, 33, 34, 35, 36, 37, 38, 39, 40, 41, 42, 43, 44, 45, 46, 47, 48, 49, 50, 51, 52, 53, 54, 55, 56, 57, 58, 59, 60, 61, 62, 63, 64, 65, 66, 67, 68, 69, 70, 71, 72, 73, 74, 75, 76, 77, 78, 79, 80, 81, 82, 83, 84, 85, 86, 87, 88, 89, 90, 91, 92, 93, 94, 95, 96, 97, 98, 99, 100, 101, 102, 103, 104, 105, 106, 109, 110, 111, 112, 113, 114, 115, 116, 117, 118, 119, 120, 121, 122, 123, 124, 125, 126, 127, 128]), (1000011, [2, 3, 4, 11, 12, 13, 14, 15, 16, 17, 18, 19, 20, 21, 22, 23, 24, 25, 26, 27, 28, 29, 30, 31, 32, 33, 34, 35, 36, 37, 38, 39, 40, 41, 42, 43, 44, 45, 46, 47, 48, 49, 50, 51, 52, 53, 54, 55, 56, 57, 58, 59, 60, 61, 62, 63, 64, 65, 66, 67, 68, 69, 70, 71, 72, 73, 74, 75, 76, 77, 78, 79, 80, 81, 82, 83, 84, 85, 86, 87, 88, 89, 90, 91, 92, 93, 94, 95, 96, 97, 98, 99, 100, 101, 102, 103, 104, 105, 106, 107, 108, 109, 110, 111, 112, 113, 114, 115, 116, 117, 118, 119, 120, 121, 122, 123, 124, 125, 126, 127, 128]), (1000016, [2, 3, 4, 10, 11, 12, 13, 14, 15, 16, 17, 18, 19, 20, 21, 22, 23, 24, 25, 26, 27, 28, 29, 30, 31, 32, 33, 34, 35, 36, 37, 38, 39, 40, 41, 42, 43, 44, 45, 46, 47, 48, 49, 50, 51, 52, 53, 54, 55, 56, 57, 58, 59, 60, 61, 62, 63, 64, 65, 66, 67, 68, 69, 70, 71, 72, 73, 74, 75, 76, 77, 78, 79, 80, 81, 82, 83, 84, 85, 86, 87, 88, 89, 90, 91, 92, 93, 94, 95, 96, 97, 98, 99, 100, 101, 102, 103, 104, 105, 106, 107, 108, 109, 110, 111, 112, 113, 114, 115, 116, 117, 118, 119, 120, 121, 122, 123, 124, 125, 126, 127, 128]), (1000020, [0, 1, 2, 3, 4, 5, 6, 8, 9, 10, 12, 13, 14, 15, 16, 17, 18, 19, 20, 21, 22, 23, 24, 25, 26, 27, 28, 29, 30, 31, 32, 33, 34, 35, 36, 37, 38, 39, 40, 41, 42, 43, 44, 45, 46, 47, 48, 49, 50, 51, 52, 53, 54, 55, 56, 57, 58, 59, 60, 61, 62, 63, 64, 65, 66, 67, 68, 69, 70, 71, 72, 73, 74, 75, 76, 77, 78, 79, 80, 81, 82, 83, 84, 85, 86, 87, 88, 89, 90, 91, 92, 93, 94, 95, 96, 97, 98, 99, 100, 101, 102, 103, 104, 105, 106, 107, 108, 109, 110, 111, 112, 113, 114, 115, 116, 117, 118, 119, 120, 121, 122, 123, 124, 125, 126, 127, 128])], [(23, [0, 1, 2, 3, 4, 5, 6, 7, 8, 9])]⟩
inductive S3 where
  | l0 (v0_2 : List UInt8) (v0_3 : Int) (v0_30 : List ty9.den)
  | l1 (v1_0 : Int) (v1_1 : Int) (v1_2 : List ty9.den) (v1_3 : List ty33.den)
  | l1011 (v1011_2 : List UInt8) (v1011_3 : Int) (v1011_4 : Int) (v1011_5 : Bool) (v1011_32 : List ty9.den)
  | l1016 (v1016_2 : List UInt8) (v1016_3 : Int) (v1016_4 : Int) (v1016_31 : List ty9.den)
  | l1020 (v1020_0 : List ty9.den) (v1020_1 : List ty33.den)
def T3 {R : Type} (B : Ops) (c11 : Option (Bool)) (c12 : Int → Int → Option (Int)) (c13 : List UInt8 → Option (Int × Int × (List ty33.den))) (p0 : List ty3.den) (p1 : List ty4.den) (again : S3 → Option R) (k : (Bool) → Option R) : Option S3 → Option R
  | none =>
    ob (c11) fun y0 =>
    cond (!y0)
     (
      k false)
     (
      again (.l0 (mt UInt8) 0 (mt (Ty.den Ty.str))))
  | some (.l0 v0_2 v0_3 v0_30) =>
    cond (Ops.lt B v0_3 (Nat.cast (List.length p0)))
     (
      cond (Ops.lt B v0_3 (50))
       (
        cond (Ops.inb B v0_3 (List.length p0))
         (
          ob (c12 (List.getD p0 (Int.toNat v0_3) (Ty.dflt ty3)) (26)) fun y0 =>
          cond (Ops.lt B v0_3 (Nat.cast (List.length p1)))
           (
            cond (Ops.inb B v0_3 (List.length p1))
             (
              cond (List.getD p1 (Int.toNat v0_3) (Ty.dflt ty4))
               (
                cond (Ops.lt B y0 (4))
                 (
                  again (.l1011 v0_2 v0_3 y0 true v0_30))
                 (
                  cond (Ops.eq B y0 (20))
                   (
                    again (.l1011 v0_2 v0_3 y0 true v0_30))
                   (
                    again (.l1011 v0_2 v0_3 y0 (Ops.eq B y0 (21)) v0_30))))
               (
                again (.l1011 v0_2 v0_3 y0 false v0_30)))
             (
              none))
           (
            again (.l1011 v0_2 v0_3 y0 false v0_30)))
         (
          none))
       (
        ob (c13 v0_2) fun y0 =>
        ob (c11) fun y1 =>
        cond (!y1)
         (
          k false)
         (
          cond (!Ops.eq B (Prod.fst y0) (0))
           (
            k false)
           (
            cond (!Ops.eq B (Prod.fst (Prod.snd y0)) (0))
             (
              k false)
             (
              cond (!Ops.eq B (Nat.cast (List.length (Prod.snd (Prod.snd y0)))) (IntKind.wrap IntKind.i64 (Nat.cast (List.length v0_30) + 1)))
               (
                k false)
               (
                again (.l1020 v0_30 (Prod.snd (Prod.snd y0)))))))))
     (
      ob (c13 v0_2) fun y0 =>
      ob (c11) fun y1 =>
      cond (!y1)
       (
        k false)
       (
        cond (!Ops.eq B (Prod.fst y0) (0))
         (
          k false)
         (
          cond (!Ops.eq B (Prod.fst (Prod.snd y0)) (0))
           (
            k false)
           (
            cond (!Ops.eq B (Nat.cast (List.length (Prod.snd (Prod.snd y0)))) (IntKind.wrap IntKind.i64 (Nat.cast (List.length v0_30) + 1)))
             (
              k false)
             (
              again (.l1020 v0_30 (Prod.snd (Prod.snd y0))))))))
  | some (.l1 v1_0 v1_1 v1_2 v1_3) =>
    cond (Ops.lt B v1_1 v1_0)
     (
      cond (Ops.inb B v1_1 (List.length v1_3))
       (
        cond (Ops.inb B v1_1 (List.length v1_2))
         (
          cond (!Prod.fst (Prod.snd (List.getD v1_3 (Int.toNat v1_1) (Ty.dflt ty33))) == List.getD v1_2 (Int.toNat v1_1) (Ty.dflt ty9))
           (
            k false)
           (
            again (.l1 v1_0 (IntKind.wrap IntKind.i64 (v1_1 + 1)) v1_2 v1_3)))
         (
          none))
       (
        none))
     (
      cond (Ops.inb B (Nat.cast (List.length v1_2)) (List.length v1_3))
       (
        k (Ops.eq B (Prod.fst (List.getD v1_3 (Int.toNat (Nat.cast (List.length v1_2))) (Ty.dflt ty33))) (5)))
       (
        none))
  | some (.l1011 v1011_2 v1011_3 v1011_4 v1011_5 v1011_32) =>
    cond (!v1011_5)
     (
      cond (Ops.lim B (List.length v1011_2 + 1) (1))
       (
        cond (Ops.inb B v1011_4 (26))
         (
          cond (Ops.lim B (List.length (v1011_2 ++ ([32] : List UInt8)) + List.length (List.getD (([40] : List UInt8) :: ([41] : List UInt8) :: ([91] : List UInt8) :: ([93] : List UInt8) :: ([43] : List UInt8) :: ([45] : List UInt8) :: ([42] : List UInt8) :: ([60] : List UInt8) :: ([60, 61] : List UInt8) :: ([62] : List UInt8) :: ([62, 61] : List UInt8) :: ([61, 61] : List UInt8) :: ([33, 61] : List UInt8) :: ([38, 38] : List UInt8) :: ([124, 124] : List UInt8) :: ([33] : List UInt8) :: ([64] : List UInt8) :: ([45, 62] : List UInt8) :: ([59] : List UInt8) :: ([61] : List UInt8) :: ([88] : List UInt8) :: ([85] : List UInt8) :: ([120] : List UInt8) :: ([97, 98, 95, 49] : List UInt8) :: ([55] : List UInt8) :: ([49, 50, 51] : List UInt8) :: mt (List UInt8)) (Int.toNat v1011_4) (mt UInt8))) (1))
           (
            cond (Ops.le B (22) v1011_4)
             (
              cond (Ops.lim B (List.length (v1011_2 ++ ([32] : List UInt8) ++ List.getD (([40] : List UInt8) :: ([41] : List UInt8) :: ([91] : List UInt8) :: ([93] : List UInt8) :: ([43] : List UInt8) :: ([45] : List UInt8) :: ([42] : List UInt8) :: ([60] : List UInt8) :: ([60, 61] : List UInt8) :: ([62] : List UInt8) :: ([62, 61] : List UInt8) :: ([61, 61] : List UInt8) :: ([33, 61] : List UInt8) :: ([38, 38] : List UInt8) :: ([124, 124] : List UInt8) :: ([33] : List UInt8) :: ([64] : List UInt8) :: ([45, 62] : List UInt8) :: ([59] : List UInt8) :: ([61] : List UInt8) :: ([88] : List UInt8) :: ([85] : List UInt8) :: ([120] : List UInt8) :: ([97, 98, 95, 49] : List UInt8) :: ([55] : List UInt8) :: ([49, 50, 51] : List UInt8) :: mt (List UInt8)) (Int.toNat v1011_4) (mt UInt8)) + 1) (1))
               (
                again (.l1016 (v1011_2 ++ ([32] : List UInt8) ++ List.getD (([40] : List UInt8) :: ([41] : List UInt8) :: ([91] : List UInt8) :: ([93] : List UInt8) :: ([43] : List UInt8) :: ([45] : List UInt8) :: ([42] : List UInt8) :: ([60] : List UInt8) :: ([60, 61] : List UInt8) :: ([62] : List UInt8) :: ([62, 61] : List UInt8) :: ([61, 61] : List UInt8) :: ([33, 61] : List UInt8) :: ([38, 38] : List UInt8) :: ([124, 124] : List UInt8) :: ([33] : List UInt8) :: ([64] : List UInt8) :: ([45, 62] : List UInt8) :: ([59] : List UInt8) :: ([61] : List UInt8) :: ([88] : List UInt8) :: ([85] : List UInt8) :: ([120] : List UInt8) :: ([97, 98, 95, 49] : List UInt8) :: ([55] : List UInt8) :: ([49, 50, 51] : List UInt8) :: mt (List UInt8)) (Int.toNat v1011_4) (mt UInt8) ++ ([32] : List UInt8)) v1011_3 v1011_4 v1011_32))
               (
                none))
             (
              cond (Ops.le B (4) v1011_4)
               (
                cond (Ops.lt B v1011_4 (20))
                 (
                  cond (Ops.lim B (List.length (v1011_2 ++ ([32] : List UInt8) ++ List.getD (([40] : List UInt8) :: ([41] : List UInt8) :: ([91] : List UInt8) :: ([93] : List UInt8) :: ([43] : List UInt8) :: ([45] : List UInt8) :: ([42] : List UInt8) :: ([60] : List UInt8) :: ([60, 61] : List UInt8) :: ([62] : List UInt8) :: ([62, 61] : List UInt8) :: ([61, 61] : List UInt8) :: ([33, 61] : List UInt8) :: ([38, 38] : List UInt8) :: ([124, 124] : List UInt8) :: ([33] : List UInt8) :: ([64] : List UInt8) :: ([45, 62] : List UInt8) :: ([59] : List UInt8) :: ([61] : List UInt8) :: ([88] : List UInt8) :: ([85] : List UInt8) :: ([120] : List UInt8) :: ([97, 98, 95, 49] : List UInt8) :: ([55] : List UInt8) :: ([49, 50, 51] : List UInt8) :: mt (List UInt8)) (Int.toNat v1011_4) (mt UInt8)) + 1) (1))
                   (
                    again (.l1016 (v1011_2 ++ ([32] : List UInt8) ++ List.getD (([40] : List UInt8) :: ([41] : List UInt8) :: ([91] : List UInt8) :: ([93] : List UInt8) :: ([43] : List UInt8) :: ([45] : List UInt8) :: ([42] : List UInt8) :: ([60] : List UInt8) :: ([60, 61] : List UInt8) :: ([62] : List UInt8) :: ([62, 61] : List UInt8) :: ([61, 61] : List UInt8) :: ([33, 61] : List UInt8) :: ([38, 38] : List UInt8) :: ([124, 124] : List UInt8) :: ([33] : List UInt8) :: ([64] : List UInt8) :: ([45, 62] : List UInt8) :: ([59] : List UInt8) :: ([61] : List UInt8) :: ([88] : List UInt8) :: ([85] : List UInt8) :: ([120] : List UInt8) :: ([97, 98, 95, 49] : List UInt8) :: ([55] : List UInt8) :: ([49, 50, 51] : List UInt8) :: mt (List UInt8)) (Int.toNat v1011_4) (mt UInt8) ++ ([32] : List UInt8)) v1011_3 v1011_4 v1011_32))
                   (
                    none))
                 (
                  again (.l1016 (v1011_2 ++ ([32] : List UInt8) ++ List.getD (([40] : List UInt8) :: ([41] : List UInt8) :: ([91] : List UInt8) :: ([93] : List UInt8) :: ([43] : List UInt8) :: ([45] : List UInt8) :: ([42] : List UInt8) :: ([60] : List UInt8) :: ([60, 61] : List UInt8) :: ([62] : List UInt8) :: ([62, 61] : List UInt8) :: ([61, 61] : List UInt8) :: ([33, 61] : List UInt8) :: ([38, 38] : List UInt8) :: ([124, 124] : List UInt8) :: ([33] : List UInt8) :: ([64] : List UInt8) :: ([45, 62] : List UInt8) :: ([59] : List UInt8) :: ([61] : List UInt8) :: ([88] : List UInt8) :: ([85] : List UInt8) :: ([120] : List UInt8) :: ([97, 98, 95, 49] : List UInt8) :: ([55] : List UInt8) :: ([49, 50, 51] : List UInt8) :: mt (List UInt8)) (Int.toNat v1011_4) (mt UInt8)) v1011_3 v1011_4 v1011_32)))
               (
                again (.l1016 (v1011_2 ++ ([32] : List UInt8) ++ List.getD (([40] : List UInt8) :: ([41] : List UInt8) :: ([91] : List UInt8) :: ([93] : List UInt8) :: ([43] : List UInt8) :: ([45] : List UInt8) :: ([42] : List UInt8) :: ([60] : List UInt8) :: ([60, 61] : List UInt8) :: ([62] : List UInt8) :: ([62, 61] : List UInt8) :: ([61, 61] : List UInt8) :: ([33, 61] : List UInt8) :: ([38, 38] : List UInt8) :: ([124, 124] : List UInt8) :: ([33] : List UInt8) :: ([64] : List UInt8) :: ([45, 62] : List UInt8) :: ([59] : List UInt8) :: ([61] : List UInt8) :: ([88] : List UInt8) :: ([85] : List UInt8) :: ([120] : List UInt8) :: ([97, 98, 95, 49] : List UInt8) :: ([55] : List UInt8) :: ([49, 50, 51] : List UInt8) :: mt (List UInt8)) (Int.toNat v1011_4) (mt UInt8)) v1011_3 v1011_4 v1011_32))))
           (
            none))
         (
          none))
       (
        none))
     (
      cond (Ops.inb B v1011_4 (26))
       (
        cond (Ops.lim B (List.length v1011_2 + List.length (List.getD (([40] : List UInt8) :: ([41] : List UInt8) :: ([91] : List UInt8) :: ([93] : List UInt8) :: ([43] : List UInt8) :: ([45] : List UInt8) :: ([42] : List UInt8) :: ([60] : List UInt8) :: ([60, 61] : List UInt8) :: ([62] : List UInt8) :: ([62, 61] : List UInt8) :: ([61, 61] : List UInt8) :: ([33, 61] : List UInt8) :: ([38, 38] : List UInt8) :: ([124, 124] : List UInt8) :: ([33] : List UInt8) :: ([64] : List UInt8) :: ([45, 62] : List UInt8) :: ([59] : List UInt8) :: ([61] : List UInt8) :: ([88] : List UInt8) :: ([85] : List UInt8) :: ([120] : List UInt8) :: ([97, 98, 95, 49] : List UInt8) :: ([55] : List UInt8) :: ([49, 50, 51] : List UInt8) :: mt (List UInt8)) (Int.toNat v1011_4) (mt UInt8))) (1))
         (
          cond (Ops.le B (22) v1011_4)
           (
            cond (Ops.lim B (List.length (v1011_2 ++ List.getD (([40] : List UInt8) :: ([41] : List UInt8) :: ([91] : List UInt8) :: ([93] : List UInt8) :: ([43] : List UInt8) :: ([45] : List UInt8) :: ([42] : List UInt8) :: ([60] : List UInt8) :: ([60, 61] : List UInt8) :: ([62] : List UInt8) :: ([62, 61] : List UInt8) :: ([61, 61] : List UInt8) :: ([33, 61] : List UInt8) :: ([38, 38] : List UInt8) :: ([124, 124] : List UInt8) :: ([33] : List UInt8) :: ([64] : List UInt8) :: ([45, 62] : List UInt8) :: ([59] : List UInt8) :: ([61] : List UInt8) :: ([88] : List UInt8) :: ([85] : List UInt8) :: ([120] : List UInt8) :: ([97, 98, 95, 49] : List UInt8) :: ([55] : List UInt8) :: ([49, 50, 51] : List UInt8) :: mt (List UInt8)) (Int.toNat v1011_4) (mt UInt8)) + 1) (1))
             (
              again (.l1016 (v1011_2 ++ List.getD (([40] : List UInt8) :: ([41] : List UInt8) :: ([91] : List UInt8) :: ([93] : List UInt8) :: ([43] : List UInt8) :: ([45] : List UInt8) :: ([42] : List UInt8) :: ([60] : List UInt8) :: ([60, 61] : List UInt8) :: ([62] : List UInt8) :: ([62, 61] : List UInt8) :: ([61, 61] : List UInt8) :: ([33, 61] : List UInt8) :: ([38, 38] : List UInt8) :: ([124, 124] : List UInt8) :: ([33] : List UInt8) :: ([64] : List UInt8) :: ([45, 62] : List UInt8) :: ([59] : List UInt8) :: ([61] : List UInt8) :: ([88] : List UInt8) :: ([85] : List UInt8) :: ([120] : List UInt8) :: ([97, 98, 95, 49] : List UInt8) :: ([55] : List UInt8) :: ([49, 50, 51] : List UInt8) :: mt (List UInt8)) (Int.toNat v1011_4) (mt UInt8) ++ ([32] : List UInt8)) v1011_3 v1011_4 v1011_32))
             (
              none))
           (
            cond (Ops.le B (4) v1011_4)
             (
              cond (Ops.lt B v1011_4 (20))
               (
                cond (Ops.lim B (List.length (v1011_2 ++ List.getD (([40] : List UInt8) :: ([41] : List UInt8) :: ([91] : List UInt8) :: ([93] : List UInt8) :: ([43] : List UInt8) :: ([45] : List UInt8) :: ([42] : List UInt8) :: ([60] : List UInt8) :: ([60, 61] : List UInt8) :: ([62] : List UInt8) :: ([62, 61] : List UInt8) :: ([61, 61] : List UInt8) :: ([33, 61] : List UInt8) :: ([38, 38] : List UInt8) :: ([124, 124] : List UInt8) :: ([33] : List UInt8) :: ([64] : List UInt8) :: ([45, 62] : List UInt8) :: ([59] : List UInt8) :: ([61] : List UInt8) :: ([88] : List UInt8) :: ([85] : List UInt8) :: ([120] : List UInt8) :: ([97, 98, 95, 49] : List UInt8) :: ([55] : List UInt8) :: ([49, 50, 51] : List UInt8) :: mt (List UInt8)) (Int.toNat v1011_4) (mt UInt8)) + 1) (1))
                 (
                  again (.l1016 (v1011_2 ++ List.getD (([40] : List UInt8) :: ([41] : List UInt8) :: ([91] : List UInt8) :: ([93] : List UInt8) :: ([43] : List UInt8) :: ([45] : List UInt8) :: ([42] : List UInt8) :: ([60] : List UInt8) :: ([60, 61] : List UInt8) :: ([62] : List UInt8) :: ([62, 61] : List UInt8) :: ([61, 61] : List UInt8) :: ([33, 61] : List UInt8) :: ([38, 38] : List UInt8) :: ([124, 124] : List UInt8) :: ([33] : List UInt8) :: ([64] : List UInt8) :: ([45, 62] : List UInt8) :: ([59] : List UInt8) :: ([61] : List UInt8) :: ([88] : List UInt8) :: ([85] : List UInt8) :: ([120] : List UInt8) :: ([97, 98, 95, 49] : List UInt8) :: ([55] : List UInt8) :: ([49, 50, 51] : List UInt8) :: mt (List UInt8)) (Int.toNat v1011_4) (mt UInt8) ++ ([32] : List UInt8)) v1011_3 v1011_4 v1011_32))
                 (
                  none))
               (
                again (.l1016 (v1011_2 ++ List.getD (([40] : List UInt8) :: ([41] : List UInt8) :: ([91] : List UInt8) :: ([93] : List UInt8) :: ([43] : List UInt8) :: ([45] : List UInt8) :: ([42] : List UInt8) :: ([60] : List UInt8) :: ([60, 61] : List UInt8) :: ([62] : List UInt8) :: ([62, 61] : List UInt8) :: ([61, 61] : List UInt8) :: ([33, 61] : List UInt8) :: ([38, 38] : List UInt8) :: ([124, 124] : List UInt8) :: ([33] : List UInt8) :: ([64] : List UInt8) :: ([45, 62] : List UInt8) :: ([59] : List UInt8) :: ([61] : List UInt8) :: ([88] : List UInt8) :: ([85] : List UInt8) :: ([120] : List UInt8) :: ([97, 98, 95, 49] : List UInt8) :: ([55] : List UInt8) :: ([49, 50, 51] : List UInt8) :: mt (List UInt8)) (Int.toNat v1011_4) (mt UInt8)) v1011_3 v1011_4 v1011_32)))
             (
              again (.l1016 (v1011_2 ++ List.getD (([40] : List UInt8) :: ([41] : List UInt8) :: ([91] : List UInt8) :: ([93] : List UInt8) :: ([43] : List UInt8) :: ([45] : List UInt8) :: ([42] : List UInt8) :: ([60] : List UInt8) :: ([60, 61] : List UInt8) :: ([62] : List UInt8) :: ([62, 61] : List UInt8) :: ([61, 61] : List UInt8) :: ([33, 61] : List UInt8) :: ([38, 38] : List UInt8) :: ([124, 124] : List UInt8) :: ([33] : List UInt8) :: ([64] : List UInt8) :: ([45, 62] : List UInt8) :: ([59] : List UInt8) :: ([61] : List UInt8) :: ([88] : List UInt8) :: ([85] : List UInt8) :: ([120] : List UInt8) :: ([97, 98, 95, 49] : List UInt8) :: ([55] : List UInt8) :: ([49, 50, 51] : List UInt8) :: mt (List UInt8)) (Int.toNat v1011_4) (mt UInt8)) v1011_3 v1011_4 v1011_32))))
         (
          none))
       (
        none))
  | some (.l1016 v1016_2 v1016_3 v1016_4 v1016_31) =>
    cond (Ops.inb B v1016_4 (26))
     (
      cond (Ops.lim B (List.length v1016_31 + List.length (List.getD (([40] : List UInt8) :: ([41] : List UInt8) :: ([91] : List UInt8) :: ([93] : List UInt8) :: ([43] : List UInt8) :: ([45] : List UInt8) :: ([42] : List UInt8) :: ([60] : List UInt8) :: ([60, 61] : List UInt8) :: ([62] : List UInt8) :: ([62, 61] : List UInt8) :: ([61, 61] : List UInt8) :: ([33, 61] : List UInt8) :: ([38, 38] : List UInt8) :: ([124, 124] : List UInt8) :: ([33] : List UInt8) :: ([64] : List UInt8) :: ([45, 62] : List UInt8) :: ([59] : List UInt8) :: ([61] : List UInt8) :: ([88] : List UInt8) :: ([85] : List UInt8) :: ([120] : List UInt8) :: ([97, 98, 95, 49] : List UInt8) :: ([55] : List UInt8) :: ([49, 50, 51] : List UInt8) :: mt (List UInt8)) (Int.toNat v1016_4) (mt UInt8) :: mt (Ty.den Ty.str))) (16))
       (
        again (.l0 v1016_2 (IntKind.wrap IntKind.i64 (v1016_3 + 1)) (v1016_31 ++ List.getD (([40] : List UInt8) :: ([41] : List UInt8) :: ([91] : List UInt8) :: ([93] : List UInt8) :: ([43] : List UInt8) :: ([45] : List UInt8) :: ([42] : List UInt8) :: ([60] : List UInt8) :: ([60, 61] : List UInt8) :: ([62] : List UInt8) :: ([62, 61] : List UInt8) :: ([61, 61] : List UInt8) :: ([33, 61] : List UInt8) :: ([38, 38] : List UInt8) :: ([124, 124] : List UInt8) :: ([33] : List UInt8) :: ([64] : List UInt8) :: ([45, 62] : List UInt8) :: ([59] : List UInt8) :: ([61] : List UInt8) :: ([88] : List UInt8) :: ([85] : List UInt8) :: ([120] : List UInt8) :: ([97, 98, 95, 49] : List UInt8) :: ([55] : List UInt8) :: ([49, 50, 51] : List UInt8) :: mt (List UInt8)) (Int.toNat v1016_4) (mt UInt8) :: mt (Ty.den Ty.str))))
       (
        none))
     (
      none)
  | some (.l1020 v1020_0 v1020_1) =>
    again (.l1 (Nat.cast (List.length v1020_0)) 0 v1020_0 v1020_1)
def E3 (p0 : List ty3.den) (p1 : List ty4.den) : S3 → List AV × Objs
  | .l0 v0_2 v0_3 v0_30 => (mk 129 [(0, .c (.list 3 ty3 p0)), (1, .c (.list 4 ty4 p1)), (5, .c (.ptr 5 0)), (6, .c (.str v0_2)), (7, .c (.own 7)), (8, .c (.int .i64 v0_3))], [(5, .box 25 [.str ([40] : List UInt8), .str ([41] : List UInt8), .str ([91] : List UInt8), .str ([93] : List UInt8), .str ([43] : List UInt8), .str ([45] : List UInt8), .str ([42] : List UInt8), .str ([60] : List UInt8), .str ([60, 61] : List UInt8), .str ([62] : List UInt8), .str ([62, 61] : List UInt8), .str ([61, 61] : List UInt8), .str ([33, 61] : List UInt8), .str ([38, 38] : List UInt8), .str ([124, 124] : List UInt8), .str ([33] : List UInt8), .str ([64] : List UInt8), .str ([45, 62] : List UInt8), .str ([59] : List UInt8), .str ([61] : List UInt8), .str ([88] : List UInt8), .str ([85] : List UInt8), .str ([120] : List UInt8), .str ([97, 98, 95, 49] : List UInt8), .str ([55] : List UInt8), .str ([49, 50, 51] : List UInt8)]), (7, .row 9 ty9 v0_30)])
  | .l1 v1_0 v1_1 v1_2 v1_3 => (mk 129 [(7, .c (.own 7)), (11, .c (.own 11)), (107, .c (.int .i64 v1_0)), (108, .c (.int .i64 v1_1))], [(7, .row 9 ty9 v1_2), (11, .row 33 ty33 v1_3)])
  | .l1011 v1011_2 v1011_3 v1011_4 v1011_5 v1011_32 => (mk 129 [(0, .c (.list 3 ty3 p0)), (1, .c (.list 4 ty4 p1)), (5, .c (.ptr 5 0)), (6, .c (.str v1011_2)), (7, .c (.own 7)), (8, .c (.int .i64 v1011_3)), (9, .c (.int .i64 v1011_4)), (10, .c (.bool v1011_5))], [(5, .box 25 [.str ([40] : List UInt8), .str ([41] : List UInt8), .str ([91] : List UInt8), .str ([93] : List UInt8), .str ([43] : List UInt8), .str ([45] : List UInt8), .str ([42] : List UInt8), .str ([60] : List UInt8), .str ([60, 61] : List UInt8), .str ([62] : List UInt8), .str ([62, 61] : List UInt8), .str ([61, 61] : List UInt8), .str ([33, 61] : List UInt8), .str ([38, 38] : List UInt8), .str ([124, 124] : List UInt8), .str ([33] : List UInt8), .str ([64] : List UInt8), .str ([45, 62] : List UInt8), .str ([59] : List UInt8), .str ([61] : List UInt8), .str ([88] : List UInt8), .str ([85] : List UInt8), .str ([120] : List UInt8), .str ([97, 98, 95, 49] : List UInt8), .str ([55] : List UInt8), .str ([49, 50, 51] : List UInt8)]), (7, .row 9 ty9 v1011_32)])
  | .l1016 v1016_2 v1016_3 v1016_4 v1016_31 => (mk 129 [(0, .c (.list 3 ty3 p0)), (1, .c (.list 4 ty4 p1)), (5, .c (.ptr 5 0)), (6, .c (.str v1016_2)), (7, .c (.own 7)), (8, .c (.int .i64 v1016_3)), (9, .c (.int .i64 v1016_4))], [(5, .box 25 [.str ([40] : List UInt8), .str ([41] : List UInt8), .str ([91] : List UInt8), .str ([93] : List UInt8), .str ([43] : List UInt8), .str ([45] : List UInt8), .str ([42] : List UInt8), .str ([60] : List UInt8), .str ([60, 61] : List UInt8), .str ([62] : List UInt8), .str ([62, 61] : List UInt8), .str ([61, 61] : List UInt8), .str ([33, 61] : List UInt8), .str ([38, 38] : List UInt8), .str ([124, 124] : List UInt8), .str ([33] : List UInt8), .str ([64] : List UInt8), .str ([45, 62] : List UInt8), .str ([59] : List UInt8), .str ([61] : List UInt8), .str ([88] : List UInt8), .str ([85] : List UInt8), .str ([120] : List UInt8), .str ([97, 98, 95, 49] : List UInt8), .str ([55] : List UInt8), .str ([49, 50, 51] : List UInt8)]), (7, .row 9 ty9 v1016_31)])
  | .l1020 v1020_0 v1020_1 => (mk 129 [(7, .c (.own 7)), (11, .c (.own 11))], [(7, .row 9 ty9 v1020_0), (11, .row 33 ty33 v1020_1)])
def I3 : S3 → Nat
  | .l0 _ _ _ => 0
  | .l1 _ _ _ _ => 1
  | .l1011 _ _ _ _ _ => 1011
  | .l1016 _ _ _ _ => 1016
  | .l1020 _ _ => 1020
theorem eq3 {R : Type} (B : Ops) (c11 : Option (Bool)) (c12 : Int → Int → Option (Int)) (c13 : List UInt8 → Option (Int × Int × (List ty33.den))) (p0 : List ty3.den) (p1 : List ty4.den) (k : AV → Objs → Option R) (n : Nat) : afun tau B gl0 X3 (ent 11 (e11 c11) (ent 12 (e12 c12) (ent 13 (e13 c13) (gnil)))) ow Try.f3 [.c (.list 3 ty3 p0), .c (.list 4 ty4 p1)] [] k n = T3 B c11 c12 c13 p0 p1 (fun s => aloop tau B gl0 X3 (ent 11 (e11 c11) (ent 12 (e12 c12) (ent 13 (e13 c13) (gnil)))) ow [] Try.f3 k (I3 s) (E3 p0 p1 s) n) (fun y => k (.c (.bool y)) []) none := by kernel_rfl
theorem el3 {R : Type} (B : Ops) (c11 : Option (Bool)) (c12 : Int → Int → Option (Int)) (c13 : List UInt8 → Option (Int × Int × (List ty33.den))) (p0 : List ty3.den) (p1 : List ty4.den) (k : AV → Objs → Option R) (n : Nat) : ∀ s, aloop tau B gl0 X3 (ent 11 (e11 c11) (ent 12 (e12 c12) (ent 13 (e13 c13) (gnil)))) ow [] Try.f3 k (I3 s) (E3 p0 p1 s) (n + 1) = T3 B c11 c12 c13 p0 p1 (fun s => aloop tau B gl0 X3 (ent 11 (e11 c11) (ent 12 (e12 c12) (ent 13 (e13 c13) (gnil)))) ow [] Try.f3 k (I3 s) (E3 p0 p1 s) n) (fun y => k (.c (.bool y)) []) (some s)
  | .l0 v0_2 v0_3 v0_30 => by kernel_rfl
  | .l1 v1_0 v1_1 v1_2 v1_3 => by kernel_rfl
  | .l1011 v1011_2 v1011_3 v1011_4 v1011_5 v1011_32 => by kernel_rfl
  | .l1016 v1016_2 v1016_3 v1016_4 v1016_31 => by kernel_rfl
  | .l1020 v1020_0 v1020_1 => by kernel_rfl
theorem nt3 {R R' : Type} (B : Ops) (c11 : Option (Bool)) (c12 : Int → Int → Option (Int)) (c13 : List UInt8 → Option (Int × Int × (List ty33.den))) (p0 : List ty3.den) (p1 : List ty4.den) (again : S3 → Option R) (again' : S3 → Option R') (k0 : (Bool) → Option R') (k : R' → Option R) (h : ∀ s, again s = ob (again' s) k) : ∀ s, T3 B c11 c12 c13 p0 p1 again (fun y => ob (k0 y) k) s = ob (T3 B c11 c12 c13 p0 p1 again' k0 s) k
  | none => by unfold T3; repeat' first | exact rfl | exact h _ | apply nat_cond | (apply nat_ob; intro)
  | some (.l0 v0_2 v0_3 v0_30) => by unfold T3; repeat' first | exact rfl | exact h _ | apply nat_cond | (apply nat_ob; intro)
  | some (.l1 v1_0 v1_1 v1_2 v1_3) => by unfold T3; repeat' first | exact rfl | exact h _ | apply nat_cond | (apply nat_ob; intro)
  | some (.l1011 v1011_2 v1011_3 v1011_4 v1011_5 v1011_32) => by unfold T3; repeat' first | exact rfl | exact h _ | apply nat_cond | (apply nat_ob; intro)
  | some (.l1016 v1016_2 v1016_3 v1016_4 v1016_31) => by unfold T3; repeat' first | exact rfl | exact h _ | apply nat_cond | (apply nat_ob; intro)
  | some (.l1020 v1020_0 v1020_1) => by unfold T3; repeat' first | exact rfl | exact h _ | apply nat_cond | (apply nat_ob; intro)
def R3 (c11 : Option (Bool)) (c12 : Int → Int → Option (Int)) (c13 : List UInt8 → Option (Int × Int × (List ty33.den))) (p0 : List ty3.den) (p1 : List ty4.den) : Nat → S3 → Option (Bool)
  | 0, _ => none
  | n + 1, s => T3 Ops.std c11 c12 c13 p0 p1 (R3 c11 c12 c13 p0 p1 n) some (some s)
theorem rr3 {R : Type} (c11 : Option (Bool)) (c12 : Int → Int → Option (Int)) (c13 : List UInt8 → Option (Int × Int × (List ty33.den))) (p0 : List ty3.den) (p1 : List ty4.den) (k : AV → Objs → Option R) : ∀ (n : Nat) (s : S3), aloop tau Ops.std gl0 X3 (ent 11 (e11 c11) (ent 12 (e12 c12) (ent 13 (e13 c13) (gnil)))) ow [] Try.f3 k (I3 s) (E3 p0 p1 s) n = ob (R3 c11 c12 c13 p0 p1 n s) (fun y => k (.c (.bool y)) [])
  | 0, s => by cases s <;> rfl
  | n + 1, s => by rw [el3]; exact nt3 Ops.std c11 c12 c13 p0 p1 _ _ some (fun y => k (.c (.bool y)) []) (rr3 c11 c12 c13 p0 p1 k n) (some s)
def F3 (c11 : Option (Bool)) (c12 : Int → Int → Option (Int)) (c13 : List UInt8 → Option (Int × Int × (List ty33.den))) (p0 : List ty3.den) (p1 : List ty4.den) : Option (Bool) := T3 Ops.std c11 c12 c13 p0 p1 (R3 c11 c12 c13 p0 p1 1000000) some none
theorem fo3 {R : Type} (c11 : Option (Bool)) (c12 : Int → Int → Option (Int)) (c13 : List UInt8 → Option (Int × Int × (List ty33.den))) (p0 : List ty3.den) (p1 : List ty4.den) (k : AV → Objs → Option R) : afun tau Ops.std gl0 X3 (ent 11 (e11 c11) (ent 12 (e12 c12) (ent 13 (e13 c13) (gnil)))) ow Try.f3 [.c (.list 3 ty3 p0), .c (.list 4 ty4 p1)] [] k 1000000 = ob (F3 c11 c12 c13 p0 p1) (fun y => k (.c (.bool y)) []) := by rw [eq3]; exact nt3 Ops.std c11 c12 c13 p0 p1 _ _ some (fun y => k (.c (.bool y)) []) (rr3 c11 c12 c13 p0 p1 k 1000000) none
def e3 {R : Type} (c : List ty3.den → List ty4.den → Option (Bool)) : Ent R := fun args objs k =>
  oCons args fun a0 l0 => oC a0 fun x0 => cList 3 ty3 x0 fun p0 => oCons l0 fun a1 l1 => oC a1 fun x1 => cList 4 ty4 x1 fun p1 => oNil l1 <| oNilO objs <| ob (c p0 p1) fun y => k (.c (.bool y)) []
abbrev Sp3 (c : List ty3.den → List ty4.den → Option (Bool)) : Prop := ∀ (p0 : List ty3.den) (p1 : List ty4.den) (y : Bool), c p0 p1 = some y → Spec Try.prog gl0 3 [.c (.list 3 ty3 p0), .c (.list 4 ty4 p1)] [] (.c (.bool y)) []
theorem ek3 {R : Type} {c : List ty3.den → List ty4.den → Option (Bool)} (hs : Sp3 c) : EOk 3 (e3 (R := R) c) := fun args objs k r h => by
  unfold e3 at h
  obtain ⟨a0, l0, rfl, q1⟩ := oCons_some h
  obtain ⟨x0, rfl, q2⟩ := oC_some q1
  obtain ⟨p0, rfl, q3⟩ := cList_some q2
  obtain ⟨a1, l1, rfl, q4⟩ := oCons_some q3
  obtain ⟨x1, rfl, q5⟩ := oC_some q4
  obtain ⟨p1, rfl, q6⟩ := cList_some q5
  obtain ⟨rfl, q7⟩ := oNil_some q6
  obtain ⟨rfl, q8⟩ := oNilO_some q7
  exact eok_of (hs p0 p1) q8
theorem sf3 {c11 : Option (Bool)} {c12 : Int → Int → Option (Int)} {c13 : List UInt8 → Option (Int × Int × (List ty33.den))} (h11 : Sp11 c11) (h12 : Sp12 c12) (h13 : Sp13 c13) : Sp3 (F3 c11 c12 c13) := fun p0 p1 y hy => by
  refine spec_of (G := ent 11 (e11 c11) (ent 12 (e12 c12) (ent 13 (e13 c13) (gnil)))) (ent_ok (ek11 h11) (ent_ok (ek12 h12) (ent_ok (ek13 h13) (gnil_ok)))) 1000000 (fn := Try.f3) (by kernel_rfl) (by kernel_rfl) (X := X3) (by kernel_rfl) ?_
  rw [fo3, hy]
  rfl
noncomputable def M3 : List ty3.den → List ty4.den → Option (Bool) := F3 M11 M12 M13
theorem sm3 : Sp3 M3 := sf3 sm11 sm12 sm13
end Go.Proofs.Ytfdlgmbbflmbgaa.Av
