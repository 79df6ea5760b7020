/- Twins of functions, printed by gen.py. Conditions: none. -/
import Derived.Test.YtccnmhdgghjgoaaCl1
import Derived.Test.YtccnmhdgghjgoaaGrow
import Derived.KernelRfl
set_option linter.unusedVariables false
set_option maxRecDepth 100000
set_option maxHeartbeats 8000000
namespace Go.Proofs.Ytccnmhdgghjgoaa.Av
open Go

/-! ### 94: lariat/lariatref7.digit -/
def X94 : Aux := ⟨[], []⟩
def T94 {R : Type} (B : Ops) (p0 : Int) (k : (Bool) → Option R) : Option R :=
  cond (Ops.le B (48) p0)
   (
    k (Ops.le B p0 (57)))
   (
    k false)
theorem eq94 {R : Type} (B : Ops) (p0 : Int) (k : AV → Objs → Option R) (n : Nat) : afun tau B gl0 X94 (gnil) ow Try.f94 [.c (.int .u8 p0)] [] k n = T94 B p0 (fun y => k (.c (.bool y)) []) := by kernel_rfl
theorem nt94 {R R' : Type} (B : Ops) (p0 : Int) (k0 : (Bool) → Option R') (k : R' → Option R) : T94 B p0 (fun y => ob (k0 y) k) = ob (T94 B p0 k0) k := by
  unfold T94
  repeat' first | exact rfl | apply nat_cond | (apply nat_ob; intro)
def F94 (p0 : Int) : Option (Bool) := T94 Ops.std p0 some
theorem fo94 {R : Type} (p0 : Int) (k : AV → Objs → Option R) (n : Nat) : afun tau Ops.std gl0 X94 (gnil) ow Try.f94 [.c (.int .u8 p0)] [] k n = ob (F94 p0) (fun y => k (.c (.bool y)) []) := by rw [eq94]; exact nt94 Ops.std p0 some (fun y => k (.c (.bool y)) [])
def e94 {R : Type} (c : Int → Option (Bool)) : Ent R := fun args objs k =>
  oCons args fun a0 l0 => oC a0 fun x0 => cInt .u8 x0 fun p0 => oNil l0 <| oNilO objs <| ob (c p0) fun y => k (.c (.bool y)) []
abbrev Sp94 (c : Int → Option (Bool)) : Prop := ∀ (p0 : Int) (y : Bool), c p0 = some y → Spec Try.prog gl0 94 [.c (.int .u8 p0)] [] (.c (.bool y)) []
theorem ek94 {R : Type} {c : Int → Option (Bool)} (hs : Sp94 c) : EOk 94 (e94 (R := R) c) := fun args objs k r h => by
  unfold e94 at h
  obtain ⟨a0, l0, rfl, q1⟩ := oCons_some h
  obtain ⟨x0, rfl, q2⟩ := oC_some q1
  obtain ⟨p0, rfl, q3⟩ := cInt_some q2
  obtain ⟨rfl, q4⟩ := oNil_some q3
  obtain ⟨rfl, q5⟩ := oNilO_some q4
  exact eok_of (hs p0) q5
theorem sf94 : Sp94 (F94) := fun p0 y hy => by
  refine spec_of (G := gnil) (gnil_ok) 1000000 (fn := Try.f94) (by kernel_rfl) (by kernel_rfl) (X := X94) (by kernel_rfl) ?_
  rw [fo94, hy]
  rfl
noncomputable def M94 : Int → Option (Bool) := F94
theorem sm94 : Sp94 M94 := sf94

/-! ### 95: lariat/lariatref7.lower -/
def X95 : Aux := ⟨[], []⟩
def T95 {R : Type} (B : Ops) (p0 : Int) (k : (Bool) → Option R) : Option R :=
  cond (Ops.le B (97) p0)
   (
    cond (Ops.le B p0 (122))
     (
      k true)
     (
      k (Ops.eq B p0 (95))))
   (
    k (Ops.eq B p0 (95)))
theorem eq95 {R : Type} (B : Ops) (p0 : Int) (k : AV → Objs → Option R) (n : Nat) : afun tau B gl0 X95 (gnil) ow Try.f95 [.c (.int .u8 p0)] [] k n = T95 B p0 (fun y => k (.c (.bool y)) []) := by kernel_rfl
theorem nt95 {R R' : Type} (B : Ops) (p0 : Int) (k0 : (Bool) → Option R') (k : R' → Option R) : T95 B p0 (fun y => ob (k0 y) k) = ob (T95 B p0 k0) k := by
  unfold T95
  repeat' first | exact rfl | apply nat_cond | (apply nat_ob; intro)
def F95 (p0 : Int) : Option (Bool) := T95 Ops.std p0 some
theorem fo95 {R : Type} (p0 : Int) (k : AV → Objs → Option R) (n : Nat) : afun tau Ops.std gl0 X95 (gnil) ow Try.f95 [.c (.int .u8 p0)] [] k n = ob (F95 p0) (fun y => k (.c (.bool y)) []) := by rw [eq95]; exact nt95 Ops.std p0 some (fun y => k (.c (.bool y)) [])
def e95 {R : Type} (c : Int → Option (Bool)) : Ent R := fun args objs k =>
  oCons args fun a0 l0 => oC a0 fun x0 => cInt .u8 x0 fun p0 => oNil l0 <| oNilO objs <| ob (c p0) fun y => k (.c (.bool y)) []
abbrev Sp95 (c : Int → Option (Bool)) : Prop := ∀ (p0 : Int) (y : Bool), c p0 = some y → Spec Try.prog gl0 95 [.c (.int .u8 p0)] [] (.c (.bool y)) []
theorem ek95 {R : Type} {c : Int → Option (Bool)} (hs : Sp95 c) : EOk 95 (e95 (R := R) c) := fun args objs k r h => by
  unfold e95 at h
  obtain ⟨a0, l0, rfl, q1⟩ := oCons_some h
  obtain ⟨x0, rfl, q2⟩ := oC_some q1
  obtain ⟨p0, rfl, q3⟩ := cInt_some q2
  obtain ⟨rfl, q4⟩ := oNil_some q3
  obtain ⟨rfl, q5⟩ := oNilO_some q4
  exact eok_of (hs p0) q5
theorem sf95 : Sp95 (F95) := fun p0 y hy => by
  refine spec_of (G := gnil) (gnil_ok) 1000000 (fn := Try.f95) (by kernel_rfl) (by kernel_rfl) (X := X95) (by kernel_rfl) ?_
  rw [fo95, hy]
  rfl
noncomputable def M95 : Int → Option (Bool) := F95
theorem sm95 : Sp95 M95 := sf95

/-! ### 96: lariat/lariatref7.sign -/
def X96 : Aux := ⟨[(3, [1, 2, 5, 6, 7, 8, 9, 10, 11, 12, 13, 14, 15, 16, 17, 18, 19, 20, 21, 22, 23, 24, 25, 26, 27, 28, 29, 30, 31, 32, 33, 34, 35, 36, 37, 38, 39, 40, 41]), (9, [1, 2, 3, 4, 7, 8, 9, 10, 11, 12, 13, 14, 15, 16, 17, 18, 19, 20, 21, 22, 23, 24, 25, 26, 27, 28, 29, 30, 31, 32, 33, 34, 35, 36, 37, 38, 39, 40, 41])], [(5, .lin [0, 1, 2, 3, 4, 5, 6, 7, 8, 9, 10]), (11, .lin [0, 1, 2, 3, 4, 5, 6, 7])]⟩
inductive S96 where
  | l0 (v0_1 : Int)
  | l1 (v1_2 : Int)
def T96 {R : Type} (B : Ops) (p0 : List UInt8) (again : S96 → Option R) (k : ((List UInt8)) → Option R) : Option S96 → Option R
  | none =>
    again (.l0 0)
  | some (.l0 v0_1) =>
    cond (Ops.lt B v0_1 (7))
     (
      cond (Ops.lt B (1) (Nat.cast (List.length p0)))
       (
        cond (Ops.inb B (2) (List.length p0 + 1))
         (
          cond (Ops.inb B v0_1 (9))
           (
            cond (List.drop (0) (List.take (Int.toNat (2)) p0) == List.getD (([60, 61] : List UInt8) :: ([62, 61] : List UInt8) :: ([61, 61] : List UInt8) :: ([33, 61] : List UInt8) :: ([38, 38] : List UInt8) :: ([124, 124] : List UInt8) :: ([45, 62] : List UInt8) :: (mt UInt8) :: (mt UInt8) :: mt (List UInt8)) (Int.toNat v0_1) (mt UInt8))
             (
              cond (Ops.inb B v0_1 (9))
               (
                k (List.getD (([60, 61] : List UInt8) :: ([62, 61] : List UInt8) :: ([61, 61] : List UInt8) :: ([33, 61] : List UInt8) :: ([38, 38] : List UInt8) :: ([124, 124] : List UInt8) :: ([45, 62] : List UInt8) :: (mt UInt8) :: (mt UInt8) :: mt (List UInt8)) (Int.toNat v0_1) (mt UInt8)))
               (
                none))
             (
              again (.l0 (IntKind.wrap IntKind.i64 (v0_1 + 1)))))
           (
            none))
         (
          none))
       (
        again (.l0 (IntKind.wrap IntKind.i64 (v0_1 + 1)))))
     (
      again (.l1 0))
  | some (.l1 v1_2) =>
    cond (Ops.lt B v1_2 (Nat.cast (13)))
     (
      cond (Ops.inb B (1) (List.length p0 + 1))
       (
        cond (Ops.inb B (IntKind.wrap IntKind.i64 (v1_2 + 1)) (13 + 1))
         (
          cond (bif Ops.le B (0) v1_2 then Ops.le B v1_2 (IntKind.wrap IntKind.i64 (v1_2 + 1)) else false)
           (
            cond (List.drop (0) (List.take (Int.toNat (1)) p0) == List.drop (Int.toNat v1_2) (List.take (Int.toNat (IntKind.wrap IntKind.i64 (v1_2 + 1))) ([40, 41, 91, 93, 43, 45, 42, 60, 62, 33, 64, 59, 61] : List UInt8)))
             (
              cond (Ops.inb B (1) (List.length p0 + 1))
               (
                k (List.drop (0) (List.take (Int.toNat (1)) p0)))
               (
                none))
             (
              again (.l1 (IntKind.wrap IntKind.i64 (v1_2 + 1)))))
           (
            none))
         (
          none))
       (
        none))
     (
      k (mt UInt8))
def E96 (p0 : List UInt8) : S96 → List AV × Objs
  | .l0 v0_1 => (mk 42 [(0, .c (.str p0)), (3, .c (.ptr 3 0)), (4, .c (.int .i64 v0_1))], [(3, .box 156 [.str ([60, 61] : List UInt8), .str ([62, 61] : List UInt8), .str ([61, 61] : List UInt8), .str ([33, 61] : List UInt8), .str ([38, 38] : List UInt8), .str ([124, 124] : List UInt8), .str ([45, 62] : List UInt8), .str (mt UInt8), .str (mt UInt8)])])
  | .l1 v1_2 => (mk 42 [(0, .c (.str p0)), (5, .c (.str ([40, 41, 91, 93, 43, 45, 42, 60, 62, 33, 64, 59, 61] : List UInt8))), (6, .c (.int .i64 v1_2))], [])
def I96 : S96 → Nat
  | .l0 _ => 0
  | .l1 _ => 1
theorem eq96 {R : Type} (B : Ops) (p0 : List UInt8) (k : AV → Objs → Option R) (n : Nat) : afun tau B gl0 X96 (gnil) ow Try.f96 [.c (.str p0)] [] k n = T96 B p0 (fun s => aloop tau B gl0 X96 (gnil) ow [] Try.f96 k (I96 s) (E96 p0 s) n) (fun y => k (.c (.str y)) []) none := by kernel_rfl
theorem el96 {R : Type} (B : Ops) (p0 : List UInt8) (k : AV → Objs → Option R) (n : Nat) : ∀ s, aloop tau B gl0 X96 (gnil) ow [] Try.f96 k (I96 s) (E96 p0 s) (n + 1) = T96 B p0 (fun s => aloop tau B gl0 X96 (gnil) ow [] Try.f96 k (I96 s) (E96 p0 s) n) (fun y => k (.c (.str y)) []) (some s)
  | .l0 v0_1 => by kernel_rfl
  | .l1 v1_2 => by kernel_rfl
theorem nt96 {R R' : Type} (B : Ops) (p0 : List UInt8) (again : S96 → Option R) (again' : S96 → Option R') (k0 : ((List UInt8)) → Option R') (k : R' → Option R) (h : ∀ s, again s = ob (again' s) k) : ∀ s, T96 B p0 again (fun y => ob (k0 y) k) s = ob (T96 B p0 again' k0 s) k
  | none => by unfold T96; repeat' first | exact rfl | exact h _ | apply nat_cond | (apply nat_ob; intro)
  | some (.l0 v0_1) => by unfold T96; repeat' first | exact rfl | exact h _ | apply nat_cond | (apply nat_ob; intro)
  | some (.l1 v1_2) => by unfold T96; repeat' first | exact rfl | exact h _ | apply nat_cond | (apply nat_ob; intro)
def R96 (p0 : List UInt8) : Nat → S96 → Option ((List UInt8))
  | 0, _ => none
  | n + 1, s => T96 Ops.std p0 (R96 p0 n) some (some s)
theorem rr96 {R : Type} (p0 : List UInt8) (k : AV → Objs → Option R) : ∀ (n : Nat) (s : S96), aloop tau Ops.std gl0 X96 (gnil) ow [] Try.f96 k (I96 s) (E96 p0 s) n = ob (R96 p0 n s) (fun y => k (.c (.str y)) [])
  | 0, s => by cases s <;> rfl
  | n + 1, s => by rw [el96]; exact nt96 Ops.std p0 _ _ some (fun y => k (.c (.str y)) []) (rr96 p0 k n) (some s)
def F96 (p0 : List UInt8) : Option ((List UInt8)) := T96 Ops.std p0 (R96 p0 1000000) some none
theorem fo96 {R : Type} (p0 : List UInt8) (k : AV → Objs → Option R) : afun tau Ops.std gl0 X96 (gnil) ow Try.f96 [.c (.str p0)] [] k 1000000 = ob (F96 p0) (fun y => k (.c (.str y)) []) := by rw [eq96]; exact nt96 Ops.std p0 _ _ some (fun y => k (.c (.str y)) []) (rr96 p0 k 1000000) none
def e96 {R : Type} (c : List UInt8 → Option ((List UInt8))) : Ent R := fun args objs k =>
  oCons args fun a0 l0 => oC a0 fun x0 => cStr x0 fun p0 => oNil l0 <| oNilO objs <| ob (c p0) fun y => k (.c (.str y)) []
abbrev Sp96 (c : List UInt8 → Option ((List UInt8))) : Prop := ∀ (p0 : List UInt8) (y : (List UInt8)), c p0 = some y → Spec Try.prog gl0 96 [.c (.str p0)] [] (.c (.str y)) []
theorem ek96 {R : Type} {c : List UInt8 → Option ((List UInt8))} (hs : Sp96 c) : EOk 96 (e96 (R := R) c) := fun args objs k r h => by
  unfold e96 at h
  obtain ⟨a0, l0, rfl, q1⟩ := oCons_some h
  obtain ⟨x0, rfl, q2⟩ := oC_some q1
  obtain ⟨p0, rfl, q3⟩ := cStr_some q2
  obtain ⟨rfl, q4⟩ := oNil_some q3
  obtain ⟨rfl, q5⟩ := oNilO_some q4
  exact eok_of (hs p0) q5
theorem sf96 : Sp96 (F96) := fun p0 y hy => by
  refine spec_of (G := gnil) (gnil_ok) 1000000 (fn := Try.f96) (by kernel_rfl) (by kernel_rfl) (X := X96) (by kernel_rfl) ?_
  rw [fo96, hy]
  rfl
noncomputable def M96 : List UInt8 → Option ((List UInt8)) := F96
theorem sm96 : Sp96 M96 := sf96

/-! ### 59: lariat/lariatref7.Lex -/
def X59 : Aux := ⟨[(5, [1, 2, 3, 4, 7, 8, 9, 10, 11, 12, 13, 14, 15, 16, 17, 18, 19, 20, 21, 22, 23, 24, 25, 26, 27, 28, 29, 30, 31, 32, 33, 34, 35, 36, 37, 38, 39, 40, 41, 42, 43, 44, 45, 46, 47, 48, 49, 50, 51, 52, 53, 54, 55, 56, 57, 58, 59, 60, 61, 62, 63, 64, 65, 66, 67, 68, 69, 70, 71, 72, 73, 74, 75, 76, 77, 78, 79, 80, 81, 82, 83, 84, 85, 86, 87, 88, 89, 90, 91, 92, 93, 94, 95, 96, 97, 98, 99, 100, 101, 102, 103, 104, 105, 106, 107, 108, 109, 110, 111, 112, 113, 114, 115, 116, 117, 118, 119, 120, 121, 122, 123, 124, 125, 126, 127, 128, 129, 130, 131, 132, 133, 134, 135, 136, 137, 138, 139, 140, 141, 142, 143, 144, 145, 146, 147, 148, 149, 150]), (17, [1, 2, 3, 4, 9, 10, 11, 12, 13, 14, 15, 16, 17, 18, 19, 20, 21, 22, 23, 24, 25, 26, 27, 28, 29, 30, 31, 32, 33, 34, 35, 36, 37, 38, 39, 40, 41, 42, 43, 44, 45, 46, 47, 48, 49, 50, 51, 52, 53, 54, 55, 56, 57, 58, 59, 60, 61, 62, 63, 64, 65, 66, 67, 68, 69, 70, 71, 72, 73, 74, 75, 76, 77, 78, 79, 80, 81, 82, 83, 84, 85, 86, 87, 88, 89, 90, 91, 92, 93, 94, 95, 96, 97, 98, 99, 100, 101, 102, 103, 104, 105, 106, 107, 108, 109, 110, 111, 112, 113, 114, 115, 116, 117, 118, 119, 120, 121, 122, 123, 124, 125, 126, 127, 128, 129, 130, 131, 132, 133, 134, 135, 136, 137, 138, 139, 140, 141, 142, 143, 144, 145, 146, 147, 148, 149, 150]), (25, [1, 2, 3, 4, 9, 10, 11, 12, 13, 14, 15, 16, 17, 18, 19, 20, 21, 22, 23, 24, 25, 26, 27, 28, 29, 30, 31, 32, 33, 34, 35, 36, 37, 38, 39, 40, 41, 42, 43, 44, 45, 46, 47, 48, 49, 50, 51, 52, 53, 54, 55, 56, 57, 58, 59, 60, 61, 62, 63, 64, 65, 66, 67, 68, 69, 70, 71, 72, 73, 74, 75, 76, 77, 78, 79, 80, 81, 82, 83, 84, 85, 86, 87, 88, 89, 90, 91, 92, 93, 94, 95, 96, 97, 98, 99, 100, 101, 102, 103, 104, 105, 106, 107, 108, 109, 110, 111, 112, 113, 114, 115, 116, 117, 118, 119, 120, 121, 122, 123, 124, 125, 126, 127, 128, 129, 130, 131, 132, 133, 134, 135, 136, 137, 138, 139, 140, 141, 142, 143, 144, 145, 146, 147, 148, 149, 150]), (1000020, [1, 2, 3, 4, 9, 10, 11, 12, 13, 14, 15, 16, 17, 18, 19, 20, 21, 22, 23, 24, 25, 26, 27, 28, 29, 30, 31, 32, 33, 34, 35, 36, 37, 38, 39, 40, 41, 42, 43, 44, 45, 46, 47, 48, 49, 50, 51, 52, 53, 54, 55, 56, 57, 58, 59, 60, 61, 62, 63, 64, 65, 66, 67, 68, 69, 70, 71, 72, 73, 74, 75, 76, 77, 78, 79, 80, 81, 82, 83, 84, 85, 86, 87, 88, 89, 90, 91, 92, 93, 94, 95, 96, 97, 98, 99, 100, 101, 102, 103, 104, 105, 106, 107, 108, 109, 110, 111, 112, 113, 114, 115, 116, 117, 118, 119, 120, 121, 122, 123, 124, 125, 126, 127, 128, 129, 130, 131, 132, 133, 134, 135, 136, 137, 138, 139, 140, 141, 142, 143, 144, 145, 146, 147, 148, 149, 150]), (1000026, [1, 2, 3, 4, 9, 10, 11, 12, 13, 14, 15, 16, 17, 18, 19, 20, 21, 22, 23, 24, 25, 26, 27, 28, 29, 30, 31, 32, 33, 34, 35, 36, 37, 38, 39, 40, 41, 42, 43, 44, 45, 46, 47, 48, 49, 50, 51, 52, 53, 54, 55, 56, 57, 58, 59, 60, 61, 62, 63, 64, 65, 66, 67, 68, 69, 70, 71, 72, 73, 74, 75, 76, 77, 78, 79, 80, 81, 82, 83, 84, 85, 86, 87, 88, 89, 90, 91, 92, 93, 94, 95, 96, 97, 98, 99, 100, 101, 102, 103, 104, 105, 106, 107, 108, 109, 110, 111, 112, 113, 114, 115, 116, 117, 118, 119, 120, 121, 122, 123, 124, 125, 126, 127, 128, 129, 130, 131, 132, 133, 134, 135, 136, 137, 138, 139, 140, 141, 142, 143, 144, 145, 146, 147, 148, 149, 150]), (1000027, [1, 2, 3, 4, 9, 10, 11, 12, 13, 14, 15, 16, 17, 18, 19, 20, 21, 22, 23, 24, 25, 26, 27, 28, 29, 30, 31, 32, 33, 34, 35, 36, 37, 38, 39, 40, 41, 42, 43, 44, 45, 46, 47, 48, 49, 50, 51, 52, 53, 54, 55, 56, 57, 58, 59, 60, 61, 62, 63, 64, 65, 66, 67, 68, 69, 70, 71, 72, 73, 74, 75, 76, 77, 78, 79, 80, 81, 82, 83, 84, 85, 86, 87, 88, 89, 90, 91, 92, 93, 94, 95, 96, 97, 98, 99, 100, 101, 102, 103, 104, 105, 106, 107, 108, 109, 110, 111, 112, 113, 114, 115, 116, 117, 118, 119, 120, 121, 122, 123, 124, 125, 126, 127, 128, 129, 130, 131, 132, 133, 134, 135, 136, 137, 138, 139, 140, 141, 142, 143, 144, 145, 146, 147, 148, 149, 150]), (1000031, [1, 2, 3, 4, 7, 9, 10, 11, 12, 13, 14, 15, 16, 17, 18, 19, 20, 21, 22, 23, 24, 25, 26, 27, 28, 29, 30, 31, 32, 33, 34, 35, 36, 37, 38, 39, 40, 41, 42, 43, 44, 45, 46, 47, 48, 49, 50, 51, 52, 53, 54, 55, 56, 57, 58, 59, 60, 61, 62, 63, 64, 65, 66, 67, 68, 69, 70, 71, 72, 73, 74, 75, 76, 77, 78, 79, 80, 81, 82, 83, 84, 85, 86, 87, 88, 89, 90, 91, 92, 93, 94, 95, 96, 97, 98, 99, 100, 101, 102, 103, 104, 105, 106, 107, 108, 109, 110, 111, 112, 113, 114, 115, 116, 117, 118, 119, 120, 121, 122, 123, 124, 125, 126, 127, 128, 129, 130, 131, 132, 133, 134, 135, 136, 137, 138, 139, 140, 141, 142, 143, 144, 145, 146, 147, 148, 149, 150]), (1000010, [1, 2, 3, 4, 7, 9, 10, 11, 12, 13, 14, 15, 16, 17, 18, 19, 20, 21, 22, 23, 24, 25, 26, 27, 28, 29, 30, 31, 32, 33, 34, 35, 36, 37, 38, 39, 40, 41, 42, 43, 44, 45, 46, 47, 48, 49, 50, 51, 52, 53, 54, 55, 56, 57, 58, 59, 60, 61, 62, 63, 64, 65, 66, 67, 68, 69, 70, 71, 72, 73, 74, 75, 76, 77, 78, 79, 80, 81, 82, 83, 84, 85, 86, 87, 88, 89, 90, 91, 92, 93, 94, 95, 96, 97, 98, 99, 100, 101, 102, 103, 104, 105, 106, 107, 108, 109, 110, 111, 112, 113, 114, 115, 116, 117, 118, 119, 120, 121, 122, 123, 124, 125, 126, 127, 128, 129, 130, 131, 132, 133, 134, 135, 136, 137, 138, 139, 140, 141, 142, 143, 144, 145, 146, 147, 148, 149, 150]), (1000032, [1, 2, 3, 4, 9, 10, 11, 12, 13, 14, 15, 16, 17, 18, 19, 20, 21, 22, 23, 24, 25, 26, 27, 28, 29, 30, 31, 32, 33, 34, 35, 36, 37, 38, 39, 40, 41, 42, 43, 44, 45, 46, 47, 48, 49, 50, 51, 52, 53, 54, 55, 56, 57, 58, 59, 60, 61, 62, 63, 64, 65, 66, 67, 68, 69, 70, 71, 72, 73, 74, 75, 76, 77, 78, 79, 80, 81, 82, 83, 84, 85, 86, 87, 88, 89, 90, 91, 92, 93, 94, 95, 96, 97, 98, 99, 100, 101, 102, 103, 104, 105, 106, 107, 108, 109, 110, 111, 112, 113, 114, 115, 116, 117, 118, 119, 120, 121, 122, 123, 124, 125, 126, 127, 128, 129, 130, 131, 132, 133, 134, 135, 136, 137, 138, 139, 140, 141, 142, 143, 144, 145, 146, 147, 148, 149, 150])], [(19, .lin [0, 1, 2, 3, 4, 5, 6, 7, 8, 9, 10, 11, 12])]⟩
inductive S59 where
  | l0 (v0_1 : Int) (v0_2 : List ty106.den)
  | l1 (v1_1 : Int) (v1_2 : Int) (v1_3 : List ty106.den) (v1_6 : Int) (v1_7 : Int)
  | l2 (v2_1 : Int) (v2_2 : Int) (v2_3 : List ty106.den) (v2_7 : Int)
  | l1010 (v1010_1 : Int) (v1010_2 : List ty106.den) (v1010_6 : Int)
  | l1020 (v1020_1 : Int) (v1020_2 : Int) (v1020_3 : List ty106.den) (v1020_6 : Int) (v1020_7 : Int)
  | l1026 (v1026_1 : Int) (v1026_2 : Int) (v1026_3 : List ty106.den) (v1026_7 : Int)
  | l1027 (v1027_1 : Int) (v1027_2 : Int) (v1027_3 : List ty106.den) (v1027_7 : Int)
  | l1031 (v1031_1 : Int) (v1031_2 : List ty106.den) (v1031_6 : Int)
  | l1032 (v1032_1 : Int) (v1032_2 : Int) (v1032_3 : List ty106.den) (v1032_4 : Int) (v1032_6 : Int) (v1032_7 : Int)
def T59 {R : Type} (B : Ops) (c94 : Int → Option (Bool)) (c95 : Int → Option (Bool)) (c96 : List UInt8 → Option ((List UInt8))) (p0 : List UInt8) (again : S59 → Option R) (k : (Int × Int × (List ty106.den)) → Option R) : Option S59 → Option R
  | none =>
    cond (Ops.lt B (60000) (Nat.cast (List.length p0)))
     (
      k ((14, 0, mt (Ty.den (Ty.pair (Ty.int IntKind.i64) (Ty.pair Ty.str (Ty.pair (Ty.int IntKind.i64) (Ty.int IntKind.i64))))))))
     (
      again (.l0 0 (mt (Ty.den (Ty.pair (Ty.int IntKind.i64) (Ty.pair Ty.str (Ty.pair (Ty.int IntKind.i64) (Ty.int IntKind.i64))))))))
  | some (.l0 v0_1 v0_2) =>
    cond (Ops.lt B v0_1 (Nat.cast (List.length p0)))
     (
      cond (Ops.inb B v0_1 (List.length p0))
       (
        cond (Ops.eq B (Nat.cast (UInt8.toNat (List.getD p0 (Int.toNat v0_1) (0)))) (32))
         (
          again (.l0 (IntKind.wrap IntKind.i64 (v0_1 + 1)) v0_2))
         (
          cond (Ops.eq B (Nat.cast (UInt8.toNat (List.getD p0 (Int.toNat v0_1) (0)))) (9))
           (
            again (.l0 (IntKind.wrap IntKind.i64 (v0_1 + 1)) v0_2))
           (
            cond (Ops.eq B (Nat.cast (UInt8.toNat (List.getD p0 (Int.toNat v0_1) (0)))) (10))
             (
              again (.l0 (IntKind.wrap IntKind.i64 (v0_1 + 1)) v0_2))
             (
              ob (c94 (Nat.cast (UInt8.toNat (List.getD p0 (Int.toNat v0_1) (0))))) fun y0 =>
              cond (y0)
               (
                again (.l1 v0_1 0 v0_2 0 v0_1))
               (
                ob (c95 (Nat.cast (UInt8.toNat (List.getD p0 (Int.toNat v0_1) (0))))) fun y1 =>
                cond (y1)
                 (
                  again (.l2 v0_1 0 v0_2 v0_1))
                 (
                  cond (Ops.eq B (Nat.cast (UInt8.toNat (List.getD p0 (Int.toNat v0_1) (0)))) (88))
                   (
                    again (.l1031 v0_1 v0_2 v0_1))
                   (
                    cond (Ops.eq B (Nat.cast (UInt8.toNat (List.getD p0 (Int.toNat v0_1) (0)))) (70))
                     (
                      again (.l1031 v0_1 v0_2 v0_1))
                     (
                      cond (Ops.eq B (Nat.cast (UInt8.toNat (List.getD p0 (Int.toNat v0_1) (0)))) (71))
                       (
                        again (.l1031 v0_1 v0_2 v0_1))
                       (
                        cond (Ops.eq B (Nat.cast (UInt8.toNat (List.getD p0 (Int.toNat v0_1) (0)))) (85))
                         (
                          again (.l1031 v0_1 v0_2 v0_1))
                         (
                          cond (Ops.eq B (Nat.cast (UInt8.toNat (List.getD p0 (Int.toNat v0_1) (0)))) (82))
                           (
                            again (.l1031 v0_1 v0_2 v0_1))
                           (
                            again (.l1010 v0_1 v0_2 v0_1))))))))))))
       (
        none))
     (
      cond (Ops.lim B (List.length v0_2 + List.length ((5, mt UInt8, 0, v0_1) :: mt (Ty.den (Ty.pair (Ty.int IntKind.i64) (Ty.pair Ty.str (Ty.pair (Ty.int IntKind.i64) (Ty.int IntKind.i64))))))) (40))
       (
        k ((0, 0, v0_2 ++ (5, mt UInt8, 0, v0_1) :: mt (Ty.den (Ty.pair (Ty.int IntKind.i64) (Ty.pair Ty.str (Ty.pair (Ty.int IntKind.i64) (Ty.int IntKind.i64))))))))
       (
        none))
  | some (.l1 v1_1 v1_2 v1_3 v1_6 v1_7) =>
    cond (Ops.lt B (IntKind.wrap IntKind.i64 (v1_1 + v1_2)) (Nat.cast (List.length p0)))
     (
      cond (Ops.inb B (IntKind.wrap IntKind.i64 (v1_1 + v1_2)) (List.length p0))
       (
        ob (c94 (Nat.cast (UInt8.toNat (List.getD p0 (Int.toNat (IntKind.wrap IntKind.i64 (v1_1 + v1_2))) (0))))) fun y0 =>
        cond (y0)
         (
          cond (Ops.lt B v1_2 (3))
           (
            cond (Ops.inb B (IntKind.wrap IntKind.i64 (v1_1 + v1_2)) (List.length p0))
             (
              again (.l1020 v1_1 v1_2 v1_3 (IntKind.wrap IntKind.i64 (IntKind.wrap IntKind.i64 (10 * v1_6) + IntKind.wrap IntKind.i64 (IntKind.wrap IntKind.u8 (Nat.cast (UInt8.toNat (List.getD p0 (Int.toNat (IntKind.wrap IntKind.i64 (v1_1 + v1_2))) (0))) - 48)))) v1_7))
             (
              none))
           (
            again (.l1020 v1_1 v1_2 v1_3 v1_6 v1_7)))
         (
          cond (Ops.lt B (3) v1_2)
           (
            k ((2, v1_1, mt (Ty.den (Ty.pair (Ty.int IntKind.i64) (Ty.pair Ty.str (Ty.pair (Ty.int IntKind.i64) (Ty.int IntKind.i64))))))))
           (
            again (.l1032 v1_1 v1_2 v1_3 1 v1_6 v1_7))))
       (
        none))
     (
      cond (Ops.lt B (3) v1_2)
       (
        k ((2, v1_1, mt (Ty.den (Ty.pair (Ty.int IntKind.i64) (Ty.pair Ty.str (Ty.pair (Ty.int IntKind.i64) (Ty.int IntKind.i64))))))))
       (
        again (.l1032 v1_1 v1_2 v1_3 1 v1_6 v1_7)))
  | some (.l2 v2_1 v2_2 v2_3 v2_7) =>
    cond (Ops.lt B (IntKind.wrap IntKind.i64 (v2_1 + v2_2)) (Nat.cast (List.length p0)))
     (
      cond (Ops.inb B (IntKind.wrap IntKind.i64 (v2_1 + v2_2)) (List.length p0))
       (
        ob (c95 (Nat.cast (UInt8.toNat (List.getD p0 (Int.toNat (IntKind.wrap IntKind.i64 (v2_1 + v2_2))) (0))))) fun y0 =>
        cond (y0)
         (
          again (.l1026 v2_1 v2_2 v2_3 v2_7))
         (
          cond (Ops.inb B (IntKind.wrap IntKind.i64 (v2_1 + v2_2)) (List.length p0))
           (
            ob (c94 (Nat.cast (UInt8.toNat (List.getD p0 (Int.toNat (IntKind.wrap IntKind.i64 (v2_1 + v2_2))) (0))))) fun y1 =>
            cond (y1)
             (
              again (.l1026 v2_1 v2_2 v2_3 v2_7))
             (
              again (.l1027 v2_1 v2_2 v2_3 v2_7)))
           (
            none)))
       (
        none))
     (
      again (.l1027 v2_1 v2_2 v2_3 v2_7))
  | some (.l1010 v1010_1 v1010_2 v1010_6) =>
    cond (Ops.inb B v1010_1 (List.length p0 + 1))
     (
      ob (c96 (List.drop (Int.toNat v1010_1) (List.take (List.length p0) p0))) fun y0 =>
      cond (Ops.eq B (Nat.cast (List.length y0)) (0))
       (
        k ((2, v1010_1, mt (Ty.den (Ty.pair (Ty.int IntKind.i64) (Ty.pair Ty.str (Ty.pair (Ty.int IntKind.i64) (Ty.int IntKind.i64))))))))
       (
        again (.l1032 v1010_1 (Nat.cast (List.length y0)) v1010_2 4 0 v1010_6)))
     (
      none)
  | some (.l1020 v1020_1 v1020_2 v1020_3 v1020_6 v1020_7) =>
    again (.l1 v1020_1 (IntKind.wrap IntKind.i64 (v1020_2 + 1)) v1020_3 v1020_6 v1020_7)
  | some (.l1026 v1026_1 v1026_2 v1026_3 v1026_7) =>
    again (.l2 v1026_1 (IntKind.wrap IntKind.i64 (v1026_2 + 1)) v1026_3 v1026_7)
  | some (.l1027 v1027_1 v1027_2 v1027_3 v1027_7) =>
    cond (Ops.lt B (8) v1027_2)
     (
      k ((2, v1027_1, mt (Ty.den (Ty.pair (Ty.int IntKind.i64) (Ty.pair Ty.str (Ty.pair (Ty.int IntKind.i64) (Ty.int IntKind.i64))))))))
     (
      again (.l1032 v1027_1 v1027_2 v1027_3 2 0 v1027_7))
  | some (.l1031 v1031_1 v1031_2 v1031_6) =>
    again (.l1032 v1031_1 1 v1031_2 3 0 v1031_6)
  | some (.l1032 v1032_1 v1032_2 v1032_3 v1032_4 v1032_6 v1032_7) =>
    cond (Ops.inb B (IntKind.wrap IntKind.i64 (v1032_1 + v1032_2)) (List.length p0 + 1))
     (
      cond (bif Ops.le B (0) v1032_1 then Ops.le B v1032_1 (IntKind.wrap IntKind.i64 (v1032_1 + v1032_2)) else false)
       (
        cond (Ops.lim B (List.length v1032_3 + List.length ((v1032_4, List.drop (Int.toNat v1032_1) (List.take (Int.toNat (IntKind.wrap IntKind.i64 (v1032_1 + v1032_2))) p0), v1032_6, v1032_7) :: mt (Ty.den (Ty.pair (Ty.int IntKind.i64) (Ty.pair Ty.str (Ty.pair (Ty.int IntKind.i64) (Ty.int IntKind.i64))))))) (40))
         (
          again (.l0 (IntKind.wrap IntKind.i64 (v1032_1 + v1032_2)) (v1032_3 ++ (v1032_4, List.drop (Int.toNat v1032_1) (List.take (Int.toNat (IntKind.wrap IntKind.i64 (v1032_1 + v1032_2))) p0), v1032_6, v1032_7) :: mt (Ty.den (Ty.pair (Ty.int IntKind.i64) (Ty.pair Ty.str (Ty.pair (Ty.int IntKind.i64) (Ty.int IntKind.i64))))))))
         (
          none))
       (
        none))
     (
      none)
def E59 (p0 : List UInt8) : S59 → List AV × Objs
  | .l0 v0_1 v0_2 => (mk 151 [(0, .c (.str p0)), (5, .c (.own 5)), (6, .c (.int .i64 v0_1))], [(5, .row 106 ty106 v0_2)])
  | .l1 v1_1 v1_2 v1_3 v1_6 v1_7 => (mk 151 [(0, .c (.str p0)), (5, .c (.own 5)), (6, .c (.int .i64 v1_1)), (7, .c (.int .i64 v1_2)), (8, .c (.ptr 8 0))], [(5, .row 106 ty106 v1_3), (8, .box 106 [.int .i64 1, .str (mt UInt8), .int .i64 v1_6, .int .i64 v1_7])])
  | .l2 v2_1 v2_2 v2_3 v2_7 => (mk 151 [(0, .c (.str p0)), (5, .c (.own 5)), (6, .c (.int .i64 v2_1)), (7, .c (.int .i64 v2_2)), (8, .c (.ptr 8 0))], [(5, .row 106 ty106 v2_3), (8, .box 106 [.int .i64 2, .str (mt UInt8), .int .i64 0, .int .i64 v2_7])])
  | .l1010 v1010_1 v1010_2 v1010_6 => (mk 151 [(0, .c (.str p0)), (5, .c (.own 5)), (6, .c (.int .i64 v1010_1)), (8, .c (.ptr 8 0))], [(5, .row 106 ty106 v1010_2), (8, .box 106 [.int .i64 4, .str (mt UInt8), .int .i64 0, .int .i64 v1010_6])])
  | .l1020 v1020_1 v1020_2 v1020_3 v1020_6 v1020_7 => (mk 151 [(0, .c (.str p0)), (5, .c (.own 5)), (6, .c (.int .i64 v1020_1)), (7, .c (.int .i64 v1020_2)), (8, .c (.ptr 8 0))], [(5, .row 106 ty106 v1020_3), (8, .box 106 [.int .i64 1, .str (mt UInt8), .int .i64 v1020_6, .int .i64 v1020_7])])
  | .l1026 v1026_1 v1026_2 v1026_3 v1026_7 => (mk 151 [(0, .c (.str p0)), (5, .c (.own 5)), (6, .c (.int .i64 v1026_1)), (7, .c (.int .i64 v1026_2)), (8, .c (.ptr 8 0))], [(5, .row 106 ty106 v1026_3), (8, .box 106 [.int .i64 2, .str (mt UInt8), .int .i64 0, .int .i64 v1026_7])])
  | .l1027 v1027_1 v1027_2 v1027_3 v1027_7 => (mk 151 [(0, .c (.str p0)), (5, .c (.own 5)), (6, .c (.int .i64 v1027_1)), (7, .c (.int .i64 v1027_2)), (8, .c (.ptr 8 0))], [(5, .row 106 ty106 v1027_3), (8, .box 106 [.int .i64 2, .str (mt UInt8), .int .i64 0, .int .i64 v1027_7])])
  | .l1031 v1031_1 v1031_2 v1031_6 => (mk 151 [(0, .c (.str p0)), (5, .c (.own 5)), (6, .c (.int .i64 v1031_1)), (8, .c (.ptr 8 0))], [(5, .row 106 ty106 v1031_2), (8, .box 106 [.int .i64 3, .str (mt UInt8), .int .i64 0, .int .i64 v1031_6])])
  | .l1032 v1032_1 v1032_2 v1032_3 v1032_4 v1032_6 v1032_7 => (mk 151 [(0, .c (.str p0)), (5, .c (.own 5)), (6, .c (.int .i64 v1032_1)), (7, .c (.int .i64 v1032_2)), (8, .c (.ptr 8 0))], [(5, .row 106 ty106 v1032_3), (8, .box 106 [.int .i64 v1032_4, .str (mt UInt8), .int .i64 v1032_6, .int .i64 v1032_7])])
def I59 : S59 → Nat
  | .l0 _ _ => 0
  | .l1 _ _ _ _ _ => 1
  | .l2 _ _ _ _ => 2
  | .l1010 _ _ _ => 1010
  | .l1020 _ _ _ _ _ => 1020
  | .l1026 _ _ _ _ => 1026
  | .l1027 _ _ _ _ => 1027
  | .l1031 _ _ _ => 1031
  | .l1032 _ _ _ _ _ _ => 1032
theorem eq59 {R : Type} (B : Ops) (c94 : Int → Option (Bool)) (c95 : Int → Option (Bool)) (c96 : List UInt8 → Option ((List UInt8))) (p0 : List UInt8) (k : AV → Objs → Option R) (n : Nat) : afun tau B gl0 X59 (ent 94 (e94 c94) (ent 95 (e95 c95) (ent 96 (e96 c96) (gnil)))) ow Try.f59 [.c (.str p0)] [] k n = T59 B c94 c95 c96 p0 (fun s => aloop tau B gl0 X59 (ent 94 (e94 c94) (ent 95 (e95 c95) (ent 96 (e96 c96) (gnil)))) ow [] Try.f59 k (I59 s) (E59 p0 s) n) (fun y => k (.tup [(false, [.own 501000]), (false, [.int .i64 y.1]), (false, [.int .i64 y.2.1])]) [(501000, .row 106 ty106 y.2.2)]) none := by kernel_rfl
theorem el59 {R : Type} (B : Ops) (c94 : Int → Option (Bool)) (c95 : Int → Option (Bool)) (c96 : List UInt8 → Option ((List UInt8))) (p0 : List UInt8) (k : AV → Objs → Option R) (n : Nat) : ∀ s, aloop tau B gl0 X59 (ent 94 (e94 c94) (ent 95 (e95 c95) (ent 96 (e96 c96) (gnil)))) ow [] Try.f59 k (I59 s) (E59 p0 s) (n + 1) = T59 B c94 c95 c96 p0 (fun s => aloop tau B gl0 X59 (ent 94 (e94 c94) (ent 95 (e95 c95) (ent 96 (e96 c96) (gnil)))) ow [] Try.f59 k (I59 s) (E59 p0 s) n) (fun y => k (.tup [(false, [.own 501000]), (false, [.int .i64 y.1]), (false, [.int .i64 y.2.1])]) [(501000, .row 106 ty106 y.2.2)]) (some s)
  | .l0 v0_1 v0_2 => by kernel_rfl
  | .l1 v1_1 v1_2 v1_3 v1_6 v1_7 => by kernel_rfl
  | .l2 v2_1 v2_2 v2_3 v2_7 => by kernel_rfl
  | .l1010 v1010_1 v1010_2 v1010_6 => by kernel_rfl
  | .l1020 v1020_1 v1020_2 v1020_3 v1020_6 v1020_7 => by kernel_rfl
  | .l1026 v1026_1 v1026_2 v1026_3 v1026_7 => by kernel_rfl
  | .l1027 v1027_1 v1027_2 v1027_3 v1027_7 => by kernel_rfl
  | .l1031 v1031_1 v1031_2 v1031_6 => by kernel_rfl
  | .l1032 v1032_1 v1032_2 v1032_3 v1032_4 v1032_6 v1032_7 => by kernel_rfl
theorem nt59 {R R' : Type} (B : Ops) (c94 : Int → Option (Bool)) (c95 : Int → Option (Bool)) (c96 : List UInt8 → Option ((List UInt8))) (p0 : List UInt8) (again : S59 → Option R) (again' : S59 → Option R') (k0 : (Int × Int × (List ty106.den)) → Option R') (k : R' → Option R) (h : ∀ s, again s = ob (again' s) k) : ∀ s, T59 B c94 c95 c96 p0 again (fun y => ob (k0 y) k) s = ob (T59 B c94 c95 c96 p0 again' k0 s) k
  | none => by unfold T59; repeat' first | exact rfl | exact h _ | apply nat_cond | (apply nat_ob; intro)
  | some (.l0 v0_1 v0_2) => by unfold T59; repeat' first | exact rfl | exact h _ | apply nat_cond | (apply nat_ob; intro)
  | some (.l1 v1_1 v1_2 v1_3 v1_6 v1_7) => by unfold T59; repeat' first | exact rfl | exact h _ | apply nat_cond | (apply nat_ob; intro)
  | some (.l2 v2_1 v2_2 v2_3 v2_7) => by unfold T59; repeat' first | exact rfl | exact h _ | apply nat_cond | (apply nat_ob; intro)
  | some (.l1010 v1010_1 v1010_2 v1010_6) => by unfold T59; repeat' first | exact rfl | exact h _ | apply nat_cond | (apply nat_ob; intro)
  | some (.l1020 v1020_1 v1020_2 v1020_3 v1020_6 v1020_7) => by unfold T59; repeat' first | exact rfl | exact h _ | apply nat_cond | (apply nat_ob; intro)
  | some (.l1026 v1026_1 v1026_2 v1026_3 v1026_7) => by unfold T59; repeat' first | exact rfl | exact h _ | apply nat_cond | (apply nat_ob; intro)
  | some (.l1027 v1027_1 v1027_2 v1027_3 v1027_7) => by unfold T59; repeat' first | exact rfl | exact h _ | apply nat_cond | (apply nat_ob; intro)
  | some (.l1031 v1031_1 v1031_2 v1031_6) => by unfold T59; repeat' first | exact rfl | exact h _ | apply nat_cond | (apply nat_ob; intro)
  | some (.l1032 v1032_1 v1032_2 v1032_3 v1032_4 v1032_6 v1032_7) => by unfold T59; repeat' first | exact rfl | exact h _ | apply nat_cond | (apply nat_ob; intro)
def R59 (c94 : Int → Option (Bool)) (c95 : Int → Option (Bool)) (c96 : List UInt8 → Option ((List UInt8))) (p0 : List UInt8) : Nat → S59 → Option (Int × Int × (List ty106.den))
  | 0, _ => none
  | n + 1, s => T59 Ops.std c94 c95 c96 p0 (R59 c94 c95 c96 p0 n) some (some s)
theorem rr59 {R : Type} (c94 : Int → Option (Bool)) (c95 : Int → Option (Bool)) (c96 : List UInt8 → Option ((List UInt8))) (p0 : List UInt8) (k : AV → Objs → Option R) : ∀ (n : Nat) (s : S59), aloop tau Ops.std gl0 X59 (ent 94 (e94 c94) (ent 95 (e95 c95) (ent 96 (e96 c96) (gnil)))) ow [] Try.f59 k (I59 s) (E59 p0 s) n = ob (R59 c94 c95 c96 p0 n s) (fun y => k (.tup [(false, [.own 501000]), (false, [.int .i64 y.1]), (false, [.int .i64 y.2.1])]) [(501000, .row 106 ty106 y.2.2)])
  | 0, s => by cases s <;> rfl
  | n + 1, s => by rw [el59]; exact nt59 Ops.std c94 c95 c96 p0 _ _ some (fun y => k (.tup [(false, [.own 501000]), (false, [.int .i64 y.1]), (false, [.int .i64 y.2.1])]) [(501000, .row 106 ty106 y.2.2)]) (rr59 c94 c95 c96 p0 k n) (some s)
def F59 (c94 : Int → Option (Bool)) (c95 : Int → Option (Bool)) (c96 : List UInt8 → Option ((List UInt8))) (p0 : List UInt8) : Option (Int × Int × (List ty106.den)) := T59 Ops.std c94 c95 c96 p0 (R59 c94 c95 c96 p0 1000000) some none
theorem fo59 {R : Type} (c94 : Int → Option (Bool)) (c95 : Int → Option (Bool)) (c96 : List UInt8 → Option ((List UInt8))) (p0 : List UInt8) (k : AV → Objs → Option R) : afun tau Ops.std gl0 X59 (ent 94 (e94 c94) (ent 95 (e95 c95) (ent 96 (e96 c96) (gnil)))) ow Try.f59 [.c (.str p0)] [] k 1000000 = ob (F59 c94 c95 c96 p0) (fun y => k (.tup [(false, [.own 501000]), (false, [.int .i64 y.1]), (false, [.int .i64 y.2.1])]) [(501000, .row 106 ty106 y.2.2)]) := by rw [eq59]; exact nt59 Ops.std c94 c95 c96 p0 _ _ some (fun y => k (.tup [(false, [.own 501000]), (false, [.int .i64 y.1]), (false, [.int .i64 y.2.1])]) [(501000, .row 106 ty106 y.2.2)]) (rr59 c94 c95 c96 p0 k 1000000) none
def e59 {R : Type} (c : List UInt8 → Option (Int × Int × (List ty106.den))) : Ent R := fun args objs k =>
  oCons args fun a0 l0 => oC a0 fun x0 => cStr x0 fun p0 => oNil l0 <| oNilO objs <| ob (c p0) fun y => k (.tup [(false, [.own 501000]), (false, [.int .i64 y.1]), (false, [.int .i64 y.2.1])]) [(501000, .row 106 ty106 y.2.2)]
abbrev Sp59 (c : List UInt8 → Option (Int × Int × (List ty106.den))) : Prop := ∀ (p0 : List UInt8) (y : Int × Int × (List ty106.den)), c p0 = some y → Spec Try.prog gl0 59 [.c (.str p0)] [] (.tup [(false, [.own 501000]), (false, [.int .i64 y.1]), (false, [.int .i64 y.2.1])]) [(501000, .row 106 ty106 y.2.2)]
theorem ek59 {R : Type} {c : List UInt8 → Option (Int × Int × (List ty106.den))} (hs : Sp59 c) : EOk 59 (e59 (R := R) c) := fun args objs k r h => by
  unfold e59 at h
  obtain ⟨a0, l0, rfl, q1⟩ := oCons_some h
  obtain ⟨x0, rfl, q2⟩ := oC_some q1
  obtain ⟨p0, rfl, q3⟩ := cStr_some q2
  obtain ⟨rfl, q4⟩ := oNil_some q3
  obtain ⟨rfl, q5⟩ := oNilO_some q4
  exact eok_of (hs p0) q5
theorem sf59 {c94 : Int → Option (Bool)} {c95 : Int → Option (Bool)} {c96 : List UInt8 → Option ((List UInt8))} (h94 : Sp94 c94) (h95 : Sp95 c95) (h96 : Sp96 c96) : Sp59 (F59 c94 c95 c96) := fun p0 y hy => by
  refine spec_of (G := ent 94 (e94 c94) (ent 95 (e95 c95) (ent 96 (e96 c96) (gnil)))) (ent_ok (ek94 h94) (ent_ok (ek95 h95) (ent_ok (ek96 h96) (gnil_ok)))) 1000000 (fn := Try.f59) (by kernel_rfl) (by kernel_rfl) (X := X59) (by kernel_rfl) ?_
  rw [fo59, hy]
  rfl
noncomputable def M59 : List UInt8 → Option (Int × Int × (List ty106.den)) := F59 M94 M95 M96
theorem sm59 : Sp59 M59 := sf59 sm94 sm95 sm96

/-! ### 119: (*lariat/lariatref13.reader).sign -/
def X119 : Aux := ⟨[], [(1, .lin [0, 1, 2, 3, 4, 5, 6, 7, 8, 9, 10, 11, 12, 13, 14, 15, 16, 17, 18, 19, 20, 21, 22, 23, 24, 25, 26, 27])]⟩
def T119 {R : Type} (B : Ops) (p0 : List UInt8) (p1 : List ty106.den) (p2 : Int) (p3 : Int) (p4 : Int) (p5 : List ty36.den) (k : (Bool × (List ty106.den) × Int × Int × Int × (List ty36.den)) → Option R) : Option R :=
  cond (Ops.inb B p2 (List.length p1))
   (
    cond (Ops.eq B (Prod.fst (List.getD p1 (Int.toNat p2) (Ty.dflt ty106))) (4))
     (
      cond (Ops.inb B p2 (List.length p1))
       (
        k ((Prod.fst (Prod.snd (List.getD p1 (Int.toNat p2) (Ty.dflt ty106))) == p0, p1, p2, p3, p4, p5)))
       (
        none))
     (
      k ((false, p1, p2, p3, p4, p5))))
   (
    none)
theorem eq119 {R : Type} (B : Ops) (p0 : List UInt8) (p1 : List ty106.den) (p2 : Int) (p3 : Int) (p4 : Int) (p5 : List ty36.den) (k : AV → Objs → Option R) (n : Nat) : afun tau B gl0 X119 (gnil) ow Try.f119 [.c (.ptr 0 0), .c (.str p0)] [(0, .box 103 [.list 106 ty106 p1, .int .i64 p2, .own 1002, .int .i64 p3, .int .i64 p4]), (1002, .row 36 ty36 p5)] k n = T119 B p0 p1 p2 p3 p4 p5 (fun y => k (.c (.bool y.1)) [(0, .box 103 [.list 106 ty106 y.2.1, .int .i64 y.2.2.1, .own 1002, .int .i64 y.2.2.2.1, .int .i64 y.2.2.2.2.1]), (1002, .row 36 ty36 y.2.2.2.2.2)]) := by kernel_rfl
theorem nt119 {R R' : Type} (B : Ops) (p0 : List UInt8) (p1 : List ty106.den) (p2 : Int) (p3 : Int) (p4 : Int) (p5 : List ty36.den) (k0 : (Bool × (List ty106.den) × Int × Int × Int × (List ty36.den)) → Option R') (k : R' → Option R) : T119 B p0 p1 p2 p3 p4 p5 (fun y => ob (k0 y) k) = ob (T119 B p0 p1 p2 p3 p4 p5 k0) k := by
  unfold T119
  repeat' first | exact rfl | apply nat_cond | (apply nat_ob; intro)
def F119 (p0 : List UInt8) (p1 : List ty106.den) (p2 : Int) (p3 : Int) (p4 : Int) (p5 : List ty36.den) : Option (Bool × (List ty106.den) × Int × Int × Int × (List ty36.den)) := T119 Ops.std p0 p1 p2 p3 p4 p5 some
theorem fo119 {R : Type} (p0 : List UInt8) (p1 : List ty106.den) (p2 : Int) (p3 : Int) (p4 : Int) (p5 : List ty36.den) (k : AV → Objs → Option R) (n : Nat) : afun tau Ops.std gl0 X119 (gnil) ow Try.f119 [.c (.ptr 0 0), .c (.str p0)] [(0, .box 103 [.list 106 ty106 p1, .int .i64 p2, .own 1002, .int .i64 p3, .int .i64 p4]), (1002, .row 36 ty36 p5)] k n = ob (F119 p0 p1 p2 p3 p4 p5) (fun y => k (.c (.bool y.1)) [(0, .box 103 [.list 106 ty106 y.2.1, .int .i64 y.2.2.1, .own 1002, .int .i64 y.2.2.2.1, .int .i64 y.2.2.2.2.1]), (1002, .row 36 ty36 y.2.2.2.2.2)]) := by rw [eq119]; exact nt119 Ops.std p0 p1 p2 p3 p4 p5 some (fun y => k (.c (.bool y.1)) [(0, .box 103 [.list 106 ty106 y.2.1, .int .i64 y.2.2.1, .own 1002, .int .i64 y.2.2.2.1, .int .i64 y.2.2.2.2.1]), (1002, .row 36 ty36 y.2.2.2.2.2)])
def e119 {R : Type} (c : List UInt8 → List ty106.den → Int → Int → Int → List ty36.den → Option (Bool × (List ty106.den) × Int × Int × Int × (List ty36.den))) : Ent R := fun args objs k =>
  oCons args fun a0 l0 => oC a0 fun x0 => cPtr 0 x0 <| oCons l0 fun a1 l1 => oC a1 fun x1 => cStr x1 fun p0 => oNil l1 <| oBox 0 103 objs fun b0 o0 => cCons b0 fun u0_0 v0_0 => cList 106 ty106 u0_0 fun p1 => cCons v0_0 fun u0_1 v0_1 => cInt .i64 u0_1 fun p2 => cCons v0_1 fun u0_2 v0_2 => cOwn 1002 u0_2 <| cCons v0_2 fun u0_3 v0_3 => cInt .i64 u0_3 fun p3 => cCons v0_3 fun u0_4 v0_4 => cInt .i64 u0_4 fun p4 => cNil v0_4 <| oRow 1002 36 ty36 o0 fun p5 o1 => oNilO o1 <| ob (c p0 p1 p2 p3 p4 p5) fun y => k (.c (.bool y.1)) [(0, .box 103 [.list 106 ty106 y.2.1, .int .i64 y.2.2.1, .own 1002, .int .i64 y.2.2.2.1, .int .i64 y.2.2.2.2.1]), (1002, .row 36 ty36 y.2.2.2.2.2)]
abbrev Sp119 (c : List UInt8 → List ty106.den → Int → Int → Int → List ty36.den → Option (Bool × (List ty106.den) × Int × Int × Int × (List ty36.den))) : Prop := ∀ (p0 : List UInt8) (p1 : List ty106.den) (p2 : Int) (p3 : Int) (p4 : Int) (p5 : List ty36.den) (y : Bool × (List ty106.den) × Int × Int × Int × (List ty36.den)), c p0 p1 p2 p3 p4 p5 = some y → Spec Try.prog gl0 119 [.c (.ptr 0 0), .c (.str p0)] [(0, .box 103 [.list 106 ty106 p1, .int .i64 p2, .own 1002, .int .i64 p3, .int .i64 p4]), (1002, .row 36 ty36 p5)] (.c (.bool y.1)) [(0, .box 103 [.list 106 ty106 y.2.1, .int .i64 y.2.2.1, .own 1002, .int .i64 y.2.2.2.1, .int .i64 y.2.2.2.2.1]), (1002, .row 36 ty36 y.2.2.2.2.2)]
theorem ek119 {R : Type} {c : List UInt8 → List ty106.den → Int → Int → Int → List ty36.den → Option (Bool × (List ty106.den) × Int × Int × Int × (List ty36.den))} (hs : Sp119 c) : EOk 119 (e119 (R := R) c) := fun args objs k r h => by
  unfold e119 at h
  obtain ⟨a0, l0, rfl, q1⟩ := oCons_some h
  obtain ⟨x0, rfl, q2⟩ := oC_some q1
  obtain ⟨rfl, q3⟩ := cPtr_some q2
  obtain ⟨a1, l1, rfl, q4⟩ := oCons_some q3
  obtain ⟨x1, rfl, q5⟩ := oC_some q4
  obtain ⟨p0, rfl, q6⟩ := cStr_some q5
  obtain ⟨rfl, q7⟩ := oNil_some q6
  obtain ⟨b0, o0, rfl, q8⟩ := oBox_some q7
  obtain ⟨u0_0, v0_0, rfl, q9⟩ := cCons_some q8
  obtain ⟨p1, rfl, q10⟩ := cList_some q9
  obtain ⟨u0_1, v0_1, rfl, q11⟩ := cCons_some q10
  obtain ⟨p2, rfl, q12⟩ := cInt_some q11
  obtain ⟨u0_2, v0_2, rfl, q13⟩ := cCons_some q12
  obtain ⟨rfl, q14⟩ := cOwn_some q13
  obtain ⟨u0_3, v0_3, rfl, q15⟩ := cCons_some q14
  obtain ⟨p3, rfl, q16⟩ := cInt_some q15
  obtain ⟨u0_4, v0_4, rfl, q17⟩ := cCons_some q16
  obtain ⟨p4, rfl, q18⟩ := cInt_some q17
  obtain ⟨rfl, q19⟩ := cNil_some q18
  obtain ⟨p5, o1, rfl, q20⟩ := oRow_some q19
  obtain ⟨rfl, q21⟩ := oNilO_some q20
  exact eok_of (hs p0 p1 p2 p3 p4 p5) q21
theorem sf119 : Sp119 (F119) := fun p0 p1 p2 p3 p4 p5 y hy => by
  refine spec_of (G := gnil) (gnil_ok) 1000000 (fn := Try.f119) (by kernel_rfl) (by kernel_rfl) (X := X119) (by kernel_rfl) ?_
  rw [fo119, hy]
  rfl
noncomputable def M119 : List UInt8 → List ty106.den → Int → Int → Int → List ty36.den → Option (Bool × (List ty106.den) × Int × Int × Int × (List ty36.den)) := F119
theorem sm119 : Sp119 M119 := sf119

/-! ### 61: (*lariat/lariatref13.reader).fail -/
def X61 : Aux := ⟨[], []⟩
def T61 {R : Type} (B : Ops) (p0 : Int) (p1 : Int) (p2 : List ty106.den) (p3 : Int) (p4 : Int) (p5 : Int) (p6 : List ty36.den) (k : ((List ty106.den) × Int × Int × Int × (List ty36.den)) → Option R) : Option R :=
  cond (Ops.eq B p4 (0))
   (
    k ((p2, p3, p0, p1, p6)))
   (
    k ((p2, p3, p4, p5, p6)))
theorem eq61 {R : Type} (B : Ops) (p0 : Int) (p1 : Int) (p2 : List ty106.den) (p3 : Int) (p4 : Int) (p5 : Int) (p6 : List ty36.den) (k : AV → Objs → Option R) (n : Nat) : afun tau B gl0 X61 (gnil) ow Try.f61 [.c (.ptr 0 0), .c (.int .i64 p0), .c (.int .i64 p1)] [(0, .box 103 [.list 106 ty106 p2, .int .i64 p3, .own 1002, .int .i64 p4, .int .i64 p5]), (1002, .row 36 ty36 p6)] k n = T61 B p0 p1 p2 p3 p4 p5 p6 (fun y => k (.tup []) [(0, .box 103 [.list 106 ty106 y.1, .int .i64 y.2.1, .own 1002, .int .i64 y.2.2.1, .int .i64 y.2.2.2.1]), (1002, .row 36 ty36 y.2.2.2.2)]) := by kernel_rfl
theorem nt61 {R R' : Type} (B : Ops) (p0 : Int) (p1 : Int) (p2 : List ty106.den) (p3 : Int) (p4 : Int) (p5 : Int) (p6 : List ty36.den) (k0 : ((List ty106.den) × Int × Int × Int × (List ty36.den)) → Option R') (k : R' → Option R) : T61 B p0 p1 p2 p3 p4 p5 p6 (fun y => ob (k0 y) k) = ob (T61 B p0 p1 p2 p3 p4 p5 p6 k0) k := by
  unfold T61
  repeat' first | exact rfl | apply nat_cond | (apply nat_ob; intro)
def F61 (p0 : Int) (p1 : Int) (p2 : List ty106.den) (p3 : Int) (p4 : Int) (p5 : Int) (p6 : List ty36.den) : Option ((List ty106.den) × Int × Int × Int × (List ty36.den)) := T61 Ops.std p0 p1 p2 p3 p4 p5 p6 some
theorem fo61 {R : Type} (p0 : Int) (p1 : Int) (p2 : List ty106.den) (p3 : Int) (p4 : Int) (p5 : Int) (p6 : List ty36.den) (k : AV → Objs → Option R) (n : Nat) : afun tau Ops.std gl0 X61 (gnil) ow Try.f61 [.c (.ptr 0 0), .c (.int .i64 p0), .c (.int .i64 p1)] [(0, .box 103 [.list 106 ty106 p2, .int .i64 p3, .own 1002, .int .i64 p4, .int .i64 p5]), (1002, .row 36 ty36 p6)] k n = ob (F61 p0 p1 p2 p3 p4 p5 p6) (fun y => k (.tup []) [(0, .box 103 [.list 106 ty106 y.1, .int .i64 y.2.1, .own 1002, .int .i64 y.2.2.1, .int .i64 y.2.2.2.1]), (1002, .row 36 ty36 y.2.2.2.2)]) := by rw [eq61]; exact nt61 Ops.std p0 p1 p2 p3 p4 p5 p6 some (fun y => k (.tup []) [(0, .box 103 [.list 106 ty106 y.1, .int .i64 y.2.1, .own 1002, .int .i64 y.2.2.1, .int .i64 y.2.2.2.1]), (1002, .row 36 ty36 y.2.2.2.2)])
def e61 {R : Type} (c : Int → Int → List ty106.den → Int → Int → Int → List ty36.den → Option ((List ty106.den) × Int × Int × Int × (List ty36.den))) : Ent R := fun args objs k =>
  oCons args fun a0 l0 => oC a0 fun x0 => cPtr 0 x0 <| oCons l0 fun a1 l1 => oC a1 fun x1 => cInt .i64 x1 fun p0 => oCons l1 fun a2 l2 => oC a2 fun x2 => cInt .i64 x2 fun p1 => oNil l2 <| oBox 0 103 objs fun b0 o0 => cCons b0 fun u0_0 v0_0 => cList 106 ty106 u0_0 fun p2 => cCons v0_0 fun u0_1 v0_1 => cInt .i64 u0_1 fun p3 => cCons v0_1 fun u0_2 v0_2 => cOwn 1002 u0_2 <| cCons v0_2 fun u0_3 v0_3 => cInt .i64 u0_3 fun p4 => cCons v0_3 fun u0_4 v0_4 => cInt .i64 u0_4 fun p5 => cNil v0_4 <| oRow 1002 36 ty36 o0 fun p6 o1 => oNilO o1 <| ob (c p0 p1 p2 p3 p4 p5 p6) fun y => k (.tup []) [(0, .box 103 [.list 106 ty106 y.1, .int .i64 y.2.1, .own 1002, .int .i64 y.2.2.1, .int .i64 y.2.2.2.1]), (1002, .row 36 ty36 y.2.2.2.2)]
abbrev Sp61 (c : Int → Int → List ty106.den → Int → Int → Int → List ty36.den → Option ((List ty106.den) × Int × Int × Int × (List ty36.den))) : Prop := ∀ (p0 : Int) (p1 : Int) (p2 : List ty106.den) (p3 : Int) (p4 : Int) (p5 : Int) (p6 : List ty36.den) (y : (List ty106.den) × Int × Int × Int × (List ty36.den)), c p0 p1 p2 p3 p4 p5 p6 = some y → Spec Try.prog gl0 61 [.c (.ptr 0 0), .c (.int .i64 p0), .c (.int .i64 p1)] [(0, .box 103 [.list 106 ty106 p2, .int .i64 p3, .own 1002, .int .i64 p4, .int .i64 p5]), (1002, .row 36 ty36 p6)] (.tup []) [(0, .box 103 [.list 106 ty106 y.1, .int .i64 y.2.1, .own 1002, .int .i64 y.2.2.1, .int .i64 y.2.2.2.1]), (1002, .row 36 ty36 y.2.2.2.2)]
theorem ek61 {R : Type} {c : Int → Int → List ty106.den → Int → Int → Int → List ty36.den → Option ((List ty106.den) × Int × Int × Int × (List ty36.den))} (hs : Sp61 c) : EOk 61 (e61 (R := R) c) := fun args objs k r h => by
  unfold e61 at h
  obtain ⟨a0, l0, rfl, q1⟩ := oCons_some h
  obtain ⟨x0, rfl, q2⟩ := oC_some q1
  obtain ⟨rfl, q3⟩ := cPtr_some q2
  obtain ⟨a1, l1, rfl, q4⟩ := oCons_some q3
  obtain ⟨x1, rfl, q5⟩ := oC_some q4
  obtain ⟨p0, rfl, q6⟩ := cInt_some q5
  obtain ⟨a2, l2, rfl, q7⟩ := oCons_some q6
  obtain ⟨x2, rfl, q8⟩ := oC_some q7
  obtain ⟨p1, rfl, q9⟩ := cInt_some q8
  obtain ⟨rfl, q10⟩ := oNil_some q9
  obtain ⟨b0, o0, rfl, q11⟩ := oBox_some q10
  obtain ⟨u0_0, v0_0, rfl, q12⟩ := cCons_some q11
  obtain ⟨p2, rfl, q13⟩ := cList_some q12
  obtain ⟨u0_1, v0_1, rfl, q14⟩ := cCons_some q13
  obtain ⟨p3, rfl, q15⟩ := cInt_some q14
  obtain ⟨u0_2, v0_2, rfl, q16⟩ := cCons_some q15
  obtain ⟨rfl, q17⟩ := cOwn_some q16
  obtain ⟨u0_3, v0_3, rfl, q18⟩ := cCons_some q17
  obtain ⟨p4, rfl, q19⟩ := cInt_some q18
  obtain ⟨u0_4, v0_4, rfl, q20⟩ := cCons_some q19
  obtain ⟨p5, rfl, q21⟩ := cInt_some q20
  obtain ⟨rfl, q22⟩ := cNil_some q21
  obtain ⟨p6, o1, rfl, q23⟩ := oRow_some q22
  obtain ⟨rfl, q24⟩ := oNilO_some q23
  exact eok_of (hs p0 p1 p2 p3 p4 p5 p6) q24
theorem sf61 : Sp61 (F61) := fun p0 p1 p2 p3 p4 p5 p6 y hy => by
  refine spec_of (G := gnil) (gnil_ok) 1000000 (fn := Try.f61) (by kernel_rfl) (by kernel_rfl) (X := X61) (by kernel_rfl) ?_
  rw [fo61, hy]
  rfl
noncomputable def M61 : Int → Int → List ty106.den → Int → Int → Int → List ty36.den → Option ((List ty106.den) × Int × Int × Int × (List ty36.den)) := F61
theorem sm61 : Sp61 M61 := sf61

/-! ### 120: (*lariat/lariatref13.reader).close -/
def X120 : Aux := ⟨[], []⟩
def T120 {R : Type} (B : Ops) (c119 : List UInt8 → List ty106.den → Int → Int → Int → List ty36.den → Option (Bool × (List ty106.den) × Int × Int × Int × (List ty36.den))) (c61 : Int → Int → List ty106.den → Int → Int → Int → List ty36.den → Option ((List ty106.den) × Int × Int × Int × (List ty36.den))) (p0 : List UInt8) (p1 : List ty106.den) (p2 : Int) (p3 : Int) (p4 : Int) (p5 : List ty36.den) (k : ((List ty106.den) × Int × Int × Int × (List ty36.den)) → Option R) : Option R :=
  cond (!Ops.eq B p3 (0))
   (
    k ((p1, p2, p3, p4, p5)))
   (
    ob (c119 p0 p1 p2 p3 p4 p5) fun y0 =>
    cond (!Prod.fst y0)
     (
      ob (c61 (2) (Prod.fst (Prod.snd (Prod.snd y0))) (Prod.fst (Prod.snd y0)) (Prod.fst (Prod.snd (Prod.snd y0))) (Prod.fst (Prod.snd (Prod.snd (Prod.snd y0)))) (Prod.fst (Prod.snd (Prod.snd (Prod.snd (Prod.snd y0))))) (Prod.snd (Prod.snd (Prod.snd (Prod.snd (Prod.snd y0)))))) fun y1 =>
      k ((Prod.fst y1, Prod.fst (Prod.snd y1), Prod.fst (Prod.snd (Prod.snd y1)), Prod.fst (Prod.snd (Prod.snd (Prod.snd y1))), Prod.snd (Prod.snd (Prod.snd (Prod.snd y1))))))
     (
      k ((Prod.fst (Prod.snd y0), IntKind.wrap IntKind.i64 (Prod.fst (Prod.snd (Prod.snd y0)) + 1), Prod.fst (Prod.snd (Prod.snd (Prod.snd y0))), Prod.fst (Prod.snd (Prod.snd (Prod.snd (Prod.snd y0)))), Prod.snd (Prod.snd (Prod.snd (Prod.snd (Prod.snd y0))))))))
theorem eq120 {R : Type} (B : Ops) (c119 : List UInt8 → List ty106.den → Int → Int → Int → List ty36.den → Option (Bool × (List ty106.den) × Int × Int × Int × (List ty36.den))) (c61 : Int → Int → List ty106.den → Int → Int → Int → List ty36.den → Option ((List ty106.den) × Int × Int × Int × (List ty36.den))) (p0 : List UInt8) (p1 : List ty106.den) (p2 : Int) (p3 : Int) (p4 : Int) (p5 : List ty36.den) (k : AV → Objs → Option R) (n : Nat) : afun tau B gl0 X120 (ent 119 (e119 c119) (ent 61 (e61 c61) (gnil))) ow Try.f120 [.c (.ptr 0 0), .c (.str p0)] [(0, .box 103 [.list 106 ty106 p1, .int .i64 p2, .own 1002, .int .i64 p3, .int .i64 p4]), (1002, .row 36 ty36 p5)] k n = T120 B c119 c61 p0 p1 p2 p3 p4 p5 (fun y => k (.tup []) [(0, .box 103 [.list 106 ty106 y.1, .int .i64 y.2.1, .own 1002, .int .i64 y.2.2.1, .int .i64 y.2.2.2.1]), (1002, .row 36 ty36 y.2.2.2.2)]) := by kernel_rfl
theorem nt120 {R R' : Type} (B : Ops) (c119 : List UInt8 → List ty106.den → Int → Int → Int → List ty36.den → Option (Bool × (List ty106.den) × Int × Int × Int × (List ty36.den))) (c61 : Int → Int → List ty106.den → Int → Int → Int → List ty36.den → Option ((List ty106.den) × Int × Int × Int × (List ty36.den))) (p0 : List UInt8) (p1 : List ty106.den) (p2 : Int) (p3 : Int) (p4 : Int) (p5 : List ty36.den) (k0 : ((List ty106.den) × Int × Int × Int × (List ty36.den)) → Option R') (k : R' → Option R) : T120 B c119 c61 p0 p1 p2 p3 p4 p5 (fun y => ob (k0 y) k) = ob (T120 B c119 c61 p0 p1 p2 p3 p4 p5 k0) k := by
  unfold T120
  repeat' first | exact rfl | apply nat_cond | (apply nat_ob; intro)
def F120 (c119 : List UInt8 → List ty106.den → Int → Int → Int → List ty36.den → Option (Bool × (List ty106.den) × Int × Int × Int × (List ty36.den))) (c61 : Int → Int → List ty106.den → Int → Int → Int → List ty36.den → Option ((List ty106.den) × Int × Int × Int × (List ty36.den))) (p0 : List UInt8) (p1 : List ty106.den) (p2 : Int) (p3 : Int) (p4 : Int) (p5 : List ty36.den) : Option ((List ty106.den) × Int × Int × Int × (List ty36.den)) := T120 Ops.std c119 c61 p0 p1 p2 p3 p4 p5 some
theorem fo120 {R : Type} (c119 : List UInt8 → List ty106.den → Int → Int → Int → List ty36.den → Option (Bool × (List ty106.den) × Int × Int × Int × (List ty36.den))) (c61 : Int → Int → List ty106.den → Int → Int → Int → List ty36.den → Option ((List ty106.den) × Int × Int × Int × (List ty36.den))) (p0 : List UInt8) (p1 : List ty106.den) (p2 : Int) (p3 : Int) (p4 : Int) (p5 : List ty36.den) (k : AV → Objs → Option R) (n : Nat) : afun tau Ops.std gl0 X120 (ent 119 (e119 c119) (ent 61 (e61 c61) (gnil))) ow Try.f120 [.c (.ptr 0 0), .c (.str p0)] [(0, .box 103 [.list 106 ty106 p1, .int .i64 p2, .own 1002, .int .i64 p3, .int .i64 p4]), (1002, .row 36 ty36 p5)] k n = ob (F120 c119 c61 p0 p1 p2 p3 p4 p5) (fun y => k (.tup []) [(0, .box 103 [.list 106 ty106 y.1, .int .i64 y.2.1, .own 1002, .int .i64 y.2.2.1, .int .i64 y.2.2.2.1]), (1002, .row 36 ty36 y.2.2.2.2)]) := by rw [eq120]; exact nt120 Ops.std c119 c61 p0 p1 p2 p3 p4 p5 some (fun y => k (.tup []) [(0, .box 103 [.list 106 ty106 y.1, .int .i64 y.2.1, .own 1002, .int .i64 y.2.2.1, .int .i64 y.2.2.2.1]), (1002, .row 36 ty36 y.2.2.2.2)])
def e120 {R : Type} (c : List UInt8 → List ty106.den → Int → Int → Int → List ty36.den → Option ((List ty106.den) × Int × Int × Int × (List ty36.den))) : Ent R := fun args objs k =>
  oCons args fun a0 l0 => oC a0 fun x0 => cPtr 0 x0 <| oCons l0 fun a1 l1 => oC a1 fun x1 => cStr x1 fun p0 => oNil l1 <| oBox 0 103 objs fun b0 o0 => cCons b0 fun u0_0 v0_0 => cList 106 ty106 u0_0 fun p1 => cCons v0_0 fun u0_1 v0_1 => cInt .i64 u0_1 fun p2 => cCons v0_1 fun u0_2 v0_2 => cOwn 1002 u0_2 <| cCons v0_2 fun u0_3 v0_3 => cInt .i64 u0_3 fun p3 => cCons v0_3 fun u0_4 v0_4 => cInt .i64 u0_4 fun p4 => cNil v0_4 <| oRow 1002 36 ty36 o0 fun p5 o1 => oNilO o1 <| ob (c p0 p1 p2 p3 p4 p5) fun y => k (.tup []) [(0, .box 103 [.list 106 ty106 y.1, .int .i64 y.2.1, .own 1002, .int .i64 y.2.2.1, .int .i64 y.2.2.2.1]), (1002, .row 36 ty36 y.2.2.2.2)]
abbrev Sp120 (c : List UInt8 → List ty106.den → Int → Int → Int → List ty36.den → Option ((List ty106.den) × Int × Int × Int × (List ty36.den))) : Prop := ∀ (p0 : List UInt8) (p1 : List ty106.den) (p2 : Int) (p3 : Int) (p4 : Int) (p5 : List ty36.den) (y : (List ty106.den) × Int × Int × Int × (List ty36.den)), c p0 p1 p2 p3 p4 p5 = some y → Spec Try.prog gl0 120 [.c (.ptr 0 0), .c (.str p0)] [(0, .box 103 [.list 106 ty106 p1, .int .i64 p2, .own 1002, .int .i64 p3, .int .i64 p4]), (1002, .row 36 ty36 p5)] (.tup []) [(0, .box 103 [.list 106 ty106 y.1, .int .i64 y.2.1, .own 1002, .int .i64 y.2.2.1, .int .i64 y.2.2.2.1]), (1002, .row 36 ty36 y.2.2.2.2)]
theorem ek120 {R : Type} {c : List UInt8 → List ty106.den → Int → Int → Int → List ty36.den → Option ((List ty106.den) × Int × Int × Int × (List ty36.den))} (hs : Sp120 c) : EOk 120 (e120 (R := R) c) := fun args objs k r h => by
  unfold e120 at h
  obtain ⟨a0, l0, rfl, q1⟩ := oCons_some h
  obtain ⟨x0, rfl, q2⟩ := oC_some q1
  obtain ⟨rfl, q3⟩ := cPtr_some q2
  obtain ⟨a1, l1, rfl, q4⟩ := oCons_some q3
  obtain ⟨x1, rfl, q5⟩ := oC_some q4
  obtain ⟨p0, rfl, q6⟩ := cStr_some q5
  obtain ⟨rfl, q7⟩ := oNil_some q6
  obtain ⟨b0, o0, rfl, q8⟩ := oBox_some q7
  obtain ⟨u0_0, v0_0, rfl, q9⟩ := cCons_some q8
  obtain ⟨p1, rfl, q10⟩ := cList_some q9
  obtain ⟨u0_1, v0_1, rfl, q11⟩ := cCons_some q10
  obtain ⟨p2, rfl, q12⟩ := cInt_some q11
  obtain ⟨u0_2, v0_2, rfl, q13⟩ := cCons_some q12
  obtain ⟨rfl, q14⟩ := cOwn_some q13
  obtain ⟨u0_3, v0_3, rfl, q15⟩ := cCons_some q14
  obtain ⟨p3, rfl, q16⟩ := cInt_some q15
  obtain ⟨u0_4, v0_4, rfl, q17⟩ := cCons_some q16
  obtain ⟨p4, rfl, q18⟩ := cInt_some q17
  obtain ⟨rfl, q19⟩ := cNil_some q18
  obtain ⟨p5, o1, rfl, q20⟩ := oRow_some q19
  obtain ⟨rfl, q21⟩ := oNilO_some q20
  exact eok_of (hs p0 p1 p2 p3 p4 p5) q21
theorem sf120 {c119 : List UInt8 → List ty106.den → Int → Int → Int → List ty36.den → Option (Bool × (List ty106.den) × Int × Int × Int × (List ty36.den))} {c61 : Int → Int → List ty106.den → Int → Int → Int → List ty36.den → Option ((List ty106.den) × Int × Int × Int × (List ty36.den))} (h119 : Sp119 c119) (h61 : Sp61 c61) : Sp120 (F120 c119 c61) := fun p0 p1 p2 p3 p4 p5 y hy => by
  refine spec_of (G := ent 119 (e119 c119) (ent 61 (e61 c61) (gnil))) (ent_ok (ek119 h119) (ent_ok (ek61 h61) (gnil_ok))) 1000000 (fn := Try.f120) (by kernel_rfl) (by kernel_rfl) (X := X120) (by kernel_rfl) ?_
  rw [fo120, hy]
  rfl
noncomputable def M120 : List UInt8 → List ty106.den → Int → Int → Int → List ty36.den → Option ((List ty106.den) × Int × Int × Int × (List ty36.den)) := F120 M119 M61
theorem sm120 : Sp120 M120 := sf120 sm119 sm61

/-! ### 138: (*lariat/lariatref7.reader).is -/
def X138 : Aux := ⟨[], [(1, .lin [0, 1, 2, 3, 4, 5, 6, 7, 8, 9, 10, 11, 12, 13, 14, 15, 16, 17, 18, 19, 20, 21, 22, 23, 24, 25, 26, 27])]⟩
def T138 {R : Type} (B : Ops) (p0 : List UInt8) (p1 : List ty106.den) (p2 : Int) (p3 : Int) (p4 : List ty97.den) (k : (Bool × (List ty106.den) × Int × Int × (List ty97.den)) → Option R) : Option R :=
  cond (Ops.inb B p2 (List.length p1))
   (
    cond (Ops.eq B (Prod.fst (List.getD p1 (Int.toNat p2) (Ty.dflt ty106))) (4))
     (
      cond (Ops.inb B p2 (List.length p1))
       (
        k ((Prod.fst (Prod.snd (List.getD p1 (Int.toNat p2) (Ty.dflt ty106))) == p0, p1, p2, p3, p4)))
       (
        none))
     (
      k ((false, p1, p2, p3, p4))))
   (
    none)
theorem eq138 {R : Type} (B : Ops) (p0 : List UInt8) (p1 : List ty106.den) (p2 : Int) (p3 : Int) (p4 : List ty97.den) (k : AV → Objs → Option R) (n : Nat) : afun tau B gl0 X138 (gnil) ow Try.f138 [.c (.ptr 0 0), .c (.str p0)] [(0, .box 169 [.list 106 ty106 p1, .int .i64 p2, .own 1002, .int .i64 p3]), (1002, .row 97 ty97 p4)] k n = T138 B p0 p1 p2 p3 p4 (fun y => k (.c (.bool y.1)) [(0, .box 169 [.list 106 ty106 y.2.1, .int .i64 y.2.2.1, .own 1002, .int .i64 y.2.2.2.1]), (1002, .row 97 ty97 y.2.2.2.2)]) := by kernel_rfl
theorem nt138 {R R' : Type} (B : Ops) (p0 : List UInt8) (p1 : List ty106.den) (p2 : Int) (p3 : Int) (p4 : List ty97.den) (k0 : (Bool × (List ty106.den) × Int × Int × (List ty97.den)) → Option R') (k : R' → Option R) : T138 B p0 p1 p2 p3 p4 (fun y => ob (k0 y) k) = ob (T138 B p0 p1 p2 p3 p4 k0) k := by
  unfold T138
  repeat' first | exact rfl | apply nat_cond | (apply nat_ob; intro)
def F138 (p0 : List UInt8) (p1 : List ty106.den) (p2 : Int) (p3 : Int) (p4 : List ty97.den) : Option (Bool × (List ty106.den) × Int × Int × (List ty97.den)) := T138 Ops.std p0 p1 p2 p3 p4 some
theorem fo138 {R : Type} (p0 : List UInt8) (p1 : List ty106.den) (p2 : Int) (p3 : Int) (p4 : List ty97.den) (k : AV → Objs → Option R) (n : Nat) : afun tau Ops.std gl0 X138 (gnil) ow Try.f138 [.c (.ptr 0 0), .c (.str p0)] [(0, .box 169 [.list 106 ty106 p1, .int .i64 p2, .own 1002, .int .i64 p3]), (1002, .row 97 ty97 p4)] k n = ob (F138 p0 p1 p2 p3 p4) (fun y => k (.c (.bool y.1)) [(0, .box 169 [.list 106 ty106 y.2.1, .int .i64 y.2.2.1, .own 1002, .int .i64 y.2.2.2.1]), (1002, .row 97 ty97 y.2.2.2.2)]) := by rw [eq138]; exact nt138 Ops.std p0 p1 p2 p3 p4 some (fun y => k (.c (.bool y.1)) [(0, .box 169 [.list 106 ty106 y.2.1, .int .i64 y.2.2.1, .own 1002, .int .i64 y.2.2.2.1]), (1002, .row 97 ty97 y.2.2.2.2)])
def e138 {R : Type} (c : List UInt8 → List ty106.den → Int → Int → List ty97.den → Option (Bool × (List ty106.den) × Int × Int × (List ty97.den))) : Ent R := fun args objs k =>
  oCons args fun a0 l0 => oC a0 fun x0 => cPtr 0 x0 <| oCons l0 fun a1 l1 => oC a1 fun x1 => cStr x1 fun p0 => oNil l1 <| oBox 0 169 objs fun b0 o0 => cCons b0 fun u0_0 v0_0 => cList 106 ty106 u0_0 fun p1 => cCons v0_0 fun u0_1 v0_1 => cInt .i64 u0_1 fun p2 => cCons v0_1 fun u0_2 v0_2 => cOwn 1002 u0_2 <| cCons v0_2 fun u0_3 v0_3 => cInt .i64 u0_3 fun p3 => cNil v0_3 <| oRow 1002 97 ty97 o0 fun p4 o1 => oNilO o1 <| ob (c p0 p1 p2 p3 p4) fun y => k (.c (.bool y.1)) [(0, .box 169 [.list 106 ty106 y.2.1, .int .i64 y.2.2.1, .own 1002, .int .i64 y.2.2.2.1]), (1002, .row 97 ty97 y.2.2.2.2)]
abbrev Sp138 (c : List UInt8 → List ty106.den → Int → Int → List ty97.den → Option (Bool × (List ty106.den) × Int × Int × (List ty97.den))) : Prop := ∀ (p0 : List UInt8) (p1 : List ty106.den) (p2 : Int) (p3 : Int) (p4 : List ty97.den) (y : Bool × (List ty106.den) × Int × Int × (List ty97.den)), c p0 p1 p2 p3 p4 = some y → Spec Try.prog gl0 138 [.c (.ptr 0 0), .c (.str p0)] [(0, .box 169 [.list 106 ty106 p1, .int .i64 p2, .own 1002, .int .i64 p3]), (1002, .row 97 ty97 p4)] (.c (.bool y.1)) [(0, .box 169 [.list 106 ty106 y.2.1, .int .i64 y.2.2.1, .own 1002, .int .i64 y.2.2.2.1]), (1002, .row 97 ty97 y.2.2.2.2)]
theorem ek138 {R : Type} {c : List UInt8 → List ty106.den → Int → Int → List ty97.den → Option (Bool × (List ty106.den) × Int × Int × (List ty97.den))} (hs : Sp138 c) : EOk 138 (e138 (R := R) c) := fun args objs k r h => by
  unfold e138 at h
  obtain ⟨a0, l0, rfl, q1⟩ := oCons_some h
  obtain ⟨x0, rfl, q2⟩ := oC_some q1
  obtain ⟨rfl, q3⟩ := cPtr_some q2
  obtain ⟨a1, l1, rfl, q4⟩ := oCons_some q3
  obtain ⟨x1, rfl, q5⟩ := oC_some q4
  obtain ⟨p0, rfl, q6⟩ := cStr_some q5
  obtain ⟨rfl, q7⟩ := oNil_some q6
  obtain ⟨b0, o0, rfl, q8⟩ := oBox_some q7
  obtain ⟨u0_0, v0_0, rfl, q9⟩ := cCons_some q8
  obtain ⟨p1, rfl, q10⟩ := cList_some q9
  obtain ⟨u0_1, v0_1, rfl, q11⟩ := cCons_some q10
  obtain ⟨p2, rfl, q12⟩ := cInt_some q11
  obtain ⟨u0_2, v0_2, rfl, q13⟩ := cCons_some q12
  obtain ⟨rfl, q14⟩ := cOwn_some q13
  obtain ⟨u0_3, v0_3, rfl, q15⟩ := cCons_some q14
  obtain ⟨p3, rfl, q16⟩ := cInt_some q15
  obtain ⟨rfl, q17⟩ := cNil_some q16
  obtain ⟨p4, o1, rfl, q18⟩ := oRow_some q17
  obtain ⟨rfl, q19⟩ := oNilO_some q18
  exact eok_of (hs p0 p1 p2 p3 p4) q19
theorem sf138 : Sp138 (F138) := fun p0 p1 p2 p3 p4 y hy => by
  refine spec_of (G := gnil) (gnil_ok) 1000000 (fn := Try.f138) (by kernel_rfl) (by kernel_rfl) (X := X138) (by kernel_rfl) ?_
  rw [fo138, hy]
  rfl
noncomputable def M138 : List UInt8 → List ty106.den → Int → Int → List ty97.den → Option (Bool × (List ty106.den) × Int × Int × (List ty97.den)) := F138
theorem sm138 : Sp138 M138 := sf138

/-! ### 139: (*lariat/lariatref7.reader).fail -/
def X139 : Aux := ⟨[], []⟩
def T139 {R : Type} (B : Ops) (p0 : List ty106.den) (p1 : Int) (p2 : Int) (p3 : List ty97.den) (k : ((List ty106.den) × Int × Int × (List ty97.den)) → Option R) : Option R :=
  cond (Ops.lt B p2 (0))
   (
    k ((p0, p1, p1, p3)))
   (
    k ((p0, p1, p2, p3)))
theorem eq139 {R : Type} (B : Ops) (p0 : List ty106.den) (p1 : Int) (p2 : Int) (p3 : List ty97.den) (k : AV → Objs → Option R) (n : Nat) : afun tau B gl0 X139 (gnil) ow Try.f139 [.c (.ptr 0 0)] [(0, .box 169 [.list 106 ty106 p0, .int .i64 p1, .own 1002, .int .i64 p2]), (1002, .row 97 ty97 p3)] k n = T139 B p0 p1 p2 p3 (fun y => k (.tup []) [(0, .box 169 [.list 106 ty106 y.1, .int .i64 y.2.1, .own 1002, .int .i64 y.2.2.1]), (1002, .row 97 ty97 y.2.2.2)]) := by kernel_rfl
theorem nt139 {R R' : Type} (B : Ops) (p0 : List ty106.den) (p1 : Int) (p2 : Int) (p3 : List ty97.den) (k0 : ((List ty106.den) × Int × Int × (List ty97.den)) → Option R') (k : R' → Option R) : T139 B p0 p1 p2 p3 (fun y => ob (k0 y) k) = ob (T139 B p0 p1 p2 p3 k0) k := by
  unfold T139
  repeat' first | exact rfl | apply nat_cond | (apply nat_ob; intro)
def F139 (p0 : List ty106.den) (p1 : Int) (p2 : Int) (p3 : List ty97.den) : Option ((List ty106.den) × Int × Int × (List ty97.den)) := T139 Ops.std p0 p1 p2 p3 some
theorem fo139 {R : Type} (p0 : List ty106.den) (p1 : Int) (p2 : Int) (p3 : List ty97.den) (k : AV → Objs → Option R) (n : Nat) : afun tau Ops.std gl0 X139 (gnil) ow Try.f139 [.c (.ptr 0 0)] [(0, .box 169 [.list 106 ty106 p0, .int .i64 p1, .own 1002, .int .i64 p2]), (1002, .row 97 ty97 p3)] k n = ob (F139 p0 p1 p2 p3) (fun y => k (.tup []) [(0, .box 169 [.list 106 ty106 y.1, .int .i64 y.2.1, .own 1002, .int .i64 y.2.2.1]), (1002, .row 97 ty97 y.2.2.2)]) := by rw [eq139]; exact nt139 Ops.std p0 p1 p2 p3 some (fun y => k (.tup []) [(0, .box 169 [.list 106 ty106 y.1, .int .i64 y.2.1, .own 1002, .int .i64 y.2.2.1]), (1002, .row 97 ty97 y.2.2.2)])
def e139 {R : Type} (c : List ty106.den → Int → Int → List ty97.den → Option ((List ty106.den) × Int × Int × (List ty97.den))) : Ent R := fun args objs k =>
  oCons args fun a0 l0 => oC a0 fun x0 => cPtr 0 x0 <| oNil l0 <| oBox 0 169 objs fun b0 o0 => cCons b0 fun u0_0 v0_0 => cList 106 ty106 u0_0 fun p0 => cCons v0_0 fun u0_1 v0_1 => cInt .i64 u0_1 fun p1 => cCons v0_1 fun u0_2 v0_2 => cOwn 1002 u0_2 <| cCons v0_2 fun u0_3 v0_3 => cInt .i64 u0_3 fun p2 => cNil v0_3 <| oRow 1002 97 ty97 o0 fun p3 o1 => oNilO o1 <| ob (c p0 p1 p2 p3) fun y => k (.tup []) [(0, .box 169 [.list 106 ty106 y.1, .int .i64 y.2.1, .own 1002, .int .i64 y.2.2.1]), (1002, .row 97 ty97 y.2.2.2)]
abbrev Sp139 (c : List ty106.den → Int → Int → List ty97.den → Option ((List ty106.den) × Int × Int × (List ty97.den))) : Prop := ∀ (p0 : List ty106.den) (p1 : Int) (p2 : Int) (p3 : List ty97.den) (y : (List ty106.den) × Int × Int × (List ty97.den)), c p0 p1 p2 p3 = some y → Spec Try.prog gl0 139 [.c (.ptr 0 0)] [(0, .box 169 [.list 106 ty106 p0, .int .i64 p1, .own 1002, .int .i64 p2]), (1002, .row 97 ty97 p3)] (.tup []) [(0, .box 169 [.list 106 ty106 y.1, .int .i64 y.2.1, .own 1002, .int .i64 y.2.2.1]), (1002, .row 97 ty97 y.2.2.2)]
theorem ek139 {R : Type} {c : List ty106.den → Int → Int → List ty97.den → Option ((List ty106.den) × Int × Int × (List ty97.den))} (hs : Sp139 c) : EOk 139 (e139 (R := R) c) := fun args objs k r h => by
  unfold e139 at h
  obtain ⟨a0, l0, rfl, q1⟩ := oCons_some h
  obtain ⟨x0, rfl, q2⟩ := oC_some q1
  obtain ⟨rfl, q3⟩ := cPtr_some q2
  obtain ⟨rfl, q4⟩ := oNil_some q3
  obtain ⟨b0, o0, rfl, q5⟩ := oBox_some q4
  obtain ⟨u0_0, v0_0, rfl, q6⟩ := cCons_some q5
  obtain ⟨p0, rfl, q7⟩ := cList_some q6
  obtain ⟨u0_1, v0_1, rfl, q8⟩ := cCons_some q7
  obtain ⟨p1, rfl, q9⟩ := cInt_some q8
  obtain ⟨u0_2, v0_2, rfl, q10⟩ := cCons_some q9
  obtain ⟨rfl, q11⟩ := cOwn_some q10
  obtain ⟨u0_3, v0_3, rfl, q12⟩ := cCons_some q11
  obtain ⟨p2, rfl, q13⟩ := cInt_some q12
  obtain ⟨rfl, q14⟩ := cNil_some q13
  obtain ⟨p3, o1, rfl, q15⟩ := oRow_some q14
  obtain ⟨rfl, q16⟩ := oNilO_some q15
  exact eok_of (hs p0 p1 p2 p3) q16
theorem sf139 : Sp139 (F139) := fun p0 p1 p2 p3 y hy => by
  refine spec_of (G := gnil) (gnil_ok) 1000000 (fn := Try.f139) (by kernel_rfl) (by kernel_rfl) (X := X139) (by kernel_rfl) ?_
  rw [fo139, hy]
  rfl
noncomputable def M139 : List ty106.den → Int → Int → List ty97.den → Option ((List ty106.den) × Int × Int × (List ty97.den)) := F139
theorem sm139 : Sp139 M139 := sf139

/-! ### 85: lariat/lariatref7.strength -/
def X85 : Aux := ⟨[], []⟩
def T85 {R : Type} (B : Ops) (p0 : Int) (k : (Int) → Option R) : Option R :=
  cond (Ops.eq B p0 (16))
   (
    k 1)
   (
    cond (Ops.eq B p0 (15))
     (
      k 2)
     (
      cond (Ops.eq B p0 (9))
       (
        k 3)
       (
        cond (Ops.eq B p0 (10))
         (
          k 3)
         (
          cond (Ops.eq B p0 (11))
           (
            k 3)
           (
            cond (Ops.eq B p0 (12))
             (
              k 3)
             (
              cond (Ops.eq B p0 (13))
               (
                k 3)
               (
                cond (Ops.eq B p0 (14))
                 (
                  k 3)
                 (
                  cond (Ops.eq B p0 (7))
                   (
                    k 4)
                   (
                    cond (Ops.eq B p0 (8))
                     (
                      k 4)
                     (
                      cond (Ops.eq B p0 (6))
                       (
                        k 5)
                       (
                        cond (Ops.eq B p0 (4))
                         (
                          k 6)
                         (
                          cond (Ops.eq B p0 (5))
                           (
                            k 6)
                           (
                            k 7)))))))))))))
theorem eq85 {R : Type} (B : Ops) (p0 : Int) (k : AV → Objs → Option R) (n : Nat) : afun tau B gl0 X85 (gnil) ow Try.f85 [.c (.int .i64 p0)] [] k n = T85 B p0 (fun y => k (.c (.int .i64 y)) []) := by kernel_rfl
theorem nt85 {R R' : Type} (B : Ops) (p0 : Int) (k0 : (Int) → Option R') (k : R' → Option R) : T85 B p0 (fun y => ob (k0 y) k) = ob (T85 B p0 k0) k := by
  unfold T85
  repeat' first | exact rfl | apply nat_cond | (apply nat_ob; intro)
def F85 (p0 : Int) : Option (Int) := T85 Ops.std p0 some
theorem fo85 {R : Type} (p0 : Int) (k : AV → Objs → Option R) (n : Nat) : afun tau Ops.std gl0 X85 (gnil) ow Try.f85 [.c (.int .i64 p0)] [] k n = ob (F85 p0) (fun y => k (.c (.int .i64 y)) []) := by rw [eq85]; exact nt85 Ops.std p0 some (fun y => k (.c (.int .i64 y)) [])
def e85 {R : Type} (c : Int → Option (Int)) : Ent R := fun args objs k =>
  oCons args fun a0 l0 => oC a0 fun x0 => cInt .i64 x0 fun p0 => oNil l0 <| oNilO objs <| ob (c p0) fun y => k (.c (.int .i64 y)) []
abbrev Sp85 (c : Int → Option (Int)) : Prop := ∀ (p0 : Int) (y : Int), c p0 = some y → Spec Try.prog gl0 85 [.c (.int .i64 p0)] [] (.c (.int .i64 y)) []
theorem ek85 {R : Type} {c : Int → Option (Int)} (hs : Sp85 c) : EOk 85 (e85 (R := R) c) := fun args objs k r h => by
  unfold e85 at h
  obtain ⟨a0, l0, rfl, q1⟩ := oCons_some h
  obtain ⟨x0, rfl, q2⟩ := oC_some q1
  obtain ⟨p0, rfl, q3⟩ := cInt_some q2
  obtain ⟨rfl, q4⟩ := oNil_some q3
  obtain ⟨rfl, q5⟩ := oNilO_some q4
  exact eok_of (hs p0) q5
theorem sf85 : Sp85 (F85) := fun p0 y hy => by
  refine spec_of (G := gnil) (gnil_ok) 1000000 (fn := Try.f85) (by kernel_rfl) (by kernel_rfl) (X := X85) (by kernel_rfl) ?_
  rw [fo85, hy]
  rfl
noncomputable def M85 : Int → Option (Int) := F85
theorem sm85 : Sp85 M85 := sf85

/-! ### 136: lariat/lariatref7.binary -/
def X136 : Aux := ⟨[(5, [0, 3, 4, 7, 8, 9, 10, 11, 12, 13, 14, 15, 16, 17, 18, 19, 20, 21, 22, 23, 24, 25, 26, 27])], [(7, .lin [0, 1, 2, 3, 4, 5, 6, 7, 9, 8, 10, 11])]⟩
inductive S136 where
  | l0 (v0_1 : Int)
def T136 {R : Type} (B : Ops) (c85 : Int → Option (Int)) (p0 : Int) (p1 : List UInt8) (p2 : Int) (p3 : Int) (p4 : Int) (again : S136 → Option R) (k : (Int) → Option R) : Option S136 → Option R
  | none =>
    cond (!Ops.eq B p0 (4))
     (
      k 0)
     (
      again (.l0 6))
  | some (.l0 v0_1) =>
    cond (Ops.le B v0_1 (16))
     (
      cond (Ops.inb B v0_1 (17))
       (
        cond (List.getD ((mt UInt8) :: (mt UInt8) :: (mt UInt8) :: (mt UInt8) :: (mt UInt8) :: (mt UInt8) :: ([42] : List UInt8) :: ([43] : List UInt8) :: ([45] : List UInt8) :: ([60] : List UInt8) :: ([60, 61] : List UInt8) :: ([62] : List UInt8) :: ([62, 61] : List UInt8) :: ([61, 61] : List UInt8) :: ([33, 61] : List UInt8) :: ([38, 38] : List UInt8) :: ([124, 124] : List UInt8) :: mt (List UInt8)) (Int.toNat v0_1) (mt UInt8) == p1)
         (
          ob (c85 v0_1) fun y0 =>
          cond (Ops.eq B y0 p4)
           (
            k v0_1)
           (
            again (.l0 (IntKind.wrap IntKind.i64 (v0_1 + 1)))))
         (
          again (.l0 (IntKind.wrap IntKind.i64 (v0_1 + 1)))))
       (
        none))
     (
      k 0)
def E136 (p0 : Int) (p1 : List UInt8) (p2 : Int) (p3 : Int) (p4 : Int) : S136 → List AV × Objs
  | .l0 v0_1 => (mk 28 [(1, .c (.int .i64 p4)), (2, .c (.ptr 2 0)), (5, .c (.ptr 5 0)), (6, .c (.int .i64 v0_1))], [(2, .box 106 [.int .i64 p0, .str p1, .int .i64 p2, .int .i64 p3]), (5, .box 128 [.str (mt UInt8), .str (mt UInt8), .str (mt UInt8), .str (mt UInt8), .str (mt UInt8), .str (mt UInt8), .str ([42] : List UInt8), .str ([43] : List UInt8), .str ([45] : List UInt8), .str ([60] : List UInt8), .str ([60, 61] : List UInt8), .str ([62] : List UInt8), .str ([62, 61] : List UInt8), .str ([61, 61] : List UInt8), .str ([33, 61] : List UInt8), .str ([38, 38] : List UInt8), .str ([124, 124] : List UInt8)])])
def I136 : S136 → Nat
  | .l0 _ => 0
theorem eq136 {R : Type} (B : Ops) (c85 : Int → Option (Int)) (p0 : Int) (p1 : List UInt8) (p2 : Int) (p3 : Int) (p4 : Int) (k : AV → Objs → Option R) (n : Nat) : afun tau B gl0 X136 (ent 85 (e85 c85) (gnil)) ow Try.f136 [.agg [.int .i64 p0, .str p1, .int .i64 p2, .int .i64 p3], .c (.int .i64 p4)] [] k n = T136 B c85 p0 p1 p2 p3 p4 (fun s => aloop tau B gl0 X136 (ent 85 (e85 c85) (gnil)) ow [] Try.f136 k (I136 s) (E136 p0 p1 p2 p3 p4 s) n) (fun y => k (.c (.int .i64 y)) []) none := by kernel_rfl
theorem el136 {R : Type} (B : Ops) (c85 : Int → Option (Int)) (p0 : Int) (p1 : List UInt8) (p2 : Int) (p3 : Int) (p4 : Int) (k : AV → Objs → Option R) (n : Nat) : ∀ s, aloop tau B gl0 X136 (ent 85 (e85 c85) (gnil)) ow [] Try.f136 k (I136 s) (E136 p0 p1 p2 p3 p4 s) (n + 1) = T136 B c85 p0 p1 p2 p3 p4 (fun s => aloop tau B gl0 X136 (ent 85 (e85 c85) (gnil)) ow [] Try.f136 k (I136 s) (E136 p0 p1 p2 p3 p4 s) n) (fun y => k (.c (.int .i64 y)) []) (some s)
  | .l0 v0_1 => by kernel_rfl
theorem nt136 {R R' : Type} (B : Ops) (c85 : Int → Option (Int)) (p0 : Int) (p1 : List UInt8) (p2 : Int) (p3 : Int) (p4 : Int) (again : S136 → Option R) (again' : S136 → Option R') (k0 : (Int) → Option R') (k : R' → Option R) (h : ∀ s, again s = ob (again' s) k) : ∀ s, T136 B c85 p0 p1 p2 p3 p4 again (fun y => ob (k0 y) k) s = ob (T136 B c85 p0 p1 p2 p3 p4 again' k0 s) k
  | none => by unfold T136; repeat' first | exact rfl | exact h _ | apply nat_cond | (apply nat_ob; intro)
  | some (.l0 v0_1) => by unfold T136; repeat' first | exact rfl | exact h _ | apply nat_cond | (apply nat_ob; intro)
def R136 (c85 : Int → Option (Int)) (p0 : Int) (p1 : List UInt8) (p2 : Int) (p3 : Int) (p4 : Int) : Nat → S136 → Option (Int)
  | 0, _ => none
  | n + 1, s => T136 Ops.std c85 p0 p1 p2 p3 p4 (R136 c85 p0 p1 p2 p3 p4 n) some (some s)
theorem rr136 {R : Type} (c85 : Int → Option (Int)) (p0 : Int) (p1 : List UInt8) (p2 : Int) (p3 : Int) (p4 : Int) (k : AV → Objs → Option R) : ∀ (n : Nat) (s : S136), aloop tau Ops.std gl0 X136 (ent 85 (e85 c85) (gnil)) ow [] Try.f136 k (I136 s) (E136 p0 p1 p2 p3 p4 s) n = ob (R136 c85 p0 p1 p2 p3 p4 n s) (fun y => k (.c (.int .i64 y)) [])
  | 0, s => by cases s <;> rfl
  | n + 1, s => by rw [el136]; exact nt136 Ops.std c85 p0 p1 p2 p3 p4 _ _ some (fun y => k (.c (.int .i64 y)) []) (rr136 c85 p0 p1 p2 p3 p4 k n) (some s)
def F136 (c85 : Int → Option (Int)) (p0 : Int) (p1 : List UInt8) (p2 : Int) (p3 : Int) (p4 : Int) : Option (Int) := T136 Ops.std c85 p0 p1 p2 p3 p4 (R136 c85 p0 p1 p2 p3 p4 1000000) some none
theorem fo136 {R : Type} (c85 : Int → Option (Int)) (p0 : Int) (p1 : List UInt8) (p2 : Int) (p3 : Int) (p4 : Int) (k : AV → Objs → Option R) : afun tau Ops.std gl0 X136 (ent 85 (e85 c85) (gnil)) ow Try.f136 [.agg [.int .i64 p0, .str p1, .int .i64 p2, .int .i64 p3], .c (.int .i64 p4)] [] k 1000000 = ob (F136 c85 p0 p1 p2 p3 p4) (fun y => k (.c (.int .i64 y)) []) := by rw [eq136]; exact nt136 Ops.std c85 p0 p1 p2 p3 p4 _ _ some (fun y => k (.c (.int .i64 y)) []) (rr136 c85 p0 p1 p2 p3 p4 k 1000000) none
def e136 {R : Type} (c : Int → List UInt8 → Int → Int → Int → Option (Int)) : Ent R := fun args objs k =>
  oCons args fun a0 l0 => oAgg a0 fun x0 => cCons x0 fun z0_0 w0_0 => cInt .i64 z0_0 fun p0 => cCons w0_0 fun z0_1 w0_1 => cStr z0_1 fun p1 => cCons w0_1 fun z0_2 w0_2 => cInt .i64 z0_2 fun p2 => cCons w0_2 fun z0_3 w0_3 => cInt .i64 z0_3 fun p3 => cNil w0_3 <| oCons l0 fun a1 l1 => oC a1 fun x1 => cInt .i64 x1 fun p4 => oNil l1 <| oNilO objs <| ob (c p0 p1 p2 p3 p4) fun y => k (.c (.int .i64 y)) []
abbrev Sp136 (c : Int → List UInt8 → Int → Int → Int → Option (Int)) : Prop := ∀ (p0 : Int) (p1 : List UInt8) (p2 : Int) (p3 : Int) (p4 : Int) (y : Int), c p0 p1 p2 p3 p4 = some y → Spec Try.prog gl0 136 [.agg [.int .i64 p0, .str p1, .int .i64 p2, .int .i64 p3], .c (.int .i64 p4)] [] (.c (.int .i64 y)) []
theorem ek136 {R : Type} {c : Int → List UInt8 → Int → Int → Int → Option (Int)} (hs : Sp136 c) : EOk 136 (e136 (R := R) c) := fun args objs k r h => by
  unfold e136 at h
  obtain ⟨a0, l0, rfl, q1⟩ := oCons_some h
  obtain ⟨x0, rfl, q2⟩ := oAgg_some q1
  obtain ⟨z0_0, w0_0, rfl, q3⟩ := cCons_some q2
  obtain ⟨p0, rfl, q4⟩ := cInt_some q3
  obtain ⟨z0_1, w0_1, rfl, q5⟩ := cCons_some q4
  obtain ⟨p1, rfl, q6⟩ := cStr_some q5
  obtain ⟨z0_2, w0_2, rfl, q7⟩ := cCons_some q6
  obtain ⟨p2, rfl, q8⟩ := cInt_some q7
  obtain ⟨z0_3, w0_3, rfl, q9⟩ := cCons_some q8
  obtain ⟨p3, rfl, q10⟩ := cInt_some q9
  obtain ⟨rfl, q11⟩ := cNil_some q10
  obtain ⟨a1, l1, rfl, q12⟩ := oCons_some q11
  obtain ⟨x1, rfl, q13⟩ := oC_some q12
  obtain ⟨p4, rfl, q14⟩ := cInt_some q13
  obtain ⟨rfl, q15⟩ := oNil_some q14
  obtain ⟨rfl, q16⟩ := oNilO_some q15
  exact eok_of (hs p0 p1 p2 p3 p4) q16
theorem sf136 {c85 : Int → Option (Int)} (h85 : Sp85 c85) : Sp136 (F136 c85) := fun p0 p1 p2 p3 p4 y hy => by
  refine spec_of (G := ent 85 (e85 c85) (gnil)) (ent_ok (ek85 h85) (gnil_ok)) 1000000 (fn := Try.f136) (by kernel_rfl) (by kernel_rfl) (X := X136) (by kernel_rfl) ?_
  rw [fo136, hy]
  rfl
noncomputable def M136 : Int → List UInt8 → Int → Int → Int → Option (Int) := F136 M85
theorem sm136 : Sp136 M136 := sf136 sm85
def e131 {R : Type} (c : Int → List ty106.den → Int → Int → List ty97.den → Option ((List ty106.den) × Int × Int × (List ty97.den))) : Ent R := fun args objs k =>
  oCons args fun a0 l0 => oC a0 fun x0 => cPtr 0 x0 <| oCons l0 fun a1 l1 => oC a1 fun x1 => cInt .i64 x1 fun p0 => oNil l1 <| oBox 0 169 objs fun b0 o0 => cCons b0 fun u0_0 v0_0 => cList 106 ty106 u0_0 fun p1 => cCons v0_0 fun u0_1 v0_1 => cInt .i64 u0_1 fun p2 => cCons v0_1 fun u0_2 v0_2 => cOwn 1002 u0_2 <| cCons v0_2 fun u0_3 v0_3 => cInt .i64 u0_3 fun p3 => cNil v0_3 <| oRow 1002 97 ty97 o0 fun p4 o1 => oNilO o1 <| ob (c p0 p1 p2 p3 p4) fun y => k (.tup []) [(0, .box 169 [.list 106 ty106 y.1, .int .i64 y.2.1, .own 1002, .int .i64 y.2.2.1]), (1002, .row 97 ty97 y.2.2.2)]
abbrev Sp131 (c : Int → List ty106.den → Int → Int → List ty97.den → Option ((List ty106.den) × Int × Int × (List ty97.den))) : Prop := ∀ (p0 : Int) (p1 : List ty106.den) (p2 : Int) (p3 : Int) (p4 : List ty97.den) (y : (List ty106.den) × Int × Int × (List ty97.den)), c p0 p1 p2 p3 p4 = some y → Spec Try.prog gl0 131 [.c (.ptr 0 0), .c (.int .i64 p0)] [(0, .box 169 [.list 106 ty106 p1, .int .i64 p2, .own 1002, .int .i64 p3]), (1002, .row 97 ty97 p4)] (.tup []) [(0, .box 169 [.list 106 ty106 y.1, .int .i64 y.2.1, .own 1002, .int .i64 y.2.2.1]), (1002, .row 97 ty97 y.2.2.2)]
theorem ek131 {R : Type} {c : Int → List ty106.den → Int → Int → List ty97.den → Option ((List ty106.den) × Int × Int × (List ty97.den))} (hs : Sp131 c) : EOk 131 (e131 (R := R) c) := fun args objs k r h => by
  unfold e131 at h
  obtain ⟨a0, l0, rfl, q1⟩ := oCons_some h
  obtain ⟨x0, rfl, q2⟩ := oC_some q1
  obtain ⟨rfl, q3⟩ := cPtr_some q2
  obtain ⟨a1, l1, rfl, q4⟩ := oCons_some q3
  obtain ⟨x1, rfl, q5⟩ := oC_some q4
  obtain ⟨p0, rfl, q6⟩ := cInt_some q5
  obtain ⟨rfl, q7⟩ := oNil_some q6
  obtain ⟨b0, o0, rfl, q8⟩ := oBox_some q7
  obtain ⟨u0_0, v0_0, rfl, q9⟩ := cCons_some q8
  obtain ⟨p1, rfl, q10⟩ := cList_some q9
  obtain ⟨u0_1, v0_1, rfl, q11⟩ := cCons_some q10
  obtain ⟨p2, rfl, q12⟩ := cInt_some q11
  obtain ⟨u0_2, v0_2, rfl, q13⟩ := cCons_some q12
  obtain ⟨rfl, q14⟩ := cOwn_some q13
  obtain ⟨u0_3, v0_3, rfl, q15⟩ := cCons_some q14
  obtain ⟨p3, rfl, q16⟩ := cInt_some q15
  obtain ⟨rfl, q17⟩ := cNil_some q16
  obtain ⟨p4, o1, rfl, q18⟩ := oRow_some q17
  obtain ⟨rfl, q19⟩ := oNilO_some q18
  exact eok_of (hs p0 p1 p2 p3 p4) q19
def e135 {R : Type} (c : List ty106.den → Int → Int → List ty97.den → Option ((List ty106.den) × Int × Int × (List ty97.den))) : Ent R := fun args objs k =>
  oCons args fun a0 l0 => oC a0 fun x0 => cPtr 0 x0 <| oNil l0 <| oBox 0 169 objs fun b0 o0 => cCons b0 fun u0_0 v0_0 => cList 106 ty106 u0_0 fun p0 => cCons v0_0 fun u0_1 v0_1 => cInt .i64 u0_1 fun p1 => cCons v0_1 fun u0_2 v0_2 => cOwn 1002 u0_2 <| cCons v0_2 fun u0_3 v0_3 => cInt .i64 u0_3 fun p2 => cNil v0_3 <| oRow 1002 97 ty97 o0 fun p3 o1 => oNilO o1 <| ob (c p0 p1 p2 p3) fun y => k (.tup []) [(0, .box 169 [.list 106 ty106 y.1, .int .i64 y.2.1, .own 1002, .int .i64 y.2.2.1]), (1002, .row 97 ty97 y.2.2.2)]
abbrev Sp135 (c : List ty106.den → Int → Int → List ty97.den → Option ((List ty106.den) × Int × Int × (List ty97.den))) : Prop := ∀ (p0 : List ty106.den) (p1 : Int) (p2 : Int) (p3 : List ty97.den) (y : (List ty106.den) × Int × Int × (List ty97.den)), c p0 p1 p2 p3 = some y → Spec Try.prog gl0 135 [.c (.ptr 0 0)] [(0, .box 169 [.list 106 ty106 p0, .int .i64 p1, .own 1002, .int .i64 p2]), (1002, .row 97 ty97 p3)] (.tup []) [(0, .box 169 [.list 106 ty106 y.1, .int .i64 y.2.1, .own 1002, .int .i64 y.2.2.1]), (1002, .row 97 ty97 y.2.2.2)]
theorem ek135 {R : Type} {c : List ty106.den → Int → Int → List ty97.den → Option ((List ty106.den) × Int × Int × (List ty97.den))} (hs : Sp135 c) : EOk 135 (e135 (R := R) c) := fun args objs k r h => by
  unfold e135 at h
  obtain ⟨a0, l0, rfl, q1⟩ := oCons_some h
  obtain ⟨x0, rfl, q2⟩ := oC_some q1
  obtain ⟨rfl, q3⟩ := cPtr_some q2
  obtain ⟨rfl, q4⟩ := oNil_some q3
  obtain ⟨b0, o0, rfl, q5⟩ := oBox_some q4
  obtain ⟨u0_0, v0_0, rfl, q6⟩ := cCons_some q5
  obtain ⟨p0, rfl, q7⟩ := cList_some q6
  obtain ⟨u0_1, v0_1, rfl, q8⟩ := cCons_some q7
  obtain ⟨p1, rfl, q9⟩ := cInt_some q8
  obtain ⟨u0_2, v0_2, rfl, q10⟩ := cCons_some q9
  obtain ⟨rfl, q11⟩ := cOwn_some q10
  obtain ⟨u0_3, v0_3, rfl, q12⟩ := cCons_some q11
  obtain ⟨p2, rfl, q13⟩ := cInt_some q12
  obtain ⟨rfl, q14⟩ := cNil_some q13
  obtain ⟨p3, o1, rfl, q15⟩ := oRow_some q14
  obtain ⟨rfl, q16⟩ := oNilO_some q15
  exact eok_of (hs p0 p1 p2 p3) q16

/-! ### 131: (*lariat/lariatref7.reader).level -/
def X131 : Aux := ⟨[(3, [2, 3, 4, 5, 6, 7, 8, 9, 10, 11, 12, 13, 14, 15, 16, 17, 18, 19, 20, 21, 22, 23, 24, 25, 26, 27, 28, 29, 30, 31, 32, 33, 34, 35, 36, 37, 38, 39, 40, 41, 42, 43, 44, 45, 46, 47, 48, 49, 50, 51, 52, 53, 54, 55])], [(4, .lin [0, 1, 2, 3, 4, 5, 6, 7, 8, 9, 10, 11, 12])]⟩
inductive S131 where
  | l0 (v0_1 : List ty106.den) (v0_2 : Int) (v0_3 : Int) (v0_4 : List ty97.den)
def T131 {R : Type} (B : Ops) (c135 : List ty106.den → Int → Int → List ty97.den → Option ((List ty106.den) × Int × Int × (List ty97.den))) (c131 : Int → List ty106.den → Int → Int → List ty97.den → Option ((List ty106.den) × Int × Int × (List ty97.den))) (c136 : Int → List UInt8 → Int → Int → Int → Option (Int)) (p0 : Int) (p1 : List ty106.den) (p2 : Int) (p3 : Int) (p4 : List ty97.den) (again : S131 → Option R) (k : ((List ty106.den) × Int × Int × (List ty97.den)) → Option R) : Option S131 → Option R
  | none =>
    cond (Ops.lt B (5) p0)
     (
      ob (c135 p1 p2 p3 p4) fun y0 =>
      k ((Prod.fst y0, Prod.fst (Prod.snd y0), Prod.fst (Prod.snd (Prod.snd y0)), Prod.snd (Prod.snd (Prod.snd y0)))))
     (
      ob (c131 (IntKind.wrap IntKind.i64 (p0 + 1)) p1 p2 p3 p4) fun y0 =>
      again (.l0 (Prod.fst y0) (Prod.fst (Prod.snd y0)) (Prod.fst (Prod.snd (Prod.snd y0))) (Prod.snd (Prod.snd (Prod.snd y0)))))
  | some (.l0 v0_1 v0_2 v0_3 v0_4) =>
    cond (Ops.lt B v0_3 (0))
     (
      cond (Ops.inb B v0_2 (List.length v0_1))
       (
        ob (c136 (Prod.fst (List.getD v0_1 (Int.toNat v0_2) (Ty.dflt ty106))) (Prod.fst (Prod.snd (List.getD v0_1 (Int.toNat v0_2) (Ty.dflt ty106)))) (Prod.fst (Prod.snd (Prod.snd (List.getD v0_1 (Int.toNat v0_2) (Ty.dflt ty106))))) (Prod.snd (Prod.snd (Prod.snd (List.getD v0_1 (Int.toNat v0_2) (Ty.dflt ty106))))) p0) fun y0 =>
        cond (Ops.eq B y0 (0))
         (
          k ((v0_1, v0_2, v0_3, v0_4)))
         (
          ob (c131 (IntKind.wrap IntKind.i64 (p0 + 1)) v0_1 (IntKind.wrap IntKind.i64 (v0_2 + 1)) v0_3 v0_4) fun y1 =>
          cond (Ops.lim B (List.length (Prod.snd (Prod.snd (Prod.snd y1))) + List.length ((y0, 0, mt UInt8, mt UInt8) :: mt (Ty.den (Ty.pair (Ty.int IntKind.i64) (Ty.pair (Ty.int IntKind.i64) (Ty.pair Ty.str Ty.str)))))) (48))
           (
            cond (Ops.eq B p0 (3))
             (
              k ((Prod.fst y1, Prod.fst (Prod.snd y1), Prod.fst (Prod.snd (Prod.snd y1)), Prod.snd (Prod.snd (Prod.snd y1)) ++ (y0, 0, mt UInt8, mt UInt8) :: mt (Ty.den (Ty.pair (Ty.int IntKind.i64) (Ty.pair (Ty.int IntKind.i64) (Ty.pair Ty.str Ty.str)))))))
             (
              again (.l0 (Prod.fst y1) (Prod.fst (Prod.snd y1)) (Prod.fst (Prod.snd (Prod.snd y1))) (Prod.snd (Prod.snd (Prod.snd y1)) ++ (y0, 0, mt UInt8, mt UInt8) :: mt (Ty.den (Ty.pair (Ty.int IntKind.i64) (Ty.pair (Ty.int IntKind.i64) (Ty.pair Ty.str Ty.str))))))))
           (
            none)))
       (
        none))
     (
      k ((v0_1, v0_2, v0_3, v0_4)))
def E131 (p0 : Int) (p1 : List ty106.den) (p2 : Int) (p3 : Int) (p4 : List ty97.den) : S131 → List AV × Objs
  | .l0 v0_1 v0_2 v0_3 v0_4 => (mk 56 [(0, .c (.ptr 0 0)), (1, .c (.int .i64 p0))], [(0, .box 169 [.list 106 ty106 v0_1, .int .i64 v0_2, .own 1002, .int .i64 v0_3]), (1002, .row 97 ty97 v0_4)])
def I131 : S131 → Nat
  | .l0 _ _ _ _ => 0
theorem eq131 {R : Type} (B : Ops) (c135 : List ty106.den → Int → Int → List ty97.den → Option ((List ty106.den) × Int × Int × (List ty97.den))) (c131 : Int → List ty106.den → Int → Int → List ty97.den → Option ((List ty106.den) × Int × Int × (List ty97.den))) (c136 : Int → List UInt8 → Int → Int → Int → Option (Int)) (p0 : Int) (p1 : List ty106.den) (p2 : Int) (p3 : Int) (p4 : List ty97.den) (k : AV → Objs → Option R) (n : Nat) : afun tau B gl0 X131 (ent 135 (e135 c135) (ent 131 (e131 c131) (ent 136 (e136 c136) (gnil)))) ow Try.f131 [.c (.ptr 0 0), .c (.int .i64 p0)] [(0, .box 169 [.list 106 ty106 p1, .int .i64 p2, .own 1002, .int .i64 p3]), (1002, .row 97 ty97 p4)] k n = T131 B c135 c131 c136 p0 p1 p2 p3 p4 (fun s => aloop tau B gl0 X131 (ent 135 (e135 c135) (ent 131 (e131 c131) (ent 136 (e136 c136) (gnil)))) ow [0] Try.f131 k (I131 s) (E131 p0 p1 p2 p3 p4 s) n) (fun y => k (.tup []) [(0, .box 169 [.list 106 ty106 y.1, .int .i64 y.2.1, .own 1002, .int .i64 y.2.2.1]), (1002, .row 97 ty97 y.2.2.2)]) none := by kernel_rfl
theorem el131 {R : Type} (B : Ops) (c135 : List ty106.den → Int → Int → List ty97.den → Option ((List ty106.den) × Int × Int × (List ty97.den))) (c131 : Int → List ty106.den → Int → Int → List ty97.den → Option ((List ty106.den) × Int × Int × (List ty97.den))) (c136 : Int → List UInt8 → Int → Int → Int → Option (Int)) (p0 : Int) (p1 : List ty106.den) (p2 : Int) (p3 : Int) (p4 : List ty97.den) (k : AV → Objs → Option R) (n : Nat) : ∀ s, aloop tau B gl0 X131 (ent 135 (e135 c135) (ent 131 (e131 c131) (ent 136 (e136 c136) (gnil)))) ow [0] Try.f131 k (I131 s) (E131 p0 p1 p2 p3 p4 s) (n + 1) = T131 B c135 c131 c136 p0 p1 p2 p3 p4 (fun s => aloop tau B gl0 X131 (ent 135 (e135 c135) (ent 131 (e131 c131) (ent 136 (e136 c136) (gnil)))) ow [0] Try.f131 k (I131 s) (E131 p0 p1 p2 p3 p4 s) n) (fun y => k (.tup []) [(0, .box 169 [.list 106 ty106 y.1, .int .i64 y.2.1, .own 1002, .int .i64 y.2.2.1]), (1002, .row 97 ty97 y.2.2.2)]) (some s)
  | .l0 v0_1 v0_2 v0_3 v0_4 => by kernel_rfl
theorem nt131 {R R' : Type} (B : Ops) (c135 : List ty106.den → Int → Int → List ty97.den → Option ((List ty106.den) × Int × Int × (List ty97.den))) (c131 : Int → List ty106.den → Int → Int → List ty97.den → Option ((List ty106.den) × Int × Int × (List ty97.den))) (c136 : Int → List UInt8 → Int → Int → Int → Option (Int)) (p0 : Int) (p1 : List ty106.den) (p2 : Int) (p3 : Int) (p4 : List ty97.den) (again : S131 → Option R) (again' : S131 → Option R') (k0 : ((List ty106.den) × Int × Int × (List ty97.den)) → Option R') (k : R' → Option R) (h : ∀ s, again s = ob (again' s) k) : ∀ s, T131 B c135 c131 c136 p0 p1 p2 p3 p4 again (fun y => ob (k0 y) k) s = ob (T131 B c135 c131 c136 p0 p1 p2 p3 p4 again' k0 s) k
  | none => by unfold T131; repeat' first | exact rfl | exact h _ | apply nat_cond | (apply nat_ob; intro)
  | some (.l0 v0_1 v0_2 v0_3 v0_4) => by unfold T131; repeat' first | exact rfl | exact h _ | apply nat_cond | (apply nat_ob; intro)
def R131 (c135 : List ty106.den → Int → Int → List ty97.den → Option ((List ty106.den) × Int × Int × (List ty97.den))) (c131 : Int → List ty106.den → Int → Int → List ty97.den → Option ((List ty106.den) × Int × Int × (List ty97.den))) (c136 : Int → List UInt8 → Int → Int → Int → Option (Int)) (p0 : Int) (p1 : List ty106.den) (p2 : Int) (p3 : Int) (p4 : List ty97.den) : Nat → S131 → Option ((List ty106.den) × Int × Int × (List ty97.den))
  | 0, _ => none
  | n + 1, s => T131 Ops.std c135 c131 c136 p0 p1 p2 p3 p4 (R131 c135 c131 c136 p0 p1 p2 p3 p4 n) some (some s)
theorem rr131 {R : Type} (c135 : List ty106.den → Int → Int → List ty97.den → Option ((List ty106.den) × Int × Int × (List ty97.den))) (c131 : Int → List ty106.den → Int → Int → List ty97.den → Option ((List ty106.den) × Int × Int × (List ty97.den))) (c136 : Int → List UInt8 → Int → Int → Int → Option (Int)) (p0 : Int) (p1 : List ty106.den) (p2 : Int) (p3 : Int) (p4 : List ty97.den) (k : AV → Objs → Option R) : ∀ (n : Nat) (s : S131), aloop tau Ops.std gl0 X131 (ent 135 (e135 c135) (ent 131 (e131 c131) (ent 136 (e136 c136) (gnil)))) ow [0] Try.f131 k (I131 s) (E131 p0 p1 p2 p3 p4 s) n = ob (R131 c135 c131 c136 p0 p1 p2 p3 p4 n s) (fun y => k (.tup []) [(0, .box 169 [.list 106 ty106 y.1, .int .i64 y.2.1, .own 1002, .int .i64 y.2.2.1]), (1002, .row 97 ty97 y.2.2.2)])
  | 0, s => by cases s <;> rfl
  | n + 1, s => by rw [el131]; exact nt131 Ops.std c135 c131 c136 p0 p1 p2 p3 p4 _ _ some (fun y => k (.tup []) [(0, .box 169 [.list 106 ty106 y.1, .int .i64 y.2.1, .own 1002, .int .i64 y.2.2.1]), (1002, .row 97 ty97 y.2.2.2)]) (rr131 c135 c131 c136 p0 p1 p2 p3 p4 k n) (some s)
def F131 (c135 : List ty106.den → Int → Int → List ty97.den → Option ((List ty106.den) × Int × Int × (List ty97.den))) (c131 : Int → List ty106.den → Int → Int → List ty97.den → Option ((List ty106.den) × Int × Int × (List ty97.den))) (c136 : Int → List UInt8 → Int → Int → Int → Option (Int)) (p0 : Int) (p1 : List ty106.den) (p2 : Int) (p3 : Int) (p4 : List ty97.den) : Option ((List ty106.den) × Int × Int × (List ty97.den)) := T131 Ops.std c135 c131 c136 p0 p1 p2 p3 p4 (R131 c135 c131 c136 p0 p1 p2 p3 p4 1000000) some none
theorem fo131 {R : Type} (c135 : List ty106.den → Int → Int → List ty97.den → Option ((List ty106.den) × Int × Int × (List ty97.den))) (c131 : Int → List ty106.den → Int → Int → List ty97.den → Option ((List ty106.den) × Int × Int × (List ty97.den))) (c136 : Int → List UInt8 → Int → Int → Int → Option (Int)) (p0 : Int) (p1 : List ty106.den) (p2 : Int) (p3 : Int) (p4 : List ty97.den) (k : AV → Objs → Option R) : afun tau Ops.std gl0 X131 (ent 135 (e135 c135) (ent 131 (e131 c131) (ent 136 (e136 c136) (gnil)))) ow Try.f131 [.c (.ptr 0 0), .c (.int .i64 p0)] [(0, .box 169 [.list 106 ty106 p1, .int .i64 p2, .own 1002, .int .i64 p3]), (1002, .row 97 ty97 p4)] k 1000000 = ob (F131 c135 c131 c136 p0 p1 p2 p3 p4) (fun y => k (.tup []) [(0, .box 169 [.list 106 ty106 y.1, .int .i64 y.2.1, .own 1002, .int .i64 y.2.2.1]), (1002, .row 97 ty97 y.2.2.2)]) := by rw [eq131]; exact nt131 Ops.std c135 c131 c136 p0 p1 p2 p3 p4 _ _ some (fun y => k (.tup []) [(0, .box 169 [.list 106 ty106 y.1, .int .i64 y.2.1, .own 1002, .int .i64 y.2.2.1]), (1002, .row 97 ty97 y.2.2.2)]) (rr131 c135 c131 c136 p0 p1 p2 p3 p4 k 1000000) none
theorem sf131 {c135 : List ty106.den → Int → Int → List ty97.den → Option ((List ty106.den) × Int × Int × (List ty97.den))} {c131 : Int → List ty106.den → Int → Int → List ty97.den → Option ((List ty106.den) × Int × Int × (List ty97.den))} {c136 : Int → List UInt8 → Int → Int → Int → Option (Int)} (h135 : Sp135 c135) (h131 : Sp131 c131) (h136 : Sp136 c136) : Sp131 (F131 c135 c131 c136) := fun p0 p1 p2 p3 p4 y hy => by
  refine spec_of (G := ent 135 (e135 c135) (ent 131 (e131 c131) (ent 136 (e136 c136) (gnil)))) (ent_ok (ek135 h135) (ent_ok (ek131 h131) (ent_ok (ek136 h136) (gnil_ok)))) 1000000 (fn := Try.f131) (by kernel_rfl) (by kernel_rfl) (X := X131) (by kernel_rfl) ?_
  rw [fo131, hy]
  rfl

/-! ### 135: (*lariat/lariatref7.reader).unary -/
def X135 : Aux := ⟨[(1000006, [1, 3, 4, 5, 6, 7, 8, 9, 10, 11, 12, 13, 14, 15, 16, 17, 18, 19, 20, 21, 22, 23, 24, 25, 26, 27, 28, 29, 30, 31, 32, 33, 34, 35, 36, 37, 38, 39, 40, 41, 42, 43, 44, 45, 46, 47, 48, 49, 50, 51, 52, 53, 54, 55, 56, 57, 58, 59, 60, 61, 62, 63, 64, 65, 66, 67, 68, 69, 70, 71, 72, 73, 74, 75, 76, 77, 78, 79, 80, 81, 82, 83, 84, 85, 86, 87, 88, 89, 90, 91, 92, 93, 94, 95, 96, 97, 98, 99, 100, 101, 102, 103, 104, 105, 106, 107, 108, 109, 110, 111, 112, 113, 114, 115, 116, 117, 118, 119, 120, 121, 122, 123, 124, 125, 126, 127, 128, 129, 130, 131, 132, 133, 134, 135, 136, 137, 138, 139, 140, 141, 142, 143, 144, 145, 146, 147, 148, 149, 150, 151, 152, 153, 154, 155, 156, 157, 158, 159, 160, 161, 162, 163, 164, 165, 166, 167, 168, 169])], [(10, .lin [0, 1, 2, 3, 4, 5, 6, 7, 8, 9, 10, 11]), (14, .lin [0, 1, 2, 3, 4, 5, 6, 7, 8, 9, 10, 11, 12]), (20, .lin [0, 1, 2, 3, 4, 5, 6, 7, 8, 9, 10, 11]), (23, .lin [0, 1, 2, 3, 4, 5, 6, 7, 8, 9, 10, 11, 12]), (25, .lin [0, 1, 2, 3, 4, 5, 6, 7, 8, 9, 10])]⟩
inductive S135 where
  | l1006 (v1006_0 : Int) (v1006_1 : List ty106.den) (v1006_2 : Int) (v1006_3 : Int) (v1006_4 : List ty97.den)
def T135 {R : Type} (B : Ops) (c138 : List UInt8 → List ty106.den → Int → Int → List ty97.den → Option (Bool × (List ty106.den) × Int × Int × (List ty97.den))) (c135 : List ty106.den → Int → Int → List ty97.den → Option ((List ty106.den) × Int × Int × (List ty97.den))) (c139 : List ty106.den → Int → Int → List ty97.den → Option ((List ty106.den) × Int × Int × (List ty97.den))) (c131 : Int → List ty106.den → Int → Int → List ty97.den → Option ((List ty106.den) × Int × Int × (List ty97.den))) (p0 : List ty106.den) (p1 : Int) (p2 : Int) (p3 : List ty97.den) (again : S135 → Option R) (k : ((List ty106.den) × Int × Int × (List ty97.den)) → Option R) : Option S135 → Option R
  | none =>
    cond (Ops.le B (0) p2)
     (
      k ((p0, p1, p2, p3)))
     (
      ob (c138 ([33] : List UInt8) p0 p1 p2 p3) fun y0 =>
      cond (Prod.fst y0)
       (
        again (.l1006 4 (Prod.fst (Prod.snd y0)) (Prod.fst (Prod.snd (Prod.snd y0))) (Prod.fst (Prod.snd (Prod.snd (Prod.snd y0)))) (Prod.snd (Prod.snd (Prod.snd (Prod.snd y0))))))
       (
        ob (c138 ([45] : List UInt8) (Prod.fst (Prod.snd y0)) (Prod.fst (Prod.snd (Prod.snd y0))) (Prod.fst (Prod.snd (Prod.snd (Prod.snd y0)))) (Prod.snd (Prod.snd (Prod.snd (Prod.snd y0))))) fun y1 =>
        cond (Prod.fst y1)
         (
          again (.l1006 5 (Prod.fst (Prod.snd y1)) (Prod.fst (Prod.snd (Prod.snd y1))) (Prod.fst (Prod.snd (Prod.snd (Prod.snd y1)))) (Prod.snd (Prod.snd (Prod.snd (Prod.snd y1))))))
         (
          again (.l1006 0 (Prod.fst (Prod.snd y1)) (Prod.fst (Prod.snd (Prod.snd y1))) (Prod.fst (Prod.snd (Prod.snd (Prod.snd y1)))) (Prod.snd (Prod.snd (Prod.snd (Prod.snd y1))))))))
  | some (.l1006 v1006_0 v1006_1 v1006_2 v1006_3 v1006_4) =>
    cond (!Ops.eq B v1006_0 (0))
     (
      ob (c135 v1006_1 (IntKind.wrap IntKind.i64 (v1006_2 + 1)) v1006_3 v1006_4) fun y0 =>
      cond (Ops.lim B (List.length (Prod.snd (Prod.snd (Prod.snd y0))) + List.length ((v1006_0, 0, mt UInt8, mt UInt8) :: mt (Ty.den (Ty.pair (Ty.int IntKind.i64) (Ty.pair (Ty.int IntKind.i64) (Ty.pair Ty.str Ty.str)))))) (48))
       (
        k ((Prod.fst y0, Prod.fst (Prod.snd y0), Prod.fst (Prod.snd (Prod.snd y0)), Prod.snd (Prod.snd (Prod.snd y0)) ++ (v1006_0, 0, mt UInt8, mt UInt8) :: mt (Ty.den (Ty.pair (Ty.int IntKind.i64) (Ty.pair (Ty.int IntKind.i64) (Ty.pair Ty.str Ty.str)))))))
       (
        none))
     (
      cond (Ops.inb B v1006_2 (List.length v1006_1))
       (
        cond (Ops.eq B (Prod.fst (List.getD v1006_1 (Int.toNat v1006_2) (Ty.dflt ty106))) (1))
         (
          cond (Ops.lim B (List.length v1006_4 + List.length ((1, Prod.fst (Prod.snd (Prod.snd (List.getD v1006_1 (Int.toNat v1006_2) (Ty.dflt ty106)))), mt UInt8, mt UInt8) :: mt (Ty.den (Ty.pair (Ty.int IntKind.i64) (Ty.pair (Ty.int IntKind.i64) (Ty.pair Ty.str Ty.str)))))) (48))
           (
            k ((v1006_1, IntKind.wrap IntKind.i64 (v1006_2 + 1), v1006_3, v1006_4 ++ (1, Prod.fst (Prod.snd (Prod.snd (List.getD v1006_1 (Int.toNat v1006_2) (Ty.dflt ty106)))), mt UInt8, mt UInt8) :: mt (Ty.den (Ty.pair (Ty.int IntKind.i64) (Ty.pair (Ty.int IntKind.i64) (Ty.pair Ty.str Ty.str)))))))
           (
            none))
         (
          cond (Ops.eq B (Prod.fst (List.getD v1006_1 (Int.toNat v1006_2) (Ty.dflt ty106))) (2))
           (
            ob (c138 ([64] : List UInt8) v1006_1 (IntKind.wrap IntKind.i64 (v1006_2 + 1)) v1006_3 v1006_4) fun y0 =>
            cond (Prod.fst y0)
             (
              cond (Ops.inb B (IntKind.wrap IntKind.i64 (Prod.fst (Prod.snd (Prod.snd y0)) + 1)) (List.length (Prod.fst (Prod.snd y0))))
               (
                cond (!Ops.eq B (Prod.fst (List.getD (Prod.fst (Prod.snd y0)) (Int.toNat (IntKind.wrap IntKind.i64 (Prod.fst (Prod.snd (Prod.snd y0)) + 1))) (Ty.dflt ty106))) (2))
                 (
                  ob (c139 (Prod.fst (Prod.snd y0)) (IntKind.wrap IntKind.i64 (Prod.fst (Prod.snd (Prod.snd y0)) + 1)) (Prod.fst (Prod.snd (Prod.snd (Prod.snd y0)))) (Prod.snd (Prod.snd (Prod.snd (Prod.snd y0))))) fun y1 =>
                  k ((Prod.fst y1, Prod.fst (Prod.snd y1), Prod.fst (Prod.snd (Prod.snd y1)), Prod.snd (Prod.snd (Prod.snd y1)))))
                 (
                  cond (Ops.inb B (IntKind.wrap IntKind.i64 (Prod.fst (Prod.snd (Prod.snd y0)) + 1)) (List.length (Prod.fst (Prod.snd y0))))
                   (
                    cond (Ops.lim B (List.length (Prod.snd (Prod.snd (Prod.snd (Prod.snd y0)))) + List.length ((3, 0, Prod.fst (Prod.snd (List.getD v1006_1 (Int.toNat v1006_2) (Ty.dflt ty106))), Prod.fst (Prod.snd (List.getD (Prod.fst (Prod.snd y0)) (Int.toNat (IntKind.wrap IntKind.i64 (Prod.fst (Prod.snd (Prod.snd y0)) + 1))) (Ty.dflt ty106)))) :: mt (Ty.den (Ty.pair (Ty.int IntKind.i64) (Ty.pair (Ty.int IntKind.i64) (Ty.pair Ty.str Ty.str)))))) (48))
                     (
                      k ((Prod.fst (Prod.snd y0), IntKind.wrap IntKind.i64 (IntKind.wrap IntKind.i64 (Prod.fst (Prod.snd (Prod.snd y0)) + 1) + 1), Prod.fst (Prod.snd (Prod.snd (Prod.snd y0))), Prod.snd (Prod.snd (Prod.snd (Prod.snd y0))) ++ (3, 0, Prod.fst (Prod.snd (List.getD v1006_1 (Int.toNat v1006_2) (Ty.dflt ty106))), Prod.fst (Prod.snd (List.getD (Prod.fst (Prod.snd y0)) (Int.toNat (IntKind.wrap IntKind.i64 (Prod.fst (Prod.snd (Prod.snd y0)) + 1))) (Ty.dflt ty106)))) :: mt (Ty.den (Ty.pair (Ty.int IntKind.i64) (Ty.pair (Ty.int IntKind.i64) (Ty.pair Ty.str Ty.str)))))))
                     (
                      none))
                   (
                    none)))
               (
                none))
             (
              cond (Ops.lim B (List.length (Prod.snd (Prod.snd (Prod.snd (Prod.snd y0)))) + List.length ((2, 0, Prod.fst (Prod.snd (List.getD v1006_1 (Int.toNat v1006_2) (Ty.dflt ty106))), mt UInt8) :: mt (Ty.den (Ty.pair (Ty.int IntKind.i64) (Ty.pair (Ty.int IntKind.i64) (Ty.pair Ty.str Ty.str)))))) (48))
               (
                k ((Prod.fst (Prod.snd y0), Prod.fst (Prod.snd (Prod.snd y0)), Prod.fst (Prod.snd (Prod.snd (Prod.snd y0))), Prod.snd (Prod.snd (Prod.snd (Prod.snd y0))) ++ (2, 0, Prod.fst (Prod.snd (List.getD v1006_1 (Int.toNat v1006_2) (Ty.dflt ty106))), mt UInt8) :: mt (Ty.den (Ty.pair (Ty.int IntKind.i64) (Ty.pair (Ty.int IntKind.i64) (Ty.pair Ty.str Ty.str)))))))
               (
                none)))
           (
            ob (c138 ([40] : List UInt8) v1006_1 v1006_2 v1006_3 v1006_4) fun y0 =>
            cond (Prod.fst y0)
             (
              ob (c131 (1) (Prod.fst (Prod.snd y0)) (IntKind.wrap IntKind.i64 (Prod.fst (Prod.snd (Prod.snd y0)) + 1)) (Prod.fst (Prod.snd (Prod.snd (Prod.snd y0)))) (Prod.snd (Prod.snd (Prod.snd (Prod.snd y0))))) fun y1 =>
              cond (Ops.le B (0) (Prod.fst (Prod.snd (Prod.snd y1))))
               (
                k ((Prod.fst y1, Prod.fst (Prod.snd y1), Prod.fst (Prod.snd (Prod.snd y1)), Prod.snd (Prod.snd (Prod.snd y1)))))
               (
                ob (c138 ([41] : List UInt8) (Prod.fst y1) (Prod.fst (Prod.snd y1)) (Prod.fst (Prod.snd (Prod.snd y1))) (Prod.snd (Prod.snd (Prod.snd y1)))) fun y2 =>
                cond (!Prod.fst y2)
                 (
                  ob (c139 (Prod.fst (Prod.snd y2)) (Prod.fst (Prod.snd (Prod.snd y2))) (Prod.fst (Prod.snd (Prod.snd (Prod.snd y2)))) (Prod.snd (Prod.snd (Prod.snd (Prod.snd y2))))) fun y3 =>
                  k ((Prod.fst y3, Prod.fst (Prod.snd y3), Prod.fst (Prod.snd (Prod.snd y3)), Prod.snd (Prod.snd (Prod.snd y3)))))
                 (
                  k ((Prod.fst (Prod.snd y2), IntKind.wrap IntKind.i64 (Prod.fst (Prod.snd (Prod.snd y2)) + 1), Prod.fst (Prod.snd (Prod.snd (Prod.snd y2))), Prod.snd (Prod.snd (Prod.snd (Prod.snd y2))))))))
             (
              ob (c139 (Prod.fst (Prod.snd y0)) (Prod.fst (Prod.snd (Prod.snd y0))) (Prod.fst (Prod.snd (Prod.snd (Prod.snd y0)))) (Prod.snd (Prod.snd (Prod.snd (Prod.snd y0))))) fun y1 =>
              k ((Prod.fst y1, Prod.fst (Prod.snd y1), Prod.fst (Prod.snd (Prod.snd y1)), Prod.snd (Prod.snd (Prod.snd y1))))))))
       (
        none))
def E135 (p0 : List ty106.den) (p1 : Int) (p2 : Int) (p3 : List ty97.den) : S135 → List AV × Objs
  | .l1006 v1006_0 v1006_1 v1006_2 v1006_3 v1006_4 => (mk 170 [(0, .c (.ptr 0 0)), (2, .c (.int .i64 v1006_0))], [(0, .box 169 [.list 106 ty106 v1006_1, .int .i64 v1006_2, .own 1002, .int .i64 v1006_3]), (1002, .row 97 ty97 v1006_4)])
def I135 : S135 → Nat
  | .l1006 _ _ _ _ _ => 1006
theorem eq135 {R : Type} (B : Ops) (c138 : List UInt8 → List ty106.den → Int → Int → List ty97.den → Option (Bool × (List ty106.den) × Int × Int × (List ty97.den))) (c135 : List ty106.den → Int → Int → List ty97.den → Option ((List ty106.den) × Int × Int × (List ty97.den))) (c139 : List ty106.den → Int → Int → List ty97.den → Option ((List ty106.den) × Int × Int × (List ty97.den))) (c131 : Int → List ty106.den → Int → Int → List ty97.den → Option ((List ty106.den) × Int × Int × (List ty97.den))) (p0 : List ty106.den) (p1 : Int) (p2 : Int) (p3 : List ty97.den) (k : AV → Objs → Option R) (n : Nat) : afun tau B gl0 X135 (ent 138 (e138 c138) (ent 135 (e135 c135) (ent 139 (e139 c139) (ent 131 (e131 c131) (gnil))))) ow Try.f135 [.c (.ptr 0 0)] [(0, .box 169 [.list 106 ty106 p0, .int .i64 p1, .own 1002, .int .i64 p2]), (1002, .row 97 ty97 p3)] k n = T135 B c138 c135 c139 c131 p0 p1 p2 p3 (fun s => aloop tau B gl0 X135 (ent 138 (e138 c138) (ent 135 (e135 c135) (ent 139 (e139 c139) (ent 131 (e131 c131) (gnil))))) ow [0] Try.f135 k (I135 s) (E135 p0 p1 p2 p3 s) n) (fun y => k (.tup []) [(0, .box 169 [.list 106 ty106 y.1, .int .i64 y.2.1, .own 1002, .int .i64 y.2.2.1]), (1002, .row 97 ty97 y.2.2.2)]) none := by kernel_rfl
theorem el135 {R : Type} (B : Ops) (c138 : List UInt8 → List ty106.den → Int → Int → List ty97.den → Option (Bool × (List ty106.den) × Int × Int × (List ty97.den))) (c135 : List ty106.den → Int → Int → List ty97.den → Option ((List ty106.den) × Int × Int × (List ty97.den))) (c139 : List ty106.den → Int → Int → List ty97.den → Option ((List ty106.den) × Int × Int × (List ty97.den))) (c131 : Int → List ty106.den → Int → Int → List ty97.den → Option ((List ty106.den) × Int × Int × (List ty97.den))) (p0 : List ty106.den) (p1 : Int) (p2 : Int) (p3 : List ty97.den) (k : AV → Objs → Option R) (n : Nat) : ∀ s, aloop tau B gl0 X135 (ent 138 (e138 c138) (ent 135 (e135 c135) (ent 139 (e139 c139) (ent 131 (e131 c131) (gnil))))) ow [0] Try.f135 k (I135 s) (E135 p0 p1 p2 p3 s) (n + 1) = T135 B c138 c135 c139 c131 p0 p1 p2 p3 (fun s => aloop tau B gl0 X135 (ent 138 (e138 c138) (ent 135 (e135 c135) (ent 139 (e139 c139) (ent 131 (e131 c131) (gnil))))) ow [0] Try.f135 k (I135 s) (E135 p0 p1 p2 p3 s) n) (fun y => k (.tup []) [(0, .box 169 [.list 106 ty106 y.1, .int .i64 y.2.1, .own 1002, .int .i64 y.2.2.1]), (1002, .row 97 ty97 y.2.2.2)]) (some s)
  | .l1006 v1006_0 v1006_1 v1006_2 v1006_3 v1006_4 => by kernel_rfl
theorem nt135 {R R' : Type} (B : Ops) (c138 : List UInt8 → List ty106.den → Int → Int → List ty97.den → Option (Bool × (List ty106.den) × Int × Int × (List ty97.den))) (c135 : List ty106.den → Int → Int → List ty97.den → Option ((List ty106.den) × Int × Int × (List ty97.den))) (c139 : List ty106.den → Int → Int → List ty97.den → Option ((List ty106.den) × Int × Int × (List ty97.den))) (c131 : Int → List ty106.den → Int → Int → List ty97.den → Option ((List ty106.den) × Int × Int × (List ty97.den))) (p0 : List ty106.den) (p1 : Int) (p2 : Int) (p3 : List ty97.den) (again : S135 → Option R) (again' : S135 → Option R') (k0 : ((List ty106.den) × Int × Int × (List ty97.den)) → Option R') (k : R' → Option R) (h : ∀ s, again s = ob (again' s) k) : ∀ s, T135 B c138 c135 c139 c131 p0 p1 p2 p3 again (fun y => ob (k0 y) k) s = ob (T135 B c138 c135 c139 c131 p0 p1 p2 p3 again' k0 s) k
  | none => by unfold T135; repeat' first | exact rfl | exact h _ | apply nat_cond | (apply nat_ob; intro)
  | some (.l1006 v1006_0 v1006_1 v1006_2 v1006_3 v1006_4) => by unfold T135; repeat' first | exact rfl | exact h _ | apply nat_cond | (apply nat_ob; intro)
def R135 (c138 : List UInt8 → List ty106.den → Int → Int → List ty97.den → Option (Bool × (List ty106.den) × Int × Int × (List ty97.den))) (c135 : List ty106.den → Int → Int → List ty97.den → Option ((List ty106.den) × Int × Int × (List ty97.den))) (c139 : List ty106.den → Int → Int → List ty97.den → Option ((List ty106.den) × Int × Int × (List ty97.den))) (c131 : Int → List ty106.den → Int → Int → List ty97.den → Option ((List ty106.den) × Int × Int × (List ty97.den))) (p0 : List ty106.den) (p1 : Int) (p2 : Int) (p3 : List ty97.den) : Nat → S135 → Option ((List ty106.den) × Int × Int × (List ty97.den))
  | 0, _ => none
  | n + 1, s => T135 Ops.std c138 c135 c139 c131 p0 p1 p2 p3 (R135 c138 c135 c139 c131 p0 p1 p2 p3 n) some (some s)
theorem rr135 {R : Type} (c138 : List UInt8 → List ty106.den → Int → Int → List ty97.den → Option (Bool × (List ty106.den) × Int × Int × (List ty97.den))) (c135 : List ty106.den → Int → Int → List ty97.den → Option ((List ty106.den) × Int × Int × (List ty97.den))) (c139 : List ty106.den → Int → Int → List ty97.den → Option ((List ty106.den) × Int × Int × (List ty97.den))) (c131 : Int → List ty106.den → Int → Int → List ty97.den → Option ((List ty106.den) × Int × Int × (List ty97.den))) (p0 : List ty106.den) (p1 : Int) (p2 : Int) (p3 : List ty97.den) (k : AV → Objs → Option R) : ∀ (n : Nat) (s : S135), aloop tau Ops.std gl0 X135 (ent 138 (e138 c138) (ent 135 (e135 c135) (ent 139 (e139 c139) (ent 131 (e131 c131) (gnil))))) ow [0] Try.f135 k (I135 s) (E135 p0 p1 p2 p3 s) n = ob (R135 c138 c135 c139 c131 p0 p1 p2 p3 n s) (fun y => k (.tup []) [(0, .box 169 [.list 106 ty106 y.1, .int .i64 y.2.1, .own 1002, .int .i64 y.2.2.1]), (1002, .row 97 ty97 y.2.2.2)])
  | 0, s => by cases s <;> rfl
  | n + 1, s => by rw [el135]; exact nt135 Ops.std c138 c135 c139 c131 p0 p1 p2 p3 _ _ some (fun y => k (.tup []) [(0, .box 169 [.list 106 ty106 y.1, .int .i64 y.2.1, .own 1002, .int .i64 y.2.2.1]), (1002, .row 97 ty97 y.2.2.2)]) (rr135 c138 c135 c139 c131 p0 p1 p2 p3 k n) (some s)
def F135 (c138 : List UInt8 → List ty106.den → Int → Int → List ty97.den → Option (Bool × (List ty106.den) × Int × Int × (List ty97.den))) (c135 : List ty106.den → Int → Int → List ty97.den → Option ((List ty106.den) × Int × Int × (List ty97.den))) (c139 : List ty106.den → Int → Int → List ty97.den → Option ((List ty106.den) × Int × Int × (List ty97.den))) (c131 : Int → List ty106.den → Int → Int → List ty97.den → Option ((List ty106.den) × Int × Int × (List ty97.den))) (p0 : List ty106.den) (p1 : Int) (p2 : Int) (p3 : List ty97.den) : Option ((List ty106.den) × Int × Int × (List ty97.den)) := T135 Ops.std c138 c135 c139 c131 p0 p1 p2 p3 (R135 c138 c135 c139 c131 p0 p1 p2 p3 1000000) some none
theorem fo135 {R : Type} (c138 : List UInt8 → List ty106.den → Int → Int → List ty97.den → Option (Bool × (List ty106.den) × Int × Int × (List ty97.den))) (c135 : List ty106.den → Int → Int → List ty97.den → Option ((List ty106.den) × Int × Int × (List ty97.den))) (c139 : List ty106.den → Int → Int → List ty97.den → Option ((List ty106.den) × Int × Int × (List ty97.den))) (c131 : Int → List ty106.den → Int → Int → List ty97.den → Option ((List ty106.den) × Int × Int × (List ty97.den))) (p0 : List ty106.den) (p1 : Int) (p2 : Int) (p3 : List ty97.den) (k : AV → Objs → Option R) : afun tau Ops.std gl0 X135 (ent 138 (e138 c138) (ent 135 (e135 c135) (ent 139 (e139 c139) (ent 131 (e131 c131) (gnil))))) ow Try.f135 [.c (.ptr 0 0)] [(0, .box 169 [.list 106 ty106 p0, .int .i64 p1, .own 1002, .int .i64 p2]), (1002, .row 97 ty97 p3)] k 1000000 = ob (F135 c138 c135 c139 c131 p0 p1 p2 p3) (fun y => k (.tup []) [(0, .box 169 [.list 106 ty106 y.1, .int .i64 y.2.1, .own 1002, .int .i64 y.2.2.1]), (1002, .row 97 ty97 y.2.2.2)]) := by rw [eq135]; exact nt135 Ops.std c138 c135 c139 c131 p0 p1 p2 p3 _ _ some (fun y => k (.tup []) [(0, .box 169 [.list 106 ty106 y.1, .int .i64 y.2.1, .own 1002, .int .i64 y.2.2.1]), (1002, .row 97 ty97 y.2.2.2)]) (rr135 c138 c135 c139 c131 p0 p1 p2 p3 k 1000000) none
theorem sf135 {c138 : List UInt8 → List ty106.den → Int → Int → List ty97.den → Option (Bool × (List ty106.den) × Int × Int × (List ty97.den))} {c135 : List ty106.den → Int → Int → List ty97.den → Option ((List ty106.den) × Int × Int × (List ty97.den))} {c139 : List ty106.den → Int → Int → List ty97.den → Option ((List ty106.den) × Int × Int × (List ty97.den))} {c131 : Int → List ty106.den → Int → Int → List ty97.den → Option ((List ty106.den) × Int × Int × (List ty97.den))} (h138 : Sp138 c138) (h135 : Sp135 c135) (h139 : Sp139 c139) (h131 : Sp131 c131) : Sp135 (F135 c138 c135 c139 c131) := fun p0 p1 p2 p3 y hy => by
  refine spec_of (G := ent 138 (e138 c138) (ent 135 (e135 c135) (ent 139 (e139 c139) (ent 131 (e131 c131) (gnil))))) (ent_ok (ek138 h138) (ent_ok (ek135 h135) (ent_ok (ek139 h139) (ent_ok (ek131 h131) (gnil_ok))))) 1000000 (fn := Try.f135) (by kernel_rfl) (by kernel_rfl) (X := X135) (by kernel_rfl) ?_
  rw [fo135, hy]
  rfl
noncomputable def Rec131 : Nat → (Int → List ty106.den → Int → Int → List ty97.den → Option ((List ty106.den) × Int × Int × (List ty97.den))) × (List ty106.den → Int → Int → List ty97.den → Option ((List ty106.den) × Int × Int × (List ty97.den)))
  | 0 => (fun _ _ _ _ _ => none, fun _ _ _ _ => none)
  | d + 1 => (F131 (Rec131 d).2 (Rec131 d).1 M136, F135 M138 (Rec131 d).2 M139 (Rec131 d).1)
theorem rec131 : ∀ d, Sp131 (Rec131 d).1 ∧ Sp135 (Rec131 d).2
  | 0 => ⟨(fun p0 p1 p2 p3 p4 y (h : (none : Option ((List ty106.den) × Int × Int × (List ty97.den))) = some y) => by cases h), (fun p0 p1 p2 p3 y (h : (none : Option ((List ty106.den) × Int × Int × (List ty97.den))) = some y) => by cases h)⟩
  | d + 1 => ⟨sf131 (rec131 d).2 (rec131 d).1 sm136, sf135 sm138 (rec131 d).2 sm139 (rec131 d).1⟩
noncomputable def M131 : Int → List ty106.den → Int → Int → List ty97.den → Option ((List ty106.den) × Int × Int × (List ty97.den)) := (Rec131 1000000).1
theorem sm131 : Sp131 M131 := (rec131 1000000).1
noncomputable def M135 : List ty106.den → Int → Int → List ty97.den → Option ((List ty106.den) × Int × Int × (List ty97.den)) := (Rec131 1000000).2
theorem sm135 : Sp135 M135 := (rec131 1000000).2

/-! ### 121: lariat/lariatref7.Take -/
def X121 : Aux := ⟨[], [(4, .lin [0, 1, 2, 3, 4, 5, 6]), (7, .lin [0, 1, 2, 3, 4, 5, 6, 7, 8, 9, 10])]⟩
def T121 {R : Type} (B : Ops) (c131 : Int → List ty106.den → Int → Int → List ty97.den → Option ((List ty106.den) × Int × Int × (List ty97.den))) (p0 : List ty106.den) (p1 : Int) (k : (Int × Int × (List ty97.den)) → Option R) : Option R :=
  ob (c131 (1) p0 p1 (-1) (mt (Ty.den (Ty.pair (Ty.int IntKind.i64) (Ty.pair (Ty.int IntKind.i64) (Ty.pair Ty.str Ty.str)))))) fun y0 =>
  cond (Ops.le B (0) (Prod.fst (Prod.snd (Prod.snd y0))))
   (
    k ((Prod.fst (Prod.snd (Prod.snd y0)), 2, mt (Ty.den (Ty.pair (Ty.int IntKind.i64) (Ty.pair (Ty.int IntKind.i64) (Ty.pair Ty.str Ty.str)))))))
   (
    cond (Ops.lt B (30) (Nat.cast (List.length (Prod.snd (Prod.snd (Prod.snd y0))))))
     (
      k ((p1, 13, mt (Ty.den (Ty.pair (Ty.int IntKind.i64) (Ty.pair (Ty.int IntKind.i64) (Ty.pair Ty.str Ty.str)))))))
     (
      k ((Prod.fst (Prod.snd y0), 0, Prod.snd (Prod.snd (Prod.snd y0))))))
theorem eq121 {R : Type} (B : Ops) (c131 : Int → List ty106.den → Int → Int → List ty97.den → Option ((List ty106.den) × Int × Int × (List ty97.den))) (p0 : List ty106.den) (p1 : Int) (k : AV → Objs → Option R) (n : Nat) : afun tau B gl0 X121 (ent 131 (e131 c131) (gnil)) ow Try.f121 [.c (.list 106 ty106 p0), .c (.int .i64 p1)] [] k n = T121 B c131 p0 p1 (fun y => k (.tup [(false, [.own 501000]), (false, [.int .i64 y.1]), (false, [.int .i64 y.2.1])]) [(501000, .row 97 ty97 y.2.2)]) := by kernel_rfl
theorem nt121 {R R' : Type} (B : Ops) (c131 : Int → List ty106.den → Int → Int → List ty97.den → Option ((List ty106.den) × Int × Int × (List ty97.den))) (p0 : List ty106.den) (p1 : Int) (k0 : (Int × Int × (List ty97.den)) → Option R') (k : R' → Option R) : T121 B c131 p0 p1 (fun y => ob (k0 y) k) = ob (T121 B c131 p0 p1 k0) k := by
  unfold T121
  repeat' first | exact rfl | apply nat_cond | (apply nat_ob; intro)
def F121 (c131 : Int → List ty106.den → Int → Int → List ty97.den → Option ((List ty106.den) × Int × Int × (List ty97.den))) (p0 : List ty106.den) (p1 : Int) : Option (Int × Int × (List ty97.den)) := T121 Ops.std c131 p0 p1 some
theorem fo121 {R : Type} (c131 : Int → List ty106.den → Int → Int → List ty97.den → Option ((List ty106.den) × Int × Int × (List ty97.den))) (p0 : List ty106.den) (p1 : Int) (k : AV → Objs → Option R) (n : Nat) : afun tau Ops.std gl0 X121 (ent 131 (e131 c131) (gnil)) ow Try.f121 [.c (.list 106 ty106 p0), .c (.int .i64 p1)] [] k n = ob (F121 c131 p0 p1) (fun y => k (.tup [(false, [.own 501000]), (false, [.int .i64 y.1]), (false, [.int .i64 y.2.1])]) [(501000, .row 97 ty97 y.2.2)]) := by rw [eq121]; exact nt121 Ops.std c131 p0 p1 some (fun y => k (.tup [(false, [.own 501000]), (false, [.int .i64 y.1]), (false, [.int .i64 y.2.1])]) [(501000, .row 97 ty97 y.2.2)])
def e121 {R : Type} (c : List ty106.den → Int → Option (Int × Int × (List ty97.den))) : Ent R := fun args objs k =>
  oCons args fun a0 l0 => oC a0 fun x0 => cList 106 ty106 x0 fun p0 => oCons l0 fun a1 l1 => oC a1 fun x1 => cInt .i64 x1 fun p1 => oNil l1 <| oNilO objs <| ob (c p0 p1) fun y => k (.tup [(false, [.own 501000]), (false, [.int .i64 y.1]), (false, [.int .i64 y.2.1])]) [(501000, .row 97 ty97 y.2.2)]
abbrev Sp121 (c : List ty106.den → Int → Option (Int × Int × (List ty97.den))) : Prop := ∀ (p0 : List ty106.den) (p1 : Int) (y : Int × Int × (List ty97.den)), c p0 p1 = some y → Spec Try.prog gl0 121 [.c (.list 106 ty106 p0), .c (.int .i64 p1)] [] (.tup [(false, [.own 501000]), (false, [.int .i64 y.1]), (false, [.int .i64 y.2.1])]) [(501000, .row 97 ty97 y.2.2)]
theorem ek121 {R : Type} {c : List ty106.den → Int → Option (Int × Int × (List ty97.den))} (hs : Sp121 c) : EOk 121 (e121 (R := R) c) := fun args objs k r h => by
  unfold e121 at h
  obtain ⟨a0, l0, rfl, q1⟩ := oCons_some h
  obtain ⟨x0, rfl, q2⟩ := oC_some q1
  obtain ⟨p0, rfl, q3⟩ := cList_some q2
  obtain ⟨a1, l1, rfl, q4⟩ := oCons_some q3
  obtain ⟨x1, rfl, q5⟩ := oC_some q4
  obtain ⟨p1, rfl, q6⟩ := cInt_some q5
  obtain ⟨rfl, q7⟩ := oNil_some q6
  obtain ⟨rfl, q8⟩ := oNilO_some q7
  exact eok_of (hs p0 p1) q8
theorem sf121 {c131 : Int → List ty106.den → Int → Int → List ty97.den → Option ((List ty106.den) × Int × Int × (List ty97.den))} (h131 : Sp131 c131) : Sp121 (F121 c131) := fun p0 p1 y hy => by
  refine spec_of (G := ent 131 (e131 c131) (gnil)) (ent_ok (ek131 h131) (gnil_ok)) 1000000 (fn := Try.f121) (by kernel_rfl) (by kernel_rfl) (X := X121) (by kernel_rfl) ?_
  rw [fo121, hy]
  rfl
noncomputable def M121 : List ty106.den → Int → Option (Int × Int × (List ty97.den)) := F121 M131
theorem sm121 : Sp121 M121 := sf121 sm131

/-! ### 98: (*lariat/lariatref13.reader).infix -/
def X98 : Aux := ⟨[(1000012, [0, 1, 2, 3, 4, 5, 6, 7, 8, 9, 10, 11, 12, 13, 14, 15, 16, 17, 18, 19, 20, 21, 22, 23, 24, 25, 26, 27, 28, 29, 30, 31, 32, 33, 34, 35, 36, 37, 38, 39, 40, 41, 42, 43, 44, 45, 46, 47, 48, 49, 50, 51, 52, 53, 54, 55, 56, 57, 58, 59, 60, 61, 62])], [(1, .lin [0, 1, 2, 3, 4, 5, 6, 7, 8, 9, 10, 11])]⟩
inductive S98 where
  | l1012 (v1012_0 : List ty106.den) (v1012_1 : Int) (v1012_2 : Int) (v1012_3 : Int) (v1012_4 : List ty36.den)
def T98 {R : Type} (B : Ops) (c119 : List UInt8 → List ty106.den → Int → Int → Int → List ty36.den → Option (Bool × (List ty106.den) × Int × Int × Int × (List ty36.den))) (p0 : Int) (p1 : List ty106.den) (p2 : Int) (p3 : Int) (p4 : Int) (p5 : List ty36.den) (again : S98 → Option R) (k : (Int × (List ty106.den) × Int × Int × Int × (List ty36.den)) → Option R) : Option S98 → Option R
  | none =>
    cond (Ops.inb B p2 (List.length p1))
     (
      cond (Ops.eq B p0 (1))
       (
        ob (c119 ([45, 62] : List UInt8) p1 p2 p3 p4 p5) fun y0 =>
        cond (Prod.fst y0)
         (
          k ((7, Prod.fst (Prod.snd y0), Prod.fst (Prod.snd (Prod.snd y0)), Prod.fst (Prod.snd (Prod.snd (Prod.snd y0))), Prod.fst (Prod.snd (Prod.snd (Prod.snd (Prod.snd y0)))), Prod.snd (Prod.snd (Prod.snd (Prod.snd (Prod.snd y0)))))))
         (
          cond (Ops.eq B p0 (2))
           (
            ob (c119 ([124, 124] : List UInt8) (Prod.fst (Prod.snd y0)) (Prod.fst (Prod.snd (Prod.snd y0))) (Prod.fst (Prod.snd (Prod.snd (Prod.snd y0)))) (Prod.fst (Prod.snd (Prod.snd (Prod.snd (Prod.snd y0))))) (Prod.snd (Prod.snd (Prod.snd (Prod.snd (Prod.snd y0)))))) fun y1 =>
            cond (Prod.fst y1)
             (
              k ((6, Prod.fst (Prod.snd y1), Prod.fst (Prod.snd (Prod.snd y1)), Prod.fst (Prod.snd (Prod.snd (Prod.snd y1))), Prod.fst (Prod.snd (Prod.snd (Prod.snd (Prod.snd y1)))), Prod.snd (Prod.snd (Prod.snd (Prod.snd (Prod.snd y1)))))))
             (
              cond (Ops.eq B p0 (3))
               (
                ob (c119 ([38, 38] : List UInt8) (Prod.fst (Prod.snd y1)) (Prod.fst (Prod.snd (Prod.snd y1))) (Prod.fst (Prod.snd (Prod.snd (Prod.snd y1)))) (Prod.fst (Prod.snd (Prod.snd (Prod.snd (Prod.snd y1))))) (Prod.snd (Prod.snd (Prod.snd (Prod.snd (Prod.snd y1)))))) fun y2 =>
                cond (Prod.fst y2)
                 (
                  k ((5, Prod.fst (Prod.snd y2), Prod.fst (Prod.snd (Prod.snd y2)), Prod.fst (Prod.snd (Prod.snd (Prod.snd y2))), Prod.fst (Prod.snd (Prod.snd (Prod.snd (Prod.snd y2)))), Prod.snd (Prod.snd (Prod.snd (Prod.snd (Prod.snd y2)))))))
                 (
                  cond (Ops.eq B p0 (4))
                   (
                    cond (Ops.eq B (Prod.fst (List.getD p1 (Int.toNat p2) (Ty.dflt ty106))) (3))
                     (
                      cond (Prod.fst (Prod.snd (List.getD p1 (Int.toNat p2) (Ty.dflt ty106))) == ([85] : List UInt8))
                       (
                        k ((9, Prod.fst (Prod.snd y2), Prod.fst (Prod.snd (Prod.snd y2)), Prod.fst (Prod.snd (Prod.snd (Prod.snd y2))), Prod.fst (Prod.snd (Prod.snd (Prod.snd (Prod.snd y2)))), Prod.snd (Prod.snd (Prod.snd (Prod.snd (Prod.snd y2)))))))
                       (
                        cond (Ops.eq B p0 (4))
                         (
                          cond (Ops.eq B (Prod.fst (List.getD p1 (Int.toNat p2) (Ty.dflt ty106))) (3))
                           (
                            cond (Prod.fst (Prod.snd (List.getD p1 (Int.toNat p2) (Ty.dflt ty106))) == ([82] : List UInt8))
                             (
                              k ((10, Prod.fst (Prod.snd y2), Prod.fst (Prod.snd (Prod.snd y2)), Prod.fst (Prod.snd (Prod.snd (Prod.snd y2))), Prod.fst (Prod.snd (Prod.snd (Prod.snd (Prod.snd y2)))), Prod.snd (Prod.snd (Prod.snd (Prod.snd (Prod.snd y2)))))))
                             (
                              again (.l1012 (Prod.fst (Prod.snd y2)) (Prod.fst (Prod.snd (Prod.snd y2))) (Prod.fst (Prod.snd (Prod.snd (Prod.snd y2)))) (Prod.fst (Prod.snd (Prod.snd (Prod.snd (Prod.snd y2))))) (Prod.snd (Prod.snd (Prod.snd (Prod.snd (Prod.snd y2))))))))
                           (
                            again (.l1012 (Prod.fst (Prod.snd y2)) (Prod.fst (Prod.snd (Prod.snd y2))) (Prod.fst (Prod.snd (Prod.snd (Prod.snd y2)))) (Prod.fst (Prod.snd (Prod.snd (Prod.snd (Prod.snd y2))))) (Prod.snd (Prod.snd (Prod.snd (Prod.snd (Prod.snd y2))))))))
                         (
                          again (.l1012 (Prod.fst (Prod.snd y2)) (Prod.fst (Prod.snd (Prod.snd y2))) (Prod.fst (Prod.snd (Prod.snd (Prod.snd y2)))) (Prod.fst (Prod.snd (Prod.snd (Prod.snd (Prod.snd y2))))) (Prod.snd (Prod.snd (Prod.snd (Prod.snd (Prod.snd y2)))))))))
                     (
                      cond (Ops.eq B p0 (4))
                       (
                        cond (Ops.eq B (Prod.fst (List.getD p1 (Int.toNat p2) (Ty.dflt ty106))) (3))
                         (
                          cond (Prod.fst (Prod.snd (List.getD p1 (Int.toNat p2) (Ty.dflt ty106))) == ([82] : List UInt8))
                           (
                            k ((10, Prod.fst (Prod.snd y2), Prod.fst (Prod.snd (Prod.snd y2)), Prod.fst (Prod.snd (Prod.snd (Prod.snd y2))), Prod.fst (Prod.snd (Prod.snd (Prod.snd (Prod.snd y2)))), Prod.snd (Prod.snd (Prod.snd (Prod.snd (Prod.snd y2)))))))
                           (
                            again (.l1012 (Prod.fst (Prod.snd y2)) (Prod.fst (Prod.snd (Prod.snd y2))) (Prod.fst (Prod.snd (Prod.snd (Prod.snd y2)))) (Prod.fst (Prod.snd (Prod.snd (Prod.snd (Prod.snd y2))))) (Prod.snd (Prod.snd (Prod.snd (Prod.snd (Prod.snd y2))))))))
                         (
                          again (.l1012 (Prod.fst (Prod.snd y2)) (Prod.fst (Prod.snd (Prod.snd y2))) (Prod.fst (Prod.snd (Prod.snd (Prod.snd y2)))) (Prod.fst (Prod.snd (Prod.snd (Prod.snd (Prod.snd y2))))) (Prod.snd (Prod.snd (Prod.snd (Prod.snd (Prod.snd y2))))))))
                       (
                        again (.l1012 (Prod.fst (Prod.snd y2)) (Prod.fst (Prod.snd (Prod.snd y2))) (Prod.fst (Prod.snd (Prod.snd (Prod.snd y2)))) (Prod.fst (Prod.snd (Prod.snd (Prod.snd (Prod.snd y2))))) (Prod.snd (Prod.snd (Prod.snd (Prod.snd (Prod.snd y2)))))))))
                   (
                    cond (Ops.eq B p0 (4))
                     (
                      cond (Ops.eq B (Prod.fst (List.getD p1 (Int.toNat p2) (Ty.dflt ty106))) (3))
                       (
                        cond (Prod.fst (Prod.snd (List.getD p1 (Int.toNat p2) (Ty.dflt ty106))) == ([82] : List UInt8))
                         (
                          k ((10, Prod.fst (Prod.snd y2), Prod.fst (Prod.snd (Prod.snd y2)), Prod.fst (Prod.snd (Prod.snd (Prod.snd y2))), Prod.fst (Prod.snd (Prod.snd (Prod.snd (Prod.snd y2)))), Prod.snd (Prod.snd (Prod.snd (Prod.snd (Prod.snd y2)))))))
                         (
                          again (.l1012 (Prod.fst (Prod.snd y2)) (Prod.fst (Prod.snd (Prod.snd y2))) (Prod.fst (Prod.snd (Prod.snd (Prod.snd y2)))) (Prod.fst (Prod.snd (Prod.snd (Prod.snd (Prod.snd y2))))) (Prod.snd (Prod.snd (Prod.snd (Prod.snd (Prod.snd y2))))))))
                       (
                        again (.l1012 (Prod.fst (Prod.snd y2)) (Prod.fst (Prod.snd (Prod.snd y2))) (Prod.fst (Prod.snd (Prod.snd (Prod.snd y2)))) (Prod.fst (Prod.snd (Prod.snd (Prod.snd (Prod.snd y2))))) (Prod.snd (Prod.snd (Prod.snd (Prod.snd (Prod.snd y2))))))))
                     (
                      again (.l1012 (Prod.fst (Prod.snd y2)) (Prod.fst (Prod.snd (Prod.snd y2))) (Prod.fst (Prod.snd (Prod.snd (Prod.snd y2)))) (Prod.fst (Prod.snd (Prod.snd (Prod.snd (Prod.snd y2))))) (Prod.snd (Prod.snd (Prod.snd (Prod.snd (Prod.snd y2))))))))))
               (
                cond (Ops.eq B p0 (4))
                 (
                  cond (Ops.eq B (Prod.fst (List.getD p1 (Int.toNat p2) (Ty.dflt ty106))) (3))
                   (
                    cond (Prod.fst (Prod.snd (List.getD p1 (Int.toNat p2) (Ty.dflt ty106))) == ([85] : List UInt8))
                     (
                      k ((9, Prod.fst (Prod.snd y1), Prod.fst (Prod.snd (Prod.snd y1)), Prod.fst (Prod.snd (Prod.snd (Prod.snd y1))), Prod.fst (Prod.snd (Prod.snd (Prod.snd (Prod.snd y1)))), Prod.snd (Prod.snd (Prod.snd (Prod.snd (Prod.snd y1)))))))
                     (
                      cond (Ops.eq B p0 (4))
                       (
                        cond (Ops.eq B (Prod.fst (List.getD p1 (Int.toNat p2) (Ty.dflt ty106))) (3))
                         (
                          cond (Prod.fst (Prod.snd (List.getD p1 (Int.toNat p2) (Ty.dflt ty106))) == ([82] : List UInt8))
                           (
                            k ((10, Prod.fst (Prod.snd y1), Prod.fst (Prod.snd (Prod.snd y1)), Prod.fst (Prod.snd (Prod.snd (Prod.snd y1))), Prod.fst (Prod.snd (Prod.snd (Prod.snd (Prod.snd y1)))), Prod.snd (Prod.snd (Prod.snd (Prod.snd (Prod.snd y1)))))))
                           (
                            again (.l1012 (Prod.fst (Prod.snd y1)) (Prod.fst (Prod.snd (Prod.snd y1))) (Prod.fst (Prod.snd (Prod.snd (Prod.snd y1)))) (Prod.fst (Prod.snd (Prod.snd (Prod.snd (Prod.snd y1))))) (Prod.snd (Prod.snd (Prod.snd (Prod.snd (Prod.snd y1))))))))
                         (
                          again (.l1012 (Prod.fst (Prod.snd y1)) (Prod.fst (Prod.snd (Prod.snd y1))) (Prod.fst (Prod.snd (Prod.snd (Prod.snd y1)))) (Prod.fst (Prod.snd (Prod.snd (Prod.snd (Prod.snd y1))))) (Prod.snd (Prod.snd (Prod.snd (Prod.snd (Prod.snd y1))))))))
                       (
                        again (.l1012 (Prod.fst (Prod.snd y1)) (Prod.fst (Prod.snd (Prod.snd y1))) (Prod.fst (Prod.snd (Prod.snd (Prod.snd y1)))) (Prod.fst (Prod.snd (Prod.snd (Prod.snd (Prod.snd y1))))) (Prod.snd (Prod.snd (Prod.snd (Prod.snd (Prod.snd y1)))))))))
                   (
                    cond (Ops.eq B p0 (4))
                     (
                      cond (Ops.eq B (Prod.fst (List.getD p1 (Int.toNat p2) (Ty.dflt ty106))) (3))
                       (
                        cond (Prod.fst (Prod.snd (List.getD p1 (Int.toNat p2) (Ty.dflt ty106))) == ([82] : List UInt8))
                         (
                          k ((10, Prod.fst (Prod.snd y1), Prod.fst (Prod.snd (Prod.snd y1)), Prod.fst (Prod.snd (Prod.snd (Prod.snd y1))), Prod.fst (Prod.snd (Prod.snd (Prod.snd (Prod.snd y1)))), Prod.snd (Prod.snd (Prod.snd (Prod.snd (Prod.snd y1)))))))
                         (
                          again (.l1012 (Prod.fst (Prod.snd y1)) (Prod.fst (Prod.snd (Prod.snd y1))) (Prod.fst (Prod.snd (Prod.snd (Prod.snd y1)))) (Prod.fst (Prod.snd (Prod.snd (Prod.snd (Prod.snd y1))))) (Prod.snd (Prod.snd (Prod.snd (Prod.snd (Prod.snd y1))))))))
                       (
                        again (.l1012 (Prod.fst (Prod.snd y1)) (Prod.fst (Prod.snd (Prod.snd y1))) (Prod.fst (Prod.snd (Prod.snd (Prod.snd y1)))) (Prod.fst (Prod.snd (Prod.snd (Prod.snd (Prod.snd y1))))) (Prod.snd (Prod.snd (Prod.snd (Prod.snd (Prod.snd y1))))))))
                     (
                      again (.l1012 (Prod.fst (Prod.snd y1)) (Prod.fst (Prod.snd (Prod.snd y1))) (Prod.fst (Prod.snd (Prod.snd (Prod.snd y1)))) (Prod.fst (Prod.snd (Prod.snd (Prod.snd (Prod.snd y1))))) (Prod.snd (Prod.snd (Prod.snd (Prod.snd (Prod.snd y1)))))))))
                 (
                  cond (Ops.eq B p0 (4))
                   (
                    cond (Ops.eq B (Prod.fst (List.getD p1 (Int.toNat p2) (Ty.dflt ty106))) (3))
                     (
                      cond (Prod.fst (Prod.snd (List.getD p1 (Int.toNat p2) (Ty.dflt ty106))) == ([82] : List UInt8))
                       (
                        k ((10, Prod.fst (Prod.snd y1), Prod.fst (Prod.snd (Prod.snd y1)), Prod.fst (Prod.snd (Prod.snd (Prod.snd y1))), Prod.fst (Prod.snd (Prod.snd (Prod.snd (Prod.snd y1)))), Prod.snd (Prod.snd (Prod.snd (Prod.snd (Prod.snd y1)))))))
                       (
                        again (.l1012 (Prod.fst (Prod.snd y1)) (Prod.fst (Prod.snd (Prod.snd y1))) (Prod.fst (Prod.snd (Prod.snd (Prod.snd y1)))) (Prod.fst (Prod.snd (Prod.snd (Prod.snd (Prod.snd y1))))) (Prod.snd (Prod.snd (Prod.snd (Prod.snd (Prod.snd y1))))))))
                     (
                      again (.l1012 (Prod.fst (Prod.snd y1)) (Prod.fst (Prod.snd (Prod.snd y1))) (Prod.fst (Prod.snd (Prod.snd (Prod.snd y1)))) (Prod.fst (Prod.snd (Prod.snd (Prod.snd (Prod.snd y1))))) (Prod.snd (Prod.snd (Prod.snd (Prod.snd (Prod.snd y1))))))))
                   (
                    again (.l1012 (Prod.fst (Prod.snd y1)) (Prod.fst (Prod.snd (Prod.snd y1))) (Prod.fst (Prod.snd (Prod.snd (Prod.snd y1)))) (Prod.fst (Prod.snd (Prod.snd (Prod.snd (Prod.snd y1))))) (Prod.snd (Prod.snd (Prod.snd (Prod.snd (Prod.snd y1)))))))))))
           (
            cond (Ops.eq B p0 (3))
             (
              ob (c119 ([38, 38] : List UInt8) (Prod.fst (Prod.snd y0)) (Prod.fst (Prod.snd (Prod.snd y0))) (Prod.fst (Prod.snd (Prod.snd (Prod.snd y0)))) (Prod.fst (Prod.snd (Prod.snd (Prod.snd (Prod.snd y0))))) (Prod.snd (Prod.snd (Prod.snd (Prod.snd (Prod.snd y0)))))) fun y1 =>
              cond (Prod.fst y1)
               (
                k ((5, Prod.fst (Prod.snd y1), Prod.fst (Prod.snd (Prod.snd y1)), Prod.fst (Prod.snd (Prod.snd (Prod.snd y1))), Prod.fst (Prod.snd (Prod.snd (Prod.snd (Prod.snd y1)))), Prod.snd (Prod.snd (Prod.snd (Prod.snd (Prod.snd y1)))))))
               (
                cond (Ops.eq B p0 (4))
                 (
                  cond (Ops.eq B (Prod.fst (List.getD p1 (Int.toNat p2) (Ty.dflt ty106))) (3))
                   (
                    cond (Prod.fst (Prod.snd (List.getD p1 (Int.toNat p2) (Ty.dflt ty106))) == ([85] : List UInt8))
                     (
                      k ((9, Prod.fst (Prod.snd y1), Prod.fst (Prod.snd (Prod.snd y1)), Prod.fst (Prod.snd (Prod.snd (Prod.snd y1))), Prod.fst (Prod.snd (Prod.snd (Prod.snd (Prod.snd y1)))), Prod.snd (Prod.snd (Prod.snd (Prod.snd (Prod.snd y1)))))))
                     (
                      cond (Ops.eq B p0 (4))
                       (
                        cond (Ops.eq B (Prod.fst (List.getD p1 (Int.toNat p2) (Ty.dflt ty106))) (3))
                         (
                          cond (Prod.fst (Prod.snd (List.getD p1 (Int.toNat p2) (Ty.dflt ty106))) == ([82] : List UInt8))
                           (
                            k ((10, Prod.fst (Prod.snd y1), Prod.fst (Prod.snd (Prod.snd y1)), Prod.fst (Prod.snd (Prod.snd (Prod.snd y1))), Prod.fst (Prod.snd (Prod.snd (Prod.snd (Prod.snd y1)))), Prod.snd (Prod.snd (Prod.snd (Prod.snd (Prod.snd y1)))))))
                           (
                            again (.l1012 (Prod.fst (Prod.snd y1)) (Prod.fst (Prod.snd (Prod.snd y1))) (Prod.fst (Prod.snd (Prod.snd (Prod.snd y1)))) (Prod.fst (Prod.snd (Prod.snd (Prod.snd (Prod.snd y1))))) (Prod.snd (Prod.snd (Prod.snd (Prod.snd (Prod.snd y1))))))))
                         (
                          again (.l1012 (Prod.fst (Prod.snd y1)) (Prod.fst (Prod.snd (Prod.snd y1))) (Prod.fst (Prod.snd (Prod.snd (Prod.snd y1)))) (Prod.fst (Prod.snd (Prod.snd (Prod.snd (Prod.snd y1))))) (Prod.snd (Prod.snd (Prod.snd (Prod.snd (Prod.snd y1))))))))
                       (
                        again (.l1012 (Prod.fst (Prod.snd y1)) (Prod.fst (Prod.snd (Prod.snd y1))) (Prod.fst (Prod.snd (Prod.snd (Prod.snd y1)))) (Prod.fst (Prod.snd (Prod.snd (Prod.snd (Prod.snd y1))))) (Prod.snd (Prod.snd (Prod.snd (Prod.snd (Prod.snd y1)))))))))
                   (
                    cond (Ops.eq B p0 (4))
                     (
                      cond (Ops.eq B (Prod.fst (List.getD p1 (Int.toNat p2) (Ty.dflt ty106))) (3))
                       (
                        cond (Prod.fst (Prod.snd (List.getD p1 (Int.toNat p2) (Ty.dflt ty106))) == ([82] : List UInt8))
                         (
                          k ((10, Prod.fst (Prod.snd y1), Prod.fst (Prod.snd (Prod.snd y1)), Prod.fst (Prod.snd (Prod.snd (Prod.snd y1))), Prod.fst (Prod.snd (Prod.snd (Prod.snd (Prod.snd y1)))), Prod.snd (Prod.snd (Prod.snd (Prod.snd (Prod.snd y1)))))))
                         (
                          again (.l1012 (Prod.fst (Prod.snd y1)) (Prod.fst (Prod.snd (Prod.snd y1))) (Prod.fst (Prod.snd (Prod.snd (Prod.snd y1)))) (Prod.fst (Prod.snd (Prod.snd (Prod.snd (Prod.snd y1))))) (Prod.snd (Prod.snd (Prod.snd (Prod.snd (Prod.snd y1))))))))
                       (
                        again (.l1012 (Prod.fst (Prod.snd y1)) (Prod.fst (Prod.snd (Prod.snd y1))) (Prod.fst (Prod.snd (Prod.snd (Prod.snd y1)))) (Prod.fst (Prod.snd (Prod.snd (Prod.snd (Prod.snd y1))))) (Prod.snd (Prod.snd (Prod.snd (Prod.snd (Prod.snd y1))))))))
                     (
                      again (.l1012 (Prod.fst (Prod.snd y1)) (Prod.fst (Prod.snd (Prod.snd y1))) (Prod.fst (Prod.snd (Prod.snd (Prod.snd y1)))) (Prod.fst (Prod.snd (Prod.snd (Prod.snd (Prod.snd y1))))) (Prod.snd (Prod.snd (Prod.snd (Prod.snd (Prod.snd y1)))))))))
                 (
                  cond (Ops.eq B p0 (4))
                   (
                    cond (Ops.eq B (Prod.fst (List.getD p1 (Int.toNat p2) (Ty.dflt ty106))) (3))
                     (
                      cond (Prod.fst (Prod.snd (List.getD p1 (Int.toNat p2) (Ty.dflt ty106))) == ([82] : List UInt8))
                       (
                        k ((10, Prod.fst (Prod.snd y1), Prod.fst (Prod.snd (Prod.snd y1)), Prod.fst (Prod.snd (Prod.snd (Prod.snd y1))), Prod.fst (Prod.snd (Prod.snd (Prod.snd (Prod.snd y1)))), Prod.snd (Prod.snd (Prod.snd (Prod.snd (Prod.snd y1)))))))
                       (
                        again (.l1012 (Prod.fst (Prod.snd y1)) (Prod.fst (Prod.snd (Prod.snd y1))) (Prod.fst (Prod.snd (Prod.snd (Prod.snd y1)))) (Prod.fst (Prod.snd (Prod.snd (Prod.snd (Prod.snd y1))))) (Prod.snd (Prod.snd (Prod.snd (Prod.snd (Prod.snd y1))))))))
                     (
                      again (.l1012 (Prod.fst (Prod.snd y1)) (Prod.fst (Prod.snd (Prod.snd y1))) (Prod.fst (Prod.snd (Prod.snd (Prod.snd y1)))) (Prod.fst (Prod.snd (Prod.snd (Prod.snd (Prod.snd y1))))) (Prod.snd (Prod.snd (Prod.snd (Prod.snd (Prod.snd y1))))))))
                   (
                    again (.l1012 (Prod.fst (Prod.snd y1)) (Prod.fst (Prod.snd (Prod.snd y1))) (Prod.fst (Prod.snd (Prod.snd (Prod.snd y1)))) (Prod.fst (Prod.snd (Prod.snd (Prod.snd (Prod.snd y1))))) (Prod.snd (Prod.snd (Prod.snd (Prod.snd (Prod.snd y1))))))))))
             (
              cond (Ops.eq B p0 (4))
               (
                cond (Ops.eq B (Prod.fst (List.getD p1 (Int.toNat p2) (Ty.dflt ty106))) (3))
                 (
                  cond (Prod.fst (Prod.snd (List.getD p1 (Int.toNat p2) (Ty.dflt ty106))) == ([85] : List UInt8))
                   (
                    k ((9, Prod.fst (Prod.snd y0), Prod.fst (Prod.snd (Prod.snd y0)), Prod.fst (Prod.snd (Prod.snd (Prod.snd y0))), Prod.fst (Prod.snd (Prod.snd (Prod.snd (Prod.snd y0)))), Prod.snd (Prod.snd (Prod.snd (Prod.snd (Prod.snd y0)))))))
                   (
                    cond (Ops.eq B p0 (4))
                     (
                      cond (Ops.eq B (Prod.fst (List.getD p1 (Int.toNat p2) (Ty.dflt ty106))) (3))
                       (
                        cond (Prod.fst (Prod.snd (List.getD p1 (Int.toNat p2) (Ty.dflt ty106))) == ([82] : List UInt8))
                         (
                          k ((10, Prod.fst (Prod.snd y0), Prod.fst (Prod.snd (Prod.snd y0)), Prod.fst (Prod.snd (Prod.snd (Prod.snd y0))), Prod.fst (Prod.snd (Prod.snd (Prod.snd (Prod.snd y0)))), Prod.snd (Prod.snd (Prod.snd (Prod.snd (Prod.snd y0)))))))
                         (
                          again (.l1012 (Prod.fst (Prod.snd y0)) (Prod.fst (Prod.snd (Prod.snd y0))) (Prod.fst (Prod.snd (Prod.snd (Prod.snd y0)))) (Prod.fst (Prod.snd (Prod.snd (Prod.snd (Prod.snd y0))))) (Prod.snd (Prod.snd (Prod.snd (Prod.snd (Prod.snd y0))))))))
                       (
                        again (.l1012 (Prod.fst (Prod.snd y0)) (Prod.fst (Prod.snd (Prod.snd y0))) (Prod.fst (Prod.snd (Prod.snd (Prod.snd y0)))) (Prod.fst (Prod.snd (Prod.snd (Prod.snd (Prod.snd y0))))) (Prod.snd (Prod.snd (Prod.snd (Prod.snd (Prod.snd y0))))))))
                     (
                      again (.l1012 (Prod.fst (Prod.snd y0)) (Prod.fst (Prod.snd (Prod.snd y0))) (Prod.fst (Prod.snd (Prod.snd (Prod.snd y0)))) (Prod.fst (Prod.snd (Prod.snd (Prod.snd (Prod.snd y0))))) (Prod.snd (Prod.snd (Prod.snd (Prod.snd (Prod.snd y0)))))))))
                 (
                  cond (Ops.eq B p0 (4))
                   (
                    cond (Ops.eq B (Prod.fst (List.getD p1 (Int.toNat p2) (Ty.dflt ty106))) (3))
                     (
                      cond (Prod.fst (Prod.snd (List.getD p1 (Int.toNat p2) (Ty.dflt ty106))) == ([82] : List UInt8))
                       (
                        k ((10, Prod.fst (Prod.snd y0), Prod.fst (Prod.snd (Prod.snd y0)), Prod.fst (Prod.snd (Prod.snd (Prod.snd y0))), Prod.fst (Prod.snd (Prod.snd (Prod.snd (Prod.snd y0)))), Prod.snd (Prod.snd (Prod.snd (Prod.snd (Prod.snd y0)))))))
                       (
                        again (.l1012 (Prod.fst (Prod.snd y0)) (Prod.fst (Prod.snd (Prod.snd y0))) (Prod.fst (Prod.snd (Prod.snd (Prod.snd y0)))) (Prod.fst (Prod.snd (Prod.snd (Prod.snd (Prod.snd y0))))) (Prod.snd (Prod.snd (Prod.snd (Prod.snd (Prod.snd y0))))))))
                     (
                      again (.l1012 (Prod.fst (Prod.snd y0)) (Prod.fst (Prod.snd (Prod.snd y0))) (Prod.fst (Prod.snd (Prod.snd (Prod.snd y0)))) (Prod.fst (Prod.snd (Prod.snd (Prod.snd (Prod.snd y0))))) (Prod.snd (Prod.snd (Prod.snd (Prod.snd (Prod.snd y0))))))))
                   (
                    again (.l1012 (Prod.fst (Prod.snd y0)) (Prod.fst (Prod.snd (Prod.snd y0))) (Prod.fst (Prod.snd (Prod.snd (Prod.snd y0)))) (Prod.fst (Prod.snd (Prod.snd (Prod.snd (Prod.snd y0))))) (Prod.snd (Prod.snd (Prod.snd (Prod.snd (Prod.snd y0)))))))))
               (
                cond (Ops.eq B p0 (4))
                 (
                  cond (Ops.eq B (Prod.fst (List.getD p1 (Int.toNat p2) (Ty.dflt ty106))) (3))
                   (
                    cond (Prod.fst (Prod.snd (List.getD p1 (Int.toNat p2) (Ty.dflt ty106))) == ([82] : List UInt8))
                     (
                      k ((10, Prod.fst (Prod.snd y0), Prod.fst (Prod.snd (Prod.snd y0)), Prod.fst (Prod.snd (Prod.snd (Prod.snd y0))), Prod.fst (Prod.snd (Prod.snd (Prod.snd (Prod.snd y0)))), Prod.snd (Prod.snd (Prod.snd (Prod.snd (Prod.snd y0)))))))
                     (
                      again (.l1012 (Prod.fst (Prod.snd y0)) (Prod.fst (Prod.snd (Prod.snd y0))) (Prod.fst (Prod.snd (Prod.snd (Prod.snd y0)))) (Prod.fst (Prod.snd (Prod.snd (Prod.snd (Prod.snd y0))))) (Prod.snd (Prod.snd (Prod.snd (Prod.snd (Prod.snd y0))))))))
                   (
                    again (.l1012 (Prod.fst (Prod.snd y0)) (Prod.fst (Prod.snd (Prod.snd y0))) (Prod.fst (Prod.snd (Prod.snd (Prod.snd y0)))) (Prod.fst (Prod.snd (Prod.snd (Prod.snd (Prod.snd y0))))) (Prod.snd (Prod.snd (Prod.snd (Prod.snd (Prod.snd y0))))))))
                 (
                  again (.l1012 (Prod.fst (Prod.snd y0)) (Prod.fst (Prod.snd (Prod.snd y0))) (Prod.fst (Prod.snd (Prod.snd (Prod.snd y0)))) (Prod.fst (Prod.snd (Prod.snd (Prod.snd (Prod.snd y0))))) (Prod.snd (Prod.snd (Prod.snd (Prod.snd (Prod.snd y0))))))))))))
       (
        cond (Ops.eq B p0 (2))
         (
          ob (c119 ([124, 124] : List UInt8) p1 p2 p3 p4 p5) fun y0 =>
          cond (Prod.fst y0)
           (
            k ((6, Prod.fst (Prod.snd y0), Prod.fst (Prod.snd (Prod.snd y0)), Prod.fst (Prod.snd (Prod.snd (Prod.snd y0))), Prod.fst (Prod.snd (Prod.snd (Prod.snd (Prod.snd y0)))), Prod.snd (Prod.snd (Prod.snd (Prod.snd (Prod.snd y0)))))))
           (
            cond (Ops.eq B p0 (3))
             (
              ob (c119 ([38, 38] : List UInt8) (Prod.fst (Prod.snd y0)) (Prod.fst (Prod.snd (Prod.snd y0))) (Prod.fst (Prod.snd (Prod.snd (Prod.snd y0)))) (Prod.fst (Prod.snd (Prod.snd (Prod.snd (Prod.snd y0))))) (Prod.snd (Prod.snd (Prod.snd (Prod.snd (Prod.snd y0)))))) fun y1 =>
              cond (Prod.fst y1)
               (
                k ((5, Prod.fst (Prod.snd y1), Prod.fst (Prod.snd (Prod.snd y1)), Prod.fst (Prod.snd (Prod.snd (Prod.snd y1))), Prod.fst (Prod.snd (Prod.snd (Prod.snd (Prod.snd y1)))), Prod.snd (Prod.snd (Prod.snd (Prod.snd (Prod.snd y1)))))))
               (
                cond (Ops.eq B p0 (4))
                 (
                  cond (Ops.eq B (Prod.fst (List.getD p1 (Int.toNat p2) (Ty.dflt ty106))) (3))
                   (
                    cond (Prod.fst (Prod.snd (List.getD p1 (Int.toNat p2) (Ty.dflt ty106))) == ([85] : List UInt8))
                     (
                      k ((9, Prod.fst (Prod.snd y1), Prod.fst (Prod.snd (Prod.snd y1)), Prod.fst (Prod.snd (Prod.snd (Prod.snd y1))), Prod.fst (Prod.snd (Prod.snd (Prod.snd (Prod.snd y1)))), Prod.snd (Prod.snd (Prod.snd (Prod.snd (Prod.snd y1)))))))
                     (
                      cond (Ops.eq B p0 (4))
                       (
                        cond (Ops.eq B (Prod.fst (List.getD p1 (Int.toNat p2) (Ty.dflt ty106))) (3))
                         (
                          cond (Prod.fst (Prod.snd (List.getD p1 (Int.toNat p2) (Ty.dflt ty106))) == ([82] : List UInt8))
                           (
                            k ((10, Prod.fst (Prod.snd y1), Prod.fst (Prod.snd (Prod.snd y1)), Prod.fst (Prod.snd (Prod.snd (Prod.snd y1))), Prod.fst (Prod.snd (Prod.snd (Prod.snd (Prod.snd y1)))), Prod.snd (Prod.snd (Prod.snd (Prod.snd (Prod.snd y1)))))))
                           (
                            again (.l1012 (Prod.fst (Prod.snd y1)) (Prod.fst (Prod.snd (Prod.snd y1))) (Prod.fst (Prod.snd (Prod.snd (Prod.snd y1)))) (Prod.fst (Prod.snd (Prod.snd (Prod.snd (Prod.snd y1))))) (Prod.snd (Prod.snd (Prod.snd (Prod.snd (Prod.snd y1))))))))
                         (
                          again (.l1012 (Prod.fst (Prod.snd y1)) (Prod.fst (Prod.snd (Prod.snd y1))) (Prod.fst (Prod.snd (Prod.snd (Prod.snd y1)))) (Prod.fst (Prod.snd (Prod.snd (Prod.snd (Prod.snd y1))))) (Prod.snd (Prod.snd (Prod.snd (Prod.snd (Prod.snd y1))))))))
                       (
                        again (.l1012 (Prod.fst (Prod.snd y1)) (Prod.fst (Prod.snd (Prod.snd y1))) (Prod.fst (Prod.snd (Prod.snd (Prod.snd y1)))) (Prod.fst (Prod.snd (Prod.snd (Prod.snd (Prod.snd y1))))) (Prod.snd (Prod.snd (Prod.snd (Prod.snd (Prod.snd y1)))))))))
                   (
                    cond (Ops.eq B p0 (4))
                     (
                      cond (Ops.eq B (Prod.fst (List.getD p1 (Int.toNat p2) (Ty.dflt ty106))) (3))
                       (
                        cond (Prod.fst (Prod.snd (List.getD p1 (Int.toNat p2) (Ty.dflt ty106))) == ([82] : List UInt8))
                         (
                          k ((10, Prod.fst (Prod.snd y1), Prod.fst (Prod.snd (Prod.snd y1)), Prod.fst (Prod.snd (Prod.snd (Prod.snd y1))), Prod.fst (Prod.snd (Prod.snd (Prod.snd (Prod.snd y1)))), Prod.snd (Prod.snd (Prod.snd (Prod.snd (Prod.snd y1)))))))
                         (
                          again (.l1012 (Prod.fst (Prod.snd y1)) (Prod.fst (Prod.snd (Prod.snd y1))) (Prod.fst (Prod.snd (Prod.snd (Prod.snd y1)))) (Prod.fst (Prod.snd (Prod.snd (Prod.snd (Prod.snd y1))))) (Prod.snd (Prod.snd (Prod.snd (Prod.snd (Prod.snd y1))))))))
                       (
                        again (.l1012 (Prod.fst (Prod.snd y1)) (Prod.fst (Prod.snd (Prod.snd y1))) (Prod.fst (Prod.snd (Prod.snd (Prod.snd y1)))) (Prod.fst (Prod.snd (Prod.snd (Prod.snd (Prod.snd y1))))) (Prod.snd (Prod.snd (Prod.snd (Prod.snd (Prod.snd y1))))))))
                     (
                      again (.l1012 (Prod.fst (Prod.snd y1)) (Prod.fst (Prod.snd (Prod.snd y1))) (Prod.fst (Prod.snd (Prod.snd (Prod.snd y1)))) (Prod.fst (Prod.snd (Prod.snd (Prod.snd (Prod.snd y1))))) (Prod.snd (Prod.snd (Prod.snd (Prod.snd (Prod.snd y1)))))))))
                 (
                  cond (Ops.eq B p0 (4))
                   (
                    cond (Ops.eq B (Prod.fst (List.getD p1 (Int.toNat p2) (Ty.dflt ty106))) (3))
                     (
                      cond (Prod.fst (Prod.snd (List.getD p1 (Int.toNat p2) (Ty.dflt ty106))) == ([82] : List UInt8))
                       (
                        k ((10, Prod.fst (Prod.snd y1), Prod.fst (Prod.snd (Prod.snd y1)), Prod.fst (Prod.snd (Prod.snd (Prod.snd y1))), Prod.fst (Prod.snd (Prod.snd (Prod.snd (Prod.snd y1)))), Prod.snd (Prod.snd (Prod.snd (Prod.snd (Prod.snd y1)))))))
                       (
                        again (.l1012 (Prod.fst (Prod.snd y1)) (Prod.fst (Prod.snd (Prod.snd y1))) (Prod.fst (Prod.snd (Prod.snd (Prod.snd y1)))) (Prod.fst (Prod.snd (Prod.snd (Prod.snd (Prod.snd y1))))) (Prod.snd (Prod.snd (Prod.snd (Prod.snd (Prod.snd y1))))))))
                     (
                      again (.l1012 (Prod.fst (Prod.snd y1)) (Prod.fst (Prod.snd (Prod.snd y1))) (Prod.fst (Prod.snd (Prod.snd (Prod.snd y1)))) (Prod.fst (Prod.snd (Prod.snd (Prod.snd (Prod.snd y1))))) (Prod.snd (Prod.snd (Prod.snd (Prod.snd (Prod.snd y1))))))))
                   (
                    again (.l1012 (Prod.fst (Prod.snd y1)) (Prod.fst (Prod.snd (Prod.snd y1))) (Prod.fst (Prod.snd (Prod.snd (Prod.snd y1)))) (Prod.fst (Prod.snd (Prod.snd (Prod.snd (Prod.snd y1))))) (Prod.snd (Prod.snd (Prod.snd (Prod.snd (Prod.snd y1))))))))))
             (
              cond (Ops.eq B p0 (4))
               (
                cond (Ops.eq B (Prod.fst (List.getD p1 (Int.toNat p2) (Ty.dflt ty106))) (3))
                 (
                  cond (Prod.fst (Prod.snd (List.getD p1 (Int.toNat p2) (Ty.dflt ty106))) == ([85] : List UInt8))
                   (
                    k ((9, Prod.fst (Prod.snd y0), Prod.fst (Prod.snd (Prod.snd y0)), Prod.fst (Prod.snd (Prod.snd (Prod.snd y0))), Prod.fst (Prod.snd (Prod.snd (Prod.snd (Prod.snd y0)))), Prod.snd (Prod.snd (Prod.snd (Prod.snd (Prod.snd y0)))))))
                   (
                    cond (Ops.eq B p0 (4))
                     (
                      cond (Ops.eq B (Prod.fst (List.getD p1 (Int.toNat p2) (Ty.dflt ty106))) (3))
                       (
                        cond (Prod.fst (Prod.snd (List.getD p1 (Int.toNat p2) (Ty.dflt ty106))) == ([82] : List UInt8))
                         (
                          k ((10, Prod.fst (Prod.snd y0), Prod.fst (Prod.snd (Prod.snd y0)), Prod.fst (Prod.snd (Prod.snd (Prod.snd y0))), Prod.fst (Prod.snd (Prod.snd (Prod.snd (Prod.snd y0)))), Prod.snd (Prod.snd (Prod.snd (Prod.snd (Prod.snd y0)))))))
                         (
                          again (.l1012 (Prod.fst (Prod.snd y0)) (Prod.fst (Prod.snd (Prod.snd y0))) (Prod.fst (Prod.snd (Prod.snd (Prod.snd y0)))) (Prod.fst (Prod.snd (Prod.snd (Prod.snd (Prod.snd y0))))) (Prod.snd (Prod.snd (Prod.snd (Prod.snd (Prod.snd y0))))))))
                       (
                        again (.l1012 (Prod.fst (Prod.snd y0)) (Prod.fst (Prod.snd (Prod.snd y0))) (Prod.fst (Prod.snd (Prod.snd (Prod.snd y0)))) (Prod.fst (Prod.snd (Prod.snd (Prod.snd (Prod.snd y0))))) (Prod.snd (Prod.snd (Prod.snd (Prod.snd (Prod.snd y0))))))))
                     (
                      again (.l1012 (Prod.fst (Prod.snd y0)) (Prod.fst (Prod.snd (Prod.snd y0))) (Prod.fst (Prod.snd (Prod.snd (Prod.snd y0)))) (Prod.fst (Prod.snd (Prod.snd (Prod.snd (Prod.snd y0))))) (Prod.snd (Prod.snd (Prod.snd (Prod.snd (Prod.snd y0)))))))))
                 (
                  cond (Ops.eq B p0 (4))
                   (
                    cond (Ops.eq B (Prod.fst (List.getD p1 (Int.toNat p2) (Ty.dflt ty106))) (3))
                     (
                      cond (Prod.fst (Prod.snd (List.getD p1 (Int.toNat p2) (Ty.dflt ty106))) == ([82] : List UInt8))
                       (
                        k ((10, Prod.fst (Prod.snd y0), Prod.fst (Prod.snd (Prod.snd y0)), Prod.fst (Prod.snd (Prod.snd (Prod.snd y0))), Prod.fst (Prod.snd (Prod.snd (Prod.snd (Prod.snd y0)))), Prod.snd (Prod.snd (Prod.snd (Prod.snd (Prod.snd y0)))))))
                       (
                        again (.l1012 (Prod.fst (Prod.snd y0)) (Prod.fst (Prod.snd (Prod.snd y0))) (Prod.fst (Prod.snd (Prod.snd (Prod.snd y0)))) (Prod.fst (Prod.snd (Prod.snd (Prod.snd (Prod.snd y0))))) (Prod.snd (Prod.snd (Prod.snd (Prod.snd (Prod.snd y0))))))))
                     (
                      again (.l1012 (Prod.fst (Prod.snd y0)) (Prod.fst (Prod.snd (Prod.snd y0))) (Prod.fst (Prod.snd (Prod.snd (Prod.snd y0)))) (Prod.fst (Prod.snd (Prod.snd (Prod.snd (Prod.snd y0))))) (Prod.snd (Prod.snd (Prod.snd (Prod.snd (Prod.snd y0))))))))
                   (
                    again (.l1012 (Prod.fst (Prod.snd y0)) (Prod.fst (Prod.snd (Prod.snd y0))) (Prod.fst (Prod.snd (Prod.snd (Prod.snd y0)))) (Prod.fst (Prod.snd (Prod.snd (Prod.snd (Prod.snd y0))))) (Prod.snd (Prod.snd (Prod.snd (Prod.snd (Prod.snd y0)))))))))
               (
                cond (Ops.eq B p0 (4))
                 (
                  cond (Ops.eq B (Prod.fst (List.getD p1 (Int.toNat p2) (Ty.dflt ty106))) (3))
                   (
                    cond (Prod.fst (Prod.snd (List.getD p1 (Int.toNat p2) (Ty.dflt ty106))) == ([82] : List UInt8))
                     (
                      k ((10, Prod.fst (Prod.snd y0), Prod.fst (Prod.snd (Prod.snd y0)), Prod.fst (Prod.snd (Prod.snd (Prod.snd y0))), Prod.fst (Prod.snd (Prod.snd (Prod.snd (Prod.snd y0)))), Prod.snd (Prod.snd (Prod.snd (Prod.snd (Prod.snd y0)))))))
                     (
                      again (.l1012 (Prod.fst (Prod.snd y0)) (Prod.fst (Prod.snd (Prod.snd y0))) (Prod.fst (Prod.snd (Prod.snd (Prod.snd y0)))) (Prod.fst (Prod.snd (Prod.snd (Prod.snd (Prod.snd y0))))) (Prod.snd (Prod.snd (Prod.snd (Prod.snd (Prod.snd y0))))))))
                   (
                    again (.l1012 (Prod.fst (Prod.snd y0)) (Prod.fst (Prod.snd (Prod.snd y0))) (Prod.fst (Prod.snd (Prod.snd (Prod.snd y0)))) (Prod.fst (Prod.snd (Prod.snd (Prod.snd (Prod.snd y0))))) (Prod.snd (Prod.snd (Prod.snd (Prod.snd (Prod.snd y0))))))))
                 (
                  again (.l1012 (Prod.fst (Prod.snd y0)) (Prod.fst (Prod.snd (Prod.snd y0))) (Prod.fst (Prod.snd (Prod.snd (Prod.snd y0)))) (Prod.fst (Prod.snd (Prod.snd (Prod.snd (Prod.snd y0))))) (Prod.snd (Prod.snd (Prod.snd (Prod.snd (Prod.snd y0)))))))))))
         (
          cond (Ops.eq B p0 (3))
           (
            ob (c119 ([38, 38] : List UInt8) p1 p2 p3 p4 p5) fun y0 =>
            cond (Prod.fst y0)
             (
              k ((5, Prod.fst (Prod.snd y0), Prod.fst (Prod.snd (Prod.snd y0)), Prod.fst (Prod.snd (Prod.snd (Prod.snd y0))), Prod.fst (Prod.snd (Prod.snd (Prod.snd (Prod.snd y0)))), Prod.snd (Prod.snd (Prod.snd (Prod.snd (Prod.snd y0)))))))
             (
              cond (Ops.eq B p0 (4))
               (
                cond (Ops.eq B (Prod.fst (List.getD p1 (Int.toNat p2) (Ty.dflt ty106))) (3))
                 (
                  cond (Prod.fst (Prod.snd (List.getD p1 (Int.toNat p2) (Ty.dflt ty106))) == ([85] : List UInt8))
                   (
                    k ((9, Prod.fst (Prod.snd y0), Prod.fst (Prod.snd (Prod.snd y0)), Prod.fst (Prod.snd (Prod.snd (Prod.snd y0))), Prod.fst (Prod.snd (Prod.snd (Prod.snd (Prod.snd y0)))), Prod.snd (Prod.snd (Prod.snd (Prod.snd (Prod.snd y0)))))))
                   (
                    cond (Ops.eq B p0 (4))
                     (
                      cond (Ops.eq B (Prod.fst (List.getD p1 (Int.toNat p2) (Ty.dflt ty106))) (3))
                       (
                        cond (Prod.fst (Prod.snd (List.getD p1 (Int.toNat p2) (Ty.dflt ty106))) == ([82] : List UInt8))
                         (
                          k ((10, Prod.fst (Prod.snd y0), Prod.fst (Prod.snd (Prod.snd y0)), Prod.fst (Prod.snd (Prod.snd (Prod.snd y0))), Prod.fst (Prod.snd (Prod.snd (Prod.snd (Prod.snd y0)))), Prod.snd (Prod.snd (Prod.snd (Prod.snd (Prod.snd y0)))))))
                         (
                          again (.l1012 (Prod.fst (Prod.snd y0)) (Prod.fst (Prod.snd (Prod.snd y0))) (Prod.fst (Prod.snd (Prod.snd (Prod.snd y0)))) (Prod.fst (Prod.snd (Prod.snd (Prod.snd (Prod.snd y0))))) (Prod.snd (Prod.snd (Prod.snd (Prod.snd (Prod.snd y0))))))))
                       (
                        again (.l1012 (Prod.fst (Prod.snd y0)) (Prod.fst (Prod.snd (Prod.snd y0))) (Prod.fst (Prod.snd (Prod.snd (Prod.snd y0)))) (Prod.fst (Prod.snd (Prod.snd (Prod.snd (Prod.snd y0))))) (Prod.snd (Prod.snd (Prod.snd (Prod.snd (Prod.snd y0))))))))
                     (
                      again (.l1012 (Prod.fst (Prod.snd y0)) (Prod.fst (Prod.snd (Prod.snd y0))) (Prod.fst (Prod.snd (Prod.snd (Prod.snd y0)))) (Prod.fst (Prod.snd (Prod.snd (Prod.snd (Prod.snd y0))))) (Prod.snd (Prod.snd (Prod.snd (Prod.snd (Prod.snd y0)))))))))
                 (
                  cond (Ops.eq B p0 (4))
                   (
                    cond (Ops.eq B (Prod.fst (List.getD p1 (Int.toNat p2) (Ty.dflt ty106))) (3))
                     (
                      cond (Prod.fst (Prod.snd (List.getD p1 (Int.toNat p2) (Ty.dflt ty106))) == ([82] : List UInt8))
                       (
                        k ((10, Prod.fst (Prod.snd y0), Prod.fst (Prod.snd (Prod.snd y0)), Prod.fst (Prod.snd (Prod.snd (Prod.snd y0))), Prod.fst (Prod.snd (Prod.snd (Prod.snd (Prod.snd y0)))), Prod.snd (Prod.snd (Prod.snd (Prod.snd (Prod.snd y0)))))))
                       (
                        again (.l1012 (Prod.fst (Prod.snd y0)) (Prod.fst (Prod.snd (Prod.snd y0))) (Prod.fst (Prod.snd (Prod.snd (Prod.snd y0)))) (Prod.fst (Prod.snd (Prod.snd (Prod.snd (Prod.snd y0))))) (Prod.snd (Prod.snd (Prod.snd (Prod.snd (Prod.snd y0))))))))
                     (
                      again (.l1012 (Prod.fst (Prod.snd y0)) (Prod.fst (Prod.snd (Prod.snd y0))) (Prod.fst (Prod.snd (Prod.snd (Prod.snd y0)))) (Prod.fst (Prod.snd (Prod.snd (Prod.snd (Prod.snd y0))))) (Prod.snd (Prod.snd (Prod.snd (Prod.snd (Prod.snd y0))))))))
                   (
                    again (.l1012 (Prod.fst (Prod.snd y0)) (Prod.fst (Prod.snd (Prod.snd y0))) (Prod.fst (Prod.snd (Prod.snd (Prod.snd y0)))) (Prod.fst (Prod.snd (Prod.snd (Prod.snd (Prod.snd y0))))) (Prod.snd (Prod.snd (Prod.snd (Prod.snd (Prod.snd y0)))))))))
               (
                cond (Ops.eq B p0 (4))
                 (
                  cond (Ops.eq B (Prod.fst (List.getD p1 (Int.toNat p2) (Ty.dflt ty106))) (3))
                   (
                    cond (Prod.fst (Prod.snd (List.getD p1 (Int.toNat p2) (Ty.dflt ty106))) == ([82] : List UInt8))
                     (
                      k ((10, Prod.fst (Prod.snd y0), Prod.fst (Prod.snd (Prod.snd y0)), Prod.fst (Prod.snd (Prod.snd (Prod.snd y0))), Prod.fst (Prod.snd (Prod.snd (Prod.snd (Prod.snd y0)))), Prod.snd (Prod.snd (Prod.snd (Prod.snd (Prod.snd y0)))))))
                     (
                      again (.l1012 (Prod.fst (Prod.snd y0)) (Prod.fst (Prod.snd (Prod.snd y0))) (Prod.fst (Prod.snd (Prod.snd (Prod.snd y0)))) (Prod.fst (Prod.snd (Prod.snd (Prod.snd (Prod.snd y0))))) (Prod.snd (Prod.snd (Prod.snd (Prod.snd (Prod.snd y0))))))))
                   (
                    again (.l1012 (Prod.fst (Prod.snd y0)) (Prod.fst (Prod.snd (Prod.snd y0))) (Prod.fst (Prod.snd (Prod.snd (Prod.snd y0)))) (Prod.fst (Prod.snd (Prod.snd (Prod.snd (Prod.snd y0))))) (Prod.snd (Prod.snd (Prod.snd (Prod.snd (Prod.snd y0))))))))
                 (
                  again (.l1012 (Prod.fst (Prod.snd y0)) (Prod.fst (Prod.snd (Prod.snd y0))) (Prod.fst (Prod.snd (Prod.snd (Prod.snd y0)))) (Prod.fst (Prod.snd (Prod.snd (Prod.snd (Prod.snd y0))))) (Prod.snd (Prod.snd (Prod.snd (Prod.snd (Prod.snd y0))))))))))
           (
            cond (Ops.eq B p0 (4))
             (
              cond (Ops.eq B (Prod.fst (List.getD p1 (Int.toNat p2) (Ty.dflt ty106))) (3))
               (
                cond (Prod.fst (Prod.snd (List.getD p1 (Int.toNat p2) (Ty.dflt ty106))) == ([85] : List UInt8))
                 (
                  k ((9, p1, p2, p3, p4, p5)))
                 (
                  cond (Ops.eq B p0 (4))
                   (
                    cond (Ops.eq B (Prod.fst (List.getD p1 (Int.toNat p2) (Ty.dflt ty106))) (3))
                     (
                      cond (Prod.fst (Prod.snd (List.getD p1 (Int.toNat p2) (Ty.dflt ty106))) == ([82] : List UInt8))
                       (
                        k ((10, p1, p2, p3, p4, p5)))
                       (
                        again (.l1012 p1 p2 p3 p4 p5)))
                     (
                      again (.l1012 p1 p2 p3 p4 p5)))
                   (
                    again (.l1012 p1 p2 p3 p4 p5))))
               (
                cond (Ops.eq B p0 (4))
                 (
                  cond (Ops.eq B (Prod.fst (List.getD p1 (Int.toNat p2) (Ty.dflt ty106))) (3))
                   (
                    cond (Prod.fst (Prod.snd (List.getD p1 (Int.toNat p2) (Ty.dflt ty106))) == ([82] : List UInt8))
                     (
                      k ((10, p1, p2, p3, p4, p5)))
                     (
                      again (.l1012 p1 p2 p3 p4 p5)))
                   (
                    again (.l1012 p1 p2 p3 p4 p5)))
                 (
                  again (.l1012 p1 p2 p3 p4 p5))))
             (
              cond (Ops.eq B p0 (4))
               (
                cond (Ops.eq B (Prod.fst (List.getD p1 (Int.toNat p2) (Ty.dflt ty106))) (3))
                 (
                  cond (Prod.fst (Prod.snd (List.getD p1 (Int.toNat p2) (Ty.dflt ty106))) == ([82] : List UInt8))
                   (
                    k ((10, p1, p2, p3, p4, p5)))
                   (
                    again (.l1012 p1 p2 p3 p4 p5)))
                 (
                  again (.l1012 p1 p2 p3 p4 p5)))
               (
                again (.l1012 p1 p2 p3 p4 p5)))))))
     (
      none)
  | some (.l1012 v1012_0 v1012_1 v1012_2 v1012_3 v1012_4) =>
    k ((0, v1012_0, v1012_1, v1012_2, v1012_3, v1012_4))
def E98 (p0 : Int) (p1 : List ty106.den) (p2 : Int) (p3 : Int) (p4 : Int) (p5 : List ty36.den) : S98 → List AV × Objs
  | .l1012 v1012_0 v1012_1 v1012_2 v1012_3 v1012_4 => (mk 63 [], [(0, .box 103 [.list 106 ty106 v1012_0, .int .i64 v1012_1, .own 1002, .int .i64 v1012_2, .int .i64 v1012_3]), (1002, .row 36 ty36 v1012_4)])
def I98 : S98 → Nat
  | .l1012 _ _ _ _ _ => 1012
theorem eq98 {R : Type} (B : Ops) (c119 : List UInt8 → List ty106.den → Int → Int → Int → List ty36.den → Option (Bool × (List ty106.den) × Int × Int × Int × (List ty36.den))) (p0 : Int) (p1 : List ty106.den) (p2 : Int) (p3 : Int) (p4 : Int) (p5 : List ty36.den) (k : AV → Objs → Option R) (n : Nat) : afun tau B gl0 X98 (ent 119 (e119 c119) (gnil)) ow Try.f98 [.c (.ptr 0 0), .c (.int .i64 p0)] [(0, .box 103 [.list 106 ty106 p1, .int .i64 p2, .own 1002, .int .i64 p3, .int .i64 p4]), (1002, .row 36 ty36 p5)] k n = T98 B c119 p0 p1 p2 p3 p4 p5 (fun s => aloop tau B gl0 X98 (ent 119 (e119 c119) (gnil)) ow [0] Try.f98 k (I98 s) (E98 p0 p1 p2 p3 p4 p5 s) n) (fun y => k (.c (.int .i64 y.1)) [(0, .box 103 [.list 106 ty106 y.2.1, .int .i64 y.2.2.1, .own 1002, .int .i64 y.2.2.2.1, .int .i64 y.2.2.2.2.1]), (1002, .row 36 ty36 y.2.2.2.2.2)]) none := by kernel_rfl
theorem el98 {R : Type} (B : Ops) (c119 : List UInt8 → List ty106.den → Int → Int → Int → List ty36.den → Option (Bool × (List ty106.den) × Int × Int × Int × (List ty36.den))) (p0 : Int) (p1 : List ty106.den) (p2 : Int) (p3 : Int) (p4 : Int) (p5 : List ty36.den) (k : AV → Objs → Option R) (n : Nat) : ∀ s, aloop tau B gl0 X98 (ent 119 (e119 c119) (gnil)) ow [0] Try.f98 k (I98 s) (E98 p0 p1 p2 p3 p4 p5 s) (n + 1) = T98 B c119 p0 p1 p2 p3 p4 p5 (fun s => aloop tau B gl0 X98 (ent 119 (e119 c119) (gnil)) ow [0] Try.f98 k (I98 s) (E98 p0 p1 p2 p3 p4 p5 s) n) (fun y => k (.c (.int .i64 y.1)) [(0, .box 103 [.list 106 ty106 y.2.1, .int .i64 y.2.2.1, .own 1002, .int .i64 y.2.2.2.1, .int .i64 y.2.2.2.2.1]), (1002, .row 36 ty36 y.2.2.2.2.2)]) (some s)
  | .l1012 v1012_0 v1012_1 v1012_2 v1012_3 v1012_4 => by kernel_rfl
theorem nt98 {R R' : Type} (B : Ops) (c119 : List UInt8 → List ty106.den → Int → Int → Int → List ty36.den → Option (Bool × (List ty106.den) × Int × Int × Int × (List ty36.den))) (p0 : Int) (p1 : List ty106.den) (p2 : Int) (p3 : Int) (p4 : Int) (p5 : List ty36.den) (again : S98 → Option R) (again' : S98 → Option R') (k0 : (Int × (List ty106.den) × Int × Int × Int × (List ty36.den)) → Option R') (k : R' → Option R) (h : ∀ s, again s = ob (again' s) k) : ∀ s, T98 B c119 p0 p1 p2 p3 p4 p5 again (fun y => ob (k0 y) k) s = ob (T98 B c119 p0 p1 p2 p3 p4 p5 again' k0 s) k
  | none => by unfold T98; repeat' first | exact rfl | exact h _ | apply nat_cond | (apply nat_ob; intro)
  | some (.l1012 v1012_0 v1012_1 v1012_2 v1012_3 v1012_4) => by unfold T98; repeat' first | exact rfl | exact h _ | apply nat_cond | (apply nat_ob; intro)
def R98 (c119 : List UInt8 → List ty106.den → Int → Int → Int → List ty36.den → Option (Bool × (List ty106.den) × Int × Int × Int × (List ty36.den))) (p0 : Int) (p1 : List ty106.den) (p2 : Int) (p3 : Int) (p4 : Int) (p5 : List ty36.den) : Nat → S98 → Option (Int × (List ty106.den) × Int × Int × Int × (List ty36.den))
  | 0, _ => none
  | n + 1, s => T98 Ops.std c119 p0 p1 p2 p3 p4 p5 (R98 c119 p0 p1 p2 p3 p4 p5 n) some (some s)
theorem rr98 {R : Type} (c119 : List UInt8 → List ty106.den → Int → Int → Int → List ty36.den → Option (Bool × (List ty106.den) × Int × Int × Int × (List ty36.den))) (p0 : Int) (p1 : List ty106.den) (p2 : Int) (p3 : Int) (p4 : Int) (p5 : List ty36.den) (k : AV → Objs → Option R) : ∀ (n : Nat) (s : S98), aloop tau Ops.std gl0 X98 (ent 119 (e119 c119) (gnil)) ow [0] Try.f98 k (I98 s) (E98 p0 p1 p2 p3 p4 p5 s) n = ob (R98 c119 p0 p1 p2 p3 p4 p5 n s) (fun y => k (.c (.int .i64 y.1)) [(0, .box 103 [.list 106 ty106 y.2.1, .int .i64 y.2.2.1, .own 1002, .int .i64 y.2.2.2.1, .int .i64 y.2.2.2.2.1]), (1002, .row 36 ty36 y.2.2.2.2.2)])
  | 0, s => by cases s <;> rfl
  | n + 1, s => by rw [el98]; exact nt98 Ops.std c119 p0 p1 p2 p3 p4 p5 _ _ some (fun y => k (.c (.int .i64 y.1)) [(0, .box 103 [.list 106 ty106 y.2.1, .int .i64 y.2.2.1, .own 1002, .int .i64 y.2.2.2.1, .int .i64 y.2.2.2.2.1]), (1002, .row 36 ty36 y.2.2.2.2.2)]) (rr98 c119 p0 p1 p2 p3 p4 p5 k n) (some s)
def F98 (c119 : List UInt8 → List ty106.den → Int → Int → Int → List ty36.den → Option (Bool × (List ty106.den) × Int × Int × Int × (List ty36.den))) (p0 : Int) (p1 : List ty106.den) (p2 : Int) (p3 : Int) (p4 : Int) (p5 : List ty36.den) : Option (Int × (List ty106.den) × Int × Int × Int × (List ty36.den)) := T98 Ops.std c119 p0 p1 p2 p3 p4 p5 (R98 c119 p0 p1 p2 p3 p4 p5 1000000) some none
theorem fo98 {R : Type} (c119 : List UInt8 → List ty106.den → Int → Int → Int → List ty36.den → Option (Bool × (List ty106.den) × Int × Int × Int × (List ty36.den))) (p0 : Int) (p1 : List ty106.den) (p2 : Int) (p3 : Int) (p4 : Int) (p5 : List ty36.den) (k : AV → Objs → Option R) : afun tau Ops.std gl0 X98 (ent 119 (e119 c119) (gnil)) ow Try.f98 [.c (.ptr 0 0), .c (.int .i64 p0)] [(0, .box 103 [.list 106 ty106 p1, .int .i64 p2, .own 1002, .int .i64 p3, .int .i64 p4]), (1002, .row 36 ty36 p5)] k 1000000 = ob (F98 c119 p0 p1 p2 p3 p4 p5) (fun y => k (.c (.int .i64 y.1)) [(0, .box 103 [.list 106 ty106 y.2.1, .int .i64 y.2.2.1, .own 1002, .int .i64 y.2.2.2.1, .int .i64 y.2.2.2.2.1]), (1002, .row 36 ty36 y.2.2.2.2.2)]) := by rw [eq98]; exact nt98 Ops.std c119 p0 p1 p2 p3 p4 p5 _ _ some (fun y => k (.c (.int .i64 y.1)) [(0, .box 103 [.list 106 ty106 y.2.1, .int .i64 y.2.2.1, .own 1002, .int .i64 y.2.2.2.1, .int .i64 y.2.2.2.2.1]), (1002, .row 36 ty36 y.2.2.2.2.2)]) (rr98 c119 p0 p1 p2 p3 p4 p5 k 1000000) none
def e98 {R : Type} (c : Int → List ty106.den → Int → Int → Int → List ty36.den → Option (Int × (List ty106.den) × Int × Int × Int × (List ty36.den))) : Ent R := fun args objs k =>
  oCons args fun a0 l0 => oC a0 fun x0 => cPtr 0 x0 <| oCons l0 fun a1 l1 => oC a1 fun x1 => cInt .i64 x1 fun p0 => oNil l1 <| oBox 0 103 objs fun b0 o0 => cCons b0 fun u0_0 v0_0 => cList 106 ty106 u0_0 fun p1 => cCons v0_0 fun u0_1 v0_1 => cInt .i64 u0_1 fun p2 => cCons v0_1 fun u0_2 v0_2 => cOwn 1002 u0_2 <| cCons v0_2 fun u0_3 v0_3 => cInt .i64 u0_3 fun p3 => cCons v0_3 fun u0_4 v0_4 => cInt .i64 u0_4 fun p4 => cNil v0_4 <| oRow 1002 36 ty36 o0 fun p5 o1 => oNilO o1 <| ob (c p0 p1 p2 p3 p4 p5) fun y => k (.c (.int .i64 y.1)) [(0, .box 103 [.list 106 ty106 y.2.1, .int .i64 y.2.2.1, .own 1002, .int .i64 y.2.2.2.1, .int .i64 y.2.2.2.2.1]), (1002, .row 36 ty36 y.2.2.2.2.2)]
abbrev Sp98 (c : Int → List ty106.den → Int → Int → Int → List ty36.den → Option (Int × (List ty106.den) × Int × Int × Int × (List ty36.den))) : Prop := ∀ (p0 : Int) (p1 : List ty106.den) (p2 : Int) (p3 : Int) (p4 : Int) (p5 : List ty36.den) (y : Int × (List ty106.den) × Int × Int × Int × (List ty36.den)), c p0 p1 p2 p3 p4 p5 = some y → Spec Try.prog gl0 98 [.c (.ptr 0 0), .c (.int .i64 p0)] [(0, .box 103 [.list 106 ty106 p1, .int .i64 p2, .own 1002, .int .i64 p3, .int .i64 p4]), (1002, .row 36 ty36 p5)] (.c (.int .i64 y.1)) [(0, .box 103 [.list 106 ty106 y.2.1, .int .i64 y.2.2.1, .own 1002, .int .i64 y.2.2.2.1, .int .i64 y.2.2.2.2.1]), (1002, .row 36 ty36 y.2.2.2.2.2)]
theorem ek98 {R : Type} {c : Int → List ty106.den → Int → Int → Int → List ty36.den → Option (Int × (List ty106.den) × Int × Int × Int × (List ty36.den))} (hs : Sp98 c) : EOk 98 (e98 (R := R) c) := fun args objs k r h => by
  unfold e98 at h
  obtain ⟨a0, l0, rfl, q1⟩ := oCons_some h
  obtain ⟨x0, rfl, q2⟩ := oC_some q1
  obtain ⟨rfl, q3⟩ := cPtr_some q2
  obtain ⟨a1, l1, rfl, q4⟩ := oCons_some q3
  obtain ⟨x1, rfl, q5⟩ := oC_some q4
  obtain ⟨p0, rfl, q6⟩ := cInt_some q5
  obtain ⟨rfl, q7⟩ := oNil_some q6
  obtain ⟨b0, o0, rfl, q8⟩ := oBox_some q7
  obtain ⟨u0_0, v0_0, rfl, q9⟩ := cCons_some q8
  obtain ⟨p1, rfl, q10⟩ := cList_some q9
  obtain ⟨u0_1, v0_1, rfl, q11⟩ := cCons_some q10
  obtain ⟨p2, rfl, q12⟩ := cInt_some q11
  obtain ⟨u0_2, v0_2, rfl, q13⟩ := cCons_some q12
  obtain ⟨rfl, q14⟩ := cOwn_some q13
  obtain ⟨u0_3, v0_3, rfl, q15⟩ := cCons_some q14
  obtain ⟨p3, rfl, q16⟩ := cInt_some q15
  obtain ⟨u0_4, v0_4, rfl, q17⟩ := cCons_some q16
  obtain ⟨p4, rfl, q18⟩ := cInt_some q17
  obtain ⟨rfl, q19⟩ := cNil_some q18
  obtain ⟨p5, o1, rfl, q20⟩ := oRow_some q19
  obtain ⟨rfl, q21⟩ := oNilO_some q20
  exact eok_of (hs p0 p1 p2 p3 p4 p5) q21
theorem sf98 {c119 : List UInt8 → List ty106.den → Int → Int → Int → List ty36.den → Option (Bool × (List ty106.den) × Int × Int × Int × (List ty36.den))} (h119 : Sp119 c119) : Sp98 (F98 c119) := fun p0 p1 p2 p3 p4 p5 y hy => by
  refine spec_of (G := ent 119 (e119 c119) (gnil)) (ent_ok (ek119 h119) (gnil_ok)) 1000000 (fn := Try.f98) (by kernel_rfl) (by kernel_rfl) (X := X98) (by kernel_rfl) ?_
  rw [fo98, hy]
  rfl
noncomputable def M98 : Int → List ty106.den → Int → Int → Int → List ty36.den → Option (Int × (List ty106.den) × Int × Int × Int × (List ty36.den)) := F98 M119
theorem sm98 : Sp98 M98 := sf98 sm119
def e60 {R : Type} (c : Int → List ty106.den → Int → Int → Int → List ty36.den → Option ((List ty106.den) × Int × Int × Int × (List ty36.den))) : Ent R := fun args objs k =>
  oCons args fun a0 l0 => oC a0 fun x0 => cPtr 0 x0 <| oCons l0 fun a1 l1 => oC a1 fun x1 => cInt .i64 x1 fun p0 => oNil l1 <| oBox 0 103 objs fun b0 o0 => cCons b0 fun u0_0 v0_0 => cList 106 ty106 u0_0 fun p1 => cCons v0_0 fun u0_1 v0_1 => cInt .i64 u0_1 fun p2 => cCons v0_1 fun u0_2 v0_2 => cOwn 1002 u0_2 <| cCons v0_2 fun u0_3 v0_3 => cInt .i64 u0_3 fun p3 => cCons v0_3 fun u0_4 v0_4 => cInt .i64 u0_4 fun p4 => cNil v0_4 <| oRow 1002 36 ty36 o0 fun p5 o1 => oNilO o1 <| ob (c p0 p1 p2 p3 p4 p5) fun y => k (.tup []) [(0, .box 103 [.list 106 ty106 y.1, .int .i64 y.2.1, .own 1002, .int .i64 y.2.2.1, .int .i64 y.2.2.2.1]), (1002, .row 36 ty36 y.2.2.2.2)]
abbrev Sp60 (c : Int → List ty106.den → Int → Int → Int → List ty36.den → Option ((List ty106.den) × Int × Int × Int × (List ty36.den))) : Prop := ∀ (p0 : Int) (p1 : List ty106.den) (p2 : Int) (p3 : Int) (p4 : Int) (p5 : List ty36.den) (y : (List ty106.den) × Int × Int × Int × (List ty36.den)), c p0 p1 p2 p3 p4 p5 = some y → Spec Try.prog gl0 60 [.c (.ptr 0 0), .c (.int .i64 p0)] [(0, .box 103 [.list 106 ty106 p1, .int .i64 p2, .own 1002, .int .i64 p3, .int .i64 p4]), (1002, .row 36 ty36 p5)] (.tup []) [(0, .box 103 [.list 106 ty106 y.1, .int .i64 y.2.1, .own 1002, .int .i64 y.2.2.1, .int .i64 y.2.2.2.1]), (1002, .row 36 ty36 y.2.2.2.2)]
theorem ek60 {R : Type} {c : Int → List ty106.den → Int → Int → Int → List ty36.den → Option ((List ty106.den) × Int × Int × Int × (List ty36.den))} (hs : Sp60 c) : EOk 60 (e60 (R := R) c) := fun args objs k r h => by
  unfold e60 at h
  obtain ⟨a0, l0, rfl, q1⟩ := oCons_some h
  obtain ⟨x0, rfl, q2⟩ := oC_some q1
  obtain ⟨rfl, q3⟩ := cPtr_some q2
  obtain ⟨a1, l1, rfl, q4⟩ := oCons_some q3
  obtain ⟨x1, rfl, q5⟩ := oC_some q4
  obtain ⟨p0, rfl, q6⟩ := cInt_some q5
  obtain ⟨rfl, q7⟩ := oNil_some q6
  obtain ⟨b0, o0, rfl, q8⟩ := oBox_some q7
  obtain ⟨u0_0, v0_0, rfl, q9⟩ := cCons_some q8
  obtain ⟨p1, rfl, q10⟩ := cList_some q9
  obtain ⟨u0_1, v0_1, rfl, q11⟩ := cCons_some q10
  obtain ⟨p2, rfl, q12⟩ := cInt_some q11
  obtain ⟨u0_2, v0_2, rfl, q13⟩ := cCons_some q12
  obtain ⟨rfl, q14⟩ := cOwn_some q13
  obtain ⟨u0_3, v0_3, rfl, q15⟩ := cCons_some q14
  obtain ⟨p3, rfl, q16⟩ := cInt_some q15
  obtain ⟨u0_4, v0_4, rfl, q17⟩ := cCons_some q16
  obtain ⟨p4, rfl, q18⟩ := cInt_some q17
  obtain ⟨rfl, q19⟩ := cNil_some q18
  obtain ⟨p5, o1, rfl, q20⟩ := oRow_some q19
  obtain ⟨rfl, q21⟩ := oNilO_some q20
  exact eok_of (hs p0 p1 p2 p3 p4 p5) q21
def e97 {R : Type} (c : List ty106.den → Int → Int → Int → List ty36.den → Option ((List ty106.den) × Int × Int × Int × (List ty36.den))) : Ent R := fun args objs k =>
  oCons args fun a0 l0 => oC a0 fun x0 => cPtr 0 x0 <| oNil l0 <| oBox 0 103 objs fun b0 o0 => cCons b0 fun u0_0 v0_0 => cList 106 ty106 u0_0 fun p0 => cCons v0_0 fun u0_1 v0_1 => cInt .i64 u0_1 fun p1 => cCons v0_1 fun u0_2 v0_2 => cOwn 1002 u0_2 <| cCons v0_2 fun u0_3 v0_3 => cInt .i64 u0_3 fun p2 => cCons v0_3 fun u0_4 v0_4 => cInt .i64 u0_4 fun p3 => cNil v0_4 <| oRow 1002 36 ty36 o0 fun p4 o1 => oNilO o1 <| ob (c p0 p1 p2 p3 p4) fun y => k (.tup []) [(0, .box 103 [.list 106 ty106 y.1, .int .i64 y.2.1, .own 1002, .int .i64 y.2.2.1, .int .i64 y.2.2.2.1]), (1002, .row 36 ty36 y.2.2.2.2)]
abbrev Sp97 (c : List ty106.den → Int → Int → Int → List ty36.den → Option ((List ty106.den) × Int × Int × Int × (List ty36.den))) : Prop := ∀ (p0 : List ty106.den) (p1 : Int) (p2 : Int) (p3 : Int) (p4 : List ty36.den) (y : (List ty106.den) × Int × Int × Int × (List ty36.den)), c p0 p1 p2 p3 p4 = some y → Spec Try.prog gl0 97 [.c (.ptr 0 0)] [(0, .box 103 [.list 106 ty106 p0, .int .i64 p1, .own 1002, .int .i64 p2, .int .i64 p3]), (1002, .row 36 ty36 p4)] (.tup []) [(0, .box 103 [.list 106 ty106 y.1, .int .i64 y.2.1, .own 1002, .int .i64 y.2.2.1, .int .i64 y.2.2.2.1]), (1002, .row 36 ty36 y.2.2.2.2)]
theorem ek97 {R : Type} {c : List ty106.den → Int → Int → Int → List ty36.den → Option ((List ty106.den) × Int × Int × Int × (List ty36.den))} (hs : Sp97 c) : EOk 97 (e97 (R := R) c) := fun args objs k r h => by
  unfold e97 at h
  obtain ⟨a0, l0, rfl, q1⟩ := oCons_some h
  obtain ⟨x0, rfl, q2⟩ := oC_some q1
  obtain ⟨rfl, q3⟩ := cPtr_some q2
  obtain ⟨rfl, q4⟩ := oNil_some q3
  obtain ⟨b0, o0, rfl, q5⟩ := oBox_some q4
  obtain ⟨u0_0, v0_0, rfl, q6⟩ := cCons_some q5
  obtain ⟨p0, rfl, q7⟩ := cList_some q6
  obtain ⟨u0_1, v0_1, rfl, q8⟩ := cCons_some q7
  obtain ⟨p1, rfl, q9⟩ := cInt_some q8
  obtain ⟨u0_2, v0_2, rfl, q10⟩ := cCons_some q9
  obtain ⟨rfl, q11⟩ := cOwn_some q10
  obtain ⟨u0_3, v0_3, rfl, q12⟩ := cCons_some q11
  obtain ⟨p2, rfl, q13⟩ := cInt_some q12
  obtain ⟨u0_4, v0_4, rfl, q14⟩ := cCons_some q13
  obtain ⟨p3, rfl, q15⟩ := cInt_some q14
  obtain ⟨rfl, q16⟩ := cNil_some q15
  obtain ⟨p4, o1, rfl, q17⟩ := oRow_some q16
  obtain ⟨rfl, q18⟩ := oNilO_some q17
  exact eok_of (hs p0 p1 p2 p3 p4) q18

/-! ### 60: (*lariat/lariatref13.reader).level -/
def X60 : Aux := ⟨[(3, [2, 3, 4, 5, 6, 7, 8, 9, 10, 11, 12, 13, 14, 15, 16, 17, 18, 19, 20, 21, 22, 23, 24, 25, 26, 27, 28, 29, 30, 31, 32, 33, 34, 35, 36, 37, 38, 39, 40, 41, 42, 43, 44, 45, 46, 47, 48, 49, 50, 51, 52, 53])], []⟩
inductive S60 where
  | l0 (v0_1 : List ty106.den) (v0_2 : Int) (v0_3 : Int) (v0_4 : Int) (v0_5 : List ty36.den)
def T60 {R : Type} (B : Ops) (c97 : List ty106.den → Int → Int → Int → List ty36.den → Option ((List ty106.den) × Int × Int × Int × (List ty36.den))) (c60 : Int → List ty106.den → Int → Int → Int → List ty36.den → Option ((List ty106.den) × Int × Int × Int × (List ty36.den))) (c98 : Int → List ty106.den → Int → Int → Int → List ty36.den → Option (Int × (List ty106.den) × Int × Int × Int × (List ty36.den))) (p0 : Int) (p1 : List ty106.den) (p2 : Int) (p3 : Int) (p4 : Int) (p5 : List ty36.den) (again : S60 → Option R) (k : ((List ty106.den) × Int × Int × Int × (List ty36.den)) → Option R) : Option S60 → Option R
  | none =>
    cond (Ops.lt B (4) p0)
     (
      ob (c97 p1 p2 p3 p4 p5) fun y0 =>
      k ((Prod.fst y0, Prod.fst (Prod.snd y0), Prod.fst (Prod.snd (Prod.snd y0)), Prod.fst (Prod.snd (Prod.snd (Prod.snd y0))), Prod.snd (Prod.snd (Prod.snd (Prod.snd y0))))))
     (
      ob (c60 (IntKind.wrap IntKind.i64 (p0 + 1)) p1 p2 p3 p4 p5) fun y0 =>
      again (.l0 (Prod.fst y0) (Prod.fst (Prod.snd y0)) (Prod.fst (Prod.snd (Prod.snd y0))) (Prod.fst (Prod.snd (Prod.snd (Prod.snd y0)))) (Prod.snd (Prod.snd (Prod.snd (Prod.snd y0))))))
  | some (.l0 v0_1 v0_2 v0_3 v0_4 v0_5) =>
    cond (Ops.eq B v0_3 (0))
     (
      ob (c98 p0 v0_1 v0_2 v0_3 v0_4 v0_5) fun y0 =>
      cond (Ops.eq B (Prod.fst y0) (0))
       (
        k ((Prod.fst (Prod.snd y0), Prod.fst (Prod.snd (Prod.snd y0)), Prod.fst (Prod.snd (Prod.snd (Prod.snd y0))), Prod.fst (Prod.snd (Prod.snd (Prod.snd (Prod.snd y0)))), Prod.snd (Prod.snd (Prod.snd (Prod.snd (Prod.snd y0)))))))
       (
        cond (Ops.eq B p0 (1))
         (
          ob (c60 p0 (Prod.fst (Prod.snd y0)) (IntKind.wrap IntKind.i64 (Prod.fst (Prod.snd (Prod.snd y0)) + 1)) (Prod.fst (Prod.snd (Prod.snd (Prod.snd y0)))) (Prod.fst (Prod.snd (Prod.snd (Prod.snd (Prod.snd y0))))) (Prod.snd (Prod.snd (Prod.snd (Prod.snd (Prod.snd y0)))))) fun y1 =>
          cond (Ops.lim B (List.length (Prod.snd (Prod.snd (Prod.snd (Prod.snd y1)))) + List.length ((Prod.fst y0, mt (Ty.den (Ty.pair (Ty.int IntKind.i64) (Ty.pair (Ty.int IntKind.i64) (Ty.pair Ty.str Ty.str))))) :: mt (Ty.den (Ty.pair (Ty.int IntKind.i64) (Ty.list (97) (Ty.pair (Ty.int IntKind.i64) (Ty.pair (Ty.int IntKind.i64) (Ty.pair Ty.str Ty.str)))))))) (32))
           (
            again (.l0 (Prod.fst y1) (Prod.fst (Prod.snd y1)) (Prod.fst (Prod.snd (Prod.snd y1))) (Prod.fst (Prod.snd (Prod.snd (Prod.snd y1)))) (Prod.snd (Prod.snd (Prod.snd (Prod.snd y1))) ++ (Prod.fst y0, mt (Ty.den (Ty.pair (Ty.int IntKind.i64) (Ty.pair (Ty.int IntKind.i64) (Ty.pair Ty.str Ty.str))))) :: mt (Ty.den (Ty.pair (Ty.int IntKind.i64) (Ty.list (97) (Ty.pair (Ty.int IntKind.i64) (Ty.pair (Ty.int IntKind.i64) (Ty.pair Ty.str Ty.str)))))))))
           (
            none))
         (
          cond (Ops.eq B p0 (4))
           (
            ob (c60 p0 (Prod.fst (Prod.snd y0)) (IntKind.wrap IntKind.i64 (Prod.fst (Prod.snd (Prod.snd y0)) + 1)) (Prod.fst (Prod.snd (Prod.snd (Prod.snd y0)))) (Prod.fst (Prod.snd (Prod.snd (Prod.snd (Prod.snd y0))))) (Prod.snd (Prod.snd (Prod.snd (Prod.snd (Prod.snd y0)))))) fun y1 =>
            cond (Ops.lim B (List.length (Prod.snd (Prod.snd (Prod.snd (Prod.snd y1)))) + List.length ((Prod.fst y0, mt (Ty.den (Ty.pair (Ty.int IntKind.i64) (Ty.pair (Ty.int IntKind.i64) (Ty.pair Ty.str Ty.str))))) :: mt (Ty.den (Ty.pair (Ty.int IntKind.i64) (Ty.list (97) (Ty.pair (Ty.int IntKind.i64) (Ty.pair (Ty.int IntKind.i64) (Ty.pair Ty.str Ty.str)))))))) (32))
             (
              again (.l0 (Prod.fst y1) (Prod.fst (Prod.snd y1)) (Prod.fst (Prod.snd (Prod.snd y1))) (Prod.fst (Prod.snd (Prod.snd (Prod.snd y1)))) (Prod.snd (Prod.snd (Prod.snd (Prod.snd y1))) ++ (Prod.fst y0, mt (Ty.den (Ty.pair (Ty.int IntKind.i64) (Ty.pair (Ty.int IntKind.i64) (Ty.pair Ty.str Ty.str))))) :: mt (Ty.den (Ty.pair (Ty.int IntKind.i64) (Ty.list (97) (Ty.pair (Ty.int IntKind.i64) (Ty.pair (Ty.int IntKind.i64) (Ty.pair Ty.str Ty.str)))))))))
             (
              none))
           (
            ob (c60 (IntKind.wrap IntKind.i64 (p0 + 1)) (Prod.fst (Prod.snd y0)) (IntKind.wrap IntKind.i64 (Prod.fst (Prod.snd (Prod.snd y0)) + 1)) (Prod.fst (Prod.snd (Prod.snd (Prod.snd y0)))) (Prod.fst (Prod.snd (Prod.snd (Prod.snd (Prod.snd y0))))) (Prod.snd (Prod.snd (Prod.snd (Prod.snd (Prod.snd y0)))))) fun y1 =>
            cond (Ops.lim B (List.length (Prod.snd (Prod.snd (Prod.snd (Prod.snd y1)))) + List.length ((Prod.fst y0, mt (Ty.den (Ty.pair (Ty.int IntKind.i64) (Ty.pair (Ty.int IntKind.i64) (Ty.pair Ty.str Ty.str))))) :: mt (Ty.den (Ty.pair (Ty.int IntKind.i64) (Ty.list (97) (Ty.pair (Ty.int IntKind.i64) (Ty.pair (Ty.int IntKind.i64) (Ty.pair Ty.str Ty.str)))))))) (32))
             (
              again (.l0 (Prod.fst y1) (Prod.fst (Prod.snd y1)) (Prod.fst (Prod.snd (Prod.snd y1))) (Prod.fst (Prod.snd (Prod.snd (Prod.snd y1)))) (Prod.snd (Prod.snd (Prod.snd (Prod.snd y1))) ++ (Prod.fst y0, mt (Ty.den (Ty.pair (Ty.int IntKind.i64) (Ty.pair (Ty.int IntKind.i64) (Ty.pair Ty.str Ty.str))))) :: mt (Ty.den (Ty.pair (Ty.int IntKind.i64) (Ty.list (97) (Ty.pair (Ty.int IntKind.i64) (Ty.pair (Ty.int IntKind.i64) (Ty.pair Ty.str Ty.str)))))))))
             (
              none)))))
     (
      k ((v0_1, v0_2, v0_3, v0_4, v0_5)))
def E60 (p0 : Int) (p1 : List ty106.den) (p2 : Int) (p3 : Int) (p4 : Int) (p5 : List ty36.den) : S60 → List AV × Objs
  | .l0 v0_1 v0_2 v0_3 v0_4 v0_5 => (mk 54 [(0, .c (.ptr 0 0)), (1, .c (.int .i64 p0))], [(0, .box 103 [.list 106 ty106 v0_1, .int .i64 v0_2, .own 1002, .int .i64 v0_3, .int .i64 v0_4]), (1002, .row 36 ty36 v0_5)])
def I60 : S60 → Nat
  | .l0 _ _ _ _ _ => 0
theorem eq60 {R : Type} (B : Ops) (c97 : List ty106.den → Int → Int → Int → List ty36.den → Option ((List ty106.den) × Int × Int × Int × (List ty36.den))) (c60 : Int → List ty106.den → Int → Int → Int → List ty36.den → Option ((List ty106.den) × Int × Int × Int × (List ty36.den))) (c98 : Int → List ty106.den → Int → Int → Int → List ty36.den → Option (Int × (List ty106.den) × Int × Int × Int × (List ty36.den))) (p0 : Int) (p1 : List ty106.den) (p2 : Int) (p3 : Int) (p4 : Int) (p5 : List ty36.den) (k : AV → Objs → Option R) (n : Nat) : afun tau B gl0 X60 (ent 97 (e97 c97) (ent 60 (e60 c60) (ent 98 (e98 c98) (gnil)))) ow Try.f60 [.c (.ptr 0 0), .c (.int .i64 p0)] [(0, .box 103 [.list 106 ty106 p1, .int .i64 p2, .own 1002, .int .i64 p3, .int .i64 p4]), (1002, .row 36 ty36 p5)] k n = T60 B c97 c60 c98 p0 p1 p2 p3 p4 p5 (fun s => aloop tau B gl0 X60 (ent 97 (e97 c97) (ent 60 (e60 c60) (ent 98 (e98 c98) (gnil)))) ow [0] Try.f60 k (I60 s) (E60 p0 p1 p2 p3 p4 p5 s) n) (fun y => k (.tup []) [(0, .box 103 [.list 106 ty106 y.1, .int .i64 y.2.1, .own 1002, .int .i64 y.2.2.1, .int .i64 y.2.2.2.1]), (1002, .row 36 ty36 y.2.2.2.2)]) none := by kernel_rfl
theorem el60 {R : Type} (B : Ops) (c97 : List ty106.den → Int → Int → Int → List ty36.den → Option ((List ty106.den) × Int × Int × Int × (List ty36.den))) (c60 : Int → List ty106.den → Int → Int → Int → List ty36.den → Option ((List ty106.den) × Int × Int × Int × (List ty36.den))) (c98 : Int → List ty106.den → Int → Int → Int → List ty36.den → Option (Int × (List ty106.den) × Int × Int × Int × (List ty36.den))) (p0 : Int) (p1 : List ty106.den) (p2 : Int) (p3 : Int) (p4 : Int) (p5 : List ty36.den) (k : AV → Objs → Option R) (n : Nat) : ∀ s, aloop tau B gl0 X60 (ent 97 (e97 c97) (ent 60 (e60 c60) (ent 98 (e98 c98) (gnil)))) ow [0] Try.f60 k (I60 s) (E60 p0 p1 p2 p3 p4 p5 s) (n + 1) = T60 B c97 c60 c98 p0 p1 p2 p3 p4 p5 (fun s => aloop tau B gl0 X60 (ent 97 (e97 c97) (ent 60 (e60 c60) (ent 98 (e98 c98) (gnil)))) ow [0] Try.f60 k (I60 s) (E60 p0 p1 p2 p3 p4 p5 s) n) (fun y => k (.tup []) [(0, .box 103 [.list 106 ty106 y.1, .int .i64 y.2.1, .own 1002, .int .i64 y.2.2.1, .int .i64 y.2.2.2.1]), (1002, .row 36 ty36 y.2.2.2.2)]) (some s)
  | .l0 v0_1 v0_2 v0_3 v0_4 v0_5 => by kernel_rfl
theorem nt60 {R R' : Type} (B : Ops) (c97 : List ty106.den → Int → Int → Int → List ty36.den → Option ((List ty106.den) × Int × Int × Int × (List ty36.den))) (c60 : Int → List ty106.den → Int → Int → Int → List ty36.den → Option ((List ty106.den) × Int × Int × Int × (List ty36.den))) (c98 : Int → List ty106.den → Int → Int → Int → List ty36.den → Option (Int × (List ty106.den) × Int × Int × Int × (List ty36.den))) (p0 : Int) (p1 : List ty106.den) (p2 : Int) (p3 : Int) (p4 : Int) (p5 : List ty36.den) (again : S60 → Option R) (again' : S60 → Option R') (k0 : ((List ty106.den) × Int × Int × Int × (List ty36.den)) → Option R') (k : R' → Option R) (h : ∀ s, again s = ob (again' s) k) : ∀ s, T60 B c97 c60 c98 p0 p1 p2 p3 p4 p5 again (fun y => ob (k0 y) k) s = ob (T60 B c97 c60 c98 p0 p1 p2 p3 p4 p5 again' k0 s) k
  | none => by unfold T60; repeat' first | exact rfl | exact h _ | apply nat_cond | (apply nat_ob; intro)
  | some (.l0 v0_1 v0_2 v0_3 v0_4 v0_5) => by unfold T60; repeat' first | exact rfl | exact h _ | apply nat_cond | (apply nat_ob; intro)
def R60 (c97 : List ty106.den → Int → Int → Int → List ty36.den → Option ((List ty106.den) × Int × Int × Int × (List ty36.den))) (c60 : Int → List ty106.den → Int → Int → Int → List ty36.den → Option ((List ty106.den) × Int × Int × Int × (List ty36.den))) (c98 : Int → List ty106.den → Int → Int → Int → List ty36.den → Option (Int × (List ty106.den) × Int × Int × Int × (List ty36.den))) (p0 : Int) (p1 : List ty106.den) (p2 : Int) (p3 : Int) (p4 : Int) (p5 : List ty36.den) : Nat → S60 → Option ((List ty106.den) × Int × Int × Int × (List ty36.den))
  | 0, _ => none
  | n + 1, s => T60 Ops.std c97 c60 c98 p0 p1 p2 p3 p4 p5 (R60 c97 c60 c98 p0 p1 p2 p3 p4 p5 n) some (some s)
theorem rr60 {R : Type} (c97 : List ty106.den → Int → Int → Int → List ty36.den → Option ((List ty106.den) × Int × Int × Int × (List ty36.den))) (c60 : Int → List ty106.den → Int → Int → Int → List ty36.den → Option ((List ty106.den) × Int × Int × Int × (List ty36.den))) (c98 : Int → List ty106.den → Int → Int → Int → List ty36.den → Option (Int × (List ty106.den) × Int × Int × Int × (List ty36.den))) (p0 : Int) (p1 : List ty106.den) (p2 : Int) (p3 : Int) (p4 : Int) (p5 : List ty36.den) (k : AV → Objs → Option R) : ∀ (n : Nat) (s : S60), aloop tau Ops.std gl0 X60 (ent 97 (e97 c97) (ent 60 (e60 c60) (ent 98 (e98 c98) (gnil)))) ow [0] Try.f60 k (I60 s) (E60 p0 p1 p2 p3 p4 p5 s) n = ob (R60 c97 c60 c98 p0 p1 p2 p3 p4 p5 n s) (fun y => k (.tup []) [(0, .box 103 [.list 106 ty106 y.1, .int .i64 y.2.1, .own 1002, .int .i64 y.2.2.1, .int .i64 y.2.2.2.1]), (1002, .row 36 ty36 y.2.2.2.2)])
  | 0, s => by cases s <;> rfl
  | n + 1, s => by rw [el60]; exact nt60 Ops.std c97 c60 c98 p0 p1 p2 p3 p4 p5 _ _ some (fun y => k (.tup []) [(0, .box 103 [.list 106 ty106 y.1, .int .i64 y.2.1, .own 1002, .int .i64 y.2.2.1, .int .i64 y.2.2.2.1]), (1002, .row 36 ty36 y.2.2.2.2)]) (rr60 c97 c60 c98 p0 p1 p2 p3 p4 p5 k n) (some s)
def F60 (c97 : List ty106.den → Int → Int → Int → List ty36.den → Option ((List ty106.den) × Int × Int × Int × (List ty36.den))) (c60 : Int → List ty106.den → Int → Int → Int → List ty36.den → Option ((List ty106.den) × Int × Int × Int × (List ty36.den))) (c98 : Int → List ty106.den → Int → Int → Int → List ty36.den → Option (Int × (List ty106.den) × Int × Int × Int × (List ty36.den))) (p0 : Int) (p1 : List ty106.den) (p2 : Int) (p3 : Int) (p4 : Int) (p5 : List ty36.den) : Option ((List ty106.den) × Int × Int × Int × (List ty36.den)) := T60 Ops.std c97 c60 c98 p0 p1 p2 p3 p4 p5 (R60 c97 c60 c98 p0 p1 p2 p3 p4 p5 1000000) some none
theorem fo60 {R : Type} (c97 : List ty106.den → Int → Int → Int → List ty36.den → Option ((List ty106.den) × Int × Int × Int × (List ty36.den))) (c60 : Int → List ty106.den → Int → Int → Int → List ty36.den → Option ((List ty106.den) × Int × Int × Int × (List ty36.den))) (c98 : Int → List ty106.den → Int → Int → Int → List ty36.den → Option (Int × (List ty106.den) × Int × Int × Int × (List ty36.den))) (p0 : Int) (p1 : List ty106.den) (p2 : Int) (p3 : Int) (p4 : Int) (p5 : List ty36.den) (k : AV → Objs → Option R) : afun tau Ops.std gl0 X60 (ent 97 (e97 c97) (ent 60 (e60 c60) (ent 98 (e98 c98) (gnil)))) ow Try.f60 [.c (.ptr 0 0), .c (.int .i64 p0)] [(0, .box 103 [.list 106 ty106 p1, .int .i64 p2, .own 1002, .int .i64 p3, .int .i64 p4]), (1002, .row 36 ty36 p5)] k 1000000 = ob (F60 c97 c60 c98 p0 p1 p2 p3 p4 p5) (fun y => k (.tup []) [(0, .box 103 [.list 106 ty106 y.1, .int .i64 y.2.1, .own 1002, .int .i64 y.2.2.1, .int .i64 y.2.2.2.1]), (1002, .row 36 ty36 y.2.2.2.2)]) := by rw [eq60]; exact nt60 Ops.std c97 c60 c98 p0 p1 p2 p3 p4 p5 _ _ some (fun y => k (.tup []) [(0, .box 103 [.list 106 ty106 y.1, .int .i64 y.2.1, .own 1002, .int .i64 y.2.2.1, .int .i64 y.2.2.2.1]), (1002, .row 36 ty36 y.2.2.2.2)]) (rr60 c97 c60 c98 p0 p1 p2 p3 p4 p5 k 1000000) none
theorem sf60 {c97 : List ty106.den → Int → Int → Int → List ty36.den → Option ((List ty106.den) × Int × Int × Int × (List ty36.den))} {c60 : Int → List ty106.den → Int → Int → Int → List ty36.den → Option ((List ty106.den) × Int × Int × Int × (List ty36.den))} {c98 : Int → List ty106.den → Int → Int → Int → List ty36.den → Option (Int × (List ty106.den) × Int × Int × Int × (List ty36.den))} (h97 : Sp97 c97) (h60 : Sp60 c60) (h98 : Sp98 c98) : Sp60 (F60 c97 c60 c98) := fun p0 p1 p2 p3 p4 p5 y hy => by
  refine spec_of (G := ent 97 (e97 c97) (ent 60 (e60 c60) (ent 98 (e98 c98) (gnil)))) (ent_ok (ek97 h97) (ent_ok (ek60 h60) (ent_ok (ek98 h98) (gnil_ok)))) 1000000 (fn := Try.f60) (by kernel_rfl) (by kernel_rfl) (X := X60) (by kernel_rfl) ?_
  rw [fo60, hy]
  rfl

/-! ### 97: (*lariat/lariatref13.reader).unary -/
def X97 : Aux := ⟨[(1000011, [1, 4, 5, 6, 7, 8, 9, 10, 11, 12, 13, 14, 15, 16, 17, 18, 19, 20, 21, 22, 23, 24, 25, 26, 27, 28, 29, 30, 31, 32, 33, 34, 35, 36, 37, 38, 39, 40, 41, 42, 43, 44, 45, 46, 47, 48, 49, 50, 51, 52, 53, 54, 55, 56, 57, 58, 59, 60, 61, 62, 63, 64, 65, 66, 67, 68, 69, 70, 71, 72, 73, 74, 75, 76, 77, 78, 79, 80, 81, 82, 83, 84, 85, 86, 87, 88, 89, 90, 91, 92, 93, 94, 95, 96, 97, 98, 99, 100, 101, 102, 103, 104, 105, 106, 107, 108, 109, 110, 111, 112, 113, 114, 115, 116, 117, 118, 119, 120, 121, 122, 123, 124, 125, 126, 127, 128, 129, 130, 131, 132, 133, 134, 135, 136, 137, 138, 139, 140, 141, 142, 143, 144, 145, 146, 147, 148, 149, 150, 151, 152, 153, 154, 155, 156, 157, 158, 159, 160, 161, 162, 163, 164, 165, 166, 167, 168, 169, 170, 171, 172, 173, 174, 175, 176, 177, 178, 179, 180, 181, 182, 183, 184, 185, 186, 187, 188, 189, 190, 191, 192, 193, 194, 195, 196, 197]), (1000021, [1, 2, 3, 4, 5, 6, 7, 8, 9, 10, 11, 12, 13, 14, 15, 16, 17, 18, 19, 20, 21, 22, 23, 24, 25, 26, 27, 28, 29, 30, 31, 32, 33, 34, 35, 36, 37, 38, 39, 40, 41, 42, 43, 44, 45, 46, 47, 48, 49, 50, 51, 52, 53, 54, 55, 56, 57, 58, 59, 60, 61, 62, 63, 64, 65, 66, 67, 68, 69, 70, 71, 72, 73, 74, 75, 76, 77, 78, 79, 80, 81, 82, 83, 84, 85, 86, 87, 88, 89, 90, 91, 92, 93, 94, 95, 96, 97, 98, 99, 100, 101, 102, 103, 104, 105, 106, 107, 108, 109, 110, 111, 112, 113, 114, 115, 116, 117, 118, 119, 120, 121, 122, 123, 124, 125, 126, 127, 128, 129, 130, 131, 132, 133, 134, 135, 136, 137, 138, 139, 140, 141, 142, 143, 144, 145, 146, 147, 148, 149, 150, 151, 152, 153, 154, 155, 156, 157, 158, 159, 160, 161, 162, 163, 164, 165, 166, 167, 168, 169, 170, 171, 172, 173, 174, 175, 176, 177, 178, 179, 180, 181, 182, 183, 184, 185, 186, 187, 188, 189, 190, 191, 192, 193, 194, 195, 196, 197]), (1000024, [1, 2, 3, 4, 5, 6, 7, 8, 9, 10, 11, 12, 13, 14, 15, 16, 17, 18, 19, 20, 21, 22, 23, 24, 25, 26, 27, 28, 29, 30, 31, 32, 33, 34, 35, 36, 37, 38, 39, 40, 41, 42, 43, 44, 45, 46, 47, 48, 49, 50, 51, 52, 53, 54, 55, 56, 57, 58, 59, 60, 61, 62, 63, 64, 65, 66, 67, 68, 69, 70, 71, 72, 73, 74, 75, 76, 77, 78, 79, 80, 81, 82, 83, 84, 85, 86, 87, 88, 89, 90, 91, 92, 93, 94, 95, 96, 97, 98, 99, 100, 101, 102, 103, 104, 105, 106, 107, 108, 109, 110, 111, 112, 113, 114, 115, 116, 117, 118, 119, 120, 121, 122, 123, 124, 125, 126, 127, 128, 129, 130, 131, 132, 133, 134, 135, 136, 137, 138, 139, 140, 141, 142, 143, 144, 145, 146, 147, 148, 149, 150, 151, 152, 153, 154, 155, 156, 157, 158, 159, 160, 161, 162, 163, 164, 165, 166, 167, 168, 169, 170, 171, 172, 173, 174, 175, 176, 177, 178, 179, 180, 181, 182, 183, 184, 185, 186, 187, 188, 189, 190, 191, 192, 193, 194, 195, 196, 197]), (1000028, [1, 2, 3, 5, 6, 7, 8, 9, 10, 11, 12, 13, 14, 15, 16, 17, 18, 19, 20, 21, 22, 23, 24, 25, 26, 27, 28, 29, 30, 31, 32, 33, 34, 35, 36, 37, 38, 39, 40, 41, 42, 43, 44, 45, 46, 47, 48, 49, 50, 51, 52, 53, 54, 55, 56, 57, 58, 59, 60, 61, 62, 63, 64, 65, 66, 67, 68, 69, 70, 71, 72, 73, 74, 75, 76, 77, 78, 79, 80, 81, 82, 83, 84, 85, 86, 87, 88, 89, 90, 91, 92, 93, 94, 95, 96, 97, 98, 99, 100, 101, 102, 103, 104, 105, 106, 107, 108, 109, 110, 111, 112, 113, 114, 115, 116, 117, 118, 119, 120, 121, 122, 123, 124, 125, 126, 127, 128, 129, 130, 131, 132, 133, 134, 135, 136, 137, 138, 139, 140, 141, 142, 143, 144, 145, 146, 147, 148, 149, 150, 151, 152, 153, 154, 155, 156, 157, 158, 159, 160, 161, 162, 163, 164, 165, 166, 167, 168, 169, 170, 171, 172, 173, 174, 175, 176, 177, 178, 179, 180, 181, 182, 183, 184, 185, 186, 187, 188, 189, 190, 191, 192, 193, 194, 195, 196, 197])], [(1, .lin [0, 1, 2, 3, 4, 5, 6, 7, 8, 9, 10, 11]), (28, .lin [0, 1, 2, 3, 4, 5, 6, 7, 8, 9, 10, 11, 12, 13, 14, 15, 16])]⟩
inductive S97 where
  | l1011 (v1011_0 : Int) (v1011_1 : List ty106.den) (v1011_2 : Int) (v1011_3 : Int) (v1011_4 : Int) (v1011_5 : Int) (v1011_6 : List UInt8) (v1011_7 : Int) (v1011_8 : Int) (v1011_9 : List ty36.den)
  | l1021 (v1021_0 : List ty106.den) (v1021_1 : Int) (v1021_2 : Int) (v1021_3 : Int) (v1021_4 : List ty36.den)
  | l1024 (v1024_0 : List ty106.den) (v1024_1 : Int) (v1024_2 : Int) (v1024_3 : Int) (v1024_4 : List ty36.den)
  | l1028 (v1028_0 : Int) (v1028_1 : List ty106.den) (v1028_2 : Int) (v1028_3 : Int) (v1028_4 : Int) (v1028_5 : List ty36.den)
def T97 {R : Type} (B : Ops) (c119 : List UInt8 → List ty106.den → Int → Int → Int → List ty36.den → Option (Bool × (List ty106.den) × Int × Int × Int × (List ty36.den))) (c97 : List ty106.den → Int → Int → Int → List ty36.den → Option ((List ty106.den) × Int × Int × Int × (List ty36.den))) (c60 : Int → List ty106.den → Int → Int → Int → List ty36.den → Option ((List ty106.den) × Int × Int × Int × (List ty36.den))) (c120 : List UInt8 → List ty106.den → Int → Int → Int → List ty36.den → Option ((List ty106.den) × Int × Int × Int × (List ty36.den))) (c121 : List ty106.den → Int → Option (Int × Int × (List ty97.den))) (c61 : Int → Int → List ty106.den → Int → Int → Int → List ty36.den → Option ((List ty106.den) × Int × Int × Int × (List ty36.den))) (p0 : List ty106.den) (p1 : Int) (p2 : Int) (p3 : Int) (p4 : List ty36.den) (again : S97 → Option R) (k : ((List ty106.den) × Int × Int × Int × (List ty36.den)) → Option R) : Option S97 → Option R
  | none =>
    cond (!Ops.eq B p2 (0))
     (
      k ((p0, p1, p2, p3, p4)))
     (
      cond (Ops.inb B p1 (List.length p0))
       (
        ob (c119 ([33] : List UInt8) p0 p1 p2 p3 p4) fun y0 =>
        cond (Prod.fst y0)
         (
          again (.l1011 4 (Prod.fst (Prod.snd y0)) (Prod.fst (Prod.snd (Prod.snd y0))) (Prod.fst (Prod.snd (Prod.snd (Prod.snd y0)))) (Prod.fst (Prod.snd (Prod.snd (Prod.snd (Prod.snd y0))))) (Prod.fst (List.getD p0 (Int.toNat p1) (Ty.dflt ty106))) (Prod.fst (Prod.snd (List.getD p0 (Int.toNat p1) (Ty.dflt ty106)))) (Prod.fst (Prod.snd (Prod.snd (List.getD p0 (Int.toNat p1) (Ty.dflt ty106))))) (Prod.snd (Prod.snd (Prod.snd (List.getD p0 (Int.toNat p1) (Ty.dflt ty106))))) (Prod.snd (Prod.snd (Prod.snd (Prod.snd (Prod.snd y0)))))))
         (
          cond (Ops.eq B (Prod.fst (List.getD p0 (Int.toNat p1) (Ty.dflt ty106))) (3))
           (
            cond (Prod.fst (Prod.snd (List.getD p0 (Int.toNat p1) (Ty.dflt ty106))) == ([88] : List UInt8))
             (
              again (.l1011 8 (Prod.fst (Prod.snd y0)) (Prod.fst (Prod.snd (Prod.snd y0))) (Prod.fst (Prod.snd (Prod.snd (Prod.snd y0)))) (Prod.fst (Prod.snd (Prod.snd (Prod.snd (Prod.snd y0))))) (Prod.fst (List.getD p0 (Int.toNat p1) (Ty.dflt ty106))) (Prod.fst (Prod.snd (List.getD p0 (Int.toNat p1) (Ty.dflt ty106)))) (Prod.fst (Prod.snd (Prod.snd (List.getD p0 (Int.toNat p1) (Ty.dflt ty106))))) (Prod.snd (Prod.snd (Prod.snd (List.getD p0 (Int.toNat p1) (Ty.dflt ty106))))) (Prod.snd (Prod.snd (Prod.snd (Prod.snd (Prod.snd y0)))))))
             (
              cond (Ops.eq B (Prod.fst (List.getD p0 (Int.toNat p1) (Ty.dflt ty106))) (3))
               (
                cond (Prod.fst (Prod.snd (List.getD p0 (Int.toNat p1) (Ty.dflt ty106))) == ([70] : List UInt8))
                 (
                  again (.l1011 11 (Prod.fst (Prod.snd y0)) (Prod.fst (Prod.snd (Prod.snd y0))) (Prod.fst (Prod.snd (Prod.snd (Prod.snd y0)))) (Prod.fst (Prod.snd (Prod.snd (Prod.snd (Prod.snd y0))))) (Prod.fst (List.getD p0 (Int.toNat p1) (Ty.dflt ty106))) (Prod.fst (Prod.snd (List.getD p0 (Int.toNat p1) (Ty.dflt ty106)))) (Prod.fst (Prod.snd (Prod.snd (List.getD p0 (Int.toNat p1) (Ty.dflt ty106))))) (Prod.snd (Prod.snd (Prod.snd (List.getD p0 (Int.toNat p1) (Ty.dflt ty106))))) (Prod.snd (Prod.snd (Prod.snd (Prod.snd (Prod.snd y0)))))))
                 (
                  cond (Ops.eq B (Prod.fst (List.getD p0 (Int.toNat p1) (Ty.dflt ty106))) (3))
                   (
                    cond (Prod.fst (Prod.snd (List.getD p0 (Int.toNat p1) (Ty.dflt ty106))) == ([71] : List UInt8))
                     (
                      again (.l1011 12 (Prod.fst (Prod.snd y0)) (Prod.fst (Prod.snd (Prod.snd y0))) (Prod.fst (Prod.snd (Prod.snd (Prod.snd y0)))) (Prod.fst (Prod.snd (Prod.snd (Prod.snd (Prod.snd y0))))) (Prod.fst (List.getD p0 (Int.toNat p1) (Ty.dflt ty106))) (Prod.fst (Prod.snd (List.getD p0 (Int.toNat p1) (Ty.dflt ty106)))) (Prod.fst (Prod.snd (Prod.snd (List.getD p0 (Int.toNat p1) (Ty.dflt ty106))))) (Prod.snd (Prod.snd (Prod.snd (List.getD p0 (Int.toNat p1) (Ty.dflt ty106))))) (Prod.snd (Prod.snd (Prod.snd (Prod.snd (Prod.snd y0)))))))
                     (
                      again (.l1011 0 (Prod.fst (Prod.snd y0)) (Prod.fst (Prod.snd (Prod.snd y0))) (Prod.fst (Prod.snd (Prod.snd (Prod.snd y0)))) (Prod.fst (Prod.snd (Prod.snd (Prod.snd (Prod.snd y0))))) (Prod.fst (List.getD p0 (Int.toNat p1) (Ty.dflt ty106))) (Prod.fst (Prod.snd (List.getD p0 (Int.toNat p1) (Ty.dflt ty106)))) (Prod.fst (Prod.snd (Prod.snd (List.getD p0 (Int.toNat p1) (Ty.dflt ty106))))) (Prod.snd (Prod.snd (Prod.snd (List.getD p0 (Int.toNat p1) (Ty.dflt ty106))))) (Prod.snd (Prod.snd (Prod.snd (Prod.snd (Prod.snd y0))))))))
                   (
                    again (.l1011 0 (Prod.fst (Prod.snd y0)) (Prod.fst (Prod.snd (Prod.snd y0))) (Prod.fst (Prod.snd (Prod.snd (Prod.snd y0)))) (Prod.fst (Prod.snd (Prod.snd (Prod.snd (Prod.snd y0))))) (Prod.fst (List.getD p0 (Int.toNat p1) (Ty.dflt ty106))) (Prod.fst (Prod.snd (List.getD p0 (Int.toNat p1) (Ty.dflt ty106)))) (Prod.fst (Prod.snd (Prod.snd (List.getD p0 (Int.toNat p1) (Ty.dflt ty106))))) (Prod.snd (Prod.snd (Prod.snd (List.getD p0 (Int.toNat p1) (Ty.dflt ty106))))) (Prod.snd (Prod.snd (Prod.snd (Prod.snd (Prod.snd y0)))))))))
               (
                cond (Ops.eq B (Prod.fst (List.getD p0 (Int.toNat p1) (Ty.dflt ty106))) (3))
                 (
                  cond (Prod.fst (Prod.snd (List.getD p0 (Int.toNat p1) (Ty.dflt ty106))) == ([71] : List UInt8))
                   (
                    again (.l1011 12 (Prod.fst (Prod.snd y0)) (Prod.fst (Prod.snd (Prod.snd y0))) (Prod.fst (Prod.snd (Prod.snd (Prod.snd y0)))) (Prod.fst (Prod.snd (Prod.snd (Prod.snd (Prod.snd y0))))) (Prod.fst (List.getD p0 (Int.toNat p1) (Ty.dflt ty106))) (Prod.fst (Prod.snd (List.getD p0 (Int.toNat p1) (Ty.dflt ty106)))) (Prod.fst (Prod.snd (Prod.snd (List.getD p0 (Int.toNat p1) (Ty.dflt ty106))))) (Prod.snd (Prod.snd (Prod.snd (List.getD p0 (Int.toNat p1) (Ty.dflt ty106))))) (Prod.snd (Prod.snd (Prod.snd (Prod.snd (Prod.snd y0)))))))
                   (
                    again (.l1011 0 (Prod.fst (Prod.snd y0)) (Prod.fst (Prod.snd (Prod.snd y0))) (Prod.fst (Prod.snd (Prod.snd (Prod.snd y0)))) (Prod.fst (Prod.snd (Prod.snd (Prod.snd (Prod.snd y0))))) (Prod.fst (List.getD p0 (Int.toNat p1) (Ty.dflt ty106))) (Prod.fst (Prod.snd (List.getD p0 (Int.toNat p1) (Ty.dflt ty106)))) (Prod.fst (Prod.snd (Prod.snd (List.getD p0 (Int.toNat p1) (Ty.dflt ty106))))) (Prod.snd (Prod.snd (Prod.snd (List.getD p0 (Int.toNat p1) (Ty.dflt ty106))))) (Prod.snd (Prod.snd (Prod.snd (Prod.snd (Prod.snd y0))))))))
                 (
                  again (.l1011 0 (Prod.fst (Prod.snd y0)) (Prod.fst (Prod.snd (Prod.snd y0))) (Prod.fst (Prod.snd (Prod.snd (Prod.snd y0)))) (Prod.fst (Prod.snd (Prod.snd (Prod.snd (Prod.snd y0))))) (Prod.fst (List.getD p0 (Int.toNat p1) (Ty.dflt ty106))) (Prod.fst (Prod.snd (List.getD p0 (Int.toNat p1) (Ty.dflt ty106)))) (Prod.fst (Prod.snd (Prod.snd (List.getD p0 (Int.toNat p1) (Ty.dflt ty106))))) (Prod.snd (Prod.snd (Prod.snd (List.getD p0 (Int.toNat p1) (Ty.dflt ty106))))) (Prod.snd (Prod.snd (Prod.snd (Prod.snd (Prod.snd y0))))))))))
           (
            cond (Ops.eq B (Prod.fst (List.getD p0 (Int.toNat p1) (Ty.dflt ty106))) (3))
             (
              cond (Prod.fst (Prod.snd (List.getD p0 (Int.toNat p1) (Ty.dflt ty106))) == ([70] : List UInt8))
               (
                again (.l1011 11 (Prod.fst (Prod.snd y0)) (Prod.fst (Prod.snd (Prod.snd y0))) (Prod.fst (Prod.snd (Prod.snd (Prod.snd y0)))) (Prod.fst (Prod.snd (Prod.snd (Prod.snd (Prod.snd y0))))) (Prod.fst (List.getD p0 (Int.toNat p1) (Ty.dflt ty106))) (Prod.fst (Prod.snd (List.getD p0 (Int.toNat p1) (Ty.dflt ty106)))) (Prod.fst (Prod.snd (Prod.snd (List.getD p0 (Int.toNat p1) (Ty.dflt ty106))))) (Prod.snd (Prod.snd (Prod.snd (List.getD p0 (Int.toNat p1) (Ty.dflt ty106))))) (Prod.snd (Prod.snd (Prod.snd (Prod.snd (Prod.snd y0)))))))
               (
                cond (Ops.eq B (Prod.fst (List.getD p0 (Int.toNat p1) (Ty.dflt ty106))) (3))
                 (
                  cond (Prod.fst (Prod.snd (List.getD p0 (Int.toNat p1) (Ty.dflt ty106))) == ([71] : List UInt8))
                   (
                    again (.l1011 12 (Prod.fst (Prod.snd y0)) (Prod.fst (Prod.snd (Prod.snd y0))) (Prod.fst (Prod.snd (Prod.snd (Prod.snd y0)))) (Prod.fst (Prod.snd (Prod.snd (Prod.snd (Prod.snd y0))))) (Prod.fst (List.getD p0 (Int.toNat p1) (Ty.dflt ty106))) (Prod.fst (Prod.snd (List.getD p0 (Int.toNat p1) (Ty.dflt ty106)))) (Prod.fst (Prod.snd (Prod.snd (List.getD p0 (Int.toNat p1) (Ty.dflt ty106))))) (Prod.snd (Prod.snd (Prod.snd (List.getD p0 (Int.toNat p1) (Ty.dflt ty106))))) (Prod.snd (Prod.snd (Prod.snd (Prod.snd (Prod.snd y0)))))))
                   (
                    again (.l1011 0 (Prod.fst (Prod.snd y0)) (Prod.fst (Prod.snd (Prod.snd y0))) (Prod.fst (Prod.snd (Prod.snd (Prod.snd y0)))) (Prod.fst (Prod.snd (Prod.snd (Prod.snd (Prod.snd y0))))) (Prod.fst (List.getD p0 (Int.toNat p1) (Ty.dflt ty106))) (Prod.fst (Prod.snd (List.getD p0 (Int.toNat p1) (Ty.dflt ty106)))) (Prod.fst (Prod.snd (Prod.snd (List.getD p0 (Int.toNat p1) (Ty.dflt ty106))))) (Prod.snd (Prod.snd (Prod.snd (List.getD p0 (Int.toNat p1) (Ty.dflt ty106))))) (Prod.snd (Prod.snd (Prod.snd (Prod.snd (Prod.snd y0))))))))
                 (
                  again (.l1011 0 (Prod.fst (Prod.snd y0)) (Prod.fst (Prod.snd (Prod.snd y0))) (Prod.fst (Prod.snd (Prod.snd (Prod.snd y0)))) (Prod.fst (Prod.snd (Prod.snd (Prod.snd (Prod.snd y0))))) (Prod.fst (List.getD p0 (Int.toNat p1) (Ty.dflt ty106))) (Prod.fst (Prod.snd (List.getD p0 (Int.toNat p1) (Ty.dflt ty106)))) (Prod.fst (Prod.snd (Prod.snd (List.getD p0 (Int.toNat p1) (Ty.dflt ty106))))) (Prod.snd (Prod.snd (Prod.snd (List.getD p0 (Int.toNat p1) (Ty.dflt ty106))))) (Prod.snd (Prod.snd (Prod.snd (Prod.snd (Prod.snd y0)))))))))
             (
              cond (Ops.eq B (Prod.fst (List.getD p0 (Int.toNat p1) (Ty.dflt ty106))) (3))
               (
                cond (Prod.fst (Prod.snd (List.getD p0 (Int.toNat p1) (Ty.dflt ty106))) == ([71] : List UInt8))
                 (
                  again (.l1011 12 (Prod.fst (Prod.snd y0)) (Prod.fst (Prod.snd (Prod.snd y0))) (Prod.fst (Prod.snd (Prod.snd (Prod.snd y0)))) (Prod.fst (Prod.snd (Prod.snd (Prod.snd (Prod.snd y0))))) (Prod.fst (List.getD p0 (Int.toNat p1) (Ty.dflt ty106))) (Prod.fst (Prod.snd (List.getD p0 (Int.toNat p1) (Ty.dflt ty106)))) (Prod.fst (Prod.snd (Prod.snd (List.getD p0 (Int.toNat p1) (Ty.dflt ty106))))) (Prod.snd (Prod.snd (Prod.snd (List.getD p0 (Int.toNat p1) (Ty.dflt ty106))))) (Prod.snd (Prod.snd (Prod.snd (Prod.snd (Prod.snd y0)))))))
                 (
                  again (.l1011 0 (Prod.fst (Prod.snd y0)) (Prod.fst (Prod.snd (Prod.snd y0))) (Prod.fst (Prod.snd (Prod.snd (Prod.snd y0)))) (Prod.fst (Prod.snd (Prod.snd (Prod.snd (Prod.snd y0))))) (Prod.fst (List.getD p0 (Int.toNat p1) (Ty.dflt ty106))) (Prod.fst (Prod.snd (List.getD p0 (Int.toNat p1) (Ty.dflt ty106)))) (Prod.fst (Prod.snd (Prod.snd (List.getD p0 (Int.toNat p1) (Ty.dflt ty106))))) (Prod.snd (Prod.snd (Prod.snd (List.getD p0 (Int.toNat p1) (Ty.dflt ty106))))) (Prod.snd (Prod.snd (Prod.snd (Prod.snd (Prod.snd y0))))))))
               (
                again (.l1011 0 (Prod.fst (Prod.snd y0)) (Prod.fst (Prod.snd (Prod.snd y0))) (Prod.fst (Prod.snd (Prod.snd (Prod.snd y0)))) (Prod.fst (Prod.snd (Prod.snd (Prod.snd (Prod.snd y0))))) (Prod.fst (List.getD p0 (Int.toNat p1) (Ty.dflt ty106))) (Prod.fst (Prod.snd (List.getD p0 (Int.toNat p1) (Ty.dflt ty106)))) (Prod.fst (Prod.snd (Prod.snd (List.getD p0 (Int.toNat p1) (Ty.dflt ty106))))) (Prod.snd (Prod.snd (Prod.snd (List.getD p0 (Int.toNat p1) (Ty.dflt ty106))))) (Prod.snd (Prod.snd (Prod.snd (Prod.snd (Prod.snd y0)))))))))))
       (
        none))
  | some (.l1011 v1011_0 v1011_1 v1011_2 v1011_3 v1011_4 v1011_5 v1011_6 v1011_7 v1011_8 v1011_9) =>
    cond (!Ops.eq B v1011_0 (0))
     (
      ob (c97 v1011_1 (IntKind.wrap IntKind.i64 (v1011_2 + 1)) v1011_3 v1011_4 v1011_9) fun y0 =>
      cond (Ops.lim B (List.length (Prod.snd (Prod.snd (Prod.snd (Prod.snd y0)))) + List.length ((v1011_0, mt (Ty.den (Ty.pair (Ty.int IntKind.i64) (Ty.pair (Ty.int IntKind.i64) (Ty.pair Ty.str Ty.str))))) :: mt (Ty.den (Ty.pair (Ty.int IntKind.i64) (Ty.list (97) (Ty.pair (Ty.int IntKind.i64) (Ty.pair (Ty.int IntKind.i64) (Ty.pair Ty.str Ty.str)))))))) (32))
       (
        k ((Prod.fst y0, Prod.fst (Prod.snd y0), Prod.fst (Prod.snd (Prod.snd y0)), Prod.fst (Prod.snd (Prod.snd (Prod.snd y0))), Prod.snd (Prod.snd (Prod.snd (Prod.snd y0))) ++ (v1011_0, mt (Ty.den (Ty.pair (Ty.int IntKind.i64) (Ty.pair (Ty.int IntKind.i64) (Ty.pair Ty.str Ty.str))))) :: mt (Ty.den (Ty.pair (Ty.int IntKind.i64) (Ty.list (97) (Ty.pair (Ty.int IntKind.i64) (Ty.pair (Ty.int IntKind.i64) (Ty.pair Ty.str Ty.str)))))))))
       (
        none))
     (
      cond (Ops.eq B v1011_5 (2))
       (
        cond (v1011_6 == ([116, 114, 117, 101] : List UInt8))
         (
          cond (Ops.lim B (List.length v1011_9 + List.length ((1, mt (Ty.den (Ty.pair (Ty.int IntKind.i64) (Ty.pair (Ty.int IntKind.i64) (Ty.pair Ty.str Ty.str))))) :: mt (Ty.den (Ty.pair (Ty.int IntKind.i64) (Ty.list (97) (Ty.pair (Ty.int IntKind.i64) (Ty.pair (Ty.int IntKind.i64) (Ty.pair Ty.str Ty.str)))))))) (32))
           (
            k ((v1011_1, IntKind.wrap IntKind.i64 (v1011_2 + 1), v1011_3, v1011_4, v1011_9 ++ (1, mt (Ty.den (Ty.pair (Ty.int IntKind.i64) (Ty.pair (Ty.int IntKind.i64) (Ty.pair Ty.str Ty.str))))) :: mt (Ty.den (Ty.pair (Ty.int IntKind.i64) (Ty.list (97) (Ty.pair (Ty.int IntKind.i64) (Ty.pair (Ty.int IntKind.i64) (Ty.pair Ty.str Ty.str)))))))))
           (
            none))
         (
          cond (Ops.eq B v1011_5 (2))
           (
            cond (v1011_6 == ([102, 97, 108, 115, 101] : List UInt8))
             (
              again (.l1021 v1011_1 (IntKind.wrap IntKind.i64 (v1011_2 + 1)) v1011_3 v1011_4 v1011_9))
             (
              ob (c119 ([40] : List UInt8) v1011_1 v1011_2 v1011_3 v1011_4 v1011_9) fun y0 =>
              cond (Prod.fst y0)
               (
                again (.l1024 (Prod.fst (Prod.snd y0)) (IntKind.wrap IntKind.i64 (Prod.fst (Prod.snd (Prod.snd y0)) + 1)) (Prod.fst (Prod.snd (Prod.snd (Prod.snd y0)))) (Prod.fst (Prod.snd (Prod.snd (Prod.snd (Prod.snd y0))))) (Prod.snd (Prod.snd (Prod.snd (Prod.snd (Prod.snd y0)))))))
               (
                ob (c119 ([91] : List UInt8) (Prod.fst (Prod.snd y0)) (Prod.fst (Prod.snd (Prod.snd y0))) (Prod.fst (Prod.snd (Prod.snd (Prod.snd y0)))) (Prod.fst (Prod.snd (Prod.snd (Prod.snd (Prod.snd y0))))) (Prod.snd (Prod.snd (Prod.snd (Prod.snd (Prod.snd y0)))))) fun y1 =>
                cond (Prod.fst y1)
                 (
                  again (.l1028 (Prod.fst (Prod.snd (Prod.snd y1))) (Prod.fst (Prod.snd y1)) (Prod.fst (Prod.snd (Prod.snd y1))) (Prod.fst (Prod.snd (Prod.snd (Prod.snd y1)))) (Prod.fst (Prod.snd (Prod.snd (Prod.snd (Prod.snd y1))))) (Prod.snd (Prod.snd (Prod.snd (Prod.snd (Prod.snd y1)))))))
                 (
                  ob (c61 (2) (Prod.fst (Prod.snd (Prod.snd y1))) (Prod.fst (Prod.snd y1)) (Prod.fst (Prod.snd (Prod.snd y1))) (Prod.fst (Prod.snd (Prod.snd (Prod.snd y1)))) (Prod.fst (Prod.snd (Prod.snd (Prod.snd (Prod.snd y1))))) (Prod.snd (Prod.snd (Prod.snd (Prod.snd (Prod.snd y1)))))) fun y2 =>
                  k ((Prod.fst y2, Prod.fst (Prod.snd y2), Prod.fst (Prod.snd (Prod.snd y2)), Prod.fst (Prod.snd (Prod.snd (Prod.snd y2))), Prod.snd (Prod.snd (Prod.snd (Prod.snd y2)))))))))
           (
            ob (c119 ([40] : List UInt8) v1011_1 v1011_2 v1011_3 v1011_4 v1011_9) fun y0 =>
            cond (Prod.fst y0)
             (
              again (.l1024 (Prod.fst (Prod.snd y0)) (IntKind.wrap IntKind.i64 (Prod.fst (Prod.snd (Prod.snd y0)) + 1)) (Prod.fst (Prod.snd (Prod.snd (Prod.snd y0)))) (Prod.fst (Prod.snd (Prod.snd (Prod.snd (Prod.snd y0))))) (Prod.snd (Prod.snd (Prod.snd (Prod.snd (Prod.snd y0)))))))
             (
              ob (c119 ([91] : List UInt8) (Prod.fst (Prod.snd y0)) (Prod.fst (Prod.snd (Prod.snd y0))) (Prod.fst (Prod.snd (Prod.snd (Prod.snd y0)))) (Prod.fst (Prod.snd (Prod.snd (Prod.snd (Prod.snd y0))))) (Prod.snd (Prod.snd (Prod.snd (Prod.snd (Prod.snd y0)))))) fun y1 =>
              cond (Prod.fst y1)
               (
                again (.l1028 (Prod.fst (Prod.snd (Prod.snd y1))) (Prod.fst (Prod.snd y1)) (Prod.fst (Prod.snd (Prod.snd y1))) (Prod.fst (Prod.snd (Prod.snd (Prod.snd y1)))) (Prod.fst (Prod.snd (Prod.snd (Prod.snd (Prod.snd y1))))) (Prod.snd (Prod.snd (Prod.snd (Prod.snd (Prod.snd y1)))))))
               (
                ob (c61 (2) (Prod.fst (Prod.snd (Prod.snd y1))) (Prod.fst (Prod.snd y1)) (Prod.fst (Prod.snd (Prod.snd y1))) (Prod.fst (Prod.snd (Prod.snd (Prod.snd y1)))) (Prod.fst (Prod.snd (Prod.snd (Prod.snd (Prod.snd y1))))) (Prod.snd (Prod.snd (Prod.snd (Prod.snd (Prod.snd y1)))))) fun y2 =>
                k ((Prod.fst y2, Prod.fst (Prod.snd y2), Prod.fst (Prod.snd (Prod.snd y2)), Prod.fst (Prod.snd (Prod.snd (Prod.snd y2))), Prod.snd (Prod.snd (Prod.snd (Prod.snd y2))))))))))
       (
        cond (Ops.eq B v1011_5 (2))
         (
          cond (v1011_6 == ([102, 97, 108, 115, 101] : List UInt8))
           (
            again (.l1021 v1011_1 (IntKind.wrap IntKind.i64 (v1011_2 + 1)) v1011_3 v1011_4 v1011_9))
           (
            ob (c119 ([40] : List UInt8) v1011_1 v1011_2 v1011_3 v1011_4 v1011_9) fun y0 =>
            cond (Prod.fst y0)
             (
              again (.l1024 (Prod.fst (Prod.snd y0)) (IntKind.wrap IntKind.i64 (Prod.fst (Prod.snd (Prod.snd y0)) + 1)) (Prod.fst (Prod.snd (Prod.snd (Prod.snd y0)))) (Prod.fst (Prod.snd (Prod.snd (Prod.snd (Prod.snd y0))))) (Prod.snd (Prod.snd (Prod.snd (Prod.snd (Prod.snd y0)))))))
             (
              ob (c119 ([91] : List UInt8) (Prod.fst (Prod.snd y0)) (Prod.fst (Prod.snd (Prod.snd y0))) (Prod.fst (Prod.snd (Prod.snd (Prod.snd y0)))) (Prod.fst (Prod.snd (Prod.snd (Prod.snd (Prod.snd y0))))) (Prod.snd (Prod.snd (Prod.snd (Prod.snd (Prod.snd y0)))))) fun y1 =>
              cond (Prod.fst y1)
               (
                again (.l1028 (Prod.fst (Prod.snd (Prod.snd y1))) (Prod.fst (Prod.snd y1)) (Prod.fst (Prod.snd (Prod.snd y1))) (Prod.fst (Prod.snd (Prod.snd (Prod.snd y1)))) (Prod.fst (Prod.snd (Prod.snd (Prod.snd (Prod.snd y1))))) (Prod.snd (Prod.snd (Prod.snd (Prod.snd (Prod.snd y1)))))))
               (
                ob (c61 (2) (Prod.fst (Prod.snd (Prod.snd y1))) (Prod.fst (Prod.snd y1)) (Prod.fst (Prod.snd (Prod.snd y1))) (Prod.fst (Prod.snd (Prod.snd (Prod.snd y1)))) (Prod.fst (Prod.snd (Prod.snd (Prod.snd (Prod.snd y1))))) (Prod.snd (Prod.snd (Prod.snd (Prod.snd (Prod.snd y1)))))) fun y2 =>
                k ((Prod.fst y2, Prod.fst (Prod.snd y2), Prod.fst (Prod.snd (Prod.snd y2)), Prod.fst (Prod.snd (Prod.snd (Prod.snd y2))), Prod.snd (Prod.snd (Prod.snd (Prod.snd y2)))))))))
         (
          ob (c119 ([40] : List UInt8) v1011_1 v1011_2 v1011_3 v1011_4 v1011_9) fun y0 =>
          cond (Prod.fst y0)
           (
            again (.l1024 (Prod.fst (Prod.snd y0)) (IntKind.wrap IntKind.i64 (Prod.fst (Prod.snd (Prod.snd y0)) + 1)) (Prod.fst (Prod.snd (Prod.snd (Prod.snd y0)))) (Prod.fst (Prod.snd (Prod.snd (Prod.snd (Prod.snd y0))))) (Prod.snd (Prod.snd (Prod.snd (Prod.snd (Prod.snd y0)))))))
           (
            ob (c119 ([91] : List UInt8) (Prod.fst (Prod.snd y0)) (Prod.fst (Prod.snd (Prod.snd y0))) (Prod.fst (Prod.snd (Prod.snd (Prod.snd y0)))) (Prod.fst (Prod.snd (Prod.snd (Prod.snd (Prod.snd y0))))) (Prod.snd (Prod.snd (Prod.snd (Prod.snd (Prod.snd y0)))))) fun y1 =>
            cond (Prod.fst y1)
             (
              again (.l1028 (Prod.fst (Prod.snd (Prod.snd y1))) (Prod.fst (Prod.snd y1)) (Prod.fst (Prod.snd (Prod.snd y1))) (Prod.fst (Prod.snd (Prod.snd (Prod.snd y1)))) (Prod.fst (Prod.snd (Prod.snd (Prod.snd (Prod.snd y1))))) (Prod.snd (Prod.snd (Prod.snd (Prod.snd (Prod.snd y1)))))))
             (
              ob (c61 (2) (Prod.fst (Prod.snd (Prod.snd y1))) (Prod.fst (Prod.snd y1)) (Prod.fst (Prod.snd (Prod.snd y1))) (Prod.fst (Prod.snd (Prod.snd (Prod.snd y1)))) (Prod.fst (Prod.snd (Prod.snd (Prod.snd (Prod.snd y1))))) (Prod.snd (Prod.snd (Prod.snd (Prod.snd (Prod.snd y1)))))) fun y2 =>
              k ((Prod.fst y2, Prod.fst (Prod.snd y2), Prod.fst (Prod.snd (Prod.snd y2)), Prod.fst (Prod.snd (Prod.snd (Prod.snd y2))), Prod.snd (Prod.snd (Prod.snd (Prod.snd y2))))))))))
  | some (.l1021 v1021_0 v1021_1 v1021_2 v1021_3 v1021_4) =>
    cond (Ops.lim B (List.length v1021_4 + List.length ((2, mt (Ty.den (Ty.pair (Ty.int IntKind.i64) (Ty.pair (Ty.int IntKind.i64) (Ty.pair Ty.str Ty.str))))) :: mt (Ty.den (Ty.pair (Ty.int IntKind.i64) (Ty.list (97) (Ty.pair (Ty.int IntKind.i64) (Ty.pair (Ty.int IntKind.i64) (Ty.pair Ty.str Ty.str)))))))) (32))
     (
      k ((v1021_0, v1021_1, v1021_2, v1021_3, v1021_4 ++ (2, mt (Ty.den (Ty.pair (Ty.int IntKind.i64) (Ty.pair (Ty.int IntKind.i64) (Ty.pair Ty.str Ty.str))))) :: mt (Ty.den (Ty.pair (Ty.int IntKind.i64) (Ty.list (97) (Ty.pair (Ty.int IntKind.i64) (Ty.pair (Ty.int IntKind.i64) (Ty.pair Ty.str Ty.str)))))))))
     (
      none)
  | some (.l1024 v1024_0 v1024_1 v1024_2 v1024_3 v1024_4) =>
    ob (c60 (1) v1024_0 v1024_1 v1024_2 v1024_3 v1024_4) fun y0 =>
    ob (c120 ([41] : List UInt8) (Prod.fst y0) (Prod.fst (Prod.snd y0)) (Prod.fst (Prod.snd (Prod.snd y0))) (Prod.fst (Prod.snd (Prod.snd (Prod.snd y0)))) (Prod.snd (Prod.snd (Prod.snd (Prod.snd y0))))) fun y1 =>
    k ((Prod.fst y1, Prod.fst (Prod.snd y1), Prod.fst (Prod.snd (Prod.snd y1)), Prod.fst (Prod.snd (Prod.snd (Prod.snd y1))), Prod.snd (Prod.snd (Prod.snd (Prod.snd y1)))))
  | some (.l1028 v1028_0 v1028_1 v1028_2 v1028_3 v1028_4 v1028_5) =>
    ob (c121 v1028_1 (IntKind.wrap IntKind.i64 (v1028_2 + 1))) fun y0 =>
    cond (Ops.eq B (Prod.fst (Prod.snd y0)) (13))
     (
      ob (c61 (Prod.fst (Prod.snd y0)) v1028_0 v1028_1 v1028_2 v1028_3 v1028_4 v1028_5) fun y1 =>
      k ((Prod.fst y1, Prod.fst (Prod.snd y1), Prod.fst (Prod.snd (Prod.snd y1)), Prod.fst (Prod.snd (Prod.snd (Prod.snd y1))), Prod.snd (Prod.snd (Prod.snd (Prod.snd y1))))))
     (
      cond (Ops.eq B (Prod.fst (Prod.snd y0)) (2))
       (
        ob (c61 (Prod.fst (Prod.snd y0)) (Prod.fst y0) v1028_1 v1028_2 v1028_3 v1028_4 v1028_5) fun y1 =>
        k ((Prod.fst y1, Prod.fst (Prod.snd y1), Prod.fst (Prod.snd (Prod.snd y1)), Prod.fst (Prod.snd (Prod.snd (Prod.snd y1))), Prod.snd (Prod.snd (Prod.snd (Prod.snd y1))))))
       (
        cond (Ops.lim B (List.length v1028_5 + List.length ((3, Prod.snd (Prod.snd y0)) :: mt (Ty.den (Ty.pair (Ty.int IntKind.i64) (Ty.list (97) (Ty.pair (Ty.int IntKind.i64) (Ty.pair (Ty.int IntKind.i64) (Ty.pair Ty.str Ty.str)))))))) (32))
         (
          ob (c120 ([93] : List UInt8) v1028_1 (Prod.fst y0) v1028_3 v1028_4 (v1028_5 ++ (3, Prod.snd (Prod.snd y0)) :: mt (Ty.den (Ty.pair (Ty.int IntKind.i64) (Ty.list (97) (Ty.pair (Ty.int IntKind.i64) (Ty.pair (Ty.int IntKind.i64) (Ty.pair Ty.str Ty.str)))))))) fun y1 =>
          k ((Prod.fst y1, Prod.fst (Prod.snd y1), Prod.fst (Prod.snd (Prod.snd y1)), Prod.fst (Prod.snd (Prod.snd (Prod.snd y1))), Prod.snd (Prod.snd (Prod.snd (Prod.snd y1))))))
         (
          none)))
def E97 (p0 : List ty106.den) (p1 : Int) (p2 : Int) (p3 : Int) (p4 : List ty36.den) : S97 → List AV × Objs
  | .l1011 v1011_0 v1011_1 v1011_2 v1011_3 v1011_4 v1011_5 v1011_6 v1011_7 v1011_8 v1011_9 => (mk 198 [(0, .c (.ptr 0 0)), (2, .c (.ptr 2 0)), (3, .c (.int .i64 v1011_0))], [(0, .box 103 [.list 106 ty106 v1011_1, .int .i64 v1011_2, .own 1002, .int .i64 v1011_3, .int .i64 v1011_4]), (2, .box 106 [.int .i64 v1011_5, .str v1011_6, .int .i64 v1011_7, .int .i64 v1011_8]), (1002, .row 36 ty36 v1011_9)])
  | .l1021 v1021_0 v1021_1 v1021_2 v1021_3 v1021_4 => (mk 198 [(0, .c (.ptr 0 0))], [(0, .box 103 [.list 106 ty106 v1021_0, .int .i64 v1021_1, .own 1002, .int .i64 v1021_2, .int .i64 v1021_3]), (1002, .row 36 ty36 v1021_4)])
  | .l1024 v1024_0 v1024_1 v1024_2 v1024_3 v1024_4 => (mk 198 [(0, .c (.ptr 0 0))], [(0, .box 103 [.list 106 ty106 v1024_0, .int .i64 v1024_1, .own 1002, .int .i64 v1024_2, .int .i64 v1024_3]), (1002, .row 36 ty36 v1024_4)])
  | .l1028 v1028_0 v1028_1 v1028_2 v1028_3 v1028_4 v1028_5 => (mk 198 [(0, .c (.ptr 0 0)), (4, .c (.int .i64 v1028_0))], [(0, .box 103 [.list 106 ty106 v1028_1, .int .i64 v1028_2, .own 1002, .int .i64 v1028_3, .int .i64 v1028_4]), (1002, .row 36 ty36 v1028_5)])
def I97 : S97 → Nat
  | .l1011 _ _ _ _ _ _ _ _ _ _ => 1011
  | .l1021 _ _ _ _ _ => 1021
  | .l1024 _ _ _ _ _ => 1024
  | .l1028 _ _ _ _ _ _ => 1028
theorem eq97 {R : Type} (B : Ops) (c119 : List UInt8 → List ty106.den → Int → Int → Int → List ty36.den → Option (Bool × (List ty106.den) × Int × Int × Int × (List ty36.den))) (c97 : List ty106.den → Int → Int → Int → List ty36.den → Option ((List ty106.den) × Int × Int × Int × (List ty36.den))) (c60 : Int → List ty106.den → Int → Int → Int → List ty36.den → Option ((List ty106.den) × Int × Int × Int × (List ty36.den))) (c120 : List UInt8 → List ty106.den → Int → Int → Int → List ty36.den → Option ((List ty106.den) × Int × Int × Int × (List ty36.den))) (c121 : List ty106.den → Int → Option (Int × Int × (List ty97.den))) (c61 : Int → Int → List ty106.den → Int → Int → Int → List ty36.den → Option ((List ty106.den) × Int × Int × Int × (List ty36.den))) (p0 : List ty106.den) (p1 : Int) (p2 : Int) (p3 : Int) (p4 : List ty36.den) (k : AV → Objs → Option R) (n : Nat) : afun tau B gl0 X97 (ent 119 (e119 c119) (ent 97 (e97 c97) (ent 60 (e60 c60) (ent 120 (e120 c120) (ent 121 (e121 c121) (ent 61 (e61 c61) (gnil))))))) ow Try.f97 [.c (.ptr 0 0)] [(0, .box 103 [.list 106 ty106 p0, .int .i64 p1, .own 1002, .int .i64 p2, .int .i64 p3]), (1002, .row 36 ty36 p4)] k n = T97 B c119 c97 c60 c120 c121 c61 p0 p1 p2 p3 p4 (fun s => aloop tau B gl0 X97 (ent 119 (e119 c119) (ent 97 (e97 c97) (ent 60 (e60 c60) (ent 120 (e120 c120) (ent 121 (e121 c121) (ent 61 (e61 c61) (gnil))))))) ow [0] Try.f97 k (I97 s) (E97 p0 p1 p2 p3 p4 s) n) (fun y => k (.tup []) [(0, .box 103 [.list 106 ty106 y.1, .int .i64 y.2.1, .own 1002, .int .i64 y.2.2.1, .int .i64 y.2.2.2.1]), (1002, .row 36 ty36 y.2.2.2.2)]) none := by kernel_rfl
theorem el97 {R : Type} (B : Ops) (c119 : List UInt8 → List ty106.den → Int → Int → Int → List ty36.den → Option (Bool × (List ty106.den) × Int × Int × Int × (List ty36.den))) (c97 : List ty106.den → Int → Int → Int → List ty36.den → Option ((List ty106.den) × Int × Int × Int × (List ty36.den))) (c60 : Int → List ty106.den → Int → Int → Int → List ty36.den → Option ((List ty106.den) × Int × Int × Int × (List ty36.den))) (c120 : List UInt8 → List ty106.den → Int → Int → Int → List ty36.den → Option ((List ty106.den) × Int × Int × Int × (List ty36.den))) (c121 : List ty106.den → Int → Option (Int × Int × (List ty97.den))) (c61 : Int → Int → List ty106.den → Int → Int → Int → List ty36.den → Option ((List ty106.den) × Int × Int × Int × (List ty36.den))) (p0 : List ty106.den) (p1 : Int) (p2 : Int) (p3 : Int) (p4 : List ty36.den) (k : AV → Objs → Option R) (n : Nat) : ∀ s, aloop tau B gl0 X97 (ent 119 (e119 c119) (ent 97 (e97 c97) (ent 60 (e60 c60) (ent 120 (e120 c120) (ent 121 (e121 c121) (ent 61 (e61 c61) (gnil))))))) ow [0] Try.f97 k (I97 s) (E97 p0 p1 p2 p3 p4 s) (n + 1) = T97 B c119 c97 c60 c120 c121 c61 p0 p1 p2 p3 p4 (fun s => aloop tau B gl0 X97 (ent 119 (e119 c119) (ent 97 (e97 c97) (ent 60 (e60 c60) (ent 120 (e120 c120) (ent 121 (e121 c121) (ent 61 (e61 c61) (gnil))))))) ow [0] Try.f97 k (I97 s) (E97 p0 p1 p2 p3 p4 s) n) (fun y => k (.tup []) [(0, .box 103 [.list 106 ty106 y.1, .int .i64 y.2.1, .own 1002, .int .i64 y.2.2.1, .int .i64 y.2.2.2.1]), (1002, .row 36 ty36 y.2.2.2.2)]) (some s)
  | .l1011 v1011_0 v1011_1 v1011_2 v1011_3 v1011_4 v1011_5 v1011_6 v1011_7 v1011_8 v1011_9 => by kernel_rfl
  | .l1021 v1021_0 v1021_1 v1021_2 v1021_3 v1021_4 => by kernel_rfl
  | .l1024 v1024_0 v1024_1 v1024_2 v1024_3 v1024_4 => by kernel_rfl
  | .l1028 v1028_0 v1028_1 v1028_2 v1028_3 v1028_4 v1028_5 => by kernel_rfl
theorem nt97 {R R' : Type} (B : Ops) (c119 : List UInt8 → List ty106.den → Int → Int → Int → List ty36.den → Option (Bool × (List ty106.den) × Int × Int × Int × (List ty36.den))) (c97 : List ty106.den → Int → Int → Int → List ty36.den → Option ((List ty106.den) × Int × Int × Int × (List ty36.den))) (c60 : Int → List ty106.den → Int → Int → Int → List ty36.den → Option ((List ty106.den) × Int × Int × Int × (List ty36.den))) (c120 : List UInt8 → List ty106.den → Int → Int → Int → List ty36.den → Option ((List ty106.den) × Int × Int × Int × (List ty36.den))) (c121 : List ty106.den → Int → Option (Int × Int × (List ty97.den))) (c61 : Int → Int → List ty106.den → Int → Int → Int → List ty36.den → Option ((List ty106.den) × Int × Int × Int × (List ty36.den))) (p0 : List ty106.den) (p1 : Int) (p2 : Int) (p3 : Int) (p4 : List ty36.den) (again : S97 → Option R) (again' : S97 → Option R') (k0 : ((List ty106.den) × Int × Int × Int × (List ty36.den)) → Option R') (k : R' → Option R) (h : ∀ s, again s = ob (again' s) k) : ∀ s, T97 B c119 c97 c60 c120 c121 c61 p0 p1 p2 p3 p4 again (fun y => ob (k0 y) k) s = ob (T97 B c119 c97 c60 c120 c121 c61 p0 p1 p2 p3 p4 again' k0 s) k
  | none => by unfold T97; repeat' first | exact rfl | exact h _ | apply nat_cond | (apply nat_ob; intro)
  | some (.l1011 v1011_0 v1011_1 v1011_2 v1011_3 v1011_4 v1011_5 v1011_6 v1011_7 v1011_8 v1011_9) => by unfold T97; repeat' first | exact rfl | exact h _ | apply nat_cond | (apply nat_ob; intro)
  | some (.l1021 v1021_0 v1021_1 v1021_2 v1021_3 v1021_4) => by unfold T97; repeat' first | exact rfl | exact h _ | apply nat_cond | (apply nat_ob; intro)
  | some (.l1024 v1024_0 v1024_1 v1024_2 v1024_3 v1024_4) => by unfold T97; repeat' first | exact rfl | exact h _ | apply nat_cond | (apply nat_ob; intro)
  | some (.l1028 v1028_0 v1028_1 v1028_2 v1028_3 v1028_4 v1028_5) => by unfold T97; repeat' first | exact rfl | exact h _ | apply nat_cond | (apply nat_ob; intro)
def R97 (c119 : List UInt8 → List ty106.den → Int → Int → Int → List ty36.den → Option (Bool × (List ty106.den) × Int × Int × Int × (List ty36.den))) (c97 : List ty106.den → Int → Int → Int → List ty36.den → Option ((List ty106.den) × Int × Int × Int × (List ty36.den))) (c60 : Int → List ty106.den → Int → Int → Int → List ty36.den → Option ((List ty106.den) × Int × Int × Int × (List ty36.den))) (c120 : List UInt8 → List ty106.den → Int → Int → Int → List ty36.den → Option ((List ty106.den) × Int × Int × Int × (List ty36.den))) (c121 : List ty106.den → Int → Option (Int × Int × (List ty97.den))) (c61 : Int → Int → List ty106.den → Int → Int → Int → List ty36.den → Option ((List ty106.den) × Int × Int × Int × (List ty36.den))) (p0 : List ty106.den) (p1 : Int) (p2 : Int) (p3 : Int) (p4 : List ty36.den) : Nat → S97 → Option ((List ty106.den) × Int × Int × Int × (List ty36.den))
  | 0, _ => none
  | n + 1, s => T97 Ops.std c119 c97 c60 c120 c121 c61 p0 p1 p2 p3 p4 (R97 c119 c97 c60 c120 c121 c61 p0 p1 p2 p3 p4 n) some (some s)
theorem rr97 {R : Type} (c119 : List UInt8 → List ty106.den → Int → Int → Int → List ty36.den → Option (Bool × (List ty106.den) × Int × Int × Int × (List ty36.den))) (c97 : List ty106.den → Int → Int → Int → List ty36.den → Option ((List ty106.den) × Int × Int × Int × (List ty36.den))) (c60 : Int → List ty106.den → Int → Int → Int → List ty36.den → Option ((List ty106.den) × Int × Int × Int × (List ty36.den))) (c120 : List UInt8 → List ty106.den → Int → Int → Int → List ty36.den → Option ((List ty106.den) × Int × Int × Int × (List ty36.den))) (c121 : List ty106.den → Int → Option (Int × Int × (List ty97.den))) (c61 : Int → Int → List ty106.den → Int → Int → Int → List ty36.den → Option ((List ty106.den) × Int × Int × Int × (List ty36.den))) (p0 : List ty106.den) (p1 : Int) (p2 : Int) (p3 : Int) (p4 : List ty36.den) (k : AV → Objs → Option R) : ∀ (n : Nat) (s : S97), aloop tau Ops.std gl0 X97 (ent 119 (e119 c119) (ent 97 (e97 c97) (ent 60 (e60 c60) (ent 120 (e120 c120) (ent 121 (e121 c121) (ent 61 (e61 c61) (gnil))))))) ow [0] Try.f97 k (I97 s) (E97 p0 p1 p2 p3 p4 s) n = ob (R97 c119 c97 c60 c120 c121 c61 p0 p1 p2 p3 p4 n s) (fun y => k (.tup []) [(0, .box 103 [.list 106 ty106 y.1, .int .i64 y.2.1, .own 1002, .int .i64 y.2.2.1, .int .i64 y.2.2.2.1]), (1002, .row 36 ty36 y.2.2.2.2)])
  | 0, s => by cases s <;> rfl
  | n + 1, s => by rw [el97]; exact nt97 Ops.std c119 c97 c60 c120 c121 c61 p0 p1 p2 p3 p4 _ _ some (fun y => k (.tup []) [(0, .box 103 [.list 106 ty106 y.1, .int .i64 y.2.1, .own 1002, .int .i64 y.2.2.1, .int .i64 y.2.2.2.1]), (1002, .row 36 ty36 y.2.2.2.2)]) (rr97 c119 c97 c60 c120 c121 c61 p0 p1 p2 p3 p4 k n) (some s)
def F97 (c119 : List UInt8 → List ty106.den → Int → Int → Int → List ty36.den → Option (Bool × (List ty106.den) × Int × Int × Int × (List ty36.den))) (c97 : List ty106.den → Int → Int → Int → List ty36.den → Option ((List ty106.den) × Int × Int × Int × (List ty36.den))) (c60 : Int → List ty106.den → Int → Int → Int → List ty36.den → Option ((List ty106.den) × Int × Int × Int × (List ty36.den))) (c120 : List UInt8 → List ty106.den → Int → Int → Int → List ty36.den → Option ((List ty106.den) × Int × Int × Int × (List ty36.den))) (c121 : List ty106.den → Int → Option (Int × Int × (List ty97.den))) (c61 : Int → Int → List ty106.den → Int → Int → Int → List ty36.den → Option ((List ty106.den) × Int × Int × Int × (List ty36.den))) (p0 : List ty106.den) (p1 : Int) (p2 : Int) (p3 : Int) (p4 : List ty36.den) : Option ((List ty106.den) × Int × Int × Int × (List ty36.den)) := T97 Ops.std c119 c97 c60 c120 c121 c61 p0 p1 p2 p3 p4 (R97 c119 c97 c60 c120 c121 c61 p0 p1 p2 p3 p4 1000000) some none
theorem fo97 {R : Type} (c119 : List UInt8 → List ty106.den → Int → Int → Int → List ty36.den → Option (Bool × (List ty106.den) × Int × Int × Int × (List ty36.den))) (c97 : List ty106.den → Int → Int → Int → List ty36.den → Option ((List ty106.den) × Int × Int × Int × (List ty36.den))) (c60 : Int → List ty106.den → Int → Int → Int → List ty36.den → Option ((List ty106.den) × Int × Int × Int × (List ty36.den))) (c120 : List UInt8 → List ty106.den → Int → Int → Int → List ty36.den → Option ((List ty106.den) × Int × Int × Int × (List ty36.den))) (c121 : List ty106.den → Int → Option (Int × Int × (List ty97.den))) (c61 : Int → Int → List ty106.den → Int → Int → Int → List ty36.den → Option ((List ty106.den) × Int × Int × Int × (List ty36.den))) (p0 : List ty106.den) (p1 : Int) (p2 : Int) (p3 : Int) (p4 : List ty36.den) (k : AV → Objs → Option R) : afun tau Ops.std gl0 X97 (ent 119 (e119 c119) (ent 97 (e97 c97) (ent 60 (e60 c60) (ent 120 (e120 c120) (ent 121 (e121 c121) (ent 61 (e61 c61) (gnil))))))) ow Try.f97 [.c (.ptr 0 0)] [(0, .box 103 [.list 106 ty106 p0, .int .i64 p1, .own 1002, .int .i64 p2, .int .i64 p3]), (1002, .row 36 ty36 p4)] k 1000000 = ob (F97 c119 c97 c60 c120 c121 c61 p0 p1 p2 p3 p4) (fun y => k (.tup []) [(0, .box 103 [.list 106 ty106 y.1, .int .i64 y.2.1, .own 1002, .int .i64 y.2.2.1, .int .i64 y.2.2.2.1]), (1002, .row 36 ty36 y.2.2.2.2)]) := by rw [eq97]; exact nt97 Ops.std c119 c97 c60 c120 c121 c61 p0 p1 p2 p3 p4 _ _ some (fun y => k (.tup []) [(0, .box 103 [.list 106 ty106 y.1, .int .i64 y.2.1, .own 1002, .int .i64 y.2.2.1, .int .i64 y.2.2.2.1]), (1002, .row 36 ty36 y.2.2.2.2)]) (rr97 c119 c97 c60 c120 c121 c61 p0 p1 p2 p3 p4 k 1000000) none
theorem sf97 {c119 : List UInt8 → List ty106.den → Int → Int → Int → List ty36.den → Option (Bool × (List ty106.den) × Int × Int × Int × (List ty36.den))} {c97 : List ty106.den → Int → Int → Int → List ty36.den → Option ((List ty106.den) × Int × Int × Int × (List ty36.den))} {c60 : Int → List ty106.den → Int → Int → Int → List ty36.den → Option ((List ty106.den) × Int × Int × Int × (List ty36.den))} {c120 : List UInt8 → List ty106.den → Int → Int → Int → List ty36.den → Option ((List ty106.den) × Int × Int × Int × (List ty36.den))} {c121 : List ty106.den → Int → Option (Int × Int × (List ty97.den))} {c61 : Int → Int → List ty106.den → Int → Int → Int → List ty36.den → Option ((List ty106.den) × Int × Int × Int × (List ty36.den))} (h119 : Sp119 c119) (h97 : Sp97 c97) (h60 : Sp60 c60) (h120 : Sp120 c120) (h121 : Sp121 c121) (h61 : Sp61 c61) : Sp97 (F97 c119 c97 c60 c120 c121 c61) := fun p0 p1 p2 p3 p4 y hy => by
  refine spec_of (G := ent 119 (e119 c119) (ent 97 (e97 c97) (ent 60 (e60 c60) (ent 120 (e120 c120) (ent 121 (e121 c121) (ent 61 (e61 c61) (gnil))))))) (ent_ok (ek119 h119) (ent_ok (ek97 h97) (ent_ok (ek60 h60) (ent_ok (ek120 h120) (ent_ok (ek121 h121) (ent_ok (ek61 h61) (gnil_ok))))))) 1000000 (fn := Try.f97) (by kernel_rfl) (by kernel_rfl) (X := X97) (by kernel_rfl) ?_
  rw [fo97, hy]
  rfl
end Go.Proofs.Ytccnmhdgghjgoaa.Av
