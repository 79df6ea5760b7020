/- Twins of functions, printed by gen.py. Conditions: none. -/
import Derived.Test.YtccnmhdgghjgoaaRt3
import Derived.KernelRfl
set_option linter.unusedVariables false
set_option maxRecDepth 100000
set_option maxHeartbeats 8000000
namespace Go.Proofs.Ytccnmhdgghjgoaa.Av
open Go

/-! ### 5: lariat/lariatlaw15.RewriteTwice -/
def X5 : Aux := ⟨[(13, [0, 1, 2, 3, 4, 5, 8, 9, 10, 11, 12, 13, 14, 15, 16, 17, 18, 19, 20, 21, 22, 23, 24, 25, 26, 27, 28, 29, 30, 31, 32, 33, 34, 35, 36, 37, 38, 39, 40, 41, 42, 43, 44, 47, 48, 49, 50, 51, 52, 53, 54, 55, 56, 57, 58, 59, 60, 61, 62, 63, 64, 65, 66, 67, 68, 69, 70, 71, 72, 73, 74, 75, 76, 77, 78, 79, 80, 81, 82, 83, 84, 85, 86, 87, 88, 89, 90, 91, 92, 93, 94, 95, 96, 97, 98, 99, 100, 101, 102, 103, 104, 105, 106, 107, 108, 109]), (16, [0, 1, 2, 3, 4, 5, 9, 10, 11, 12, 13, 14, 15, 16, 17, 18, 19, 20, 21, 22, 23, 24, 25, 26, 27, 28, 29, 30, 31, 32, 33, 34, 35, 36, 37, 38, 39, 40, 41, 42, 43, 44, 47, 48, 49, 50, 51, 55, 56, 57, 58, 59, 60, 61, 62, 63, 64, 65, 66, 67, 68, 69, 70, 71, 72, 73, 74, 75, 76, 77, 78, 79, 80, 81, 82, 83, 84, 85, 86, 87, 88, 89, 90, 91, 92, 93, 94, 95, 96, 97, 98, 99, 100, 101, 102, 103, 104, 105, 106, 107, 108, 109]), (1000008, [0, 1, 2, 3, 4, 6, 7, 8, 9, 10, 11, 12, 13, 14, 15, 16, 17, 18, 19, 20, 21, 22, 23, 24, 25, 26, 27, 28, 29, 30, 31, 32, 33, 34, 35, 36, 37, 38, 39, 40, 41, 42, 43, 44, 45, 46, 47, 48, 49, 50, 51, 52, 53, 54, 55, 56, 57, 58, 59, 60, 61, 62, 63, 64, 65, 66, 67, 68, 69, 70, 71, 72, 73, 74, 75, 76, 77, 78, 79, 80, 81, 82, 83, 84, 85, 86, 87, 88, 89, 90, 91, 92, 93, 94, 95, 96, 97, 98, 99, 100, 101, 102, 103, 104, 105, 106, 107, 108, 109]), (1000021, [0, 1, 2, 3, 4, 5, 9, 10, 11, 12, 13, 14, 15, 16, 17, 18, 19, 20, 21, 22, 23, 24, 25, 26, 27, 28, 29, 30, 31, 32, 33, 34, 35, 36, 37, 38, 39, 40, 41, 42, 43, 44, 47, 48, 49, 50, 51, 55, 56, 57, 58, 59, 60, 61, 62, 63, 64, 65, 66, 67, 68, 69, 70, 71, 72, 73, 74, 75, 76, 77, 78, 79, 80, 81, 82, 83, 84, 85, 86, 87, 88, 89, 90, 91, 92, 93, 94, 95, 96, 97, 98, 99, 100, 101, 102, 103, 104, 105, 106, 107, 108, 109])], []⟩
inductive S5 where
  | l0 (v0_0 : List ty36.den) (v0_1 : Int) (v0_2 : Int) (v0_3 : List ty27.den)
  | l1 (v1_0 : List ty36.den) (v1_1 : Int) (v1_2 : Int) (v1_3 : Int) (v1_4 : List ty3.den) (v1_5 : Int) (v1_6 : Int) (v1_7 : List ty27.den)
  | l1008 (v1008_0 : List ty36.den)
  | l1021 (v1021_0 : List ty36.den) (v1021_1 : Int) (v1021_2 : Int) (v1021_3 : Int) (v1021_4 : List ty3.den) (v1021_5 : Int) (v1021_6 : Int) (v1021_7 : List ty27.den)
def T5 {R : Type} (B : Ops) (c7 : Option (Bool)) (c11 : List ty3.den → Option ((List UInt8))) (c10 : List UInt8 → Option ((List ty36.den))) (c12 : List ty36.den → Option ((List ty36.den))) (c13 : List ty36.den → Option ((List ty36.den))) (c9 : List ty36.den → Option ((List ty36.den))) (c16 : List ty36.den → Option ((List ty27.den))) (c17 : List ty36.den → Option (Bool)) (c14 : List ty36.den → List ty36.den → Option (Bool)) (p0 : List ty3.den) (p1 : Bool) (again : S5 → Option R) (k : (Bool) → Option R) : Option S5 → Option R
  | none =>
    ob (c7) fun y0 =>
    cond (!y0)
     (
      k false)
     (
      ob (c11 p0) fun y1 =>
      ob (c10 y1) fun y2 =>
      ob (c12 y2) fun y3 =>
      cond (p1)
       (
        ob (c11 p0) fun y4 =>
        ob (c10 y4) fun y5 =>
        ob (c13 y5) fun y6 =>
        ob (c7) fun y7 =>
        cond (!y7)
         (
          ob (c7) fun y8 =>
          k y8)
         (
          cond (Ops.eq B (Nat.cast (List.length y6)) (0))
           (
            ob (c7) fun y8 =>
            k y8)
           (
            again (.l1008 y6))))
       (
        ob (c7) fun y4 =>
        cond (!y4)
         (
          ob (c7) fun y5 =>
          k y5)
         (
          cond (Ops.eq B (Nat.cast (List.length y3)) (0))
           (
            ob (c7) fun y5 =>
            k y5)
           (
            again (.l1008 y3)))))
  | some (.l0 v0_0 v0_1 v0_2 v0_3) =>
    cond (Ops.lt B v0_2 v0_1)
     (
      cond (Ops.inb B v0_2 (List.length v0_3))
       (
        again (.l1 v0_0 v0_2 v0_1 v0_2 (List.getD v0_3 (Int.toNat v0_2) (Ty.dflt ty27)) (Nat.cast (List.length (List.getD v0_3 (Int.toNat v0_2) (Ty.dflt ty27)))) 0 v0_3))
       (
        none))
     (
      k true)
  | some (.l1 v1_0 v1_1 v1_2 v1_3 v1_4 v1_5 v1_6 v1_7) =>
    cond (Ops.lt B v1_6 v1_5)
     (
      cond (Ops.inb B v1_6 (List.length v1_4))
       (
        cond (Ops.inb B (List.getD v1_4 (Int.toNat v1_6) (Ty.dflt ty3)) (List.length v1_0))
         (
          cond (!Ops.eq B (Prod.fst (List.getD v1_0 (Int.toNat (List.getD v1_4 (Int.toNat v1_6) (Ty.dflt ty3))) (Ty.dflt ty36))) (1))
           (
            cond (Ops.inb B (List.getD v1_4 (Int.toNat v1_6) (Ty.dflt ty3)) (List.length v1_0))
             (
              cond (!Ops.eq B (Prod.fst (List.getD v1_0 (Int.toNat (List.getD v1_4 (Int.toNat v1_6) (Ty.dflt ty3))) (Ty.dflt ty36))) (2))
               (
                again (.l1021 v1_0 v1_1 v1_2 v1_3 v1_4 v1_5 v1_6 v1_7))
               (
                cond (!Ops.eq B v1_6 (0))
                 (
                  k false)
                 (
                  cond (Ops.inb B v1_1 (List.length v1_0))
                   (
                    cond (Ops.eq B (Prod.fst (List.getD v1_0 (Int.toNat v1_1) (Ty.dflt ty36))) (9))
                     (
                      cond (Ops.inb B (List.getD v1_4 (Int.toNat v1_6) (Ty.dflt ty3)) (List.length v1_0))
                       (
                        cond (Ops.eq B (Prod.fst (List.getD v1_0 (Int.toNat (List.getD v1_4 (Int.toNat v1_6) (Ty.dflt ty3))) (Ty.dflt ty36))) (1))
                         (
                          again (.l1021 v1_0 v1_1 v1_2 v1_3 v1_4 v1_5 v1_6 v1_7))
                         (
                          cond (Ops.inb B v1_1 (List.length v1_0))
                           (
                            cond (Ops.eq B (Prod.fst (List.getD v1_0 (Int.toNat v1_1) (Ty.dflt ty36))) (10))
                             (
                              cond (Ops.inb B (List.getD v1_4 (Int.toNat v1_6) (Ty.dflt ty3)) (List.length v1_0))
                               (
                                cond (!Ops.eq B (Prod.fst (List.getD v1_0 (Int.toNat (List.getD v1_4 (Int.toNat v1_6) (Ty.dflt ty3))) (Ty.dflt ty36))) (2))
                                 (
                                  k false)
                                 (
                                  again (.l1021 v1_0 v1_1 v1_2 v1_3 v1_4 v1_5 v1_6 v1_7)))
                               (
                                none))
                             (
                              k false))
                           (
                            none)))
                       (
                        none))
                     (
                      cond (Ops.inb B v1_1 (List.length v1_0))
                       (
                        cond (Ops.eq B (Prod.fst (List.getD v1_0 (Int.toNat v1_1) (Ty.dflt ty36))) (10))
                         (
                          cond (Ops.inb B (List.getD v1_4 (Int.toNat v1_6) (Ty.dflt ty3)) (List.length v1_0))
                           (
                            cond (!Ops.eq B (Prod.fst (List.getD v1_0 (Int.toNat (List.getD v1_4 (Int.toNat v1_6) (Ty.dflt ty3))) (Ty.dflt ty36))) (2))
                             (
                              k false)
                             (
                              again (.l1021 v1_0 v1_1 v1_2 v1_3 v1_4 v1_5 v1_6 v1_7)))
                           (
                            none))
                         (
                          k false))
                       (
                        none)))
                   (
                    none))))
             (
              none))
           (
            cond (!Ops.eq B v1_6 (0))
             (
              k false)
             (
              cond (Ops.inb B v1_1 (List.length v1_0))
               (
                cond (Ops.eq B (Prod.fst (List.getD v1_0 (Int.toNat v1_1) (Ty.dflt ty36))) (9))
                 (
                  cond (Ops.inb B (List.getD v1_4 (Int.toNat v1_6) (Ty.dflt ty3)) (List.length v1_0))
                   (
                    cond (Ops.eq B (Prod.fst (List.getD v1_0 (Int.toNat (List.getD v1_4 (Int.toNat v1_6) (Ty.dflt ty3))) (Ty.dflt ty36))) (1))
                     (
                      again (.l1021 v1_0 v1_1 v1_2 v1_3 v1_4 v1_5 v1_6 v1_7))
                     (
                      cond (Ops.inb B v1_1 (List.length v1_0))
                       (
                        cond (Ops.eq B (Prod.fst (List.getD v1_0 (Int.toNat v1_1) (Ty.dflt ty36))) (10))
                         (
                          cond (Ops.inb B (List.getD v1_4 (Int.toNat v1_6) (Ty.dflt ty3)) (List.length v1_0))
                           (
                            cond (!Ops.eq B (Prod.fst (List.getD v1_0 (Int.toNat (List.getD v1_4 (Int.toNat v1_6) (Ty.dflt ty3))) (Ty.dflt ty36))) (2))
                             (
                              k false)
                             (
                              again (.l1021 v1_0 v1_1 v1_2 v1_3 v1_4 v1_5 v1_6 v1_7)))
                           (
                            none))
                         (
                          k false))
                       (
                        none)))
                   (
                    none))
                 (
                  cond (Ops.inb B v1_1 (List.length v1_0))
                   (
                    cond (Ops.eq B (Prod.fst (List.getD v1_0 (Int.toNat v1_1) (Ty.dflt ty36))) (10))
                     (
                      cond (Ops.inb B (List.getD v1_4 (Int.toNat v1_6) (Ty.dflt ty3)) (List.length v1_0))
                       (
                        cond (!Ops.eq B (Prod.fst (List.getD v1_0 (Int.toNat (List.getD v1_4 (Int.toNat v1_6) (Ty.dflt ty3))) (Ty.dflt ty36))) (2))
                         (
                          k false)
                         (
                          again (.l1021 v1_0 v1_1 v1_2 v1_3 v1_4 v1_5 v1_6 v1_7)))
                       (
                        none))
                     (
                      k false))
                   (
                    none)))
               (
                none))))
         (
          none))
       (
        none))
     (
      again (.l0 v1_0 v1_2 (IntKind.wrap IntKind.i64 (v1_3 + 1)) v1_7))
  | some (.l1008 v1008_0) =>
    ob (c9 v1008_0) fun y0 =>
    ob (c16 y0) fun y1 =>
    ob (c17 y0) fun y2 =>
    cond (!y2)
     (
      k false)
     (
      ob (c9 y0) fun y3 =>
      ob (c14 y3 y0) fun y4 =>
      cond (!y4)
       (
        k false)
       (
        again (.l0 y0 (Nat.cast (List.length y1)) 0 y1)))
  | some (.l1021 v1021_0 v1021_1 v1021_2 v1021_3 v1021_4 v1021_5 v1021_6 v1021_7) =>
    again (.l1 v1021_0 v1021_1 v1021_2 v1021_3 v1021_4 v1021_5 (IntKind.wrap IntKind.i64 (v1021_6 + 1)) v1021_7)
def E5 (p0 : List ty3.den) (p1 : Bool) : S5 → List AV × Objs
  | .l0 v0_0 v0_1 v0_2 v0_3 => (mk 110 [(6, .c (.list 36 ty36 v0_0)), (7, .c (.own 7)), (45, .c (.int .i64 v0_1)), (46, .c (.int .i64 v0_2))], [(7, .row 27 ty27 v0_3)])
  | .l1 v1_0 v1_1 v1_2 v1_3 v1_4 v1_5 v1_6 v1_7 => (mk 110 [(6, .c (.list 36 ty36 v1_0)), (7, .c (.own 7)), (8, .c (.int .i64 v1_1)), (45, .c (.int .i64 v1_2)), (46, .c (.int .i64 v1_3)), (52, .c (.list 3 ty3 v1_4)), (53, .c (.int .i64 v1_5)), (54, .c (.int .i64 v1_6))], [(7, .row 27 ty27 v1_7)])
  | .l1008 v1008_0 => (mk 110 [(5, .c (.own 5))], [(5, .row 36 ty36 v1008_0)])
  | .l1021 v1021_0 v1021_1 v1021_2 v1021_3 v1021_4 v1021_5 v1021_6 v1021_7 => (mk 110 [(6, .c (.list 36 ty36 v1021_0)), (7, .c (.own 7)), (8, .c (.int .i64 v1021_1)), (45, .c (.int .i64 v1021_2)), (46, .c (.int .i64 v1021_3)), (52, .c (.list 3 ty3 v1021_4)), (53, .c (.int .i64 v1021_5)), (54, .c (.int .i64 v1021_6))], [(7, .row 27 ty27 v1021_7)])
def I5 : S5 → Nat
  | .l0 _ _ _ _ => 0
  | .l1 _ _ _ _ _ _ _ _ => 1
  | .l1008 _ => 1008
  | .l1021 _ _ _ _ _ _ _ _ => 1021
theorem eq5 {R : Type} (B : Ops) (c7 : Option (Bool)) (c11 : List ty3.den → Option ((List UInt8))) (c10 : List UInt8 → Option ((List ty36.den))) (c12 : List ty36.den → Option ((List ty36.den))) (c13 : List ty36.den → Option ((List ty36.den))) (c9 : List ty36.den → Option ((List ty36.den))) (c16 : List ty36.den → Option ((List ty27.den))) (c17 : List ty36.den → Option (Bool)) (c14 : List ty36.den → List ty36.den → Option (Bool)) (p0 : List ty3.den) (p1 : Bool) (k : AV → Objs → Option R) (n : Nat) : afun tau B gl0 X5 (ent 7 (e7 c7) (ent 11 (e11 c11) (ent 10 (e10 c10) (ent 12 (e12 c12) (ent 13 (e13 c13) (ent 9 (e9 c9) (ent 16 (e16 c16) (ent 17 (e17 c17) (ent 14 (e14 c14) (gnil)))))))))) ow Try.f5 [.c (.list 3 ty3 p0), .c (.bool p1)] [] k n = T5 B c7 c11 c10 c12 c13 c9 c16 c17 c14 p0 p1 (fun s => aloop tau B gl0 X5 (ent 7 (e7 c7) (ent 11 (e11 c11) (ent 10 (e10 c10) (ent 12 (e12 c12) (ent 13 (e13 c13) (ent 9 (e9 c9) (ent 16 (e16 c16) (ent 17 (e17 c17) (ent 14 (e14 c14) (gnil)))))))))) ow [] Try.f5 k (I5 s) (E5 p0 p1 s) n) (fun y => k (.c (.bool y)) []) none := by kernel_rfl
theorem el5 {R : Type} (B : Ops) (c7 : Option (Bool)) (c11 : List ty3.den → Option ((List UInt8))) (c10 : List UInt8 → Option ((List ty36.den))) (c12 : List ty36.den → Option ((List ty36.den))) (c13 : List ty36.den → Option ((List ty36.den))) (c9 : List ty36.den → Option ((List ty36.den))) (c16 : List ty36.den → Option ((List ty27.den))) (c17 : List ty36.den → Option (Bool)) (c14 : List ty36.den → List ty36.den → Option (Bool)) (p0 : List ty3.den) (p1 : Bool) (k : AV → Objs → Option R) (n : Nat) : ∀ s, aloop tau B gl0 X5 (ent 7 (e7 c7) (ent 11 (e11 c11) (ent 10 (e10 c10) (ent 12 (e12 c12) (ent 13 (e13 c13) (ent 9 (e9 c9) (ent 16 (e16 c16) (ent 17 (e17 c17) (ent 14 (e14 c14) (gnil)))))))))) ow [] Try.f5 k (I5 s) (E5 p0 p1 s) (n + 1) = T5 B c7 c11 c10 c12 c13 c9 c16 c17 c14 p0 p1 (fun s => aloop tau B gl0 X5 (ent 7 (e7 c7) (ent 11 (e11 c11) (ent 10 (e10 c10) (ent 12 (e12 c12) (ent 13 (e13 c13) (ent 9 (e9 c9) (ent 16 (e16 c16) (ent 17 (e17 c17) (ent 14 (e14 c14) (gnil)))))))))) ow [] Try.f5 k (I5 s) (E5 p0 p1 s) n) (fun y => k (.c (.bool y)) []) (some s)
  | .l0 v0_0 v0_1 v0_2 v0_3 => by kernel_rfl
  | .l1 v1_0 v1_1 v1_2 v1_3 v1_4 v1_5 v1_6 v1_7 => by kernel_rfl
  | .l1008 v1008_0 => by kernel_rfl
  | .l1021 v1021_0 v1021_1 v1021_2 v1021_3 v1021_4 v1021_5 v1021_6 v1021_7 => by kernel_rfl
theorem nt5 {R R' : Type} (B : Ops) (c7 : Option (Bool)) (c11 : List ty3.den → Option ((List UInt8))) (c10 : List UInt8 → Option ((List ty36.den))) (c12 : List ty36.den → Option ((List ty36.den))) (c13 : List ty36.den → Option ((List ty36.den))) (c9 : List ty36.den → Option ((List ty36.den))) (c16 : List ty36.den → Option ((List ty27.den))) (c17 : List ty36.den → Option (Bool)) (c14 : List ty36.den → List ty36.den → Option (Bool)) (p0 : List ty3.den) (p1 : Bool) (again : S5 → Option R) (again' : S5 → Option R') (k0 : (Bool) → Option R') (k : R' → Option R) (h : ∀ s, again s = ob (again' s) k) : ∀ s, T5 B c7 c11 c10 c12 c13 c9 c16 c17 c14 p0 p1 again (fun y => ob (k0 y) k) s = ob (T5 B c7 c11 c10 c12 c13 c9 c16 c17 c14 p0 p1 again' k0 s) k
  | none => by unfold T5; repeat' first | exact rfl | exact h _ | apply nat_cond | (apply nat_ob; intro)
  | some (.l0 v0_0 v0_1 v0_2 v0_3) => by unfold T5; repeat' first | exact rfl | exact h _ | apply nat_cond | (apply nat_ob; intro)
  | some (.l1 v1_0 v1_1 v1_2 v1_3 v1_4 v1_5 v1_6 v1_7) => by unfold T5; repeat' first | exact rfl | exact h _ | apply nat_cond | (apply nat_ob; intro)
  | some (.l1008 v1008_0) => by unfold T5; repeat' first | exact rfl | exact h _ | apply nat_cond | (apply nat_ob; intro)
  | some (.l1021 v1021_0 v1021_1 v1021_2 v1021_3 v1021_4 v1021_5 v1021_6 v1021_7) => by unfold T5; repeat' first | exact rfl | exact h _ | apply nat_cond | (apply nat_ob; intro)
def R5 (c7 : Option (Bool)) (c11 : List ty3.den → Option ((List UInt8))) (c10 : List UInt8 → Option ((List ty36.den))) (c12 : List ty36.den → Option ((List ty36.den))) (c13 : List ty36.den → Option ((List ty36.den))) (c9 : List ty36.den → Option ((List ty36.den))) (c16 : List ty36.den → Option ((List ty27.den))) (c17 : List ty36.den → Option (Bool)) (c14 : List ty36.den → List ty36.den → Option (Bool)) (p0 : List ty3.den) (p1 : Bool) : Nat → S5 → Option (Bool)
  | 0, _ => none
  | n + 1, s => T5 Ops.std c7 c11 c10 c12 c13 c9 c16 c17 c14 p0 p1 (R5 c7 c11 c10 c12 c13 c9 c16 c17 c14 p0 p1 n) some (some s)
theorem rr5 {R : Type} (c7 : Option (Bool)) (c11 : List ty3.den → Option ((List UInt8))) (c10 : List UInt8 → Option ((List ty36.den))) (c12 : List ty36.den → Option ((List ty36.den))) (c13 : List ty36.den → Option ((List ty36.den))) (c9 : List ty36.den → Option ((List ty36.den))) (c16 : List ty36.den → Option ((List ty27.den))) (c17 : List ty36.den → Option (Bool)) (c14 : List ty36.den → List ty36.den → Option (Bool)) (p0 : List ty3.den) (p1 : Bool) (k : AV → Objs → Option R) : ∀ (n : Nat) (s : S5), aloop tau Ops.std gl0 X5 (ent 7 (e7 c7) (ent 11 (e11 c11) (ent 10 (e10 c10) (ent 12 (e12 c12) (ent 13 (e13 c13) (ent 9 (e9 c9) (ent 16 (e16 c16) (ent 17 (e17 c17) (ent 14 (e14 c14) (gnil)))))))))) ow [] Try.f5 k (I5 s) (E5 p0 p1 s) n = ob (R5 c7 c11 c10 c12 c13 c9 c16 c17 c14 p0 p1 n s) (fun y => k (.c (.bool y)) [])
  | 0, s => by cases s <;> rfl
  | n + 1, s => by rw [el5]; exact nt5 Ops.std c7 c11 c10 c12 c13 c9 c16 c17 c14 p0 p1 _ _ some (fun y => k (.c (.bool y)) []) (rr5 c7 c11 c10 c12 c13 c9 c16 c17 c14 p0 p1 k n) (some s)
def F5 (c7 : Option (Bool)) (c11 : List ty3.den → Option ((List UInt8))) (c10 : List UInt8 → Option ((List ty36.den))) (c12 : List ty36.den → Option ((List ty36.den))) (c13 : List ty36.den → Option ((List ty36.den))) (c9 : List ty36.den → Option ((List ty36.den))) (c16 : List ty36.den → Option ((List ty27.den))) (c17 : List ty36.den → Option (Bool)) (c14 : List ty36.den → List ty36.den → Option (Bool)) (p0 : List ty3.den) (p1 : Bool) : Option (Bool) := T5 Ops.std c7 c11 c10 c12 c13 c9 c16 c17 c14 p0 p1 (R5 c7 c11 c10 c12 c13 c9 c16 c17 c14 p0 p1 1000000) some none
theorem fo5 {R : Type} (c7 : Option (Bool)) (c11 : List ty3.den → Option ((List UInt8))) (c10 : List UInt8 → Option ((List ty36.den))) (c12 : List ty36.den → Option ((List ty36.den))) (c13 : List ty36.den → Option ((List ty36.den))) (c9 : List ty36.den → Option ((List ty36.den))) (c16 : List ty36.den → Option ((List ty27.den))) (c17 : List ty36.den → Option (Bool)) (c14 : List ty36.den → List ty36.den → Option (Bool)) (p0 : List ty3.den) (p1 : Bool) (k : AV → Objs → Option R) : afun tau Ops.std gl0 X5 (ent 7 (e7 c7) (ent 11 (e11 c11) (ent 10 (e10 c10) (ent 12 (e12 c12) (ent 13 (e13 c13) (ent 9 (e9 c9) (ent 16 (e16 c16) (ent 17 (e17 c17) (ent 14 (e14 c14) (gnil)))))))))) ow Try.f5 [.c (.list 3 ty3 p0), .c (.bool p1)] [] k 1000000 = ob (F5 c7 c11 c10 c12 c13 c9 c16 c17 c14 p0 p1) (fun y => k (.c (.bool y)) []) := by rw [eq5]; exact nt5 Ops.std c7 c11 c10 c12 c13 c9 c16 c17 c14 p0 p1 _ _ some (fun y => k (.c (.bool y)) []) (rr5 c7 c11 c10 c12 c13 c9 c16 c17 c14 p0 p1 k 1000000) none
def e5 {R : Type} (c : List ty3.den → Bool → Option (Bool)) : Ent R := fun args objs k =>
  oCons args fun a0 l0 => oC a0 fun x0 => cList 3 ty3 x0 fun p0 => oCons l0 fun a1 l1 => oC a1 fun x1 => cBool x1 fun p1 => oNil l1 <| oNilO objs <| ob (c p0 p1) fun y => k (.c (.bool y)) []
abbrev Sp5 (c : List ty3.den → Bool → Option (Bool)) : Prop := ∀ (p0 : List ty3.den) (p1 : Bool) (y : Bool), c p0 p1 = some y → Spec Try.prog gl0 5 [.c (.list 3 ty3 p0), .c (.bool p1)] [] (.c (.bool y)) []
theorem ek5 {R : Type} {c : List ty3.den → Bool → Option (Bool)} (hs : Sp5 c) : EOk 5 (e5 (R := R) c) := fun args objs k r h => by
  unfold e5 at h
  obtain ⟨a0, l0, rfl, q1⟩ := oCons_some h
  obtain ⟨x0, rfl, q2⟩ := oC_some q1
  obtain ⟨p0, rfl, q3⟩ := cList_some q2
  obtain ⟨a1, l1, rfl, q4⟩ := oCons_some q3
  obtain ⟨x1, rfl, q5⟩ := oC_some q4
  obtain ⟨p1, rfl, q6⟩ := cBool_some q5
  obtain ⟨rfl, q7⟩ := oNil_some q6
  obtain ⟨rfl, q8⟩ := oNilO_some q7
  exact eok_of (hs p0 p1) q8
theorem sf5 {c7 : Option (Bool)} {c11 : List ty3.den → Option ((List UInt8))} {c10 : List UInt8 → Option ((List ty36.den))} {c12 : List ty36.den → Option ((List ty36.den))} {c13 : List ty36.den → Option ((List ty36.den))} {c9 : List ty36.den → Option ((List ty36.den))} {c16 : List ty36.den → Option ((List ty27.den))} {c17 : List ty36.den → Option (Bool)} {c14 : List ty36.den → List ty36.den → Option (Bool)} (h7 : Sp7 c7) (h11 : Sp11 c11) (h10 : Sp10 c10) (h12 : Sp12 c12) (h13 : Sp13 c13) (h9 : Sp9 c9) (h16 : Sp16 c16) (h17 : Sp17 c17) (h14 : Sp14 c14) : Sp5 (F5 c7 c11 c10 c12 c13 c9 c16 c17 c14) := fun p0 p1 y hy => by
  refine spec_of (G := ent 7 (e7 c7) (ent 11 (e11 c11) (ent 10 (e10 c10) (ent 12 (e12 c12) (ent 13 (e13 c13) (ent 9 (e9 c9) (ent 16 (e16 c16) (ent 17 (e17 c17) (ent 14 (e14 c14) (gnil)))))))))) (ent_ok (ek7 h7) (ent_ok (ek11 h11) (ent_ok (ek10 h10) (ent_ok (ek12 h12) (ent_ok (ek13 h13) (ent_ok (ek9 h9) (ent_ok (ek16 h16) (ent_ok (ek17 h17) (ent_ok (ek14 h14) (gnil_ok)))))))))) 1000000 (fn := Try.f5) (by kernel_rfl) (by kernel_rfl) (X := X5) (by kernel_rfl) ?_
  rw [fo5, hy]
  rfl
noncomputable def M5 : List ty3.den → Bool → Option (Bool) := F5 M7 M11 M10 M12 M13 M9 M16 M17 M14
theorem sm5 : Sp5 M5 := sf5 sm7 sm11 sm10 sm12 sm13 sm9 sm16 sm17 sm14
end Go.Proofs.Ytccnmhdgghjgoaa.Av
