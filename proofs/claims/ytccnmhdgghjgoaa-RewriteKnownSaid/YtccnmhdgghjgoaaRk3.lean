/- Twins of functions, printed by gen.py. Conditions: none. -/
import Derived.Test.YtccnmhdgghjgoaaRk2
import Derived.KernelRfl
set_option linter.unusedVariables false
set_option maxRecDepth 100000
set_option maxHeartbeats 8000000
namespace Go.Proofs.Ytccnmhdgghjgoaa.Av
open Go

/-! ### 29: lariat/rewrite.lasting -/
def X29 : Aux := ⟨[(2000000, [])], []⟩
def T29 {R : Type} (B : Ops) (c30 : List ty36.den → Int → Option (Bool)) (c54 : List ty36.den → List ty36.den → Option (Bool)) (c55 : Int → List ty36.den → List ty36.den → Option (Bool)) (c31 : Int → List ty24.den → Option ((List ty36.den))) (p0 : Int) (p1 : List ty36.den) (p2 : List ty36.den) (k : ((List ty36.den)) → Option R) : Option R :=
  cond (Ops.eq B p0 (10))
   (
    ob (c30 p2 (1)) fun y0 =>
    cond (y0)
     (
      k p2)
     (
      ob (c30 p2 (2)) fun y1 =>
      cond (y1)
       (
        k p2)
       (
        ob (c30 p1 (1)) fun y2 =>
        cond (y2)
         (
          k p2)
         (
          ob (c54 p1 p2) fun y3 =>
          cond (y3)
           (
            k p2)
           (
            ob (c55 p0 p1 p2) fun y4 =>
            cond (y4)
             (
              k p2)
             (
              ob (c31 p0 (p1 :: p2 :: mt (Ty.den (Ty.list (36) (Ty.pair (Ty.int IntKind.i64) (Ty.list (97) (Ty.pair (Ty.int IntKind.i64) (Ty.pair (Ty.int IntKind.i64) (Ty.pair Ty.str Ty.str))))))))) fun y5 =>
              k y5))))))
   (
    ob (c30 p2 (1)) fun y0 =>
    cond (y0)
     (
      k p2)
     (
      ob (c30 p2 (2)) fun y1 =>
      cond (y1)
       (
        k p2)
       (
        ob (c30 p1 (2)) fun y2 =>
        cond (y2)
         (
          k p2)
         (
          ob (c54 p1 p2) fun y3 =>
          cond (y3)
           (
            k p2)
           (
            ob (c55 p0 p1 p2) fun y4 =>
            cond (y4)
             (
              k p2)
             (
              ob (c31 p0 (p1 :: p2 :: mt (Ty.den (Ty.list (36) (Ty.pair (Ty.int IntKind.i64) (Ty.list (97) (Ty.pair (Ty.int IntKind.i64) (Ty.pair (Ty.int IntKind.i64) (Ty.pair Ty.str Ty.str))))))))) fun y5 =>
              k y5))))))
theorem eq29 {R : Type} (B : Ops) (c30 : List ty36.den → Int → Option (Bool)) (c54 : List ty36.den → List ty36.den → Option (Bool)) (c55 : Int → List ty36.den → List ty36.den → Option (Bool)) (c31 : Int → List ty24.den → Option ((List ty36.den))) (p0 : Int) (p1 : List ty36.den) (p2 : List ty36.den) (k : AV → Objs → Option R) (n : Nat) : afun tau B gl0 X29 (ent 30 (e30 c30) (ent 54 (e54 c54) (ent 55 (e55 c55) (ent 31 (e31 c31) (gnil))))) ow Try.f29 [.c (.int .i64 p0), .c (.list 36 ty36 p1), .c (.list 36 ty36 p2)] [] k n = T29 B c30 c54 c55 c31 p0 p1 p2 (fun y => k (.c (.list 36 ty36 y)) []) := by kernel_rfl
theorem nt29 {R R' : Type} (B : Ops) (c30 : List ty36.den → Int → Option (Bool)) (c54 : List ty36.den → List ty36.den → Option (Bool)) (c55 : Int → List ty36.den → List ty36.den → Option (Bool)) (c31 : Int → List ty24.den → Option ((List ty36.den))) (p0 : Int) (p1 : List ty36.den) (p2 : List ty36.den) (k0 : ((List ty36.den)) → Option R') (k : R' → Option R) : T29 B c30 c54 c55 c31 p0 p1 p2 (fun y => ob (k0 y) k) = ob (T29 B c30 c54 c55 c31 p0 p1 p2 k0) k := by
  unfold T29
  repeat' first | exact rfl | apply nat_cond | (apply nat_ob; intro)
def F29 (c30 : List ty36.den → Int → Option (Bool)) (c54 : List ty36.den → List ty36.den → Option (Bool)) (c55 : Int → List ty36.den → List ty36.den → Option (Bool)) (c31 : Int → List ty24.den → Option ((List ty36.den))) (p0 : Int) (p1 : List ty36.den) (p2 : List ty36.den) : Option ((List ty36.den)) := T29 Ops.std c30 c54 c55 c31 p0 p1 p2 some
theorem fo29 {R : Type} (c30 : List ty36.den → Int → Option (Bool)) (c54 : List ty36.den → List ty36.den → Option (Bool)) (c55 : Int → List ty36.den → List ty36.den → Option (Bool)) (c31 : Int → List ty24.den → Option ((List ty36.den))) (p0 : Int) (p1 : List ty36.den) (p2 : List ty36.den) (k : AV → Objs → Option R) (n : Nat) : afun tau Ops.std gl0 X29 (ent 30 (e30 c30) (ent 54 (e54 c54) (ent 55 (e55 c55) (ent 31 (e31 c31) (gnil))))) ow Try.f29 [.c (.int .i64 p0), .c (.list 36 ty36 p1), .c (.list 36 ty36 p2)] [] k n = ob (F29 c30 c54 c55 c31 p0 p1 p2) (fun y => k (.c (.list 36 ty36 y)) []) := by rw [eq29]; exact nt29 Ops.std c30 c54 c55 c31 p0 p1 p2 some (fun y => k (.c (.list 36 ty36 y)) [])
def e29 {R : Type} (c : Int → List ty36.den → List ty36.den → Option ((List ty36.den))) : Ent R := fun args objs k =>
  oCons args fun a0 l0 => oC a0 fun x0 => cInt .i64 x0 fun p0 => oCons l0 fun a1 l1 => oC a1 fun x1 => cList 36 ty36 x1 fun p1 => oCons l1 fun a2 l2 => oC a2 fun x2 => cList 36 ty36 x2 fun p2 => oNil l2 <| oNilO objs <| ob (c p0 p1 p2) fun y => k (.c (.list 36 ty36 y)) []
abbrev Sp29 (c : Int → List ty36.den → List ty36.den → Option ((List ty36.den))) : Prop := ∀ (p0 : Int) (p1 : List ty36.den) (p2 : List ty36.den) (y : (List ty36.den)), c p0 p1 p2 = some y → Spec Try.prog gl0 29 [.c (.int .i64 p0), .c (.list 36 ty36 p1), .c (.list 36 ty36 p2)] [] (.c (.list 36 ty36 y)) []
theorem ek29 {R : Type} {c : Int → List ty36.den → List ty36.den → Option ((List ty36.den))} (hs : Sp29 c) : EOk 29 (e29 (R := R) c) := fun args objs k r h => by
  unfold e29 at h
  obtain ⟨a0, l0, rfl, q1⟩ := oCons_some h
  obtain ⟨x0, rfl, q2⟩ := oC_some q1
  obtain ⟨p0, rfl, q3⟩ := cInt_some q2
  obtain ⟨a1, l1, rfl, q4⟩ := oCons_some q3
  obtain ⟨x1, rfl, q5⟩ := oC_some q4
  obtain ⟨p1, rfl, q6⟩ := cList_some q5
  obtain ⟨a2, l2, rfl, q7⟩ := oCons_some q6
  obtain ⟨x2, rfl, q8⟩ := oC_some q7
  obtain ⟨p2, rfl, q9⟩ := cList_some q8
  obtain ⟨rfl, q10⟩ := oNil_some q9
  obtain ⟨rfl, q11⟩ := oNilO_some q10
  exact eok_of (hs p0 p1 p2) q11
theorem sf29 {c30 : List ty36.den → Int → Option (Bool)} {c54 : List ty36.den → List ty36.den → Option (Bool)} {c55 : Int → List ty36.den → List ty36.den → Option (Bool)} {c31 : Int → List ty24.den → Option ((List ty36.den))} (h30 : Sp30 c30) (h54 : Sp54 c54) (h55 : Sp55 c55) (h31 : Sp31 c31) : Sp29 (F29 c30 c54 c55 c31) := fun p0 p1 p2 y hy => by
  refine spec_of (G := ent 30 (e30 c30) (ent 54 (e54 c54) (ent 55 (e55 c55) (ent 31 (e31 c31) (gnil))))) (ent_ok (ek30 h30) (ent_ok (ek54 h54) (ent_ok (ek55 h55) (ent_ok (ek31 h31) (gnil_ok))))) 1000000 (fn := Try.f29) (by kernel_rfl) (by kernel_rfl) (X := X29) (by kernel_rfl) ?_
  rw [fo29, hy]
  rfl
noncomputable def M29 : Int → List ty36.den → List ty36.den → Option ((List ty36.den)) := F29 M30 M54 M55 M31
theorem sm29 : Sp29 M29 := sf29 sm30 sm54 sm55 sm31

/-! ### 9: lariat/rewrite.Rewrite -/
def X9 : Aux := ⟨[(5, [1, 2, 4, 5, 6, 7, 8, 9, 10, 14, 15, 16, 17, 18, 19, 20, 21, 22, 23, 24, 25, 26, 27, 28, 29, 30, 31, 32, 33, 34, 35, 36, 37, 38, 39, 40, 41, 42, 43, 44, 45, 46, 47, 48, 49, 50, 51, 52, 53, 54, 55, 56, 57, 58, 59, 60, 61, 62, 63, 64, 65, 66, 67, 68, 69, 70, 71, 72, 73, 74, 75, 76, 77, 78, 79, 80, 81, 82, 83, 84, 85, 86, 87, 88, 89, 90, 91, 92, 93, 94, 95, 96, 97, 98, 99, 100, 101, 102, 103, 104, 105, 106, 107, 108, 109, 110, 111, 112, 113, 114, 115, 116, 117, 118, 119, 120, 121, 122, 123, 124, 125, 126, 127, 128, 129, 130, 131, 132]), (1000017, [1, 2, 4, 5, 6, 7, 8, 9, 10, 14, 15, 16, 17, 18, 19, 20, 21, 22, 23, 24, 25, 26, 27, 28, 29, 30, 31, 32, 33, 34, 35, 36, 37, 38, 39, 40, 41, 42, 43, 44, 45, 46, 47, 48, 49, 50, 51, 52, 53, 54, 55, 56, 57, 58, 59, 60, 61, 62, 63, 64, 65, 66, 67, 68, 69, 70, 71, 72, 73, 74, 75, 76, 77, 78, 79, 80, 81, 82, 83, 84, 85, 86, 87, 88, 89, 90, 91, 92, 93, 94, 95, 96, 97, 98, 99, 100, 101, 102, 103, 104, 105, 106, 107, 108, 109, 110, 111, 112, 113, 114, 115, 116, 117, 118, 119, 120, 121, 122, 123, 124, 125, 126, 127, 128, 129, 130, 131, 132])], [(10, .lin [0, 1, 2, 3, 4, 5, 6, 7, 8, 9, 10, 11, 12, 13, 14, 15, 16, 17]), (12, .lin [0, 1, 2, 3, 4, 5, 6, 7, 8, 9, 10, 11, 12, 13, 14, 15, 16, 17])]⟩
inductive S9 where
  | l0 (v0_1 : Int) (v0_2 : Int) (v0_3 : List ty24.den) (v0_4 : List ty27.den)
  | l1017 (v1017_1 : Int) (v1017_2 : Int) (v1017_3 : List ty24.den) (v1017_4 : List ty27.den)
def T9 {R : Type} (B : Ops) (c26 : List ty36.den → Option (Bool)) (c27 : List ty36.den → Option ((List ty27.den))) (c28 : Int → List ty36.den → List ty36.den → Option ((List ty36.den))) (c29 : Int → List ty36.den → List ty36.den → Option ((List ty36.den))) (c30 : List ty36.den → Int → Option (Bool)) (c31 : Int → List ty24.den → Option ((List ty36.den))) (c32 : List ty36.den → Option ((List ty36.den))) (p0 : List ty36.den) (again : S9 → Option R) (k : ((List ty36.den)) → Option R) : Option S9 → Option R
  | none =>
    ob (c26 p0) fun y0 =>
    cond (!y0)
     (
      k (mt (Ty.den (Ty.pair (Ty.int IntKind.i64) (Ty.list (97) (Ty.pair (Ty.int IntKind.i64) (Ty.pair (Ty.int IntKind.i64) (Ty.pair Ty.str Ty.str))))))))
     (
      ob (c27 p0) fun y1 =>
      again (.l0 (Nat.cast (List.length y1)) 0 (mt (Ty.den (Ty.list (36) (Ty.pair (Ty.int IntKind.i64) (Ty.list (97) (Ty.pair (Ty.int IntKind.i64) (Ty.pair (Ty.int IntKind.i64) (Ty.pair Ty.str Ty.str)))))))) y1))
  | some (.l0 v0_1 v0_2 v0_3 v0_4) =>
    cond (Ops.lt B v0_2 v0_1)
     (
      cond (Ops.inb B v0_2 (List.length v0_4))
       (
        cond (Ops.inb B v0_2 (List.length p0))
         (
          cond (Ops.eq B (Prod.fst (List.getD p0 (Int.toNat v0_2) (Ty.dflt ty36))) (5))
           (
            cond (Ops.inb B (0) (List.length (List.getD v0_4 (Int.toNat v0_2) (Ty.dflt ty27))))
             (
              cond (Ops.inb B (List.getD (List.getD v0_4 (Int.toNat v0_2) (Ty.dflt ty27)) (Int.toNat (0)) (Ty.dflt (Ty.int IntKind.i64))) (List.length v0_3))
               (
                cond (Ops.inb B (1) (List.length (List.getD v0_4 (Int.toNat v0_2) (Ty.dflt ty27))))
                 (
                  cond (Ops.inb B (List.getD (List.getD v0_4 (Int.toNat v0_2) (Ty.dflt ty27)) (Int.toNat (1)) (Ty.dflt (Ty.int IntKind.i64))) (List.length v0_3))
                   (
                    ob (c28 (Prod.fst (List.getD p0 (Int.toNat v0_2) (Ty.dflt ty36))) (List.getD v0_3 (Int.toNat (List.getD (List.getD v0_4 (Int.toNat v0_2) (Ty.dflt ty27)) (Int.toNat (0)) (Ty.dflt (Ty.int IntKind.i64)))) (Ty.dflt ty24)) (List.getD v0_3 (Int.toNat (List.getD (List.getD v0_4 (Int.toNat v0_2) (Ty.dflt ty27)) (Int.toNat (1)) (Ty.dflt (Ty.int IntKind.i64)))) (Ty.dflt ty24))) fun y0 =>
                    cond (Ops.lim B (List.length v0_3 + List.length (y0 :: mt (Ty.den (Ty.list (36) (Ty.pair (Ty.int IntKind.i64) (Ty.list (97) (Ty.pair (Ty.int IntKind.i64) (Ty.pair (Ty.int IntKind.i64) (Ty.pair Ty.str Ty.str))))))))) (24))
                     (
                      again (.l1017 v0_1 v0_2 (v0_3 ++ y0 :: mt (Ty.den (Ty.list (36) (Ty.pair (Ty.int IntKind.i64) (Ty.list (97) (Ty.pair (Ty.int IntKind.i64) (Ty.pair (Ty.int IntKind.i64) (Ty.pair Ty.str Ty.str)))))))) v0_4))
                     (
                      none))
                   (
                    none))
                 (
                  none))
               (
                none))
             (
              none))
           (
            cond (Ops.eq B (Prod.fst (List.getD p0 (Int.toNat v0_2) (Ty.dflt ty36))) (6))
             (
              cond (Ops.inb B (0) (List.length (List.getD v0_4 (Int.toNat v0_2) (Ty.dflt ty27))))
               (
                cond (Ops.inb B (List.getD (List.getD v0_4 (Int.toNat v0_2) (Ty.dflt ty27)) (Int.toNat (0)) (Ty.dflt (Ty.int IntKind.i64))) (List.length v0_3))
                 (
                  cond (Ops.inb B (1) (List.length (List.getD v0_4 (Int.toNat v0_2) (Ty.dflt ty27))))
                   (
                    cond (Ops.inb B (List.getD (List.getD v0_4 (Int.toNat v0_2) (Ty.dflt ty27)) (Int.toNat (1)) (Ty.dflt (Ty.int IntKind.i64))) (List.length v0_3))
                     (
                      ob (c28 (Prod.fst (List.getD p0 (Int.toNat v0_2) (Ty.dflt ty36))) (List.getD v0_3 (Int.toNat (List.getD (List.getD v0_4 (Int.toNat v0_2) (Ty.dflt ty27)) (Int.toNat (0)) (Ty.dflt (Ty.int IntKind.i64)))) (Ty.dflt ty24)) (List.getD v0_3 (Int.toNat (List.getD (List.getD v0_4 (Int.toNat v0_2) (Ty.dflt ty27)) (Int.toNat (1)) (Ty.dflt (Ty.int IntKind.i64)))) (Ty.dflt ty24))) fun y0 =>
                      cond (Ops.lim B (List.length v0_3 + List.length (y0 :: mt (Ty.den (Ty.list (36) (Ty.pair (Ty.int IntKind.i64) (Ty.list (97) (Ty.pair (Ty.int IntKind.i64) (Ty.pair (Ty.int IntKind.i64) (Ty.pair Ty.str Ty.str))))))))) (24))
                       (
                        again (.l1017 v0_1 v0_2 (v0_3 ++ y0 :: mt (Ty.den (Ty.list (36) (Ty.pair (Ty.int IntKind.i64) (Ty.list (97) (Ty.pair (Ty.int IntKind.i64) (Ty.pair (Ty.int IntKind.i64) (Ty.pair Ty.str Ty.str)))))))) v0_4))
                       (
                        none))
                     (
                      none))
                   (
                    none))
                 (
                  none))
               (
                none))
             (
              cond (Ops.eq B (Prod.fst (List.getD p0 (Int.toNat v0_2) (Ty.dflt ty36))) (9))
               (
                cond (Ops.inb B (0) (List.length (List.getD v0_4 (Int.toNat v0_2) (Ty.dflt ty27))))
                 (
                  cond (Ops.inb B (List.getD (List.getD v0_4 (Int.toNat v0_2) (Ty.dflt ty27)) (Int.toNat (0)) (Ty.dflt (Ty.int IntKind.i64))) (List.length v0_3))
                   (
                    cond (Ops.inb B (1) (List.length (List.getD v0_4 (Int.toNat v0_2) (Ty.dflt ty27))))
                     (
                      cond (Ops.inb B (List.getD (List.getD v0_4 (Int.toNat v0_2) (Ty.dflt ty27)) (Int.toNat (1)) (Ty.dflt (Ty.int IntKind.i64))) (List.length v0_3))
                       (
                        ob (c29 (Prod.fst (List.getD p0 (Int.toNat v0_2) (Ty.dflt ty36))) (List.getD v0_3 (Int.toNat (List.getD (List.getD v0_4 (Int.toNat v0_2) (Ty.dflt ty27)) (Int.toNat (0)) (Ty.dflt (Ty.int IntKind.i64)))) (Ty.dflt ty24)) (List.getD v0_3 (Int.toNat (List.getD (List.getD v0_4 (Int.toNat v0_2) (Ty.dflt ty27)) (Int.toNat (1)) (Ty.dflt (Ty.int IntKind.i64)))) (Ty.dflt ty24))) fun y0 =>
                        cond (Ops.lim B (List.length v0_3 + List.length (y0 :: mt (Ty.den (Ty.list (36) (Ty.pair (Ty.int IntKind.i64) (Ty.list (97) (Ty.pair (Ty.int IntKind.i64) (Ty.pair (Ty.int IntKind.i64) (Ty.pair Ty.str Ty.str))))))))) (24))
                         (
                          again (.l1017 v0_1 v0_2 (v0_3 ++ y0 :: mt (Ty.den (Ty.list (36) (Ty.pair (Ty.int IntKind.i64) (Ty.list (97) (Ty.pair (Ty.int IntKind.i64) (Ty.pair (Ty.int IntKind.i64) (Ty.pair Ty.str Ty.str)))))))) v0_4))
                         (
                          none))
                       (
                        none))
                     (
                      none))
                   (
                    none))
                 (
                  none))
               (
                cond (Ops.eq B (Prod.fst (List.getD p0 (Int.toNat v0_2) (Ty.dflt ty36))) (10))
                 (
                  cond (Ops.inb B (0) (List.length (List.getD v0_4 (Int.toNat v0_2) (Ty.dflt ty27))))
                   (
                    cond (Ops.inb B (List.getD (List.getD v0_4 (Int.toNat v0_2) (Ty.dflt ty27)) (Int.toNat (0)) (Ty.dflt (Ty.int IntKind.i64))) (List.length v0_3))
                     (
                      cond (Ops.inb B (1) (List.length (List.getD v0_4 (Int.toNat v0_2) (Ty.dflt ty27))))
                       (
                        cond (Ops.inb B (List.getD (List.getD v0_4 (Int.toNat v0_2) (Ty.dflt ty27)) (Int.toNat (1)) (Ty.dflt (Ty.int IntKind.i64))) (List.length v0_3))
                         (
                          ob (c29 (Prod.fst (List.getD p0 (Int.toNat v0_2) (Ty.dflt ty36))) (List.getD v0_3 (Int.toNat (List.getD (List.getD v0_4 (Int.toNat v0_2) (Ty.dflt ty27)) (Int.toNat (0)) (Ty.dflt (Ty.int IntKind.i64)))) (Ty.dflt ty24)) (List.getD v0_3 (Int.toNat (List.getD (List.getD v0_4 (Int.toNat v0_2) (Ty.dflt ty27)) (Int.toNat (1)) (Ty.dflt (Ty.int IntKind.i64)))) (Ty.dflt ty24))) fun y0 =>
                          cond (Ops.lim B (List.length v0_3 + List.length (y0 :: mt (Ty.den (Ty.list (36) (Ty.pair (Ty.int IntKind.i64) (Ty.list (97) (Ty.pair (Ty.int IntKind.i64) (Ty.pair (Ty.int IntKind.i64) (Ty.pair Ty.str Ty.str))))))))) (24))
                           (
                            again (.l1017 v0_1 v0_2 (v0_3 ++ y0 :: mt (Ty.den (Ty.list (36) (Ty.pair (Ty.int IntKind.i64) (Ty.list (97) (Ty.pair (Ty.int IntKind.i64) (Ty.pair (Ty.int IntKind.i64) (Ty.pair Ty.str Ty.str)))))))) v0_4))
                           (
                            none))
                         (
                          none))
                       (
                        none))
                     (
                      none))
                   (
                    none))
                 (
                  cond (Ops.eq B (Prod.fst (List.getD p0 (Int.toNat v0_2) (Ty.dflt ty36))) (8))
                   (
                    cond (Ops.inb B (0) (List.length (List.getD v0_4 (Int.toNat v0_2) (Ty.dflt ty27))))
                     (
                      cond (Ops.inb B (List.getD (List.getD v0_4 (Int.toNat v0_2) (Ty.dflt ty27)) (Int.toNat (0)) (Ty.dflt (Ty.int IntKind.i64))) (List.length v0_3))
                       (
                        ob (c30 (List.getD v0_3 (Int.toNat (List.getD (List.getD v0_4 (Int.toNat v0_2) (Ty.dflt ty27)) (Int.toNat (0)) (Ty.dflt (Ty.int IntKind.i64)))) (Ty.dflt ty24)) (1)) fun y0 =>
                        cond (y0)
                         (
                          cond (Ops.inb B (0) (List.length (List.getD v0_4 (Int.toNat v0_2) (Ty.dflt ty27))))
                           (
                            cond (Ops.inb B (List.getD (List.getD v0_4 (Int.toNat v0_2) (Ty.dflt ty27)) (Int.toNat (0)) (Ty.dflt (Ty.int IntKind.i64))) (List.length v0_3))
                             (
                              cond (Ops.lim B (List.length v0_3 + List.length (List.getD v0_3 (Int.toNat (List.getD (List.getD v0_4 (Int.toNat v0_2) (Ty.dflt ty27)) (Int.toNat (0)) (Ty.dflt (Ty.int IntKind.i64)))) (Ty.dflt ty24) :: mt (Ty.den (Ty.list (36) (Ty.pair (Ty.int IntKind.i64) (Ty.list (97) (Ty.pair (Ty.int IntKind.i64) (Ty.pair (Ty.int IntKind.i64) (Ty.pair Ty.str Ty.str))))))))) (24))
                               (
                                again (.l1017 v0_1 v0_2 (v0_3 ++ List.getD v0_3 (Int.toNat (List.getD (List.getD v0_4 (Int.toNat v0_2) (Ty.dflt ty27)) (Int.toNat (0)) (Ty.dflt (Ty.int IntKind.i64)))) (Ty.dflt ty24) :: mt (Ty.den (Ty.list (36) (Ty.pair (Ty.int IntKind.i64) (Ty.list (97) (Ty.pair (Ty.int IntKind.i64) (Ty.pair (Ty.int IntKind.i64) (Ty.pair Ty.str Ty.str)))))))) v0_4))
                               (
                                none))
                             (
                              none))
                           (
                            none))
                         (
                          cond (Ops.inb B (0) (List.length (List.getD v0_4 (Int.toNat v0_2) (Ty.dflt ty27))))
                           (
                            cond (Ops.inb B (List.getD (List.getD v0_4 (Int.toNat v0_2) (Ty.dflt ty27)) (Int.toNat (0)) (Ty.dflt (Ty.int IntKind.i64))) (List.length v0_3))
                             (
                              ob (c30 (List.getD v0_3 (Int.toNat (List.getD (List.getD v0_4 (Int.toNat v0_2) (Ty.dflt ty27)) (Int.toNat (0)) (Ty.dflt (Ty.int IntKind.i64)))) (Ty.dflt ty24)) (2)) fun y1 =>
                              cond (y1)
                               (
                                cond (Ops.inb B (0) (List.length (List.getD v0_4 (Int.toNat v0_2) (Ty.dflt ty27))))
                                 (
                                  cond (Ops.inb B (List.getD (List.getD v0_4 (Int.toNat v0_2) (Ty.dflt ty27)) (Int.toNat (0)) (Ty.dflt (Ty.int IntKind.i64))) (List.length v0_3))
                                   (
                                    cond (Ops.lim B (List.length v0_3 + List.length (List.getD v0_3 (Int.toNat (List.getD (List.getD v0_4 (Int.toNat v0_2) (Ty.dflt ty27)) (Int.toNat (0)) (Ty.dflt (Ty.int IntKind.i64)))) (Ty.dflt ty24) :: mt (Ty.den (Ty.list (36) (Ty.pair (Ty.int IntKind.i64) (Ty.list (97) (Ty.pair (Ty.int IntKind.i64) (Ty.pair (Ty.int IntKind.i64) (Ty.pair Ty.str Ty.str))))))))) (24))
                                     (
                                      again (.l1017 v0_1 v0_2 (v0_3 ++ List.getD v0_3 (Int.toNat (List.getD (List.getD v0_4 (Int.toNat v0_2) (Ty.dflt ty27)) (Int.toNat (0)) (Ty.dflt (Ty.int IntKind.i64)))) (Ty.dflt ty24) :: mt (Ty.den (Ty.list (36) (Ty.pair (Ty.int IntKind.i64) (Ty.list (97) (Ty.pair (Ty.int IntKind.i64) (Ty.pair (Ty.int IntKind.i64) (Ty.pair Ty.str Ty.str)))))))) v0_4))
                                     (
                                      none))
                                   (
                                    none))
                                 (
                                  none))
                               (
                                cond (Ops.eq B (Nat.cast (List.length (List.getD v0_4 (Int.toNat v0_2) (Ty.dflt ty27)))) (1))
                                 (
                                  cond (Ops.inb B (0) (List.length (List.getD v0_4 (Int.toNat v0_2) (Ty.dflt ty27))))
                                   (
                                    cond (Ops.inb B (List.getD (List.getD v0_4 (Int.toNat v0_2) (Ty.dflt ty27)) (Int.toNat (0)) (Ty.dflt (Ty.int IntKind.i64))) (List.length v0_3))
                                     (
                                      ob (c31 (Prod.fst (List.getD p0 (Int.toNat v0_2) (Ty.dflt ty36))) (List.getD v0_3 (Int.toNat (List.getD (List.getD v0_4 (Int.toNat v0_2) (Ty.dflt ty27)) (Int.toNat (0)) (Ty.dflt (Ty.int IntKind.i64)))) (Ty.dflt ty24) :: mt (Ty.den (Ty.list (36) (Ty.pair (Ty.int IntKind.i64) (Ty.list (97) (Ty.pair (Ty.int IntKind.i64) (Ty.pair (Ty.int IntKind.i64) (Ty.pair Ty.str Ty.str))))))))) fun y2 =>
                                      cond (Ops.lim B (List.length v0_3 + List.length (y2 :: mt (Ty.den (Ty.list (36) (Ty.pair (Ty.int IntKind.i64) (Ty.list (97) (Ty.pair (Ty.int IntKind.i64) (Ty.pair (Ty.int IntKind.i64) (Ty.pair Ty.str Ty.str))))))))) (24))
                                       (
                                        again (.l1017 v0_1 v0_2 (v0_3 ++ y2 :: mt (Ty.den (Ty.list (36) (Ty.pair (Ty.int IntKind.i64) (Ty.list (97) (Ty.pair (Ty.int IntKind.i64) (Ty.pair (Ty.int IntKind.i64) (Ty.pair Ty.str Ty.str)))))))) v0_4))
                                       (
                                        none))
                                     (
                                      none))
                                   (
                                    none))
                                 (
                                  cond (Ops.inb B v0_2 (List.length p0))
                                   (
                                    cond (Ops.lim B (List.length v0_3 + List.length (((Prod.fst (List.getD p0 (Int.toNat v0_2) (Ty.dflt ty36)), Prod.snd (List.getD p0 (Int.toNat v0_2) (Ty.dflt ty36))) :: mt (Ty.den (Ty.pair (Ty.int IntKind.i64) (Ty.list (97) (Ty.pair (Ty.int IntKind.i64) (Ty.pair (Ty.int IntKind.i64) (Ty.pair Ty.str Ty.str))))))) :: mt (Ty.den (Ty.list (36) (Ty.pair (Ty.int IntKind.i64) (Ty.list (97) (Ty.pair (Ty.int IntKind.i64) (Ty.pair (Ty.int IntKind.i64) (Ty.pair Ty.str Ty.str))))))))) (24))
                                     (
                                      again (.l1017 v0_1 v0_2 (v0_3 ++ ((Prod.fst (List.getD p0 (Int.toNat v0_2) (Ty.dflt ty36)), Prod.snd (List.getD p0 (Int.toNat v0_2) (Ty.dflt ty36))) :: mt (Ty.den (Ty.pair (Ty.int IntKind.i64) (Ty.list (97) (Ty.pair (Ty.int IntKind.i64) (Ty.pair (Ty.int IntKind.i64) (Ty.pair Ty.str Ty.str))))))) :: mt (Ty.den (Ty.list (36) (Ty.pair (Ty.int IntKind.i64) (Ty.list (97) (Ty.pair (Ty.int IntKind.i64) (Ty.pair (Ty.int IntKind.i64) (Ty.pair Ty.str Ty.str)))))))) v0_4))
                                     (
                                      none))
                                   (
                                    none))))
                             (
                              none))
                           (
                            none)))
                       (
                        none))
                     (
                      none))
                   (
                    cond (Ops.eq B (Nat.cast (List.length (List.getD v0_4 (Int.toNat v0_2) (Ty.dflt ty27)))) (1))
                     (
                      cond (Ops.inb B (0) (List.length (List.getD v0_4 (Int.toNat v0_2) (Ty.dflt ty27))))
                       (
                        cond (Ops.inb B (List.getD (List.getD v0_4 (Int.toNat v0_2) (Ty.dflt ty27)) (Int.toNat (0)) (Ty.dflt (Ty.int IntKind.i64))) (List.length v0_3))
                         (
                          ob (c31 (Prod.fst (List.getD p0 (Int.toNat v0_2) (Ty.dflt ty36))) (List.getD v0_3 (Int.toNat (List.getD (List.getD v0_4 (Int.toNat v0_2) (Ty.dflt ty27)) (Int.toNat (0)) (Ty.dflt (Ty.int IntKind.i64)))) (Ty.dflt ty24) :: mt (Ty.den (Ty.list (36) (Ty.pair (Ty.int IntKind.i64) (Ty.list (97) (Ty.pair (Ty.int IntKind.i64) (Ty.pair (Ty.int IntKind.i64) (Ty.pair Ty.str Ty.str))))))))) fun y0 =>
                          cond (Ops.lim B (List.length v0_3 + List.length (y0 :: mt (Ty.den (Ty.list (36) (Ty.pair (Ty.int IntKind.i64) (Ty.list (97) (Ty.pair (Ty.int IntKind.i64) (Ty.pair (Ty.int IntKind.i64) (Ty.pair Ty.str Ty.str))))))))) (24))
                           (
                            again (.l1017 v0_1 v0_2 (v0_3 ++ y0 :: mt (Ty.den (Ty.list (36) (Ty.pair (Ty.int IntKind.i64) (Ty.list (97) (Ty.pair (Ty.int IntKind.i64) (Ty.pair (Ty.int IntKind.i64) (Ty.pair Ty.str Ty.str)))))))) v0_4))
                           (
                            none))
                         (
                          none))
                       (
                        none))
                     (
                      cond (Ops.inb B v0_2 (List.length p0))
                       (
                        cond (Ops.lim B (List.length v0_3 + List.length (((Prod.fst (List.getD p0 (Int.toNat v0_2) (Ty.dflt ty36)), Prod.snd (List.getD p0 (Int.toNat v0_2) (Ty.dflt ty36))) :: mt (Ty.den (Ty.pair (Ty.int IntKind.i64) (Ty.list (97) (Ty.pair (Ty.int IntKind.i64) (Ty.pair (Ty.int IntKind.i64) (Ty.pair Ty.str Ty.str))))))) :: mt (Ty.den (Ty.list (36) (Ty.pair (Ty.int IntKind.i64) (Ty.list (97) (Ty.pair (Ty.int IntKind.i64) (Ty.pair (Ty.int IntKind.i64) (Ty.pair Ty.str Ty.str))))))))) (24))
                         (
                          again (.l1017 v0_1 v0_2 (v0_3 ++ ((Prod.fst (List.getD p0 (Int.toNat v0_2) (Ty.dflt ty36)), Prod.snd (List.getD p0 (Int.toNat v0_2) (Ty.dflt ty36))) :: mt (Ty.den (Ty.pair (Ty.int IntKind.i64) (Ty.list (97) (Ty.pair (Ty.int IntKind.i64) (Ty.pair (Ty.int IntKind.i64) (Ty.pair Ty.str Ty.str))))))) :: mt (Ty.den (Ty.list (36) (Ty.pair (Ty.int IntKind.i64) (Ty.list (97) (Ty.pair (Ty.int IntKind.i64) (Ty.pair (Ty.int IntKind.i64) (Ty.pair Ty.str Ty.str)))))))) v0_4))
                         (
                          none))
                       (
                        none))))))))
         (
          none))
       (
        none))
     (
      cond (Ops.inb B (IntKind.wrap IntKind.i64 (Nat.cast (List.length v0_3) - 1)) (List.length v0_3))
       (
        ob (c32 (List.getD v0_3 (Int.toNat (IntKind.wrap IntKind.i64 (Nat.cast (List.length v0_3) - 1))) (Ty.dflt ty24))) fun y0 =>
        k y0)
       (
        none))
  | some (.l1017 v1017_1 v1017_2 v1017_3 v1017_4) =>
    again (.l0 v1017_1 (IntKind.wrap IntKind.i64 (v1017_2 + 1)) v1017_3 v1017_4)
def E9 (p0 : List ty36.den) : S9 → List AV × Objs
  | .l0 v0_1 v0_2 v0_3 v0_4 => (mk 133 [(0, .c (.list 36 ty36 p0)), (3, .c (.own 3)), (11, .c (.own 11)), (12, .c (.int .i64 v0_1)), (13, .c (.int .i64 v0_2))], [(3, .row 24 ty24 v0_3), (11, .row 27 ty27 v0_4)])
  | .l1017 v1017_1 v1017_2 v1017_3 v1017_4 => (mk 133 [(0, .c (.list 36 ty36 p0)), (3, .c (.own 3)), (11, .c (.own 11)), (12, .c (.int .i64 v1017_1)), (13, .c (.int .i64 v1017_2))], [(3, .row 24 ty24 v1017_3), (11, .row 27 ty27 v1017_4)])
def I9 : S9 → Nat
  | .l0 _ _ _ _ => 0
  | .l1017 _ _ _ _ => 1017
theorem eq9 {R : Type} (B : Ops) (c26 : List ty36.den → Option (Bool)) (c27 : List ty36.den → Option ((List ty27.den))) (c28 : Int → List ty36.den → List ty36.den → Option ((List ty36.den))) (c29 : Int → List ty36.den → List ty36.den → Option ((List ty36.den))) (c30 : List ty36.den → Int → Option (Bool)) (c31 : Int → List ty24.den → Option ((List ty36.den))) (c32 : List ty36.den → Option ((List ty36.den))) (p0 : List ty36.den) (k : AV → Objs → Option R) (n : Nat) : afun tau B gl0 X9 (ent 26 (e26 c26) (ent 27 (e27 c27) (ent 28 (e28 c28) (ent 29 (e29 c29) (ent 30 (e30 c30) (ent 31 (e31 c31) (ent 32 (e32 c32) (gnil)))))))) ow Try.f9 [.c (.list 36 ty36 p0)] [] k n = T9 B c26 c27 c28 c29 c30 c31 c32 p0 (fun s => aloop tau B gl0 X9 (ent 26 (e26 c26) (ent 27 (e27 c27) (ent 28 (e28 c28) (ent 29 (e29 c29) (ent 30 (e30 c30) (ent 31 (e31 c31) (ent 32 (e32 c32) (gnil)))))))) ow [] Try.f9 k (I9 s) (E9 p0 s) n) (fun y => k (.c (.own 500)) [(500, .row 36 ty36 y)]) none := by kernel_rfl
theorem el9 {R : Type} (B : Ops) (c26 : List ty36.den → Option (Bool)) (c27 : List ty36.den → Option ((List ty27.den))) (c28 : Int → List ty36.den → List ty36.den → Option ((List ty36.den))) (c29 : Int → List ty36.den → List ty36.den → Option ((List ty36.den))) (c30 : List ty36.den → Int → Option (Bool)) (c31 : Int → List ty24.den → Option ((List ty36.den))) (c32 : List ty36.den → Option ((List ty36.den))) (p0 : List ty36.den) (k : AV → Objs → Option R) (n : Nat) : ∀ s, aloop tau B gl0 X9 (ent 26 (e26 c26) (ent 27 (e27 c27) (ent 28 (e28 c28) (ent 29 (e29 c29) (ent 30 (e30 c30) (ent 31 (e31 c31) (ent 32 (e32 c32) (gnil)))))))) ow [] Try.f9 k (I9 s) (E9 p0 s) (n + 1) = T9 B c26 c27 c28 c29 c30 c31 c32 p0 (fun s => aloop tau B gl0 X9 (ent 26 (e26 c26) (ent 27 (e27 c27) (ent 28 (e28 c28) (ent 29 (e29 c29) (ent 30 (e30 c30) (ent 31 (e31 c31) (ent 32 (e32 c32) (gnil)))))))) ow [] Try.f9 k (I9 s) (E9 p0 s) n) (fun y => k (.c (.own 500)) [(500, .row 36 ty36 y)]) (some s)
  | .l0 v0_1 v0_2 v0_3 v0_4 => by kernel_rfl
  | .l1017 v1017_1 v1017_2 v1017_3 v1017_4 => by kernel_rfl
theorem nt9 {R R' : Type} (B : Ops) (c26 : List ty36.den → Option (Bool)) (c27 : List ty36.den → Option ((List ty27.den))) (c28 : Int → List ty36.den → List ty36.den → Option ((List ty36.den))) (c29 : Int → List ty36.den → List ty36.den → Option ((List ty36.den))) (c30 : List ty36.den → Int → Option (Bool)) (c31 : Int → List ty24.den → Option ((List ty36.den))) (c32 : List ty36.den → Option ((List ty36.den))) (p0 : List ty36.den) (again : S9 → Option R) (again' : S9 → Option R') (k0 : ((List ty36.den)) → Option R') (k : R' → Option R) (h : ∀ s, again s = ob (again' s) k) : ∀ s, T9 B c26 c27 c28 c29 c30 c31 c32 p0 again (fun y => ob (k0 y) k) s = ob (T9 B c26 c27 c28 c29 c30 c31 c32 p0 again' k0 s) k
  | none => by unfold T9; repeat' first | exact rfl | exact h _ | apply nat_cond | (apply nat_ob; intro)
  | some (.l0 v0_1 v0_2 v0_3 v0_4) => by unfold T9; repeat' first | exact rfl | exact h _ | apply nat_cond | (apply nat_ob; intro)
  | some (.l1017 v1017_1 v1017_2 v1017_3 v1017_4) => by unfold T9; repeat' first | exact rfl | exact h _ | apply nat_cond | (apply nat_ob; intro)
def R9 (c26 : List ty36.den → Option (Bool)) (c27 : List ty36.den → Option ((List ty27.den))) (c28 : Int → List ty36.den → List ty36.den → Option ((List ty36.den))) (c29 : Int → List ty36.den → List ty36.den → Option ((List ty36.den))) (c30 : List ty36.den → Int → Option (Bool)) (c31 : Int → List ty24.den → Option ((List ty36.den))) (c32 : List ty36.den → Option ((List ty36.den))) (p0 : List ty36.den) : Nat → S9 → Option ((List ty36.den))
  | 0, _ => none
  | n + 1, s => T9 Ops.std c26 c27 c28 c29 c30 c31 c32 p0 (R9 c26 c27 c28 c29 c30 c31 c32 p0 n) some (some s)
theorem rr9 {R : Type} (c26 : List ty36.den → Option (Bool)) (c27 : List ty36.den → Option ((List ty27.den))) (c28 : Int → List ty36.den → List ty36.den → Option ((List ty36.den))) (c29 : Int → List ty36.den → List ty36.den → Option ((List ty36.den))) (c30 : List ty36.den → Int → Option (Bool)) (c31 : Int → List ty24.den → Option ((List ty36.den))) (c32 : List ty36.den → Option ((List ty36.den))) (p0 : List ty36.den) (k : AV → Objs → Option R) : ∀ (n : Nat) (s : S9), aloop tau Ops.std gl0 X9 (ent 26 (e26 c26) (ent 27 (e27 c27) (ent 28 (e28 c28) (ent 29 (e29 c29) (ent 30 (e30 c30) (ent 31 (e31 c31) (ent 32 (e32 c32) (gnil)))))))) ow [] Try.f9 k (I9 s) (E9 p0 s) n = ob (R9 c26 c27 c28 c29 c30 c31 c32 p0 n s) (fun y => k (.c (.own 500)) [(500, .row 36 ty36 y)])
  | 0, s => by cases s <;> rfl
  | n + 1, s => by rw [el9]; exact nt9 Ops.std c26 c27 c28 c29 c30 c31 c32 p0 _ _ some (fun y => k (.c (.own 500)) [(500, .row 36 ty36 y)]) (rr9 c26 c27 c28 c29 c30 c31 c32 p0 k n) (some s)
def F9 (c26 : List ty36.den → Option (Bool)) (c27 : List ty36.den → Option ((List ty27.den))) (c28 : Int → List ty36.den → List ty36.den → Option ((List ty36.den))) (c29 : Int → List ty36.den → List ty36.den → Option ((List ty36.den))) (c30 : List ty36.den → Int → Option (Bool)) (c31 : Int → List ty24.den → Option ((List ty36.den))) (c32 : List ty36.den → Option ((List ty36.den))) (p0 : List ty36.den) : Option ((List ty36.den)) := T9 Ops.std c26 c27 c28 c29 c30 c31 c32 p0 (R9 c26 c27 c28 c29 c30 c31 c32 p0 1000000) some none
theorem fo9 {R : Type} (c26 : List ty36.den → Option (Bool)) (c27 : List ty36.den → Option ((List ty27.den))) (c28 : Int → List ty36.den → List ty36.den → Option ((List ty36.den))) (c29 : Int → List ty36.den → List ty36.den → Option ((List ty36.den))) (c30 : List ty36.den → Int → Option (Bool)) (c31 : Int → List ty24.den → Option ((List ty36.den))) (c32 : List ty36.den → Option ((List ty36.den))) (p0 : List ty36.den) (k : AV → Objs → Option R) : afun tau Ops.std gl0 X9 (ent 26 (e26 c26) (ent 27 (e27 c27) (ent 28 (e28 c28) (ent 29 (e29 c29) (ent 30 (e30 c30) (ent 31 (e31 c31) (ent 32 (e32 c32) (gnil)))))))) ow Try.f9 [.c (.list 36 ty36 p0)] [] k 1000000 = ob (F9 c26 c27 c28 c29 c30 c31 c32 p0) (fun y => k (.c (.own 500)) [(500, .row 36 ty36 y)]) := by rw [eq9]; exact nt9 Ops.std c26 c27 c28 c29 c30 c31 c32 p0 _ _ some (fun y => k (.c (.own 500)) [(500, .row 36 ty36 y)]) (rr9 c26 c27 c28 c29 c30 c31 c32 p0 k 1000000) none
def e9 {R : Type} (c : List ty36.den → Option ((List ty36.den))) : Ent R := fun args objs k =>
  oCons args fun a0 l0 => oC a0 fun x0 => cList 36 ty36 x0 fun p0 => oNil l0 <| oNilO objs <| ob (c p0) fun y => k (.c (.own 500)) [(500, .row 36 ty36 y)]
abbrev Sp9 (c : List ty36.den → Option ((List ty36.den))) : Prop := ∀ (p0 : List ty36.den) (y : (List ty36.den)), c p0 = some y → Spec Try.prog gl0 9 [.c (.list 36 ty36 p0)] [] (.c (.own 500)) [(500, .row 36 ty36 y)]
theorem ek9 {R : Type} {c : List ty36.den → Option ((List ty36.den))} (hs : Sp9 c) : EOk 9 (e9 (R := R) c) := fun args objs k r h => by
  unfold e9 at h
  obtain ⟨a0, l0, rfl, q1⟩ := oCons_some h
  obtain ⟨x0, rfl, q2⟩ := oC_some q1
  obtain ⟨p0, rfl, q3⟩ := cList_some q2
  obtain ⟨rfl, q4⟩ := oNil_some q3
  obtain ⟨rfl, q5⟩ := oNilO_some q4
  exact eok_of (hs p0) q5
theorem sf9 {c26 : List ty36.den → Option (Bool)} {c27 : List ty36.den → Option ((List ty27.den))} {c28 : Int → List ty36.den → List ty36.den → Option ((List ty36.den))} {c29 : Int → List ty36.den → List ty36.den → Option ((List ty36.den))} {c30 : List ty36.den → Int → Option (Bool)} {c31 : Int → List ty24.den → Option ((List ty36.den))} {c32 : List ty36.den → Option ((List ty36.den))} (h26 : Sp26 c26) (h27 : Sp27 c27) (h28 : Sp28 c28) (h29 : Sp29 c29) (h30 : Sp30 c30) (h31 : Sp31 c31) (h32 : Sp32 c32) : Sp9 (F9 c26 c27 c28 c29 c30 c31 c32) := fun p0 y hy => by
  refine spec_of (G := ent 26 (e26 c26) (ent 27 (e27 c27) (ent 28 (e28 c28) (ent 29 (e29 c29) (ent 30 (e30 c30) (ent 31 (e31 c31) (ent 32 (e32 c32) (gnil)))))))) (ent_ok (ek26 h26) (ent_ok (ek27 h27) (ent_ok (ek28 h28) (ent_ok (ek29 h29) (ent_ok (ek30 h30) (ent_ok (ek31 h31) (ent_ok (ek32 h32) (gnil_ok)))))))) 1000000 (fn := Try.f9) (by kernel_rfl) (by kernel_rfl) (X := X9) (by kernel_rfl) ?_
  rw [fo9, hy]
  rfl
noncomputable def M9 : List ty36.den → Option ((List ty36.den)) := F9 M26 M27 M28 M29 M30 M31 M32
theorem sm9 : Sp9 M9 := sf9 sm26 sm27 sm28 sm29 sm30 sm31 sm32

/-! ### 8: lariat/lariatlaw15.is -/
def X8 : Aux := ⟨[], []⟩
def T8 {R : Type} (B : Ops) (c10 : List UInt8 → Option ((List ty36.den))) (c9 : List ty36.den → Option ((List ty36.den))) (c25 : List ty36.den → Option ((List UInt8))) (p0 : List UInt8) (p1 : List UInt8) (k : (Bool) → Option R) : Option R :=
  ob (c10 p0) fun y0 =>
  ob (c9 y0) fun y1 =>
  ob (c25 y1) fun y2 =>
  k (y2 == p1)
theorem eq8 {R : Type} (B : Ops) (c10 : List UInt8 → Option ((List ty36.den))) (c9 : List ty36.den → Option ((List ty36.den))) (c25 : List ty36.den → Option ((List UInt8))) (p0 : List UInt8) (p1 : List UInt8) (k : AV → Objs → Option R) (n : Nat) : afun tau B gl0 X8 (ent 10 (e10 c10) (ent 9 (e9 c9) (ent 25 (e25 c25) (gnil)))) ow Try.f8 [.c (.str p0), .c (.str p1)] [] k n = T8 B c10 c9 c25 p0 p1 (fun y => k (.c (.bool y)) []) := by kernel_rfl
theorem nt8 {R R' : Type} (B : Ops) (c10 : List UInt8 → Option ((List ty36.den))) (c9 : List ty36.den → Option ((List ty36.den))) (c25 : List ty36.den → Option ((List UInt8))) (p0 : List UInt8) (p1 : List UInt8) (k0 : (Bool) → Option R') (k : R' → Option R) : T8 B c10 c9 c25 p0 p1 (fun y => ob (k0 y) k) = ob (T8 B c10 c9 c25 p0 p1 k0) k := by
  unfold T8
  repeat' first | exact rfl | apply nat_cond | (apply nat_ob; intro)
def F8 (c10 : List UInt8 → Option ((List ty36.den))) (c9 : List ty36.den → Option ((List ty36.den))) (c25 : List ty36.den → Option ((List UInt8))) (p0 : List UInt8) (p1 : List UInt8) : Option (Bool) := T8 Ops.std c10 c9 c25 p0 p1 some
theorem fo8 {R : Type} (c10 : List UInt8 → Option ((List ty36.den))) (c9 : List ty36.den → Option ((List ty36.den))) (c25 : List ty36.den → Option ((List UInt8))) (p0 : List UInt8) (p1 : List UInt8) (k : AV → Objs → Option R) (n : Nat) : afun tau Ops.std gl0 X8 (ent 10 (e10 c10) (ent 9 (e9 c9) (ent 25 (e25 c25) (gnil)))) ow Try.f8 [.c (.str p0), .c (.str p1)] [] k n = ob (F8 c10 c9 c25 p0 p1) (fun y => k (.c (.bool y)) []) := by rw [eq8]; exact nt8 Ops.std c10 c9 c25 p0 p1 some (fun y => k (.c (.bool y)) [])
def e8 {R : Type} (c : List UInt8 → List UInt8 → Option (Bool)) : Ent R := fun args objs k =>
  oCons args fun a0 l0 => oC a0 fun x0 => cStr x0 fun p0 => oCons l0 fun a1 l1 => oC a1 fun x1 => cStr x1 fun p1 => oNil l1 <| oNilO objs <| ob (c p0 p1) fun y => k (.c (.bool y)) []
abbrev Sp8 (c : List UInt8 → List UInt8 → Option (Bool)) : Prop := ∀ (p0 : List UInt8) (p1 : List UInt8) (y : Bool), c p0 p1 = some y → Spec Try.prog gl0 8 [.c (.str p0), .c (.str p1)] [] (.c (.bool y)) []
theorem ek8 {R : Type} {c : List UInt8 → List UInt8 → Option (Bool)} (hs : Sp8 c) : EOk 8 (e8 (R := R) c) := fun args objs k r h => by
  unfold e8 at h
  obtain ⟨a0, l0, rfl, q1⟩ := oCons_some h
  obtain ⟨x0, rfl, q2⟩ := oC_some q1
  obtain ⟨p0, rfl, q3⟩ := cStr_some q2
  obtain ⟨a1, l1, rfl, q4⟩ := oCons_some q3
  obtain ⟨x1, rfl, q5⟩ := oC_some q4
  obtain ⟨p1, rfl, q6⟩ := cStr_some q5
  obtain ⟨rfl, q7⟩ := oNil_some q6
  obtain ⟨rfl, q8⟩ := oNilO_some q7
  exact eok_of (hs p0 p1) q8
theorem sf8 {c10 : List UInt8 → Option ((List ty36.den))} {c9 : List ty36.den → Option ((List ty36.den))} {c25 : List ty36.den → Option ((List UInt8))} (h10 : Sp10 c10) (h9 : Sp9 c9) (h25 : Sp25 c25) : Sp8 (F8 c10 c9 c25) := fun p0 p1 y hy => by
  refine spec_of (G := ent 10 (e10 c10) (ent 9 (e9 c9) (ent 25 (e25 c25) (gnil)))) (ent_ok (ek10 h10) (ent_ok (ek9 h9) (ent_ok (ek25 h25) (gnil_ok)))) 1000000 (fn := Try.f8) (by kernel_rfl) (by kernel_rfl) (X := X8) (by kernel_rfl) ?_
  rw [fo8, hy]
  rfl
noncomputable def M8 : List UInt8 → List UInt8 → Option (Bool) := F8 M10 M9 M25
theorem sm8 : Sp8 M8 := sf8 sm10 sm9 sm25

/-! ### 7: lariat/lariatlaw15.known -/
def X7 : Aux := ⟨[], []⟩
def T7 {R : Type} (B : Ops) (c8 : List UInt8 → List UInt8 → Option (Bool)) (k : (Bool) → Option R) : Option R :=
  ob (c8 ([116, 114, 117, 101, 32, 38, 38, 32, 88, 32, 102, 97, 108, 115, 101] : List UInt8) ([102, 97, 108, 115, 101] : List UInt8)) fun y0 =>
  cond (y0)
   (
    ob (c8 ([91, 120, 93] : List UInt8) ([91, 120, 93] : List UInt8)) fun y1 =>
    k y1)
   (
    k false)
theorem eq7 {R : Type} (B : Ops) (c8 : List UInt8 → List UInt8 → Option (Bool)) (k : AV → Objs → Option R) (n : Nat) : afun tau B gl0 X7 (ent 8 (e8 c8) (gnil)) ow Try.f7 [] [] k n = T7 B c8 (fun y => k (.c (.bool y)) []) := by kernel_rfl
theorem nt7 {R R' : Type} (B : Ops) (c8 : List UInt8 → List UInt8 → Option (Bool)) (k0 : (Bool) → Option R') (k : R' → Option R) : T7 B c8 (fun y => ob (k0 y) k) = ob (T7 B c8 k0) k := by
  unfold T7
  repeat' first | exact rfl | apply nat_cond | (apply nat_ob; intro)
def F7 (c8 : List UInt8 → List UInt8 → Option (Bool)) : Option (Bool) := T7 Ops.std c8 some
theorem fo7 {R : Type} (c8 : List UInt8 → List UInt8 → Option (Bool)) (k : AV → Objs → Option R) (n : Nat) : afun tau Ops.std gl0 X7 (ent 8 (e8 c8) (gnil)) ow Try.f7 [] [] k n = ob (F7 c8) (fun y => k (.c (.bool y)) []) := by rw [eq7]; exact nt7 Ops.std c8 some (fun y => k (.c (.bool y)) [])
def e7 {R : Type} (c : Option (Bool)) : Ent R := fun args objs k =>
  oNil args <| oNilO objs <| ob (c ) fun y => k (.c (.bool y)) []
abbrev Sp7 (c : Option (Bool)) : Prop := ∀ (y : Bool), c = some y → Spec Try.prog gl0 7 [] [] (.c (.bool y)) []
theorem ek7 {R : Type} {c : Option (Bool)} (hs : Sp7 c) : EOk 7 (e7 (R := R) c) := fun args objs k r h => by
  unfold e7 at h
  obtain ⟨rfl, q1⟩ := oNil_some h
  obtain ⟨rfl, q2⟩ := oNilO_some q1
  exact eok_of (hs ) q2
theorem sf7 {c8 : List UInt8 → List UInt8 → Option (Bool)} (h8 : Sp8 c8) : Sp7 (F7 c8) := fun y hy => by
  refine spec_of (G := ent 8 (e8 c8) (gnil)) (ent_ok (ek8 h8) (gnil_ok)) 1000000 (fn := Try.f7) (by kernel_rfl) (by kernel_rfl) (X := X7) (by kernel_rfl) ?_
  rw [fo7, hy]
  rfl
noncomputable def M7 : Option (Bool) := F7 M8
theorem sm7 : Sp7 M7 := sf7 sm8

/-! ### 3: lariat/lariatlaw15.RewriteKnown -/
def X3 : Aux := ⟨[], []⟩
def T3 {R : Type} (B : Ops) (c7 : Option (Bool)) (c8 : List UInt8 → List UInt8 → Option (Bool)) (c10 : List UInt8 → Option ((List ty36.den))) (c9 : List ty36.den → Option ((List ty36.den))) (k : (Bool) → Option R) : Option R :=
  ob (c7) fun y0 =>
  cond (y0)
   (
    ob (c8 ([91, 120, 93, 32, 38, 38, 32, 116, 114, 117, 101] : List UInt8) ([91, 120, 93] : List UInt8)) fun y1 =>
    cond (y1)
     (
      ob (c8 ([91, 120, 93, 32, 38, 38, 32, 91, 120, 93] : List UInt8) ([91, 120, 93] : List UInt8)) fun y2 =>
      cond (y2)
       (
        ob (c8 ([102, 97, 108, 115, 101, 32, 124, 124, 32, 91, 120, 93] : List UInt8) ([91, 120, 93] : List UInt8)) fun y3 =>
        cond (y3)
         (
          ob (c8 ([91, 120, 93, 32, 124, 124, 32, 116, 114, 117, 101] : List UInt8) ([116, 114, 117, 101] : List UInt8)) fun y4 =>
          cond (y4)
           (
            ob (c8 ([91, 120, 93, 32, 124, 124, 32, 91, 120, 93] : List UInt8) ([91, 120, 93] : List UInt8)) fun y5 =>
            cond (y5)
             (
              ob (c8 ([88, 32, 116, 114, 117, 101] : List UInt8) ([116, 114, 117, 101] : List UInt8)) fun y6 =>
              cond (y6)
               (
                ob (c8 ([91, 120, 93, 32, 85, 32, 116, 114, 117, 101] : List UInt8) ([116, 114, 117, 101] : List UInt8)) fun y7 =>
                cond (y7)
                 (
                  ob (c8 ([91, 120, 93, 32, 85, 32, 102, 97, 108, 115, 101] : List UInt8) ([102, 97, 108, 115, 101] : List UInt8)) fun y8 =>
                  cond (y8)
                   (
                    ob (c8 ([102, 97, 108, 115, 101, 32, 85, 32, 91, 120, 93] : List UInt8) ([91, 120, 93] : List UInt8)) fun y9 =>
                    cond (y9)
                     (
                      ob (c8 ([91, 120, 93, 32, 85, 32, 91, 120, 93] : List UInt8) ([91, 120, 93] : List UInt8)) fun y10 =>
                      cond (y10)
                       (
                        ob (c8 ([91, 120, 93, 32, 85, 32, 40, 91, 120, 93, 32, 85, 32, 91, 121, 93, 41] : List UInt8) ([91, 120, 93, 32, 85, 32, 91, 121, 93] : List UInt8)) fun y11 =>
                        cond (y11)
                         (
                          ob (c8 ([116, 114, 117, 101, 32, 85, 32, 91, 120, 93] : List UInt8) ([116, 114, 117, 101, 32, 85, 32, 91, 120, 93] : List UInt8)) fun y12 =>
                          cond (y12)
                           (
                            ob (c8 ([91, 120, 93, 32, 82, 32, 116, 114, 117, 101] : List UInt8) ([116, 114, 117, 101] : List UInt8)) fun y13 =>
                            cond (y13)
                             (
                              ob (c8 ([91, 120, 93, 32, 82, 32, 102, 97, 108, 115, 101] : List UInt8) ([102, 97, 108, 115, 101] : List UInt8)) fun y14 =>
                              cond (y14)
                               (
                                ob (c8 ([116, 114, 117, 101, 32, 82, 32, 91, 120, 93] : List UInt8) ([91, 120, 93] : List UInt8)) fun y15 =>
                                cond (y15)
                                 (
                                  ob (c8 ([91, 120, 93, 32, 82, 32, 40, 91, 120, 93, 32, 82, 32, 91, 121, 93, 41] : List UInt8) ([91, 120, 93, 32, 82, 32, 91, 121, 93] : List UInt8)) fun y16 =>
                                  cond (y16)
                                   (
                                    ob (c8 ([102, 97, 108, 115, 101, 32, 82, 32, 91, 120, 93] : List UInt8) ([102, 97, 108, 115, 101, 32, 82, 32, 91, 120, 93] : List UInt8)) fun y17 =>
                                    cond (y17)
                                     (
                                      ob (c8 ([116, 114, 117, 101, 32, 85, 32, 116, 114, 117, 101, 32, 85, 32, 91, 120, 93] : List UInt8) ([116, 114, 117, 101, 32, 85, 32, 91, 120, 93] : List UInt8)) fun y18 =>
                                      cond (y18)
                                       (
                                        ob (c8 ([88, 32, 40, 116, 114, 117, 101, 32, 38, 38, 32, 102, 97, 108, 115, 101, 41] : List UInt8) ([102, 97, 108, 115, 101] : List UInt8)) fun y19 =>
                                        cond (y19)
                                         (
                                          ob (c8 ([40, 91, 120, 93, 32, 38, 38, 32, 116, 114, 117, 101, 41, 32, 85, 32, 40, 91, 120, 93, 32, 85, 32, 91, 121, 93, 41] : List UInt8) ([91, 120, 93, 32, 85, 32, 91, 121, 93] : List UInt8)) fun y20 =>
                                          cond (y20)
                                           (
                                            ob (c10 ([70, 32, 116, 114, 117, 101] : List UInt8)) fun y21 =>
                                            ob (c9 y21) fun y22 =>
                                            cond (Ops.eq B (Nat.cast (List.length y22)) (0))
                                             (
                                              ob (c9 (mt (Ty.den (Ty.pair (Ty.int IntKind.i64) (Ty.list (97) (Ty.pair (Ty.int IntKind.i64) (Ty.pair (Ty.int IntKind.i64) (Ty.pair Ty.str Ty.str)))))))) fun y23 =>
                                              k (Ops.eq B (Nat.cast (List.length y23)) (0)))
                                             (
                                              k false))
                                           (
                                            k false))
                                         (
                                          k false))
                                       (
                                        k false))
                                     (
                                      k false))
                                   (
                                    k false))
                                 (
                                  k false))
                               (
                                k false))
                             (
                              k false))
                           (
                            k false))
                         (
                          k false))
                       (
                        k false))
                     (
                      k false))
                   (
                    k false))
                 (
                  k false))
               (
                k false))
             (
              k false))
           (
            k false))
         (
          k false))
       (
        k false))
     (
      k false))
   (
    k false)
theorem eq3 {R : Type} (B : Ops) (c7 : Option (Bool)) (c8 : List UInt8 → List UInt8 → Option (Bool)) (c10 : List UInt8 → Option ((List ty36.den))) (c9 : List ty36.den → Option ((List ty36.den))) (k : AV → Objs → Option R) (n : Nat) : afun tau B gl0 X3 (ent 7 (e7 c7) (ent 8 (e8 c8) (ent 10 (e10 c10) (ent 9 (e9 c9) (gnil))))) ow Try.f3 [] [] k n = T3 B c7 c8 c10 c9 (fun y => k (.c (.bool y)) []) := by kernel_rfl
theorem nt3 {R R' : Type} (B : Ops) (c7 : Option (Bool)) (c8 : List UInt8 → List UInt8 → Option (Bool)) (c10 : List UInt8 → Option ((List ty36.den))) (c9 : List ty36.den → Option ((List ty36.den))) (k0 : (Bool) → Option R') (k : R' → Option R) : T3 B c7 c8 c10 c9 (fun y => ob (k0 y) k) = ob (T3 B c7 c8 c10 c9 k0) k := by
  unfold T3
  repeat' first | exact rfl | apply nat_cond | (apply nat_ob; intro)
def F3 (c7 : Option (Bool)) (c8 : List UInt8 → List UInt8 → Option (Bool)) (c10 : List UInt8 → Option ((List ty36.den))) (c9 : List ty36.den → Option ((List ty36.den))) : Option (Bool) := T3 Ops.std c7 c8 c10 c9 some
theorem fo3 {R : Type} (c7 : Option (Bool)) (c8 : List UInt8 → List UInt8 → Option (Bool)) (c10 : List UInt8 → Option ((List ty36.den))) (c9 : List ty36.den → Option ((List ty36.den))) (k : AV → Objs → Option R) (n : Nat) : afun tau Ops.std gl0 X3 (ent 7 (e7 c7) (ent 8 (e8 c8) (ent 10 (e10 c10) (ent 9 (e9 c9) (gnil))))) ow Try.f3 [] [] k n = ob (F3 c7 c8 c10 c9) (fun y => k (.c (.bool y)) []) := by rw [eq3]; exact nt3 Ops.std c7 c8 c10 c9 some (fun y => k (.c (.bool y)) [])
def e3 {R : Type} (c : Option (Bool)) : Ent R := fun args objs k =>
  oNil args <| oNilO objs <| ob (c ) fun y => k (.c (.bool y)) []
abbrev Sp3 (c : Option (Bool)) : Prop := ∀ (y : Bool), c = some y → Spec Try.prog gl0 3 [] [] (.c (.bool y)) []
theorem ek3 {R : Type} {c : Option (Bool)} (hs : Sp3 c) : EOk 3 (e3 (R := R) c) := fun args objs k r h => by
  unfold e3 at h
  obtain ⟨rfl, q1⟩ := oNil_some h
  obtain ⟨rfl, q2⟩ := oNilO_some q1
  exact eok_of (hs ) q2
theorem sf3 {c7 : Option (Bool)} {c8 : List UInt8 → List UInt8 → Option (Bool)} {c10 : List UInt8 → Option ((List ty36.den))} {c9 : List ty36.den → Option ((List ty36.den))} (h7 : Sp7 c7) (h8 : Sp8 c8) (h10 : Sp10 c10) (h9 : Sp9 c9) : Sp3 (F3 c7 c8 c10 c9) := fun y hy => by
  refine spec_of (G := ent 7 (e7 c7) (ent 8 (e8 c8) (ent 10 (e10 c10) (ent 9 (e9 c9) (gnil))))) (ent_ok (ek7 h7) (ent_ok (ek8 h8) (ent_ok (ek10 h10) (ent_ok (ek9 h9) (gnil_ok))))) 1000000 (fn := Try.f3) (by kernel_rfl) (by kernel_rfl) (X := X3) (by kernel_rfl) ?_
  rw [fo3, hy]
  rfl
noncomputable def M3 : Option (Bool) := F3 M7 M8 M10 M9
theorem sm3 : Sp3 M3 := sf3 sm7 sm8 sm10 sm9
end Go.Proofs.Ytccnmhdgghjgoaa.Av
