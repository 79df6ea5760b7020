/- Twins of functions, printed by gen.py. Conditions: none. -/
import Derived.Test.YtfdlgmbbflmbgaaFT1
import Derived.KernelRfl
set_option linter.unusedVariables false
set_option maxRecDepth 100000
set_option maxHeartbeats 8000000
namespace Go.Proofs.Ytfdlgmbbflmbgaa.Av
open Go

/-! ### 19: lariat/lariatref7.SameInts -/
def X19 : Aux := ⟨[(4, [2, 3, 4, 6, 7, 8, 9, 10, 11, 12, 13, 14, 15, 16, 17, 18, 19, 20, 21, 22, 23, 24, 25])], [(6, .lin [0, 1, 2, 3, 4, 5, 6, 7, 8])]⟩
inductive S19 where
  | l0 (v0_2 : Int)
def T19 {R : Type} (B : Ops) (p0 : List ty3.den) (p1 : List ty3.den) (again : S19 → Option R) (k : (Bool) → Option R) : Option S19 → Option R
  | none =>
    cond (!Ops.eq B (Nat.cast (List.length p0)) (Nat.cast (List.length p1)))
     (
      k false)
     (
      again (.l0 0))
  | some (.l0 v0_2) =>
    cond (Ops.lt B v0_2 (Nat.cast (List.length p0)))
     (
      cond (Ops.inb B v0_2 (List.length p0))
       (
        cond (Ops.inb B v0_2 (List.length p1))
         (
          cond (!Ops.eq B (List.getD p0 (Int.toNat v0_2) (Ty.dflt ty3)) (List.getD p1 (Int.toNat v0_2) (Ty.dflt ty3)))
           (
            k false)
           (
            again (.l0 (IntKind.wrap IntKind.i64 (v0_2 + 1)))))
         (
          none))
       (
        none))
     (
      k true)
def E19 (p0 : List ty3.den) (p1 : List ty3.den) : S19 → List AV × Objs
  | .l0 v0_2 => (mk 26 [(0, .c (.list 3 ty3 p0)), (1, .c (.list 3 ty3 p1)), (5, .c (.int .i64 v0_2))], [])
def I19 : S19 → Nat
  | .l0 _ => 0
theorem eq19 {R : Type} (B : Ops) (p0 : List ty3.den) (p1 : List ty3.den) (k : AV → Objs → Option R) (n : Nat) : afun tau B gl0 X19 (gnil) ow Try.f19 [.c (.list 3 ty3 p0), .c (.list 3 ty3 p1)] [] k n = T19 B p0 p1 (fun s => aloop tau B gl0 X19 (gnil) ow [] Try.f19 k (I19 s) (E19 p0 p1 s) n) (fun y => k (.c (.bool y)) []) none := by kernel_rfl
theorem el19 {R : Type} (B : Ops) (p0 : List ty3.den) (p1 : List ty3.den) (k : AV → Objs → Option R) (n : Nat) : ∀ s, aloop tau B gl0 X19 (gnil) ow [] Try.f19 k (I19 s) (E19 p0 p1 s) (n + 1) = T19 B p0 p1 (fun s => aloop tau B gl0 X19 (gnil) ow [] Try.f19 k (I19 s) (E19 p0 p1 s) n) (fun y => k (.c (.bool y)) []) (some s)
  | .l0 v0_2 => by kernel_rfl
theorem nt19 {R R' : Type} (B : Ops) (p0 : List ty3.den) (p1 : List ty3.den) (again : S19 → Option R) (again' : S19 → Option R') (k0 : (Bool) → Option R') (k : R' → Option R) (h : ∀ s, again s = ob (again' s) k) : ∀ s, T19 B p0 p1 again (fun y => ob (k0 y) k) s = ob (T19 B p0 p1 again' k0 s) k
  | none => by unfold T19; repeat' first | exact rfl | exact h _ | apply nat_cond | (apply nat_ob; intro)
  | some (.l0 v0_2) => by unfold T19; repeat' first | exact rfl | exact h _ | apply nat_cond | (apply nat_ob; intro)
def R19 (p0 : List ty3.den) (p1 : List ty3.den) : Nat → S19 → Option (Bool)
  | 0, _ => none
  | n + 1, s => T19 Ops.std p0 p1 (R19 p0 p1 n) some (some s)
theorem rr19 {R : Type} (p0 : List ty3.den) (p1 : List ty3.den) (k : AV → Objs → Option R) : ∀ (n : Nat) (s : S19), aloop tau Ops.std gl0 X19 (gnil) ow [] Try.f19 k (I19 s) (E19 p0 p1 s) n = ob (R19 p0 p1 n s) (fun y => k (.c (.bool y)) [])
  | 0, s => by cases s <;> rfl
  | n + 1, s => by rw [el19]; exact nt19 Ops.std p0 p1 _ _ some (fun y => k (.c (.bool y)) []) (rr19 p0 p1 k n) (some s)
def F19 (p0 : List ty3.den) (p1 : List ty3.den) : Option (Bool) := T19 Ops.std p0 p1 (R19 p0 p1 1000000) some none
theorem fo19 {R : Type} (p0 : List ty3.den) (p1 : List ty3.den) (k : AV → Objs → Option R) : afun tau Ops.std gl0 X19 (gnil) ow Try.f19 [.c (.list 3 ty3 p0), .c (.list 3 ty3 p1)] [] k 1000000 = ob (F19 p0 p1) (fun y => k (.c (.bool y)) []) := by rw [eq19]; exact nt19 Ops.std p0 p1 _ _ some (fun y => k (.c (.bool y)) []) (rr19 p0 p1 k 1000000) none
def e19 {R : Type} (c : List ty3.den → List ty3.den → Option (Bool)) : Ent R := fun args objs k =>
  oCons args fun a0 l0 => oC a0 fun x0 => cList 3 ty3 x0 fun p0 => oCons l0 fun a1 l1 => oC a1 fun x1 => cList 3 ty3 x1 fun p1 => oNil l1 <| oNilO objs <| ob (c p0 p1) fun y => k (.c (.bool y)) []
abbrev Sp19 (c : List ty3.den → List ty3.den → Option (Bool)) : Prop := ∀ (p0 : List ty3.den) (p1 : List ty3.den) (y : Bool), c p0 p1 = some y → Spec Try.prog gl0 19 [.c (.list 3 ty3 p0), .c (.list 3 ty3 p1)] [] (.c (.bool y)) []
theorem ek19 {R : Type} {c : List ty3.den → List ty3.den → Option (Bool)} (hs : Sp19 c) : EOk 19 (e19 (R := R) c) := fun args objs k r h => by
  unfold e19 at h
  obtain ⟨a0, l0, rfl, q1⟩ := oCons_some h
  obtain ⟨x0, rfl, q2⟩ := oC_some q1
  obtain ⟨p0, rfl, q3⟩ := cList_some q2
  obtain ⟨a1, l1, rfl, q4⟩ := oCons_some q3
  obtain ⟨x1, rfl, q5⟩ := oC_some q4
  obtain ⟨p1, rfl, q6⟩ := cList_some q5
  obtain ⟨rfl, q7⟩ := oNil_some q6
  obtain ⟨rfl, q8⟩ := oNilO_some q7
  exact eok_of (hs p0 p1) q8
theorem sf19 : Sp19 (F19) := fun p0 p1 y hy => by
  refine spec_of (G := gnil) (gnil_ok) 1000000 (fn := Try.f19) (by kernel_rfl) (by kernel_rfl) (X := X19) (by kernel_rfl) ?_
  rw [fo19, hy]
  rfl
noncomputable def M19 : List ty3.den → List ty3.den → Option (Bool) := F19
theorem sm19 : Sp19 M19 := sf19

/-! ### 18: lariat/fair.Met -/
def X18 : Aux := ⟨[(6, [2, 3, 7, 8, 9, 10, 11, 12, 13, 14, 15, 16, 17, 18, 22, 23, 24, 25, 26, 27, 28, 29, 30, 31, 32, 33, 34, 35, 36, 37, 38, 39, 40, 41, 42, 43, 44, 45, 46, 47, 48, 49, 50, 51, 52, 53, 54, 55, 56, 57, 58, 59, 60])], []⟩
inductive S18 where
  | l0 (v0_2 : Int) (v0_3 : Int) (v0_5 : List ty22.den) (v0_6 : List ty4.den) (v0_7 : List ty3.den)
def T18 {R : Type} (B : Ops) (c43 : List ty66.den → Option ((List ty22.den))) (c20 : List ty66.den → Option ((List ty3.den))) (p0 : List ty66.den) (p1 : List ty4.den) (again : S18 → Option R) (k : ((List ty4.den)) → Option R) : Option S18 → Option R
  | none =>
    cond (!Ops.eq B (Nat.cast (List.length p1)) (Nat.cast (List.length p0)))
     (
      k [])
     (
      ob (c43 p0) fun y0 =>
      ob (c20 p0) fun y1 =>
      again (.l0 (Nat.cast (List.length y1)) 0 y0 [] y1))
  | some (.l0 v0_2 v0_3 v0_5 v0_6 v0_7) =>
    cond (Ops.lt B v0_3 v0_2)
     (
      cond (Ops.inb B v0_3 (List.length v0_7))
       (
        cond (Ops.inb B (List.getD v0_7 (Int.toNat v0_3) (Ty.dflt ty3)) (List.length v0_5))
         (
          cond (Ops.inb B (1) (List.length (List.getD v0_5 (Int.toNat (List.getD v0_7 (Int.toNat v0_3) (Ty.dflt ty3))) (Ty.dflt ty22))))
           (
            cond (Ops.inb B (List.getD (List.getD v0_5 (Int.toNat (List.getD v0_7 (Int.toNat v0_3) (Ty.dflt ty3))) (Ty.dflt ty22)) (Int.toNat (1)) (Ty.dflt (Ty.int IntKind.i64))) (List.length p1))
             (
              cond (Ops.inb B (List.getD v0_7 (Int.toNat v0_3) (Ty.dflt ty3)) (List.length p1))
               (
                cond (!List.getD p1 (Int.toNat (List.getD v0_7 (Int.toNat v0_3) (Ty.dflt ty3))) (Ty.dflt ty4))
                 (
                  cond (Ops.inb B (List.getD v0_7 (Int.toNat v0_3) (Ty.dflt ty3)) (List.length p0))
                   (
                    cond (Ops.eq B (Prod.fst (List.getD p0 (Int.toNat (List.getD v0_7 (Int.toNat v0_3) (Ty.dflt ty3))) (Ty.dflt ty66))) (10))
                     (
                      cond (Ops.inb B (List.getD v0_7 (Int.toNat v0_3) (Ty.dflt ty3)) (List.length p1))
                       (
                        cond (List.getD p1 (Int.toNat (List.getD v0_7 (Int.toNat v0_3) (Ty.dflt ty3))) (Ty.dflt ty4))
                         (
                          cond (Ops.lim B (List.length v0_6 + 1) (1))
                           (
                            again (.l0 v0_2 (IntKind.wrap IntKind.i64 (v0_3 + 1)) v0_5 (v0_6 ++ [true]) v0_7))
                           (
                            none))
                         (
                          cond (Ops.lim B (List.length v0_6 + 1) (1))
                           (
                            again (.l0 v0_2 (IntKind.wrap IntKind.i64 (v0_3 + 1)) v0_5 (v0_6 ++ [!List.getD p1 (Int.toNat (List.getD (List.getD v0_5 (Int.toNat (List.getD v0_7 (Int.toNat v0_3) (Ty.dflt ty3))) (Ty.dflt ty22)) (Int.toNat (1)) (Ty.dflt (Ty.int IntKind.i64)))) (Ty.dflt ty4)]) v0_7))
                           (
                            none)))
                       (
                        none))
                     (
                      cond (Ops.lim B (List.length v0_6 + 1) (1))
                       (
                        again (.l0 v0_2 (IntKind.wrap IntKind.i64 (v0_3 + 1)) v0_5 (v0_6 ++ [true]) v0_7))
                       (
                        none)))
                   (
                    none))
                 (
                  cond (Ops.inb B (List.getD v0_7 (Int.toNat v0_3) (Ty.dflt ty3)) (List.length p0))
                   (
                    cond (Ops.eq B (Prod.fst (List.getD p0 (Int.toNat (List.getD v0_7 (Int.toNat v0_3) (Ty.dflt ty3))) (Ty.dflt ty66))) (10))
                     (
                      cond (Ops.inb B (List.getD v0_7 (Int.toNat v0_3) (Ty.dflt ty3)) (List.length p1))
                       (
                        cond (List.getD p1 (Int.toNat (List.getD v0_7 (Int.toNat v0_3) (Ty.dflt ty3))) (Ty.dflt ty4))
                         (
                          cond (Ops.lim B (List.length v0_6 + 1) (1))
                           (
                            again (.l0 v0_2 (IntKind.wrap IntKind.i64 (v0_3 + 1)) v0_5 (v0_6 ++ [true]) v0_7))
                           (
                            none))
                         (
                          cond (Ops.lim B (List.length v0_6 + 1) (1))
                           (
                            again (.l0 v0_2 (IntKind.wrap IntKind.i64 (v0_3 + 1)) v0_5 (v0_6 ++ [!List.getD p1 (Int.toNat (List.getD (List.getD v0_5 (Int.toNat (List.getD v0_7 (Int.toNat v0_3) (Ty.dflt ty3))) (Ty.dflt ty22)) (Int.toNat (1)) (Ty.dflt (Ty.int IntKind.i64)))) (Ty.dflt ty4)]) v0_7))
                           (
                            none)))
                       (
                        none))
                     (
                      cond (Ops.lim B (List.length v0_6 + 1) (1))
                       (
                        again (.l0 v0_2 (IntKind.wrap IntKind.i64 (v0_3 + 1)) v0_5 (v0_6 ++ [List.getD p1 (Int.toNat (List.getD (List.getD v0_5 (Int.toNat (List.getD v0_7 (Int.toNat v0_3) (Ty.dflt ty3))) (Ty.dflt ty22)) (Int.toNat (1)) (Ty.dflt (Ty.int IntKind.i64)))) (Ty.dflt ty4)]) v0_7))
                       (
                        none)))
                   (
                    none)))
               (
                none))
             (
              none))
           (
            none))
         (
          none))
       (
        none))
     (
      k v0_6)
def E18 (p0 : List ty66.den) (p1 : List ty4.den) : S18 → List AV × Objs
  | .l0 v0_2 v0_3 v0_5 v0_6 v0_7 => (mk 62 [(0, .c (.list 66 ty66 p0)), (1, .c (.list 4 ty4 p1)), (4, .c (.own 4)), (5, .c (.own 5)), (6, .c (.own 6)), (19, .c (.own 19)), (20, .c (.int .i64 v0_2)), (21, .c (.int .i64 v0_3))], [(4, .row 4 ty4 []), (5, .row 22 ty22 v0_5), (6, .row 4 ty4 v0_6), (19, .row 3 ty3 v0_7)])
def I18 : S18 → Nat
  | .l0 _ _ _ _ _ => 0
theorem eq18 {R : Type} (B : Ops) (c43 : List ty66.den → Option ((List ty22.den))) (c20 : List ty66.den → Option ((List ty3.den))) (p0 : List ty66.den) (p1 : List ty4.den) (k : AV → Objs → Option R) (n : Nat) : afun tau B gl0 X18 (ent 43 (e43 c43) (ent 20 (e20 c20) (gnil))) ow Try.f18 [.c (.list 66 ty66 p0), .c (.list 4 ty4 p1)] [] k n = T18 B c43 c20 p0 p1 (fun s => aloop tau B gl0 X18 (ent 43 (e43 c43) (ent 20 (e20 c20) (gnil))) ow [] Try.f18 k (I18 s) (E18 p0 p1 s) n) (fun y => k (.c (.own 500)) [(500, .row 4 ty4 y)]) none := by kernel_rfl
theorem el18 {R : Type} (B : Ops) (c43 : List ty66.den → Option ((List ty22.den))) (c20 : List ty66.den → Option ((List ty3.den))) (p0 : List ty66.den) (p1 : List ty4.den) (k : AV → Objs → Option R) (n : Nat) : ∀ s, aloop tau B gl0 X18 (ent 43 (e43 c43) (ent 20 (e20 c20) (gnil))) ow [] Try.f18 k (I18 s) (E18 p0 p1 s) (n + 1) = T18 B c43 c20 p0 p1 (fun s => aloop tau B gl0 X18 (ent 43 (e43 c43) (ent 20 (e20 c20) (gnil))) ow [] Try.f18 k (I18 s) (E18 p0 p1 s) n) (fun y => k (.c (.own 500)) [(500, .row 4 ty4 y)]) (some s)
  | .l0 v0_2 v0_3 v0_5 v0_6 v0_7 => by kernel_rfl
theorem nt18 {R R' : Type} (B : Ops) (c43 : List ty66.den → Option ((List ty22.den))) (c20 : List ty66.den → Option ((List ty3.den))) (p0 : List ty66.den) (p1 : List ty4.den) (again : S18 → Option R) (again' : S18 → Option R') (k0 : ((List ty4.den)) → Option R') (k : R' → Option R) (h : ∀ s, again s = ob (again' s) k) : ∀ s, T18 B c43 c20 p0 p1 again (fun y => ob (k0 y) k) s = ob (T18 B c43 c20 p0 p1 again' k0 s) k
  | none => by unfold T18; repeat' first | exact rfl | exact h _ | apply nat_cond | (apply nat_ob; intro)
  | some (.l0 v0_2 v0_3 v0_5 v0_6 v0_7) => by unfold T18; repeat' first | exact rfl | exact h _ | apply nat_cond | (apply nat_ob; intro)
def R18 (c43 : List ty66.den → Option ((List ty22.den))) (c20 : List ty66.den → Option ((List ty3.den))) (p0 : List ty66.den) (p1 : List ty4.den) : Nat → S18 → Option ((List ty4.den))
  | 0, _ => none
  | n + 1, s => T18 Ops.std c43 c20 p0 p1 (R18 c43 c20 p0 p1 n) some (some s)
theorem rr18 {R : Type} (c43 : List ty66.den → Option ((List ty22.den))) (c20 : List ty66.den → Option ((List ty3.den))) (p0 : List ty66.den) (p1 : List ty4.den) (k : AV → Objs → Option R) : ∀ (n : Nat) (s : S18), aloop tau Ops.std gl0 X18 (ent 43 (e43 c43) (ent 20 (e20 c20) (gnil))) ow [] Try.f18 k (I18 s) (E18 p0 p1 s) n = ob (R18 c43 c20 p0 p1 n s) (fun y => k (.c (.own 500)) [(500, .row 4 ty4 y)])
  | 0, s => by cases s <;> rfl
  | n + 1, s => by rw [el18]; exact nt18 Ops.std c43 c20 p0 p1 _ _ some (fun y => k (.c (.own 500)) [(500, .row 4 ty4 y)]) (rr18 c43 c20 p0 p1 k n) (some s)
def F18 (c43 : List ty66.den → Option ((List ty22.den))) (c20 : List ty66.den → Option ((List ty3.den))) (p0 : List ty66.den) (p1 : List ty4.den) : Option ((List ty4.den)) := T18 Ops.std c43 c20 p0 p1 (R18 c43 c20 p0 p1 1000000) some none
theorem fo18 {R : Type} (c43 : List ty66.den → Option ((List ty22.den))) (c20 : List ty66.den → Option ((List ty3.den))) (p0 : List ty66.den) (p1 : List ty4.den) (k : AV → Objs → Option R) : afun tau Ops.std gl0 X18 (ent 43 (e43 c43) (ent 20 (e20 c20) (gnil))) ow Try.f18 [.c (.list 66 ty66 p0), .c (.list 4 ty4 p1)] [] k 1000000 = ob (F18 c43 c20 p0 p1) (fun y => k (.c (.own 500)) [(500, .row 4 ty4 y)]) := by rw [eq18]; exact nt18 Ops.std c43 c20 p0 p1 _ _ some (fun y => k (.c (.own 500)) [(500, .row 4 ty4 y)]) (rr18 c43 c20 p0 p1 k 1000000) none
def e18 {R : Type} (c : List ty66.den → List ty4.den → Option ((List ty4.den))) : Ent R := fun args objs k =>
  oCons args fun a0 l0 => oC a0 fun x0 => cList 66 ty66 x0 fun p0 => oCons l0 fun a1 l1 => oC a1 fun x1 => cList 4 ty4 x1 fun p1 => oNil l1 <| oNilO objs <| ob (c p0 p1) fun y => k (.c (.own 500)) [(500, .row 4 ty4 y)]
abbrev Sp18 (c : List ty66.den → List ty4.den → Option ((List ty4.den))) : Prop := ∀ (p0 : List ty66.den) (p1 : List ty4.den) (y : (List ty4.den)), c p0 p1 = some y → Spec Try.prog gl0 18 [.c (.list 66 ty66 p0), .c (.list 4 ty4 p1)] [] (.c (.own 500)) [(500, .row 4 ty4 y)]
theorem ek18 {R : Type} {c : List ty66.den → List ty4.den → Option ((List ty4.den))} (hs : Sp18 c) : EOk 18 (e18 (R := R) c) := fun args objs k r h => by
  unfold e18 at h
  obtain ⟨a0, l0, rfl, q1⟩ := oCons_some h
  obtain ⟨x0, rfl, q2⟩ := oC_some q1
  obtain ⟨p0, rfl, q3⟩ := cList_some q2
  obtain ⟨a1, l1, rfl, q4⟩ := oCons_some q3
  obtain ⟨x1, rfl, q5⟩ := oC_some q4
  obtain ⟨p1, rfl, q6⟩ := cList_some q5
  obtain ⟨rfl, q7⟩ := oNil_some q6
  obtain ⟨rfl, q8⟩ := oNilO_some q7
  exact eok_of (hs p0 p1) q8
theorem sf18 {c43 : List ty66.den → Option ((List ty22.den))} {c20 : List ty66.den → Option ((List ty3.den))} (h43 : Sp43 c43) (h20 : Sp20 c20) : Sp18 (F18 c43 c20) := fun p0 p1 y hy => by
  refine spec_of (G := ent 43 (e43 c43) (ent 20 (e20 c20) (gnil))) (ent_ok (ek43 h43) (ent_ok (ek20 h20) (gnil_ok))) 1000000 (fn := Try.f18) (by kernel_rfl) (by kernel_rfl) (X := X18) (by kernel_rfl) ?_
  rw [fo18, hy]
  rfl
noncomputable def M18 : List ty66.den → List ty4.den → Option ((List ty4.den)) := F18 M43 M20
theorem sm18 : Sp18 M18 := sf18 sm43 sm20

/-! ### 51: lariat/lariatref13.operands -/
def X51 : Aux := ⟨[], []⟩
def T51 {R : Type} (B : Ops) (p0 : Int) (k : (Int) → Option R) : Option R :=
  cond (Ops.eq B p0 (1))
   (
    k 0)
   (
    cond (Ops.eq B p0 (2))
     (
      k 0)
     (
      cond (Ops.eq B p0 (3))
       (
        k 0)
       (
        cond (Ops.eq B p0 (4))
         (
          k 1)
         (
          cond (Ops.eq B p0 (8))
           (
            k 1)
           (
            cond (Ops.eq B p0 (11))
             (
              k 1)
             (
              cond (Ops.eq B p0 (12))
               (
                k 1)
               (
                cond (Ops.eq B p0 (5))
                 (
                  k 2)
                 (
                  cond (Ops.eq B p0 (6))
                   (
                    k 2)
                   (
                    cond (Ops.eq B p0 (7))
                     (
                      k 2)
                     (
                      cond (Ops.eq B p0 (9))
                       (
                        k 2)
                       (
                        cond (Ops.eq B p0 (10))
                         (
                          k 2)
                         (
                          k (-1)))))))))))))
theorem eq51 {R : Type} (B : Ops) (p0 : Int) (k : AV → Objs → Option R) (n : Nat) : afun tau B gl0 X51 (gnil) ow Try.f51 [.c (.int .i64 p0)] [] k n = T51 B p0 (fun y => k (.c (.int .i64 y)) []) := by kernel_rfl
theorem nt51 {R R' : Type} (B : Ops) (p0 : Int) (k0 : (Int) → Option R') (k : R' → Option R) : T51 B p0 (fun y => ob (k0 y) k) = ob (T51 B p0 k0) k := by
  unfold T51
  repeat' first | exact rfl | apply nat_cond | (apply nat_ob; intro)
def F51 (p0 : Int) : Option (Int) := T51 Ops.std p0 some
theorem fo51 {R : Type} (p0 : Int) (k : AV → Objs → Option R) (n : Nat) : afun tau Ops.std gl0 X51 (gnil) ow Try.f51 [.c (.int .i64 p0)] [] k n = ob (F51 p0) (fun y => k (.c (.int .i64 y)) []) := by rw [eq51]; exact nt51 Ops.std p0 some (fun y => k (.c (.int .i64 y)) [])
def e51 {R : Type} (c : Int → Option (Int)) : Ent R := fun args objs k =>
  oCons args fun a0 l0 => oC a0 fun x0 => cInt .i64 x0 fun p0 => oNil l0 <| oNilO objs <| ob (c p0) fun y => k (.c (.int .i64 y)) []
abbrev Sp51 (c : Int → Option (Int)) : Prop := ∀ (p0 : Int) (y : Int), c p0 = some y → Spec Try.prog gl0 51 [.c (.int .i64 p0)] [] (.c (.int .i64 y)) []
theorem ek51 {R : Type} {c : Int → Option (Int)} (hs : Sp51 c) : EOk 51 (e51 (R := R) c) := fun args objs k r h => by
  unfold e51 at h
  obtain ⟨a0, l0, rfl, q1⟩ := oCons_some h
  obtain ⟨x0, rfl, q2⟩ := oC_some q1
  obtain ⟨p0, rfl, q3⟩ := cInt_some q2
  obtain ⟨rfl, q4⟩ := oNil_some q3
  obtain ⟨rfl, q5⟩ := oNilO_some q4
  exact eok_of (hs p0) q5
theorem sf51 : Sp51 (F51) := fun p0 y hy => by
  refine spec_of (G := gnil) (gnil_ok) 1000000 (fn := Try.f51) (by kernel_rfl) (by kernel_rfl) (X := X51) (by kernel_rfl) ?_
  rw [fo51, hy]
  rfl
noncomputable def M51 : Int → Option (Int) := F51
theorem sm51 : Sp51 M51 := sf51

/-! ### 71: lariat/lariatref7.arity -/
def X71 : Aux := ⟨[], []⟩
def T71 {R : Type} (B : Ops) (p0 : Int) (k : (Int) → Option R) : Option R :=
  cond (Ops.le B (1) p0)
   (
    cond (Ops.le B p0 (3))
     (
      k 0)
     (
      cond (Ops.eq B p0 (4))
       (
        k 1)
       (
        cond (Ops.eq B p0 (5))
         (
          k 1)
         (
          cond (Ops.le B (6) p0)
           (
            cond (Ops.le B p0 (16))
             (
              k 2)
             (
              k (-1)))
           (
            k (-1))))))
   (
    cond (Ops.eq B p0 (4))
     (
      k 1)
     (
      cond (Ops.eq B p0 (5))
       (
        k 1)
       (
        cond (Ops.le B (6) p0)
         (
          cond (Ops.le B p0 (16))
           (
            k 2)
           (
            k (-1)))
         (
          k (-1)))))
theorem eq71 {R : Type} (B : Ops) (p0 : Int) (k : AV → Objs → Option R) (n : Nat) : afun tau B gl0 X71 (gnil) ow Try.f71 [.c (.int .i64 p0)] [] k n = T71 B p0 (fun y => k (.c (.int .i64 y)) []) := by kernel_rfl
theorem nt71 {R R' : Type} (B : Ops) (p0 : Int) (k0 : (Int) → Option R') (k : R' → Option R) : T71 B p0 (fun y => ob (k0 y) k) = ob (T71 B p0 k0) k := by
  unfold T71
  repeat' first | exact rfl | apply nat_cond | (apply nat_ob; intro)
def F71 (p0 : Int) : Option (Int) := T71 Ops.std p0 some
theorem fo71 {R : Type} (p0 : Int) (k : AV → Objs → Option R) (n : Nat) : afun tau Ops.std gl0 X71 (gnil) ow Try.f71 [.c (.int .i64 p0)] [] k n = ob (F71 p0) (fun y => k (.c (.int .i64 y)) []) := by rw [eq71]; exact nt71 Ops.std p0 some (fun y => k (.c (.int .i64 y)) [])
def e71 {R : Type} (c : Int → Option (Int)) : Ent R := fun args objs k =>
  oCons args fun a0 l0 => oC a0 fun x0 => cInt .i64 x0 fun p0 => oNil l0 <| oNilO objs <| ob (c p0) fun y => k (.c (.int .i64 y)) []
abbrev Sp71 (c : Int → Option (Int)) : Prop := ∀ (p0 : Int) (y : Int), c p0 = some y → Spec Try.prog gl0 71 [.c (.int .i64 p0)] [] (.c (.int .i64 y)) []
theorem ek71 {R : Type} {c : Int → Option (Int)} (hs : Sp71 c) : EOk 71 (e71 (R := R) c) := fun args objs k r h => by
  unfold e71 at h
  obtain ⟨a0, l0, rfl, q1⟩ := oCons_some h
  obtain ⟨x0, rfl, q2⟩ := oC_some q1
  obtain ⟨p0, rfl, q3⟩ := cInt_some q2
  obtain ⟨rfl, q4⟩ := oNil_some q3
  obtain ⟨rfl, q5⟩ := oNilO_some q4
  exact eok_of (hs p0) q5
theorem sf71 : Sp71 (F71) := fun p0 y hy => by
  refine spec_of (G := gnil) (gnil_ok) 1000000 (fn := Try.f71) (by kernel_rfl) (by kernel_rfl) (X := X71) (by kernel_rfl) ?_
  rw [fo71, hy]
  rfl
noncomputable def M71 : Int → Option (Int) := F71
theorem sm71 : Sp71 M71 := sf71

/-! ### 83: lariat/lariatref7.IsWord -/
def X83 : Aux := ⟨[(2, [1, 2, 4, 5, 6, 7, 8, 9, 10, 11, 12, 13, 14, 15, 16, 17, 18, 19, 20, 21, 22, 23, 24, 25])], []⟩
inductive S83 where
  | l0 (v0_1 : Int)
def T83 {R : Type} (B : Ops) (c77 : Int → Option (Bool)) (c76 : Int → Option (Bool)) (p0 : List UInt8) (again : S83 → Option R) (k : (Bool) → Option R) : Option S83 → Option R
  | none =>
    again (.l0 0)
  | some (.l0 v0_1) =>
    cond (Ops.lt B v0_1 (Nat.cast (List.length p0)))
     (
      cond (Ops.inb B v0_1 (List.length p0))
       (
        ob (c77 (Nat.cast (UInt8.toNat (List.getD p0 (Int.toNat v0_1) (0))))) fun y0 =>
        cond (!y0)
         (
          cond (Ops.eq B v0_1 (0))
           (
            k false)
           (
            cond (Ops.inb B v0_1 (List.length p0))
             (
              ob (c76 (Nat.cast (UInt8.toNat (List.getD p0 (Int.toNat v0_1) (0))))) fun y1 =>
              cond (!y1)
               (
                k false)
               (
                again (.l0 (IntKind.wrap IntKind.i64 (v0_1 + 1)))))
             (
              none)))
         (
          again (.l0 (IntKind.wrap IntKind.i64 (v0_1 + 1)))))
       (
        none))
     (
      cond (Ops.le B (1) (Nat.cast (List.length p0)))
       (
        k (Ops.le B (Nat.cast (List.length p0)) (8)))
       (
        k false))
def E83 (p0 : List UInt8) : S83 → List AV × Objs
  | .l0 v0_1 => (mk 34 [(0, .c (.str p0)), (3, .c (.int .i64 v0_1))], [])
def I83 : S83 → Nat
  | .l0 _ => 0
theorem eq83 {R : Type} (B : Ops) (c77 : Int → Option (Bool)) (c76 : Int → Option (Bool)) (p0 : List UInt8) (k : AV → Objs → Option R) (n : Nat) : afun tau B gl0 X83 (ent 77 (e77 c77) (ent 76 (e76 c76) (gnil))) ow Try.f83 [.c (.str p0)] [] k n = T83 B c77 c76 p0 (fun s => aloop tau B gl0 X83 (ent 77 (e77 c77) (ent 76 (e76 c76) (gnil))) ow [] Try.f83 k (I83 s) (E83 p0 s) n) (fun y => k (.c (.bool y)) []) none := by kernel_rfl
theorem el83 {R : Type} (B : Ops) (c77 : Int → Option (Bool)) (c76 : Int → Option (Bool)) (p0 : List UInt8) (k : AV → Objs → Option R) (n : Nat) : ∀ s, aloop tau B gl0 X83 (ent 77 (e77 c77) (ent 76 (e76 c76) (gnil))) ow [] Try.f83 k (I83 s) (E83 p0 s) (n + 1) = T83 B c77 c76 p0 (fun s => aloop tau B gl0 X83 (ent 77 (e77 c77) (ent 76 (e76 c76) (gnil))) ow [] Try.f83 k (I83 s) (E83 p0 s) n) (fun y => k (.c (.bool y)) []) (some s)
  | .l0 v0_1 => by kernel_rfl
theorem nt83 {R R' : Type} (B : Ops) (c77 : Int → Option (Bool)) (c76 : Int → Option (Bool)) (p0 : List UInt8) (again : S83 → Option R) (again' : S83 → Option R') (k0 : (Bool) → Option R') (k : R' → Option R) (h : ∀ s, again s = ob (again' s) k) : ∀ s, T83 B c77 c76 p0 again (fun y => ob (k0 y) k) s = ob (T83 B c77 c76 p0 again' k0 s) k
  | none => by unfold T83; repeat' first | exact rfl | exact h _ | apply nat_cond | (apply nat_ob; intro)
  | some (.l0 v0_1) => by unfold T83; repeat' first | exact rfl | exact h _ | apply nat_cond | (apply nat_ob; intro)
def R83 (c77 : Int → Option (Bool)) (c76 : Int → Option (Bool)) (p0 : List UInt8) : Nat → S83 → Option (Bool)
  | 0, _ => none
  | n + 1, s => T83 Ops.std c77 c76 p0 (R83 c77 c76 p0 n) some (some s)
theorem rr83 {R : Type} (c77 : Int → Option (Bool)) (c76 : Int → Option (Bool)) (p0 : List UInt8) (k : AV → Objs → Option R) : ∀ (n : Nat) (s : S83), aloop tau Ops.std gl0 X83 (ent 77 (e77 c77) (ent 76 (e76 c76) (gnil))) ow [] Try.f83 k (I83 s) (E83 p0 s) n = ob (R83 c77 c76 p0 n s) (fun y => k (.c (.bool y)) [])
  | 0, s => by cases s <;> rfl
  | n + 1, s => by rw [el83]; exact nt83 Ops.std c77 c76 p0 _ _ some (fun y => k (.c (.bool y)) []) (rr83 c77 c76 p0 k n) (some s)
def F83 (c77 : Int → Option (Bool)) (c76 : Int → Option (Bool)) (p0 : List UInt8) : Option (Bool) := T83 Ops.std c77 c76 p0 (R83 c77 c76 p0 1000000) some none
theorem fo83 {R : Type} (c77 : Int → Option (Bool)) (c76 : Int → Option (Bool)) (p0 : List UInt8) (k : AV → Objs → Option R) : afun tau Ops.std gl0 X83 (ent 77 (e77 c77) (ent 76 (e76 c76) (gnil))) ow Try.f83 [.c (.str p0)] [] k 1000000 = ob (F83 c77 c76 p0) (fun y => k (.c (.bool y)) []) := by rw [eq83]; exact nt83 Ops.std c77 c76 p0 _ _ some (fun y => k (.c (.bool y)) []) (rr83 c77 c76 p0 k 1000000) none
def e83 {R : Type} (c : List UInt8 → Option (Bool)) : Ent R := fun args objs k =>
  oCons args fun a0 l0 => oC a0 fun x0 => cStr x0 fun p0 => oNil l0 <| oNilO objs <| ob (c p0) fun y => k (.c (.bool y)) []
abbrev Sp83 (c : List UInt8 → Option (Bool)) : Prop := ∀ (p0 : List UInt8) (y : Bool), c p0 = some y → Spec Try.prog gl0 83 [.c (.str p0)] [] (.c (.bool y)) []
theorem ek83 {R : Type} {c : List UInt8 → Option (Bool)} (hs : Sp83 c) : EOk 83 (e83 (R := R) c) := fun args objs k r h => by
  unfold e83 at h
  obtain ⟨a0, l0, rfl, q1⟩ := oCons_some h
  obtain ⟨x0, rfl, q2⟩ := oC_some q1
  obtain ⟨p0, rfl, q3⟩ := cStr_some q2
  obtain ⟨rfl, q4⟩ := oNil_some q3
  obtain ⟨rfl, q5⟩ := oNilO_some q4
  exact eok_of (hs p0) q5
theorem sf83 {c77 : Int → Option (Bool)} {c76 : Int → Option (Bool)} (h77 : Sp77 c77) (h76 : Sp76 c76) : Sp83 (F83 c77 c76) := fun p0 y hy => by
  refine spec_of (G := ent 77 (e77 c77) (ent 76 (e76 c76) (gnil))) (ent_ok (ek77 h77) (ent_ok (ek76 h76) (gnil_ok))) 1000000 (fn := Try.f83) (by kernel_rfl) (by kernel_rfl) (X := X83) (by kernel_rfl) ?_
  rw [fo83, hy]
  rfl
noncomputable def M83 : List UInt8 → Option (Bool) := F83 M77 M76
theorem sm83 : Sp83 M83 := sf83 sm77 sm76

/-! ### 69: lariat/lariatref7.Right -/
def X69 : Aux := ⟨[(3, [1, 2, 5, 6, 7, 8, 9, 10, 11, 12, 13, 14, 15, 16, 17, 18, 19, 20, 21, 22, 23, 24, 25, 26, 27, 28, 29, 30, 31, 32, 33, 34, 35, 36, 37, 38, 39, 40, 41, 42, 43, 44, 45, 46, 47, 48, 49, 50, 51, 52, 53, 54, 55, 56, 57, 58, 59, 60, 61, 62, 63, 64, 65, 66, 67, 68, 69, 70, 71, 72, 73, 74, 75, 76, 77, 78, 79, 80, 81, 82, 83, 84, 85, 86, 87, 88, 89, 90, 91, 92, 93, 94, 95, 96, 97, 98, 99, 100, 101, 102, 103]), (1000016, [1, 2, 8, 9, 10, 11, 12, 13, 14, 15, 16, 17, 18, 19, 20, 21, 22, 23, 24, 25, 26, 27, 28, 29, 30, 31, 32, 33, 34, 35, 36, 37, 38, 39, 40, 41, 42, 43, 44, 45, 46, 47, 48, 49, 50, 51, 52, 53, 54, 55, 56, 57, 58, 59, 60, 61, 62, 63, 64, 65, 66, 67, 68, 69, 70, 71, 72, 73, 74, 75, 76, 77, 78, 79, 80, 81, 82, 83, 84, 85, 86, 87, 88, 89, 90, 91, 92, 93, 94, 95, 96, 97, 98, 99, 100, 101, 102, 103]), (1000018, [1, 2, 5, 7, 8, 9, 10, 11, 12, 13, 14, 15, 16, 17, 18, 19, 20, 21, 22, 23, 24, 25, 26, 27, 28, 29, 30, 31, 32, 33, 34, 35, 36, 37, 38, 39, 40, 41, 42, 43, 44, 45, 46, 47, 48, 49, 50, 51, 52, 53, 54, 55, 56, 57, 58, 59, 60, 61, 62, 63, 64, 65, 66, 67, 68, 69, 70, 71, 72, 73, 74, 75, 76, 77, 78, 79, 80, 81, 82, 83, 84, 85, 86, 87, 88, 89, 90, 91, 92, 93, 94, 95, 96, 97, 98, 99, 100, 101, 102, 103])], []⟩
inductive S69 where
  | l0 (v0_1 : Int) (v0_2 : Int)
  | l1016 (v1016_1 : Int) (v1016_2 : Int) (v1016_3 : Int) (v1016_4 : Int) (v1016_5 : Int) (v1016_6 : List UInt8) (v1016_7 : List UInt8) (v1016_8 : Int) (v1016_9 : Int) (v1016_10 : List UInt8) (v1016_11 : List UInt8)
  | l1018 (v1018_1 : Int) (v1018_2 : Int) (v1018_3 : Int)
def T69 {R : Type} (B : Ops) (c71 : Int → Option (Int)) (c83 : List UInt8 → Option (Bool)) (p0 : List ty98.den) (again : S69 → Option R) (k : (Bool) → Option R) : Option S69 → Option R
  | none =>
    again (.l0 0 0)
  | some (.l0 v0_1 v0_2) =>
    cond (Ops.lt B v0_2 (Nat.cast (List.length p0)))
     (
      cond (Ops.inb B v0_2 (List.length p0))
       (
        ob (c71 (Prod.fst (List.getD p0 (Int.toNat v0_2) (Ty.dflt ty98)))) fun y0 =>
        cond (Ops.eq B (Prod.fst (List.getD p0 (Int.toNat v0_2) (Ty.dflt ty98))) (1))
         (
          again (.l1016 v0_1 v0_2 y0 (Prod.fst (List.getD p0 (Int.toNat v0_2) (Ty.dflt ty98))) (Prod.fst (Prod.snd (List.getD p0 (Int.toNat v0_2) (Ty.dflt ty98)))) (Prod.fst (Prod.snd (Prod.snd (List.getD p0 (Int.toNat v0_2) (Ty.dflt ty98))))) (Prod.snd (Prod.snd (Prod.snd (List.getD p0 (Int.toNat v0_2) (Ty.dflt ty98))))) (Prod.fst (List.getD p0 (Int.toNat v0_2) (Ty.dflt ty98))) (Prod.fst (Prod.snd (List.getD p0 (Int.toNat v0_2) (Ty.dflt ty98)))) (mt UInt8) (mt UInt8)))
         (
          cond (Ops.eq B (Prod.fst (List.getD p0 (Int.toNat v0_2) (Ty.dflt ty98))) (2))
           (
            again (.l1016 v0_1 v0_2 y0 (Prod.fst (List.getD p0 (Int.toNat v0_2) (Ty.dflt ty98))) (Prod.fst (Prod.snd (List.getD p0 (Int.toNat v0_2) (Ty.dflt ty98)))) (Prod.fst (Prod.snd (Prod.snd (List.getD p0 (Int.toNat v0_2) (Ty.dflt ty98))))) (Prod.snd (Prod.snd (Prod.snd (List.getD p0 (Int.toNat v0_2) (Ty.dflt ty98))))) (Prod.fst (List.getD p0 (Int.toNat v0_2) (Ty.dflt ty98))) 0 (Prod.fst (Prod.snd (Prod.snd (List.getD p0 (Int.toNat v0_2) (Ty.dflt ty98))))) (mt UInt8)))
           (
            cond (Ops.eq B (Prod.fst (List.getD p0 (Int.toNat v0_2) (Ty.dflt ty98))) (3))
             (
              again (.l1016 v0_1 v0_2 y0 (Prod.fst (List.getD p0 (Int.toNat v0_2) (Ty.dflt ty98))) (Prod.fst (Prod.snd (List.getD p0 (Int.toNat v0_2) (Ty.dflt ty98)))) (Prod.fst (Prod.snd (Prod.snd (List.getD p0 (Int.toNat v0_2) (Ty.dflt ty98))))) (Prod.snd (Prod.snd (Prod.snd (List.getD p0 (Int.toNat v0_2) (Ty.dflt ty98))))) (Prod.fst (List.getD p0 (Int.toNat v0_2) (Ty.dflt ty98))) 0 (Prod.fst (Prod.snd (Prod.snd (List.getD p0 (Int.toNat v0_2) (Ty.dflt ty98))))) (Prod.snd (Prod.snd (Prod.snd (List.getD p0 (Int.toNat v0_2) (Ty.dflt ty98)))))))
             (
              again (.l1016 v0_1 v0_2 y0 (Prod.fst (List.getD p0 (Int.toNat v0_2) (Ty.dflt ty98))) (Prod.fst (Prod.snd (List.getD p0 (Int.toNat v0_2) (Ty.dflt ty98)))) (Prod.fst (Prod.snd (Prod.snd (List.getD p0 (Int.toNat v0_2) (Ty.dflt ty98))))) (Prod.snd (Prod.snd (Prod.snd (List.getD p0 (Int.toNat v0_2) (Ty.dflt ty98))))) (Prod.fst (List.getD p0 (Int.toNat v0_2) (Ty.dflt ty98))) 0 (mt UInt8) (mt UInt8))))))
       (
        none))
     (
      cond (Ops.eq B v0_1 (1))
       (
        k (Ops.le B (Nat.cast (List.length p0)) (30)))
       (
        k false))
  | some (.l1016 v1016_1 v1016_2 v1016_3 v1016_4 v1016_5 v1016_6 v1016_7 v1016_8 v1016_9 v1016_10 v1016_11) =>
    cond (Ops.lt B v1016_3 (0))
     (
      k false)
     (
      cond (Ops.lt B v1016_1 v1016_3)
       (
        k false)
       (
        cond (!(Ops.eq B v1016_4 v1016_8 && (Ops.eq B v1016_5 v1016_9 && (v1016_6 == v1016_10 && (v1016_7 == v1016_11 && true)))))
         (
          k false)
         (
          cond (Ops.lt B v1016_5 (0))
           (
            k false)
           (
            cond (Ops.lt B (999) v1016_5)
             (
              k false)
             (
              cond (Ops.eq B v1016_4 (2))
               (
                ob (c83 v1016_6) fun y0 =>
                cond (!y0)
                 (
                  k false)
                 (
                  cond (Ops.eq B v1016_4 (3))
                   (
                    ob (c83 v1016_7) fun y1 =>
                    cond (!y1)
                     (
                      k false)
                     (
                      again (.l1018 v1016_1 v1016_2 v1016_3)))
                   (
                    again (.l1018 v1016_1 v1016_2 v1016_3))))
               (
                cond (Ops.eq B v1016_4 (3))
                 (
                  ob (c83 v1016_6) fun y0 =>
                  cond (!y0)
                   (
                    k false)
                   (
                    cond (Ops.eq B v1016_4 (3))
                     (
                      ob (c83 v1016_7) fun y1 =>
                      cond (!y1)
                       (
                        k false)
                       (
                        again (.l1018 v1016_1 v1016_2 v1016_3)))
                     (
                      again (.l1018 v1016_1 v1016_2 v1016_3))))
                 (
                  cond (Ops.eq B v1016_4 (3))
                   (
                    ob (c83 v1016_7) fun y0 =>
                    cond (!y0)
                     (
                      k false)
                     (
                      again (.l1018 v1016_1 v1016_2 v1016_3)))
                   (
                    again (.l1018 v1016_1 v1016_2 v1016_3)))))))))
  | some (.l1018 v1018_1 v1018_2 v1018_3) =>
    again (.l0 (IntKind.wrap IntKind.i64 (IntKind.wrap IntKind.i64 (v1018_1 - v1018_3) + 1)) (IntKind.wrap IntKind.i64 (v1018_2 + 1)))
def E69 (p0 : List ty98.den) : S69 → List AV × Objs
  | .l0 v0_1 v0_2 => (mk 104 [(0, .c (.list 98 ty98 p0)), (3, .c (.int .i64 v0_1)), (4, .c (.int .i64 v0_2))], [])
  | .l1016 v1016_1 v1016_2 v1016_3 v1016_4 v1016_5 v1016_6 v1016_7 v1016_8 v1016_9 v1016_10 v1016_11 => (mk 104 [(0, .c (.list 98 ty98 p0)), (3, .c (.int .i64 v1016_1)), (4, .c (.int .i64 v1016_2)), (5, .c (.ptr 5 0)), (6, .c (.int .i64 v1016_3)), (7, .c (.ptr 7 0))], [(5, .box 98 [.int .i64 v1016_4, .int .i64 v1016_5, .str v1016_6, .str v1016_7]), (7, .box 98 [.int .i64 v1016_8, .int .i64 v1016_9, .str v1016_10, .str v1016_11])])
  | .l1018 v1018_1 v1018_2 v1018_3 => (mk 104 [(0, .c (.list 98 ty98 p0)), (3, .c (.int .i64 v1018_1)), (4, .c (.int .i64 v1018_2)), (6, .c (.int .i64 v1018_3))], [])
def I69 : S69 → Nat
  | .l0 _ _ => 0
  | .l1016 _ _ _ _ _ _ _ _ _ _ _ => 1016
  | .l1018 _ _ _ => 1018
theorem eq69 {R : Type} (B : Ops) (c71 : Int → Option (Int)) (c83 : List UInt8 → Option (Bool)) (p0 : List ty98.den) (k : AV → Objs → Option R) (n : Nat) : afun tau B gl0 X69 (ent 71 (e71 c71) (ent 83 (e83 c83) (gnil))) ow Try.f69 [.c (.list 98 ty98 p0)] [] k n = T69 B c71 c83 p0 (fun s => aloop tau B gl0 X69 (ent 71 (e71 c71) (ent 83 (e83 c83) (gnil))) ow [] Try.f69 k (I69 s) (E69 p0 s) n) (fun y => k (.c (.bool y)) []) none := by kernel_rfl
theorem el69 {R : Type} (B : Ops) (c71 : Int → Option (Int)) (c83 : List UInt8 → Option (Bool)) (p0 : List ty98.den) (k : AV → Objs → Option R) (n : Nat) : ∀ s, aloop tau B gl0 X69 (ent 71 (e71 c71) (ent 83 (e83 c83) (gnil))) ow [] Try.f69 k (I69 s) (E69 p0 s) (n + 1) = T69 B c71 c83 p0 (fun s => aloop tau B gl0 X69 (ent 71 (e71 c71) (ent 83 (e83 c83) (gnil))) ow [] Try.f69 k (I69 s) (E69 p0 s) n) (fun y => k (.c (.bool y)) []) (some s)
  | .l0 v0_1 v0_2 => by kernel_rfl
  | .l1016 v1016_1 v1016_2 v1016_3 v1016_4 v1016_5 v1016_6 v1016_7 v1016_8 v1016_9 v1016_10 v1016_11 => by kernel_rfl
  | .l1018 v1018_1 v1018_2 v1018_3 => by kernel_rfl
theorem nt69 {R R' : Type} (B : Ops) (c71 : Int → Option (Int)) (c83 : List UInt8 → Option (Bool)) (p0 : List ty98.den) (again : S69 → Option R) (again' : S69 → Option R') (k0 : (Bool) → Option R') (k : R' → Option R) (h : ∀ s, again s = ob (again' s) k) : ∀ s, T69 B c71 c83 p0 again (fun y => ob (k0 y) k) s = ob (T69 B c71 c83 p0 again' k0 s) k
  | none => by unfold T69; repeat' first | exact rfl | exact h _ | apply nat_cond | (apply nat_ob; intro)
  | some (.l0 v0_1 v0_2) => by unfold T69; repeat' first | exact rfl | exact h _ | apply nat_cond | (apply nat_ob; intro)
  | some (.l1016 v1016_1 v1016_2 v1016_3 v1016_4 v1016_5 v1016_6 v1016_7 v1016_8 v1016_9 v1016_10 v1016_11) => by unfold T69; repeat' first | exact rfl | exact h _ | apply nat_cond | (apply nat_ob; intro)
  | some (.l1018 v1018_1 v1018_2 v1018_3) => by unfold T69; repeat' first | exact rfl | exact h _ | apply nat_cond | (apply nat_ob; intro)
def R69 (c71 : Int → Option (Int)) (c83 : List UInt8 → Option (Bool)) (p0 : List ty98.den) : Nat → S69 → Option (Bool)
  | 0, _ => none
  | n + 1, s => T69 Ops.std c71 c83 p0 (R69 c71 c83 p0 n) some (some s)
theorem rr69 {R : Type} (c71 : Int → Option (Int)) (c83 : List UInt8 → Option (Bool)) (p0 : List ty98.den) (k : AV → Objs → Option R) : ∀ (n : Nat) (s : S69), aloop tau Ops.std gl0 X69 (ent 71 (e71 c71) (ent 83 (e83 c83) (gnil))) ow [] Try.f69 k (I69 s) (E69 p0 s) n = ob (R69 c71 c83 p0 n s) (fun y => k (.c (.bool y)) [])
  | 0, s => by cases s <;> rfl
  | n + 1, s => by rw [el69]; exact nt69 Ops.std c71 c83 p0 _ _ some (fun y => k (.c (.bool y)) []) (rr69 c71 c83 p0 k n) (some s)
def F69 (c71 : Int → Option (Int)) (c83 : List UInt8 → Option (Bool)) (p0 : List ty98.den) : Option (Bool) := T69 Ops.std c71 c83 p0 (R69 c71 c83 p0 1000000) some none
theorem fo69 {R : Type} (c71 : Int → Option (Int)) (c83 : List UInt8 → Option (Bool)) (p0 : List ty98.den) (k : AV → Objs → Option R) : afun tau Ops.std gl0 X69 (ent 71 (e71 c71) (ent 83 (e83 c83) (gnil))) ow Try.f69 [.c (.list 98 ty98 p0)] [] k 1000000 = ob (F69 c71 c83 p0) (fun y => k (.c (.bool y)) []) := by rw [eq69]; exact nt69 Ops.std c71 c83 p0 _ _ some (fun y => k (.c (.bool y)) []) (rr69 c71 c83 p0 k 1000000) none
def e69 {R : Type} (c : List ty98.den → Option (Bool)) : Ent R := fun args objs k =>
  oCons args fun a0 l0 => oC a0 fun x0 => cList 98 ty98 x0 fun p0 => oNil l0 <| oNilO objs <| ob (c p0) fun y => k (.c (.bool y)) []
abbrev Sp69 (c : List ty98.den → Option (Bool)) : Prop := ∀ (p0 : List ty98.den) (y : Bool), c p0 = some y → Spec Try.prog gl0 69 [.c (.list 98 ty98 p0)] [] (.c (.bool y)) []
theorem ek69 {R : Type} {c : List ty98.den → Option (Bool)} (hs : Sp69 c) : EOk 69 (e69 (R := R) c) := fun args objs k r h => by
  unfold e69 at h
  obtain ⟨a0, l0, rfl, q1⟩ := oCons_some h
  obtain ⟨x0, rfl, q2⟩ := oC_some q1
  obtain ⟨p0, rfl, q3⟩ := cList_some q2
  obtain ⟨rfl, q4⟩ := oNil_some q3
  obtain ⟨rfl, q5⟩ := oNilO_some q4
  exact eok_of (hs p0) q5
theorem sf69 {c71 : Int → Option (Int)} {c83 : List UInt8 → Option (Bool)} (h71 : Sp71 c71) (h83 : Sp83 c83) : Sp69 (F69 c71 c83) := fun p0 y hy => by
  refine spec_of (G := ent 71 (e71 c71) (ent 83 (e83 c83) (gnil))) (ent_ok (ek71 h71) (ent_ok (ek83 h83) (gnil_ok))) 1000000 (fn := Try.f69) (by kernel_rfl) (by kernel_rfl) (X := X69) (by kernel_rfl) ?_
  rw [fo69, hy]
  rfl
noncomputable def M69 : List ty98.den → Option (Bool) := F69 M71 M83
theorem sm69 : Sp69 M69 := sf69 sm71 sm83

/-! ### 48: lariat/lariatref13.Right -/
def X48 : Aux := ⟨[(3, [1, 2, 5, 6, 7, 8, 9, 10, 11, 12, 13, 14, 15, 16, 17, 18, 19, 20, 21, 22, 23, 24, 25, 26, 27, 28, 29, 30, 31, 32, 33, 34, 35, 36, 37, 38, 39, 40, 41, 42, 43, 44, 45, 46, 47, 48, 49, 50, 51, 52, 53, 54, 55, 56, 57, 58, 59, 60, 61, 62])], []⟩
inductive S48 where
  | l0 (v0_1 : Int) (v0_2 : Int)
def T48 {R : Type} (B : Ops) (c51 : Int → Option (Int)) (c69 : List ty98.den → Option (Bool)) (p0 : List ty66.den) (again : S48 → Option R) (k : (Bool) → Option R) : Option S48 → Option R
  | none =>
    again (.l0 0 0)
  | some (.l0 v0_1 v0_2) =>
    cond (Ops.lt B v0_2 (Nat.cast (List.length p0)))
     (
      cond (Ops.inb B v0_2 (List.length p0))
       (
        ob (c51 (Prod.fst (List.getD p0 (Int.toNat v0_2) (Ty.dflt ty66)))) fun y0 =>
        cond (Ops.lt B y0 (0))
         (
          k false)
         (
          cond (Ops.lt B v0_1 y0)
           (
            k false)
           (
            cond (Ops.inb B v0_2 (List.length p0))
             (
              cond (Ops.eq B (Prod.fst (List.getD p0 (Int.toNat v0_2) (Ty.dflt ty66))) (3))
               (
                cond (Ops.inb B v0_2 (List.length p0))
                 (
                  ob (c69 (Prod.snd (List.getD p0 (Int.toNat v0_2) (Ty.dflt ty66)))) fun y1 =>
                  cond (!y1)
                   (
                    k false)
                   (
                    cond (Ops.inb B v0_2 (List.length p0))
                     (
                      cond (!Ops.eq B (Prod.fst (List.getD p0 (Int.toNat v0_2) (Ty.dflt ty66))) (3))
                       (
                        cond (Ops.inb B v0_2 (List.length p0))
                         (
                          cond (Ops.lt B (0) (Nat.cast (List.length (Prod.snd (List.getD p0 (Int.toNat v0_2) (Ty.dflt ty66))))))
                           (
                            k false)
                           (
                            again (.l0 (IntKind.wrap IntKind.i64 (IntKind.wrap IntKind.i64 (v0_1 - y0) + 1)) (IntKind.wrap IntKind.i64 (v0_2 + 1)))))
                         (
                          none))
                       (
                        again (.l0 (IntKind.wrap IntKind.i64 (IntKind.wrap IntKind.i64 (v0_1 - y0) + 1)) (IntKind.wrap IntKind.i64 (v0_2 + 1)))))
                     (
                      none)))
                 (
                  none))
               (
                cond (Ops.inb B v0_2 (List.length p0))
                 (
                  cond (!Ops.eq B (Prod.fst (List.getD p0 (Int.toNat v0_2) (Ty.dflt ty66))) (3))
                   (
                    cond (Ops.inb B v0_2 (List.length p0))
                     (
                      cond (Ops.lt B (0) (Nat.cast (List.length (Prod.snd (List.getD p0 (Int.toNat v0_2) (Ty.dflt ty66))))))
                       (
                        k false)
                       (
                        again (.l0 (IntKind.wrap IntKind.i64 (IntKind.wrap IntKind.i64 (v0_1 - y0) + 1)) (IntKind.wrap IntKind.i64 (v0_2 + 1)))))
                     (
                      none))
                   (
                    again (.l0 (IntKind.wrap IntKind.i64 (IntKind.wrap IntKind.i64 (v0_1 - y0) + 1)) (IntKind.wrap IntKind.i64 (v0_2 + 1)))))
                 (
                  none)))
             (
              none))))
       (
        none))
     (
      cond (Ops.eq B v0_1 (1))
       (
        k (Ops.le B (Nat.cast (List.length p0)) (60)))
       (
        k false))
def E48 (p0 : List ty66.den) : S48 → List AV × Objs
  | .l0 v0_1 v0_2 => (mk 70 [(0, .c (.list 66 ty66 p0)), (3, .c (.int .i64 v0_1)), (4, .c (.int .i64 v0_2))], [])
def I48 : S48 → Nat
  | .l0 _ _ => 0
theorem eq48 {R : Type} (B : Ops) (c51 : Int → Option (Int)) (c69 : List ty98.den → Option (Bool)) (p0 : List ty66.den) (k : AV → Objs → Option R) (n : Nat) : afun tau B gl0 X48 (ent 51 (e51 c51) (ent 69 (e69 c69) (gnil))) ow Try.f48 [.c (.list 66 ty66 p0)] [] k n = T48 B c51 c69 p0 (fun s => aloop tau B gl0 X48 (ent 51 (e51 c51) (ent 69 (e69 c69) (gnil))) ow [] Try.f48 k (I48 s) (E48 p0 s) n) (fun y => k (.c (.bool y)) []) none := by kernel_rfl
theorem el48 {R : Type} (B : Ops) (c51 : Int → Option (Int)) (c69 : List ty98.den → Option (Bool)) (p0 : List ty66.den) (k : AV → Objs → Option R) (n : Nat) : ∀ s, aloop tau B gl0 X48 (ent 51 (e51 c51) (ent 69 (e69 c69) (gnil))) ow [] Try.f48 k (I48 s) (E48 p0 s) (n + 1) = T48 B c51 c69 p0 (fun s => aloop tau B gl0 X48 (ent 51 (e51 c51) (ent 69 (e69 c69) (gnil))) ow [] Try.f48 k (I48 s) (E48 p0 s) n) (fun y => k (.c (.bool y)) []) (some s)
  | .l0 v0_1 v0_2 => by kernel_rfl
theorem nt48 {R R' : Type} (B : Ops) (c51 : Int → Option (Int)) (c69 : List ty98.den → Option (Bool)) (p0 : List ty66.den) (again : S48 → Option R) (again' : S48 → Option R') (k0 : (Bool) → Option R') (k : R' → Option R) (h : ∀ s, again s = ob (again' s) k) : ∀ s, T48 B c51 c69 p0 again (fun y => ob (k0 y) k) s = ob (T48 B c51 c69 p0 again' k0 s) k
  | none => by unfold T48; repeat' first | exact rfl | exact h _ | apply nat_cond | (apply nat_ob; intro)
  | some (.l0 v0_1 v0_2) => by unfold T48; repeat' first | exact rfl | exact h _ | apply nat_cond | (apply nat_ob; intro)
def R48 (c51 : Int → Option (Int)) (c69 : List ty98.den → Option (Bool)) (p0 : List ty66.den) : Nat → S48 → Option (Bool)
  | 0, _ => none
  | n + 1, s => T48 Ops.std c51 c69 p0 (R48 c51 c69 p0 n) some (some s)
theorem rr48 {R : Type} (c51 : Int → Option (Int)) (c69 : List ty98.den → Option (Bool)) (p0 : List ty66.den) (k : AV → Objs → Option R) : ∀ (n : Nat) (s : S48), aloop tau Ops.std gl0 X48 (ent 51 (e51 c51) (ent 69 (e69 c69) (gnil))) ow [] Try.f48 k (I48 s) (E48 p0 s) n = ob (R48 c51 c69 p0 n s) (fun y => k (.c (.bool y)) [])
  | 0, s => by cases s <;> rfl
  | n + 1, s => by rw [el48]; exact nt48 Ops.std c51 c69 p0 _ _ some (fun y => k (.c (.bool y)) []) (rr48 c51 c69 p0 k n) (some s)
def F48 (c51 : Int → Option (Int)) (c69 : List ty98.den → Option (Bool)) (p0 : List ty66.den) : Option (Bool) := T48 Ops.std c51 c69 p0 (R48 c51 c69 p0 1000000) some none
theorem fo48 {R : Type} (c51 : Int → Option (Int)) (c69 : List ty98.den → Option (Bool)) (p0 : List ty66.den) (k : AV → Objs → Option R) : afun tau Ops.std gl0 X48 (ent 51 (e51 c51) (ent 69 (e69 c69) (gnil))) ow Try.f48 [.c (.list 66 ty66 p0)] [] k 1000000 = ob (F48 c51 c69 p0) (fun y => k (.c (.bool y)) []) := by rw [eq48]; exact nt48 Ops.std c51 c69 p0 _ _ some (fun y => k (.c (.bool y)) []) (rr48 c51 c69 p0 k 1000000) none
def e48 {R : Type} (c : List ty66.den → Option (Bool)) : Ent R := fun args objs k =>
  oCons args fun a0 l0 => oC a0 fun x0 => cList 66 ty66 x0 fun p0 => oNil l0 <| oNilO objs <| ob (c p0) fun y => k (.c (.bool y)) []
abbrev Sp48 (c : List ty66.den → Option (Bool)) : Prop := ∀ (p0 : List ty66.den) (y : Bool), c p0 = some y → Spec Try.prog gl0 48 [.c (.list 66 ty66 p0)] [] (.c (.bool y)) []
theorem ek48 {R : Type} {c : List ty66.den → Option (Bool)} (hs : Sp48 c) : EOk 48 (e48 (R := R) c) := fun args objs k r h => by
  unfold e48 at h
  obtain ⟨a0, l0, rfl, q1⟩ := oCons_some h
  obtain ⟨x0, rfl, q2⟩ := oC_some q1
  obtain ⟨p0, rfl, q3⟩ := cList_some q2
  obtain ⟨rfl, q4⟩ := oNil_some q3
  obtain ⟨rfl, q5⟩ := oNilO_some q4
  exact eok_of (hs p0) q5
theorem sf48 {c51 : Int → Option (Int)} {c69 : List ty98.den → Option (Bool)} (h51 : Sp51 c51) (h69 : Sp69 c69) : Sp48 (F48 c51 c69) := fun p0 y hy => by
  refine spec_of (G := ent 51 (e51 c51) (ent 69 (e69 c69) (gnil))) (ent_ok (ek51 h51) (ent_ok (ek69 h69) (gnil_ok))) 1000000 (fn := Try.f48) (by kernel_rfl) (by kernel_rfl) (X := X48) (by kernel_rfl) ?_
  rw [fo48, hy]
  rfl
noncomputable def M48 : List ty66.den → Option (Bool) := F48 M51 M69
theorem sm48 : Sp48 M48 := sf48 sm51 sm69

/-! ### 94: lariat/nnf.other -/
def X94 : Aux := ⟨[], []⟩
def T94 {R : Type} (B : Ops) (p0 : Int) (k : (Int) → Option R) : Option R :=
  cond (Ops.eq B p0 (1))
   (
    k 2)
   (
    cond (Ops.eq B p0 (2))
     (
      k 1)
     (
      cond (Ops.eq B p0 (5))
       (
        k 6)
       (
        cond (Ops.eq B p0 (6))
         (
          k 5)
         (
          cond (Ops.eq B p0 (9))
           (
            k 10)
           (
            cond (Ops.eq B p0 (10))
             (
              k 9)
             (
              k p0))))))
theorem eq94 {R : Type} (B : Ops) (p0 : Int) (k : AV → Objs → Option R) (n : Nat) : afun tau B gl0 X94 (gnil) ow Try.f94 [.c (.int .i64 p0)] [] k n = T94 B p0 (fun y => k (.c (.int .i64 y)) []) := by kernel_rfl
theorem nt94 {R R' : Type} (B : Ops) (p0 : Int) (k0 : (Int) → Option R') (k : R' → Option R) : T94 B p0 (fun y => ob (k0 y) k) = ob (T94 B p0 k0) k := by
  unfold T94
  repeat' first | exact rfl | apply nat_cond | (apply nat_ob; intro)
def F94 (p0 : Int) : Option (Int) := T94 Ops.std p0 some
theorem fo94 {R : Type} (p0 : Int) (k : AV → Objs → Option R) (n : Nat) : afun tau Ops.std gl0 X94 (gnil) ow Try.f94 [.c (.int .i64 p0)] [] k n = ob (F94 p0) (fun y => k (.c (.int .i64 y)) []) := by rw [eq94]; exact nt94 Ops.std p0 some (fun y => k (.c (.int .i64 y)) [])
def e94 {R : Type} (c : Int → Option (Int)) : Ent R := fun args objs k =>
  oCons args fun a0 l0 => oC a0 fun x0 => cInt .i64 x0 fun p0 => oNil l0 <| oNilO objs <| ob (c p0) fun y => k (.c (.int .i64 y)) []
abbrev Sp94 (c : Int → Option (Int)) : Prop := ∀ (p0 : Int) (y : Int), c p0 = some y → Spec Try.prog gl0 94 [.c (.int .i64 p0)] [] (.c (.int .i64 y)) []
theorem ek94 {R : Type} {c : Int → Option (Int)} (hs : Sp94 c) : EOk 94 (e94 (R := R) c) := fun args objs k r h => by
  unfold e94 at h
  obtain ⟨a0, l0, rfl, q1⟩ := oCons_some h
  obtain ⟨x0, rfl, q2⟩ := oC_some q1
  obtain ⟨p0, rfl, q3⟩ := cInt_some q2
  obtain ⟨rfl, q4⟩ := oNil_some q3
  obtain ⟨rfl, q5⟩ := oNilO_some q4
  exact eok_of (hs p0) q5
theorem sf94 : Sp94 (F94) := fun p0 y hy => by
  refine spec_of (G := gnil) (gnil_ok) 1000000 (fn := Try.f94) (by kernel_rfl) (by kernel_rfl) (X := X94) (by kernel_rfl) ?_
  rw [fo94, hy]
  rfl
noncomputable def M94 : Int → Option (Int) := F94
theorem sm94 : Sp94 M94 := sf94

/-! ### 87: lariat/nnf.signed -/
def X87 : Aux := ⟨[], []⟩
def T87 {R : Type} (B : Ops) (c94 : Int → Option (Int)) (p0 : Int) (p1 : Bool) (k : (Int) → Option R) : Option R :=
  cond (p1)
   (
    ob (c94 p0) fun y0 =>
    k y0)
   (
    k p0)
theorem eq87 {R : Type} (B : Ops) (c94 : Int → Option (Int)) (p0 : Int) (p1 : Bool) (k : AV → Objs → Option R) (n : Nat) : afun tau B gl0 X87 (ent 94 (e94 c94) (gnil)) ow Try.f87 [.c (.int .i64 p0), .c (.bool p1)] [] k n = T87 B c94 p0 p1 (fun y => k (.c (.int .i64 y)) []) := by kernel_rfl
theorem nt87 {R R' : Type} (B : Ops) (c94 : Int → Option (Int)) (p0 : Int) (p1 : Bool) (k0 : (Int) → Option R') (k : R' → Option R) : T87 B c94 p0 p1 (fun y => ob (k0 y) k) = ob (T87 B c94 p0 p1 k0) k := by
  unfold T87
  repeat' first | exact rfl | apply nat_cond | (apply nat_ob; intro)
def F87 (c94 : Int → Option (Int)) (p0 : Int) (p1 : Bool) : Option (Int) := T87 Ops.std c94 p0 p1 some
theorem fo87 {R : Type} (c94 : Int → Option (Int)) (p0 : Int) (p1 : Bool) (k : AV → Objs → Option R) (n : Nat) : afun tau Ops.std gl0 X87 (ent 94 (e94 c94) (gnil)) ow Try.f87 [.c (.int .i64 p0), .c (.bool p1)] [] k n = ob (F87 c94 p0 p1) (fun y => k (.c (.int .i64 y)) []) := by rw [eq87]; exact nt87 Ops.std c94 p0 p1 some (fun y => k (.c (.int .i64 y)) [])
def e87 {R : Type} (c : Int → Bool → Option (Int)) : Ent R := fun args objs k =>
  oCons args fun a0 l0 => oC a0 fun x0 => cInt .i64 x0 fun p0 => oCons l0 fun a1 l1 => oC a1 fun x1 => cBool x1 fun p1 => oNil l1 <| oNilO objs <| ob (c p0 p1) fun y => k (.c (.int .i64 y)) []
abbrev Sp87 (c : Int → Bool → Option (Int)) : Prop := ∀ (p0 : Int) (p1 : Bool) (y : Int), c p0 p1 = some y → Spec Try.prog gl0 87 [.c (.int .i64 p0), .c (.bool p1)] [] (.c (.int .i64 y)) []
theorem ek87 {R : Type} {c : Int → Bool → Option (Int)} (hs : Sp87 c) : EOk 87 (e87 (R := R) c) := fun args objs k r h => by
  unfold e87 at h
  obtain ⟨a0, l0, rfl, q1⟩ := oCons_some h
  obtain ⟨x0, rfl, q2⟩ := oC_some q1
  obtain ⟨p0, rfl, q3⟩ := cInt_some q2
  obtain ⟨a1, l1, rfl, q4⟩ := oCons_some q3
  obtain ⟨x1, rfl, q5⟩ := oC_some q4
  obtain ⟨p1, rfl, q6⟩ := cBool_some q5
  obtain ⟨rfl, q7⟩ := oNil_some q6
  obtain ⟨rfl, q8⟩ := oNilO_some q7
  exact eok_of (hs p0 p1) q8
theorem sf87 {c94 : Int → Option (Int)} (h94 : Sp94 c94) : Sp87 (F87 c94) := fun p0 p1 y hy => by
  refine spec_of (G := ent 94 (e94 c94) (gnil)) (ent_ok (ek94 h94) (gnil_ok)) 1000000 (fn := Try.f87) (by kernel_rfl) (by kernel_rfl) (X := X87) (by kernel_rfl) ?_
  rw [fo87, hy]
  rfl
noncomputable def M87 : Int → Bool → Option (Int) := F87 M94
theorem sm87 : Sp87 M87 := sf87 sm94

/-! ### 55: lariat/lariatref7.Same -/
def X55 : Aux := ⟨[(4, [2, 3, 4, 6, 7, 8, 9, 10, 11, 12, 13, 14, 15, 16, 17, 18, 19, 20, 21, 22, 23, 24, 25])], [(6, .lin [0, 1, 2, 3, 4, 5, 6, 7, 8])]⟩
inductive S55 where
  | l0 (v0_2 : Int)
def T55 {R : Type} (B : Ops) (p0 : List ty98.den) (p1 : List ty98.den) (again : S55 → Option R) (k : (Bool) → Option R) : Option S55 → Option R
  | none =>
    cond (!Ops.eq B (Nat.cast (List.length p0)) (Nat.cast (List.length p1)))
     (
      k false)
     (
      again (.l0 0))
  | some (.l0 v0_2) =>
    cond (Ops.lt B v0_2 (Nat.cast (List.length p0)))
     (
      cond (Ops.inb B v0_2 (List.length p0))
       (
        cond (Ops.inb B v0_2 (List.length p1))
         (
          cond (!(Ops.eq B (Prod.fst (List.getD p0 (Int.toNat v0_2) (Ty.dflt ty98))) (Prod.fst (List.getD p1 (Int.toNat v0_2) (Ty.dflt ty98))) && (Ops.eq B (Prod.fst (Prod.snd (List.getD p0 (Int.toNat v0_2) (Ty.dflt ty98)))) (Prod.fst (Prod.snd (List.getD p1 (Int.toNat v0_2) (Ty.dflt ty98)))) && (Prod.fst (Prod.snd (Prod.snd (List.getD p0 (Int.toNat v0_2) (Ty.dflt ty98)))) == Prod.fst (Prod.snd (Prod.snd (List.getD p1 (Int.toNat v0_2) (Ty.dflt ty98)))) && (Prod.snd (Prod.snd (Prod.snd (List.getD p0 (Int.toNat v0_2) (Ty.dflt ty98)))) == Prod.snd (Prod.snd (Prod.snd (List.getD p1 (Int.toNat v0_2) (Ty.dflt ty98)))) && true)))))
           (
            k false)
           (
            again (.l0 (IntKind.wrap IntKind.i64 (v0_2 + 1)))))
         (
          none))
       (
        none))
     (
      k true)
def E55 (p0 : List ty98.den) (p1 : List ty98.den) : S55 → List AV × Objs
  | .l0 v0_2 => (mk 26 [(0, .c (.list 98 ty98 p0)), (1, .c (.list 98 ty98 p1)), (5, .c (.int .i64 v0_2))], [])
def I55 : S55 → Nat
  | .l0 _ => 0
theorem eq55 {R : Type} (B : Ops) (p0 : List ty98.den) (p1 : List ty98.den) (k : AV → Objs → Option R) (n : Nat) : afun tau B gl0 X55 (gnil) ow Try.f55 [.c (.list 98 ty98 p0), .c (.list 98 ty98 p1)] [] k n = T55 B p0 p1 (fun s => aloop tau B gl0 X55 (gnil) ow [] Try.f55 k (I55 s) (E55 p0 p1 s) n) (fun y => k (.c (.bool y)) []) none := by kernel_rfl
theorem el55 {R : Type} (B : Ops) (p0 : List ty98.den) (p1 : List ty98.den) (k : AV → Objs → Option R) (n : Nat) : ∀ s, aloop tau B gl0 X55 (gnil) ow [] Try.f55 k (I55 s) (E55 p0 p1 s) (n + 1) = T55 B p0 p1 (fun s => aloop tau B gl0 X55 (gnil) ow [] Try.f55 k (I55 s) (E55 p0 p1 s) n) (fun y => k (.c (.bool y)) []) (some s)
  | .l0 v0_2 => by kernel_rfl
theorem nt55 {R R' : Type} (B : Ops) (p0 : List ty98.den) (p1 : List ty98.den) (again : S55 → Option R) (again' : S55 → Option R') (k0 : (Bool) → Option R') (k : R' → Option R) (h : ∀ s, again s = ob (again' s) k) : ∀ s, T55 B p0 p1 again (fun y => ob (k0 y) k) s = ob (T55 B p0 p1 again' k0 s) k
  | none => by unfold T55; repeat' first | exact rfl | exact h _ | apply nat_cond | (apply nat_ob; intro)
  | some (.l0 v0_2) => by unfold T55; repeat' first | exact rfl | exact h _ | apply nat_cond | (apply nat_ob; intro)
def R55 (p0 : List ty98.den) (p1 : List ty98.den) : Nat → S55 → Option (Bool)
  | 0, _ => none
  | n + 1, s => T55 Ops.std p0 p1 (R55 p0 p1 n) some (some s)
theorem rr55 {R : Type} (p0 : List ty98.den) (p1 : List ty98.den) (k : AV → Objs → Option R) : ∀ (n : Nat) (s : S55), aloop tau Ops.std gl0 X55 (gnil) ow [] Try.f55 k (I55 s) (E55 p0 p1 s) n = ob (R55 p0 p1 n s) (fun y => k (.c (.bool y)) [])
  | 0, s => by cases s <;> rfl
  | n + 1, s => by rw [el55]; exact nt55 Ops.std p0 p1 _ _ some (fun y => k (.c (.bool y)) []) (rr55 p0 p1 k n) (some s)
def F55 (p0 : List ty98.den) (p1 : List ty98.den) : Option (Bool) := T55 Ops.std p0 p1 (R55 p0 p1 1000000) some none
theorem fo55 {R : Type} (p0 : List ty98.den) (p1 : List ty98.den) (k : AV → Objs → Option R) : afun tau Ops.std gl0 X55 (gnil) ow Try.f55 [.c (.list 98 ty98 p0), .c (.list 98 ty98 p1)] [] k 1000000 = ob (F55 p0 p1) (fun y => k (.c (.bool y)) []) := by rw [eq55]; exact nt55 Ops.std p0 p1 _ _ some (fun y => k (.c (.bool y)) []) (rr55 p0 p1 k 1000000) none
def e55 {R : Type} (c : List ty98.den → List ty98.den → Option (Bool)) : Ent R := fun args objs k =>
  oCons args fun a0 l0 => oC a0 fun x0 => cList 98 ty98 x0 fun p0 => oCons l0 fun a1 l1 => oC a1 fun x1 => cList 98 ty98 x1 fun p1 => oNil l1 <| oNilO objs <| ob (c p0 p1) fun y => k (.c (.bool y)) []
abbrev Sp55 (c : List ty98.den → List ty98.den → Option (Bool)) : Prop := ∀ (p0 : List ty98.den) (p1 : List ty98.den) (y : Bool), c p0 p1 = some y → Spec Try.prog gl0 55 [.c (.list 98 ty98 p0), .c (.list 98 ty98 p1)] [] (.c (.bool y)) []
theorem ek55 {R : Type} {c : List ty98.den → List ty98.den → Option (Bool)} (hs : Sp55 c) : EOk 55 (e55 (R := R) c) := fun args objs k r h => by
  unfold e55 at h
  obtain ⟨a0, l0, rfl, q1⟩ := oCons_some h
  obtain ⟨x0, rfl, q2⟩ := oC_some q1
  obtain ⟨p0, rfl, q3⟩ := cList_some q2
  obtain ⟨a1, l1, rfl, q4⟩ := oCons_some q3
  obtain ⟨x1, rfl, q5⟩ := oC_some q4
  obtain ⟨p1, rfl, q6⟩ := cList_some q5
  obtain ⟨rfl, q7⟩ := oNil_some q6
  obtain ⟨rfl, q8⟩ := oNilO_some q7
  exact eok_of (hs p0 p1) q8
theorem sf55 : Sp55 (F55) := fun p0 p1 y hy => by
  refine spec_of (G := gnil) (gnil_ok) 1000000 (fn := Try.f55) (by kernel_rfl) (by kernel_rfl) (X := X55) (by kernel_rfl) ?_
  rw [fo55, hy]
  rfl
noncomputable def M55 : List ty98.den → List ty98.den → Option (Bool) := F55
theorem sm55 : Sp55 M55 := sf55

/-! ### 35: lariat/lariatref13.Same -/
def X35 : Aux := ⟨[(4, [2, 3, 4, 6, 7, 8, 9, 10, 11, 12, 13, 14, 15, 16, 17, 18, 19, 20, 21, 22, 23, 24, 25, 26, 27, 28, 29, 30, 31, 32, 33, 34, 35, 36, 37, 38, 39, 40, 41])], [(6, .lin [0, 1, 2, 3, 4, 5, 6, 7, 8, 9, 10, 11, 12, 13, 14, 15, 16, 17, 18, 19, 20, 21, 22, 23, 24])]⟩
inductive S35 where
  | l0 (v0_2 : Int)
def T35 {R : Type} (B : Ops) (c55 : List ty98.den → List ty98.den → Option (Bool)) (p0 : List ty66.den) (p1 : List ty66.den) (again : S35 → Option R) (k : (Bool) → Option R) : Option S35 → Option R
  | none =>
    cond (!Ops.eq B (Nat.cast (List.length p0)) (Nat.cast (List.length p1)))
     (
      k false)
     (
      again (.l0 0))
  | some (.l0 v0_2) =>
    cond (Ops.lt B v0_2 (Nat.cast (List.length p0)))
     (
      cond (Ops.inb B v0_2 (List.length p0))
       (
        cond (Ops.inb B v0_2 (List.length p1))
         (
          cond (!Ops.eq B (Prod.fst (List.getD p0 (Int.toNat v0_2) (Ty.dflt ty66))) (Prod.fst (List.getD p1 (Int.toNat v0_2) (Ty.dflt ty66))))
           (
            k false)
           (
            cond (Ops.inb B v0_2 (List.length p0))
             (
              cond (Ops.inb B v0_2 (List.length p1))
               (
                ob (c55 (Prod.snd (List.getD p0 (Int.toNat v0_2) (Ty.dflt ty66))) (Prod.snd (List.getD p1 (Int.toNat v0_2) (Ty.dflt ty66)))) fun y0 =>
                cond (!y0)
                 (
                  k false)
                 (
                  again (.l0 (IntKind.wrap IntKind.i64 (v0_2 + 1)))))
               (
                none))
             (
              none)))
         (
          none))
       (
        none))
     (
      k true)
def E35 (p0 : List ty66.den) (p1 : List ty66.den) : S35 → List AV × Objs
  | .l0 v0_2 => (mk 42 [(0, .c (.list 66 ty66 p0)), (1, .c (.list 66 ty66 p1)), (5, .c (.int .i64 v0_2))], [])
def I35 : S35 → Nat
  | .l0 _ => 0
theorem eq35 {R : Type} (B : Ops) (c55 : List ty98.den → List ty98.den → Option (Bool)) (p0 : List ty66.den) (p1 : List ty66.den) (k : AV → Objs → Option R) (n : Nat) : afun tau B gl0 X35 (ent 55 (e55 c55) (gnil)) ow Try.f35 [.c (.list 66 ty66 p0), .c (.list 66 ty66 p1)] [] k n = T35 B c55 p0 p1 (fun s => aloop tau B gl0 X35 (ent 55 (e55 c55) (gnil)) ow [] Try.f35 k (I35 s) (E35 p0 p1 s) n) (fun y => k (.c (.bool y)) []) none := by kernel_rfl
theorem el35 {R : Type} (B : Ops) (c55 : List ty98.den → List ty98.den → Option (Bool)) (p0 : List ty66.den) (p1 : List ty66.den) (k : AV → Objs → Option R) (n : Nat) : ∀ s, aloop tau B gl0 X35 (ent 55 (e55 c55) (gnil)) ow [] Try.f35 k (I35 s) (E35 p0 p1 s) (n + 1) = T35 B c55 p0 p1 (fun s => aloop tau B gl0 X35 (ent 55 (e55 c55) (gnil)) ow [] Try.f35 k (I35 s) (E35 p0 p1 s) n) (fun y => k (.c (.bool y)) []) (some s)
  | .l0 v0_2 => by kernel_rfl
theorem nt35 {R R' : Type} (B : Ops) (c55 : List ty98.den → List ty98.den → Option (Bool)) (p0 : List ty66.den) (p1 : List ty66.den) (again : S35 → Option R) (again' : S35 → Option R') (k0 : (Bool) → Option R') (k : R' → Option R) (h : ∀ s, again s = ob (again' s) k) : ∀ s, T35 B c55 p0 p1 again (fun y => ob (k0 y) k) s = ob (T35 B c55 p0 p1 again' k0 s) k
  | none => by unfold T35; repeat' first | exact rfl | exact h _ | apply nat_cond | (apply nat_ob; intro)
  | some (.l0 v0_2) => by unfold T35; repeat' first | exact rfl | exact h _ | apply nat_cond | (apply nat_ob; intro)
def R35 (c55 : List ty98.den → List ty98.den → Option (Bool)) (p0 : List ty66.den) (p1 : List ty66.den) : Nat → S35 → Option (Bool)
  | 0, _ => none
  | n + 1, s => T35 Ops.std c55 p0 p1 (R35 c55 p0 p1 n) some (some s)
theorem rr35 {R : Type} (c55 : List ty98.den → List ty98.den → Option (Bool)) (p0 : List ty66.den) (p1 : List ty66.den) (k : AV → Objs → Option R) : ∀ (n : Nat) (s : S35), aloop tau Ops.std gl0 X35 (ent 55 (e55 c55) (gnil)) ow [] Try.f35 k (I35 s) (E35 p0 p1 s) n = ob (R35 c55 p0 p1 n s) (fun y => k (.c (.bool y)) [])
  | 0, s => by cases s <;> rfl
  | n + 1, s => by rw [el35]; exact nt35 Ops.std c55 p0 p1 _ _ some (fun y => k (.c (.bool y)) []) (rr35 c55 p0 p1 k n) (some s)
def F35 (c55 : List ty98.den → List ty98.den → Option (Bool)) (p0 : List ty66.den) (p1 : List ty66.den) : Option (Bool) := T35 Ops.std c55 p0 p1 (R35 c55 p0 p1 1000000) some none
theorem fo35 {R : Type} (c55 : List ty98.den → List ty98.den → Option (Bool)) (p0 : List ty66.den) (p1 : List ty66.den) (k : AV → Objs → Option R) : afun tau Ops.std gl0 X35 (ent 55 (e55 c55) (gnil)) ow Try.f35 [.c (.list 66 ty66 p0), .c (.list 66 ty66 p1)] [] k 1000000 = ob (F35 c55 p0 p1) (fun y => k (.c (.bool y)) []) := by rw [eq35]; exact nt35 Ops.std c55 p0 p1 _ _ some (fun y => k (.c (.bool y)) []) (rr35 c55 p0 p1 k 1000000) none
def e35 {R : Type} (c : List ty66.den → List ty66.den → Option (Bool)) : Ent R := fun args objs k =>
  oCons args fun a0 l0 => oC a0 fun x0 => cList 66 ty66 x0 fun p0 => oCons l0 fun a1 l1 => oC a1 fun x1 => cList 66 ty66 x1 fun p1 => oNil l1 <| oNilO objs <| ob (c p0 p1) fun y => k (.c (.bool y)) []
abbrev Sp35 (c : List ty66.den → List ty66.den → Option (Bool)) : Prop := ∀ (p0 : List ty66.den) (p1 : List ty66.den) (y : Bool), c p0 p1 = some y → Spec Try.prog gl0 35 [.c (.list 66 ty66 p0), .c (.list 66 ty66 p1)] [] (.c (.bool y)) []
theorem ek35 {R : Type} {c : List ty66.den → List ty66.den → Option (Bool)} (hs : Sp35 c) : EOk 35 (e35 (R := R) c) := fun args objs k r h => by
  unfold e35 at h
  obtain ⟨a0, l0, rfl, q1⟩ := oCons_some h
  obtain ⟨x0, rfl, q2⟩ := oC_some q1
  obtain ⟨p0, rfl, q3⟩ := cList_some q2
  obtain ⟨a1, l1, rfl, q4⟩ := oCons_some q3
  obtain ⟨x1, rfl, q5⟩ := oC_some q4
  obtain ⟨p1, rfl, q6⟩ := cList_some q5
  obtain ⟨rfl, q7⟩ := oNil_some q6
  obtain ⟨rfl, q8⟩ := oNilO_some q7
  exact eok_of (hs p0 p1) q8
theorem sf35 {c55 : List ty98.den → List ty98.den → Option (Bool)} (h55 : Sp55 c55) : Sp35 (F35 c55) := fun p0 p1 y hy => by
  refine spec_of (G := ent 55 (e55 c55) (gnil)) (ent_ok (ek55 h55) (gnil_ok)) 1000000 (fn := Try.f35) (by kernel_rfl) (by kernel_rfl) (X := X35) (by kernel_rfl) ?_
  rw [fo35, hy]
  rfl
noncomputable def M35 : List ty66.den → List ty66.den → Option (Bool) := F35 M55
theorem sm35 : Sp35 M35 := sf35 sm55

/-! ### 25: lariat/lariatref13.Duties -/
def X25 : Aux := ⟨[(3, [1, 5, 6, 7, 8, 9, 10, 11, 12, 13, 14, 15, 16, 17, 18, 19, 20, 21, 22, 23, 24, 25, 26, 27, 28])], []⟩
inductive S25 where
  | l0 (v0_1 : Int) (v0_3 : List ty3.den)
def T25 {R : Type} (B : Ops) (p0 : List ty66.den) (again : S25 → Option R) (k : ((List ty3.den)) → Option R) : Option S25 → Option R
  | none =>
    again (.l0 0 [])
  | some (.l0 v0_1 v0_3) =>
    cond (Ops.lt B v0_1 (Nat.cast (List.length p0)))
     (
      cond (Ops.inb B v0_1 (List.length p0))
       (
        cond (Ops.eq B (Prod.fst (List.getD p0 (Int.toNat v0_1) (Ty.dflt ty66))) (9))
         (
          cond (Ops.lim B (List.length v0_3 + 1) (8))
           (
            again (.l0 (IntKind.wrap IntKind.i64 (v0_1 + 1)) (v0_3 ++ [v0_1])))
           (
            none))
         (
          cond (Ops.inb B v0_1 (List.length p0))
           (
            cond (Ops.eq B (Prod.fst (List.getD p0 (Int.toNat v0_1) (Ty.dflt ty66))) (10))
             (
              cond (Ops.lim B (List.length v0_3 + 1) (8))
               (
                again (.l0 (IntKind.wrap IntKind.i64 (v0_1 + 1)) (v0_3 ++ [v0_1])))
               (
                none))
             (
              again (.l0 (IntKind.wrap IntKind.i64 (v0_1 + 1)) v0_3)))
           (
            none)))
       (
        none))
     (
      k v0_3)
def E25 (p0 : List ty66.den) : S25 → List AV × Objs
  | .l0 v0_1 v0_3 => (mk 30 [(0, .c (.list 66 ty66 p0)), (2, .c (.own 2)), (3, .c (.own 3)), (4, .c (.int .i64 v0_1))], [(2, .row 3 ty3 []), (3, .row 3 ty3 v0_3)])
def I25 : S25 → Nat
  | .l0 _ _ => 0
theorem eq25 {R : Type} (B : Ops) (p0 : List ty66.den) (k : AV → Objs → Option R) (n : Nat) : afun tau B gl0 X25 (gnil) ow Try.f25 [.c (.list 66 ty66 p0)] [] k n = T25 B p0 (fun s => aloop tau B gl0 X25 (gnil) ow [] Try.f25 k (I25 s) (E25 p0 s) n) (fun y => k (.c (.own 500)) [(500, .row 3 ty3 y)]) none := by kernel_rfl
theorem el25 {R : Type} (B : Ops) (p0 : List ty66.den) (k : AV → Objs → Option R) (n : Nat) : ∀ s, aloop tau B gl0 X25 (gnil) ow [] Try.f25 k (I25 s) (E25 p0 s) (n + 1) = T25 B p0 (fun s => aloop tau B gl0 X25 (gnil) ow [] Try.f25 k (I25 s) (E25 p0 s) n) (fun y => k (.c (.own 500)) [(500, .row 3 ty3 y)]) (some s)
  | .l0 v0_1 v0_3 => by kernel_rfl
theorem nt25 {R R' : Type} (B : Ops) (p0 : List ty66.den) (again : S25 → Option R) (again' : S25 → Option R') (k0 : ((List ty3.den)) → Option R') (k : R' → Option R) (h : ∀ s, again s = ob (again' s) k) : ∀ s, T25 B p0 again (fun y => ob (k0 y) k) s = ob (T25 B p0 again' k0 s) k
  | none => by unfold T25; repeat' first | exact rfl | exact h _ | apply nat_cond | (apply nat_ob; intro)
  | some (.l0 v0_1 v0_3) => by unfold T25; repeat' first | exact rfl | exact h _ | apply nat_cond | (apply nat_ob; intro)
def R25 (p0 : List ty66.den) : Nat → S25 → Option ((List ty3.den))
  | 0, _ => none
  | n + 1, s => T25 Ops.std p0 (R25 p0 n) some (some s)
theorem rr25 {R : Type} (p0 : List ty66.den) (k : AV → Objs → Option R) : ∀ (n : Nat) (s : S25), aloop tau Ops.std gl0 X25 (gnil) ow [] Try.f25 k (I25 s) (E25 p0 s) n = ob (R25 p0 n s) (fun y => k (.c (.own 500)) [(500, .row 3 ty3 y)])
  | 0, s => by cases s <;> rfl
  | n + 1, s => by rw [el25]; exact nt25 Ops.std p0 _ _ some (fun y => k (.c (.own 500)) [(500, .row 3 ty3 y)]) (rr25 p0 k n) (some s)
def F25 (p0 : List ty66.den) : Option ((List ty3.den)) := T25 Ops.std p0 (R25 p0 1000000) some none
theorem fo25 {R : Type} (p0 : List ty66.den) (k : AV → Objs → Option R) : afun tau Ops.std gl0 X25 (gnil) ow Try.f25 [.c (.list 66 ty66 p0)] [] k 1000000 = ob (F25 p0) (fun y => k (.c (.own 500)) [(500, .row 3 ty3 y)]) := by rw [eq25]; exact nt25 Ops.std p0 _ _ some (fun y => k (.c (.own 500)) [(500, .row 3 ty3 y)]) (rr25 p0 k 1000000) none
def e25 {R : Type} (c : List ty66.den → Option ((List ty3.den))) : Ent R := fun args objs k =>
  oCons args fun a0 l0 => oC a0 fun x0 => cList 66 ty66 x0 fun p0 => oNil l0 <| oNilO objs <| ob (c p0) fun y => k (.c (.own 500)) [(500, .row 3 ty3 y)]
abbrev Sp25 (c : List ty66.den → Option ((List ty3.den))) : Prop := ∀ (p0 : List ty66.den) (y : (List ty3.den)), c p0 = some y → Spec Try.prog gl0 25 [.c (.list 66 ty66 p0)] [] (.c (.own 500)) [(500, .row 3 ty3 y)]
theorem ek25 {R : Type} {c : List ty66.den → Option ((List ty3.den))} (hs : Sp25 c) : EOk 25 (e25 (R := R) c) := fun args objs k r h => by
  unfold e25 at h
  obtain ⟨a0, l0, rfl, q1⟩ := oCons_some h
  obtain ⟨x0, rfl, q2⟩ := oC_some q1
  obtain ⟨p0, rfl, q3⟩ := cList_some q2
  obtain ⟨rfl, q4⟩ := oNil_some q3
  obtain ⟨rfl, q5⟩ := oNilO_some q4
  exact eok_of (hs p0) q5
theorem sf25 : Sp25 (F25) := fun p0 y hy => by
  refine spec_of (G := gnil) (gnil_ok) 1000000 (fn := Try.f25) (by kernel_rfl) (by kernel_rfl) (X := X25) (by kernel_rfl) ?_
  rw [fo25, hy]
  rfl
noncomputable def M25 : List ty66.den → Option ((List ty3.den)) := F25
theorem sm25 : Sp25 M25 := sf25

/-! ### 46: lariat/lariatref13.met -/
def X46 : Aux := ⟨[(3, [4, 5, 6, 7, 11, 12, 13, 14, 15, 16, 17, 18, 19, 20, 21, 22, 23, 24, 25, 26, 27, 28, 29, 30, 31, 32, 33, 34, 35, 36, 37, 38, 39, 40, 41, 42, 43, 44, 45, 46, 47, 48, 49, 50, 51, 52, 53, 54, 55, 56, 57, 58, 59])], []⟩
inductive S46 where
  | l0 (v0_4 : Int) (v0_6 : List ty4.den)
def T46 {R : Type} (B : Ops) (p0 : List ty66.den) (p1 : List ty22.den) (p2 : List ty3.den) (p3 : List ty4.den) (again : S46 → Option R) (k : ((List ty4.den)) → Option R) : Option S46 → Option R
  | none =>
    again (.l0 0 [])
  | some (.l0 v0_4 v0_6) =>
    cond (Ops.lt B v0_4 (Nat.cast (List.length p2)))
     (
      cond (Ops.inb B v0_4 (List.length p2))
       (
        cond (Ops.inb B (List.getD p2 (Int.toNat v0_4) (Ty.dflt ty3)) (List.length p1))
         (
          cond (Ops.inb B (1) (List.length (List.getD p1 (Int.toNat (List.getD p2 (Int.toNat v0_4) (Ty.dflt ty3))) (Ty.dflt ty22))))
           (
            cond (Ops.inb B (List.getD (List.getD p1 (Int.toNat (List.getD p2 (Int.toNat v0_4) (Ty.dflt ty3))) (Ty.dflt ty22)) (Int.toNat (1)) (Ty.dflt (Ty.int IntKind.i64))) (List.length p3))
             (
              cond (Ops.inb B (List.getD p2 (Int.toNat v0_4) (Ty.dflt ty3)) (List.length p0))
               (
                cond (Ops.eq B (Prod.fst (List.getD p0 (Int.toNat (List.getD p2 (Int.toNat v0_4) (Ty.dflt ty3))) (Ty.dflt ty66))) (9))
                 (
                  cond (Ops.inb B (List.getD p2 (Int.toNat v0_4) (Ty.dflt ty3)) (List.length p3))
                   (
                    cond (!List.getD p3 (Int.toNat (List.getD p2 (Int.toNat v0_4) (Ty.dflt ty3))) (Ty.dflt ty4))
                     (
                      cond (Ops.lim B (List.length v0_6 + 1) (1))
                       (
                        again (.l0 (IntKind.wrap IntKind.i64 (v0_4 + 1)) (v0_6 ++ [true])))
                       (
                        none))
                     (
                      cond (Ops.lim B (List.length v0_6 + 1) (1))
                       (
                        again (.l0 (IntKind.wrap IntKind.i64 (v0_4 + 1)) (v0_6 ++ [List.getD p3 (Int.toNat (List.getD (List.getD p1 (Int.toNat (List.getD p2 (Int.toNat v0_4) (Ty.dflt ty3))) (Ty.dflt ty22)) (Int.toNat (1)) (Ty.dflt (Ty.int IntKind.i64)))) (Ty.dflt ty4)])))
                       (
                        none)))
                   (
                    none))
                 (
                  cond (Ops.inb B (List.getD p2 (Int.toNat v0_4) (Ty.dflt ty3)) (List.length p3))
                   (
                    cond (List.getD p3 (Int.toNat (List.getD p2 (Int.toNat v0_4) (Ty.dflt ty3))) (Ty.dflt ty4))
                     (
                      cond (Ops.lim B (List.length v0_6 + 1) (1))
                       (
                        again (.l0 (IntKind.wrap IntKind.i64 (v0_4 + 1)) (v0_6 ++ [true])))
                       (
                        none))
                     (
                      cond (Ops.lim B (List.length v0_6 + 1) (1))
                       (
                        again (.l0 (IntKind.wrap IntKind.i64 (v0_4 + 1)) (v0_6 ++ [!List.getD p3 (Int.toNat (List.getD (List.getD p1 (Int.toNat (List.getD p2 (Int.toNat v0_4) (Ty.dflt ty3))) (Ty.dflt ty22)) (Int.toNat (1)) (Ty.dflt (Ty.int IntKind.i64)))) (Ty.dflt ty4)])))
                       (
                        none)))
                   (
                    none)))
               (
                none))
             (
              none))
           (
            none))
         (
          none))
       (
        none))
     (
      k v0_6)
def E46 (p0 : List ty66.den) (p1 : List ty22.den) (p2 : List ty3.den) (p3 : List ty4.den) : S46 → List AV × Objs
  | .l0 v0_4 v0_6 => (mk 61 [(0, .c (.list 66 ty66 p0)), (1, .c (.list 22 ty22 p1)), (2, .c (.list 3 ty3 p2)), (3, .c (.list 4 ty4 p3)), (8, .c (.own 8)), (9, .c (.own 9)), (10, .c (.int .i64 v0_4))], [(8, .row 4 ty4 []), (9, .row 4 ty4 v0_6)])
def I46 : S46 → Nat
  | .l0 _ _ => 0
theorem eq46 {R : Type} (B : Ops) (p0 : List ty66.den) (p1 : List ty22.den) (p2 : List ty3.den) (p3 : List ty4.den) (k : AV → Objs → Option R) (n : Nat) : afun tau B gl0 X46 (gnil) ow Try.f46 [.c (.list 66 ty66 p0), .c (.list 22 ty22 p1), .c (.list 3 ty3 p2), .c (.list 4 ty4 p3)] [] k n = T46 B p0 p1 p2 p3 (fun s => aloop tau B gl0 X46 (gnil) ow [] Try.f46 k (I46 s) (E46 p0 p1 p2 p3 s) n) (fun y => k (.c (.own 500)) [(500, .row 4 ty4 y)]) none := by kernel_rfl
theorem el46 {R : Type} (B : Ops) (p0 : List ty66.den) (p1 : List ty22.den) (p2 : List ty3.den) (p3 : List ty4.den) (k : AV → Objs → Option R) (n : Nat) : ∀ s, aloop tau B gl0 X46 (gnil) ow [] Try.f46 k (I46 s) (E46 p0 p1 p2 p3 s) (n + 1) = T46 B p0 p1 p2 p3 (fun s => aloop tau B gl0 X46 (gnil) ow [] Try.f46 k (I46 s) (E46 p0 p1 p2 p3 s) n) (fun y => k (.c (.own 500)) [(500, .row 4 ty4 y)]) (some s)
  | .l0 v0_4 v0_6 => by kernel_rfl
theorem nt46 {R R' : Type} (B : Ops) (p0 : List ty66.den) (p1 : List ty22.den) (p2 : List ty3.den) (p3 : List ty4.den) (again : S46 → Option R) (again' : S46 → Option R') (k0 : ((List ty4.den)) → Option R') (k : R' → Option R) (h : ∀ s, again s = ob (again' s) k) : ∀ s, T46 B p0 p1 p2 p3 again (fun y => ob (k0 y) k) s = ob (T46 B p0 p1 p2 p3 again' k0 s) k
  | none => by unfold T46; repeat' first | exact rfl | exact h _ | apply nat_cond | (apply nat_ob; intro)
  | some (.l0 v0_4 v0_6) => by unfold T46; repeat' first | exact rfl | exact h _ | apply nat_cond | (apply nat_ob; intro)
def R46 (p0 : List ty66.den) (p1 : List ty22.den) (p2 : List ty3.den) (p3 : List ty4.den) : Nat → S46 → Option ((List ty4.den))
  | 0, _ => none
  | n + 1, s => T46 Ops.std p0 p1 p2 p3 (R46 p0 p1 p2 p3 n) some (some s)
theorem rr46 {R : Type} (p0 : List ty66.den) (p1 : List ty22.den) (p2 : List ty3.den) (p3 : List ty4.den) (k : AV → Objs → Option R) : ∀ (n : Nat) (s : S46), aloop tau Ops.std gl0 X46 (gnil) ow [] Try.f46 k (I46 s) (E46 p0 p1 p2 p3 s) n = ob (R46 p0 p1 p2 p3 n s) (fun y => k (.c (.own 500)) [(500, .row 4 ty4 y)])
  | 0, s => by cases s <;> rfl
  | n + 1, s => by rw [el46]; exact nt46 Ops.std p0 p1 p2 p3 _ _ some (fun y => k (.c (.own 500)) [(500, .row 4 ty4 y)]) (rr46 p0 p1 p2 p3 k n) (some s)
def F46 (p0 : List ty66.den) (p1 : List ty22.den) (p2 : List ty3.den) (p3 : List ty4.den) : Option ((List ty4.den)) := T46 Ops.std p0 p1 p2 p3 (R46 p0 p1 p2 p3 1000000) some none
theorem fo46 {R : Type} (p0 : List ty66.den) (p1 : List ty22.den) (p2 : List ty3.den) (p3 : List ty4.den) (k : AV → Objs → Option R) : afun tau Ops.std gl0 X46 (gnil) ow Try.f46 [.c (.list 66 ty66 p0), .c (.list 22 ty22 p1), .c (.list 3 ty3 p2), .c (.list 4 ty4 p3)] [] k 1000000 = ob (F46 p0 p1 p2 p3) (fun y => k (.c (.own 500)) [(500, .row 4 ty4 y)]) := by rw [eq46]; exact nt46 Ops.std p0 p1 p2 p3 _ _ some (fun y => k (.c (.own 500)) [(500, .row 4 ty4 y)]) (rr46 p0 p1 p2 p3 k 1000000) none
def e46 {R : Type} (c : List ty66.den → List ty22.den → List ty3.den → List ty4.den → Option ((List ty4.den))) : Ent R := fun args objs k =>
  oCons args fun a0 l0 => oC a0 fun x0 => cList 66 ty66 x0 fun p0 => oCons l0 fun a1 l1 => oC a1 fun x1 => cList 22 ty22 x1 fun p1 => oCons l1 fun a2 l2 => oC a2 fun x2 => cList 3 ty3 x2 fun p2 => oCons l2 fun a3 l3 => oC a3 fun x3 => cList 4 ty4 x3 fun p3 => oNil l3 <| oNilO objs <| ob (c p0 p1 p2 p3) fun y => k (.c (.own 500)) [(500, .row 4 ty4 y)]
abbrev Sp46 (c : List ty66.den → List ty22.den → List ty3.den → List ty4.den → Option ((List ty4.den))) : Prop := ∀ (p0 : List ty66.den) (p1 : List ty22.den) (p2 : List ty3.den) (p3 : List ty4.den) (y : (List ty4.den)), c p0 p1 p2 p3 = some y → Spec Try.prog gl0 46 [.c (.list 66 ty66 p0), .c (.list 22 ty22 p1), .c (.list 3 ty3 p2), .c (.list 4 ty4 p3)] [] (.c (.own 500)) [(500, .row 4 ty4 y)]
theorem ek46 {R : Type} {c : List ty66.den → List ty22.den → List ty3.den → List ty4.den → Option ((List ty4.den))} (hs : Sp46 c) : EOk 46 (e46 (R := R) c) := fun args objs k r h => by
  unfold e46 at h
  obtain ⟨a0, l0, rfl, q1⟩ := oCons_some h
  obtain ⟨x0, rfl, q2⟩ := oC_some q1
  obtain ⟨p0, rfl, q3⟩ := cList_some q2
  obtain ⟨a1, l1, rfl, q4⟩ := oCons_some q3
  obtain ⟨x1, rfl, q5⟩ := oC_some q4
  obtain ⟨p1, rfl, q6⟩ := cList_some q5
  obtain ⟨a2, l2, rfl, q7⟩ := oCons_some q6
  obtain ⟨x2, rfl, q8⟩ := oC_some q7
  obtain ⟨p2, rfl, q9⟩ := cList_some q8
  obtain ⟨a3, l3, rfl, q10⟩ := oCons_some q9
  obtain ⟨x3, rfl, q11⟩ := oC_some q10
  obtain ⟨p3, rfl, q12⟩ := cList_some q11
  obtain ⟨rfl, q13⟩ := oNil_some q12
  obtain ⟨rfl, q14⟩ := oNilO_some q13
  exact eok_of (hs p0 p1 p2 p3) q14
theorem sf46 : Sp46 (F46) := fun p0 p1 p2 p3 y hy => by
  refine spec_of (G := gnil) (gnil_ok) 1000000 (fn := Try.f46) (by kernel_rfl) (by kernel_rfl) (X := X46) (by kernel_rfl) ?_
  rw [fo46, hy]
  rfl
noncomputable def M46 : List ty66.den → List ty22.den → List ty3.den → List ty4.den → Option ((List ty4.den)) := F46
theorem sm46 : Sp46 M46 := sf46

/-! ### 26: lariat/lariatref13.Count -/
def X26 : Aux := ⟨[], []⟩
def T26 {R : Type} (B : Ops) (p0 : Int) (p1 : List ty4.den) (k : (Int × Bool) → Option R) : Option R :=
  cond (Ops.eq B (Nat.cast (List.length p1)) (0))
   (
    k ((0, true)))
   (
    cond (Ops.lt B p0 (0))
     (
      k ((0, false)))
     (
      cond (Ops.le B (Nat.cast (List.length p1)) p0)
       (
        k ((0, false)))
       (
        cond (Ops.inb B p0 (List.length p1))
         (
          cond (!List.getD p1 (Int.toNat p0) (Ty.dflt ty4))
           (
            k ((p0, false)))
           (
            cond (Ops.eq B (IntKind.wrap IntKind.i64 (p0 + 1)) (Nat.cast (List.length p1)))
             (
              k ((0, true)))
             (
              k ((IntKind.wrap IntKind.i64 (p0 + 1), false)))))
         (
          none))))
theorem eq26 {R : Type} (B : Ops) (p0 : Int) (p1 : List ty4.den) (k : AV → Objs → Option R) (n : Nat) : afun tau B gl0 X26 (gnil) ow Try.f26 [.c (.int .i64 p0), .c (.list 4 ty4 p1)] [] k n = T26 B p0 p1 (fun y => k (.tup [(false, [.int .i64 y.1]), (false, [.bool y.2])]) []) := by kernel_rfl
theorem nt26 {R R' : Type} (B : Ops) (p0 : Int) (p1 : List ty4.den) (k0 : (Int × Bool) → Option R') (k : R' → Option R) : T26 B p0 p1 (fun y => ob (k0 y) k) = ob (T26 B p0 p1 k0) k := by
  unfold T26
  repeat' first | exact rfl | apply nat_cond | (apply nat_ob; intro)
def F26 (p0 : Int) (p1 : List ty4.den) : Option (Int × Bool) := T26 Ops.std p0 p1 some
theorem fo26 {R : Type} (p0 : Int) (p1 : List ty4.den) (k : AV → Objs → Option R) (n : Nat) : afun tau Ops.std gl0 X26 (gnil) ow Try.f26 [.c (.int .i64 p0), .c (.list 4 ty4 p1)] [] k n = ob (F26 p0 p1) (fun y => k (.tup [(false, [.int .i64 y.1]), (false, [.bool y.2])]) []) := by rw [eq26]; exact nt26 Ops.std p0 p1 some (fun y => k (.tup [(false, [.int .i64 y.1]), (false, [.bool y.2])]) [])
def e26 {R : Type} (c : Int → List ty4.den → Option (Int × Bool)) : Ent R := fun args objs k =>
  oCons args fun a0 l0 => oC a0 fun x0 => cInt .i64 x0 fun p0 => oCons l0 fun a1 l1 => oC a1 fun x1 => cList 4 ty4 x1 fun p1 => oNil l1 <| oNilO objs <| ob (c p0 p1) fun y => k (.tup [(false, [.int .i64 y.1]), (false, [.bool y.2])]) []
abbrev Sp26 (c : Int → List ty4.den → Option (Int × Bool)) : Prop := ∀ (p0 : Int) (p1 : List ty4.den) (y : Int × Bool), c p0 p1 = some y → Spec Try.prog gl0 26 [.c (.int .i64 p0), .c (.list 4 ty4 p1)] [] (.tup [(false, [.int .i64 y.1]), (false, [.bool y.2])]) []
theorem ek26 {R : Type} {c : Int → List ty4.den → Option (Int × Bool)} (hs : Sp26 c) : EOk 26 (e26 (R := R) c) := fun args objs k r h => by
  unfold e26 at h
  obtain ⟨a0, l0, rfl, q1⟩ := oCons_some h
  obtain ⟨x0, rfl, q2⟩ := oC_some q1
  obtain ⟨p0, rfl, q3⟩ := cInt_some q2
  obtain ⟨a1, l1, rfl, q4⟩ := oCons_some q3
  obtain ⟨x1, rfl, q5⟩ := oC_some q4
  obtain ⟨p1, rfl, q6⟩ := cList_some q5
  obtain ⟨rfl, q7⟩ := oNil_some q6
  obtain ⟨rfl, q8⟩ := oNilO_some q7
  exact eok_of (hs p0 p1) q8
theorem sf26 : Sp26 (F26) := fun p0 p1 y hy => by
  refine spec_of (G := gnil) (gnil_ok) 1000000 (fn := Try.f26) (by kernel_rfl) (by kernel_rfl) (X := X26) (by kernel_rfl) ?_
  rw [fo26, hy]
  rfl
noncomputable def M26 : Int → List ty4.den → Option (Int × Bool) := F26
theorem sm26 : Sp26 M26 := sf26

/-! ### 82: lariat/lariatref13.other -/
def X82 : Aux := ⟨[], []⟩
def T82 {R : Type} (B : Ops) (p0 : Int) (k : (Int) → Option R) : Option R :=
  cond (Ops.eq B p0 (5))
   (
    k 6)
   (
    cond (Ops.eq B p0 (6))
     (
      k 5)
     (
      cond (Ops.eq B p0 (9))
       (
        k 10)
       (
        k 9)))
theorem eq82 {R : Type} (B : Ops) (p0 : Int) (k : AV → Objs → Option R) (n : Nat) : afun tau B gl0 X82 (gnil) ow Try.f82 [.c (.int .i64 p0)] [] k n = T82 B p0 (fun y => k (.c (.int .i64 y)) []) := by kernel_rfl
theorem nt82 {R R' : Type} (B : Ops) (p0 : Int) (k0 : (Int) → Option R') (k : R' → Option R) : T82 B p0 (fun y => ob (k0 y) k) = ob (T82 B p0 k0) k := by
  unfold T82
  repeat' first | exact rfl | apply nat_cond | (apply nat_ob; intro)
def F82 (p0 : Int) : Option (Int) := T82 Ops.std p0 some
theorem fo82 {R : Type} (p0 : Int) (k : AV → Objs → Option R) (n : Nat) : afun tau Ops.std gl0 X82 (gnil) ow Try.f82 [.c (.int .i64 p0)] [] k n = ob (F82 p0) (fun y => k (.c (.int .i64 y)) []) := by rw [eq82]; exact nt82 Ops.std p0 some (fun y => k (.c (.int .i64 y)) [])
def e82 {R : Type} (c : Int → Option (Int)) : Ent R := fun args objs k =>
  oCons args fun a0 l0 => oC a0 fun x0 => cInt .i64 x0 fun p0 => oNil l0 <| oNilO objs <| ob (c p0) fun y => k (.c (.int .i64 y)) []
abbrev Sp82 (c : Int → Option (Int)) : Prop := ∀ (p0 : Int) (y : Int), c p0 = some y → Spec Try.prog gl0 82 [.c (.int .i64 p0)] [] (.c (.int .i64 y)) []
theorem ek82 {R : Type} {c : Int → Option (Int)} (hs : Sp82 c) : EOk 82 (e82 (R := R) c) := fun args objs k r h => by
  unfold e82 at h
  obtain ⟨a0, l0, rfl, q1⟩ := oCons_some h
  obtain ⟨x0, rfl, q2⟩ := oC_some q1
  obtain ⟨p0, rfl, q3⟩ := cInt_some q2
  obtain ⟨rfl, q4⟩ := oNil_some q3
  obtain ⟨rfl, q5⟩ := oNilO_some q4
  exact eok_of (hs p0) q5
theorem sf82 : Sp82 (F82) := fun p0 y hy => by
  refine spec_of (G := gnil) (gnil_ok) 1000000 (fn := Try.f82) (by kernel_rfl) (by kernel_rfl) (X := X82) (by kernel_rfl) ?_
  rw [fo82, hy]
  rfl
noncomputable def M82 : Int → Option (Int) := F82
theorem sm82 : Sp82 M82 := sf82

/-! ### 12: lariat/lariathand.Pick -/
def X12 : Aux := ⟨[], []⟩
def T12 {R : Type} (B : Ops) (p0 : Int) (p1 : Int) (k : (Int) → Option R) : Option R :=
  cond (Ops.eq B p1 (0))
   (
    none)
   (
    cond (Ops.lt B (Int.tmod p0 p1) (0))
     (
      k (IntKind.wrap IntKind.i64 (Int.tmod p0 p1 + p1)))
     (
      k (Int.tmod p0 p1)))
theorem eq12 {R : Type} (B : Ops) (p0 : Int) (p1 : Int) (k : AV → Objs → Option R) (n : Nat) : afun tau B gl0 X12 (gnil) ow Try.f12 [.c (.int .i64 p0), .c (.int .i64 p1)] [] k n = T12 B p0 p1 (fun y => k (.c (.int .i64 y)) []) := by kernel_rfl
theorem nt12 {R R' : Type} (B : Ops) (p0 : Int) (p1 : Int) (k0 : (Int) → Option R') (k : R' → Option R) : T12 B p0 p1 (fun y => ob (k0 y) k) = ob (T12 B p0 p1 k0) k := by
  unfold T12
  repeat' first | exact rfl | apply nat_cond | (apply nat_ob; intro)
def F12 (p0 : Int) (p1 : Int) : Option (Int) := T12 Ops.std p0 p1 some
theorem fo12 {R : Type} (p0 : Int) (p1 : Int) (k : AV → Objs → Option R) (n : Nat) : afun tau Ops.std gl0 X12 (gnil) ow Try.f12 [.c (.int .i64 p0), .c (.int .i64 p1)] [] k n = ob (F12 p0 p1) (fun y => k (.c (.int .i64 y)) []) := by rw [eq12]; exact nt12 Ops.std p0 p1 some (fun y => k (.c (.int .i64 y)) [])
def e12 {R : Type} (c : Int → Int → Option (Int)) : Ent R := fun args objs k =>
  oCons args fun a0 l0 => oC a0 fun x0 => cInt .i64 x0 fun p0 => oCons l0 fun a1 l1 => oC a1 fun x1 => cInt .i64 x1 fun p1 => oNil l1 <| oNilO objs <| ob (c p0 p1) fun y => k (.c (.int .i64 y)) []
abbrev Sp12 (c : Int → Int → Option (Int)) : Prop := ∀ (p0 : Int) (p1 : Int) (y : Int), c p0 p1 = some y → Spec Try.prog gl0 12 [.c (.int .i64 p0), .c (.int .i64 p1)] [] (.c (.int .i64 y)) []
theorem ek12 {R : Type} {c : Int → Int → Option (Int)} (hs : Sp12 c) : EOk 12 (e12 (R := R) c) := fun args objs k r h => by
  unfold e12 at h
  obtain ⟨a0, l0, rfl, q1⟩ := oCons_some h
  obtain ⟨x0, rfl, q2⟩ := oC_some q1
  obtain ⟨p0, rfl, q3⟩ := cInt_some q2
  obtain ⟨a1, l1, rfl, q4⟩ := oCons_some q3
  obtain ⟨x1, rfl, q5⟩ := oC_some q4
  obtain ⟨p1, rfl, q6⟩ := cInt_some q5
  obtain ⟨rfl, q7⟩ := oNil_some q6
  obtain ⟨rfl, q8⟩ := oNilO_some q7
  exact eok_of (hs p0 p1) q8
theorem sf12 : Sp12 (F12) := fun p0 p1 y hy => by
  refine spec_of (G := gnil) (gnil_ok) 1000000 (fn := Try.f12) (by kernel_rfl) (by kernel_rfl) (X := X12) (by kernel_rfl) ?_
  rw [fo12, hy]
  rfl
noncomputable def M12 : Int → Int → Option (Int) := F12
theorem sm12 : Sp12 M12 := sf12

/-! ### 86: (*lariat/nnf.walker).add -/
def X86 : Aux := ⟨[], []⟩
def T86 {R : Type} (B : Ops) (p0 : Int) (p1 : List ty66.den) (p2 : List ty22.den) (p3 : List ty66.den) (k : (Bool × (List ty66.den) × (List ty22.den) × (List ty66.den)) → Option R) : Option R :=
  cond (Ops.lim B (List.length p3 + List.length ((p0, mt (Ty.den (Ty.pair (Ty.int IntKind.i64) (Ty.pair (Ty.int IntKind.i64) (Ty.pair Ty.str Ty.str))))) :: mt (Ty.den (Ty.pair (Ty.int IntKind.i64) (Ty.list (98) (Ty.pair (Ty.int IntKind.i64) (Ty.pair (Ty.int IntKind.i64) (Ty.pair Ty.str Ty.str)))))))) (32))
   (
    k ((Ops.le B (Nat.cast (List.length (p3 ++ (p0, mt (Ty.den (Ty.pair (Ty.int IntKind.i64) (Ty.pair (Ty.int IntKind.i64) (Ty.pair Ty.str Ty.str))))) :: mt (Ty.den (Ty.pair (Ty.int IntKind.i64) (Ty.list (98) (Ty.pair (Ty.int IntKind.i64) (Ty.pair (Ty.int IntKind.i64) (Ty.pair Ty.str Ty.str))))))))) (60), p1, p2, p3 ++ (p0, mt (Ty.den (Ty.pair (Ty.int IntKind.i64) (Ty.pair (Ty.int IntKind.i64) (Ty.pair Ty.str Ty.str))))) :: mt (Ty.den (Ty.pair (Ty.int IntKind.i64) (Ty.list (98) (Ty.pair (Ty.int IntKind.i64) (Ty.pair (Ty.int IntKind.i64) (Ty.pair Ty.str Ty.str)))))))))
   (
    none)
theorem eq86 {R : Type} (B : Ops) (p0 : Int) (p1 : List ty66.den) (p2 : List ty22.den) (p3 : List ty66.den) (k : AV → Objs → Option R) (n : Nat) : afun tau B gl0 X86 (gnil) ow Try.f86 [.c (.ptr 0 0), .c (.int .i64 p0)] [(0, .box 104 [.list 66 ty66 p1, .own 1001, .own 1002]), (1001, .row 22 ty22 p2), (1002, .row 66 ty66 p3)] k n = T86 B p0 p1 p2 p3 (fun y => k (.c (.bool y.1)) [(0, .box 104 [.list 66 ty66 y.2.1, .own 1001, .own 1002]), (1001, .row 22 ty22 y.2.2.1), (1002, .row 66 ty66 y.2.2.2)]) := by kernel_rfl
theorem nt86 {R R' : Type} (B : Ops) (p0 : Int) (p1 : List ty66.den) (p2 : List ty22.den) (p3 : List ty66.den) (k0 : (Bool × (List ty66.den) × (List ty22.den) × (List ty66.den)) → Option R') (k : R' → Option R) : T86 B p0 p1 p2 p3 (fun y => ob (k0 y) k) = ob (T86 B p0 p1 p2 p3 k0) k := by
  unfold T86
  repeat' first | exact rfl | apply nat_cond | (apply nat_ob; intro)
def F86 (p0 : Int) (p1 : List ty66.den) (p2 : List ty22.den) (p3 : List ty66.den) : Option (Bool × (List ty66.den) × (List ty22.den) × (List ty66.den)) := T86 Ops.std p0 p1 p2 p3 some
theorem fo86 {R : Type} (p0 : Int) (p1 : List ty66.den) (p2 : List ty22.den) (p3 : List ty66.den) (k : AV → Objs → Option R) (n : Nat) : afun tau Ops.std gl0 X86 (gnil) ow Try.f86 [.c (.ptr 0 0), .c (.int .i64 p0)] [(0, .box 104 [.list 66 ty66 p1, .own 1001, .own 1002]), (1001, .row 22 ty22 p2), (1002, .row 66 ty66 p3)] k n = ob (F86 p0 p1 p2 p3) (fun y => k (.c (.bool y.1)) [(0, .box 104 [.list 66 ty66 y.2.1, .own 1001, .own 1002]), (1001, .row 22 ty22 y.2.2.1), (1002, .row 66 ty66 y.2.2.2)]) := by rw [eq86]; exact nt86 Ops.std p0 p1 p2 p3 some (fun y => k (.c (.bool y.1)) [(0, .box 104 [.list 66 ty66 y.2.1, .own 1001, .own 1002]), (1001, .row 22 ty22 y.2.2.1), (1002, .row 66 ty66 y.2.2.2)])
def e86 {R : Type} (c : Int → List ty66.den → List ty22.den → List ty66.den → Option (Bool × (List ty66.den) × (List ty22.den) × (List ty66.den))) : Ent R := fun args objs k =>
  oCons args fun a0 l0 => oC a0 fun x0 => cPtr 0 x0 <| oCons l0 fun a1 l1 => oC a1 fun x1 => cInt .i64 x1 fun p0 => oNil l1 <| oBox 0 104 objs fun b0 o0 => cCons b0 fun u0_0 v0_0 => cList 66 ty66 u0_0 fun p1 => cCons v0_0 fun u0_1 v0_1 => cOwn 1001 u0_1 <| cCons v0_1 fun u0_2 v0_2 => cOwn 1002 u0_2 <| cNil v0_2 <| oRow 1001 22 ty22 o0 fun p2 o1 => oRow 1002 66 ty66 o1 fun p3 o2 => oNilO o2 <| ob (c p0 p1 p2 p3) fun y => k (.c (.bool y.1)) [(0, .box 104 [.list 66 ty66 y.2.1, .own 1001, .own 1002]), (1001, .row 22 ty22 y.2.2.1), (1002, .row 66 ty66 y.2.2.2)]
abbrev Sp86 (c : Int → List ty66.den → List ty22.den → List ty66.den → Option (Bool × (List ty66.den) × (List ty22.den) × (List ty66.den))) : Prop := ∀ (p0 : Int) (p1 : List ty66.den) (p2 : List ty22.den) (p3 : List ty66.den) (y : Bool × (List ty66.den) × (List ty22.den) × (List ty66.den)), c p0 p1 p2 p3 = some y → Spec Try.prog gl0 86 [.c (.ptr 0 0), .c (.int .i64 p0)] [(0, .box 104 [.list 66 ty66 p1, .own 1001, .own 1002]), (1001, .row 22 ty22 p2), (1002, .row 66 ty66 p3)] (.c (.bool y.1)) [(0, .box 104 [.list 66 ty66 y.2.1, .own 1001, .own 1002]), (1001, .row 22 ty22 y.2.2.1), (1002, .row 66 ty66 y.2.2.2)]
theorem ek86 {R : Type} {c : Int → List ty66.den → List ty22.den → List ty66.den → Option (Bool × (List ty66.den) × (List ty22.den) × (List ty66.den))} (hs : Sp86 c) : EOk 86 (e86 (R := R) c) := fun args objs k r h => by
  unfold e86 at h
  obtain ⟨a0, l0, rfl, q1⟩ := oCons_some h
  obtain ⟨x0, rfl, q2⟩ := oC_some q1
  obtain ⟨rfl, q3⟩ := cPtr_some q2
  obtain ⟨a1, l1, rfl, q4⟩ := oCons_some q3
  obtain ⟨x1, rfl, q5⟩ := oC_some q4
  obtain ⟨p0, rfl, q6⟩ := cInt_some q5
  obtain ⟨rfl, q7⟩ := oNil_some q6
  obtain ⟨b0, o0, rfl, q8⟩ := oBox_some q7
  obtain ⟨u0_0, v0_0, rfl, q9⟩ := cCons_some q8
  obtain ⟨p1, rfl, q10⟩ := cList_some q9
  obtain ⟨u0_1, v0_1, rfl, q11⟩ := cCons_some q10
  obtain ⟨rfl, q12⟩ := cOwn_some q11
  obtain ⟨u0_2, v0_2, rfl, q13⟩ := cCons_some q12
  obtain ⟨rfl, q14⟩ := cOwn_some q13
  obtain ⟨rfl, q15⟩ := cNil_some q14
  obtain ⟨p2, o1, rfl, q16⟩ := oRow_some q15
  obtain ⟨p3, o2, rfl, q17⟩ := oRow_some q16
  obtain ⟨rfl, q18⟩ := oNilO_some q17
  exact eok_of (hs p0 p1 p2 p3) q18
theorem sf86 : Sp86 (F86) := fun p0 p1 p2 p3 y hy => by
  refine spec_of (G := gnil) (gnil_ok) 1000000 (fn := Try.f86) (by kernel_rfl) (by kernel_rfl) (X := X86) (by kernel_rfl) ?_
  rw [fo86, hy]
  rfl
noncomputable def M86 : Int → List ty66.den → List ty22.den → List ty66.den → Option (Bool × (List ty66.den) × (List ty22.den) × (List ty66.den)) := F86
theorem sm86 : Sp86 M86 := sf86

/-! ### 85: (*lariat/nnf.walker).atom -/
def X85 : Aux := ⟨[], [(1, .lin [0, 1, 2, 3, 4, 5, 6, 7, 8, 9, 10, 11, 12, 13, 14, 15, 16, 17, 18, 19])]⟩
def T85 {R : Type} (B : Ops) (c93 : List ty98.den → Option ((List ty98.den))) (c86 : Int → List ty66.den → List ty22.den → List ty66.den → Option (Bool × (List ty66.den) × (List ty22.den) × (List ty66.den))) (p0 : Int) (p1 : Bool) (p2 : List ty66.den) (p3 : List ty22.den) (p4 : List ty66.den) (k : (Bool × (List ty66.den) × (List ty22.den) × (List ty66.den)) → Option R) : Option R :=
  cond (Ops.inb B p0 (List.length p2))
   (
    ob (c93 (Prod.snd (List.getD p2 (Int.toNat p0) (Ty.dflt ty66)))) fun y0 =>
    cond (Ops.lim B (List.length p4 + List.length ((3, y0) :: mt (Ty.den (Ty.pair (Ty.int IntKind.i64) (Ty.list (98) (Ty.pair (Ty.int IntKind.i64) (Ty.pair (Ty.int IntKind.i64) (Ty.pair Ty.str Ty.str)))))))) (32))
     (
      cond (Ops.le B (Nat.cast (List.length (p4 ++ (3, y0) :: mt (Ty.den (Ty.pair (Ty.int IntKind.i64) (Ty.list (98) (Ty.pair (Ty.int IntKind.i64) (Ty.pair (Ty.int IntKind.i64) (Ty.pair Ty.str Ty.str))))))))) (60))
       (
        cond (!p1)
         (
          k ((true, p2, p3, p4 ++ (3, y0) :: mt (Ty.den (Ty.pair (Ty.int IntKind.i64) (Ty.list (98) (Ty.pair (Ty.int IntKind.i64) (Ty.pair (Ty.int IntKind.i64) (Ty.pair Ty.str Ty.str)))))))))
         (
          ob (c86 (4) p2 p3 (p4 ++ (3, y0) :: mt (Ty.den (Ty.pair (Ty.int IntKind.i64) (Ty.list (98) (Ty.pair (Ty.int IntKind.i64) (Ty.pair (Ty.int IntKind.i64) (Ty.pair Ty.str Ty.str)))))))) fun y1 =>
          k ((Prod.fst y1, Prod.fst (Prod.snd y1), Prod.fst (Prod.snd (Prod.snd y1)), Prod.snd (Prod.snd (Prod.snd y1))))))
       (
        k ((false, p2, p3, p4 ++ (3, y0) :: mt (Ty.den (Ty.pair (Ty.int IntKind.i64) (Ty.list (98) (Ty.pair (Ty.int IntKind.i64) (Ty.pair (Ty.int IntKind.i64) (Ty.pair Ty.str Ty.str))))))))))
     (
      none))
   (
    none)
theorem eq85 {R : Type} (B : Ops) (c93 : List ty98.den → Option ((List ty98.den))) (c86 : Int → List ty66.den → List ty22.den → List ty66.den → Option (Bool × (List ty66.den) × (List ty22.den) × (List ty66.den))) (p0 : Int) (p1 : Bool) (p2 : List ty66.den) (p3 : List ty22.den) (p4 : List ty66.den) (k : AV → Objs → Option R) (n : Nat) : afun tau B gl0 X85 (ent 93 (e93 c93) (ent 86 (e86 c86) (gnil))) ow Try.f85 [.c (.ptr 0 0), .c (.int .i64 p0), .c (.bool p1)] [(0, .box 104 [.list 66 ty66 p2, .own 1001, .own 1002]), (1001, .row 22 ty22 p3), (1002, .row 66 ty66 p4)] k n = T85 B c93 c86 p0 p1 p2 p3 p4 (fun y => k (.c (.bool y.1)) [(0, .box 104 [.list 66 ty66 y.2.1, .own 1001, .own 1002]), (1001, .row 22 ty22 y.2.2.1), (1002, .row 66 ty66 y.2.2.2)]) := by kernel_rfl
theorem nt85 {R R' : Type} (B : Ops) (c93 : List ty98.den → Option ((List ty98.den))) (c86 : Int → List ty66.den → List ty22.den → List ty66.den → Option (Bool × (List ty66.den) × (List ty22.den) × (List ty66.den))) (p0 : Int) (p1 : Bool) (p2 : List ty66.den) (p3 : List ty22.den) (p4 : List ty66.den) (k0 : (Bool × (List ty66.den) × (List ty22.den) × (List ty66.den)) → Option R') (k : R' → Option R) : T85 B c93 c86 p0 p1 p2 p3 p4 (fun y => ob (k0 y) k) = ob (T85 B c93 c86 p0 p1 p2 p3 p4 k0) k := by
  unfold T85
  repeat' first | exact rfl | apply nat_cond | (apply nat_ob; intro)
def F85 (c93 : List ty98.den → Option ((List ty98.den))) (c86 : Int → List ty66.den → List ty22.den → List ty66.den → Option (Bool × (List ty66.den) × (List ty22.den) × (List ty66.den))) (p0 : Int) (p1 : Bool) (p2 : List ty66.den) (p3 : List ty22.den) (p4 : List ty66.den) : Option (Bool × (List ty66.den) × (List ty22.den) × (List ty66.den)) := T85 Ops.std c93 c86 p0 p1 p2 p3 p4 some
theorem fo85 {R : Type} (c93 : List ty98.den → Option ((List ty98.den))) (c86 : Int → List ty66.den → List ty22.den → List ty66.den → Option (Bool × (List ty66.den) × (List ty22.den) × (List ty66.den))) (p0 : Int) (p1 : Bool) (p2 : List ty66.den) (p3 : List ty22.den) (p4 : List ty66.den) (k : AV → Objs → Option R) (n : Nat) : afun tau Ops.std gl0 X85 (ent 93 (e93 c93) (ent 86 (e86 c86) (gnil))) ow Try.f85 [.c (.ptr 0 0), .c (.int .i64 p0), .c (.bool p1)] [(0, .box 104 [.list 66 ty66 p2, .own 1001, .own 1002]), (1001, .row 22 ty22 p3), (1002, .row 66 ty66 p4)] k n = ob (F85 c93 c86 p0 p1 p2 p3 p4) (fun y => k (.c (.bool y.1)) [(0, .box 104 [.list 66 ty66 y.2.1, .own 1001, .own 1002]), (1001, .row 22 ty22 y.2.2.1), (1002, .row 66 ty66 y.2.2.2)]) := by rw [eq85]; exact nt85 Ops.std c93 c86 p0 p1 p2 p3 p4 some (fun y => k (.c (.bool y.1)) [(0, .box 104 [.list 66 ty66 y.2.1, .own 1001, .own 1002]), (1001, .row 22 ty22 y.2.2.1), (1002, .row 66 ty66 y.2.2.2)])
def e85 {R : Type} (c : Int → Bool → List ty66.den → List ty22.den → List ty66.den → Option (Bool × (List ty66.den) × (List ty22.den) × (List ty66.den))) : Ent R := fun args objs k =>
  oCons args fun a0 l0 => oC a0 fun x0 => cPtr 0 x0 <| oCons l0 fun a1 l1 => oC a1 fun x1 => cInt .i64 x1 fun p0 => oCons l1 fun a2 l2 => oC a2 fun x2 => cBool x2 fun p1 => oNil l2 <| oBox 0 104 objs fun b0 o0 => cCons b0 fun u0_0 v0_0 => cList 66 ty66 u0_0 fun p2 => cCons v0_0 fun u0_1 v0_1 => cOwn 1001 u0_1 <| cCons v0_1 fun u0_2 v0_2 => cOwn 1002 u0_2 <| cNil v0_2 <| oRow 1001 22 ty22 o0 fun p3 o1 => oRow 1002 66 ty66 o1 fun p4 o2 => oNilO o2 <| ob (c p0 p1 p2 p3 p4) fun y => k (.c (.bool y.1)) [(0, .box 104 [.list 66 ty66 y.2.1, .own 1001, .own 1002]), (1001, .row 22 ty22 y.2.2.1), (1002, .row 66 ty66 y.2.2.2)]
abbrev Sp85 (c : Int → Bool → List ty66.den → List ty22.den → List ty66.den → Option (Bool × (List ty66.den) × (List ty22.den) × (List ty66.den))) : Prop := ∀ (p0 : Int) (p1 : Bool) (p2 : List ty66.den) (p3 : List ty22.den) (p4 : List ty66.den) (y : Bool × (List ty66.den) × (List ty22.den) × (List ty66.den)), c p0 p1 p2 p3 p4 = some y → Spec Try.prog gl0 85 [.c (.ptr 0 0), .c (.int .i64 p0), .c (.bool p1)] [(0, .box 104 [.list 66 ty66 p2, .own 1001, .own 1002]), (1001, .row 22 ty22 p3), (1002, .row 66 ty66 p4)] (.c (.bool y.1)) [(0, .box 104 [.list 66 ty66 y.2.1, .own 1001, .own 1002]), (1001, .row 22 ty22 y.2.2.1), (1002, .row 66 ty66 y.2.2.2)]
theorem ek85 {R : Type} {c : Int → Bool → List ty66.den → List ty22.den → List ty66.den → Option (Bool × (List ty66.den) × (List ty22.den) × (List ty66.den))} (hs : Sp85 c) : EOk 85 (e85 (R := R) c) := fun args objs k r h => by
  unfold e85 at h
  obtain ⟨a0, l0, rfl, q1⟩ := oCons_some h
  obtain ⟨x0, rfl, q2⟩ := oC_some q1
  obtain ⟨rfl, q3⟩ := cPtr_some q2
  obtain ⟨a1, l1, rfl, q4⟩ := oCons_some q3
  obtain ⟨x1, rfl, q5⟩ := oC_some q4
  obtain ⟨p0, rfl, q6⟩ := cInt_some q5
  obtain ⟨a2, l2, rfl, q7⟩ := oCons_some q6
  obtain ⟨x2, rfl, q8⟩ := oC_some q7
  obtain ⟨p1, rfl, q9⟩ := cBool_some q8
  obtain ⟨rfl, q10⟩ := oNil_some q9
  obtain ⟨b0, o0, rfl, q11⟩ := oBox_some q10
  obtain ⟨u0_0, v0_0, rfl, q12⟩ := cCons_some q11
  obtain ⟨p2, rfl, q13⟩ := cList_some q12
  obtain ⟨u0_1, v0_1, rfl, q14⟩ := cCons_some q13
  obtain ⟨rfl, q15⟩ := cOwn_some q14
  obtain ⟨u0_2, v0_2, rfl, q16⟩ := cCons_some q15
  obtain ⟨rfl, q17⟩ := cOwn_some q16
  obtain ⟨rfl, q18⟩ := cNil_some q17
  obtain ⟨p3, o1, rfl, q19⟩ := oRow_some q18
  obtain ⟨p4, o2, rfl, q20⟩ := oRow_some q19
  obtain ⟨rfl, q21⟩ := oNilO_some q20
  exact eok_of (hs p0 p1 p2 p3 p4) q21
theorem sf85 {c93 : List ty98.den → Option ((List ty98.den))} {c86 : Int → List ty66.den → List ty22.den → List ty66.den → Option (Bool × (List ty66.den) × (List ty22.den) × (List ty66.den))} (h93 : Sp93 c93) (h86 : Sp86 c86) : Sp85 (F85 c93 c86) := fun p0 p1 p2 p3 p4 y hy => by
  refine spec_of (G := ent 93 (e93 c93) (ent 86 (e86 c86) (gnil))) (ent_ok (ek93 h93) (ent_ok (ek86 h86) (gnil_ok))) 1000000 (fn := Try.f85) (by kernel_rfl) (by kernel_rfl) (X := X85) (by kernel_rfl) ?_
  rw [fo85, hy]
  rfl
noncomputable def M85 : Int → Bool → List ty66.den → List ty22.den → List ty66.den → Option (Bool × (List ty66.den) × (List ty22.den) × (List ty66.den)) := F85 M93 M86
theorem sm85 : Sp85 M85 := sf85 sm93 sm86
def e74 {R : Type} (c : Int → Bool → List ty66.den → List ty22.den → List ty66.den → Option (Bool × (List ty66.den) × (List ty22.den) × (List ty66.den))) : Ent R := fun args objs k =>
  oCons args fun a0 l0 => oC a0 fun x0 => cPtr 0 x0 <| oCons l0 fun a1 l1 => oC a1 fun x1 => cInt .i64 x1 fun p0 => oCons l1 fun a2 l2 => oC a2 fun x2 => cBool x2 fun p1 => oNil l2 <| oBox 0 104 objs fun b0 o0 => cCons b0 fun u0_0 v0_0 => cList 66 ty66 u0_0 fun p2 => cCons v0_0 fun u0_1 v0_1 => cOwn 1001 u0_1 <| cCons v0_1 fun u0_2 v0_2 => cOwn 1002 u0_2 <| cNil v0_2 <| oRow 1001 22 ty22 o0 fun p3 o1 => oRow 1002 66 ty66 o1 fun p4 o2 => oNilO o2 <| ob (c p0 p1 p2 p3 p4) fun y => k (.c (.bool y.1)) [(0, .box 104 [.list 66 ty66 y.2.1, .own 1001, .own 1002]), (1001, .row 22 ty22 y.2.2.1), (1002, .row 66 ty66 y.2.2.2)]
abbrev Sp74 (c : Int → Bool → List ty66.den → List ty22.den → List ty66.den → Option (Bool × (List ty66.den) × (List ty22.den) × (List ty66.den))) : Prop := ∀ (p0 : Int) (p1 : Bool) (p2 : List ty66.den) (p3 : List ty22.den) (p4 : List ty66.den) (y : Bool × (List ty66.den) × (List ty22.den) × (List ty66.den)), c p0 p1 p2 p3 p4 = some y → Spec Try.prog gl0 74 [.c (.ptr 0 0), .c (.int .i64 p0), .c (.bool p1)] [(0, .box 104 [.list 66 ty66 p2, .own 1001, .own 1002]), (1001, .row 22 ty22 p3), (1002, .row 66 ty66 p4)] (.c (.bool y.1)) [(0, .box 104 [.list 66 ty66 y.2.1, .own 1001, .own 1002]), (1001, .row 22 ty22 y.2.2.1), (1002, .row 66 ty66 y.2.2.2)]
theorem ek74 {R : Type} {c : Int → Bool → List ty66.den → List ty22.den → List ty66.den → Option (Bool × (List ty66.den) × (List ty22.den) × (List ty66.den))} (hs : Sp74 c) : EOk 74 (e74 (R := R) c) := fun args objs k r h => by
  unfold e74 at h
  obtain ⟨a0, l0, rfl, q1⟩ := oCons_some h
  obtain ⟨x0, rfl, q2⟩ := oC_some q1
  obtain ⟨rfl, q3⟩ := cPtr_some q2
  obtain ⟨a1, l1, rfl, q4⟩ := oCons_some q3
  obtain ⟨x1, rfl, q5⟩ := oC_some q4
  obtain ⟨p0, rfl, q6⟩ := cInt_some q5
  obtain ⟨a2, l2, rfl, q7⟩ := oCons_some q6
  obtain ⟨x2, rfl, q8⟩ := oC_some q7
  obtain ⟨p1, rfl, q9⟩ := cBool_some q8
  obtain ⟨rfl, q10⟩ := oNil_some q9
  obtain ⟨b0, o0, rfl, q11⟩ := oBox_some q10
  obtain ⟨u0_0, v0_0, rfl, q12⟩ := cCons_some q11
  obtain ⟨p2, rfl, q13⟩ := cList_some q12
  obtain ⟨u0_1, v0_1, rfl, q14⟩ := cCons_some q13
  obtain ⟨rfl, q15⟩ := cOwn_some q14
  obtain ⟨u0_2, v0_2, rfl, q16⟩ := cCons_some q15
  obtain ⟨rfl, q17⟩ := cOwn_some q16
  obtain ⟨rfl, q18⟩ := cNil_some q17
  obtain ⟨p3, o1, rfl, q19⟩ := oRow_some q18
  obtain ⟨p4, o2, rfl, q20⟩ := oRow_some q19
  obtain ⟨rfl, q21⟩ := oNilO_some q20
  exact eok_of (hs p0 p1 p2 p3 p4) q21

/-! ### 74: (*lariat/nnf.walker).walk -/
def X74 : Aux := ⟨[(5, [1, 3, 4, 5, 6, 7, 9, 10, 11, 12, 13, 14, 15, 16, 17, 18, 19, 20, 21, 22, 23, 24, 25, 26, 30, 31, 32, 33, 34, 35, 36, 37, 38, 44, 45, 46, 47, 48, 49, 50, 51, 52, 53, 54, 55, 56, 57, 58, 59, 60, 61, 62, 63, 64, 65, 66, 67, 68, 69, 70, 71, 72, 73, 74, 75, 76, 77, 78, 79, 80, 81, 82, 83, 84, 85, 86, 87, 88, 89, 90, 91, 92, 93, 94, 95, 96, 97, 98, 99, 100, 101, 102, 103, 104, 105, 106, 107, 108, 109, 110, 111, 112, 113, 114, 115, 116, 117, 118, 119, 120, 121])], []⟩
inductive S74 where
  | l0 (v0_1 : Int) (v0_2 : List ty3.den) (v0_3 : Int) (v0_4 : Int) (v0_5 : List ty66.den) (v0_6 : List ty22.den) (v0_7 : List ty66.den)
def T74 {R : Type} (B : Ops) (c85 : Int → Bool → List ty66.den → List ty22.den → List ty66.den → Option (Bool × (List ty66.den) × (List ty22.den) × (List ty66.den))) (c74 : Int → Bool → List ty66.den → List ty22.den → List ty66.den → Option (Bool × (List ty66.den) × (List ty22.den) × (List ty66.den))) (c87 : Int → Bool → Option (Int)) (c86 : Int → List ty66.den → List ty22.den → List ty66.den → Option (Bool × (List ty66.den) × (List ty22.den) × (List ty66.den))) (p0 : Int) (p1 : Bool) (p2 : List ty66.den) (p3 : List ty22.den) (p4 : List ty66.den) (again : S74 → Option R) (k : (Bool × (List ty66.den) × (List ty22.den) × (List ty66.den)) → Option R) : Option S74 → Option R
  | none =>
    cond (Ops.inb B p0 (List.length p3))
     (
      cond (Ops.inb B p0 (List.length p2))
       (
        cond (Ops.eq B (Prod.fst (List.getD p2 (Int.toNat p0) (Ty.dflt ty66))) (3))
         (
          ob (c85 p0 p1 p2 p3 p4) fun y0 =>
          k ((Prod.fst y0, Prod.fst (Prod.snd y0), Prod.fst (Prod.snd (Prod.snd y0)), Prod.snd (Prod.snd (Prod.snd y0)))))
         (
          cond (Ops.eq B (Prod.fst (List.getD p2 (Int.toNat p0) (Ty.dflt ty66))) (4))
           (
            cond (Ops.inb B (0) (List.length (List.getD p3 (Int.toNat p0) (Ty.dflt ty22))))
             (
              ob (c74 (List.getD (List.getD p3 (Int.toNat p0) (Ty.dflt ty22)) (Int.toNat (0)) (Ty.dflt (Ty.int IntKind.i64))) (!p1) p2 p3 p4) fun y0 =>
              k ((Prod.fst y0, Prod.fst (Prod.snd y0), Prod.fst (Prod.snd (Prod.snd y0)), Prod.snd (Prod.snd (Prod.snd y0)))))
             (
              none))
           (
            cond (Ops.eq B (Prod.fst (List.getD p2 (Int.toNat p0) (Ty.dflt ty66))) (7))
             (
              cond (Ops.inb B (0) (List.length (List.getD p3 (Int.toNat p0) (Ty.dflt ty22))))
               (
                ob (c74 (List.getD (List.getD p3 (Int.toNat p0) (Ty.dflt ty22)) (Int.toNat (0)) (Ty.dflt (Ty.int IntKind.i64))) (!p1) p2 p3 p4) fun y0 =>
                cond (Prod.fst y0)
                 (
                  cond (Ops.inb B (1) (List.length (List.getD p3 (Int.toNat p0) (Ty.dflt ty22))))
                   (
                    ob (c74 (List.getD (List.getD p3 (Int.toNat p0) (Ty.dflt ty22)) (Int.toNat (1)) (Ty.dflt (Ty.int IntKind.i64))) p1 (Prod.fst (Prod.snd y0)) (Prod.fst (Prod.snd (Prod.snd y0))) (Prod.snd (Prod.snd (Prod.snd y0)))) fun y1 =>
                    cond (Prod.fst y1)
                     (
                      ob (c87 (6) p1) fun y2 =>
                      ob (c86 y2 (Prod.fst (Prod.snd y1)) (Prod.fst (Prod.snd (Prod.snd y1))) (Prod.snd (Prod.snd (Prod.snd y1)))) fun y3 =>
                      k ((Prod.fst y3, Prod.fst (Prod.snd y3), Prod.fst (Prod.snd (Prod.snd y3)), Prod.snd (Prod.snd (Prod.snd y3)))))
                     (
                      k ((false, Prod.fst (Prod.snd y1), Prod.fst (Prod.snd (Prod.snd y1)), Prod.snd (Prod.snd (Prod.snd y1))))))
                   (
                    none))
                 (
                  k ((false, Prod.fst (Prod.snd y0), Prod.fst (Prod.snd (Prod.snd y0)), Prod.snd (Prod.snd (Prod.snd y0))))))
               (
                none))
             (
              cond (Ops.eq B (Prod.fst (List.getD p2 (Int.toNat p0) (Ty.dflt ty66))) (11))
               (
                ob (c87 (1) p1) fun y0 =>
                ob (c86 y0 p2 p3 p4) fun y1 =>
                cond (Prod.fst y1)
                 (
                  cond (Ops.inb B (0) (List.length (List.getD p3 (Int.toNat p0) (Ty.dflt ty22))))
                   (
                    ob (c74 (List.getD (List.getD p3 (Int.toNat p0) (Ty.dflt ty22)) (Int.toNat (0)) (Ty.dflt (Ty.int IntKind.i64))) p1 (Prod.fst (Prod.snd y1)) (Prod.fst (Prod.snd (Prod.snd y1))) (Prod.snd (Prod.snd (Prod.snd y1)))) fun y2 =>
                    cond (Prod.fst y2)
                     (
                      ob (c87 (9) p1) fun y3 =>
                      ob (c86 y3 (Prod.fst (Prod.snd y2)) (Prod.fst (Prod.snd (Prod.snd y2))) (Prod.snd (Prod.snd (Prod.snd y2)))) fun y4 =>
                      k ((Prod.fst y4, Prod.fst (Prod.snd y4), Prod.fst (Prod.snd (Prod.snd y4)), Prod.snd (Prod.snd (Prod.snd y4)))))
                     (
                      k ((false, Prod.fst (Prod.snd y2), Prod.fst (Prod.snd (Prod.snd y2)), Prod.snd (Prod.snd (Prod.snd y2))))))
                   (
                    none))
                 (
                  k ((false, Prod.fst (Prod.snd y1), Prod.fst (Prod.snd (Prod.snd y1)), Prod.snd (Prod.snd (Prod.snd y1))))))
               (
                cond (Ops.eq B (Prod.fst (List.getD p2 (Int.toNat p0) (Ty.dflt ty66))) (12))
                 (
                  ob (c87 (2) p1) fun y0 =>
                  ob (c86 y0 p2 p3 p4) fun y1 =>
                  cond (Prod.fst y1)
                   (
                    cond (Ops.inb B (0) (List.length (List.getD p3 (Int.toNat p0) (Ty.dflt ty22))))
                     (
                      ob (c74 (List.getD (List.getD p3 (Int.toNat p0) (Ty.dflt ty22)) (Int.toNat (0)) (Ty.dflt (Ty.int IntKind.i64))) p1 (Prod.fst (Prod.snd y1)) (Prod.fst (Prod.snd (Prod.snd y1))) (Prod.snd (Prod.snd (Prod.snd y1)))) fun y2 =>
                      cond (Prod.fst y2)
                       (
                        ob (c87 (10) p1) fun y3 =>
                        ob (c86 y3 (Prod.fst (Prod.snd y2)) (Prod.fst (Prod.snd (Prod.snd y2))) (Prod.snd (Prod.snd (Prod.snd y2)))) fun y4 =>
                        k ((Prod.fst y4, Prod.fst (Prod.snd y4), Prod.fst (Prod.snd (Prod.snd y4)), Prod.snd (Prod.snd (Prod.snd y4)))))
                       (
                        k ((false, Prod.fst (Prod.snd y2), Prod.fst (Prod.snd (Prod.snd y2)), Prod.snd (Prod.snd (Prod.snd y2))))))
                     (
                      none))
                   (
                    k ((false, Prod.fst (Prod.snd y1), Prod.fst (Prod.snd (Prod.snd y1)), Prod.snd (Prod.snd (Prod.snd y1))))))
                 (
                  again (.l0 (Prod.fst (List.getD p2 (Int.toNat p0) (Ty.dflt ty66))) (List.getD p3 (Int.toNat p0) (Ty.dflt ty22)) (Nat.cast (List.length (List.getD p3 (Int.toNat p0) (Ty.dflt ty22)))) 0 p2 p3 p4)))))))
       (
        none))
     (
      none)
  | some (.l0 v0_1 v0_2 v0_3 v0_4 v0_5 v0_6 v0_7) =>
    cond (Ops.lt B v0_4 v0_3)
     (
      cond (Ops.inb B v0_4 (List.length v0_2))
       (
        ob (c74 (List.getD v0_2 (Int.toNat v0_4) (Ty.dflt ty3)) p1 v0_5 v0_6 v0_7) fun y0 =>
        cond (!Prod.fst y0)
         (
          k ((false, Prod.fst (Prod.snd y0), Prod.fst (Prod.snd (Prod.snd y0)), Prod.snd (Prod.snd (Prod.snd y0)))))
         (
          again (.l0 v0_1 v0_2 v0_3 (IntKind.wrap IntKind.i64 (v0_4 + 1)) (Prod.fst (Prod.snd y0)) (Prod.fst (Prod.snd (Prod.snd y0))) (Prod.snd (Prod.snd (Prod.snd y0))))))
       (
        none))
     (
      ob (c87 v0_1 p1) fun y0 =>
      ob (c86 y0 v0_5 v0_6 v0_7) fun y1 =>
      k ((Prod.fst y1, Prod.fst (Prod.snd y1), Prod.fst (Prod.snd (Prod.snd y1)), Prod.snd (Prod.snd (Prod.snd y1)))))
def E74 (p0 : Int) (p1 : Bool) (p2 : List ty66.den) (p3 : List ty22.den) (p4 : List ty66.den) : S74 → List AV × Objs
  | .l0 v0_1 v0_2 v0_3 v0_4 v0_5 v0_6 v0_7 => (mk 122 [(0, .c (.ptr 0 0)), (2, .c (.bool p1)), (8, .c (.int .i64 v0_1)), (27, .c (.list 3 ty3 v0_2)), (28, .c (.int .i64 v0_3)), (29, .c (.int .i64 v0_4))], [(0, .box 104 [.list 66 ty66 v0_5, .own 1001, .own 1002]), (1001, .row 22 ty22 v0_6), (1002, .row 66 ty66 v0_7)])
def I74 : S74 → Nat
  | .l0 _ _ _ _ _ _ _ => 0
theorem eq74 {R : Type} (B : Ops) (c85 : Int → Bool → List ty66.den → List ty22.den → List ty66.den → Option (Bool × (List ty66.den) × (List ty22.den) × (List ty66.den))) (c74 : Int → Bool → List ty66.den → List ty22.den → List ty66.den → Option (Bool × (List ty66.den) × (List ty22.den) × (List ty66.den))) (c87 : Int → Bool → Option (Int)) (c86 : Int → List ty66.den → List ty22.den → List ty66.den → Option (Bool × (List ty66.den) × (List ty22.den) × (List ty66.den))) (p0 : Int) (p1 : Bool) (p2 : List ty66.den) (p3 : List ty22.den) (p4 : List ty66.den) (k : AV → Objs → Option R) (n : Nat) : afun tau B gl0 X74 (ent 85 (e85 c85) (ent 74 (e74 c74) (ent 87 (e87 c87) (ent 86 (e86 c86) (gnil))))) ow Try.f74 [.c (.ptr 0 0), .c (.int .i64 p0), .c (.bool p1)] [(0, .box 104 [.list 66 ty66 p2, .own 1001, .own 1002]), (1001, .row 22 ty22 p3), (1002, .row 66 ty66 p4)] k n = T74 B c85 c74 c87 c86 p0 p1 p2 p3 p4 (fun s => aloop tau B gl0 X74 (ent 85 (e85 c85) (ent 74 (e74 c74) (ent 87 (e87 c87) (ent 86 (e86 c86) (gnil))))) ow [0] Try.f74 k (I74 s) (E74 p0 p1 p2 p3 p4 s) n) (fun y => k (.c (.bool y.1)) [(0, .box 104 [.list 66 ty66 y.2.1, .own 1001, .own 1002]), (1001, .row 22 ty22 y.2.2.1), (1002, .row 66 ty66 y.2.2.2)]) none := by kernel_rfl
theorem el74 {R : Type} (B : Ops) (c85 : Int → Bool → List ty66.den → List ty22.den → List ty66.den → Option (Bool × (List ty66.den) × (List ty22.den) × (List ty66.den))) (c74 : Int → Bool → List ty66.den → List ty22.den → List ty66.den → Option (Bool × (List ty66.den) × (List ty22.den) × (List ty66.den))) (c87 : Int → Bool → Option (Int)) (c86 : Int → List ty66.den → List ty22.den → List ty66.den → Option (Bool × (List ty66.den) × (List ty22.den) × (List ty66.den))) (p0 : Int) (p1 : Bool) (p2 : List ty66.den) (p3 : List ty22.den) (p4 : List ty66.den) (k : AV → Objs → Option R) (n : Nat) : ∀ s, aloop tau B gl0 X74 (ent 85 (e85 c85) (ent 74 (e74 c74) (ent 87 (e87 c87) (ent 86 (e86 c86) (gnil))))) ow [0] Try.f74 k (I74 s) (E74 p0 p1 p2 p3 p4 s) (n + 1) = T74 B c85 c74 c87 c86 p0 p1 p2 p3 p4 (fun s => aloop tau B gl0 X74 (ent 85 (e85 c85) (ent 74 (e74 c74) (ent 87 (e87 c87) (ent 86 (e86 c86) (gnil))))) ow [0] Try.f74 k (I74 s) (E74 p0 p1 p2 p3 p4 s) n) (fun y => k (.c (.bool y.1)) [(0, .box 104 [.list 66 ty66 y.2.1, .own 1001, .own 1002]), (1001, .row 22 ty22 y.2.2.1), (1002, .row 66 ty66 y.2.2.2)]) (some s)
  | .l0 v0_1 v0_2 v0_3 v0_4 v0_5 v0_6 v0_7 => by kernel_rfl
theorem nt74 {R R' : Type} (B : Ops) (c85 : Int → Bool → List ty66.den → List ty22.den → List ty66.den → Option (Bool × (List ty66.den) × (List ty22.den) × (List ty66.den))) (c74 : Int → Bool → List ty66.den → List ty22.den → List ty66.den → Option (Bool × (List ty66.den) × (List ty22.den) × (List ty66.den))) (c87 : Int → Bool → Option (Int)) (c86 : Int → List ty66.den → List ty22.den → List ty66.den → Option (Bool × (List ty66.den) × (List ty22.den) × (List ty66.den))) (p0 : Int) (p1 : Bool) (p2 : List ty66.den) (p3 : List ty22.den) (p4 : List ty66.den) (again : S74 → Option R) (again' : S74 → Option R') (k0 : (Bool × (List ty66.den) × (List ty22.den) × (List ty66.den)) → Option R') (k : R' → Option R) (h : ∀ s, again s = ob (again' s) k) : ∀ s, T74 B c85 c74 c87 c86 p0 p1 p2 p3 p4 again (fun y => ob (k0 y) k) s = ob (T74 B c85 c74 c87 c86 p0 p1 p2 p3 p4 again' k0 s) k
  | none => by unfold T74; repeat' first | exact rfl | exact h _ | apply nat_cond | (apply nat_ob; intro)
  | some (.l0 v0_1 v0_2 v0_3 v0_4 v0_5 v0_6 v0_7) => by unfold T74; repeat' first | exact rfl | exact h _ | apply nat_cond | (apply nat_ob; intro)
def R74 (c85 : Int → Bool → List ty66.den → List ty22.den → List ty66.den → Option (Bool × (List ty66.den) × (List ty22.den) × (List ty66.den))) (c74 : Int → Bool → List ty66.den → List ty22.den → List ty66.den → Option (Bool × (List ty66.den) × (List ty22.den) × (List ty66.den))) (c87 : Int → Bool → Option (Int)) (c86 : Int → List ty66.den → List ty22.den → List ty66.den → Option (Bool × (List ty66.den) × (List ty22.den) × (List ty66.den))) (p0 : Int) (p1 : Bool) (p2 : List ty66.den) (p3 : List ty22.den) (p4 : List ty66.den) : Nat → S74 → Option (Bool × (List ty66.den) × (List ty22.den) × (List ty66.den))
  | 0, _ => none
  | n + 1, s => T74 Ops.std c85 c74 c87 c86 p0 p1 p2 p3 p4 (R74 c85 c74 c87 c86 p0 p1 p2 p3 p4 n) some (some s)
theorem rr74 {R : Type} (c85 : Int → Bool → List ty66.den → List ty22.den → List ty66.den → Option (Bool × (List ty66.den) × (List ty22.den) × (List ty66.den))) (c74 : Int → Bool → List ty66.den → List ty22.den → List ty66.den → Option (Bool × (List ty66.den) × (List ty22.den) × (List ty66.den))) (c87 : Int → Bool → Option (Int)) (c86 : Int → List ty66.den → List ty22.den → List ty66.den → Option (Bool × (List ty66.den) × (List ty22.den) × (List ty66.den))) (p0 : Int) (p1 : Bool) (p2 : List ty66.den) (p3 : List ty22.den) (p4 : List ty66.den) (k : AV → Objs → Option R) : ∀ (n : Nat) (s : S74), aloop tau Ops.std gl0 X74 (ent 85 (e85 c85) (ent 74 (e74 c74) (ent 87 (e87 c87) (ent 86 (e86 c86) (gnil))))) ow [0] Try.f74 k (I74 s) (E74 p0 p1 p2 p3 p4 s) n = ob (R74 c85 c74 c87 c86 p0 p1 p2 p3 p4 n s) (fun y => k (.c (.bool y.1)) [(0, .box 104 [.list 66 ty66 y.2.1, .own 1001, .own 1002]), (1001, .row 22 ty22 y.2.2.1), (1002, .row 66 ty66 y.2.2.2)])
  | 0, s => by cases s <;> rfl
  | n + 1, s => by rw [el74]; exact nt74 Ops.std c85 c74 c87 c86 p0 p1 p2 p3 p4 _ _ some (fun y => k (.c (.bool y.1)) [(0, .box 104 [.list 66 ty66 y.2.1, .own 1001, .own 1002]), (1001, .row 22 ty22 y.2.2.1), (1002, .row 66 ty66 y.2.2.2)]) (rr74 c85 c74 c87 c86 p0 p1 p2 p3 p4 k n) (some s)
def F74 (c85 : Int → Bool → List ty66.den → List ty22.den → List ty66.den → Option (Bool × (List ty66.den) × (List ty22.den) × (List ty66.den))) (c74 : Int → Bool → List ty66.den → List ty22.den → List ty66.den → Option (Bool × (List ty66.den) × (List ty22.den) × (List ty66.den))) (c87 : Int → Bool → Option (Int)) (c86 : Int → List ty66.den → List ty22.den → List ty66.den → Option (Bool × (List ty66.den) × (List ty22.den) × (List ty66.den))) (p0 : Int) (p1 : Bool) (p2 : List ty66.den) (p3 : List ty22.den) (p4 : List ty66.den) : Option (Bool × (List ty66.den) × (List ty22.den) × (List ty66.den)) := T74 Ops.std c85 c74 c87 c86 p0 p1 p2 p3 p4 (R74 c85 c74 c87 c86 p0 p1 p2 p3 p4 1000000) some none
theorem fo74 {R : Type} (c85 : Int → Bool → List ty66.den → List ty22.den → List ty66.den → Option (Bool × (List ty66.den) × (List ty22.den) × (List ty66.den))) (c74 : Int → Bool → List ty66.den → List ty22.den → List ty66.den → Option (Bool × (List ty66.den) × (List ty22.den) × (List ty66.den))) (c87 : Int → Bool → Option (Int)) (c86 : Int → List ty66.den → List ty22.den → List ty66.den → Option (Bool × (List ty66.den) × (List ty22.den) × (List ty66.den))) (p0 : Int) (p1 : Bool) (p2 : List ty66.den) (p3 : List ty22.den) (p4 : List ty66.den) (k : AV → Objs → Option R) : afun tau Ops.std gl0 X74 (ent 85 (e85 c85) (ent 74 (e74 c74) (ent 87 (e87 c87) (ent 86 (e86 c86) (gnil))))) ow Try.f74 [.c (.ptr 0 0), .c (.int .i64 p0), .c (.bool p1)] [(0, .box 104 [.list 66 ty66 p2, .own 1001, .own 1002]), (1001, .row 22 ty22 p3), (1002, .row 66 ty66 p4)] k 1000000 = ob (F74 c85 c74 c87 c86 p0 p1 p2 p3 p4) (fun y => k (.c (.bool y.1)) [(0, .box 104 [.list 66 ty66 y.2.1, .own 1001, .own 1002]), (1001, .row 22 ty22 y.2.2.1), (1002, .row 66 ty66 y.2.2.2)]) := by rw [eq74]; exact nt74 Ops.std c85 c74 c87 c86 p0 p1 p2 p3 p4 _ _ some (fun y => k (.c (.bool y.1)) [(0, .box 104 [.list 66 ty66 y.2.1, .own 1001, .own 1002]), (1001, .row 22 ty22 y.2.2.1), (1002, .row 66 ty66 y.2.2.2)]) (rr74 c85 c74 c87 c86 p0 p1 p2 p3 p4 k 1000000) none
theorem sf74 {c85 : Int → Bool → List ty66.den → List ty22.den → List ty66.den → Option (Bool × (List ty66.den) × (List ty22.den) × (List ty66.den))} {c74 : Int → Bool → List ty66.den → List ty22.den → List ty66.den → Option (Bool × (List ty66.den) × (List ty22.den) × (List ty66.den))} {c87 : Int → Bool → Option (Int)} {c86 : Int → List ty66.den → List ty22.den → List ty66.den → Option (Bool × (List ty66.den) × (List ty22.den) × (List ty66.den))} (h85 : Sp85 c85) (h74 : Sp74 c74) (h87 : Sp87 c87) (h86 : Sp86 c86) : Sp74 (F74 c85 c74 c87 c86) := fun p0 p1 p2 p3 p4 y hy => by
  refine spec_of (G := ent 85 (e85 c85) (ent 74 (e74 c74) (ent 87 (e87 c87) (ent 86 (e86 c86) (gnil))))) (ent_ok (ek85 h85) (ent_ok (ek74 h74) (ent_ok (ek87 h87) (ent_ok (ek86 h86) (gnil_ok))))) 1000000 (fn := Try.f74) (by kernel_rfl) (by kernel_rfl) (X := X74) (by kernel_rfl) ?_
  rw [fo74, hy]
  rfl
noncomputable def Rec74 : Nat → (Int → Bool → List ty66.den → List ty22.den → List ty66.den → Option (Bool × (List ty66.den) × (List ty22.den) × (List ty66.den)))
  | 0 => fun _ _ _ _ _ => none
  | d + 1 => F74 M85 (Rec74 d) M87 M86
theorem rec74 : ∀ d, Sp74 (Rec74 d)
  | 0 => fun p0 p1 p2 p3 p4 y (h : (none : Option (Bool × (List ty66.den) × (List ty22.den) × (List ty66.den))) = some y) => by cases h
  | d + 1 => sf74 sm85 (rec74 d) sm87 sm86
noncomputable def M74 : Int → Bool → List ty66.den → List ty22.den → List ty66.den → Option (Bool × (List ty66.den) × (List ty22.den) × (List ty66.den)) := (Rec74 1000000)
theorem sm74 : Sp74 M74 := (rec74 1000000)

/-! ### 54: lariat/nnf.normal -/
def X54 : Aux := ⟨[], []⟩
def T54 {R : Type} (B : Ops) (c43 : List ty66.den → Option ((List ty22.den))) (c74 : Int → Bool → List ty66.den → List ty22.den → List ty66.den → Option (Bool × (List ty66.den) × (List ty22.den) × (List ty66.den))) (p0 : List ty66.den) (p1 : Bool) (k : ((List ty66.den)) → Option R) : Option R :=
  ob (c43 p0) fun y0 =>
  cond (Ops.eq B (Nat.cast (List.length y0)) (0))
   (
    k (mt (Ty.den (Ty.pair (Ty.int IntKind.i64) (Ty.list (98) (Ty.pair (Ty.int IntKind.i64) (Ty.pair (Ty.int IntKind.i64) (Ty.pair Ty.str Ty.str))))))))
   (
    ob (c74 (IntKind.wrap IntKind.i64 (Nat.cast (List.length p0) - 1)) p1 p0 y0 (mt (Ty.den (Ty.pair (Ty.int IntKind.i64) (Ty.list (98) (Ty.pair (Ty.int IntKind.i64) (Ty.pair (Ty.int IntKind.i64) (Ty.pair Ty.str Ty.str)))))))) fun y1 =>
    cond (!Prod.fst y1)
     (
      k (mt (Ty.den (Ty.pair (Ty.int IntKind.i64) (Ty.list (98) (Ty.pair (Ty.int IntKind.i64) (Ty.pair (Ty.int IntKind.i64) (Ty.pair Ty.str Ty.str))))))))
     (
      k (Prod.snd (Prod.snd (Prod.snd y1)))))
theorem eq54 {R : Type} (B : Ops) (c43 : List ty66.den → Option ((List ty22.den))) (c74 : Int → Bool → List ty66.den → List ty22.den → List ty66.den → Option (Bool × (List ty66.den) × (List ty22.den) × (List ty66.den))) (p0 : List ty66.den) (p1 : Bool) (k : AV → Objs → Option R) (n : Nat) : afun tau B gl0 X54 (ent 43 (e43 c43) (ent 74 (e74 c74) (gnil))) ow Try.f54 [.c (.list 66 ty66 p0), .c (.bool p1)] [] k n = T54 B c43 c74 p0 p1 (fun y => k (.c (.own 500)) [(500, .row 66 ty66 y)]) := by kernel_rfl
theorem nt54 {R R' : Type} (B : Ops) (c43 : List ty66.den → Option ((List ty22.den))) (c74 : Int → Bool → List ty66.den → List ty22.den → List ty66.den → Option (Bool × (List ty66.den) × (List ty22.den) × (List ty66.den))) (p0 : List ty66.den) (p1 : Bool) (k0 : ((List ty66.den)) → Option R') (k : R' → Option R) : T54 B c43 c74 p0 p1 (fun y => ob (k0 y) k) = ob (T54 B c43 c74 p0 p1 k0) k := by
  unfold T54
  repeat' first | exact rfl | apply nat_cond | (apply nat_ob; intro)
def F54 (c43 : List ty66.den → Option ((List ty22.den))) (c74 : Int → Bool → List ty66.den → List ty22.den → List ty66.den → Option (Bool × (List ty66.den) × (List ty22.den) × (List ty66.den))) (p0 : List ty66.den) (p1 : Bool) : Option ((List ty66.den)) := T54 Ops.std c43 c74 p0 p1 some
theorem fo54 {R : Type} (c43 : List ty66.den → Option ((List ty22.den))) (c74 : Int → Bool → List ty66.den → List ty22.den → List ty66.den → Option (Bool × (List ty66.den) × (List ty22.den) × (List ty66.den))) (p0 : List ty66.den) (p1 : Bool) (k : AV → Objs → Option R) (n : Nat) : afun tau Ops.std gl0 X54 (ent 43 (e43 c43) (ent 74 (e74 c74) (gnil))) ow Try.f54 [.c (.list 66 ty66 p0), .c (.bool p1)] [] k n = ob (F54 c43 c74 p0 p1) (fun y => k (.c (.own 500)) [(500, .row 66 ty66 y)]) := by rw [eq54]; exact nt54 Ops.std c43 c74 p0 p1 some (fun y => k (.c (.own 500)) [(500, .row 66 ty66 y)])
def e54 {R : Type} (c : List ty66.den → Bool → Option ((List ty66.den))) : Ent R := fun args objs k =>
  oCons args fun a0 l0 => oC a0 fun x0 => cList 66 ty66 x0 fun p0 => oCons l0 fun a1 l1 => oC a1 fun x1 => cBool x1 fun p1 => oNil l1 <| oNilO objs <| ob (c p0 p1) fun y => k (.c (.own 500)) [(500, .row 66 ty66 y)]
abbrev Sp54 (c : List ty66.den → Bool → Option ((List ty66.den))) : Prop := ∀ (p0 : List ty66.den) (p1 : Bool) (y : (List ty66.den)), c p0 p1 = some y → Spec Try.prog gl0 54 [.c (.list 66 ty66 p0), .c (.bool p1)] [] (.c (.own 500)) [(500, .row 66 ty66 y)]
theorem ek54 {R : Type} {c : List ty66.den → Bool → Option ((List ty66.den))} (hs : Sp54 c) : EOk 54 (e54 (R := R) c) := fun args objs k r h => by
  unfold e54 at h
  obtain ⟨a0, l0, rfl, q1⟩ := oCons_some h
  obtain ⟨x0, rfl, q2⟩ := oC_some q1
  obtain ⟨p0, rfl, q3⟩ := cList_some q2
  obtain ⟨a1, l1, rfl, q4⟩ := oCons_some q3
  obtain ⟨x1, rfl, q5⟩ := oC_some q4
  obtain ⟨p1, rfl, q6⟩ := cBool_some q5
  obtain ⟨rfl, q7⟩ := oNil_some q6
  obtain ⟨rfl, q8⟩ := oNilO_some q7
  exact eok_of (hs p0 p1) q8
theorem sf54 {c43 : List ty66.den → Option ((List ty22.den))} {c74 : Int → Bool → List ty66.den → List ty22.den → List ty66.den → Option (Bool × (List ty66.den) × (List ty22.den) × (List ty66.den))} (h43 : Sp43 c43) (h74 : Sp74 c74) : Sp54 (F54 c43 c74) := fun p0 p1 y hy => by
  refine spec_of (G := ent 43 (e43 c43) (ent 74 (e74 c74) (gnil))) (ent_ok (ek43 h43) (ent_ok (ek74 h74) (gnil_ok))) 1000000 (fn := Try.f54) (by kernel_rfl) (by kernel_rfl) (X := X54) (by kernel_rfl) ?_
  rw [fo54, hy]
  rfl
noncomputable def M54 : List ty66.den → Bool → Option ((List ty66.den)) := F54 M43 M74
theorem sm54 : Sp54 M54 := sf54 sm43 sm74

/-! ### 33: lariat/nnf.Nnf -/
def X33 : Aux := ⟨[], []⟩
def T33 {R : Type} (B : Ops) (c54 : List ty66.den → Bool → Option ((List ty66.den))) (p0 : List ty66.den) (k : ((List ty66.den)) → Option R) : Option R :=
  ob (c54 p0 false) fun y0 =>
  k y0
theorem eq33 {R : Type} (B : Ops) (c54 : List ty66.den → Bool → Option ((List ty66.den))) (p0 : List ty66.den) (k : AV → Objs → Option R) (n : Nat) : afun tau B gl0 X33 (ent 54 (e54 c54) (gnil)) ow Try.f33 [.c (.list 66 ty66 p0)] [] k n = T33 B c54 p0 (fun y => k (.c (.own 500)) [(500, .row 66 ty66 y)]) := by kernel_rfl
theorem nt33 {R R' : Type} (B : Ops) (c54 : List ty66.den → Bool → Option ((List ty66.den))) (p0 : List ty66.den) (k0 : ((List ty66.den)) → Option R') (k : R' → Option R) : T33 B c54 p0 (fun y => ob (k0 y) k) = ob (T33 B c54 p0 k0) k := by
  unfold T33
  repeat' first | exact rfl | apply nat_cond | (apply nat_ob; intro)
def F33 (c54 : List ty66.den → Bool → Option ((List ty66.den))) (p0 : List ty66.den) : Option ((List ty66.den)) := T33 Ops.std c54 p0 some
theorem fo33 {R : Type} (c54 : List ty66.den → Bool → Option ((List ty66.den))) (p0 : List ty66.den) (k : AV → Objs → Option R) (n : Nat) : afun tau Ops.std gl0 X33 (ent 54 (e54 c54) (gnil)) ow Try.f33 [.c (.list 66 ty66 p0)] [] k n = ob (F33 c54 p0) (fun y => k (.c (.own 500)) [(500, .row 66 ty66 y)]) := by rw [eq33]; exact nt33 Ops.std c54 p0 some (fun y => k (.c (.own 500)) [(500, .row 66 ty66 y)])
def e33 {R : Type} (c : List ty66.den → Option ((List ty66.den))) : Ent R := fun args objs k =>
  oCons args fun a0 l0 => oC a0 fun x0 => cList 66 ty66 x0 fun p0 => oNil l0 <| oNilO objs <| ob (c p0) fun y => k (.c (.own 500)) [(500, .row 66 ty66 y)]
abbrev Sp33 (c : List ty66.den → Option ((List ty66.den))) : Prop := ∀ (p0 : List ty66.den) (y : (List ty66.den)), c p0 = some y → Spec Try.prog gl0 33 [.c (.list 66 ty66 p0)] [] (.c (.own 500)) [(500, .row 66 ty66 y)]
theorem ek33 {R : Type} {c : List ty66.den → Option ((List ty66.den))} (hs : Sp33 c) : EOk 33 (e33 (R := R) c) := fun args objs k r h => by
  unfold e33 at h
  obtain ⟨a0, l0, rfl, q1⟩ := oCons_some h
  obtain ⟨x0, rfl, q2⟩ := oC_some q1
  obtain ⟨p0, rfl, q3⟩ := cList_some q2
  obtain ⟨rfl, q4⟩ := oNil_some q3
  obtain ⟨rfl, q5⟩ := oNilO_some q4
  exact eok_of (hs p0) q5
theorem sf33 {c54 : List ty66.den → Bool → Option ((List ty66.den))} (h54 : Sp54 c54) : Sp33 (F33 c54) := fun p0 y hy => by
  refine spec_of (G := ent 54 (e54 c54) (gnil)) (ent_ok (ek54 h54) (gnil_ok)) 1000000 (fn := Try.f33) (by kernel_rfl) (by kernel_rfl) (X := X33) (by kernel_rfl) ?_
  rw [fo33, hy]
  rfl
noncomputable def M33 : List ty66.den → Option ((List ty66.den)) := F33 M54
theorem sm33 : Sp33 M33 := sf33 sm54

/-! ### 30: lariat/nnf.Negate -/
def X30 : Aux := ⟨[], []⟩
def T30 {R : Type} (B : Ops) (c54 : List ty66.den → Bool → Option ((List ty66.den))) (p0 : List ty66.den) (k : ((List ty66.den)) → Option R) : Option R :=
  ob (c54 p0 true) fun y0 =>
  k y0
theorem eq30 {R : Type} (B : Ops) (c54 : List ty66.den → Bool → Option ((List ty66.den))) (p0 : List ty66.den) (k : AV → Objs → Option R) (n : Nat) : afun tau B gl0 X30 (ent 54 (e54 c54) (gnil)) ow Try.f30 [.c (.list 66 ty66 p0)] [] k n = T30 B c54 p0 (fun y => k (.c (.own 500)) [(500, .row 66 ty66 y)]) := by kernel_rfl
theorem nt30 {R R' : Type} (B : Ops) (c54 : List ty66.den → Bool → Option ((List ty66.den))) (p0 : List ty66.den) (k0 : ((List ty66.den)) → Option R') (k : R' → Option R) : T30 B c54 p0 (fun y => ob (k0 y) k) = ob (T30 B c54 p0 k0) k := by
  unfold T30
  repeat' first | exact rfl | apply nat_cond | (apply nat_ob; intro)
def F30 (c54 : List ty66.den → Bool → Option ((List ty66.den))) (p0 : List ty66.den) : Option ((List ty66.den)) := T30 Ops.std c54 p0 some
theorem fo30 {R : Type} (c54 : List ty66.den → Bool → Option ((List ty66.den))) (p0 : List ty66.den) (k : AV → Objs → Option R) (n : Nat) : afun tau Ops.std gl0 X30 (ent 54 (e54 c54) (gnil)) ow Try.f30 [.c (.list 66 ty66 p0)] [] k n = ob (F30 c54 p0) (fun y => k (.c (.own 500)) [(500, .row 66 ty66 y)]) := by rw [eq30]; exact nt30 Ops.std c54 p0 some (fun y => k (.c (.own 500)) [(500, .row 66 ty66 y)])
def e30 {R : Type} (c : List ty66.den → Option ((List ty66.den))) : Ent R := fun args objs k =>
  oCons args fun a0 l0 => oC a0 fun x0 => cList 66 ty66 x0 fun p0 => oNil l0 <| oNilO objs <| ob (c p0) fun y => k (.c (.own 500)) [(500, .row 66 ty66 y)]
abbrev Sp30 (c : List ty66.den → Option ((List ty66.den))) : Prop := ∀ (p0 : List ty66.den) (y : (List ty66.den)), c p0 = some y → Spec Try.prog gl0 30 [.c (.list 66 ty66 p0)] [] (.c (.own 500)) [(500, .row 66 ty66 y)]
theorem ek30 {R : Type} {c : List ty66.den → Option ((List ty66.den))} (hs : Sp30 c) : EOk 30 (e30 (R := R) c) := fun args objs k r h => by
  unfold e30 at h
  obtain ⟨a0, l0, rfl, q1⟩ := oCons_some h
  obtain ⟨x0, rfl, q2⟩ := oC_some q1
  obtain ⟨p0, rfl, q3⟩ := cList_some q2
  obtain ⟨rfl, q4⟩ := oNil_some q3
  obtain ⟨rfl, q5⟩ := oNilO_some q4
  exact eok_of (hs p0) q5
theorem sf30 {c54 : List ty66.den → Bool → Option ((List ty66.den))} (h54 : Sp54 c54) : Sp30 (F30 c54) := fun p0 y hy => by
  refine spec_of (G := ent 54 (e54 c54) (gnil)) (ent_ok (ek54 h54) (gnil_ok)) 1000000 (fn := Try.f30) (by kernel_rfl) (by kernel_rfl) (X := X30) (by kernel_rfl) ?_
  rw [fo30, hy]
  rfl
noncomputable def M30 : List ty66.den → Option ((List ty66.den)) := F30 M54
theorem sm30 : Sp30 M30 := sf30 sm54

/-! ### 68: (*lariat/lariathand.feed).next -/
def X68 : Aux := ⟨[], [(4, .lin [0, 1, 2, 3, 4, 5, 6, 7, 8, 9, 10, 11, 12, 13, 14, 15, 16, 17, 18, 19, 20, 21, 22, 23, 24, 25, 26, 27, 28, 29, 30])]⟩
def T68 {R : Type} (B : Ops) (c12 : Int → Int → Option (Int)) (p0 : Int) (p1 : List ty3.den) (p2 : Int) (k : (Int × (List ty3.den) × Int) → Option R) : Option R :=
  cond (Ops.eq B (Nat.cast (List.length p1)) (0))
   (
    k ((0, p1, p2)))
   (
    cond (Ops.eq B (Nat.cast (List.length p1)) (0))
     (
      none)
     (
      cond (Ops.inb B (Int.tmod (IntKind.wrap IntKind.i64 (p2 + 1)) (Nat.cast (List.length p1))) (List.length p1))
       (
        cond (Ops.eq B (Nat.cast (List.length p1)) (0))
         (
          none)
         (
          cond (Ops.eq B (IntKind.wrap IntKind.i64 (1 + IntKind.wrap IntKind.i64 (Int.tdiv (IntKind.wrap IntKind.i64 (p2 + 1)) (Nat.cast (List.length p1))))) (0))
           (
            none)
           (
            ob (c12 (IntKind.wrap IntKind.i64 (Int.tdiv (List.getD p1 (Int.toNat (Int.tmod (IntKind.wrap IntKind.i64 (p2 + 1)) (Nat.cast (List.length p1)))) (Ty.dflt ty3)) (IntKind.wrap IntKind.i64 (1 + IntKind.wrap IntKind.i64 (Int.tdiv (IntKind.wrap IntKind.i64 (p2 + 1)) (Nat.cast (List.length p1))))))) p0) fun y0 =>
            k ((y0, p1, IntKind.wrap IntKind.i64 (p2 + 1))))))
       (
        none)))
theorem eq68 {R : Type} (B : Ops) (c12 : Int → Int → Option (Int)) (p0 : Int) (p1 : List ty3.den) (p2 : Int) (k : AV → Objs → Option R) (n : Nat) : afun tau B gl0 X68 (ent 12 (e12 c12) (gnil)) ow Try.f68 [.c (.ptr 0 0), .c (.int .i64 p0)] [(0, .box 70 [.list 3 ty3 p1, .int .i64 p2])] k n = T68 B c12 p0 p1 p2 (fun y => k (.c (.int .i64 y.1)) [(0, .box 70 [.list 3 ty3 y.2.1, .int .i64 y.2.2])]) := by kernel_rfl
theorem nt68 {R R' : Type} (B : Ops) (c12 : Int → Int → Option (Int)) (p0 : Int) (p1 : List ty3.den) (p2 : Int) (k0 : (Int × (List ty3.den) × Int) → Option R') (k : R' → Option R) : T68 B c12 p0 p1 p2 (fun y => ob (k0 y) k) = ob (T68 B c12 p0 p1 p2 k0) k := by
  unfold T68
  repeat' first | exact rfl | apply nat_cond | (apply nat_ob; intro)
def F68 (c12 : Int → Int → Option (Int)) (p0 : Int) (p1 : List ty3.den) (p2 : Int) : Option (Int × (List ty3.den) × Int) := T68 Ops.std c12 p0 p1 p2 some
theorem fo68 {R : Type} (c12 : Int → Int → Option (Int)) (p0 : Int) (p1 : List ty3.den) (p2 : Int) (k : AV → Objs → Option R) (n : Nat) : afun tau Ops.std gl0 X68 (ent 12 (e12 c12) (gnil)) ow Try.f68 [.c (.ptr 0 0), .c (.int .i64 p0)] [(0, .box 70 [.list 3 ty3 p1, .int .i64 p2])] k n = ob (F68 c12 p0 p1 p2) (fun y => k (.c (.int .i64 y.1)) [(0, .box 70 [.list 3 ty3 y.2.1, .int .i64 y.2.2])]) := by rw [eq68]; exact nt68 Ops.std c12 p0 p1 p2 some (fun y => k (.c (.int .i64 y.1)) [(0, .box 70 [.list 3 ty3 y.2.1, .int .i64 y.2.2])])
def e68 {R : Type} (c : Int → List ty3.den → Int → Option (Int × (List ty3.den) × Int)) : Ent R := fun args objs k =>
  oCons args fun a0 l0 => oC a0 fun x0 => cPtr 0 x0 <| oCons l0 fun a1 l1 => oC a1 fun x1 => cInt .i64 x1 fun p0 => oNil l1 <| oBox 0 70 objs fun b0 o0 => cCons b0 fun u0_0 v0_0 => cList 3 ty3 u0_0 fun p1 => cCons v0_0 fun u0_1 v0_1 => cInt .i64 u0_1 fun p2 => cNil v0_1 <| oNilO o0 <| ob (c p0 p1 p2) fun y => k (.c (.int .i64 y.1)) [(0, .box 70 [.list 3 ty3 y.2.1, .int .i64 y.2.2])]
abbrev Sp68 (c : Int → List ty3.den → Int → Option (Int × (List ty3.den) × Int)) : Prop := ∀ (p0 : Int) (p1 : List ty3.den) (p2 : Int) (y : Int × (List ty3.den) × Int), c p0 p1 p2 = some y → Spec Try.prog gl0 68 [.c (.ptr 0 0), .c (.int .i64 p0)] [(0, .box 70 [.list 3 ty3 p1, .int .i64 p2])] (.c (.int .i64 y.1)) [(0, .box 70 [.list 3 ty3 y.2.1, .int .i64 y.2.2])]
theorem ek68 {R : Type} {c : Int → List ty3.den → Int → Option (Int × (List ty3.den) × Int)} (hs : Sp68 c) : EOk 68 (e68 (R := R) c) := fun args objs k r h => by
  unfold e68 at h
  obtain ⟨a0, l0, rfl, q1⟩ := oCons_some h
  obtain ⟨x0, rfl, q2⟩ := oC_some q1
  obtain ⟨rfl, q3⟩ := cPtr_some q2
  obtain ⟨a1, l1, rfl, q4⟩ := oCons_some q3
  obtain ⟨x1, rfl, q5⟩ := oC_some q4
  obtain ⟨p0, rfl, q6⟩ := cInt_some q5
  obtain ⟨rfl, q7⟩ := oNil_some q6
  obtain ⟨b0, o0, rfl, q8⟩ := oBox_some q7
  obtain ⟨u0_0, v0_0, rfl, q9⟩ := cCons_some q8
  obtain ⟨p1, rfl, q10⟩ := cList_some q9
  obtain ⟨u0_1, v0_1, rfl, q11⟩ := cCons_some q10
  obtain ⟨p2, rfl, q12⟩ := cInt_some q11
  obtain ⟨rfl, q13⟩ := cNil_some q12
  obtain ⟨rfl, q14⟩ := oNilO_some q13
  exact eok_of (hs p0 p1 p2) q14
theorem sf68 {c12 : Int → Int → Option (Int)} (h12 : Sp12 c12) : Sp68 (F68 c12) := fun p0 p1 p2 y hy => by
  refine spec_of (G := ent 12 (e12 c12) (gnil)) (ent_ok (ek12 h12) (gnil_ok)) 1000000 (fn := Try.f68) (by kernel_rfl) (by kernel_rfl) (X := X68) (by kernel_rfl) ?_
  rw [fo68, hy]
  rfl
noncomputable def M68 : Int → List ty3.den → Int → Option (Int × (List ty3.den) × Int) := F68 M12
theorem sm68 : Sp68 M68 := sf68 sm12
def e45 {R : Type} (c : Int → List ty3.den → Int → Option ((List UInt8) × (List ty3.den) × Int)) : Ent R := fun args objs k =>
  oCons args fun a0 l0 => oC a0 fun x0 => cPtr 0 x0 <| oCons l0 fun a1 l1 => oC a1 fun x1 => cInt .i64 x1 fun p0 => oNil l1 <| oBox 0 70 objs fun b0 o0 => cCons b0 fun u0_0 v0_0 => cList 3 ty3 u0_0 fun p1 => cCons v0_0 fun u0_1 v0_1 => cInt .i64 u0_1 fun p2 => cNil v0_1 <| oNilO o0 <| ob (c p0 p1 p2) fun y => k (.c (.str y.1)) [(0, .box 70 [.list 3 ty3 y.2.1, .int .i64 y.2.2])]
abbrev Sp45 (c : Int → List ty3.den → Int → Option ((List UInt8) × (List ty3.den) × Int)) : Prop := ∀ (p0 : Int) (p1 : List ty3.den) (p2 : Int) (y : (List UInt8) × (List ty3.den) × Int), c p0 p1 p2 = some y → Spec Try.prog gl0 45 [.c (.ptr 0 0), .c (.int .i64 p0)] [(0, .box 70 [.list 3 ty3 p1, .int .i64 p2])] (.c (.str y.1)) [(0, .box 70 [.list 3 ty3 y.2.1, .int .i64 y.2.2])]
theorem ek45 {R : Type} {c : Int → List ty3.den → Int → Option ((List UInt8) × (List ty3.den) × Int)} (hs : Sp45 c) : EOk 45 (e45 (R := R) c) := fun args objs k r h => by
  unfold e45 at h
  obtain ⟨a0, l0, rfl, q1⟩ := oCons_some h
  obtain ⟨x0, rfl, q2⟩ := oC_some q1
  obtain ⟨rfl, q3⟩ := cPtr_some q2
  obtain ⟨a1, l1, rfl, q4⟩ := oCons_some q3
  obtain ⟨x1, rfl, q5⟩ := oC_some q4
  obtain ⟨p0, rfl, q6⟩ := cInt_some q5
  obtain ⟨rfl, q7⟩ := oNil_some q6
  obtain ⟨b0, o0, rfl, q8⟩ := oBox_some q7
  obtain ⟨u0_0, v0_0, rfl, q9⟩ := cCons_some q8
  obtain ⟨p1, rfl, q10⟩ := cList_some q9
  obtain ⟨u0_1, v0_1, rfl, q11⟩ := cCons_some q10
  obtain ⟨p2, rfl, q12⟩ := cInt_some q11
  obtain ⟨rfl, q13⟩ := cNil_some q12
  obtain ⟨rfl, q14⟩ := oNilO_some q13
  exact eok_of (hs p0 p1 p2) q14

/-! ### 45: (*lariat/lariathand.feed).formula -/
def X45 : Aux := ⟨[(1000004, [2, 3, 4, 6, 7, 8, 9, 10, 11, 12, 13, 14, 15, 16, 17, 18, 19, 20, 21, 22, 23, 24, 25, 26, 27, 28, 29, 30, 31, 32, 33, 34, 35, 36, 37, 38, 39, 40, 41, 42, 43, 44, 45, 46, 47, 48, 49, 50, 51, 52, 53, 54, 55, 56, 57, 58, 59, 60, 61, 62, 63, 64, 65, 66, 67, 68, 69, 70, 71, 72, 73, 74, 75, 76, 77, 78, 79, 80, 81, 82, 83, 84, 85, 86, 87, 88, 89, 90, 91, 92, 93, 94, 95, 96, 97, 98, 99, 100, 101, 102, 103, 104, 105, 106, 107, 108, 109, 110])], [(11, .lin [0, 1, 2, 5, 6, 10, 11, 12, 3, 4, 7, 8, 9, 13, 14, 15, 16]), (13, .lin [0, 1, 2, 5, 6, 10, 11, 12, 3, 4, 7, 8, 9, 13, 14, 15, 16])]⟩
inductive S45 where
  | l1004 (v1004_1 : Int) (v1004_2 : List ty3.den) (v1004_3 : Int)
def T45 {R : Type} (B : Ops) (c68 : Int → List ty3.den → Int → Option (Int × (List ty3.den) × Int)) (c45 : Int → List ty3.den → Int → Option ((List UInt8) × (List ty3.den) × Int)) (p0 : Int) (p1 : List ty3.den) (p2 : Int) (again : S45 → Option R) (k : ((List UInt8) × (List ty3.den) × Int) → Option R) : Option S45 → Option R
  | none =>
    ob (c68 (22) p1 p2) fun y0 =>
    cond (Ops.lt B (2) p0)
     (
      cond (Ops.eq B (4) (0))
       (
        none)
       (
        again (.l1004 (IntKind.wrap IntKind.i64 (18 + Int.tmod (Prod.fst y0) (4))) (Prod.fst (Prod.snd y0)) (Prod.snd (Prod.snd y0)))))
     (
      cond (Ops.lt B (9) (Prod.snd (Prod.snd y0)))
       (
        cond (Ops.eq B (4) (0))
         (
          none)
         (
          again (.l1004 (IntKind.wrap IntKind.i64 (18 + Int.tmod (Prod.fst y0) (4))) (Prod.fst (Prod.snd y0)) (Prod.snd (Prod.snd y0)))))
       (
        again (.l1004 (Prod.fst y0) (Prod.fst (Prod.snd y0)) (Prod.snd (Prod.snd y0)))))
  | some (.l1004 v1004_1 v1004_2 v1004_3) =>
    cond (Ops.lt B v1004_1 (3))
     (
      ob (c45 (IntKind.wrap IntKind.i64 (p0 + 1)) v1004_2 v1004_3) fun y0 =>
      cond (Ops.lim B (3 + List.length (Prod.fst y0)) (1))
       (
        cond (Ops.lim B (List.length (([71, 32, 40] : List UInt8) ++ Prod.fst y0) + 1) (1))
         (
          k ((([71, 32, 40] : List UInt8) ++ Prod.fst y0 ++ ([41] : List UInt8), Prod.fst (Prod.snd y0), Prod.snd (Prod.snd y0))))
         (
          none))
       (
        none))
     (
      cond (Ops.lt B v1004_1 (6))
       (
        ob (c45 (IntKind.wrap IntKind.i64 (p0 + 1)) v1004_2 v1004_3) fun y0 =>
        cond (Ops.lim B (3 + List.length (Prod.fst y0)) (1))
         (
          cond (Ops.lim B (List.length (([70, 32, 40] : List UInt8) ++ Prod.fst y0) + 1) (1))
           (
            k ((([70, 32, 40] : List UInt8) ++ Prod.fst y0 ++ ([41] : List UInt8), Prod.fst (Prod.snd y0), Prod.snd (Prod.snd y0))))
           (
            none))
         (
          none))
       (
        cond (Ops.lt B v1004_1 (8))
         (
          ob (c45 (IntKind.wrap IntKind.i64 (p0 + 1)) v1004_2 v1004_3) fun y0 =>
          cond (Ops.lim B (2 + List.length (Prod.fst y0)) (1))
           (
            k ((([88, 32] : List UInt8) ++ Prod.fst y0, Prod.fst (Prod.snd y0), Prod.snd (Prod.snd y0))))
           (
            none))
         (
          cond (Ops.lt B v1004_1 (11))
           (
            ob (c45 (IntKind.wrap IntKind.i64 (p0 + 1)) v1004_2 v1004_3) fun y0 =>
            cond (Ops.lim B (1 + List.length (Prod.fst y0)) (1))
             (
              ob (c68 (2) (Prod.fst (Prod.snd y0)) (Prod.snd (Prod.snd y0))) fun y1 =>
              cond (Ops.inb B (Prod.fst y1) (2))
               (
                cond (Ops.lim B (List.length (([40] : List UInt8) ++ Prod.fst y0) + List.length (List.getD (([32, 85, 32] : List UInt8) :: ([32, 82, 32] : List UInt8) :: mt (List UInt8)) (Int.toNat (Prod.fst y1)) (mt UInt8))) (1))
                 (
                  ob (c45 (IntKind.wrap IntKind.i64 (p0 + 1)) (Prod.fst (Prod.snd y1)) (Prod.snd (Prod.snd y1))) fun y2 =>
                  cond (Ops.lim B (List.length (([40] : List UInt8) ++ Prod.fst y0 ++ List.getD (([32, 85, 32] : List UInt8) :: ([32, 82, 32] : List UInt8) :: mt (List UInt8)) (Int.toNat (Prod.fst y1)) (mt UInt8)) + List.length (Prod.fst y2)) (1))
                   (
                    cond (Ops.lim B (List.length (([40] : List UInt8) ++ Prod.fst y0 ++ List.getD (([32, 85, 32] : List UInt8) :: ([32, 82, 32] : List UInt8) :: mt (List UInt8)) (Int.toNat (Prod.fst y1)) (mt UInt8) ++ Prod.fst y2) + 1) (1))
                     (
                      k ((([40] : List UInt8) ++ Prod.fst y0 ++ List.getD (([32, 85, 32] : List UInt8) :: ([32, 82, 32] : List UInt8) :: mt (List UInt8)) (Int.toNat (Prod.fst y1)) (mt UInt8) ++ Prod.fst y2 ++ ([41] : List UInt8), Prod.fst (Prod.snd y2), Prod.snd (Prod.snd y2))))
                     (
                      none))
                   (
                    none))
                 (
                  none))
               (
                none))
             (
              none))
           (
            cond (Ops.lt B v1004_1 (15))
             (
              ob (c45 (IntKind.wrap IntKind.i64 (p0 + 1)) v1004_2 v1004_3) fun y0 =>
              cond (Ops.lim B (1 + List.length (Prod.fst y0)) (1))
               (
                ob (c68 (3) (Prod.fst (Prod.snd y0)) (Prod.snd (Prod.snd y0))) fun y1 =>
                cond (Ops.inb B (Prod.fst y1) (3))
                 (
                  cond (Ops.lim B (List.length (([40] : List UInt8) ++ Prod.fst y0) + List.length (List.getD (([32, 38, 38, 32] : List UInt8) :: ([32, 124, 124, 32] : List UInt8) :: ([32, 45, 62, 32] : List UInt8) :: mt (List UInt8)) (Int.toNat (Prod.fst y1)) (mt UInt8))) (1))
                   (
                    ob (c45 (IntKind.wrap IntKind.i64 (p0 + 1)) (Prod.fst (Prod.snd y1)) (Prod.snd (Prod.snd y1))) fun y2 =>
                    cond (Ops.lim B (List.length (([40] : List UInt8) ++ Prod.fst y0 ++ List.getD (([32, 38, 38, 32] : List UInt8) :: ([32, 124, 124, 32] : List UInt8) :: ([32, 45, 62, 32] : List UInt8) :: mt (List UInt8)) (Int.toNat (Prod.fst y1)) (mt UInt8)) + List.length (Prod.fst y2)) (1))
                     (
                      cond (Ops.lim B (List.length (([40] : List UInt8) ++ Prod.fst y0 ++ List.getD (([32, 38, 38, 32] : List UInt8) :: ([32, 124, 124, 32] : List UInt8) :: ([32, 45, 62, 32] : List UInt8) :: mt (List UInt8)) (Int.toNat (Prod.fst y1)) (mt UInt8) ++ Prod.fst y2) + 1) (1))
                       (
                        k ((([40] : List UInt8) ++ Prod.fst y0 ++ List.getD (([32, 38, 38, 32] : List UInt8) :: ([32, 124, 124, 32] : List UInt8) :: ([32, 45, 62, 32] : List UInt8) :: mt (List UInt8)) (Int.toNat (Prod.fst y1)) (mt UInt8) ++ Prod.fst y2 ++ ([41] : List UInt8), Prod.fst (Prod.snd y2), Prod.snd (Prod.snd y2))))
                       (
                        none))
                     (
                      none))
                   (
                    none))
                 (
                  none))
               (
                none))
             (
              cond (Ops.lt B v1004_1 (17))
               (
                ob (c45 (IntKind.wrap IntKind.i64 (p0 + 1)) v1004_2 v1004_3) fun y0 =>
                cond (Ops.lim B (1 + List.length (Prod.fst y0)) (1))
                 (
                  k ((([33] : List UInt8) ++ Prod.fst y0, Prod.fst (Prod.snd y0), Prod.snd (Prod.snd y0))))
                 (
                  none))
               (
                cond (Ops.eq B v1004_1 (17))
                 (
                  ob (c45 (IntKind.wrap IntKind.i64 (p0 + 1)) v1004_2 v1004_3) fun y0 =>
                  cond (Ops.lim B (4 + List.length (Prod.fst y0)) (1))
                   (
                    k ((([71, 32, 70, 32] : List UInt8) ++ Prod.fst y0, Prod.fst (Prod.snd y0), Prod.snd (Prod.snd y0))))
                   (
                    none))
                 (
                  cond (Ops.eq B v1004_1 (18))
                   (
                    ob (c68 (2) v1004_2 v1004_3) fun y0 =>
                    cond (Ops.inb B (Prod.fst y0) (2))
                     (
                      k ((List.getD (([116, 114, 117, 101] : List UInt8) :: ([102, 97, 108, 115, 101] : List UInt8) :: mt (List UInt8)) (Int.toNat (Prod.fst y0)) (mt UInt8), Prod.fst (Prod.snd y0), Prod.snd (Prod.snd y0))))
                     (
                      none))
                   (
                    ob (c68 (6) v1004_2 v1004_3) fun y0 =>
                    cond (Ops.inb B (Prod.fst y0) (6))
                     (
                      k ((List.getD (([91, 120, 61, 61, 49, 93] : List UInt8) :: ([91, 112, 64, 97, 93] : List UInt8) :: ([91, 121, 60, 49, 93] : List UInt8) :: ([91, 113, 64, 98, 38, 38, 120, 62, 48, 93] : List UInt8) :: ([91, 120, 61, 61, 121, 93] : List UInt8) :: ([91, 112, 64, 98, 93] : List UInt8) :: mt (List UInt8)) (Int.toNat (Prod.fst y0)) (mt UInt8), Prod.fst (Prod.snd y0), Prod.snd (Prod.snd y0))))
                     (
                      none)))))))))
def E45 (p0 : Int) (p1 : List ty3.den) (p2 : Int) : S45 → List AV × Objs
  | .l1004 v1004_1 v1004_2 v1004_3 => (mk 111 [(0, .c (.ptr 0 0)), (1, .c (.int .i64 p0)), (5, .c (.int .i64 v1004_1))], [(0, .box 70 [.list 3 ty3 v1004_2, .int .i64 v1004_3])])
def I45 : S45 → Nat
  | .l1004 _ _ _ => 1004
theorem eq45 {R : Type} (B : Ops) (c68 : Int → List ty3.den → Int → Option (Int × (List ty3.den) × Int)) (c45 : Int → List ty3.den → Int → Option ((List UInt8) × (List ty3.den) × Int)) (p0 : Int) (p1 : List ty3.den) (p2 : Int) (k : AV → Objs → Option R) (n : Nat) : afun tau B gl0 X45 (ent 68 (e68 c68) (ent 45 (e45 c45) (gnil))) ow Try.f45 [.c (.ptr 0 0), .c (.int .i64 p0)] [(0, .box 70 [.list 3 ty3 p1, .int .i64 p2])] k n = T45 B c68 c45 p0 p1 p2 (fun s => aloop tau B gl0 X45 (ent 68 (e68 c68) (ent 45 (e45 c45) (gnil))) ow [0] Try.f45 k (I45 s) (E45 p0 p1 p2 s) n) (fun y => k (.c (.str y.1)) [(0, .box 70 [.list 3 ty3 y.2.1, .int .i64 y.2.2])]) none := by kernel_rfl
theorem el45 {R : Type} (B : Ops) (c68 : Int → List ty3.den → Int → Option (Int × (List ty3.den) × Int)) (c45 : Int → List ty3.den → Int → Option ((List UInt8) × (List ty3.den) × Int)) (p0 : Int) (p1 : List ty3.den) (p2 : Int) (k : AV → Objs → Option R) (n : Nat) : ∀ s, aloop tau B gl0 X45 (ent 68 (e68 c68) (ent 45 (e45 c45) (gnil))) ow [0] Try.f45 k (I45 s) (E45 p0 p1 p2 s) (n + 1) = T45 B c68 c45 p0 p1 p2 (fun s => aloop tau B gl0 X45 (ent 68 (e68 c68) (ent 45 (e45 c45) (gnil))) ow [0] Try.f45 k (I45 s) (E45 p0 p1 p2 s) n) (fun y => k (.c (.str y.1)) [(0, .box 70 [.list 3 ty3 y.2.1, .int .i64 y.2.2])]) (some s)
  | .l1004 v1004_1 v1004_2 v1004_3 => by kernel_rfl
theorem nt45 {R R' : Type} (B : Ops) (c68 : Int → List ty3.den → Int → Option (Int × (List ty3.den) × Int)) (c45 : Int → List ty3.den → Int → Option ((List UInt8) × (List ty3.den) × Int)) (p0 : Int) (p1 : List ty3.den) (p2 : Int) (again : S45 → Option R) (again' : S45 → Option R') (k0 : ((List UInt8) × (List ty3.den) × Int) → Option R') (k : R' → Option R) (h : ∀ s, again s = ob (again' s) k) : ∀ s, T45 B c68 c45 p0 p1 p2 again (fun y => ob (k0 y) k) s = ob (T45 B c68 c45 p0 p1 p2 again' k0 s) k
  | none => by unfold T45; repeat' first | exact rfl | exact h _ | apply nat_cond | (apply nat_ob; intro)
  | some (.l1004 v1004_1 v1004_2 v1004_3) => by unfold T45; repeat' first | exact rfl | exact h _ | apply nat_cond | (apply nat_ob; intro)
def R45 (c68 : Int → List ty3.den → Int → Option (Int × (List ty3.den) × Int)) (c45 : Int → List ty3.den → Int → Option ((List UInt8) × (List ty3.den) × Int)) (p0 : Int) (p1 : List ty3.den) (p2 : Int) : Nat → S45 → Option ((List UInt8) × (List ty3.den) × Int)
  | 0, _ => none
  | n + 1, s => T45 Ops.std c68 c45 p0 p1 p2 (R45 c68 c45 p0 p1 p2 n) some (some s)
theorem rr45 {R : Type} (c68 : Int → List ty3.den → Int → Option (Int × (List ty3.den) × Int)) (c45 : Int → List ty3.den → Int → Option ((List UInt8) × (List ty3.den) × Int)) (p0 : Int) (p1 : List ty3.den) (p2 : Int) (k : AV → Objs → Option R) : ∀ (n : Nat) (s : S45), aloop tau Ops.std gl0 X45 (ent 68 (e68 c68) (ent 45 (e45 c45) (gnil))) ow [0] Try.f45 k (I45 s) (E45 p0 p1 p2 s) n = ob (R45 c68 c45 p0 p1 p2 n s) (fun y => k (.c (.str y.1)) [(0, .box 70 [.list 3 ty3 y.2.1, .int .i64 y.2.2])])
  | 0, s => by cases s <;> rfl
  | n + 1, s => by rw [el45]; exact nt45 Ops.std c68 c45 p0 p1 p2 _ _ some (fun y => k (.c (.str y.1)) [(0, .box 70 [.list 3 ty3 y.2.1, .int .i64 y.2.2])]) (rr45 c68 c45 p0 p1 p2 k n) (some s)
def F45 (c68 : Int → List ty3.den → Int → Option (Int × (List ty3.den) × Int)) (c45 : Int → List ty3.den → Int → Option ((List UInt8) × (List ty3.den) × Int)) (p0 : Int) (p1 : List ty3.den) (p2 : Int) : Option ((List UInt8) × (List ty3.den) × Int) := T45 Ops.std c68 c45 p0 p1 p2 (R45 c68 c45 p0 p1 p2 1000000) some none
theorem fo45 {R : Type} (c68 : Int → List ty3.den → Int → Option (Int × (List ty3.den) × Int)) (c45 : Int → List ty3.den → Int → Option ((List UInt8) × (List ty3.den) × Int)) (p0 : Int) (p1 : List ty3.den) (p2 : Int) (k : AV → Objs → Option R) : afun tau Ops.std gl0 X45 (ent 68 (e68 c68) (ent 45 (e45 c45) (gnil))) ow Try.f45 [.c (.ptr 0 0), .c (.int .i64 p0)] [(0, .box 70 [.list 3 ty3 p1, .int .i64 p2])] k 1000000 = ob (F45 c68 c45 p0 p1 p2) (fun y => k (.c (.str y.1)) [(0, .box 70 [.list 3 ty3 y.2.1, .int .i64 y.2.2])]) := by rw [eq45]; exact nt45 Ops.std c68 c45 p0 p1 p2 _ _ some (fun y => k (.c (.str y.1)) [(0, .box 70 [.list 3 ty3 y.2.1, .int .i64 y.2.2])]) (rr45 c68 c45 p0 p1 p2 k 1000000) none
theorem sf45 {c68 : Int → List ty3.den → Int → Option (Int × (List ty3.den) × Int)} {c45 : Int → List ty3.den → Int → Option ((List UInt8) × (List ty3.den) × Int)} (h68 : Sp68 c68) (h45 : Sp45 c45) : Sp45 (F45 c68 c45) := fun p0 p1 p2 y hy => by
  refine spec_of (G := ent 68 (e68 c68) (ent 45 (e45 c45) (gnil))) (ent_ok (ek68 h68) (ent_ok (ek45 h45) (gnil_ok))) 1000000 (fn := Try.f45) (by kernel_rfl) (by kernel_rfl) (X := X45) (by kernel_rfl) ?_
  rw [fo45, hy]
  rfl
noncomputable def Rec45 : Nat → (Int → List ty3.den → Int → Option ((List UInt8) × (List ty3.den) × Int))
  | 0 => fun _ _ _ => none
  | d + 1 => F45 M68 (Rec45 d)
theorem rec45 : ∀ d, Sp45 (Rec45 d)
  | 0 => fun p0 p1 p2 y (h : (none : Option ((List UInt8) × (List ty3.den) × Int)) = some y) => by cases h
  | d + 1 => sf45 sm68 (rec45 d)
noncomputable def M45 : Int → List ty3.den → Int → Option ((List UInt8) × (List ty3.den) × Int) := (Rec45 1000000)
theorem sm45 : Sp45 M45 := (rec45 1000000)

/-! ### 22: lariat/lariathand.Formula -/
def X22 : Aux := ⟨[], []⟩
def T22 {R : Type} (B : Ops) (c45 : Int → List ty3.den → Int → Option ((List UInt8) × (List ty3.den) × Int)) (p0 : List ty3.den) (k : ((List UInt8)) → Option R) : Option R :=
  ob (c45 (0) p0 (0)) fun y0 =>
  k (Prod.fst y0)
theorem eq22 {R : Type} (B : Ops) (c45 : Int → List ty3.den → Int → Option ((List UInt8) × (List ty3.den) × Int)) (p0 : List ty3.den) (k : AV → Objs → Option R) (n : Nat) : afun tau B gl0 X22 (ent 45 (e45 c45) (gnil)) ow Try.f22 [.c (.list 3 ty3 p0)] [] k n = T22 B c45 p0 (fun y => k (.c (.str y)) []) := by kernel_rfl
theorem nt22 {R R' : Type} (B : Ops) (c45 : Int → List ty3.den → Int → Option ((List UInt8) × (List ty3.den) × Int)) (p0 : List ty3.den) (k0 : ((List UInt8)) → Option R') (k : R' → Option R) : T22 B c45 p0 (fun y => ob (k0 y) k) = ob (T22 B c45 p0 k0) k := by
  unfold T22
  repeat' first | exact rfl | apply nat_cond | (apply nat_ob; intro)
def F22 (c45 : Int → List ty3.den → Int → Option ((List UInt8) × (List ty3.den) × Int)) (p0 : List ty3.den) : Option ((List UInt8)) := T22 Ops.std c45 p0 some
theorem fo22 {R : Type} (c45 : Int → List ty3.den → Int → Option ((List UInt8) × (List ty3.den) × Int)) (p0 : List ty3.den) (k : AV → Objs → Option R) (n : Nat) : afun tau Ops.std gl0 X22 (ent 45 (e45 c45) (gnil)) ow Try.f22 [.c (.list 3 ty3 p0)] [] k n = ob (F22 c45 p0) (fun y => k (.c (.str y)) []) := by rw [eq22]; exact nt22 Ops.std c45 p0 some (fun y => k (.c (.str y)) [])
def e22 {R : Type} (c : List ty3.den → Option ((List UInt8))) : Ent R := fun args objs k =>
  oCons args fun a0 l0 => oC a0 fun x0 => cList 3 ty3 x0 fun p0 => oNil l0 <| oNilO objs <| ob (c p0) fun y => k (.c (.str y)) []
abbrev Sp22 (c : List ty3.den → Option ((List UInt8))) : Prop := ∀ (p0 : List ty3.den) (y : (List UInt8)), c p0 = some y → Spec Try.prog gl0 22 [.c (.list 3 ty3 p0)] [] (.c (.str y)) []
theorem ek22 {R : Type} {c : List ty3.den → Option ((List UInt8))} (hs : Sp22 c) : EOk 22 (e22 (R := R) c) := fun args objs k r h => by
  unfold e22 at h
  obtain ⟨a0, l0, rfl, q1⟩ := oCons_some h
  obtain ⟨x0, rfl, q2⟩ := oC_some q1
  obtain ⟨p0, rfl, q3⟩ := cList_some q2
  obtain ⟨rfl, q4⟩ := oNil_some q3
  obtain ⟨rfl, q5⟩ := oNilO_some q4
  exact eok_of (hs p0) q5
theorem sf22 {c45 : Int → List ty3.den → Int → Option ((List UInt8) × (List ty3.den) × Int)} (h45 : Sp45 c45) : Sp22 (F22 c45) := fun p0 y hy => by
  refine spec_of (G := ent 45 (e45 c45) (gnil)) (ent_ok (ek45 h45) (gnil_ok)) 1000000 (fn := Try.f22) (by kernel_rfl) (by kernel_rfl) (X := X22) (by kernel_rfl) ?_
  rw [fo22, hy]
  rfl
noncomputable def M22 : List ty3.den → Option ((List UInt8)) := F22 M45
theorem sm22 : Sp22 M22 := sf22 sm45

/-! ### 117: lariat/lex.run#digit -/
def X117 : Aux := ⟨[(2, [2, 3, 6, 7, 8, 9, 10, 11, 12, 13, 14, 15, 16, 17, 18])], []⟩
inductive S117 where
  | l0 (v0_2 : Int)
def T117 {R : Type} (B : Ops) (c57 : Int → Option (Bool)) (p0 : List UInt8) (again : S117 → Option R) (k : ((List UInt8)) → Option R) : Option S117 → Option R
  | none =>
    again (.l0 0)
  | some (.l0 v0_2) =>
    cond (Ops.lt B v0_2 (Nat.cast (List.length p0)))
     (
      cond (Ops.inb B v0_2 (List.length p0))
       (
        ob (c57 (Nat.cast (UInt8.toNat (List.getD p0 (Int.toNat v0_2) (0))))) fun y0 =>
        cond (y0)
         (
          again (.l0 (IntKind.wrap IntKind.i64 (v0_2 + 1))))
         (
          cond (Ops.inb B v0_2 (List.length p0 + 1))
           (
            k (List.drop (0) (List.take (Int.toNat v0_2) p0)))
           (
            none)))
       (
        none))
     (
      cond (Ops.inb B v0_2 (List.length p0 + 1))
       (
        k (List.drop (0) (List.take (Int.toNat v0_2) p0)))
       (
        none))
def E117 (p0 : List UInt8) : S117 → List AV × Objs
  | .l0 v0_2 => (mk 22 [(0, .c (.str p0)), (1, .fn 57 []), (4, .c (.str (Array.toList (ByteArray.data { data := List.toArray (mt UInt8) })))), (5, .c (.int .i64 v0_2))], [])
def I117 : S117 → Nat
  | .l0 _ => 0
theorem eq117 {R : Type} (B : Ops) (c57 : Int → Option (Bool)) (p0 : List UInt8) (k : AV → Objs → Option R) (n : Nat) : afun tau B gl0 X117 (ent 57 (e57 c57) (gnil)) ow Try.f40 [.c (.str p0), .fn 57 []] [] k n = T117 B c57 p0 (fun s => aloop tau B gl0 X117 (ent 57 (e57 c57) (gnil)) ow [] Try.f40 k (I117 s) (E117 p0 s) n) (fun y => k (.c (.str y)) []) none := by kernel_rfl
theorem el117 {R : Type} (B : Ops) (c57 : Int → Option (Bool)) (p0 : List UInt8) (k : AV → Objs → Option R) (n : Nat) : ∀ s, aloop tau B gl0 X117 (ent 57 (e57 c57) (gnil)) ow [] Try.f40 k (I117 s) (E117 p0 s) (n + 1) = T117 B c57 p0 (fun s => aloop tau B gl0 X117 (ent 57 (e57 c57) (gnil)) ow [] Try.f40 k (I117 s) (E117 p0 s) n) (fun y => k (.c (.str y)) []) (some s)
  | .l0 v0_2 => by kernel_rfl
theorem nt117 {R R' : Type} (B : Ops) (c57 : Int → Option (Bool)) (p0 : List UInt8) (again : S117 → Option R) (again' : S117 → Option R') (k0 : ((List UInt8)) → Option R') (k : R' → Option R) (h : ∀ s, again s = ob (again' s) k) : ∀ s, T117 B c57 p0 again (fun y => ob (k0 y) k) s = ob (T117 B c57 p0 again' k0 s) k
  | none => by unfold T117; repeat' first | exact rfl | exact h _ | apply nat_cond | (apply nat_ob; intro)
  | some (.l0 v0_2) => by unfold T117; repeat' first | exact rfl | exact h _ | apply nat_cond | (apply nat_ob; intro)
def R117 (c57 : Int → Option (Bool)) (p0 : List UInt8) : Nat → S117 → Option ((List UInt8))
  | 0, _ => none
  | n + 1, s => T117 Ops.std c57 p0 (R117 c57 p0 n) some (some s)
theorem rr117 {R : Type} (c57 : Int → Option (Bool)) (p0 : List UInt8) (k : AV → Objs → Option R) : ∀ (n : Nat) (s : S117), aloop tau Ops.std gl0 X117 (ent 57 (e57 c57) (gnil)) ow [] Try.f40 k (I117 s) (E117 p0 s) n = ob (R117 c57 p0 n s) (fun y => k (.c (.str y)) [])
  | 0, s => by cases s <;> rfl
  | n + 1, s => by rw [el117]; exact nt117 Ops.std c57 p0 _ _ some (fun y => k (.c (.str y)) []) (rr117 c57 p0 k n) (some s)
def F117 (c57 : Int → Option (Bool)) (p0 : List UInt8) : Option ((List UInt8)) := T117 Ops.std c57 p0 (R117 c57 p0 1000000) some none
theorem fo117 {R : Type} (c57 : Int → Option (Bool)) (p0 : List UInt8) (k : AV → Objs → Option R) : afun tau Ops.std gl0 X117 (ent 57 (e57 c57) (gnil)) ow Try.f40 [.c (.str p0), .fn 57 []] [] k 1000000 = ob (F117 c57 p0) (fun y => k (.c (.str y)) []) := by rw [eq117]; exact nt117 Ops.std c57 p0 _ _ some (fun y => k (.c (.str y)) []) (rr117 c57 p0 k 1000000) none
def e117 {R : Type} (c : List UInt8 → Option ((List UInt8))) : Ent R := fun args objs k =>
  oCons args fun a0 l0 => oC a0 fun x0 => cStr x0 fun p0 => oCons l0 fun a1 l1 => oFn 57 a1 <| oNil l1 <| oNilO objs <| ob (c p0) fun y => k (.c (.str y)) []
abbrev Sp117 (c : List UInt8 → Option ((List UInt8))) : Prop := ∀ (p0 : List UInt8) (y : (List UInt8)), c p0 = some y → Spec Try.prog gl0 40 [.c (.str p0), .fn 57 []] [] (.c (.str y)) []
theorem ek117 {R : Type} {c : List UInt8 → Option ((List UInt8))} (hs : Sp117 c) : EOk 40 (e117 (R := R) c) := fun args objs k r h => by
  unfold e117 at h
  obtain ⟨a0, l0, rfl, q1⟩ := oCons_some h
  obtain ⟨x0, rfl, q2⟩ := oC_some q1
  obtain ⟨p0, rfl, q3⟩ := cStr_some q2
  obtain ⟨a1, l1, rfl, q4⟩ := oCons_some q3
  obtain ⟨rfl, q5⟩ := oFn_some q4
  obtain ⟨rfl, q6⟩ := oNil_some q5
  obtain ⟨rfl, q7⟩ := oNilO_some q6
  exact eok_of (hs p0) q7
theorem sf117 {c57 : Int → Option (Bool)} (h57 : Sp57 c57) : Sp117 (F117 c57) := fun p0 y hy => by
  refine spec_of (G := ent 57 (e57 c57) (gnil)) (ent_ok (ek57 h57) (gnil_ok)) 1000000 (fn := Try.f40) (by kernel_rfl) (by kernel_rfl) (X := X117) (by kernel_rfl) ?_
  rw [fo117, hy]
  rfl
noncomputable def M117 : List UInt8 → Option ((List UInt8)) := F117 M57
theorem sm117 : Sp117 M117 := sf117 sm57
def e62 {R : Type} (c : Int → List ty33.den → Int → Int → Int → List ty66.den → Option ((List ty33.den) × Int × Int × Int × (List ty66.den))) : Ent R := fun args objs k =>
  oCons args fun a0 l0 => oC a0 fun x0 => cPtr 0 x0 <| oCons l0 fun a1 l1 => oC a1 fun x1 => cInt .i64 x1 fun p0 => oNil l1 <| oBox 0 86 objs fun b0 o0 => cCons b0 fun u0_0 v0_0 => cList 33 ty33 u0_0 fun p1 => cCons v0_0 fun u0_1 v0_1 => cInt .i64 u0_1 fun p2 => cCons v0_1 fun u0_2 v0_2 => cOwn 1002 u0_2 <| cCons v0_2 fun u0_3 v0_3 => cInt .i64 u0_3 fun p3 => cCons v0_3 fun u0_4 v0_4 => cInt .i64 u0_4 fun p4 => cNil v0_4 <| oRow 1002 66 ty66 o0 fun p5 o1 => oNilO o1 <| ob (c p0 p1 p2 p3 p4 p5) fun y => k (.tup []) [(0, .box 86 [.list 33 ty33 y.1, .int .i64 y.2.1, .own 1002, .int .i64 y.2.2.1, .int .i64 y.2.2.2.1]), (1002, .row 66 ty66 y.2.2.2.2)]
abbrev Sp62 (c : Int → List ty33.den → Int → Int → Int → List ty66.den → Option ((List ty33.den) × Int × Int × Int × (List ty66.den))) : Prop := ∀ (p0 : Int) (p1 : List ty33.den) (p2 : Int) (p3 : Int) (p4 : Int) (p5 : List ty66.den) (y : (List ty33.den) × Int × Int × Int × (List ty66.den)), c p0 p1 p2 p3 p4 p5 = some y → Spec Try.prog gl0 62 [.c (.ptr 0 0), .c (.int .i64 p0)] [(0, .box 86 [.list 33 ty33 p1, .int .i64 p2, .own 1002, .int .i64 p3, .int .i64 p4]), (1002, .row 66 ty66 p5)] (.tup []) [(0, .box 86 [.list 33 ty33 y.1, .int .i64 y.2.1, .own 1002, .int .i64 y.2.2.1, .int .i64 y.2.2.2.1]), (1002, .row 66 ty66 y.2.2.2.2)]
theorem ek62 {R : Type} {c : Int → List ty33.den → Int → Int → Int → List ty66.den → Option ((List ty33.den) × Int × Int × Int × (List ty66.den))} (hs : Sp62 c) : EOk 62 (e62 (R := R) c) := fun args objs k r h => by
  unfold e62 at h
  obtain ⟨a0, l0, rfl, q1⟩ := oCons_some h
  obtain ⟨x0, rfl, q2⟩ := oC_some q1
  obtain ⟨rfl, q3⟩ := cPtr_some q2
  obtain ⟨a1, l1, rfl, q4⟩ := oCons_some q3
  obtain ⟨x1, rfl, q5⟩ := oC_some q4
  obtain ⟨p0, rfl, q6⟩ := cInt_some q5
  obtain ⟨rfl, q7⟩ := oNil_some q6
  obtain ⟨b0, o0, rfl, q8⟩ := oBox_some q7
  obtain ⟨u0_0, v0_0, rfl, q9⟩ := cCons_some q8
  obtain ⟨p1, rfl, q10⟩ := cList_some q9
  obtain ⟨u0_1, v0_1, rfl, q11⟩ := cCons_some q10
  obtain ⟨p2, rfl, q12⟩ := cInt_some q11
  obtain ⟨u0_2, v0_2, rfl, q13⟩ := cCons_some q12
  obtain ⟨rfl, q14⟩ := cOwn_some q13
  obtain ⟨u0_3, v0_3, rfl, q15⟩ := cCons_some q14
  obtain ⟨p3, rfl, q16⟩ := cInt_some q15
  obtain ⟨u0_4, v0_4, rfl, q17⟩ := cCons_some q16
  obtain ⟨p4, rfl, q18⟩ := cInt_some q17
  obtain ⟨rfl, q19⟩ := cNil_some q18
  obtain ⟨p5, o1, rfl, q20⟩ := oRow_some q19
  obtain ⟨rfl, q21⟩ := oNilO_some q20
  exact eok_of (hs p0 p1 p2 p3 p4 p5) q21
def e79 {R : Type} (c : List ty33.den → Int → Int → Int → List ty66.den → Option ((List ty33.den) × Int × Int × Int × (List ty66.den))) : Ent R := fun args objs k =>
  oCons args fun a0 l0 => oC a0 fun x0 => cPtr 0 x0 <| oNil l0 <| oBox 0 86 objs fun b0 o0 => cCons b0 fun u0_0 v0_0 => cList 33 ty33 u0_0 fun p0 => cCons v0_0 fun u0_1 v0_1 => cInt .i64 u0_1 fun p1 => cCons v0_1 fun u0_2 v0_2 => cOwn 1002 u0_2 <| cCons v0_2 fun u0_3 v0_3 => cInt .i64 u0_3 fun p2 => cCons v0_3 fun u0_4 v0_4 => cInt .i64 u0_4 fun p3 => cNil v0_4 <| oRow 1002 66 ty66 o0 fun p4 o1 => oNilO o1 <| ob (c p0 p1 p2 p3 p4) fun y => k (.tup []) [(0, .box 86 [.list 33 ty33 y.1, .int .i64 y.2.1, .own 1002, .int .i64 y.2.2.1, .int .i64 y.2.2.2.1]), (1002, .row 66 ty66 y.2.2.2.2)]
abbrev Sp79 (c : List ty33.den → Int → Int → Int → List ty66.den → Option ((List ty33.den) × Int × Int × Int × (List ty66.den))) : Prop := ∀ (p0 : List ty33.den) (p1 : Int) (p2 : Int) (p3 : Int) (p4 : List ty66.den) (y : (List ty33.den) × Int × Int × Int × (List ty66.den)), c p0 p1 p2 p3 p4 = some y → Spec Try.prog gl0 79 [.c (.ptr 0 0)] [(0, .box 86 [.list 33 ty33 p0, .int .i64 p1, .own 1002, .int .i64 p2, .int .i64 p3]), (1002, .row 66 ty66 p4)] (.tup []) [(0, .box 86 [.list 33 ty33 y.1, .int .i64 y.2.1, .own 1002, .int .i64 y.2.2.1, .int .i64 y.2.2.2.1]), (1002, .row 66 ty66 y.2.2.2.2)]
theorem ek79 {R : Type} {c : List ty33.den → Int → Int → Int → List ty66.den → Option ((List ty33.den) × Int × Int × Int × (List ty66.den))} (hs : Sp79 c) : EOk 79 (e79 (R := R) c) := fun args objs k r h => by
  unfold e79 at h
  obtain ⟨a0, l0, rfl, q1⟩ := oCons_some h
  obtain ⟨x0, rfl, q2⟩ := oC_some q1
  obtain ⟨rfl, q3⟩ := cPtr_some q2
  obtain ⟨rfl, q4⟩ := oNil_some q3
  obtain ⟨b0, o0, rfl, q5⟩ := oBox_some q4
  obtain ⟨u0_0, v0_0, rfl, q6⟩ := cCons_some q5
  obtain ⟨p0, rfl, q7⟩ := cList_some q6
  obtain ⟨u0_1, v0_1, rfl, q8⟩ := cCons_some q7
  obtain ⟨p1, rfl, q9⟩ := cInt_some q8
  obtain ⟨u0_2, v0_2, rfl, q10⟩ := cCons_some q9
  obtain ⟨rfl, q11⟩ := cOwn_some q10
  obtain ⟨u0_3, v0_3, rfl, q12⟩ := cCons_some q11
  obtain ⟨p2, rfl, q13⟩ := cInt_some q12
  obtain ⟨u0_4, v0_4, rfl, q14⟩ := cCons_some q13
  obtain ⟨p3, rfl, q15⟩ := cInt_some q14
  obtain ⟨rfl, q16⟩ := cNil_some q15
  obtain ⟨p4, o1, rfl, q17⟩ := oRow_some q16
  obtain ⟨rfl, q18⟩ := oNilO_some q17
  exact eok_of (hs p0 p1 p2 p3 p4) q18

/-! ### 62: (*lariat/lariatref13.reader).level -/
def X62 : Aux := ⟨[(3, [2, 3, 4, 5, 6, 7, 8, 9, 10, 11, 12, 13, 14, 15, 16, 17, 18, 19, 20, 21, 22, 23, 24, 25, 26, 27, 28, 29, 30, 31, 32, 33, 34, 35, 36, 37, 38, 39, 40, 41, 42, 43, 44, 45, 46, 47, 48, 49, 50, 51, 52, 53])], []⟩
inductive S62 where
  | l0 (v0_1 : List ty33.den) (v0_2 : Int) (v0_3 : Int) (v0_4 : Int) (v0_5 : List ty66.den)
def T62 {R : Type} (B : Ops) (c79 : List ty33.den → Int → Int → Int → List ty66.den → Option ((List ty33.den) × Int × Int × Int × (List ty66.den))) (c62 : Int → List ty33.den → Int → Int → Int → List ty66.den → Option ((List ty33.den) × Int × Int × Int × (List ty66.den))) (c80 : Int → List ty33.den → Int → Int → Int → List ty66.den → Option (Int × (List ty33.den) × Int × Int × Int × (List ty66.den))) (p0 : Int) (p1 : List ty33.den) (p2 : Int) (p3 : Int) (p4 : Int) (p5 : List ty66.den) (again : S62 → Option R) (k : ((List ty33.den) × Int × Int × Int × (List ty66.den)) → Option R) : Option S62 → Option R
  | none =>
    cond (Ops.lt B (4) p0)
     (
      ob (c79 p1 p2 p3 p4 p5) fun y0 =>
      k ((Prod.fst y0, Prod.fst (Prod.snd y0), Prod.fst (Prod.snd (Prod.snd y0)), Prod.fst (Prod.snd (Prod.snd (Prod.snd y0))), Prod.snd (Prod.snd (Prod.snd (Prod.snd y0))))))
     (
      ob (c62 (IntKind.wrap IntKind.i64 (p0 + 1)) p1 p2 p3 p4 p5) fun y0 =>
      again (.l0 (Prod.fst y0) (Prod.fst (Prod.snd y0)) (Prod.fst (Prod.snd (Prod.snd y0))) (Prod.fst (Prod.snd (Prod.snd (Prod.snd y0)))) (Prod.snd (Prod.snd (Prod.snd (Prod.snd y0))))))
  | some (.l0 v0_1 v0_2 v0_3 v0_4 v0_5) =>
    cond (Ops.eq B v0_3 (0))
     (
      ob (c80 p0 v0_1 v0_2 v0_3 v0_4 v0_5) fun y0 =>
      cond (Ops.eq B (Prod.fst y0) (0))
       (
        k ((Prod.fst (Prod.snd y0), Prod.fst (Prod.snd (Prod.snd y0)), Prod.fst (Prod.snd (Prod.snd (Prod.snd y0))), Prod.fst (Prod.snd (Prod.snd (Prod.snd (Prod.snd y0)))), Prod.snd (Prod.snd (Prod.snd (Prod.snd (Prod.snd y0)))))))
       (
        cond (Ops.eq B p0 (1))
         (
          ob (c62 p0 (Prod.fst (Prod.snd y0)) (IntKind.wrap IntKind.i64 (Prod.fst (Prod.snd (Prod.snd y0)) + 1)) (Prod.fst (Prod.snd (Prod.snd (Prod.snd y0)))) (Prod.fst (Prod.snd (Prod.snd (Prod.snd (Prod.snd y0))))) (Prod.snd (Prod.snd (Prod.snd (Prod.snd (Prod.snd y0)))))) fun y1 =>
          cond (Ops.lim B (List.length (Prod.snd (Prod.snd (Prod.snd (Prod.snd y1)))) + List.length ((Prod.fst y0, mt (Ty.den (Ty.pair (Ty.int IntKind.i64) (Ty.pair (Ty.int IntKind.i64) (Ty.pair Ty.str Ty.str))))) :: mt (Ty.den (Ty.pair (Ty.int IntKind.i64) (Ty.list (98) (Ty.pair (Ty.int IntKind.i64) (Ty.pair (Ty.int IntKind.i64) (Ty.pair Ty.str Ty.str)))))))) (32))
           (
            again (.l0 (Prod.fst y1) (Prod.fst (Prod.snd y1)) (Prod.fst (Prod.snd (Prod.snd y1))) (Prod.fst (Prod.snd (Prod.snd (Prod.snd y1)))) (Prod.snd (Prod.snd (Prod.snd (Prod.snd y1))) ++ (Prod.fst y0, mt (Ty.den (Ty.pair (Ty.int IntKind.i64) (Ty.pair (Ty.int IntKind.i64) (Ty.pair Ty.str Ty.str))))) :: mt (Ty.den (Ty.pair (Ty.int IntKind.i64) (Ty.list (98) (Ty.pair (Ty.int IntKind.i64) (Ty.pair (Ty.int IntKind.i64) (Ty.pair Ty.str Ty.str)))))))))
           (
            none))
         (
          cond (Ops.eq B p0 (4))
           (
            ob (c62 p0 (Prod.fst (Prod.snd y0)) (IntKind.wrap IntKind.i64 (Prod.fst (Prod.snd (Prod.snd y0)) + 1)) (Prod.fst (Prod.snd (Prod.snd (Prod.snd y0)))) (Prod.fst (Prod.snd (Prod.snd (Prod.snd (Prod.snd y0))))) (Prod.snd (Prod.snd (Prod.snd (Prod.snd (Prod.snd y0)))))) fun y1 =>
            cond (Ops.lim B (List.length (Prod.snd (Prod.snd (Prod.snd (Prod.snd y1)))) + List.length ((Prod.fst y0, mt (Ty.den (Ty.pair (Ty.int IntKind.i64) (Ty.pair (Ty.int IntKind.i64) (Ty.pair Ty.str Ty.str))))) :: mt (Ty.den (Ty.pair (Ty.int IntKind.i64) (Ty.list (98) (Ty.pair (Ty.int IntKind.i64) (Ty.pair (Ty.int IntKind.i64) (Ty.pair Ty.str Ty.str)))))))) (32))
             (
              again (.l0 (Prod.fst y1) (Prod.fst (Prod.snd y1)) (Prod.fst (Prod.snd (Prod.snd y1))) (Prod.fst (Prod.snd (Prod.snd (Prod.snd y1)))) (Prod.snd (Prod.snd (Prod.snd (Prod.snd y1))) ++ (Prod.fst y0, mt (Ty.den (Ty.pair (Ty.int IntKind.i64) (Ty.pair (Ty.int IntKind.i64) (Ty.pair Ty.str Ty.str))))) :: mt (Ty.den (Ty.pair (Ty.int IntKind.i64) (Ty.list (98) (Ty.pair (Ty.int IntKind.i64) (Ty.pair (Ty.int IntKind.i64) (Ty.pair Ty.str Ty.str)))))))))
             (
              none))
           (
            ob (c62 (IntKind.wrap IntKind.i64 (p0 + 1)) (Prod.fst (Prod.snd y0)) (IntKind.wrap IntKind.i64 (Prod.fst (Prod.snd (Prod.snd y0)) + 1)) (Prod.fst (Prod.snd (Prod.snd (Prod.snd y0)))) (Prod.fst (Prod.snd (Prod.snd (Prod.snd (Prod.snd y0))))) (Prod.snd (Prod.snd (Prod.snd (Prod.snd (Prod.snd y0)))))) fun y1 =>
            cond (Ops.lim B (List.length (Prod.snd (Prod.snd (Prod.snd (Prod.snd y1)))) + List.length ((Prod.fst y0, mt (Ty.den (Ty.pair (Ty.int IntKind.i64) (Ty.pair (Ty.int IntKind.i64) (Ty.pair Ty.str Ty.str))))) :: mt (Ty.den (Ty.pair (Ty.int IntKind.i64) (Ty.list (98) (Ty.pair (Ty.int IntKind.i64) (Ty.pair (Ty.int IntKind.i64) (Ty.pair Ty.str Ty.str)))))))) (32))
             (
              again (.l0 (Prod.fst y1) (Prod.fst (Prod.snd y1)) (Prod.fst (Prod.snd (Prod.snd y1))) (Prod.fst (Prod.snd (Prod.snd (Prod.snd y1)))) (Prod.snd (Prod.snd (Prod.snd (Prod.snd y1))) ++ (Prod.fst y0, mt (Ty.den (Ty.pair (Ty.int IntKind.i64) (Ty.pair (Ty.int IntKind.i64) (Ty.pair Ty.str Ty.str))))) :: mt (Ty.den (Ty.pair (Ty.int IntKind.i64) (Ty.list (98) (Ty.pair (Ty.int IntKind.i64) (Ty.pair (Ty.int IntKind.i64) (Ty.pair Ty.str Ty.str)))))))))
             (
              none)))))
     (
      k ((v0_1, v0_2, v0_3, v0_4, v0_5)))
def E62 (p0 : Int) (p1 : List ty33.den) (p2 : Int) (p3 : Int) (p4 : Int) (p5 : List ty66.den) : S62 → List AV × Objs
  | .l0 v0_1 v0_2 v0_3 v0_4 v0_5 => (mk 54 [(0, .c (.ptr 0 0)), (1, .c (.int .i64 p0))], [(0, .box 86 [.list 33 ty33 v0_1, .int .i64 v0_2, .own 1002, .int .i64 v0_3, .int .i64 v0_4]), (1002, .row 66 ty66 v0_5)])
def I62 : S62 → Nat
  | .l0 _ _ _ _ _ => 0
theorem eq62 {R : Type} (B : Ops) (c79 : List ty33.den → Int → Int → Int → List ty66.den → Option ((List ty33.den) × Int × Int × Int × (List ty66.den))) (c62 : Int → List ty33.den → Int → Int → Int → List ty66.den → Option ((List ty33.den) × Int × Int × Int × (List ty66.den))) (c80 : Int → List ty33.den → Int → Int → Int → List ty66.den → Option (Int × (List ty33.den) × Int × Int × Int × (List ty66.den))) (p0 : Int) (p1 : List ty33.den) (p2 : Int) (p3 : Int) (p4 : Int) (p5 : List ty66.den) (k : AV → Objs → Option R) (n : Nat) : afun tau B gl0 X62 (ent 79 (e79 c79) (ent 62 (e62 c62) (ent 80 (e80 c80) (gnil)))) ow Try.f62 [.c (.ptr 0 0), .c (.int .i64 p0)] [(0, .box 86 [.list 33 ty33 p1, .int .i64 p2, .own 1002, .int .i64 p3, .int .i64 p4]), (1002, .row 66 ty66 p5)] k n = T62 B c79 c62 c80 p0 p1 p2 p3 p4 p5 (fun s => aloop tau B gl0 X62 (ent 79 (e79 c79) (ent 62 (e62 c62) (ent 80 (e80 c80) (gnil)))) ow [0] Try.f62 k (I62 s) (E62 p0 p1 p2 p3 p4 p5 s) n) (fun y => k (.tup []) [(0, .box 86 [.list 33 ty33 y.1, .int .i64 y.2.1, .own 1002, .int .i64 y.2.2.1, .int .i64 y.2.2.2.1]), (1002, .row 66 ty66 y.2.2.2.2)]) none := by kernel_rfl
theorem el62 {R : Type} (B : Ops) (c79 : List ty33.den → Int → Int → Int → List ty66.den → Option ((List ty33.den) × Int × Int × Int × (List ty66.den))) (c62 : Int → List ty33.den → Int → Int → Int → List ty66.den → Option ((List ty33.den) × Int × Int × Int × (List ty66.den))) (c80 : Int → List ty33.den → Int → Int → Int → List ty66.den → Option (Int × (List ty33.den) × Int × Int × Int × (List ty66.den))) (p0 : Int) (p1 : List ty33.den) (p2 : Int) (p3 : Int) (p4 : Int) (p5 : List ty66.den) (k : AV → Objs → Option R) (n : Nat) : ∀ s, aloop tau B gl0 X62 (ent 79 (e79 c79) (ent 62 (e62 c62) (ent 80 (e80 c80) (gnil)))) ow [0] Try.f62 k (I62 s) (E62 p0 p1 p2 p3 p4 p5 s) (n + 1) = T62 B c79 c62 c80 p0 p1 p2 p3 p4 p5 (fun s => aloop tau B gl0 X62 (ent 79 (e79 c79) (ent 62 (e62 c62) (ent 80 (e80 c80) (gnil)))) ow [0] Try.f62 k (I62 s) (E62 p0 p1 p2 p3 p4 p5 s) n) (fun y => k (.tup []) [(0, .box 86 [.list 33 ty33 y.1, .int .i64 y.2.1, .own 1002, .int .i64 y.2.2.1, .int .i64 y.2.2.2.1]), (1002, .row 66 ty66 y.2.2.2.2)]) (some s)
  | .l0 v0_1 v0_2 v0_3 v0_4 v0_5 => by kernel_rfl
theorem nt62 {R R' : Type} (B : Ops) (c79 : List ty33.den → Int → Int → Int → List ty66.den → Option ((List ty33.den) × Int × Int × Int × (List ty66.den))) (c62 : Int → List ty33.den → Int → Int → Int → List ty66.den → Option ((List ty33.den) × Int × Int × Int × (List ty66.den))) (c80 : Int → List ty33.den → Int → Int → Int → List ty66.den → Option (Int × (List ty33.den) × Int × Int × Int × (List ty66.den))) (p0 : Int) (p1 : List ty33.den) (p2 : Int) (p3 : Int) (p4 : Int) (p5 : List ty66.den) (again : S62 → Option R) (again' : S62 → Option R') (k0 : ((List ty33.den) × Int × Int × Int × (List ty66.den)) → Option R') (k : R' → Option R) (h : ∀ s, again s = ob (again' s) k) : ∀ s, T62 B c79 c62 c80 p0 p1 p2 p3 p4 p5 again (fun y => ob (k0 y) k) s = ob (T62 B c79 c62 c80 p0 p1 p2 p3 p4 p5 again' k0 s) k
  | none => by unfold T62; repeat' first | exact rfl | exact h _ | apply nat_cond | (apply nat_ob; intro)
  | some (.l0 v0_1 v0_2 v0_3 v0_4 v0_5) => by unfold T62; repeat' first | exact rfl | exact h _ | apply nat_cond | (apply nat_ob; intro)
def R62 (c79 : List ty33.den → Int → Int → Int → List ty66.den → Option ((List ty33.den) × Int × Int × Int × (List ty66.den))) (c62 : Int → List ty33.den → Int → Int → Int → List ty66.den → Option ((List ty33.den) × Int × Int × Int × (List ty66.den))) (c80 : Int → List ty33.den → Int → Int → Int → List ty66.den → Option (Int × (List ty33.den) × Int × Int × Int × (List ty66.den))) (p0 : Int) (p1 : List ty33.den) (p2 : Int) (p3 : Int) (p4 : Int) (p5 : List ty66.den) : Nat → S62 → Option ((List ty33.den) × Int × Int × Int × (List ty66.den))
  | 0, _ => none
  | n + 1, s => T62 Ops.std c79 c62 c80 p0 p1 p2 p3 p4 p5 (R62 c79 c62 c80 p0 p1 p2 p3 p4 p5 n) some (some s)
theorem rr62 {R : Type} (c79 : List ty33.den → Int → Int → Int → List ty66.den → Option ((List ty33.den) × Int × Int × Int × (List ty66.den))) (c62 : Int → List ty33.den → Int → Int → Int → List ty66.den → Option ((List ty33.den) × Int × Int × Int × (List ty66.den))) (c80 : Int → List ty33.den → Int → Int → Int → List ty66.den → Option (Int × (List ty33.den) × Int × Int × Int × (List ty66.den))) (p0 : Int) (p1 : List ty33.den) (p2 : Int) (p3 : Int) (p4 : Int) (p5 : List ty66.den) (k : AV → Objs → Option R) : ∀ (n : Nat) (s : S62), aloop tau Ops.std gl0 X62 (ent 79 (e79 c79) (ent 62 (e62 c62) (ent 80 (e80 c80) (gnil)))) ow [0] Try.f62 k (I62 s) (E62 p0 p1 p2 p3 p4 p5 s) n = ob (R62 c79 c62 c80 p0 p1 p2 p3 p4 p5 n s) (fun y => k (.tup []) [(0, .box 86 [.list 33 ty33 y.1, .int .i64 y.2.1, .own 1002, .int .i64 y.2.2.1, .int .i64 y.2.2.2.1]), (1002, .row 66 ty66 y.2.2.2.2)])
  | 0, s => by cases s <;> rfl
  | n + 1, s => by rw [el62]; exact nt62 Ops.std c79 c62 c80 p0 p1 p2 p3 p4 p5 _ _ some (fun y => k (.tup []) [(0, .box 86 [.list 33 ty33 y.1, .int .i64 y.2.1, .own 1002, .int .i64 y.2.2.1, .int .i64 y.2.2.2.1]), (1002, .row 66 ty66 y.2.2.2.2)]) (rr62 c79 c62 c80 p0 p1 p2 p3 p4 p5 k n) (some s)
def F62 (c79 : List ty33.den → Int → Int → Int → List ty66.den → Option ((List ty33.den) × Int × Int × Int × (List ty66.den))) (c62 : Int → List ty33.den → Int → Int → Int → List ty66.den → Option ((List ty33.den) × Int × Int × Int × (List ty66.den))) (c80 : Int → List ty33.den → Int → Int → Int → List ty66.den → Option (Int × (List ty33.den) × Int × Int × Int × (List ty66.den))) (p0 : Int) (p1 : List ty33.den) (p2 : Int) (p3 : Int) (p4 : Int) (p5 : List ty66.den) : Option ((List ty33.den) × Int × Int × Int × (List ty66.den)) := T62 Ops.std c79 c62 c80 p0 p1 p2 p3 p4 p5 (R62 c79 c62 c80 p0 p1 p2 p3 p4 p5 1000000) some none
theorem fo62 {R : Type} (c79 : List ty33.den → Int → Int → Int → List ty66.den → Option ((List ty33.den) × Int × Int × Int × (List ty66.den))) (c62 : Int → List ty33.den → Int → Int → Int → List ty66.den → Option ((List ty33.den) × Int × Int × Int × (List ty66.den))) (c80 : Int → List ty33.den → Int → Int → Int → List ty66.den → Option (Int × (List ty33.den) × Int × Int × Int × (List ty66.den))) (p0 : Int) (p1 : List ty33.den) (p2 : Int) (p3 : Int) (p4 : Int) (p5 : List ty66.den) (k : AV → Objs → Option R) : afun tau Ops.std gl0 X62 (ent 79 (e79 c79) (ent 62 (e62 c62) (ent 80 (e80 c80) (gnil)))) ow Try.f62 [.c (.ptr 0 0), .c (.int .i64 p0)] [(0, .box 86 [.list 33 ty33 p1, .int .i64 p2, .own 1002, .int .i64 p3, .int .i64 p4]), (1002, .row 66 ty66 p5)] k 1000000 = ob (F62 c79 c62 c80 p0 p1 p2 p3 p4 p5) (fun y => k (.tup []) [(0, .box 86 [.list 33 ty33 y.1, .int .i64 y.2.1, .own 1002, .int .i64 y.2.2.1, .int .i64 y.2.2.2.1]), (1002, .row 66 ty66 y.2.2.2.2)]) := by rw [eq62]; exact nt62 Ops.std c79 c62 c80 p0 p1 p2 p3 p4 p5 _ _ some (fun y => k (.tup []) [(0, .box 86 [.list 33 ty33 y.1, .int .i64 y.2.1, .own 1002, .int .i64 y.2.2.1, .int .i64 y.2.2.2.1]), (1002, .row 66 ty66 y.2.2.2.2)]) (rr62 c79 c62 c80 p0 p1 p2 p3 p4 p5 k 1000000) none
theorem sf62 {c79 : List ty33.den → Int → Int → Int → List ty66.den → Option ((List ty33.den) × Int × Int × Int × (List ty66.den))} {c62 : Int → List ty33.den → Int → Int → Int → List ty66.den → Option ((List ty33.den) × Int × Int × Int × (List ty66.den))} {c80 : Int → List ty33.den → Int → Int → Int → List ty66.den → Option (Int × (List ty33.den) × Int × Int × Int × (List ty66.den))} (h79 : Sp79 c79) (h62 : Sp62 c62) (h80 : Sp80 c80) : Sp62 (F62 c79 c62 c80) := fun p0 p1 p2 p3 p4 p5 y hy => by
  refine spec_of (G := ent 79 (e79 c79) (ent 62 (e62 c62) (ent 80 (e80 c80) (gnil)))) (ent_ok (ek79 h79) (ent_ok (ek62 h62) (ent_ok (ek80 h80) (gnil_ok)))) 1000000 (fn := Try.f62) (by kernel_rfl) (by kernel_rfl) (X := X62) (by kernel_rfl) ?_
  rw [fo62, hy]
  rfl

/-! ### 79: (*lariat/lariatref13.reader).unary -/
def X79 : Aux := ⟨[(1000011, [1, 4, 5, 6, 7, 8, 9, 10, 11, 12, 13, 14, 15, 16, 17, 18, 19, 20, 21, 22, 23, 24, 25, 26, 27, 28, 29, 30, 31, 32, 33, 34, 35, 36, 37, 38, 39, 40, 41, 42, 43, 44, 45, 46, 47, 48, 49, 50, 51, 52, 53, 54, 55, 56, 57, 58, 59, 60, 61, 62, 63, 64, 65, 66, 67, 68, 69, 70, 71, 72, 73, 74, 75, 76, 77, 78, 79, 80, 81, 82, 83, 84, 85, 86, 87, 88, 89, 90, 91, 92, 93, 94, 95, 96, 97, 98, 99, 100, 101, 102, 103, 104, 105, 106, 107, 108, 109, 110, 111, 112, 113, 114, 115, 116, 117, 118, 119, 120, 121, 122, 123, 124, 125, 126, 127, 128, 129, 130, 131, 132, 133, 134, 135, 136, 137, 138, 139, 140, 141, 142, 143, 144, 145, 146, 147, 148, 149, 150, 151, 152, 153, 154, 155, 156, 157, 158, 159, 160, 161, 162, 163, 164, 165, 166, 167, 168, 169, 170, 171, 172, 173, 174, 175, 176, 177, 178, 179, 180, 181, 182, 183, 184, 185, 186, 187, 188, 189, 190, 191, 192, 193, 194, 195, 196, 197]), (1000021, [1, 2, 3, 4, 5, 6, 7, 8, 9, 10, 11, 12, 13, 14, 15, 16, 17, 18, 19, 20, 21, 22, 23, 24, 25, 26, 27, 28, 29, 30, 31, 32, 33, 34, 35, 36, 37, 38, 39, 40, 41, 42, 43, 44, 45, 46, 47, 48, 49, 50, 51, 52, 53, 54, 55, 56, 57, 58, 59, 60, 61, 62, 63, 64, 65, 66, 67, 68, 69, 70, 71, 72, 73, 74, 75, 76, 77, 78, 79, 80, 81, 82, 83, 84, 85, 86, 87, 88, 89, 90, 91, 92, 93, 94, 95, 96, 97, 98, 99, 100, 101, 102, 103, 104, 105, 106, 107, 108, 109, 110, 111, 112, 113, 114, 115, 116, 117, 118, 119, 120, 121, 122, 123, 124, 125, 126, 127, 128, 129, 130, 131, 132, 133, 134, 135, 136, 137, 138, 139, 140, 141, 142, 143, 144, 145, 146, 147, 148, 149, 150, 151, 152, 153, 154, 155, 156, 157, 158, 159, 160, 161, 162, 163, 164, 165, 166, 167, 168, 169, 170, 171, 172, 173, 174, 175, 176, 177, 178, 179, 180, 181, 182, 183, 184, 185, 186, 187, 188, 189, 190, 191, 192, 193, 194, 195, 196, 197]), (1000024, [1, 2, 3, 4, 5, 6, 7, 8, 9, 10, 11, 12, 13, 14, 15, 16, 17, 18, 19, 20, 21, 22, 23, 24, 25, 26, 27, 28, 29, 30, 31, 32, 33, 34, 35, 36, 37, 38, 39, 40, 41, 42, 43, 44, 45, 46, 47, 48, 49, 50, 51, 52, 53, 54, 55, 56, 57, 58, 59, 60, 61, 62, 63, 64, 65, 66, 67, 68, 69, 70, 71, 72, 73, 74, 75, 76, 77, 78, 79, 80, 81, 82, 83, 84, 85, 86, 87, 88, 89, 90, 91, 92, 93, 94, 95, 96, 97, 98, 99, 100, 101, 102, 103, 104, 105, 106, 107, 108, 109, 110, 111, 112, 113, 114, 115, 116, 117, 118, 119, 120, 121, 122, 123, 124, 125, 126, 127, 128, 129, 130, 131, 132, 133, 134, 135, 136, 137, 138, 139, 140, 141, 142, 143, 144, 145, 146, 147, 148, 149, 150, 151, 152, 153, 154, 155, 156, 157, 158, 159, 160, 161, 162, 163, 164, 165, 166, 167, 168, 169, 170, 171, 172, 173, 174, 175, 176, 177, 178, 179, 180, 181, 182, 183, 184, 185, 186, 187, 188, 189, 190, 191, 192, 193, 194, 195, 196, 197]), (1000028, [1, 2, 3, 5, 6, 7, 8, 9, 10, 11, 12, 13, 14, 15, 16, 17, 18, 19, 20, 21, 22, 23, 24, 25, 26, 27, 28, 29, 30, 31, 32, 33, 34, 35, 36, 37, 38, 39, 40, 41, 42, 43, 44, 45, 46, 47, 48, 49, 50, 51, 52, 53, 54, 55, 56, 57, 58, 59, 60, 61, 62, 63, 64, 65, 66, 67, 68, 69, 70, 71, 72, 73, 74, 75, 76, 77, 78, 79, 80, 81, 82, 83, 84, 85, 86, 87, 88, 89, 90, 91, 92, 93, 94, 95, 96, 97, 98, 99, 100, 101, 102, 103, 104, 105, 106, 107, 108, 109, 110, 111, 112, 113, 114, 115, 116, 117, 118, 119, 120, 121, 122, 123, 124, 125, 126, 127, 128, 129, 130, 131, 132, 133, 134, 135, 136, 137, 138, 139, 140, 141, 142, 143, 144, 145, 146, 147, 148, 149, 150, 151, 152, 153, 154, 155, 156, 157, 158, 159, 160, 161, 162, 163, 164, 165, 166, 167, 168, 169, 170, 171, 172, 173, 174, 175, 176, 177, 178, 179, 180, 181, 182, 183, 184, 185, 186, 187, 188, 189, 190, 191, 192, 193, 194, 195, 196, 197])], [(1, .lin [0, 1, 2, 3, 4, 5, 6, 7, 8, 9, 10, 11]), (28, .lin [0, 1, 2, 3, 4, 5, 6, 7, 8, 9, 10, 11, 12, 13, 14, 15, 16])]⟩
inductive S79 where
  | l1011 (v1011_0 : Int) (v1011_1 : List ty33.den) (v1011_2 : Int) (v1011_3 : Int) (v1011_4 : Int) (v1011_5 : Int) (v1011_6 : List UInt8) (v1011_7 : Int) (v1011_8 : Int) (v1011_9 : List ty66.den)
  | l1021 (v1021_0 : List ty33.den) (v1021_1 : Int) (v1021_2 : Int) (v1021_3 : Int) (v1021_4 : List ty66.den)
  | l1024 (v1024_0 : List ty33.den) (v1024_1 : Int) (v1024_2 : Int) (v1024_3 : Int) (v1024_4 : List ty66.den)
  | l1028 (v1028_0 : Int) (v1028_1 : List ty33.den) (v1028_2 : Int) (v1028_3 : Int) (v1028_4 : Int) (v1028_5 : List ty66.den)
def T79 {R : Type} (B : Ops) (c88 : List UInt8 → List ty33.den → Int → Int → Int → List ty66.den → Option (Bool × (List ty33.den) × Int × Int × Int × (List ty66.den))) (c79 : List ty33.den → Int → Int → Int → List ty66.den → Option ((List ty33.den) × Int × Int × Int × (List ty66.den))) (c62 : Int → List ty33.den → Int → Int → Int → List ty66.den → Option ((List ty33.den) × Int × Int × Int × (List ty66.den))) (c89 : List UInt8 → List ty33.den → Int → Int → Int → List ty66.den → Option ((List ty33.den) × Int × Int × Int × (List ty66.den))) (c90 : List ty33.den → Int → Option (Int × Int × (List ty98.den))) (c63 : Int → Int → List ty33.den → Int → Int → Int → List ty66.den → Option ((List ty33.den) × Int × Int × Int × (List ty66.den))) (p0 : List ty33.den) (p1 : Int) (p2 : Int) (p3 : Int) (p4 : List ty66.den) (again : S79 → Option R) (k : ((List ty33.den) × Int × Int × Int × (List ty66.den)) → Option R) : Option S79 → Option R
  | none =>
    cond (!Ops.eq B p2 (0))
     (
      k ((p0, p1, p2, p3, p4)))
     (
      cond (Ops.inb B p1 (List.length p0))
       (
        ob (c88 (Array.toList (ByteArray.data { data := List.toArray (33 :: mt UInt8) })) p0 p1 p2 p3 p4) fun y0 =>
        cond (Prod.fst y0)
         (
          again (.l1011 4 (Prod.fst (Prod.snd y0)) (Prod.fst (Prod.snd (Prod.snd y0))) (Prod.fst (Prod.snd (Prod.snd (Prod.snd y0)))) (Prod.fst (Prod.snd (Prod.snd (Prod.snd (Prod.snd y0))))) (Prod.fst (List.getD p0 (Int.toNat p1) (Ty.dflt ty33))) (Prod.fst (Prod.snd (List.getD p0 (Int.toNat p1) (Ty.dflt ty33)))) (Prod.fst (Prod.snd (Prod.snd (List.getD p0 (Int.toNat p1) (Ty.dflt ty33))))) (Prod.snd (Prod.snd (Prod.snd (List.getD p0 (Int.toNat p1) (Ty.dflt ty33))))) (Prod.snd (Prod.snd (Prod.snd (Prod.snd (Prod.snd y0)))))))
         (
          cond (Ops.eq B (Prod.fst (List.getD p0 (Int.toNat p1) (Ty.dflt ty33))) (3))
           (
            cond (Prod.fst (Prod.snd (List.getD p0 (Int.toNat p1) (Ty.dflt ty33))) == Array.toList (ByteArray.data { data := List.toArray (88 :: mt UInt8) }))
             (
              again (.l1011 8 (Prod.fst (Prod.snd y0)) (Prod.fst (Prod.snd (Prod.snd y0))) (Prod.fst (Prod.snd (Prod.snd (Prod.snd y0)))) (Prod.fst (Prod.snd (Prod.snd (Prod.snd (Prod.snd y0))))) (Prod.fst (List.getD p0 (Int.toNat p1) (Ty.dflt ty33))) (Prod.fst (Prod.snd (List.getD p0 (Int.toNat p1) (Ty.dflt ty33)))) (Prod.fst (Prod.snd (Prod.snd (List.getD p0 (Int.toNat p1) (Ty.dflt ty33))))) (Prod.snd (Prod.snd (Prod.snd (List.getD p0 (Int.toNat p1) (Ty.dflt ty33))))) (Prod.snd (Prod.snd (Prod.snd (Prod.snd (Prod.snd y0)))))))
             (
              cond (Ops.eq B (Prod.fst (List.getD p0 (Int.toNat p1) (Ty.dflt ty33))) (3))
               (
                cond (Prod.fst (Prod.snd (List.getD p0 (Int.toNat p1) (Ty.dflt ty33))) == Array.toList (ByteArray.data { data := List.toArray (70 :: mt UInt8) }))
                 (
                  again (.l1011 11 (Prod.fst (Prod.snd y0)) (Prod.fst (Prod.snd (Prod.snd y0))) (Prod.fst (Prod.snd (Prod.snd (Prod.snd y0)))) (Prod.fst (Prod.snd (Prod.snd (Prod.snd (Prod.snd y0))))) (Prod.fst (List.getD p0 (Int.toNat p1) (Ty.dflt ty33))) (Prod.fst (Prod.snd (List.getD p0 (Int.toNat p1) (Ty.dflt ty33)))) (Prod.fst (Prod.snd (Prod.snd (List.getD p0 (Int.toNat p1) (Ty.dflt ty33))))) (Prod.snd (Prod.snd (Prod.snd (List.getD p0 (Int.toNat p1) (Ty.dflt ty33))))) (Prod.snd (Prod.snd (Prod.snd (Prod.snd (Prod.snd y0)))))))
                 (
                  cond (Ops.eq B (Prod.fst (List.getD p0 (Int.toNat p1) (Ty.dflt ty33))) (3))
                   (
                    cond (Prod.fst (Prod.snd (List.getD p0 (Int.toNat p1) (Ty.dflt ty33))) == Array.toList (ByteArray.data { data := List.toArray (71 :: mt UInt8) }))
                     (
                      again (.l1011 12 (Prod.fst (Prod.snd y0)) (Prod.fst (Prod.snd (Prod.snd y0))) (Prod.fst (Prod.snd (Prod.snd (Prod.snd y0)))) (Prod.fst (Prod.snd (Prod.snd (Prod.snd (Prod.snd y0))))) (Prod.fst (List.getD p0 (Int.toNat p1) (Ty.dflt ty33))) (Prod.fst (Prod.snd (List.getD p0 (Int.toNat p1) (Ty.dflt ty33)))) (Prod.fst (Prod.snd (Prod.snd (List.getD p0 (Int.toNat p1) (Ty.dflt ty33))))) (Prod.snd (Prod.snd (Prod.snd (List.getD p0 (Int.toNat p1) (Ty.dflt ty33))))) (Prod.snd (Prod.snd (Prod.snd (Prod.snd (Prod.snd y0)))))))
                     (
                      again (.l1011 0 (Prod.fst (Prod.snd y0)) (Prod.fst (Prod.snd (Prod.snd y0))) (Prod.fst (Prod.snd (Prod.snd (Prod.snd y0)))) (Prod.fst (Prod.snd (Prod.snd (Prod.snd (Prod.snd y0))))) (Prod.fst (List.getD p0 (Int.toNat p1) (Ty.dflt ty33))) (Prod.fst (Prod.snd (List.getD p0 (Int.toNat p1) (Ty.dflt ty33)))) (Prod.fst (Prod.snd (Prod.snd (List.getD p0 (Int.toNat p1) (Ty.dflt ty33))))) (Prod.snd (Prod.snd (Prod.snd (List.getD p0 (Int.toNat p1) (Ty.dflt ty33))))) (Prod.snd (Prod.snd (Prod.snd (Prod.snd (Prod.snd y0))))))))
                   (
                    again (.l1011 0 (Prod.fst (Prod.snd y0)) (Prod.fst (Prod.snd (Prod.snd y0))) (Prod.fst (Prod.snd (Prod.snd (Prod.snd y0)))) (Prod.fst (Prod.snd (Prod.snd (Prod.snd (Prod.snd y0))))) (Prod.fst (List.getD p0 (Int.toNat p1) (Ty.dflt ty33))) (Prod.fst (Prod.snd (List.getD p0 (Int.toNat p1) (Ty.dflt ty33)))) (Prod.fst (Prod.snd (Prod.snd (List.getD p0 (Int.toNat p1) (Ty.dflt ty33))))) (Prod.snd (Prod.snd (Prod.snd (List.getD p0 (Int.toNat p1) (Ty.dflt ty33))))) (Prod.snd (Prod.snd (Prod.snd (Prod.snd (Prod.snd y0)))))))))
               (
                cond (Ops.eq B (Prod.fst (List.getD p0 (Int.toNat p1) (Ty.dflt ty33))) (3))
                 (
                  cond (Prod.fst (Prod.snd (List.getD p0 (Int.toNat p1) (Ty.dflt ty33))) == Array.toList (ByteArray.data { data := List.toArray (71 :: mt UInt8) }))
                   (
                    again (.l1011 12 (Prod.fst (Prod.snd y0)) (Prod.fst (Prod.snd (Prod.snd y0))) (Prod.fst (Prod.snd (Prod.snd (Prod.snd y0)))) (Prod.fst (Prod.snd (Prod.snd (Prod.snd (Prod.snd y0))))) (Prod.fst (List.getD p0 (Int.toNat p1) (Ty.dflt ty33))) (Prod.fst (Prod.snd (List.getD p0 (Int.toNat p1) (Ty.dflt ty33)))) (Prod.fst (Prod.snd (Prod.snd (List.getD p0 (Int.toNat p1) (Ty.dflt ty33))))) (Prod.snd (Prod.snd (Prod.snd (List.getD p0 (Int.toNat p1) (Ty.dflt ty33))))) (Prod.snd (Prod.snd (Prod.snd (Prod.snd (Prod.snd y0)))))))
                   (
                    again (.l1011 0 (Prod.fst (Prod.snd y0)) (Prod.fst (Prod.snd (Prod.snd y0))) (Prod.fst (Prod.snd (Prod.snd (Prod.snd y0)))) (Prod.fst (Prod.snd (Prod.snd (Prod.snd (Prod.snd y0))))) (Prod.fst (List.getD p0 (Int.toNat p1) (Ty.dflt ty33))) (Prod.fst (Prod.snd (List.getD p0 (Int.toNat p1) (Ty.dflt ty33)))) (Prod.fst (Prod.snd (Prod.snd (List.getD p0 (Int.toNat p1) (Ty.dflt ty33))))) (Prod.snd (Prod.snd (Prod.snd (List.getD p0 (Int.toNat p1) (Ty.dflt ty33))))) (Prod.snd (Prod.snd (Prod.snd (Prod.snd (Prod.snd y0))))))))
                 (
                  again (.l1011 0 (Prod.fst (Prod.snd y0)) (Prod.fst (Prod.snd (Prod.snd y0))) (Prod.fst (Prod.snd (Prod.snd (Prod.snd y0)))) (Prod.fst (Prod.snd (Prod.snd (Prod.snd (Prod.snd y0))))) (Prod.fst (List.getD p0 (Int.toNat p1) (Ty.dflt ty33))) (Prod.fst (Prod.snd (List.getD p0 (Int.toNat p1) (Ty.dflt ty33)))) (Prod.fst (Prod.snd (Prod.snd (List.getD p0 (Int.toNat p1) (Ty.dflt ty33))))) (Prod.snd (Prod.snd (Prod.snd (List.getD p0 (Int.toNat p1) (Ty.dflt ty33))))) (Prod.snd (Prod.snd (Prod.snd (Prod.snd (Prod.snd y0))))))))))
           (
            cond (Ops.eq B (Prod.fst (List.getD p0 (Int.toNat p1) (Ty.dflt ty33))) (3))
             (
              cond (Prod.fst (Prod.snd (List.getD p0 (Int.toNat p1) (Ty.dflt ty33))) == Array.toList (ByteArray.data { data := List.toArray (70 :: mt UInt8) }))
               (
                again (.l1011 11 (Prod.fst (Prod.snd y0)) (Prod.fst (Prod.snd (Prod.snd y0))) (Prod.fst (Prod.snd (Prod.snd (Prod.snd y0)))) (Prod.fst (Prod.snd (Prod.snd (Prod.snd (Prod.snd y0))))) (Prod.fst (List.getD p0 (Int.toNat p1) (Ty.dflt ty33))) (Prod.fst (Prod.snd (List.getD p0 (Int.toNat p1) (Ty.dflt ty33)))) (Prod.fst (Prod.snd (Prod.snd (List.getD p0 (Int.toNat p1) (Ty.dflt ty33))))) (Prod.snd (Prod.snd (Prod.snd (List.getD p0 (Int.toNat p1) (Ty.dflt ty33))))) (Prod.snd (Prod.snd (Prod.snd (Prod.snd (Prod.snd y0)))))))
               (
                cond (Ops.eq B (Prod.fst (List.getD p0 (Int.toNat p1) (Ty.dflt ty33))) (3))
                 (
                  cond (Prod.fst (Prod.snd (List.getD p0 (Int.toNat p1) (Ty.dflt ty33))) == Array.toList (ByteArray.data { data := List.toArray (71 :: mt UInt8) }))
                   (
                    again (.l1011 12 (Prod.fst (Prod.snd y0)) (Prod.fst (Prod.snd (Prod.snd y0))) (Prod.fst (Prod.snd (Prod.snd (Prod.snd y0)))) (Prod.fst (Prod.snd (Prod.snd (Prod.snd (Prod.snd y0))))) (Prod.fst (List.getD p0 (Int.toNat p1) (Ty.dflt ty33))) (Prod.fst (Prod.snd (List.getD p0 (Int.toNat p1) (Ty.dflt ty33)))) (Prod.fst (Prod.snd (Prod.snd (List.getD p0 (Int.toNat p1) (Ty.dflt ty33))))) (Prod.snd (Prod.snd (Prod.snd (List.getD p0 (Int.toNat p1) (Ty.dflt ty33))))) (Prod.snd (Prod.snd (Prod.snd (Prod.snd (Prod.snd y0)))))))
                   (
                    again (.l1011 0 (Prod.fst (Prod.snd y0)) (Prod.fst (Prod.snd (Prod.snd y0))) (Prod.fst (Prod.snd (Prod.snd (Prod.snd y0)))) (Prod.fst (Prod.snd (Prod.snd (Prod.snd (Prod.snd y0))))) (Prod.fst (List.getD p0 (Int.toNat p1) (Ty.dflt ty33))) (Prod.fst (Prod.snd (List.getD p0 (Int.toNat p1) (Ty.dflt ty33)))) (Prod.fst (Prod.snd (Prod.snd (List.getD p0 (Int.toNat p1) (Ty.dflt ty33))))) (Prod.snd (Prod.snd (Prod.snd (List.getD p0 (Int.toNat p1) (Ty.dflt ty33))))) (Prod.snd (Prod.snd (Prod.snd (Prod.snd (Prod.snd y0))))))))
                 (
                  again (.l1011 0 (Prod.fst (Prod.snd y0)) (Prod.fst (Prod.snd (Prod.snd y0))) (Prod.fst (Prod.snd (Prod.snd (Prod.snd y0)))) (Prod.fst (Prod.snd (Prod.snd (Prod.snd (Prod.snd y0))))) (Prod.fst (List.getD p0 (Int.toNat p1) (Ty.dflt ty33))) (Prod.fst (Prod.snd (List.getD p0 (Int.toNat p1) (Ty.dflt ty33)))) (Prod.fst (Prod.snd (Prod.snd (List.getD p0 (Int.toNat p1) (Ty.dflt ty33))))) (Prod.snd (Prod.snd (Prod.snd (List.getD p0 (Int.toNat p1) (Ty.dflt ty33))))) (Prod.snd (Prod.snd (Prod.snd (Prod.snd (Prod.snd y0)))))))))
             (
              cond (Ops.eq B (Prod.fst (List.getD p0 (Int.toNat p1) (Ty.dflt ty33))) (3))
               (
                cond (Prod.fst (Prod.snd (List.getD p0 (Int.toNat p1) (Ty.dflt ty33))) == Array.toList (ByteArray.data { data := List.toArray (71 :: mt UInt8) }))
                 (
                  again (.l1011 12 (Prod.fst (Prod.snd y0)) (Prod.fst (Prod.snd (Prod.snd y0))) (Prod.fst (Prod.snd (Prod.snd (Prod.snd y0)))) (Prod.fst (Prod.snd (Prod.snd (Prod.snd (Prod.snd y0))))) (Prod.fst (List.getD p0 (Int.toNat p1) (Ty.dflt ty33))) (Prod.fst (Prod.snd (List.getD p0 (Int.toNat p1) (Ty.dflt ty33)))) (Prod.fst (Prod.snd (Prod.snd (List.getD p0 (Int.toNat p1) (Ty.dflt ty33))))) (Prod.snd (Prod.snd (Prod.snd (List.getD p0 (Int.toNat p1) (Ty.dflt ty33))))) (Prod.snd (Prod.snd (Prod.snd (Prod.snd (Prod.snd y0)))))))
                 (
                  again (.l1011 0 (Prod.fst (Prod.snd y0)) (Prod.fst (Prod.snd (Prod.snd y0))) (Prod.fst (Prod.snd (Prod.snd (Prod.snd y0)))) (Prod.fst (Prod.snd (Prod.snd (Prod.snd (Prod.snd y0))))) (Prod.fst (List.getD p0 (Int.toNat p1) (Ty.dflt ty33))) (Prod.fst (Prod.snd (List.getD p0 (Int.toNat p1) (Ty.dflt ty33)))) (Prod.fst (Prod.snd (Prod.snd (List.getD p0 (Int.toNat p1) (Ty.dflt ty33))))) (Prod.snd (Prod.snd (Prod.snd (List.getD p0 (Int.toNat p1) (Ty.dflt ty33))))) (Prod.snd (Prod.snd (Prod.snd (Prod.snd (Prod.snd y0))))))))
               (
                again (.l1011 0 (Prod.fst (Prod.snd y0)) (Prod.fst (Prod.snd (Prod.snd y0))) (Prod.fst (Prod.snd (Prod.snd (Prod.snd y0)))) (Prod.fst (Prod.snd (Prod.snd (Prod.snd (Prod.snd y0))))) (Prod.fst (List.getD p0 (Int.toNat p1) (Ty.dflt ty33))) (Prod.fst (Prod.snd (List.getD p0 (Int.toNat p1) (Ty.dflt ty33)))) (Prod.fst (Prod.snd (Prod.snd (List.getD p0 (Int.toNat p1) (Ty.dflt ty33))))) (Prod.snd (Prod.snd (Prod.snd (List.getD p0 (Int.toNat p1) (Ty.dflt ty33))))) (Prod.snd (Prod.snd (Prod.snd (Prod.snd (Prod.snd y0)))))))))))
       (
        none))
  | some (.l1011 v1011_0 v1011_1 v1011_2 v1011_3 v1011_4 v1011_5 v1011_6 v1011_7 v1011_8 v1011_9) =>
    cond (!Ops.eq B v1011_0 (0))
     (
      ob (c79 v1011_1 (IntKind.wrap IntKind.i64 (v1011_2 + 1)) v1011_3 v1011_4 v1011_9) fun y0 =>
      cond (Ops.lim B (List.length (Prod.snd (Prod.snd (Prod.snd (Prod.snd y0)))) + List.length ((v1011_0, mt (Ty.den (Ty.pair (Ty.int IntKind.i64) (Ty.pair (Ty.int IntKind.i64) (Ty.pair Ty.str Ty.str))))) :: mt (Ty.den (Ty.pair (Ty.int IntKind.i64) (Ty.list (98) (Ty.pair (Ty.int IntKind.i64) (Ty.pair (Ty.int IntKind.i64) (Ty.pair Ty.str Ty.str)))))))) (32))
       (
        k ((Prod.fst y0, Prod.fst (Prod.snd y0), Prod.fst (Prod.snd (Prod.snd y0)), Prod.fst (Prod.snd (Prod.snd (Prod.snd y0))), Prod.snd (Prod.snd (Prod.snd (Prod.snd y0))) ++ (v1011_0, mt (Ty.den (Ty.pair (Ty.int IntKind.i64) (Ty.pair (Ty.int IntKind.i64) (Ty.pair Ty.str Ty.str))))) :: mt (Ty.den (Ty.pair (Ty.int IntKind.i64) (Ty.list (98) (Ty.pair (Ty.int IntKind.i64) (Ty.pair (Ty.int IntKind.i64) (Ty.pair Ty.str Ty.str)))))))))
       (
        none))
     (
      cond (Ops.eq B v1011_5 (2))
       (
        cond (v1011_6 == Array.toList (ByteArray.data { data := List.toArray (116 :: 114 :: 117 :: 101 :: mt UInt8) }))
         (
          cond (Ops.lim B (List.length v1011_9 + List.length ((1, mt (Ty.den (Ty.pair (Ty.int IntKind.i64) (Ty.pair (Ty.int IntKind.i64) (Ty.pair Ty.str Ty.str))))) :: mt (Ty.den (Ty.pair (Ty.int IntKind.i64) (Ty.list (98) (Ty.pair (Ty.int IntKind.i64) (Ty.pair (Ty.int IntKind.i64) (Ty.pair Ty.str Ty.str)))))))) (32))
           (
            k ((v1011_1, IntKind.wrap IntKind.i64 (v1011_2 + 1), v1011_3, v1011_4, v1011_9 ++ (1, mt (Ty.den (Ty.pair (Ty.int IntKind.i64) (Ty.pair (Ty.int IntKind.i64) (Ty.pair Ty.str Ty.str))))) :: mt (Ty.den (Ty.pair (Ty.int IntKind.i64) (Ty.list (98) (Ty.pair (Ty.int IntKind.i64) (Ty.pair (Ty.int IntKind.i64) (Ty.pair Ty.str Ty.str)))))))))
           (
            none))
         (
          cond (Ops.eq B v1011_5 (2))
           (
            cond (v1011_6 == Array.toList (ByteArray.data { data := List.toArray (102 :: 97 :: 108 :: 115 :: 101 :: mt UInt8) }))
             (
              again (.l1021 v1011_1 (IntKind.wrap IntKind.i64 (v1011_2 + 1)) v1011_3 v1011_4 v1011_9))
             (
              ob (c88 (Array.toList (ByteArray.data { data := List.toArray (40 :: mt UInt8) })) v1011_1 v1011_2 v1011_3 v1011_4 v1011_9) fun y0 =>
              cond (Prod.fst y0)
               (
                again (.l1024 (Prod.fst (Prod.snd y0)) (IntKind.wrap IntKind.i64 (Prod.fst (Prod.snd (Prod.snd y0)) + 1)) (Prod.fst (Prod.snd (Prod.snd (Prod.snd y0)))) (Prod.fst (Prod.snd (Prod.snd (Prod.snd (Prod.snd y0))))) (Prod.snd (Prod.snd (Prod.snd (Prod.snd (Prod.snd y0)))))))
               (
                ob (c88 (Array.toList (ByteArray.data { data := List.toArray (91 :: mt UInt8) })) (Prod.fst (Prod.snd y0)) (Prod.fst (Prod.snd (Prod.snd y0))) (Prod.fst (Prod.snd (Prod.snd (Prod.snd y0)))) (Prod.fst (Prod.snd (Prod.snd (Prod.snd (Prod.snd y0))))) (Prod.snd (Prod.snd (Prod.snd (Prod.snd (Prod.snd y0)))))) fun y1 =>
                cond (Prod.fst y1)
                 (
                  again (.l1028 (Prod.fst (Prod.snd (Prod.snd y1))) (Prod.fst (Prod.snd y1)) (Prod.fst (Prod.snd (Prod.snd y1))) (Prod.fst (Prod.snd (Prod.snd (Prod.snd y1)))) (Prod.fst (Prod.snd (Prod.snd (Prod.snd (Prod.snd y1))))) (Prod.snd (Prod.snd (Prod.snd (Prod.snd (Prod.snd y1)))))))
                 (
                  ob (c63 (2) (Prod.fst (Prod.snd (Prod.snd y1))) (Prod.fst (Prod.snd y1)) (Prod.fst (Prod.snd (Prod.snd y1))) (Prod.fst (Prod.snd (Prod.snd (Prod.snd y1)))) (Prod.fst (Prod.snd (Prod.snd (Prod.snd (Prod.snd y1))))) (Prod.snd (Prod.snd (Prod.snd (Prod.snd (Prod.snd y1)))))) fun y2 =>
                  k ((Prod.fst y2, Prod.fst (Prod.snd y2), Prod.fst (Prod.snd (Prod.snd y2)), Prod.fst (Prod.snd (Prod.snd (Prod.snd y2))), Prod.snd (Prod.snd (Prod.snd (Prod.snd y2)))))))))
           (
            ob (c88 (Array.toList (ByteArray.data { data := List.toArray (40 :: mt UInt8) })) v1011_1 v1011_2 v1011_3 v1011_4 v1011_9) fun y0 =>
            cond (Prod.fst y0)
             (
              again (.l1024 (Prod.fst (Prod.snd y0)) (IntKind.wrap IntKind.i64 (Prod.fst (Prod.snd (Prod.snd y0)) + 1)) (Prod.fst (Prod.snd (Prod.snd (Prod.snd y0)))) (Prod.fst (Prod.snd (Prod.snd (Prod.snd (Prod.snd y0))))) (Prod.snd (Prod.snd (Prod.snd (Prod.snd (Prod.snd y0)))))))
             (
              ob (c88 (Array.toList (ByteArray.data { data := List.toArray (91 :: mt UInt8) })) (Prod.fst (Prod.snd y0)) (Prod.fst (Prod.snd (Prod.snd y0))) (Prod.fst (Prod.snd (Prod.snd (Prod.snd y0)))) (Prod.fst (Prod.snd (Prod.snd (Prod.snd (Prod.snd y0))))) (Prod.snd (Prod.snd (Prod.snd (Prod.snd (Prod.snd y0)))))) fun y1 =>
              cond (Prod.fst y1)
               (
                again (.l1028 (Prod.fst (Prod.snd (Prod.snd y1))) (Prod.fst (Prod.snd y1)) (Prod.fst (Prod.snd (Prod.snd y1))) (Prod.fst (Prod.snd (Prod.snd (Prod.snd y1)))) (Prod.fst (Prod.snd (Prod.snd (Prod.snd (Prod.snd y1))))) (Prod.snd (Prod.snd (Prod.snd (Prod.snd (Prod.snd y1)))))))
               (
                ob (c63 (2) (Prod.fst (Prod.snd (Prod.snd y1))) (Prod.fst (Prod.snd y1)) (Prod.fst (Prod.snd (Prod.snd y1))) (Prod.fst (Prod.snd (Prod.snd (Prod.snd y1)))) (Prod.fst (Prod.snd (Prod.snd (Prod.snd (Prod.snd y1))))) (Prod.snd (Prod.snd (Prod.snd (Prod.snd (Prod.snd y1)))))) fun y2 =>
                k ((Prod.fst y2, Prod.fst (Prod.snd y2), Prod.fst (Prod.snd (Prod.snd y2)), Prod.fst (Prod.snd (Prod.snd (Prod.snd y2))), Prod.snd (Prod.snd (Prod.snd (Prod.snd y2))))))))))
       (
        cond (Ops.eq B v1011_5 (2))
         (
          cond (v1011_6 == Array.toList (ByteArray.data { data := List.toArray (102 :: 97 :: 108 :: 115 :: 101 :: mt UInt8) }))
           (
            again (.l1021 v1011_1 (IntKind.wrap IntKind.i64 (v1011_2 + 1)) v1011_3 v1011_4 v1011_9))
           (
            ob (c88 (Array.toList (ByteArray.data { data := List.toArray (40 :: mt UInt8) })) v1011_1 v1011_2 v1011_3 v1011_4 v1011_9) fun y0 =>
            cond (Prod.fst y0)
             (
              again (.l1024 (Prod.fst (Prod.snd y0)) (IntKind.wrap IntKind.i64 (Prod.fst (Prod.snd (Prod.snd y0)) + 1)) (Prod.fst (Prod.snd (Prod.snd (Prod.snd y0)))) (Prod.fst (Prod.snd (Prod.snd (Prod.snd (Prod.snd y0))))) (Prod.snd (Prod.snd (Prod.snd (Prod.snd (Prod.snd y0)))))))
             (
              ob (c88 (Array.toList (ByteArray.data { data := List.toArray (91 :: mt UInt8) })) (Prod.fst (Prod.snd y0)) (Prod.fst (Prod.snd (Prod.snd y0))) (Prod.fst (Prod.snd (Prod.snd (Prod.snd y0)))) (Prod.fst (Prod.snd (Prod.snd (Prod.snd (Prod.snd y0))))) (Prod.snd (Prod.snd (Prod.snd (Prod.snd (Prod.snd y0)))))) fun y1 =>
              cond (Prod.fst y1)
               (
                again (.l1028 (Prod.fst (Prod.snd (Prod.snd y1))) (Prod.fst (Prod.snd y1)) (Prod.fst (Prod.snd (Prod.snd y1))) (Prod.fst (Prod.snd (Prod.snd (Prod.snd y1)))) (Prod.fst (Prod.snd (Prod.snd (Prod.snd (Prod.snd y1))))) (Prod.snd (Prod.snd (Prod.snd (Prod.snd (Prod.snd y1)))))))
               (
                ob (c63 (2) (Prod.fst (Prod.snd (Prod.snd y1))) (Prod.fst (Prod.snd y1)) (Prod.fst (Prod.snd (Prod.snd y1))) (Prod.fst (Prod.snd (Prod.snd (Prod.snd y1)))) (Prod.fst (Prod.snd (Prod.snd (Prod.snd (Prod.snd y1))))) (Prod.snd (Prod.snd (Prod.snd (Prod.snd (Prod.snd y1)))))) fun y2 =>
                k ((Prod.fst y2, Prod.fst (Prod.snd y2), Prod.fst (Prod.snd (Prod.snd y2)), Prod.fst (Prod.snd (Prod.snd (Prod.snd y2))), Prod.snd (Prod.snd (Prod.snd (Prod.snd y2)))))))))
         (
          ob (c88 (Array.toList (ByteArray.data { data := List.toArray (40 :: mt UInt8) })) v1011_1 v1011_2 v1011_3 v1011_4 v1011_9) fun y0 =>
          cond (Prod.fst y0)
           (
            again (.l1024 (Prod.fst (Prod.snd y0)) (IntKind.wrap IntKind.i64 (Prod.fst (Prod.snd (Prod.snd y0)) + 1)) (Prod.fst (Prod.snd (Prod.snd (Prod.snd y0)))) (Prod.fst (Prod.snd (Prod.snd (Prod.snd (Prod.snd y0))))) (Prod.snd (Prod.snd (Prod.snd (Prod.snd (Prod.snd y0)))))))
           (
            ob (c88 (Array.toList (ByteArray.data { data := List.toArray (91 :: mt UInt8) })) (Prod.fst (Prod.snd y0)) (Prod.fst (Prod.snd (Prod.snd y0))) (Prod.fst (Prod.snd (Prod.snd (Prod.snd y0)))) (Prod.fst (Prod.snd (Prod.snd (Prod.snd (Prod.snd y0))))) (Prod.snd (Prod.snd (Prod.snd (Prod.snd (Prod.snd y0)))))) fun y1 =>
            cond (Prod.fst y1)
             (
              again (.l1028 (Prod.fst (Prod.snd (Prod.snd y1))) (Prod.fst (Prod.snd y1)) (Prod.fst (Prod.snd (Prod.snd y1))) (Prod.fst (Prod.snd (Prod.snd (Prod.snd y1)))) (Prod.fst (Prod.snd (Prod.snd (Prod.snd (Prod.snd y1))))) (Prod.snd (Prod.snd (Prod.snd (Prod.snd (Prod.snd y1)))))))
             (
              ob (c63 (2) (Prod.fst (Prod.snd (Prod.snd y1))) (Prod.fst (Prod.snd y1)) (Prod.fst (Prod.snd (Prod.snd y1))) (Prod.fst (Prod.snd (Prod.snd (Prod.snd y1)))) (Prod.fst (Prod.snd (Prod.snd (Prod.snd (Prod.snd y1))))) (Prod.snd (Prod.snd (Prod.snd (Prod.snd (Prod.snd y1)))))) fun y2 =>
              k ((Prod.fst y2, Prod.fst (Prod.snd y2), Prod.fst (Prod.snd (Prod.snd y2)), Prod.fst (Prod.snd (Prod.snd (Prod.snd y2))), Prod.snd (Prod.snd (Prod.snd (Prod.snd y2))))))))))
  | some (.l1021 v1021_0 v1021_1 v1021_2 v1021_3 v1021_4) =>
    cond (Ops.lim B (List.length v1021_4 + List.length ((2, mt (Ty.den (Ty.pair (Ty.int IntKind.i64) (Ty.pair (Ty.int IntKind.i64) (Ty.pair Ty.str Ty.str))))) :: mt (Ty.den (Ty.pair (Ty.int IntKind.i64) (Ty.list (98) (Ty.pair (Ty.int IntKind.i64) (Ty.pair (Ty.int IntKind.i64) (Ty.pair Ty.str Ty.str)))))))) (32))
     (
      k ((v1021_0, v1021_1, v1021_2, v1021_3, v1021_4 ++ (2, mt (Ty.den (Ty.pair (Ty.int IntKind.i64) (Ty.pair (Ty.int IntKind.i64) (Ty.pair Ty.str Ty.str))))) :: mt (Ty.den (Ty.pair (Ty.int IntKind.i64) (Ty.list (98) (Ty.pair (Ty.int IntKind.i64) (Ty.pair (Ty.int IntKind.i64) (Ty.pair Ty.str Ty.str)))))))))
     (
      none)
  | some (.l1024 v1024_0 v1024_1 v1024_2 v1024_3 v1024_4) =>
    ob (c62 (1) v1024_0 v1024_1 v1024_2 v1024_3 v1024_4) fun y0 =>
    ob (c89 (Array.toList (ByteArray.data { data := List.toArray (41 :: mt UInt8) })) (Prod.fst y0) (Prod.fst (Prod.snd y0)) (Prod.fst (Prod.snd (Prod.snd y0))) (Prod.fst (Prod.snd (Prod.snd (Prod.snd y0)))) (Prod.snd (Prod.snd (Prod.snd (Prod.snd y0))))) fun y1 =>
    k ((Prod.fst y1, Prod.fst (Prod.snd y1), Prod.fst (Prod.snd (Prod.snd y1)), Prod.fst (Prod.snd (Prod.snd (Prod.snd y1))), Prod.snd (Prod.snd (Prod.snd (Prod.snd y1)))))
  | some (.l1028 v1028_0 v1028_1 v1028_2 v1028_3 v1028_4 v1028_5) =>
    ob (c90 v1028_1 (IntKind.wrap IntKind.i64 (v1028_2 + 1))) fun y0 =>
    cond (Ops.eq B (Prod.fst (Prod.snd y0)) (13))
     (
      ob (c63 (Prod.fst (Prod.snd y0)) v1028_0 v1028_1 v1028_2 v1028_3 v1028_4 v1028_5) fun y1 =>
      k ((Prod.fst y1, Prod.fst (Prod.snd y1), Prod.fst (Prod.snd (Prod.snd y1)), Prod.fst (Prod.snd (Prod.snd (Prod.snd y1))), Prod.snd (Prod.snd (Prod.snd (Prod.snd y1))))))
     (
      cond (Ops.eq B (Prod.fst (Prod.snd y0)) (2))
       (
        ob (c63 (Prod.fst (Prod.snd y0)) (Prod.fst y0) v1028_1 v1028_2 v1028_3 v1028_4 v1028_5) fun y1 =>
        k ((Prod.fst y1, Prod.fst (Prod.snd y1), Prod.fst (Prod.snd (Prod.snd y1)), Prod.fst (Prod.snd (Prod.snd (Prod.snd y1))), Prod.snd (Prod.snd (Prod.snd (Prod.snd y1))))))
       (
        cond (Ops.lim B (List.length v1028_5 + List.length ((3, Prod.snd (Prod.snd y0)) :: mt (Ty.den (Ty.pair (Ty.int IntKind.i64) (Ty.list (98) (Ty.pair (Ty.int IntKind.i64) (Ty.pair (Ty.int IntKind.i64) (Ty.pair Ty.str Ty.str)))))))) (32))
         (
          ob (c89 (Array.toList (ByteArray.data { data := List.toArray (93 :: mt UInt8) })) v1028_1 (Prod.fst y0) v1028_3 v1028_4 (v1028_5 ++ (3, Prod.snd (Prod.snd y0)) :: mt (Ty.den (Ty.pair (Ty.int IntKind.i64) (Ty.list (98) (Ty.pair (Ty.int IntKind.i64) (Ty.pair (Ty.int IntKind.i64) (Ty.pair Ty.str Ty.str)))))))) fun y1 =>
          k ((Prod.fst y1, Prod.fst (Prod.snd y1), Prod.fst (Prod.snd (Prod.snd y1)), Prod.fst (Prod.snd (Prod.snd (Prod.snd y1))), Prod.snd (Prod.snd (Prod.snd (Prod.snd y1))))))
         (
          none)))
def E79 (p0 : List ty33.den) (p1 : Int) (p2 : Int) (p3 : Int) (p4 : List ty66.den) : S79 → List AV × Objs
  | .l1011 v1011_0 v1011_1 v1011_2 v1011_3 v1011_4 v1011_5 v1011_6 v1011_7 v1011_8 v1011_9 => (mk 198 [(0, .c (.ptr 0 0)), (2, .c (.ptr 2 0)), (3, .c (.int .i64 v1011_0))], [(0, .box 86 [.list 33 ty33 v1011_1, .int .i64 v1011_2, .own 1002, .int .i64 v1011_3, .int .i64 v1011_4]), (2, .box 33 [.int .i64 v1011_5, .str v1011_6, .int .i64 v1011_7, .int .i64 v1011_8]), (1002, .row 66 ty66 v1011_9)])
  | .l1021 v1021_0 v1021_1 v1021_2 v1021_3 v1021_4 => (mk 198 [(0, .c (.ptr 0 0))], [(0, .box 86 [.list 33 ty33 v1021_0, .int .i64 v1021_1, .own 1002, .int .i64 v1021_2, .int .i64 v1021_3]), (1002, .row 66 ty66 v1021_4)])
  | .l1024 v1024_0 v1024_1 v1024_2 v1024_3 v1024_4 => (mk 198 [(0, .c (.ptr 0 0))], [(0, .box 86 [.list 33 ty33 v1024_0, .int .i64 v1024_1, .own 1002, .int .i64 v1024_2, .int .i64 v1024_3]), (1002, .row 66 ty66 v1024_4)])
  | .l1028 v1028_0 v1028_1 v1028_2 v1028_3 v1028_4 v1028_5 => (mk 198 [(0, .c (.ptr 0 0)), (4, .c (.int .i64 v1028_0))], [(0, .box 86 [.list 33 ty33 v1028_1, .int .i64 v1028_2, .own 1002, .int .i64 v1028_3, .int .i64 v1028_4]), (1002, .row 66 ty66 v1028_5)])
def I79 : S79 → Nat
  | .l1011 _ _ _ _ _ _ _ _ _ _ => 1011
  | .l1021 _ _ _ _ _ => 1021
  | .l1024 _ _ _ _ _ => 1024
  | .l1028 _ _ _ _ _ _ => 1028
theorem eq79 {R : Type} (B : Ops) (c88 : List UInt8 → List ty33.den → Int → Int → Int → List ty66.den → Option (Bool × (List ty33.den) × Int × Int × Int × (List ty66.den))) (c79 : List ty33.den → Int → Int → Int → List ty66.den → Option ((List ty33.den) × Int × Int × Int × (List ty66.den))) (c62 : Int → List ty33.den → Int → Int → Int → List ty66.den → Option ((List ty33.den) × Int × Int × Int × (List ty66.den))) (c89 : List UInt8 → List ty33.den → Int → Int → Int → List ty66.den → Option ((List ty33.den) × Int × Int × Int × (List ty66.den))) (c90 : List ty33.den → Int → Option (Int × Int × (List ty98.den))) (c63 : Int → Int → List ty33.den → Int → Int → Int → List ty66.den → Option ((List ty33.den) × Int × Int × Int × (List ty66.den))) (p0 : List ty33.den) (p1 : Int) (p2 : Int) (p3 : Int) (p4 : List ty66.den) (k : AV → Objs → Option R) (n : Nat) : afun tau B gl0 X79 (ent 88 (e88 c88) (ent 79 (e79 c79) (ent 62 (e62 c62) (ent 89 (e89 c89) (ent 90 (e90 c90) (ent 63 (e63 c63) (gnil))))))) ow Try.f79 [.c (.ptr 0 0)] [(0, .box 86 [.list 33 ty33 p0, .int .i64 p1, .own 1002, .int .i64 p2, .int .i64 p3]), (1002, .row 66 ty66 p4)] k n = T79 B c88 c79 c62 c89 c90 c63 p0 p1 p2 p3 p4 (fun s => aloop tau B gl0 X79 (ent 88 (e88 c88) (ent 79 (e79 c79) (ent 62 (e62 c62) (ent 89 (e89 c89) (ent 90 (e90 c90) (ent 63 (e63 c63) (gnil))))))) ow [0] Try.f79 k (I79 s) (E79 p0 p1 p2 p3 p4 s) n) (fun y => k (.tup []) [(0, .box 86 [.list 33 ty33 y.1, .int .i64 y.2.1, .own 1002, .int .i64 y.2.2.1, .int .i64 y.2.2.2.1]), (1002, .row 66 ty66 y.2.2.2.2)]) none := by kernel_rfl
theorem el79 {R : Type} (B : Ops) (c88 : List UInt8 → List ty33.den → Int → Int → Int → List ty66.den → Option (Bool × (List ty33.den) × Int × Int × Int × (List ty66.den))) (c79 : List ty33.den → Int → Int → Int → List ty66.den → Option ((List ty33.den) × Int × Int × Int × (List ty66.den))) (c62 : Int → List ty33.den → Int → Int → Int → List ty66.den → Option ((List ty33.den) × Int × Int × Int × (List ty66.den))) (c89 : List UInt8 → List ty33.den → Int → Int → Int → List ty66.den → Option ((List ty33.den) × Int × Int × Int × (List ty66.den))) (c90 : List ty33.den → Int → Option (Int × Int × (List ty98.den))) (c63 : Int → Int → List ty33.den → Int → Int → Int → List ty66.den → Option ((List ty33.den) × Int × Int × Int × (List ty66.den))) (p0 : List ty33.den) (p1 : Int) (p2 : Int) (p3 : Int) (p4 : List ty66.den) (k : AV → Objs → Option R) (n : Nat) : ∀ s, aloop tau B gl0 X79 (ent 88 (e88 c88) (ent 79 (e79 c79) (ent 62 (e62 c62) (ent 89 (e89 c89) (ent 90 (e90 c90) (ent 63 (e63 c63) (gnil))))))) ow [0] Try.f79 k (I79 s) (E79 p0 p1 p2 p3 p4 s) (n + 1) = T79 B c88 c79 c62 c89 c90 c63 p0 p1 p2 p3 p4 (fun s => aloop tau B gl0 X79 (ent 88 (e88 c88) (ent 79 (e79 c79) (ent 62 (e62 c62) (ent 89 (e89 c89) (ent 90 (e90 c90) (ent 63 (e63 c63) (gnil))))))) ow [0] Try.f79 k (I79 s) (E79 p0 p1 p2 p3 p4 s) n) (fun y => k (.tup []) [(0, .box 86 [.list 33 ty33 y.1, .int .i64 y.2.1, .own 1002, .int .i64 y.2.2.1, .int .i64 y.2.2.2.1]), (1002, .row 66 ty66 y.2.2.2.2)]) (some s)
  | .l1011 v1011_0 v1011_1 v1011_2 v1011_3 v1011_4 v1011_5 v1011_6 v1011_7 v1011_8 v1011_9 => by kernel_rfl
  | .l1021 v1021_0 v1021_1 v1021_2 v1021_3 v1021_4 => by kernel_rfl
  | .l1024 v1024_0 v1024_1 v1024_2 v1024_3 v1024_4 => by kernel_rfl
  | .l1028 v1028_0 v1028_1 v1028_2 v1028_3 v1028_4 v1028_5 => by kernel_rfl
theorem nt79 {R R' : Type} (B : Ops) (c88 : List UInt8 → List ty33.den → Int → Int → Int → List ty66.den → Option (Bool × (List ty33.den) × Int × Int × Int × (List ty66.den))) (c79 : List ty33.den → Int → Int → Int → List ty66.den → Option ((List ty33.den) × Int × Int × Int × (List ty66.den))) (c62 : Int → List ty33.den → Int → Int → Int → List ty66.den → Option ((List ty33.den) × Int × Int × Int × (List ty66.den))) (c89 : List UInt8 → List ty33.den → Int → Int → Int → List ty66.den → Option ((List ty33.den) × Int × Int × Int × (List ty66.den))) (c90 : List ty33.den → Int → Option (Int × Int × (List ty98.den))) (c63 : Int → Int → List ty33.den → Int → Int → Int → List ty66.den → Option ((List ty33.den) × Int × Int × Int × (List ty66.den))) (p0 : List ty33.den) (p1 : Int) (p2 : Int) (p3 : Int) (p4 : List ty66.den) (again : S79 → Option R) (again' : S79 → Option R') (k0 : ((List ty33.den) × Int × Int × Int × (List ty66.den)) → Option R') (k : R' → Option R) (h : ∀ s, again s = ob (again' s) k) : ∀ s, T79 B c88 c79 c62 c89 c90 c63 p0 p1 p2 p3 p4 again (fun y => ob (k0 y) k) s = ob (T79 B c88 c79 c62 c89 c90 c63 p0 p1 p2 p3 p4 again' k0 s) k
  | none => by unfold T79; repeat' first | exact rfl | exact h _ | apply nat_cond | (apply nat_ob; intro)
  | some (.l1011 v1011_0 v1011_1 v1011_2 v1011_3 v1011_4 v1011_5 v1011_6 v1011_7 v1011_8 v1011_9) => by unfold T79; repeat' first | exact rfl | exact h _ | apply nat_cond | (apply nat_ob; intro)
  | some (.l1021 v1021_0 v1021_1 v1021_2 v1021_3 v1021_4) => by unfold T79; repeat' first | exact rfl | exact h _ | apply nat_cond | (apply nat_ob; intro)
  | some (.l1024 v1024_0 v1024_1 v1024_2 v1024_3 v1024_4) => by unfold T79; repeat' first | exact rfl | exact h _ | apply nat_cond | (apply nat_ob; intro)
  | some (.l1028 v1028_0 v1028_1 v1028_2 v1028_3 v1028_4 v1028_5) => by unfold T79; repeat' first | exact rfl | exact h _ | apply nat_cond | (apply nat_ob; intro)
def R79 (c88 : List UInt8 → List ty33.den → Int → Int → Int → List ty66.den → Option (Bool × (List ty33.den) × Int × Int × Int × (List ty66.den))) (c79 : List ty33.den → Int → Int → Int → List ty66.den → Option ((List ty33.den) × Int × Int × Int × (List ty66.den))) (c62 : Int → List ty33.den → Int → Int → Int → List ty66.den → Option ((List ty33.den) × Int × Int × Int × (List ty66.den))) (c89 : List UInt8 → List ty33.den → Int → Int → Int → List ty66.den → Option ((List ty33.den) × Int × Int × Int × (List ty66.den))) (c90 : List ty33.den → Int → Option (Int × Int × (List ty98.den))) (c63 : Int → Int → List ty33.den → Int → Int → Int → List ty66.den → Option ((List ty33.den) × Int × Int × Int × (List ty66.den))) (p0 : List ty33.den) (p1 : Int) (p2 : Int) (p3 : Int) (p4 : List ty66.den) : Nat → S79 → Option ((List ty33.den) × Int × Int × Int × (List ty66.den))
  | 0, _ => none
  | n + 1, s => T79 Ops.std c88 c79 c62 c89 c90 c63 p0 p1 p2 p3 p4 (R79 c88 c79 c62 c89 c90 c63 p0 p1 p2 p3 p4 n) some (some s)
theorem rr79 {R : Type} (c88 : List UInt8 → List ty33.den → Int → Int → Int → List ty66.den → Option (Bool × (List ty33.den) × Int × Int × Int × (List ty66.den))) (c79 : List ty33.den → Int → Int → Int → List ty66.den → Option ((List ty33.den) × Int × Int × Int × (List ty66.den))) (c62 : Int → List ty33.den → Int → Int → Int → List ty66.den → Option ((List ty33.den) × Int × Int × Int × (List ty66.den))) (c89 : List UInt8 → List ty33.den → Int → Int → Int → List ty66.den → Option ((List ty33.den) × Int × Int × Int × (List ty66.den))) (c90 : List ty33.den → Int → Option (Int × Int × (List ty98.den))) (c63 : Int → Int → List ty33.den → Int → Int → Int → List ty66.den → Option ((List ty33.den) × Int × Int × Int × (List ty66.den))) (p0 : List ty33.den) (p1 : Int) (p2 : Int) (p3 : Int) (p4 : List ty66.den) (k : AV → Objs → Option R) : ∀ (n : Nat) (s : S79), aloop tau Ops.std gl0 X79 (ent 88 (e88 c88) (ent 79 (e79 c79) (ent 62 (e62 c62) (ent 89 (e89 c89) (ent 90 (e90 c90) (ent 63 (e63 c63) (gnil))))))) ow [0] Try.f79 k (I79 s) (E79 p0 p1 p2 p3 p4 s) n = ob (R79 c88 c79 c62 c89 c90 c63 p0 p1 p2 p3 p4 n s) (fun y => k (.tup []) [(0, .box 86 [.list 33 ty33 y.1, .int .i64 y.2.1, .own 1002, .int .i64 y.2.2.1, .int .i64 y.2.2.2.1]), (1002, .row 66 ty66 y.2.2.2.2)])
  | 0, s => by cases s <;> rfl
  | n + 1, s => by rw [el79]; exact nt79 Ops.std c88 c79 c62 c89 c90 c63 p0 p1 p2 p3 p4 _ _ some (fun y => k (.tup []) [(0, .box 86 [.list 33 ty33 y.1, .int .i64 y.2.1, .own 1002, .int .i64 y.2.2.1, .int .i64 y.2.2.2.1]), (1002, .row 66 ty66 y.2.2.2.2)]) (rr79 c88 c79 c62 c89 c90 c63 p0 p1 p2 p3 p4 k n) (some s)
def F79 (c88 : List UInt8 → List ty33.den → Int → Int → Int → List ty66.den → Option (Bool × (List ty33.den) × Int × Int × Int × (List ty66.den))) (c79 : List ty33.den → Int → Int → Int → List ty66.den → Option ((List ty33.den) × Int × Int × Int × (List ty66.den))) (c62 : Int → List ty33.den → Int → Int → Int → List ty66.den → Option ((List ty33.den) × Int × Int × Int × (List ty66.den))) (c89 : List UInt8 → List ty33.den → Int → Int → Int → List ty66.den → Option ((List ty33.den) × Int × Int × Int × (List ty66.den))) (c90 : List ty33.den → Int → Option (Int × Int × (List ty98.den))) (c63 : Int → Int → List ty33.den → Int → Int → Int → List ty66.den → Option ((List ty33.den) × Int × Int × Int × (List ty66.den))) (p0 : List ty33.den) (p1 : Int) (p2 : Int) (p3 : Int) (p4 : List ty66.den) : Option ((List ty33.den) × Int × Int × Int × (List ty66.den)) := T79 Ops.std c88 c79 c62 c89 c90 c63 p0 p1 p2 p3 p4 (R79 c88 c79 c62 c89 c90 c63 p0 p1 p2 p3 p4 1000000) some none
theorem fo79 {R : Type} (c88 : List UInt8 → List ty33.den → Int → Int → Int → List ty66.den → Option (Bool × (List ty33.den) × Int × Int × Int × (List ty66.den))) (c79 : List ty33.den → Int → Int → Int → List ty66.den → Option ((List ty33.den) × Int × Int × Int × (List ty66.den))) (c62 : Int → List ty33.den → Int → Int → Int → List ty66.den → Option ((List ty33.den) × Int × Int × Int × (List ty66.den))) (c89 : List UInt8 → List ty33.den → Int → Int → Int → List ty66.den → Option ((List ty33.den) × Int × Int × Int × (List ty66.den))) (c90 : List ty33.den → Int → Option (Int × Int × (List ty98.den))) (c63 : Int → Int → List ty33.den → Int → Int → Int → List ty66.den → Option ((List ty33.den) × Int × Int × Int × (List ty66.den))) (p0 : List ty33.den) (p1 : Int) (p2 : Int) (p3 : Int) (p4 : List ty66.den) (k : AV → Objs → Option R) : afun tau Ops.std gl0 X79 (ent 88 (e88 c88) (ent 79 (e79 c79) (ent 62 (e62 c62) (ent 89 (e89 c89) (ent 90 (e90 c90) (ent 63 (e63 c63) (gnil))))))) ow Try.f79 [.c (.ptr 0 0)] [(0, .box 86 [.list 33 ty33 p0, .int .i64 p1, .own 1002, .int .i64 p2, .int .i64 p3]), (1002, .row 66 ty66 p4)] k 1000000 = ob (F79 c88 c79 c62 c89 c90 c63 p0 p1 p2 p3 p4) (fun y => k (.tup []) [(0, .box 86 [.list 33 ty33 y.1, .int .i64 y.2.1, .own 1002, .int .i64 y.2.2.1, .int .i64 y.2.2.2.1]), (1002, .row 66 ty66 y.2.2.2.2)]) := by rw [eq79]; exact nt79 Ops.std c88 c79 c62 c89 c90 c63 p0 p1 p2 p3 p4 _ _ some (fun y => k (.tup []) [(0, .box 86 [.list 33 ty33 y.1, .int .i64 y.2.1, .own 1002, .int .i64 y.2.2.1, .int .i64 y.2.2.2.1]), (1002, .row 66 ty66 y.2.2.2.2)]) (rr79 c88 c79 c62 c89 c90 c63 p0 p1 p2 p3 p4 k 1000000) none
theorem sf79 {c88 : List UInt8 → List ty33.den → Int → Int → Int → List ty66.den → Option (Bool × (List ty33.den) × Int × Int × Int × (List ty66.den))} {c79 : List ty33.den → Int → Int → Int → List ty66.den → Option ((List ty33.den) × Int × Int × Int × (List ty66.den))} {c62 : Int → List ty33.den → Int → Int → Int → List ty66.den → Option ((List ty33.den) × Int × Int × Int × (List ty66.den))} {c89 : List UInt8 → List ty33.den → Int → Int → Int → List ty66.den → Option ((List ty33.den) × Int × Int × Int × (List ty66.den))} {c90 : List ty33.den → Int → Option (Int × Int × (List ty98.den))} {c63 : Int → Int → List ty33.den → Int → Int → Int → List ty66.den → Option ((List ty33.den) × Int × Int × Int × (List ty66.den))} (h88 : Sp88 c88) (h79 : Sp79 c79) (h62 : Sp62 c62) (h89 : Sp89 c89) (h90 : Sp90 c90) (h63 : Sp63 c63) : Sp79 (F79 c88 c79 c62 c89 c90 c63) := fun p0 p1 p2 p3 p4 y hy => by
  refine spec_of (G := ent 88 (e88 c88) (ent 79 (e79 c79) (ent 62 (e62 c62) (ent 89 (e89 c89) (ent 90 (e90 c90) (ent 63 (e63 c63) (gnil))))))) (ent_ok (ek88 h88) (ent_ok (ek79 h79) (ent_ok (ek62 h62) (ent_ok (ek89 h89) (ent_ok (ek90 h90) (ent_ok (ek63 h63) (gnil_ok))))))) 1000000 (fn := Try.f79) (by kernel_rfl) (by kernel_rfl) (X := X79) (by kernel_rfl) ?_
  rw [fo79, hy]
  rfl
noncomputable def Rec62 : Nat → (Int → List ty33.den → Int → Int → Int → List ty66.den → Option ((List ty33.den) × Int × Int × Int × (List ty66.den))) × (List ty33.den → Int → Int → Int → List ty66.den → Option ((List ty33.den) × Int × Int × Int × (List ty66.den)))
  | 0 => (fun _ _ _ _ _ _ => none, fun _ _ _ _ _ => none)
  | d + 1 => (F62 (Rec62 d).2 (Rec62 d).1 M80, F79 M88 (Rec62 d).2 (Rec62 d).1 M89 M90 M63)
theorem rec62 : ∀ d, Sp62 (Rec62 d).1 ∧ Sp79 (Rec62 d).2
  | 0 => ⟨(fun p0 p1 p2 p3 p4 p5 y (h : (none : Option ((List ty33.den) × Int × Int × Int × (List ty66.den))) = some y) => by cases h), (fun p0 p1 p2 p3 p4 y (h : (none : Option ((List ty33.den) × Int × Int × Int × (List ty66.den))) = some y) => by cases h)⟩
  | d + 1 => ⟨sf62 (rec62 d).2 (rec62 d).1 sm80, sf79 sm88 (rec62 d).2 (rec62 d).1 sm89 sm90 sm63⟩
noncomputable def M62 : Int → List ty33.den → Int → Int → Int → List ty66.den → Option ((List ty33.den) × Int × Int × Int × (List ty66.den)) := (Rec62 1000000).1
theorem sm62 : Sp62 M62 := (rec62 1000000).1
noncomputable def M79 : List ty33.den → Int → Int → Int → List ty66.den → Option ((List ty33.den) × Int × Int × Int × (List ty66.den)) := (Rec62 1000000).2
theorem sm79 : Sp79 M79 := (rec62 1000000).2
end Go.Proofs.Ytfdlgmbbflmbgaa.Av
