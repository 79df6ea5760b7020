/- Twins of functions, printed by gen.py. Conditions: none. -/
import Derived.Test.YtfdlgmbbflmbgaaDoorLS1
import Derived.KernelRfl
set_option linter.unusedVariables false
set_option maxRecDepth 100000
set_option maxHeartbeats 8000000
namespace Go.Proofs.YtfdlgmbbflmbgaaDoor.Av
open Go

/-! ### 4: lariat/lariatlaw7.LexTells -/
def X4 : Aux := ⟨[(9, [0, 1, 2, 3, 4, 5, 6, 7, 8, 9, 11, 12, 14, 15, 16, 17, 18, 19, 20, 21, 22, 23, 24, 25, 26, 27, 28, 29, 30, 31, 32, 33, 34, 35, 36, 37, 38, 39, 40, 41, 42, 43, 44, 45, 46, 47, 48, 49, 50, 51, 52, 53, 54, 55, 56, 57, 58, 61, 62, 63, 64, 65, 66, 67, 68, 69, 70, 71, 72, 73])], [(11, .lin [0, 1, 2, 3, 4, 5, 6, 7, 8])]⟩
inductive S4 where
  | l0 (v0_0 : Int) (v0_1 : Int) (v0_2 : List ty30.den) (v0_3 : List ty30.den)
def T4 {R : Type} (B : Ops) (c6 : Option (Bool)) (c7 : List ty3.den → List ty3.den → List UInt8 → Int → Option ((List UInt8))) (c8 : List UInt8 → Option (Int × Int × (List ty30.den))) (c9 : List UInt8 → Option (Int × Int × (List ty30.den))) (c10 : List UInt8 → Option (Bool)) (c11 : List UInt8 → Option (Bool)) (p0 : List ty3.den) (p1 : List ty3.den) (p2 : List UInt8) (p3 : Int) (again : S4 → Option R) (k : (Bool) → Option R) : Option S4 → Option R
  | none =>
    ob (c6) fun y0 =>
    cond (!y0)
     (
      k false)
     (
      ob (c7 p0 p1 p2 p3) fun y1 =>
      ob (c8 y1) fun y2 =>
      ob (c9 y1) fun y3 =>
      cond (!Ops.eq B (Prod.fst y2) (Prod.fst y3))
       (
        k false)
       (
        cond (!Ops.eq B (Prod.fst (Prod.snd y2)) (Prod.fst (Prod.snd y3)))
         (
          k false)
         (
          cond (!Ops.eq B (Nat.cast (List.length (Prod.snd (Prod.snd y2)))) (Nat.cast (List.length (Prod.snd (Prod.snd y3)))))
           (
            k false)
           (
            ob (c10 y1) fun y4 =>
            ob (c11 y1) fun y5 =>
            cond (!y4 == y5)
             (
              k false)
             (
              again (.l0 (Nat.cast (List.length (Prod.snd (Prod.snd y2)))) 0 (Prod.snd (Prod.snd y2)) (Prod.snd (Prod.snd y3))))))))
  | some (.l0 v0_0 v0_1 v0_2 v0_3) =>
    cond (Ops.lt B v0_1 v0_0)
     (
      cond (Ops.inb B v0_1 (List.length v0_2))
       (
        cond (Ops.inb B v0_1 (List.length v0_3))
         (
          cond (!(Ops.eq B (Prod.fst (List.getD v0_2 (Int.toNat v0_1) (Ty.dflt ty30))) (Prod.fst (List.getD v0_3 (Int.toNat v0_1) (Ty.dflt ty30))) && (Prod.fst (Prod.snd (List.getD v0_2 (Int.toNat v0_1) (Ty.dflt ty30))) == Prod.fst (Prod.snd (List.getD v0_3 (Int.toNat v0_1) (Ty.dflt ty30))) && (Ops.eq B (Prod.fst (Prod.snd (Prod.snd (List.getD v0_2 (Int.toNat v0_1) (Ty.dflt ty30))))) (Prod.fst (Prod.snd (Prod.snd (List.getD v0_3 (Int.toNat v0_1) (Ty.dflt ty30))))) && (Ops.eq B (Prod.snd (Prod.snd (Prod.snd (List.getD v0_2 (Int.toNat v0_1) (Ty.dflt ty30))))) (Prod.snd (Prod.snd (Prod.snd (List.getD v0_3 (Int.toNat v0_1) (Ty.dflt ty30))))) && true)))))
           (
            k false)
           (
            again (.l0 v0_0 (IntKind.wrap IntKind.i64 (v0_1 + 1)) v0_2 v0_3)))
         (
          none))
       (
        none))
     (
      ob (c6) fun y0 =>
      k y0)
def E4 (p0 : List ty3.den) (p1 : List ty3.den) (p2 : List UInt8) (p3 : Int) : S4 → List AV × Objs
  | .l0 v0_0 v0_1 v0_2 v0_3 => (mk 74 [(10, .c (.own 10)), (13, .c (.own 13)), (59, .c (.int .i64 v0_0)), (60, .c (.int .i64 v0_1))], [(10, .row 30 ty30 v0_2), (13, .row 30 ty30 v0_3)])
def I4 : S4 → Nat
  | .l0 _ _ _ _ => 0
theorem eq4 {R : Type} (B : Ops) (c6 : Option (Bool)) (c7 : List ty3.den → List ty3.den → List UInt8 → Int → Option ((List UInt8))) (c8 : List UInt8 → Option (Int × Int × (List ty30.den))) (c9 : List UInt8 → Option (Int × Int × (List ty30.den))) (c10 : List UInt8 → Option (Bool)) (c11 : List UInt8 → Option (Bool)) (p0 : List ty3.den) (p1 : List ty3.den) (p2 : List UInt8) (p3 : Int) (k : AV → Objs → Option R) (n : Nat) : afun tau B gl0 X4 (ent 6 (e6 c6) (ent 7 (e7 c7) (ent 8 (e8 c8) (ent 9 (e9 c9) (ent 10 (e10 c10) (ent 11 (e11 c11) (gnil))))))) ow Tryd.f4 [.c (.list 3 ty3 p0), .c (.list 3 ty3 p1), .c (.str p2), .c (.int .i64 p3)] [] k n = T4 B c6 c7 c8 c9 c10 c11 p0 p1 p2 p3 (fun s => aloop tau B gl0 X4 (ent 6 (e6 c6) (ent 7 (e7 c7) (ent 8 (e8 c8) (ent 9 (e9 c9) (ent 10 (e10 c10) (ent 11 (e11 c11) (gnil))))))) ow [] Tryd.f4 k (I4 s) (E4 p0 p1 p2 p3 s) n) (fun y => k (.c (.bool y)) []) none := by kernel_rfl
theorem el4 {R : Type} (B : Ops) (c6 : Option (Bool)) (c7 : List ty3.den → List ty3.den → List UInt8 → Int → Option ((List UInt8))) (c8 : List UInt8 → Option (Int × Int × (List ty30.den))) (c9 : List UInt8 → Option (Int × Int × (List ty30.den))) (c10 : List UInt8 → Option (Bool)) (c11 : List UInt8 → Option (Bool)) (p0 : List ty3.den) (p1 : List ty3.den) (p2 : List UInt8) (p3 : Int) (k : AV → Objs → Option R) (n : Nat) : ∀ s, aloop tau B gl0 X4 (ent 6 (e6 c6) (ent 7 (e7 c7) (ent 8 (e8 c8) (ent 9 (e9 c9) (ent 10 (e10 c10) (ent 11 (e11 c11) (gnil))))))) ow [] Tryd.f4 k (I4 s) (E4 p0 p1 p2 p3 s) (n + 1) = T4 B c6 c7 c8 c9 c10 c11 p0 p1 p2 p3 (fun s => aloop tau B gl0 X4 (ent 6 (e6 c6) (ent 7 (e7 c7) (ent 8 (e8 c8) (ent 9 (e9 c9) (ent 10 (e10 c10) (ent 11 (e11 c11) (gnil))))))) ow [] Tryd.f4 k (I4 s) (E4 p0 p1 p2 p3 s) n) (fun y => k (.c (.bool y)) []) (some s)
  | .l0 v0_0 v0_1 v0_2 v0_3 => by kernel_rfl
theorem nt4 {R R' : Type} (B : Ops) (c6 : Option (Bool)) (c7 : List ty3.den → List ty3.den → List UInt8 → Int → Option ((List UInt8))) (c8 : List UInt8 → Option (Int × Int × (List ty30.den))) (c9 : List UInt8 → Option (Int × Int × (List ty30.den))) (c10 : List UInt8 → Option (Bool)) (c11 : List UInt8 → Option (Bool)) (p0 : List ty3.den) (p1 : List ty3.den) (p2 : List UInt8) (p3 : Int) (again : S4 → Option R) (again' : S4 → Option R') (k0 : (Bool) → Option R') (k : R' → Option R) (h : ∀ s, again s = ob (again' s) k) : ∀ s, T4 B c6 c7 c8 c9 c10 c11 p0 p1 p2 p3 again (fun y => ob (k0 y) k) s = ob (T4 B c6 c7 c8 c9 c10 c11 p0 p1 p2 p3 again' k0 s) k
  | none => by unfold T4; repeat' first | exact rfl | exact h _ | apply nat_cond | (apply nat_ob; intro)
  | some (.l0 v0_0 v0_1 v0_2 v0_3) => by unfold T4; repeat' first | exact rfl | exact h _ | apply nat_cond | (apply nat_ob; intro)
def R4 (c6 : Option (Bool)) (c7 : List ty3.den → List ty3.den → List UInt8 → Int → Option ((List UInt8))) (c8 : List UInt8 → Option (Int × Int × (List ty30.den))) (c9 : List UInt8 → Option (Int × Int × (List ty30.den))) (c10 : List UInt8 → Option (Bool)) (c11 : List UInt8 → Option (Bool)) (p0 : List ty3.den) (p1 : List ty3.den) (p2 : List UInt8) (p3 : Int) : Nat → S4 → Option (Bool)
  | 0, _ => none
  | n + 1, s => T4 Ops.std c6 c7 c8 c9 c10 c11 p0 p1 p2 p3 (R4 c6 c7 c8 c9 c10 c11 p0 p1 p2 p3 n) some (some s)
theorem rr4 {R : Type} (c6 : Option (Bool)) (c7 : List ty3.den → List ty3.den → List UInt8 → Int → Option ((List UInt8))) (c8 : List UInt8 → Option (Int × Int × (List ty30.den))) (c9 : List UInt8 → Option (Int × Int × (List ty30.den))) (c10 : List UInt8 → Option (Bool)) (c11 : List UInt8 → Option (Bool)) (p0 : List ty3.den) (p1 : List ty3.den) (p2 : List UInt8) (p3 : Int) (k : AV → Objs → Option R) : ∀ (n : Nat) (s : S4), aloop tau Ops.std gl0 X4 (ent 6 (e6 c6) (ent 7 (e7 c7) (ent 8 (e8 c8) (ent 9 (e9 c9) (ent 10 (e10 c10) (ent 11 (e11 c11) (gnil))))))) ow [] Tryd.f4 k (I4 s) (E4 p0 p1 p2 p3 s) n = ob (R4 c6 c7 c8 c9 c10 c11 p0 p1 p2 p3 n s) (fun y => k (.c (.bool y)) [])
  | 0, s => by cases s <;> rfl
  | n + 1, s => by rw [el4]; exact nt4 Ops.std c6 c7 c8 c9 c10 c11 p0 p1 p2 p3 _ _ some (fun y => k (.c (.bool y)) []) (rr4 c6 c7 c8 c9 c10 c11 p0 p1 p2 p3 k n) (some s)
def F4 (c6 : Option (Bool)) (c7 : List ty3.den → List ty3.den → List UInt8 → Int → Option ((List UInt8))) (c8 : List UInt8 → Option (Int × Int × (List ty30.den))) (c9 : List UInt8 → Option (Int × Int × (List ty30.den))) (c10 : List UInt8 → Option (Bool)) (c11 : List UInt8 → Option (Bool)) (p0 : List ty3.den) (p1 : List ty3.den) (p2 : List UInt8) (p3 : Int) : Option (Bool) := T4 Ops.std c6 c7 c8 c9 c10 c11 p0 p1 p2 p3 (R4 c6 c7 c8 c9 c10 c11 p0 p1 p2 p3 1000000) some none
theorem fo4 {R : Type} (c6 : Option (Bool)) (c7 : List ty3.den → List ty3.den → List UInt8 → Int → Option ((List UInt8))) (c8 : List UInt8 → Option (Int × Int × (List ty30.den))) (c9 : List UInt8 → Option (Int × Int × (List ty30.den))) (c10 : List UInt8 → Option (Bool)) (c11 : List UInt8 → Option (Bool)) (p0 : List ty3.den) (p1 : List ty3.den) (p2 : List UInt8) (p3 : Int) (k : AV → Objs → Option R) : afun tau Ops.std gl0 X4 (ent 6 (e6 c6) (ent 7 (e7 c7) (ent 8 (e8 c8) (ent 9 (e9 c9) (ent 10 (e10 c10) (ent 11 (e11 c11) (gnil))))))) ow Tryd.f4 [.c (.list 3 ty3 p0), .c (.list 3 ty3 p1), .c (.str p2), .c (.int .i64 p3)] [] k 1000000 = ob (F4 c6 c7 c8 c9 c10 c11 p0 p1 p2 p3) (fun y => k (.c (.bool y)) []) := by rw [eq4]; exact nt4 Ops.std c6 c7 c8 c9 c10 c11 p0 p1 p2 p3 _ _ some (fun y => k (.c (.bool y)) []) (rr4 c6 c7 c8 c9 c10 c11 p0 p1 p2 p3 k 1000000) none
def e4 {R : Type} (c : List ty3.den → List ty3.den → List UInt8 → Int → Option (Bool)) : Ent R := fun args objs k =>
  oCons args fun a0 l0 => oC a0 fun x0 => cList 3 ty3 x0 fun p0 => oCons l0 fun a1 l1 => oC a1 fun x1 => cList 3 ty3 x1 fun p1 => oCons l1 fun a2 l2 => oC a2 fun x2 => cStr x2 fun p2 => oCons l2 fun a3 l3 => oC a3 fun x3 => cInt .i64 x3 fun p3 => oNil l3 <| oNilO objs <| ob (c p0 p1 p2 p3) fun y => k (.c (.bool y)) []
abbrev Sp4 (c : List ty3.den → List ty3.den → List UInt8 → Int → Option (Bool)) : Prop := ∀ (p0 : List ty3.den) (p1 : List ty3.den) (p2 : List UInt8) (p3 : Int) (y : Bool), c p0 p1 p2 p3 = some y → Spec Tryd.prog gl0 4 [.c (.list 3 ty3 p0), .c (.list 3 ty3 p1), .c (.str p2), .c (.int .i64 p3)] [] (.c (.bool y)) []
theorem ek4 {R : Type} {c : List ty3.den → List ty3.den → List UInt8 → Int → Option (Bool)} (hs : Sp4 c) : EOk 4 (e4 (R := R) c) := fun args objs k r h => by
  unfold e4 at h
  obtain ⟨a0, l0, rfl, q1⟩ := oCons_some h
  obtain ⟨x0, rfl, q2⟩ := oC_some q1
  obtain ⟨p0, rfl, q3⟩ := cList_some q2
  obtain ⟨a1, l1, rfl, q4⟩ := oCons_some q3
  obtain ⟨x1, rfl, q5⟩ := oC_some q4
  obtain ⟨p1, rfl, q6⟩ := cList_some q5
  obtain ⟨a2, l2, rfl, q7⟩ := oCons_some q6
  obtain ⟨x2, rfl, q8⟩ := oC_some q7
  obtain ⟨p2, rfl, q9⟩ := cStr_some q8
  obtain ⟨a3, l3, rfl, q10⟩ := oCons_some q9
  obtain ⟨x3, rfl, q11⟩ := oC_some q10
  obtain ⟨p3, rfl, q12⟩ := cInt_some q11
  obtain ⟨rfl, q13⟩ := oNil_some q12
  obtain ⟨rfl, q14⟩ := oNilO_some q13
  exact eok_of (hs p0 p1 p2 p3) q14
theorem sf4 {c6 : Option (Bool)} {c7 : List ty3.den → List ty3.den → List UInt8 → Int → Option ((List UInt8))} {c8 : List UInt8 → Option (Int × Int × (List ty30.den))} {c9 : List UInt8 → Option (Int × Int × (List ty30.den))} {c10 : List UInt8 → Option (Bool)} {c11 : List UInt8 → Option (Bool)} (h6 : Sp6 c6) (h7 : Sp7 c7) (h8 : Sp8 c8) (h9 : Sp9 c9) (h10 : Sp10 c10) (h11 : Sp11 c11) : Sp4 (F4 c6 c7 c8 c9 c10 c11) := fun p0 p1 p2 p3 y hy => by
  refine spec_of (G := ent 6 (e6 c6) (ent 7 (e7 c7) (ent 8 (e8 c8) (ent 9 (e9 c9) (ent 10 (e10 c10) (ent 11 (e11 c11) (gnil))))))) (ent_ok (ek6 h6) (ent_ok (ek7 h7) (ent_ok (ek8 h8) (ent_ok (ek9 h9) (ent_ok (ek10 h10) (ent_ok (ek11 h11) (gnil_ok))))))) 1000000 (fn := Tryd.f4) (by kernel_rfl) (by kernel_rfl) (X := X4) (by kernel_rfl) ?_
  rw [fo4, hy]
  rfl
noncomputable def M4 : List ty3.den → List ty3.den → List UInt8 → Int → Option (Bool) := F4 M6 M7 M8 M9 M10 M11
theorem sm4 : Sp4 M4 := sf4 sm6 sm7 sm8 sm9 sm10 sm11
end Go.Proofs.YtfdlgmbbflmbgaaDoor.Av
