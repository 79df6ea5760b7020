/- Twins of functions, printed by gen.py. Conditions: none. -/
import Derived.Test.YtfdlgmbbflmbgaaFT2
import Derived.KernelRfl
set_option linter.unusedVariables false
set_option maxRecDepth 100000
set_option maxHeartbeats 8000000
namespace Go.Proofs.Ytfdlgmbbflmbgaa.Av
open Go

/-! ### 42: lariat/lariatref13.Parse -/
def X42 : Aux := ⟨[], [(9, .lin [0, 1, 2, 3, 4, 5, 6, 7, 8, 9, 10, 11, 12, 13, 14])]⟩
def T42 {R : Type} (B : Ops) (c61 : List UInt8 → Option (Int × Int × (List ty33.den))) (c62 : Int → List ty33.den → Int → Int → Int → List ty66.den → Option ((List ty33.den) × Int × Int × Int × (List ty66.den))) (c63 : Int → Int → List ty33.den → Int → Int → Int → List ty66.den → Option ((List ty33.den) × Int × Int × Int × (List ty66.den))) (p0 : List UInt8) (k : (Int × Int × (List ty66.den)) → Option R) : Option R :=
  ob (c61 p0) fun y0 =>
  cond (!Ops.eq B (Prod.fst y0) (0))
   (
    k ((Prod.fst y0, Prod.fst (Prod.snd y0), mt (Ty.den (Ty.pair (Ty.int IntKind.i64) (Ty.list (98) (Ty.pair (Ty.int IntKind.i64) (Ty.pair (Ty.int IntKind.i64) (Ty.pair Ty.str Ty.str)))))))))
   (
    ob (c62 (1) (Prod.snd (Prod.snd y0)) (0) (0) (0) (mt (Ty.den (Ty.pair (Ty.int IntKind.i64) (Ty.list (98) (Ty.pair (Ty.int IntKind.i64) (Ty.pair (Ty.int IntKind.i64) (Ty.pair Ty.str Ty.str)))))))) fun y1 =>
    cond (Ops.eq B (Prod.fst (Prod.snd (Prod.snd y1))) (0))
     (
      cond (Ops.inb B (Prod.fst (Prod.snd y1)) (List.length (Prod.snd (Prod.snd y0))))
       (
        cond (!Ops.eq B (Prod.fst (List.getD (Prod.snd (Prod.snd y0)) (Int.toNat (Prod.fst (Prod.snd y1))) (Ty.dflt ty33))) (5))
         (
          ob (c63 (2) (Prod.fst (Prod.snd y1)) (Prod.fst y1) (Prod.fst (Prod.snd y1)) (Prod.fst (Prod.snd (Prod.snd y1))) (Prod.fst (Prod.snd (Prod.snd (Prod.snd y1)))) (Prod.snd (Prod.snd (Prod.snd (Prod.snd y1))))) fun y2 =>
          cond (!Ops.eq B (Prod.fst (Prod.snd (Prod.snd y2))) (0))
           (
            cond (Ops.inb B (Prod.fst (Prod.snd (Prod.snd (Prod.snd y2)))) (List.length (Prod.snd (Prod.snd y0))))
             (
              k ((Prod.fst (Prod.snd (Prod.snd y2)), Prod.snd (Prod.snd (Prod.snd (List.getD (Prod.snd (Prod.snd y0)) (Int.toNat (Prod.fst (Prod.snd (Prod.snd (Prod.snd y2))))) (Ty.dflt ty33)))), mt (Ty.den (Ty.pair (Ty.int IntKind.i64) (Ty.list (98) (Ty.pair (Ty.int IntKind.i64) (Ty.pair (Ty.int IntKind.i64) (Ty.pair Ty.str Ty.str)))))))))
             (
              none))
           (
            cond (Ops.lt B (24) (Nat.cast (List.length (Prod.snd (Prod.snd (Prod.snd (Prod.snd y2)))))))
             (
              k ((13, 0, mt (Ty.den (Ty.pair (Ty.int IntKind.i64) (Ty.list (98) (Ty.pair (Ty.int IntKind.i64) (Ty.pair (Ty.int IntKind.i64) (Ty.pair Ty.str Ty.str)))))))))
             (
              k ((0, 0, Prod.snd (Prod.snd (Prod.snd (Prod.snd y2))))))))
         (
          cond (!Ops.eq B (Prod.fst (Prod.snd (Prod.snd y1))) (0))
           (
            cond (Ops.inb B (Prod.fst (Prod.snd (Prod.snd (Prod.snd y1)))) (List.length (Prod.snd (Prod.snd y0))))
             (
              k ((Prod.fst (Prod.snd (Prod.snd y1)), Prod.snd (Prod.snd (Prod.snd (List.getD (Prod.snd (Prod.snd y0)) (Int.toNat (Prod.fst (Prod.snd (Prod.snd (Prod.snd y1))))) (Ty.dflt ty33)))), mt (Ty.den (Ty.pair (Ty.int IntKind.i64) (Ty.list (98) (Ty.pair (Ty.int IntKind.i64) (Ty.pair (Ty.int IntKind.i64) (Ty.pair Ty.str Ty.str)))))))))
             (
              none))
           (
            cond (Ops.lt B (24) (Nat.cast (List.length (Prod.snd (Prod.snd (Prod.snd (Prod.snd y1)))))))
             (
              k ((13, 0, mt (Ty.den (Ty.pair (Ty.int IntKind.i64) (Ty.list (98) (Ty.pair (Ty.int IntKind.i64) (Ty.pair (Ty.int IntKind.i64) (Ty.pair Ty.str Ty.str)))))))))
             (
              k ((0, 0, Prod.snd (Prod.snd (Prod.snd (Prod.snd y1)))))))))
       (
        none))
     (
      cond (!Ops.eq B (Prod.fst (Prod.snd (Prod.snd y1))) (0))
       (
        cond (Ops.inb B (Prod.fst (Prod.snd (Prod.snd (Prod.snd y1)))) (List.length (Prod.snd (Prod.snd y0))))
         (
          k ((Prod.fst (Prod.snd (Prod.snd y1)), Prod.snd (Prod.snd (Prod.snd (List.getD (Prod.snd (Prod.snd y0)) (Int.toNat (Prod.fst (Prod.snd (Prod.snd (Prod.snd y1))))) (Ty.dflt ty33)))), mt (Ty.den (Ty.pair (Ty.int IntKind.i64) (Ty.list (98) (Ty.pair (Ty.int IntKind.i64) (Ty.pair (Ty.int IntKind.i64) (Ty.pair Ty.str Ty.str)))))))))
         (
          none))
       (
        cond (Ops.lt B (24) (Nat.cast (List.length (Prod.snd (Prod.snd (Prod.snd (Prod.snd y1)))))))
         (
          k ((13, 0, mt (Ty.den (Ty.pair (Ty.int IntKind.i64) (Ty.list (98) (Ty.pair (Ty.int IntKind.i64) (Ty.pair (Ty.int IntKind.i64) (Ty.pair Ty.str Ty.str)))))))))
         (
          k ((0, 0, Prod.snd (Prod.snd (Prod.snd (Prod.snd y1)))))))))
theorem eq42 {R : Type} (B : Ops) (c61 : List UInt8 → Option (Int × Int × (List ty33.den))) (c62 : Int → List ty33.den → Int → Int → Int → List ty66.den → Option ((List ty33.den) × Int × Int × Int × (List ty66.den))) (c63 : Int → Int → List ty33.den → Int → Int → Int → List ty66.den → Option ((List ty33.den) × Int × Int × Int × (List ty66.den))) (p0 : List UInt8) (k : AV → Objs → Option R) (n : Nat) : afun tau B gl0 X42 (ent 61 (e61 c61) (ent 62 (e62 c62) (ent 63 (e63 c63) (gnil)))) ow Try.f42 [.c (.str p0)] [] k n = T42 B c61 c62 c63 p0 (fun y => k (.tup [(false, [.own 501000]), (false, [.int .i64 y.1]), (false, [.int .i64 y.2.1])]) [(501000, .row 66 ty66 y.2.2)]) := by kernel_rfl
theorem nt42 {R R' : Type} (B : Ops) (c61 : List UInt8 → Option (Int × Int × (List ty33.den))) (c62 : Int → List ty33.den → Int → Int → Int → List ty66.den → Option ((List ty33.den) × Int × Int × Int × (List ty66.den))) (c63 : Int → Int → List ty33.den → Int → Int → Int → List ty66.den → Option ((List ty33.den) × Int × Int × Int × (List ty66.den))) (p0 : List UInt8) (k0 : (Int × Int × (List ty66.den)) → Option R') (k : R' → Option R) : T42 B c61 c62 c63 p0 (fun y => ob (k0 y) k) = ob (T42 B c61 c62 c63 p0 k0) k := by
  unfold T42
  repeat' first | exact rfl | apply nat_cond | (apply nat_ob; intro)
def F42 (c61 : List UInt8 → Option (Int × Int × (List ty33.den))) (c62 : Int → List ty33.den → Int → Int → Int → List ty66.den → Option ((List ty33.den) × Int × Int × Int × (List ty66.den))) (c63 : Int → Int → List ty33.den → Int → Int → Int → List ty66.den → Option ((List ty33.den) × Int × Int × Int × (List ty66.den))) (p0 : List UInt8) : Option (Int × Int × (List ty66.den)) := T42 Ops.std c61 c62 c63 p0 some
theorem fo42 {R : Type} (c61 : List UInt8 → Option (Int × Int × (List ty33.den))) (c62 : Int → List ty33.den → Int → Int → Int → List ty66.den → Option ((List ty33.den) × Int × Int × Int × (List ty66.den))) (c63 : Int → Int → List ty33.den → Int → Int → Int → List ty66.den → Option ((List ty33.den) × Int × Int × Int × (List ty66.den))) (p0 : List UInt8) (k : AV → Objs → Option R) (n : Nat) : afun tau Ops.std gl0 X42 (ent 61 (e61 c61) (ent 62 (e62 c62) (ent 63 (e63 c63) (gnil)))) ow Try.f42 [.c (.str p0)] [] k n = ob (F42 c61 c62 c63 p0) (fun y => k (.tup [(false, [.own 501000]), (false, [.int .i64 y.1]), (false, [.int .i64 y.2.1])]) [(501000, .row 66 ty66 y.2.2)]) := by rw [eq42]; exact nt42 Ops.std c61 c62 c63 p0 some (fun y => k (.tup [(false, [.own 501000]), (false, [.int .i64 y.1]), (false, [.int .i64 y.2.1])]) [(501000, .row 66 ty66 y.2.2)])
def e42 {R : Type} (c : List UInt8 → Option (Int × Int × (List ty66.den))) : Ent R := fun args objs k =>
  oCons args fun a0 l0 => oC a0 fun x0 => cStr x0 fun p0 => oNil l0 <| oNilO objs <| ob (c p0) fun y => k (.tup [(false, [.own 501000]), (false, [.int .i64 y.1]), (false, [.int .i64 y.2.1])]) [(501000, .row 66 ty66 y.2.2)]
abbrev Sp42 (c : List UInt8 → Option (Int × Int × (List ty66.den))) : Prop := ∀ (p0 : List UInt8) (y : Int × Int × (List ty66.den)), c p0 = some y → Spec Try.prog gl0 42 [.c (.str p0)] [] (.tup [(false, [.own 501000]), (false, [.int .i64 y.1]), (false, [.int .i64 y.2.1])]) [(501000, .row 66 ty66 y.2.2)]
theorem ek42 {R : Type} {c : List UInt8 → Option (Int × Int × (List ty66.den))} (hs : Sp42 c) : EOk 42 (e42 (R := R) c) := fun args objs k r h => by
  unfold e42 at h
  obtain ⟨a0, l0, rfl, q1⟩ := oCons_some h
  obtain ⟨x0, rfl, q2⟩ := oC_some q1
  obtain ⟨p0, rfl, q3⟩ := cStr_some q2
  obtain ⟨rfl, q4⟩ := oNil_some q3
  obtain ⟨rfl, q5⟩ := oNilO_some q4
  exact eok_of (hs p0) q5
theorem sf42 {c61 : List UInt8 → Option (Int × Int × (List ty33.den))} {c62 : Int → List ty33.den → Int → Int → Int → List ty66.den → Option ((List ty33.den) × Int × Int × Int × (List ty66.den))} {c63 : Int → Int → List ty33.den → Int → Int → Int → List ty66.den → Option ((List ty33.den) × Int × Int × Int × (List ty66.den))} (h61 : Sp61 c61) (h62 : Sp62 c62) (h63 : Sp63 c63) : Sp42 (F42 c61 c62 c63) := fun p0 y hy => by
  refine spec_of (G := ent 61 (e61 c61) (ent 62 (e62 c62) (ent 63 (e63 c63) (gnil)))) (ent_ok (ek61 h61) (ent_ok (ek62 h62) (ent_ok (ek63 h63) (gnil_ok)))) 1000000 (fn := Try.f42) (by kernel_rfl) (by kernel_rfl) (X := X42) (by kernel_rfl) ?_
  rw [fo42, hy]
  rfl
noncomputable def M42 : List UInt8 → Option (Int × Int × (List ty66.den)) := F42 M61 M62 M63
theorem sm42 : Sp42 M42 := sf42 sm61 sm62 sm63

/-! ### 17: lariat/lariatlaw18.of -/
def X17 : Aux := ⟨[], []⟩
def T17 {R : Type} (B : Ops) (c42 : List UInt8 → Option (Int × Int × (List ty66.den))) (p0 : List UInt8) (k : ((List ty66.den)) → Option R) : Option R :=
  ob (c42 p0) fun y0 =>
  k (Prod.snd (Prod.snd y0))
theorem eq17 {R : Type} (B : Ops) (c42 : List UInt8 → Option (Int × Int × (List ty66.den))) (p0 : List UInt8) (k : AV → Objs → Option R) (n : Nat) : afun tau B gl0 X17 (ent 42 (e42 c42) (gnil)) ow Try.f17 [.c (.str p0)] [] k n = T17 B c42 p0 (fun y => k (.c (.own 500)) [(500, .row 66 ty66 y)]) := by kernel_rfl
theorem nt17 {R R' : Type} (B : Ops) (c42 : List UInt8 → Option (Int × Int × (List ty66.den))) (p0 : List UInt8) (k0 : ((List ty66.den)) → Option R') (k : R' → Option R) : T17 B c42 p0 (fun y => ob (k0 y) k) = ob (T17 B c42 p0 k0) k := by
  unfold T17
  repeat' first | exact rfl | apply nat_cond | (apply nat_ob; intro)
def F17 (c42 : List UInt8 → Option (Int × Int × (List ty66.den))) (p0 : List UInt8) : Option ((List ty66.den)) := T17 Ops.std c42 p0 some
theorem fo17 {R : Type} (c42 : List UInt8 → Option (Int × Int × (List ty66.den))) (p0 : List UInt8) (k : AV → Objs → Option R) (n : Nat) : afun tau Ops.std gl0 X17 (ent 42 (e42 c42) (gnil)) ow Try.f17 [.c (.str p0)] [] k n = ob (F17 c42 p0) (fun y => k (.c (.own 500)) [(500, .row 66 ty66 y)]) := by rw [eq17]; exact nt17 Ops.std c42 p0 some (fun y => k (.c (.own 500)) [(500, .row 66 ty66 y)])
def e17 {R : Type} (c : List UInt8 → Option ((List ty66.den))) : Ent R := fun args objs k =>
  oCons args fun a0 l0 => oC a0 fun x0 => cStr x0 fun p0 => oNil l0 <| oNilO objs <| ob (c p0) fun y => k (.c (.own 500)) [(500, .row 66 ty66 y)]
abbrev Sp17 (c : List UInt8 → Option ((List ty66.den))) : Prop := ∀ (p0 : List UInt8) (y : (List ty66.den)), c p0 = some y → Spec Try.prog gl0 17 [.c (.str p0)] [] (.c (.own 500)) [(500, .row 66 ty66 y)]
theorem ek17 {R : Type} {c : List UInt8 → Option ((List ty66.den))} (hs : Sp17 c) : EOk 17 (e17 (R := R) c) := fun args objs k r h => by
  unfold e17 at h
  obtain ⟨a0, l0, rfl, q1⟩ := oCons_some h
  obtain ⟨x0, rfl, q2⟩ := oC_some q1
  obtain ⟨p0, rfl, q3⟩ := cStr_some q2
  obtain ⟨rfl, q4⟩ := oNil_some q3
  obtain ⟨rfl, q5⟩ := oNilO_some q4
  exact eok_of (hs p0) q5
theorem sf17 {c42 : List UInt8 → Option (Int × Int × (List ty66.den))} (h42 : Sp42 c42) : Sp17 (F17 c42) := fun p0 y hy => by
  refine spec_of (G := ent 42 (e42 c42) (gnil)) (ent_ok (ek42 h42) (gnil_ok)) 1000000 (fn := Try.f17) (by kernel_rfl) (by kernel_rfl) (X := X17) (by kernel_rfl) ?_
  rw [fo17, hy]
  rfl
noncomputable def M17 : List UInt8 → Option ((List ty66.den)) := F17 M42
theorem sm17 : Sp17 M17 := sf17 sm42

/-! ### 15: lariat/lariatlaw18.known -/
def X15 : Aux := ⟨[], []⟩
def T15 {R : Type} (B : Ops) (c16 : Int → List ty4.den → Option (Int × Bool)) (c17 : List UInt8 → Option ((List ty66.den))) (c20 : List ty66.den → Option ((List ty3.den))) (c19 : List ty3.den → List ty3.den → Option (Bool)) (k : (Bool) → Option R) : Option R :=
  ob (c16 (0) (true :: mt (Ty.den Ty.bool))) fun y0 =>
  cond (Ops.eq B (Prod.fst y0) (0))
   (
    cond (Prod.snd y0)
     (
      ob (c17 ([91, 120, 93, 32, 85, 32, 91, 121, 93] : List UInt8)) fun y1 =>
      ob (c20 y1) fun y2 =>
      ob (c19 y2 (2 :: mt (Ty.den (Ty.int IntKind.i64)))) fun y3 =>
      k y3)
     (
      k false))
   (
    k false)
theorem eq15 {R : Type} (B : Ops) (c16 : Int → List ty4.den → Option (Int × Bool)) (c17 : List UInt8 → Option ((List ty66.den))) (c20 : List ty66.den → Option ((List ty3.den))) (c19 : List ty3.den → List ty3.den → Option (Bool)) (k : AV → Objs → Option R) (n : Nat) : afun tau B gl0 X15 (ent 16 (e16 c16) (ent 17 (e17 c17) (ent 20 (e20 c20) (ent 19 (e19 c19) (gnil))))) ow Try.f15 [] [] k n = T15 B c16 c17 c20 c19 (fun y => k (.c (.bool y)) []) := by kernel_rfl
theorem nt15 {R R' : Type} (B : Ops) (c16 : Int → List ty4.den → Option (Int × Bool)) (c17 : List UInt8 → Option ((List ty66.den))) (c20 : List ty66.den → Option ((List ty3.den))) (c19 : List ty3.den → List ty3.den → Option (Bool)) (k0 : (Bool) → Option R') (k : R' → Option R) : T15 B c16 c17 c20 c19 (fun y => ob (k0 y) k) = ob (T15 B c16 c17 c20 c19 k0) k := by
  unfold T15
  repeat' first | exact rfl | apply nat_cond | (apply nat_ob; intro)
def F15 (c16 : Int → List ty4.den → Option (Int × Bool)) (c17 : List UInt8 → Option ((List ty66.den))) (c20 : List ty66.den → Option ((List ty3.den))) (c19 : List ty3.den → List ty3.den → Option (Bool)) : Option (Bool) := T15 Ops.std c16 c17 c20 c19 some
theorem fo15 {R : Type} (c16 : Int → List ty4.den → Option (Int × Bool)) (c17 : List UInt8 → Option ((List ty66.den))) (c20 : List ty66.den → Option ((List ty3.den))) (c19 : List ty3.den → List ty3.den → Option (Bool)) (k : AV → Objs → Option R) (n : Nat) : afun tau Ops.std gl0 X15 (ent 16 (e16 c16) (ent 17 (e17 c17) (ent 20 (e20 c20) (ent 19 (e19 c19) (gnil))))) ow Try.f15 [] [] k n = ob (F15 c16 c17 c20 c19) (fun y => k (.c (.bool y)) []) := by rw [eq15]; exact nt15 Ops.std c16 c17 c20 c19 some (fun y => k (.c (.bool y)) [])
def e15 {R : Type} (c : Option (Bool)) : Ent R := fun args objs k =>
  oNil args <| oNilO objs <| ob (c ) fun y => k (.c (.bool y)) []
abbrev Sp15 (c : Option (Bool)) : Prop := ∀ (y : Bool), c = some y → Spec Try.prog gl0 15 [] [] (.c (.bool y)) []
theorem ek15 {R : Type} {c : Option (Bool)} (hs : Sp15 c) : EOk 15 (e15 (R := R) c) := fun args objs k r h => by
  unfold e15 at h
  obtain ⟨rfl, q1⟩ := oNil_some h
  obtain ⟨rfl, q2⟩ := oNilO_some q1
  exact eok_of (hs ) q2
theorem sf15 {c16 : Int → List ty4.den → Option (Int × Bool)} {c17 : List UInt8 → Option ((List ty66.den))} {c20 : List ty66.den → Option ((List ty3.den))} {c19 : List ty3.den → List ty3.den → Option (Bool)} (h16 : Sp16 c16) (h17 : Sp17 c17) (h20 : Sp20 c20) (h19 : Sp19 c19) : Sp15 (F15 c16 c17 c20 c19) := fun y hy => by
  refine spec_of (G := ent 16 (e16 c16) (ent 17 (e17 c17) (ent 20 (e20 c20) (ent 19 (e19 c19) (gnil))))) (ent_ok (ek16 h16) (ent_ok (ek17 h17) (ent_ok (ek20 h20) (ent_ok (ek19 h19) (gnil_ok))))) 1000000 (fn := Try.f15) (by kernel_rfl) (by kernel_rfl) (X := X15) (by kernel_rfl) ?_
  rw [fo15, hy]
  rfl
noncomputable def M15 : Option (Bool) := F15 M16 M17 M20 M19
theorem sm15 : Sp15 M15 := sf15 sm16 sm17 sm20 sm19

/-! ### 47: lariat/lariatref13.Kids -/
def X47 : Aux := ⟨[(6, [1, 2, 6, 7, 8, 9, 10, 11, 12, 13, 14, 15, 16, 17, 18, 19, 20, 21, 22, 23, 24, 25, 26, 27, 28, 29, 30, 31, 32, 33, 34, 35, 36, 37, 38, 39, 40, 41, 42])], []⟩
inductive S47 where
  | l0 (v0_1 : Int) (v0_2 : List ty22.den) (v0_3 : List ty3.den)
def T47 {R : Type} (B : Ops) (c48 : List ty66.den → Option (Bool)) (c51 : Int → Option (Int)) (p0 : List ty66.den) (again : S47 → Option R) (k : ((List ty22.den)) → Option R) : Option S47 → Option R
  | none =>
    ob (c48 p0) fun y0 =>
    cond (!y0)
     (
      k (mt (Ty.den (Ty.list (3) (Ty.int IntKind.i64)))))
     (
      again (.l0 0 (mt (Ty.den (Ty.list (3) (Ty.int IntKind.i64)))) (mt (Ty.den (Ty.int IntKind.i64)))))
  | some (.l0 v0_1 v0_2 v0_3) =>
    cond (Ops.lt B v0_1 (Nat.cast (List.length p0)))
     (
      cond (Ops.inb B v0_1 (List.length p0))
       (
        ob (c51 (Prod.fst (List.getD p0 (Int.toNat v0_1) (Ty.dflt ty66)))) fun y0 =>
        cond (Ops.lt B (IntKind.wrap IntKind.i64 (Nat.cast (List.length v0_3) - y0)) (0))
         (
          k (mt (Ty.den (Ty.list (3) (Ty.int IntKind.i64)))))
         (
          cond (Ops.inb B (IntKind.wrap IntKind.i64 (Nat.cast (List.length v0_3) - y0)) (List.length v0_3 + 1))
           (
            cond (Ops.lim B (List.length (mt (Ty.den (Ty.int IntKind.i64))) + List.length (List.drop (Int.toNat (IntKind.wrap IntKind.i64 (Nat.cast (List.length v0_3) - y0))) (List.take (List.length v0_3) v0_3))) (8))
             (
              cond (Ops.lim B (List.length v0_2 + List.length ((mt (Ty.den (Ty.int IntKind.i64)) ++ List.drop (Int.toNat (IntKind.wrap IntKind.i64 (Nat.cast (List.length v0_3) - y0))) (List.take (List.length v0_3) v0_3)) :: mt (Ty.den (Ty.list (3) (Ty.int IntKind.i64))))) (24))
               (
                cond (Ops.eq B (IntKind.wrap IntKind.i64 (Nat.cast (List.length v0_3) - y0)) (IntKind.wrap IntKind.i64 (Nat.cast (List.length v0_3) - y0)))
                 (
                  cond (Ops.inb B (IntKind.wrap IntKind.i64 (Nat.cast (List.length v0_3) - y0)) (List.length v0_3 + 1))
                   (
                    cond (Ops.lt B (0) (Nat.cast (List.length (v0_1 :: mt (Ty.den (Ty.int IntKind.i64))))))
                     (
                      cond (Ops.lim B (List.length (List.take (Int.toNat (IntKind.wrap IntKind.i64 (Nat.cast (List.length v0_3) - y0))) v0_3) + List.length (v0_1 :: mt (Ty.den (Ty.int IntKind.i64)))) (8))
                       (
                        again (.l0 (IntKind.wrap IntKind.i64 (v0_1 + 1)) (v0_2 ++ (mt (Ty.den (Ty.int IntKind.i64)) ++ List.drop (Int.toNat (IntKind.wrap IntKind.i64 (Nat.cast (List.length v0_3) - y0))) (List.take (List.length v0_3) v0_3)) :: mt (Ty.den (Ty.list (3) (Ty.int IntKind.i64)))) (List.take (Int.toNat (IntKind.wrap IntKind.i64 (Nat.cast (List.length v0_3) - y0))) v0_3 ++ v0_1 :: mt (Ty.den (Ty.int IntKind.i64)))))
                       (
                        none))
                     (
                      none))
                   (
                    none))
                 (
                  none))
               (
                none))
             (
              none))
           (
            none)))
       (
        none))
     (
      k v0_2)
def E47 (p0 : List ty66.den) : S47 → List AV × Objs
  | .l0 v0_1 v0_2 v0_3 => (mk 43 [(0, .c (.list 66 ty66 p0)), (3, .c (.own 3)), (4, .c (.own 4)), (5, .c (.int .i64 v0_1))], [(3, .row 22 ty22 v0_2), (4, .row 3 ty3 v0_3)])
def I47 : S47 → Nat
  | .l0 _ _ _ => 0
theorem eq47 {R : Type} (B : Ops) (c48 : List ty66.den → Option (Bool)) (c51 : Int → Option (Int)) (p0 : List ty66.den) (k : AV → Objs → Option R) (n : Nat) : afun tau B gl0 X47 (ent 48 (e48 c48) (ent 51 (e51 c51) (gnil))) ow Try.f47 [.c (.list 66 ty66 p0)] [] k n = T47 B c48 c51 p0 (fun s => aloop tau B gl0 X47 (ent 48 (e48 c48) (ent 51 (e51 c51) (gnil))) ow [] Try.f47 k (I47 s) (E47 p0 s) n) (fun y => k (.c (.own 500)) [(500, .row 22 ty22 y)]) none := by kernel_rfl
theorem el47 {R : Type} (B : Ops) (c48 : List ty66.den → Option (Bool)) (c51 : Int → Option (Int)) (p0 : List ty66.den) (k : AV → Objs → Option R) (n : Nat) : ∀ s, aloop tau B gl0 X47 (ent 48 (e48 c48) (ent 51 (e51 c51) (gnil))) ow [] Try.f47 k (I47 s) (E47 p0 s) (n + 1) = T47 B c48 c51 p0 (fun s => aloop tau B gl0 X47 (ent 48 (e48 c48) (ent 51 (e51 c51) (gnil))) ow [] Try.f47 k (I47 s) (E47 p0 s) n) (fun y => k (.c (.own 500)) [(500, .row 22 ty22 y)]) (some s)
  | .l0 v0_1 v0_2 v0_3 => by kernel_rfl
theorem nt47 {R R' : Type} (B : Ops) (c48 : List ty66.den → Option (Bool)) (c51 : Int → Option (Int)) (p0 : List ty66.den) (again : S47 → Option R) (again' : S47 → Option R') (k0 : ((List ty22.den)) → Option R') (k : R' → Option R) (h : ∀ s, again s = ob (again' s) k) : ∀ s, T47 B c48 c51 p0 again (fun y => ob (k0 y) k) s = ob (T47 B c48 c51 p0 again' k0 s) k
  | none => by unfold T47; repeat' first | exact rfl | exact h _ | apply nat_cond | (apply nat_ob; intro)
  | some (.l0 v0_1 v0_2 v0_3) => by unfold T47; repeat' first | exact rfl | exact h _ | apply nat_cond | (apply nat_ob; intro)
def R47 (c48 : List ty66.den → Option (Bool)) (c51 : Int → Option (Int)) (p0 : List ty66.den) : Nat → S47 → Option ((List ty22.den))
  | 0, _ => none
  | n + 1, s => T47 Ops.std c48 c51 p0 (R47 c48 c51 p0 n) some (some s)
theorem rr47 {R : Type} (c48 : List ty66.den → Option (Bool)) (c51 : Int → Option (Int)) (p0 : List ty66.den) (k : AV → Objs → Option R) : ∀ (n : Nat) (s : S47), aloop tau Ops.std gl0 X47 (ent 48 (e48 c48) (ent 51 (e51 c51) (gnil))) ow [] Try.f47 k (I47 s) (E47 p0 s) n = ob (R47 c48 c51 p0 n s) (fun y => k (.c (.own 500)) [(500, .row 22 ty22 y)])
  | 0, s => by cases s <;> rfl
  | n + 1, s => by rw [el47]; exact nt47 Ops.std c48 c51 p0 _ _ some (fun y => k (.c (.own 500)) [(500, .row 22 ty22 y)]) (rr47 c48 c51 p0 k n) (some s)
def F47 (c48 : List ty66.den → Option (Bool)) (c51 : Int → Option (Int)) (p0 : List ty66.den) : Option ((List ty22.den)) := T47 Ops.std c48 c51 p0 (R47 c48 c51 p0 1000000) some none
theorem fo47 {R : Type} (c48 : List ty66.den → Option (Bool)) (c51 : Int → Option (Int)) (p0 : List ty66.den) (k : AV → Objs → Option R) : afun tau Ops.std gl0 X47 (ent 48 (e48 c48) (ent 51 (e51 c51) (gnil))) ow Try.f47 [.c (.list 66 ty66 p0)] [] k 1000000 = ob (F47 c48 c51 p0) (fun y => k (.c (.own 500)) [(500, .row 22 ty22 y)]) := by rw [eq47]; exact nt47 Ops.std c48 c51 p0 _ _ some (fun y => k (.c (.own 500)) [(500, .row 22 ty22 y)]) (rr47 c48 c51 p0 k 1000000) none
def e47 {R : Type} (c : List ty66.den → Option ((List ty22.den))) : Ent R := fun args objs k =>
  oCons args fun a0 l0 => oC a0 fun x0 => cList 66 ty66 x0 fun p0 => oNil l0 <| oNilO objs <| ob (c p0) fun y => k (.c (.own 500)) [(500, .row 22 ty22 y)]
abbrev Sp47 (c : List ty66.den → Option ((List ty22.den))) : Prop := ∀ (p0 : List ty66.den) (y : (List ty22.den)), c p0 = some y → Spec Try.prog gl0 47 [.c (.list 66 ty66 p0)] [] (.c (.own 500)) [(500, .row 22 ty22 y)]
theorem ek47 {R : Type} {c : List ty66.den → Option ((List ty22.den))} (hs : Sp47 c) : EOk 47 (e47 (R := R) c) := fun args objs k r h => by
  unfold e47 at h
  obtain ⟨a0, l0, rfl, q1⟩ := oCons_some h
  obtain ⟨x0, rfl, q2⟩ := oC_some q1
  obtain ⟨p0, rfl, q3⟩ := cList_some q2
  obtain ⟨rfl, q4⟩ := oNil_some q3
  obtain ⟨rfl, q5⟩ := oNilO_some q4
  exact eok_of (hs p0) q5
theorem sf47 {c48 : List ty66.den → Option (Bool)} {c51 : Int → Option (Int)} (h48 : Sp48 c48) (h51 : Sp51 c51) : Sp47 (F47 c48 c51) := fun p0 y hy => by
  refine spec_of (G := ent 48 (e48 c48) (ent 51 (e51 c51) (gnil))) (ent_ok (ek48 h48) (ent_ok (ek51 h51) (gnil_ok))) 1000000 (fn := Try.f47) (by kernel_rfl) (by kernel_rfl) (X := X47) (by kernel_rfl) ?_
  rw [fo47, hy]
  rfl
noncomputable def M47 : List ty66.den → Option ((List ty22.den)) := F47 M48 M51
theorem sm47 : Sp47 M47 := sf47 sm48 sm51

/-! ### 36: lariat/lariatref13.Is -/
def X36 : Aux := ⟨[(5, [1, 2, 5, 6, 7, 8, 9, 10, 11, 12, 13, 14, 15, 16, 17, 18, 19, 20, 21, 22, 23, 24, 25, 26, 27, 28, 29, 30, 31, 32, 33, 34, 35, 36, 37])], []⟩
inductive S36 where
  | l0 (v0_1 : Int) (v0_2 : List ty22.den)
def T36 {R : Type} (B : Ops) (c48 : List ty66.den → Option (Bool)) (c47 : List ty66.den → Option ((List ty22.den))) (p0 : List ty66.den) (again : S36 → Option R) (k : (Bool) → Option R) : Option S36 → Option R
  | none =>
    ob (c48 p0) fun y0 =>
    cond (!y0)
     (
      k false)
     (
      ob (c47 p0) fun y1 =>
      again (.l0 0 y1))
  | some (.l0 v0_1 v0_2) =>
    cond (Ops.lt B v0_1 (Nat.cast (List.length p0)))
     (
      cond (Ops.inb B v0_1 (List.length p0))
       (
        cond (Ops.eq B (Prod.fst (List.getD p0 (Int.toNat v0_1) (Ty.dflt ty66))) (7))
         (
          k false)
         (
          cond (Ops.eq B (Prod.fst (List.getD p0 (Int.toNat v0_1) (Ty.dflt ty66))) (11))
           (
            k false)
           (
            cond (Ops.eq B (Prod.fst (List.getD p0 (Int.toNat v0_1) (Ty.dflt ty66))) (12))
             (
              k false)
             (
              cond (Ops.eq B (Prod.fst (List.getD p0 (Int.toNat v0_1) (Ty.dflt ty66))) (4))
               (
                cond (Ops.inb B v0_1 (List.length v0_2))
                 (
                  cond (Ops.inb B (0) (List.length (List.getD v0_2 (Int.toNat v0_1) (Ty.dflt ty22))))
                   (
                    cond (Ops.inb B (List.getD (List.getD v0_2 (Int.toNat v0_1) (Ty.dflt ty22)) (Int.toNat (0)) (Ty.dflt (Ty.int IntKind.i64))) (List.length p0))
                     (
                      cond (!Ops.eq B (Prod.fst (List.getD p0 (Int.toNat (List.getD (List.getD v0_2 (Int.toNat v0_1) (Ty.dflt ty22)) (Int.toNat (0)) (Ty.dflt (Ty.int IntKind.i64)))) (Ty.dflt ty66))) (3))
                       (
                        k false)
                       (
                        again (.l0 (IntKind.wrap IntKind.i64 (v0_1 + 1)) v0_2)))
                     (
                      none))
                   (
                    none))
                 (
                  none))
               (
                again (.l0 (IntKind.wrap IntKind.i64 (v0_1 + 1)) v0_2))))))
       (
        none))
     (
      k true)
def E36 (p0 : List ty66.den) : S36 → List AV × Objs
  | .l0 v0_1 v0_2 => (mk 38 [(0, .c (.list 66 ty66 p0)), (3, .c (.own 3)), (4, .c (.int .i64 v0_1))], [(3, .row 22 ty22 v0_2)])
def I36 : S36 → Nat
  | .l0 _ _ => 0
theorem eq36 {R : Type} (B : Ops) (c48 : List ty66.den → Option (Bool)) (c47 : List ty66.den → Option ((List ty22.den))) (p0 : List ty66.den) (k : AV → Objs → Option R) (n : Nat) : afun tau B gl0 X36 (ent 48 (e48 c48) (ent 47 (e47 c47) (gnil))) ow Try.f36 [.c (.list 66 ty66 p0)] [] k n = T36 B c48 c47 p0 (fun s => aloop tau B gl0 X36 (ent 48 (e48 c48) (ent 47 (e47 c47) (gnil))) ow [] Try.f36 k (I36 s) (E36 p0 s) n) (fun y => k (.c (.bool y)) []) none := by kernel_rfl
theorem el36 {R : Type} (B : Ops) (c48 : List ty66.den → Option (Bool)) (c47 : List ty66.den → Option ((List ty22.den))) (p0 : List ty66.den) (k : AV → Objs → Option R) (n : Nat) : ∀ s, aloop tau B gl0 X36 (ent 48 (e48 c48) (ent 47 (e47 c47) (gnil))) ow [] Try.f36 k (I36 s) (E36 p0 s) (n + 1) = T36 B c48 c47 p0 (fun s => aloop tau B gl0 X36 (ent 48 (e48 c48) (ent 47 (e47 c47) (gnil))) ow [] Try.f36 k (I36 s) (E36 p0 s) n) (fun y => k (.c (.bool y)) []) (some s)
  | .l0 v0_1 v0_2 => by kernel_rfl
theorem nt36 {R R' : Type} (B : Ops) (c48 : List ty66.den → Option (Bool)) (c47 : List ty66.den → Option ((List ty22.den))) (p0 : List ty66.den) (again : S36 → Option R) (again' : S36 → Option R') (k0 : (Bool) → Option R') (k : R' → Option R) (h : ∀ s, again s = ob (again' s) k) : ∀ s, T36 B c48 c47 p0 again (fun y => ob (k0 y) k) s = ob (T36 B c48 c47 p0 again' k0 s) k
  | none => by unfold T36; repeat' first | exact rfl | exact h _ | apply nat_cond | (apply nat_ob; intro)
  | some (.l0 v0_1 v0_2) => by unfold T36; repeat' first | exact rfl | exact h _ | apply nat_cond | (apply nat_ob; intro)
def R36 (c48 : List ty66.den → Option (Bool)) (c47 : List ty66.den → Option ((List ty22.den))) (p0 : List ty66.den) : Nat → S36 → Option (Bool)
  | 0, _ => none
  | n + 1, s => T36 Ops.std c48 c47 p0 (R36 c48 c47 p0 n) some (some s)
theorem rr36 {R : Type} (c48 : List ty66.den → Option (Bool)) (c47 : List ty66.den → Option ((List ty22.den))) (p0 : List ty66.den) (k : AV → Objs → Option R) : ∀ (n : Nat) (s : S36), aloop tau Ops.std gl0 X36 (ent 48 (e48 c48) (ent 47 (e47 c47) (gnil))) ow [] Try.f36 k (I36 s) (E36 p0 s) n = ob (R36 c48 c47 p0 n s) (fun y => k (.c (.bool y)) [])
  | 0, s => by cases s <;> rfl
  | n + 1, s => by rw [el36]; exact nt36 Ops.std c48 c47 p0 _ _ some (fun y => k (.c (.bool y)) []) (rr36 c48 c47 p0 k n) (some s)
def F36 (c48 : List ty66.den → Option (Bool)) (c47 : List ty66.den → Option ((List ty22.den))) (p0 : List ty66.den) : Option (Bool) := T36 Ops.std c48 c47 p0 (R36 c48 c47 p0 1000000) some none
theorem fo36 {R : Type} (c48 : List ty66.den → Option (Bool)) (c47 : List ty66.den → Option ((List ty22.den))) (p0 : List ty66.den) (k : AV → Objs → Option R) : afun tau Ops.std gl0 X36 (ent 48 (e48 c48) (ent 47 (e47 c47) (gnil))) ow Try.f36 [.c (.list 66 ty66 p0)] [] k 1000000 = ob (F36 c48 c47 p0) (fun y => k (.c (.bool y)) []) := by rw [eq36]; exact nt36 Ops.std c48 c47 p0 _ _ some (fun y => k (.c (.bool y)) []) (rr36 c48 c47 p0 k 1000000) none
def e36 {R : Type} (c : List ty66.den → Option (Bool)) : Ent R := fun args objs k =>
  oCons args fun a0 l0 => oC a0 fun x0 => cList 66 ty66 x0 fun p0 => oNil l0 <| oNilO objs <| ob (c p0) fun y => k (.c (.bool y)) []
abbrev Sp36 (c : List ty66.den → Option (Bool)) : Prop := ∀ (p0 : List ty66.den) (y : Bool), c p0 = some y → Spec Try.prog gl0 36 [.c (.list 66 ty66 p0)] [] (.c (.bool y)) []
theorem ek36 {R : Type} {c : List ty66.den → Option (Bool)} (hs : Sp36 c) : EOk 36 (e36 (R := R) c) := fun args objs k r h => by
  unfold e36 at h
  obtain ⟨a0, l0, rfl, q1⟩ := oCons_some h
  obtain ⟨x0, rfl, q2⟩ := oC_some q1
  obtain ⟨p0, rfl, q3⟩ := cList_some q2
  obtain ⟨rfl, q4⟩ := oNil_some q3
  obtain ⟨rfl, q5⟩ := oNilO_some q4
  exact eok_of (hs p0) q5
theorem sf36 {c48 : List ty66.den → Option (Bool)} {c47 : List ty66.den → Option ((List ty22.den))} (h48 : Sp48 c48) (h47 : Sp47 c47) : Sp36 (F36 c48 c47) := fun p0 y hy => by
  refine spec_of (G := ent 48 (e48 c48) (ent 47 (e47 c47) (gnil))) (ent_ok (ek48 h48) (ent_ok (ek47 h47) (gnil_ok))) 1000000 (fn := Try.f36) (by kernel_rfl) (by kernel_rfl) (X := X36) (by kernel_rfl) ?_
  rw [fo36, hy]
  rfl
noncomputable def M36 : List ty66.den → Option (Bool) := F36 M48 M47
theorem sm36 : Sp36 M36 := sf36 sm48 sm47

/-! ### 24: lariat/lariatref13.Met -/
def X24 : Aux := ⟨[], []⟩
def T24 {R : Type} (B : Ops) (c47 : List ty66.den → Option ((List ty22.den))) (c25 : List ty66.den → Option ((List ty3.den))) (c46 : List ty66.den → List ty22.den → List ty3.den → List ty4.den → Option ((List ty4.den))) (p0 : List ty66.den) (p1 : List ty4.den) (k : ((List ty4.den)) → Option R) : Option R :=
  ob (c47 p0) fun y0 =>
  ob (c25 p0) fun y1 =>
  ob (c46 p0 y0 y1 p1) fun y2 =>
  k y2
theorem eq24 {R : Type} (B : Ops) (c47 : List ty66.den → Option ((List ty22.den))) (c25 : List ty66.den → Option ((List ty3.den))) (c46 : List ty66.den → List ty22.den → List ty3.den → List ty4.den → Option ((List ty4.den))) (p0 : List ty66.den) (p1 : List ty4.den) (k : AV → Objs → Option R) (n : Nat) : afun tau B gl0 X24 (ent 47 (e47 c47) (ent 25 (e25 c25) (ent 46 (e46 c46) (gnil)))) ow Try.f24 [.c (.list 66 ty66 p0), .c (.list 4 ty4 p1)] [] k n = T24 B c47 c25 c46 p0 p1 (fun y => k (.c (.own 500)) [(500, .row 4 ty4 y)]) := by kernel_rfl
theorem nt24 {R R' : Type} (B : Ops) (c47 : List ty66.den → Option ((List ty22.den))) (c25 : List ty66.den → Option ((List ty3.den))) (c46 : List ty66.den → List ty22.den → List ty3.den → List ty4.den → Option ((List ty4.den))) (p0 : List ty66.den) (p1 : List ty4.den) (k0 : ((List ty4.den)) → Option R') (k : R' → Option R) : T24 B c47 c25 c46 p0 p1 (fun y => ob (k0 y) k) = ob (T24 B c47 c25 c46 p0 p1 k0) k := by
  unfold T24
  repeat' first | exact rfl | apply nat_cond | (apply nat_ob; intro)
def F24 (c47 : List ty66.den → Option ((List ty22.den))) (c25 : List ty66.den → Option ((List ty3.den))) (c46 : List ty66.den → List ty22.den → List ty3.den → List ty4.den → Option ((List ty4.den))) (p0 : List ty66.den) (p1 : List ty4.den) : Option ((List ty4.den)) := T24 Ops.std c47 c25 c46 p0 p1 some
theorem fo24 {R : Type} (c47 : List ty66.den → Option ((List ty22.den))) (c25 : List ty66.den → Option ((List ty3.den))) (c46 : List ty66.den → List ty22.den → List ty3.den → List ty4.den → Option ((List ty4.den))) (p0 : List ty66.den) (p1 : List ty4.den) (k : AV → Objs → Option R) (n : Nat) : afun tau Ops.std gl0 X24 (ent 47 (e47 c47) (ent 25 (e25 c25) (ent 46 (e46 c46) (gnil)))) ow Try.f24 [.c (.list 66 ty66 p0), .c (.list 4 ty4 p1)] [] k n = ob (F24 c47 c25 c46 p0 p1) (fun y => k (.c (.own 500)) [(500, .row 4 ty4 y)]) := by rw [eq24]; exact nt24 Ops.std c47 c25 c46 p0 p1 some (fun y => k (.c (.own 500)) [(500, .row 4 ty4 y)])
def e24 {R : Type} (c : List ty66.den → List ty4.den → Option ((List ty4.den))) : Ent R := fun args objs k =>
  oCons args fun a0 l0 => oC a0 fun x0 => cList 66 ty66 x0 fun p0 => oCons l0 fun a1 l1 => oC a1 fun x1 => cList 4 ty4 x1 fun p1 => oNil l1 <| oNilO objs <| ob (c p0 p1) fun y => k (.c (.own 500)) [(500, .row 4 ty4 y)]
abbrev Sp24 (c : List ty66.den → List ty4.den → Option ((List ty4.den))) : Prop := ∀ (p0 : List ty66.den) (p1 : List ty4.den) (y : (List ty4.den)), c p0 p1 = some y → Spec Try.prog gl0 24 [.c (.list 66 ty66 p0), .c (.list 4 ty4 p1)] [] (.c (.own 500)) [(500, .row 4 ty4 y)]
theorem ek24 {R : Type} {c : List ty66.den → List ty4.den → Option ((List ty4.den))} (hs : Sp24 c) : EOk 24 (e24 (R := R) c) := fun args objs k r h => by
  unfold e24 at h
  obtain ⟨a0, l0, rfl, q1⟩ := oCons_some h
  obtain ⟨x0, rfl, q2⟩ := oC_some q1
  obtain ⟨p0, rfl, q3⟩ := cList_some q2
  obtain ⟨a1, l1, rfl, q4⟩ := oCons_some q3
  obtain ⟨x1, rfl, q5⟩ := oC_some q4
  obtain ⟨p1, rfl, q6⟩ := cList_some q5
  obtain ⟨rfl, q7⟩ := oNil_some q6
  obtain ⟨rfl, q8⟩ := oNilO_some q7
  exact eok_of (hs p0 p1) q8
theorem sf24 {c47 : List ty66.den → Option ((List ty22.den))} {c25 : List ty66.den → Option ((List ty3.den))} {c46 : List ty66.den → List ty22.den → List ty3.den → List ty4.den → Option ((List ty4.den))} (h47 : Sp47 c47) (h25 : Sp25 c25) (h46 : Sp46 c46) : Sp24 (F24 c47 c25 c46) := fun p0 p1 y hy => by
  refine spec_of (G := ent 47 (e47 c47) (ent 25 (e25 c25) (ent 46 (e46 c46) (gnil)))) (ent_ok (ek47 h47) (ent_ok (ek25 h25) (ent_ok (ek46 h46) (gnil_ok)))) 1000000 (fn := Try.f24) (by kernel_rfl) (by kernel_rfl) (X := X24) (by kernel_rfl) ?_
  rw [fo24, hy]
  rfl
noncomputable def M24 : List ty66.den → List ty4.den → Option ((List ty4.den)) := F24 M47 M25 M46
theorem sm24 : Sp24 M24 := sf24 sm47 sm25 sm46
def e67 {R : Type} (c : List ty66.den → List ty22.den → Int → Bool → List ty66.den → Option ((List ty66.den))) : Ent R := fun args objs k =>
  oCons args fun a0 l0 => oC a0 fun x0 => cList 66 ty66 x0 fun p0 => oCons l0 fun a1 l1 => oC a1 fun x1 => cList 22 ty22 x1 fun p1 => oCons l1 fun a2 l2 => oC a2 fun x2 => cInt .i64 x2 fun p2 => oCons l2 fun a3 l3 => oC a3 fun x3 => cBool x3 fun p3 => oCons l3 fun a4 l4 => oC a4 fun x4 => cOwn 4 x4 <| oNil l4 <| oRow 4 66 ty66 objs fun p4 o0 => oNilO o0 <| ob (c p0 p1 p2 p3 p4) fun y => k (.c (.own 500)) [(500, .row 66 ty66 y)]
abbrev Sp67 (c : List ty66.den → List ty22.den → Int → Bool → List ty66.den → Option ((List ty66.den))) : Prop := ∀ (p0 : List ty66.den) (p1 : List ty22.den) (p2 : Int) (p3 : Bool) (p4 : List ty66.den) (y : (List ty66.den)), c p0 p1 p2 p3 p4 = some y → Spec Try.prog gl0 67 [.c (.list 66 ty66 p0), .c (.list 22 ty22 p1), .c (.int .i64 p2), .c (.bool p3), .c (.own 4)] [(4, .row 66 ty66 p4)] (.c (.own 500)) [(500, .row 66 ty66 y)]
theorem ek67 {R : Type} {c : List ty66.den → List ty22.den → Int → Bool → List ty66.den → Option ((List ty66.den))} (hs : Sp67 c) : EOk 67 (e67 (R := R) c) := fun args objs k r h => by
  unfold e67 at h
  obtain ⟨a0, l0, rfl, q1⟩ := oCons_some h
  obtain ⟨x0, rfl, q2⟩ := oC_some q1
  obtain ⟨p0, rfl, q3⟩ := cList_some q2
  obtain ⟨a1, l1, rfl, q4⟩ := oCons_some q3
  obtain ⟨x1, rfl, q5⟩ := oC_some q4
  obtain ⟨p1, rfl, q6⟩ := cList_some q5
  obtain ⟨a2, l2, rfl, q7⟩ := oCons_some q6
  obtain ⟨x2, rfl, q8⟩ := oC_some q7
  obtain ⟨p2, rfl, q9⟩ := cInt_some q8
  obtain ⟨a3, l3, rfl, q10⟩ := oCons_some q9
  obtain ⟨x3, rfl, q11⟩ := oC_some q10
  obtain ⟨p3, rfl, q12⟩ := cBool_some q11
  obtain ⟨a4, l4, rfl, q13⟩ := oCons_some q12
  obtain ⟨x4, rfl, q14⟩ := oC_some q13
  obtain ⟨rfl, q15⟩ := cOwn_some q14
  obtain ⟨rfl, q16⟩ := oNil_some q15
  obtain ⟨p4, o0, rfl, q17⟩ := oRow_some q16
  obtain ⟨rfl, q18⟩ := oNilO_some q17
  exact eok_of (hs p0 p1 p2 p3 p4) q18

/-! ### 67: lariat/lariatref13.push -/
def X67 : Aux := ⟨[(1000010, [0, 1, 2, 3, 5, 6, 7, 8, 9, 10, 12, 13, 14, 15, 16, 17, 18, 19, 20, 21, 22, 23, 24, 25, 26, 27, 28, 29, 30, 31, 32, 33, 34, 35, 36, 37, 38, 39, 40, 41, 42, 43, 44, 45, 46, 47, 48, 49, 50, 51, 52, 53, 54, 55, 56, 57, 58, 59, 60, 61, 62, 63, 64, 65, 66, 67, 68, 69, 70, 71, 72, 73, 74, 75, 76, 77, 78, 79, 80, 81, 82, 83, 84, 85, 86, 87, 88, 89, 90, 91, 92, 93, 94, 95, 96, 97, 98, 99, 100, 101, 102, 103, 104, 105, 106, 107, 108, 109, 110, 111, 112, 113, 114, 115, 116, 117, 118, 119, 120, 121, 122, 123, 124, 125, 126, 127, 128, 129, 130, 131, 132, 133, 134, 135, 136, 137, 138, 139, 140, 141, 142, 143, 144, 145, 146, 147, 148, 149, 150, 151, 152, 153, 154, 155, 156]), (1000015, [0, 1, 2, 3, 5, 6, 7, 8, 9, 10, 11, 12, 13, 14, 15, 16, 17, 18, 19, 20, 21, 22, 23, 24, 25, 26, 27, 28, 29, 30, 31, 32, 33, 34, 35, 36, 37, 38, 39, 40, 41, 42, 43, 44, 45, 46, 47, 48, 49, 50, 51, 52, 53, 54, 55, 56, 57, 58, 59, 60, 61, 62, 63, 64, 65, 66, 67, 68, 69, 70, 71, 72, 73, 74, 75, 76, 77, 78, 79, 80, 81, 82, 83, 84, 85, 86, 87, 88, 89, 90, 91, 92, 93, 94, 95, 96, 97, 98, 99, 100, 101, 102, 103, 104, 105, 106, 107, 108, 109, 110, 111, 112, 113, 114, 115, 116, 117, 118, 119, 120, 121, 122, 123, 124, 125, 126, 127, 128, 129, 130, 131, 132, 133, 134, 135, 136, 137, 138, 139, 140, 141, 142, 143, 144, 145, 146, 147, 148, 149, 150, 151, 152, 153, 154, 155, 156]), (1000026, [2, 5, 6, 7, 8, 9, 10, 14, 15, 16, 17, 18, 19, 20, 21, 22, 23, 24, 25, 26, 27, 28, 29, 30, 31, 32, 33, 34, 35, 36, 37, 38, 39, 40, 41, 42, 43, 44, 45, 46, 47, 48, 49, 50, 51, 52, 53, 54, 55, 56, 57, 58, 59, 60, 61, 62, 63, 64, 65, 66, 67, 68, 69, 70, 71, 72, 73, 74, 75, 76, 77, 78, 79, 80, 81, 82, 83, 84, 85, 86, 87, 88, 89, 90, 91, 92, 93, 94, 95, 96, 97, 98, 99, 100, 101, 102, 103, 104, 105, 106, 107, 108, 109, 110, 111, 112, 113, 114, 115, 116, 117, 118, 119, 120, 121, 122, 123, 124, 125, 126, 127, 128, 129, 130, 131, 132, 133, 134, 135, 136, 137, 138, 139, 140, 141, 142, 143, 144, 145, 146, 147, 148, 149, 150, 151, 152, 153, 154, 155, 156]), (1000033, [2, 5, 6, 7, 8, 9, 10, 13, 15, 16, 17, 18, 19, 20, 21, 22, 23, 24, 25, 26, 27, 28, 29, 30, 31, 32, 33, 34, 35, 36, 37, 38, 39, 40, 41, 42, 43, 44, 45, 46, 47, 48, 49, 50, 51, 52, 53, 54, 55, 56, 57, 58, 59, 60, 61, 62, 63, 64, 65, 66, 67, 68, 69, 70, 71, 72, 73, 74, 75, 76, 77, 78, 79, 80, 81, 82, 83, 84, 85, 86, 87, 88, 89, 90, 91, 92, 93, 94, 95, 96, 97, 98, 99, 100, 101, 102, 103, 104, 105, 106, 107, 108, 109, 110, 111, 112, 113, 114, 115, 116, 117, 118, 119, 120, 121, 122, 123, 124, 125, 126, 127, 128, 129, 130, 131, 132, 133, 134, 135, 136, 137, 138, 139, 140, 141, 142, 143, 144, 145, 146, 147, 148, 149, 150, 151, 152, 153, 154, 155, 156]), (1000038, [0, 1, 2, 5, 6, 7, 8, 9, 10, 12, 13, 14, 15, 16, 17, 18, 19, 20, 21, 22, 23, 24, 25, 26, 27, 28, 29, 30, 31, 32, 33, 34, 35, 36, 37, 38, 39, 40, 41, 42, 43, 44, 45, 46, 47, 48, 49, 50, 51, 52, 53, 54, 55, 56, 57, 58, 59, 60, 61, 62, 63, 64, 65, 66, 67, 68, 69, 70, 71, 72, 73, 74, 75, 76, 77, 78, 79, 80, 81, 82, 83, 84, 85, 86, 87, 88, 89, 90, 91, 92, 93, 94, 95, 96, 97, 98, 99, 100, 101, 102, 103, 104, 105, 106, 107, 108, 109, 110, 111, 112, 113, 114, 115, 116, 117, 118, 119, 120, 121, 122, 123, 124, 125, 126, 127, 128, 129, 130, 131, 132, 133, 134, 135, 136, 137, 138, 139, 140, 141, 142, 143, 144, 145, 146, 147, 148, 149, 150, 151, 152, 153, 154, 155, 156])], [(26, .seq [0, 1, 2, 3, 4, 5, 6, 7, 8, 12, 13] (.alt (.seq [9] (.alt (.seq [10] (.alt (.lin [11, 14, 15, 16]) (.lin [14, 11, 15, 16]))) (.lin [14, 10, 11, 15, 16]))) (.lin [14, 9, 10, 11, 15, 16]))), (33, .seq [0, 1, 2, 3, 4, 5, 6, 7, 8, 12, 13] (.alt (.seq [9] (.alt (.seq [10] (.alt (.lin [11, 14, 15, 16]) (.lin [14, 11, 15, 16]))) (.lin [14, 10, 11, 15, 16]))) (.lin [14, 9, 10, 11, 15, 16])))]⟩
inductive S67 where
  | l1010 (v1010_0 : Int)
  | l1015 (v1015_0 : List ty66.den)
  | l1026 (v1026_3 : Int) (v1026_4 : List ty3.den) (v1026_5 : Int)
  | l1033 (v1033_3 : Int) (v1033_4 : List ty3.den) (v1033_5 : Int)
  | l1038 (v1038_1 : Int) (v1038_2 : List ty66.den)
def T67 {R : Type} (B : Ops) (c67 : List ty66.den → List ty22.den → Int → Bool → List ty66.den → Option ((List ty66.den))) (c82 : Int → Option (Int)) (p0 : List ty66.den) (p1 : List ty22.den) (p2 : Int) (p3 : Bool) (p4 : List ty66.den) (again : S67 → Option R) (k : ((List ty66.den)) → Option R) : Option S67 → Option R
  | none =>
    cond (Ops.inb B p2 (List.length p0))
     (
      cond (Ops.inb B p2 (List.length p1))
       (
        cond (Ops.eq B (Prod.fst (List.getD p0 (Int.toNat p2) (Ty.dflt ty66))) (1))
         (
          cond (p3)
           (
            again (.l1010 (IntKind.wrap IntKind.i64 (3 - Prod.fst (List.getD p0 (Int.toNat p2) (Ty.dflt ty66))))))
           (
            again (.l1010 (Prod.fst (List.getD p0 (Int.toNat p2) (Ty.dflt ty66))))))
         (
          cond (Ops.eq B (Prod.fst (List.getD p0 (Int.toNat p2) (Ty.dflt ty66))) (2))
           (
            cond (p3)
             (
              again (.l1010 (IntKind.wrap IntKind.i64 (3 - Prod.fst (List.getD p0 (Int.toNat p2) (Ty.dflt ty66))))))
             (
              again (.l1010 (Prod.fst (List.getD p0 (Int.toNat p2) (Ty.dflt ty66))))))
           (
            cond (Ops.eq B (Prod.fst (List.getD p0 (Int.toNat p2) (Ty.dflt ty66))) (3))
             (
              cond (Ops.inb B p2 (List.length p0))
               (
                cond (Ops.lim B (List.length p4 + List.length ((Prod.fst (List.getD p0 (Int.toNat p2) (Ty.dflt ty66)), Prod.snd (List.getD p0 (Int.toNat p2) (Ty.dflt ty66))) :: mt (Ty.den (Ty.pair (Ty.int IntKind.i64) (Ty.list (98) (Ty.pair (Ty.int IntKind.i64) (Ty.pair (Ty.int IntKind.i64) (Ty.pair Ty.str Ty.str)))))))) (32))
                 (
                  cond (p3)
                   (
                    cond (Ops.lim B (List.length (p4 ++ (Prod.fst (List.getD p0 (Int.toNat p2) (Ty.dflt ty66)), Prod.snd (List.getD p0 (Int.toNat p2) (Ty.dflt ty66))) :: mt (Ty.den (Ty.pair (Ty.int IntKind.i64) (Ty.list (98) (Ty.pair (Ty.int IntKind.i64) (Ty.pair (Ty.int IntKind.i64) (Ty.pair Ty.str Ty.str))))))) + List.length ((4, mt (Ty.den (Ty.pair (Ty.int IntKind.i64) (Ty.pair (Ty.int IntKind.i64) (Ty.pair Ty.str Ty.str))))) :: mt (Ty.den (Ty.pair (Ty.int IntKind.i64) (Ty.list (98) (Ty.pair (Ty.int IntKind.i64) (Ty.pair (Ty.int IntKind.i64) (Ty.pair Ty.str Ty.str)))))))) (32))
                     (
                      again (.l1015 (p4 ++ (Prod.fst (List.getD p0 (Int.toNat p2) (Ty.dflt ty66)), Prod.snd (List.getD p0 (Int.toNat p2) (Ty.dflt ty66))) :: mt (Ty.den (Ty.pair (Ty.int IntKind.i64) (Ty.list (98) (Ty.pair (Ty.int IntKind.i64) (Ty.pair (Ty.int IntKind.i64) (Ty.pair Ty.str Ty.str)))))) ++ (4, mt (Ty.den (Ty.pair (Ty.int IntKind.i64) (Ty.pair (Ty.int IntKind.i64) (Ty.pair Ty.str Ty.str))))) :: mt (Ty.den (Ty.pair (Ty.int IntKind.i64) (Ty.list (98) (Ty.pair (Ty.int IntKind.i64) (Ty.pair (Ty.int IntKind.i64) (Ty.pair Ty.str Ty.str)))))))))
                     (
                      none))
                   (
                    again (.l1015 (p4 ++ (Prod.fst (List.getD p0 (Int.toNat p2) (Ty.dflt ty66)), Prod.snd (List.getD p0 (Int.toNat p2) (Ty.dflt ty66))) :: mt (Ty.den (Ty.pair (Ty.int IntKind.i64) (Ty.list (98) (Ty.pair (Ty.int IntKind.i64) (Ty.pair (Ty.int IntKind.i64) (Ty.pair Ty.str Ty.str))))))))))
                 (
                  none))
               (
                none))
             (
              cond (Ops.eq B (Prod.fst (List.getD p0 (Int.toNat p2) (Ty.dflt ty66))) (4))
               (
                cond (Ops.inb B (0) (List.length (List.getD p1 (Int.toNat p2) (Ty.dflt ty22))))
                 (
                  ob (c67 p0 p1 (List.getD (List.getD p1 (Int.toNat p2) (Ty.dflt ty22)) (Int.toNat (0)) (Ty.dflt (Ty.int IntKind.i64))) (!p3) p4) fun y0 =>
                  k y0)
                 (
                  none))
               (
                cond (Ops.eq B (Prod.fst (List.getD p0 (Int.toNat p2) (Ty.dflt ty66))) (8))
                 (
                  cond (Ops.inb B (0) (List.length (List.getD p1 (Int.toNat p2) (Ty.dflt ty22))))
                   (
                    ob (c67 p0 p1 (List.getD (List.getD p1 (Int.toNat p2) (Ty.dflt ty22)) (Int.toNat (0)) (Ty.dflt (Ty.int IntKind.i64))) p3 p4) fun y0 =>
                    cond (Ops.lim B (List.length y0 + List.length ((Prod.fst (List.getD p0 (Int.toNat p2) (Ty.dflt ty66)), mt (Ty.den (Ty.pair (Ty.int IntKind.i64) (Ty.pair (Ty.int IntKind.i64) (Ty.pair Ty.str Ty.str))))) :: mt (Ty.den (Ty.pair (Ty.int IntKind.i64) (Ty.list (98) (Ty.pair (Ty.int IntKind.i64) (Ty.pair (Ty.int IntKind.i64) (Ty.pair Ty.str Ty.str)))))))) (32))
                     (
                      k (y0 ++ (Prod.fst (List.getD p0 (Int.toNat p2) (Ty.dflt ty66)), mt (Ty.den (Ty.pair (Ty.int IntKind.i64) (Ty.pair (Ty.int IntKind.i64) (Ty.pair Ty.str Ty.str))))) :: mt (Ty.den (Ty.pair (Ty.int IntKind.i64) (Ty.list (98) (Ty.pair (Ty.int IntKind.i64) (Ty.pair (Ty.int IntKind.i64) (Ty.pair Ty.str Ty.str))))))))
                     (
                      none))
                   (
                    none))
                 (
                  cond (Ops.eq B (Prod.fst (List.getD p0 (Int.toNat p2) (Ty.dflt ty66))) (11))
                   (
                    cond (p3)
                     (
                      again (.l1026 10 (List.getD p1 (Int.toNat p2) (Ty.dflt ty22)) 2))
                     (
                      again (.l1026 9 (List.getD p1 (Int.toNat p2) (Ty.dflt ty22)) 1)))
                   (
                    cond (Ops.eq B (Prod.fst (List.getD p0 (Int.toNat p2) (Ty.dflt ty66))) (12))
                     (
                      cond (p3)
                       (
                        again (.l1033 9 (List.getD p1 (Int.toNat p2) (Ty.dflt ty22)) 1))
                       (
                        again (.l1033 10 (List.getD p1 (Int.toNat p2) (Ty.dflt ty22)) 2)))
                     (
                      cond (Ops.eq B (Prod.fst (List.getD p0 (Int.toNat p2) (Ty.dflt ty66))) (7))
                       (
                        cond (Ops.inb B (0) (List.length (List.getD p1 (Int.toNat p2) (Ty.dflt ty22))))
                         (
                          ob (c67 p0 p1 (List.getD (List.getD p1 (Int.toNat p2) (Ty.dflt ty22)) (Int.toNat (0)) (Ty.dflt (Ty.int IntKind.i64))) (!p3) p4) fun y0 =>
                          cond (Ops.inb B (1) (List.length (List.getD p1 (Int.toNat p2) (Ty.dflt ty22))))
                           (
                            ob (c67 p0 p1 (List.getD (List.getD p1 (Int.toNat p2) (Ty.dflt ty22)) (Int.toNat (1)) (Ty.dflt (Ty.int IntKind.i64))) p3 y0) fun y1 =>
                            again (.l1038 6 y1))
                           (
                            none))
                         (
                          none))
                       (
                        cond (Ops.inb B (0) (List.length (List.getD p1 (Int.toNat p2) (Ty.dflt ty22))))
                         (
                          ob (c67 p0 p1 (List.getD (List.getD p1 (Int.toNat p2) (Ty.dflt ty22)) (Int.toNat (0)) (Ty.dflt (Ty.int IntKind.i64))) p3 p4) fun y0 =>
                          cond (Ops.inb B (1) (List.length (List.getD p1 (Int.toNat p2) (Ty.dflt ty22))))
                           (
                            ob (c67 p0 p1 (List.getD (List.getD p1 (Int.toNat p2) (Ty.dflt ty22)) (Int.toNat (1)) (Ty.dflt (Ty.int IntKind.i64))) p3 y0) fun y1 =>
                            again (.l1038 (Prod.fst (List.getD p0 (Int.toNat p2) (Ty.dflt ty66))) y1))
                           (
                            none))
                         (
                          none))))))))))
       (
        none))
     (
      none)
  | some (.l1010 v1010_0) =>
    cond (Ops.lim B (List.length p4 + List.length ((v1010_0, mt (Ty.den (Ty.pair (Ty.int IntKind.i64) (Ty.pair (Ty.int IntKind.i64) (Ty.pair Ty.str Ty.str))))) :: mt (Ty.den (Ty.pair (Ty.int IntKind.i64) (Ty.list (98) (Ty.pair (Ty.int IntKind.i64) (Ty.pair (Ty.int IntKind.i64) (Ty.pair Ty.str Ty.str)))))))) (32))
     (
      k (p4 ++ (v1010_0, mt (Ty.den (Ty.pair (Ty.int IntKind.i64) (Ty.pair (Ty.int IntKind.i64) (Ty.pair Ty.str Ty.str))))) :: mt (Ty.den (Ty.pair (Ty.int IntKind.i64) (Ty.list (98) (Ty.pair (Ty.int IntKind.i64) (Ty.pair (Ty.int IntKind.i64) (Ty.pair Ty.str Ty.str))))))))
     (
      none)
  | some (.l1015 v1015_0) =>
    k v1015_0
  | some (.l1026 v1026_3 v1026_4 v1026_5) =>
    cond (Ops.inb B (0) (List.length v1026_4))
     (
      cond (Ops.lim B (List.length p4 + List.length ((v1026_5, mt (Ty.den (Ty.pair (Ty.int IntKind.i64) (Ty.pair (Ty.int IntKind.i64) (Ty.pair Ty.str Ty.str))))) :: mt (Ty.den (Ty.pair (Ty.int IntKind.i64) (Ty.list (98) (Ty.pair (Ty.int IntKind.i64) (Ty.pair (Ty.int IntKind.i64) (Ty.pair Ty.str Ty.str)))))))) (32))
       (
        ob (c67 p0 p1 (List.getD v1026_4 (Int.toNat (0)) (Ty.dflt ty3)) p3 (p4 ++ (v1026_5, mt (Ty.den (Ty.pair (Ty.int IntKind.i64) (Ty.pair (Ty.int IntKind.i64) (Ty.pair Ty.str Ty.str))))) :: mt (Ty.den (Ty.pair (Ty.int IntKind.i64) (Ty.list (98) (Ty.pair (Ty.int IntKind.i64) (Ty.pair (Ty.int IntKind.i64) (Ty.pair Ty.str Ty.str)))))))) fun y0 =>
        cond (Ops.lim B (List.length y0 + List.length ((v1026_3, mt (Ty.den (Ty.pair (Ty.int IntKind.i64) (Ty.pair (Ty.int IntKind.i64) (Ty.pair Ty.str Ty.str))))) :: mt (Ty.den (Ty.pair (Ty.int IntKind.i64) (Ty.list (98) (Ty.pair (Ty.int IntKind.i64) (Ty.pair (Ty.int IntKind.i64) (Ty.pair Ty.str Ty.str)))))))) (32))
         (
          k (y0 ++ (v1026_3, mt (Ty.den (Ty.pair (Ty.int IntKind.i64) (Ty.pair (Ty.int IntKind.i64) (Ty.pair Ty.str Ty.str))))) :: mt (Ty.den (Ty.pair (Ty.int IntKind.i64) (Ty.list (98) (Ty.pair (Ty.int IntKind.i64) (Ty.pair (Ty.int IntKind.i64) (Ty.pair Ty.str Ty.str))))))))
         (
          none))
       (
        none))
     (
      none)
  | some (.l1033 v1033_3 v1033_4 v1033_5) =>
    cond (Ops.inb B (0) (List.length v1033_4))
     (
      cond (Ops.lim B (List.length p4 + List.length ((v1033_5, mt (Ty.den (Ty.pair (Ty.int IntKind.i64) (Ty.pair (Ty.int IntKind.i64) (Ty.pair Ty.str Ty.str))))) :: mt (Ty.den (Ty.pair (Ty.int IntKind.i64) (Ty.list (98) (Ty.pair (Ty.int IntKind.i64) (Ty.pair (Ty.int IntKind.i64) (Ty.pair Ty.str Ty.str)))))))) (32))
       (
        ob (c67 p0 p1 (List.getD v1033_4 (Int.toNat (0)) (Ty.dflt ty3)) p3 (p4 ++ (v1033_5, mt (Ty.den (Ty.pair (Ty.int IntKind.i64) (Ty.pair (Ty.int IntKind.i64) (Ty.pair Ty.str Ty.str))))) :: mt (Ty.den (Ty.pair (Ty.int IntKind.i64) (Ty.list (98) (Ty.pair (Ty.int IntKind.i64) (Ty.pair (Ty.int IntKind.i64) (Ty.pair Ty.str Ty.str)))))))) fun y0 =>
        cond (Ops.lim B (List.length y0 + List.length ((v1033_3, mt (Ty.den (Ty.pair (Ty.int IntKind.i64) (Ty.pair (Ty.int IntKind.i64) (Ty.pair Ty.str Ty.str))))) :: mt (Ty.den (Ty.pair (Ty.int IntKind.i64) (Ty.list (98) (Ty.pair (Ty.int IntKind.i64) (Ty.pair (Ty.int IntKind.i64) (Ty.pair Ty.str Ty.str)))))))) (32))
         (
          k (y0 ++ (v1033_3, mt (Ty.den (Ty.pair (Ty.int IntKind.i64) (Ty.pair (Ty.int IntKind.i64) (Ty.pair Ty.str Ty.str))))) :: mt (Ty.den (Ty.pair (Ty.int IntKind.i64) (Ty.list (98) (Ty.pair (Ty.int IntKind.i64) (Ty.pair (Ty.int IntKind.i64) (Ty.pair Ty.str Ty.str))))))))
         (
          none))
       (
        none))
     (
      none)
  | some (.l1038 v1038_1 v1038_2) =>
    cond (p3)
     (
      ob (c82 v1038_1) fun y0 =>
      cond (Ops.lim B (List.length v1038_2 + List.length ((y0, mt (Ty.den (Ty.pair (Ty.int IntKind.i64) (Ty.pair (Ty.int IntKind.i64) (Ty.pair Ty.str Ty.str))))) :: mt (Ty.den (Ty.pair (Ty.int IntKind.i64) (Ty.list (98) (Ty.pair (Ty.int IntKind.i64) (Ty.pair (Ty.int IntKind.i64) (Ty.pair Ty.str Ty.str)))))))) (32))
       (
        k (v1038_2 ++ (y0, mt (Ty.den (Ty.pair (Ty.int IntKind.i64) (Ty.pair (Ty.int IntKind.i64) (Ty.pair Ty.str Ty.str))))) :: mt (Ty.den (Ty.pair (Ty.int IntKind.i64) (Ty.list (98) (Ty.pair (Ty.int IntKind.i64) (Ty.pair (Ty.int IntKind.i64) (Ty.pair Ty.str Ty.str))))))))
       (
        none))
     (
      cond (Ops.lim B (List.length v1038_2 + List.length ((v1038_1, mt (Ty.den (Ty.pair (Ty.int IntKind.i64) (Ty.pair (Ty.int IntKind.i64) (Ty.pair Ty.str Ty.str))))) :: mt (Ty.den (Ty.pair (Ty.int IntKind.i64) (Ty.list (98) (Ty.pair (Ty.int IntKind.i64) (Ty.pair (Ty.int IntKind.i64) (Ty.pair Ty.str Ty.str)))))))) (32))
       (
        k (v1038_2 ++ (v1038_1, mt (Ty.den (Ty.pair (Ty.int IntKind.i64) (Ty.pair (Ty.int IntKind.i64) (Ty.pair Ty.str Ty.str))))) :: mt (Ty.den (Ty.pair (Ty.int IntKind.i64) (Ty.list (98) (Ty.pair (Ty.int IntKind.i64) (Ty.pair (Ty.int IntKind.i64) (Ty.pair Ty.str Ty.str))))))))
       (
        none))
def E67 (p0 : List ty66.den) (p1 : List ty22.den) (p2 : Int) (p3 : Bool) (p4 : List ty66.den) : S67 → List AV × Objs
  | .l1010 v1010_0 => (mk 157 [(4, .c (.own 4)), (11, .c (.int .i64 v1010_0))], [(4, .row 66 ty66 p4)])
  | .l1015 v1015_0 => (mk 157 [(4, .c (.own 4))], [(4, .row 66 ty66 v1015_0)])
  | .l1026 v1026_3 v1026_4 v1026_5 => (mk 157 [(0, .c (.list 66 ty66 p0)), (1, .c (.list 22 ty22 p1)), (3, .c (.bool p3)), (4, .c (.own 4)), (11, .c (.int .i64 v1026_3)), (12, .c (.list 3 ty3 v1026_4)), (13, .c (.int .i64 v1026_5))], [(4, .row 66 ty66 p4)])
  | .l1033 v1033_3 v1033_4 v1033_5 => (mk 157 [(0, .c (.list 66 ty66 p0)), (1, .c (.list 22 ty22 p1)), (3, .c (.bool p3)), (4, .c (.own 4)), (11, .c (.int .i64 v1033_3)), (12, .c (.list 3 ty3 v1033_4)), (14, .c (.int .i64 v1033_5))], [(4, .row 66 ty66 p4)])
  | .l1038 v1038_1 v1038_2 => (mk 157 [(3, .c (.bool p3)), (4, .c (.own 4)), (11, .c (.int .i64 v1038_1))], [(4, .row 66 ty66 v1038_2)])
def I67 : S67 → Nat
  | .l1010 _ => 1010
  | .l1015 _ => 1015
  | .l1026 _ _ _ => 1026
  | .l1033 _ _ _ => 1033
  | .l1038 _ _ => 1038
noncomputable def Ta67 {R : Type} (B : Ops) (c67 : List ty66.den → List ty22.den → Int → Bool → List ty66.den → Option ((List ty66.den))) (c82 : Int → Option (Int)) (p0 : List ty66.den) (p1 : List ty22.den) (p2 : Int) (p3 : Bool) (p4 : List ty66.den) (again : S67 → Option R) (k : ((List ty66.den)) → Option R) : Option S67 → Option R
  | none =>
    cond (Ops.inb B p2 (List.length p0))
     (
      cond (Ops.inb B p2 (List.length p1))
       (
        cond (Ops.eq B (Prod.fst (List.getD p0 (Int.toNat p2) (Ty.dflt ty66))) (1))
         (
          cond (p3)
           (
            again (.l1010 (IntKind.wrap IntKind.i64 (3 - Prod.fst (List.getD p0 (Int.toNat p2) (Ty.dflt ty66))))))
           (
            again (.l1010 (Prod.fst (List.getD p0 (Int.toNat p2) (Ty.dflt ty66))))))
         (
          cond (Ops.eq B (Prod.fst (List.getD p0 (Int.toNat p2) (Ty.dflt ty66))) (2))
           (
            cond (p3)
             (
              again (.l1010 (IntKind.wrap IntKind.i64 (3 - Prod.fst (List.getD p0 (Int.toNat p2) (Ty.dflt ty66))))))
             (
              again (.l1010 (Prod.fst (List.getD p0 (Int.toNat p2) (Ty.dflt ty66))))))
           (
            cond (Ops.eq B (Prod.fst (List.getD p0 (Int.toNat p2) (Ty.dflt ty66))) (3))
             (
              cond (Ops.inb B p2 (List.length p0))
               (
                cond (Ops.lim B (List.length p4 + List.length ((Prod.fst (List.getD p0 (Int.toNat p2) (Ty.dflt ty66)), Prod.snd (List.getD p0 (Int.toNat p2) (Ty.dflt ty66))) :: mt (Ty.den (Ty.pair (Ty.int IntKind.i64) (Ty.list (98) (Ty.pair (Ty.int IntKind.i64) (Ty.pair (Ty.int IntKind.i64) (Ty.pair Ty.str Ty.str)))))))) (32))
                 (
                  cond (p3)
                   (
                    cond (Ops.lim B (List.length (p4 ++ (Prod.fst (List.getD p0 (Int.toNat p2) (Ty.dflt ty66)), Prod.snd (List.getD p0 (Int.toNat p2) (Ty.dflt ty66))) :: mt (Ty.den (Ty.pair (Ty.int IntKind.i64) (Ty.list (98) (Ty.pair (Ty.int IntKind.i64) (Ty.pair (Ty.int IntKind.i64) (Ty.pair Ty.str Ty.str))))))) + List.length ((4, mt (Ty.den (Ty.pair (Ty.int IntKind.i64) (Ty.pair (Ty.int IntKind.i64) (Ty.pair Ty.str Ty.str))))) :: mt (Ty.den (Ty.pair (Ty.int IntKind.i64) (Ty.list (98) (Ty.pair (Ty.int IntKind.i64) (Ty.pair (Ty.int IntKind.i64) (Ty.pair Ty.str Ty.str)))))))) (32))
                     (
                      again (.l1015 (p4 ++ (Prod.fst (List.getD p0 (Int.toNat p2) (Ty.dflt ty66)), Prod.snd (List.getD p0 (Int.toNat p2) (Ty.dflt ty66))) :: mt (Ty.den (Ty.pair (Ty.int IntKind.i64) (Ty.list (98) (Ty.pair (Ty.int IntKind.i64) (Ty.pair (Ty.int IntKind.i64) (Ty.pair Ty.str Ty.str)))))) ++ (4, mt (Ty.den (Ty.pair (Ty.int IntKind.i64) (Ty.pair (Ty.int IntKind.i64) (Ty.pair Ty.str Ty.str))))) :: mt (Ty.den (Ty.pair (Ty.int IntKind.i64) (Ty.list (98) (Ty.pair (Ty.int IntKind.i64) (Ty.pair (Ty.int IntKind.i64) (Ty.pair Ty.str Ty.str)))))))))
                     (
                      none))
                   (
                    again (.l1015 (p4 ++ (Prod.fst (List.getD p0 (Int.toNat p2) (Ty.dflt ty66)), Prod.snd (List.getD p0 (Int.toNat p2) (Ty.dflt ty66))) :: mt (Ty.den (Ty.pair (Ty.int IntKind.i64) (Ty.list (98) (Ty.pair (Ty.int IntKind.i64) (Ty.pair (Ty.int IntKind.i64) (Ty.pair Ty.str Ty.str))))))))))
                 (
                  none))
               (
                none))
             (
              cond (Ops.eq B (Prod.fst (List.getD p0 (Int.toNat p2) (Ty.dflt ty66))) (4))
               (
                cond (Ops.inb B (0) (List.length (List.getD p1 (Int.toNat p2) (Ty.dflt ty22))))
                 (
                  ob (c67 p0 p1 (List.getD (List.getD p1 (Int.toNat p2) (Ty.dflt ty22)) (Int.toNat (0)) (Ty.dflt (Ty.int IntKind.i64))) (!p3) p4) fun y0 =>
                  k y0)
                 (
                  none))
               (
                cond (Ops.eq B (Prod.fst (List.getD p0 (Int.toNat p2) (Ty.dflt ty66))) (8))
                 (
                  cond (Ops.inb B (0) (List.length (List.getD p1 (Int.toNat p2) (Ty.dflt ty22))))
                   (
                    ob (c67 p0 p1 (List.getD (List.getD p1 (Int.toNat p2) (Ty.dflt ty22)) (Int.toNat (0)) (Ty.dflt (Ty.int IntKind.i64))) p3 p4) fun y0 =>
                    cond (Ops.lim B (List.length y0 + List.length ((Prod.fst (List.getD p0 (Int.toNat p2) (Ty.dflt ty66)), mt (Ty.den (Ty.pair (Ty.int IntKind.i64) (Ty.pair (Ty.int IntKind.i64) (Ty.pair Ty.str Ty.str))))) :: mt (Ty.den (Ty.pair (Ty.int IntKind.i64) (Ty.list (98) (Ty.pair (Ty.int IntKind.i64) (Ty.pair (Ty.int IntKind.i64) (Ty.pair Ty.str Ty.str)))))))) (32))
                     (
                      k (y0 ++ (Prod.fst (List.getD p0 (Int.toNat p2) (Ty.dflt ty66)), mt (Ty.den (Ty.pair (Ty.int IntKind.i64) (Ty.pair (Ty.int IntKind.i64) (Ty.pair Ty.str Ty.str))))) :: mt (Ty.den (Ty.pair (Ty.int IntKind.i64) (Ty.list (98) (Ty.pair (Ty.int IntKind.i64) (Ty.pair (Ty.int IntKind.i64) (Ty.pair Ty.str Ty.str))))))))
                     (
                      none))
                   (
                    none))
                 (
                  cond (Ops.eq B (Prod.fst (List.getD p0 (Int.toNat p2) (Ty.dflt ty66))) (11))
                   (
                    cond (p3)
                     (
                      again (.l1026 10 (List.getD p1 (Int.toNat p2) (Ty.dflt ty22)) 2))
                     (
                      again (.l1026 9 (List.getD p1 (Int.toNat p2) (Ty.dflt ty22)) 1)))
                   (
                    cond (Ops.eq B (Prod.fst (List.getD p0 (Int.toNat p2) (Ty.dflt ty66))) (12))
                     (
                      cond (p3)
                       (
                        again (.l1033 9 (List.getD p1 (Int.toNat p2) (Ty.dflt ty22)) 1))
                       (
                        again (.l1033 10 (List.getD p1 (Int.toNat p2) (Ty.dflt ty22)) 2)))
                     (
                      cond (Ops.eq B (Prod.fst (List.getD p0 (Int.toNat p2) (Ty.dflt ty66))) (7))
                       (
                        cond (Ops.inb B (0) (List.length (List.getD p1 (Int.toNat p2) (Ty.dflt ty22))))
                         (
                          ob (c67 p0 p1 (List.getD (List.getD p1 (Int.toNat p2) (Ty.dflt ty22)) (Int.toNat (0)) (Ty.dflt (Ty.int IntKind.i64))) (!p3) p4) fun y0 =>
                          cond (Ops.inb B (1) (List.length (List.getD p1 (Int.toNat p2) (Ty.dflt ty22))))
                           (
                            ob (c67 p0 p1 (List.getD (List.getD p1 (Int.toNat p2) (Ty.dflt ty22)) (Int.toNat (1)) (Ty.dflt (Ty.int IntKind.i64))) p3 y0) fun y1 =>
                            again (.l1038 6 y1))
                           (
                            none))
                         (
                          none))
                       (
                        cond (Ops.inb B (0) (List.length (List.getD p1 (Int.toNat p2) (Ty.dflt ty22))))
                         (
                          ob (c67 p0 p1 (List.getD (List.getD p1 (Int.toNat p2) (Ty.dflt ty22)) (Int.toNat (0)) (Ty.dflt (Ty.int IntKind.i64))) p3 p4) fun y0 =>
                          cond (Ops.inb B (1) (List.length (List.getD p1 (Int.toNat p2) (Ty.dflt ty22))))
                           (
                            ob (c67 p0 p1 (List.getD (List.getD p1 (Int.toNat p2) (Ty.dflt ty22)) (Int.toNat (1)) (Ty.dflt (Ty.int IntKind.i64))) p3 y0) fun y1 =>
                            again (.l1038 (Prod.fst (List.getD p0 (Int.toNat p2) (Ty.dflt ty66))) y1))
                           (
                            none))
                         (
                          none))))))))))
       (
        none))
     (
      none)
  | some (.l1010 v1010_0) =>
    cond (Ops.lim B (List.length p4 + List.length ((v1010_0, mt (Ty.den (Ty.pair (Ty.int IntKind.i64) (Ty.pair (Ty.int IntKind.i64) (Ty.pair Ty.str Ty.str))))) :: mt (Ty.den (Ty.pair (Ty.int IntKind.i64) (Ty.list (98) (Ty.pair (Ty.int IntKind.i64) (Ty.pair (Ty.int IntKind.i64) (Ty.pair Ty.str Ty.str)))))))) (32))
     (
      k (p4 ++ (v1010_0, mt (Ty.den (Ty.pair (Ty.int IntKind.i64) (Ty.pair (Ty.int IntKind.i64) (Ty.pair Ty.str Ty.str))))) :: mt (Ty.den (Ty.pair (Ty.int IntKind.i64) (Ty.list (98) (Ty.pair (Ty.int IntKind.i64) (Ty.pair (Ty.int IntKind.i64) (Ty.pair Ty.str Ty.str))))))))
     (
      none)
  | some (.l1015 v1015_0) =>
    k v1015_0
  | some (.l1026 v1026_3 v1026_4 v1026_5) =>
    cond (Ops.inb B (0) (List.length v1026_4))
     (
      agree
       (
        agree
         (
          cond (Ops.lim B (List.length p4 + List.length ((v1026_5, mt (Ty.den (Ty.pair (Ty.int IntKind.i64) (Ty.pair (Ty.int IntKind.i64) (Ty.pair Ty.str Ty.str))))) :: mt (Ty.den (Ty.pair (Ty.int IntKind.i64) (Ty.list (98) (Ty.pair (Ty.int IntKind.i64) (Ty.pair (Ty.int IntKind.i64) (Ty.pair Ty.str Ty.str)))))))) (32))
           (
            agree
             (
              ob (c67 p0 p1 (List.getD v1026_4 (Int.toNat (0)) (Ty.dflt ty3)) p3 (p4 ++ (v1026_5, mt (Ty.den (Ty.pair (Ty.int IntKind.i64) (Ty.pair (Ty.int IntKind.i64) (Ty.pair Ty.str Ty.str))))) :: mt (Ty.den (Ty.pair (Ty.int IntKind.i64) (Ty.list (98) (Ty.pair (Ty.int IntKind.i64) (Ty.pair (Ty.int IntKind.i64) (Ty.pair Ty.str Ty.str)))))))) fun y0 =>
              cond (Ops.lim B (List.length y0 + List.length ((v1026_3, mt (Ty.den (Ty.pair (Ty.int IntKind.i64) (Ty.pair (Ty.int IntKind.i64) (Ty.pair Ty.str Ty.str))))) :: mt (Ty.den (Ty.pair (Ty.int IntKind.i64) (Ty.list (98) (Ty.pair (Ty.int IntKind.i64) (Ty.pair (Ty.int IntKind.i64) (Ty.pair Ty.str Ty.str)))))))) (32))
               (
                k (y0 ++ (v1026_3, mt (Ty.den (Ty.pair (Ty.int IntKind.i64) (Ty.pair (Ty.int IntKind.i64) (Ty.pair Ty.str Ty.str))))) :: mt (Ty.den (Ty.pair (Ty.int IntKind.i64) (Ty.list (98) (Ty.pair (Ty.int IntKind.i64) (Ty.pair (Ty.int IntKind.i64) (Ty.pair Ty.str Ty.str))))))))
               (
                none))
             (
              ob (c67 p0 p1 (List.getD v1026_4 (Int.toNat (0)) (Ty.dflt ty3)) p3 (p4 ++ (v1026_5, mt (Ty.den (Ty.pair (Ty.int IntKind.i64) (Ty.pair (Ty.int IntKind.i64) (Ty.pair Ty.str Ty.str))))) :: mt (Ty.den (Ty.pair (Ty.int IntKind.i64) (Ty.list (98) (Ty.pair (Ty.int IntKind.i64) (Ty.pair (Ty.int IntKind.i64) (Ty.pair Ty.str Ty.str)))))))) fun y0 =>
              cond (Ops.lim B (List.length y0 + List.length ((v1026_3, mt (Ty.den (Ty.pair (Ty.int IntKind.i64) (Ty.pair (Ty.int IntKind.i64) (Ty.pair Ty.str Ty.str))))) :: mt (Ty.den (Ty.pair (Ty.int IntKind.i64) (Ty.list (98) (Ty.pair (Ty.int IntKind.i64) (Ty.pair (Ty.int IntKind.i64) (Ty.pair Ty.str Ty.str)))))))) (32))
               (
                k (y0 ++ (v1026_3, mt (Ty.den (Ty.pair (Ty.int IntKind.i64) (Ty.pair (Ty.int IntKind.i64) (Ty.pair Ty.str Ty.str))))) :: mt (Ty.den (Ty.pair (Ty.int IntKind.i64) (Ty.list (98) (Ty.pair (Ty.int IntKind.i64) (Ty.pair (Ty.int IntKind.i64) (Ty.pair Ty.str Ty.str))))))))
               (
                none)))
           (
            none))
         (
          cond (Ops.lim B (List.length p4 + List.length ((v1026_5, mt (Ty.den (Ty.pair (Ty.int IntKind.i64) (Ty.pair (Ty.int IntKind.i64) (Ty.pair Ty.str Ty.str))))) :: mt (Ty.den (Ty.pair (Ty.int IntKind.i64) (Ty.list (98) (Ty.pair (Ty.int IntKind.i64) (Ty.pair (Ty.int IntKind.i64) (Ty.pair Ty.str Ty.str)))))))) (32))
           (
            ob (c67 p0 p1 (List.getD v1026_4 (Int.toNat (0)) (Ty.dflt ty3)) p3 (p4 ++ (v1026_5, mt (Ty.den (Ty.pair (Ty.int IntKind.i64) (Ty.pair (Ty.int IntKind.i64) (Ty.pair Ty.str Ty.str))))) :: mt (Ty.den (Ty.pair (Ty.int IntKind.i64) (Ty.list (98) (Ty.pair (Ty.int IntKind.i64) (Ty.pair (Ty.int IntKind.i64) (Ty.pair Ty.str Ty.str)))))))) fun y0 =>
            cond (Ops.lim B (List.length y0 + List.length ((v1026_3, mt (Ty.den (Ty.pair (Ty.int IntKind.i64) (Ty.pair (Ty.int IntKind.i64) (Ty.pair Ty.str Ty.str))))) :: mt (Ty.den (Ty.pair (Ty.int IntKind.i64) (Ty.list (98) (Ty.pair (Ty.int IntKind.i64) (Ty.pair (Ty.int IntKind.i64) (Ty.pair Ty.str Ty.str)))))))) (32))
             (
              k (y0 ++ (v1026_3, mt (Ty.den (Ty.pair (Ty.int IntKind.i64) (Ty.pair (Ty.int IntKind.i64) (Ty.pair Ty.str Ty.str))))) :: mt (Ty.den (Ty.pair (Ty.int IntKind.i64) (Ty.list (98) (Ty.pair (Ty.int IntKind.i64) (Ty.pair (Ty.int IntKind.i64) (Ty.pair Ty.str Ty.str))))))))
             (
              none))
           (
            none)))
       (
        cond (Ops.lim B (List.length p4 + List.length ((v1026_5, mt (Ty.den (Ty.pair (Ty.int IntKind.i64) (Ty.pair (Ty.int IntKind.i64) (Ty.pair Ty.str Ty.str))))) :: mt (Ty.den (Ty.pair (Ty.int IntKind.i64) (Ty.list (98) (Ty.pair (Ty.int IntKind.i64) (Ty.pair (Ty.int IntKind.i64) (Ty.pair Ty.str Ty.str)))))))) (32))
         (
          ob (c67 p0 p1 (List.getD v1026_4 (Int.toNat (0)) (Ty.dflt ty3)) p3 (p4 ++ (v1026_5, mt (Ty.den (Ty.pair (Ty.int IntKind.i64) (Ty.pair (Ty.int IntKind.i64) (Ty.pair Ty.str Ty.str))))) :: mt (Ty.den (Ty.pair (Ty.int IntKind.i64) (Ty.list (98) (Ty.pair (Ty.int IntKind.i64) (Ty.pair (Ty.int IntKind.i64) (Ty.pair Ty.str Ty.str)))))))) fun y0 =>
          cond (Ops.lim B (List.length y0 + List.length ((v1026_3, mt (Ty.den (Ty.pair (Ty.int IntKind.i64) (Ty.pair (Ty.int IntKind.i64) (Ty.pair Ty.str Ty.str))))) :: mt (Ty.den (Ty.pair (Ty.int IntKind.i64) (Ty.list (98) (Ty.pair (Ty.int IntKind.i64) (Ty.pair (Ty.int IntKind.i64) (Ty.pair Ty.str Ty.str)))))))) (32))
           (
            k (y0 ++ (v1026_3, mt (Ty.den (Ty.pair (Ty.int IntKind.i64) (Ty.pair (Ty.int IntKind.i64) (Ty.pair Ty.str Ty.str))))) :: mt (Ty.den (Ty.pair (Ty.int IntKind.i64) (Ty.list (98) (Ty.pair (Ty.int IntKind.i64) (Ty.pair (Ty.int IntKind.i64) (Ty.pair Ty.str Ty.str))))))))
           (
            none))
         (
          none)))
     (
      none)
  | some (.l1033 v1033_3 v1033_4 v1033_5) =>
    cond (Ops.inb B (0) (List.length v1033_4))
     (
      agree
       (
        agree
         (
          cond (Ops.lim B (List.length p4 + List.length ((v1033_5, mt (Ty.den (Ty.pair (Ty.int IntKind.i64) (Ty.pair (Ty.int IntKind.i64) (Ty.pair Ty.str Ty.str))))) :: mt (Ty.den (Ty.pair (Ty.int IntKind.i64) (Ty.list (98) (Ty.pair (Ty.int IntKind.i64) (Ty.pair (Ty.int IntKind.i64) (Ty.pair Ty.str Ty.str)))))))) (32))
           (
            agree
             (
              ob (c67 p0 p1 (List.getD v1033_4 (Int.toNat (0)) (Ty.dflt ty3)) p3 (p4 ++ (v1033_5, mt (Ty.den (Ty.pair (Ty.int IntKind.i64) (Ty.pair (Ty.int IntKind.i64) (Ty.pair Ty.str Ty.str))))) :: mt (Ty.den (Ty.pair (Ty.int IntKind.i64) (Ty.list (98) (Ty.pair (Ty.int IntKind.i64) (Ty.pair (Ty.int IntKind.i64) (Ty.pair Ty.str Ty.str)))))))) fun y0 =>
              cond (Ops.lim B (List.length y0 + List.length ((v1033_3, mt (Ty.den (Ty.pair (Ty.int IntKind.i64) (Ty.pair (Ty.int IntKind.i64) (Ty.pair Ty.str Ty.str))))) :: mt (Ty.den (Ty.pair (Ty.int IntKind.i64) (Ty.list (98) (Ty.pair (Ty.int IntKind.i64) (Ty.pair (Ty.int IntKind.i64) (Ty.pair Ty.str Ty.str)))))))) (32))
               (
                k (y0 ++ (v1033_3, mt (Ty.den (Ty.pair (Ty.int IntKind.i64) (Ty.pair (Ty.int IntKind.i64) (Ty.pair Ty.str Ty.str))))) :: mt (Ty.den (Ty.pair (Ty.int IntKind.i64) (Ty.list (98) (Ty.pair (Ty.int IntKind.i64) (Ty.pair (Ty.int IntKind.i64) (Ty.pair Ty.str Ty.str))))))))
               (
                none))
             (
              ob (c67 p0 p1 (List.getD v1033_4 (Int.toNat (0)) (Ty.dflt ty3)) p3 (p4 ++ (v1033_5, mt (Ty.den (Ty.pair (Ty.int IntKind.i64) (Ty.pair (Ty.int IntKind.i64) (Ty.pair Ty.str Ty.str))))) :: mt (Ty.den (Ty.pair (Ty.int IntKind.i64) (Ty.list (98) (Ty.pair (Ty.int IntKind.i64) (Ty.pair (Ty.int IntKind.i64) (Ty.pair Ty.str Ty.str)))))))) fun y0 =>
              cond (Ops.lim B (List.length y0 + List.length ((v1033_3, mt (Ty.den (Ty.pair (Ty.int IntKind.i64) (Ty.pair (Ty.int IntKind.i64) (Ty.pair Ty.str Ty.str))))) :: mt (Ty.den (Ty.pair (Ty.int IntKind.i64) (Ty.list (98) (Ty.pair (Ty.int IntKind.i64) (Ty.pair (Ty.int IntKind.i64) (Ty.pair Ty.str Ty.str)))))))) (32))
               (
                k (y0 ++ (v1033_3, mt (Ty.den (Ty.pair (Ty.int IntKind.i64) (Ty.pair (Ty.int IntKind.i64) (Ty.pair Ty.str Ty.str))))) :: mt (Ty.den (Ty.pair (Ty.int IntKind.i64) (Ty.list (98) (Ty.pair (Ty.int IntKind.i64) (Ty.pair (Ty.int IntKind.i64) (Ty.pair Ty.str Ty.str))))))))
               (
                none)))
           (
            none))
         (
          cond (Ops.lim B (List.length p4 + List.length ((v1033_5, mt (Ty.den (Ty.pair (Ty.int IntKind.i64) (Ty.pair (Ty.int IntKind.i64) (Ty.pair Ty.str Ty.str))))) :: mt (Ty.den (Ty.pair (Ty.int IntKind.i64) (Ty.list (98) (Ty.pair (Ty.int IntKind.i64) (Ty.pair (Ty.int IntKind.i64) (Ty.pair Ty.str Ty.str)))))))) (32))
           (
            ob (c67 p0 p1 (List.getD v1033_4 (Int.toNat (0)) (Ty.dflt ty3)) p3 (p4 ++ (v1033_5, mt (Ty.den (Ty.pair (Ty.int IntKind.i64) (Ty.pair (Ty.int IntKind.i64) (Ty.pair Ty.str Ty.str))))) :: mt (Ty.den (Ty.pair (Ty.int IntKind.i64) (Ty.list (98) (Ty.pair (Ty.int IntKind.i64) (Ty.pair (Ty.int IntKind.i64) (Ty.pair Ty.str Ty.str)))))))) fun y0 =>
            cond (Ops.lim B (List.length y0 + List.length ((v1033_3, mt (Ty.den (Ty.pair (Ty.int IntKind.i64) (Ty.pair (Ty.int IntKind.i64) (Ty.pair Ty.str Ty.str))))) :: mt (Ty.den (Ty.pair (Ty.int IntKind.i64) (Ty.list (98) (Ty.pair (Ty.int IntKind.i64) (Ty.pair (Ty.int IntKind.i64) (Ty.pair Ty.str Ty.str)))))))) (32))
             (
              k (y0 ++ (v1033_3, mt (Ty.den (Ty.pair (Ty.int IntKind.i64) (Ty.pair (Ty.int IntKind.i64) (Ty.pair Ty.str Ty.str))))) :: mt (Ty.den (Ty.pair (Ty.int IntKind.i64) (Ty.list (98) (Ty.pair (Ty.int IntKind.i64) (Ty.pair (Ty.int IntKind.i64) (Ty.pair Ty.str Ty.str))))))))
             (
              none))
           (
            none)))
       (
        cond (Ops.lim B (List.length p4 + List.length ((v1033_5, mt (Ty.den (Ty.pair (Ty.int IntKind.i64) (Ty.pair (Ty.int IntKind.i64) (Ty.pair Ty.str Ty.str))))) :: mt (Ty.den (Ty.pair (Ty.int IntKind.i64) (Ty.list (98) (Ty.pair (Ty.int IntKind.i64) (Ty.pair (Ty.int IntKind.i64) (Ty.pair Ty.str Ty.str)))))))) (32))
         (
          ob (c67 p0 p1 (List.getD v1033_4 (Int.toNat (0)) (Ty.dflt ty3)) p3 (p4 ++ (v1033_5, mt (Ty.den (Ty.pair (Ty.int IntKind.i64) (Ty.pair (Ty.int IntKind.i64) (Ty.pair Ty.str Ty.str))))) :: mt (Ty.den (Ty.pair (Ty.int IntKind.i64) (Ty.list (98) (Ty.pair (Ty.int IntKind.i64) (Ty.pair (Ty.int IntKind.i64) (Ty.pair Ty.str Ty.str)))))))) fun y0 =>
          cond (Ops.lim B (List.length y0 + List.length ((v1033_3, mt (Ty.den (Ty.pair (Ty.int IntKind.i64) (Ty.pair (Ty.int IntKind.i64) (Ty.pair Ty.str Ty.str))))) :: mt (Ty.den (Ty.pair (Ty.int IntKind.i64) (Ty.list (98) (Ty.pair (Ty.int IntKind.i64) (Ty.pair (Ty.int IntKind.i64) (Ty.pair Ty.str Ty.str)))))))) (32))
           (
            k (y0 ++ (v1033_3, mt (Ty.den (Ty.pair (Ty.int IntKind.i64) (Ty.pair (Ty.int IntKind.i64) (Ty.pair Ty.str Ty.str))))) :: mt (Ty.den (Ty.pair (Ty.int IntKind.i64) (Ty.list (98) (Ty.pair (Ty.int IntKind.i64) (Ty.pair (Ty.int IntKind.i64) (Ty.pair Ty.str Ty.str))))))))
           (
            none))
         (
          none)))
     (
      none)
  | some (.l1038 v1038_1 v1038_2) =>
    cond (p3)
     (
      ob (c82 v1038_1) fun y0 =>
      cond (Ops.lim B (List.length v1038_2 + List.length ((y0, mt (Ty.den (Ty.pair (Ty.int IntKind.i64) (Ty.pair (Ty.int IntKind.i64) (Ty.pair Ty.str Ty.str))))) :: mt (Ty.den (Ty.pair (Ty.int IntKind.i64) (Ty.list (98) (Ty.pair (Ty.int IntKind.i64) (Ty.pair (Ty.int IntKind.i64) (Ty.pair Ty.str Ty.str)))))))) (32))
       (
        k (v1038_2 ++ (y0, mt (Ty.den (Ty.pair (Ty.int IntKind.i64) (Ty.pair (Ty.int IntKind.i64) (Ty.pair Ty.str Ty.str))))) :: mt (Ty.den (Ty.pair (Ty.int IntKind.i64) (Ty.list (98) (Ty.pair (Ty.int IntKind.i64) (Ty.pair (Ty.int IntKind.i64) (Ty.pair Ty.str Ty.str))))))))
       (
        none))
     (
      cond (Ops.lim B (List.length v1038_2 + List.length ((v1038_1, mt (Ty.den (Ty.pair (Ty.int IntKind.i64) (Ty.pair (Ty.int IntKind.i64) (Ty.pair Ty.str Ty.str))))) :: mt (Ty.den (Ty.pair (Ty.int IntKind.i64) (Ty.list (98) (Ty.pair (Ty.int IntKind.i64) (Ty.pair (Ty.int IntKind.i64) (Ty.pair Ty.str Ty.str)))))))) (32))
       (
        k (v1038_2 ++ (v1038_1, mt (Ty.den (Ty.pair (Ty.int IntKind.i64) (Ty.pair (Ty.int IntKind.i64) (Ty.pair Ty.str Ty.str))))) :: mt (Ty.den (Ty.pair (Ty.int IntKind.i64) (Ty.list (98) (Ty.pair (Ty.int IntKind.i64) (Ty.pair (Ty.int IntKind.i64) (Ty.pair Ty.str Ty.str))))))))
       (
        none))
theorem ta67 {R : Type} (B : Ops) (c67 : List ty66.den → List ty22.den → Int → Bool → List ty66.den → Option ((List ty66.den))) (c82 : Int → Option (Int)) (p0 : List ty66.den) (p1 : List ty22.den) (p2 : Int) (p3 : Bool) (p4 : List ty66.den) (again : S67 → Option R) (k : ((List ty66.den)) → Option R) : ∀ s, Ta67 B c67 c82 p0 p1 p2 p3 p4 again k s = T67 B c67 c82 p0 p1 p2 p3 p4 again k s
  | none => by unfold Ta67 T67; simp only [agree_self]
  | some (.l1010 v1010_0) => by unfold Ta67 T67; simp only [agree_self]
  | some (.l1015 v1015_0) => by unfold Ta67 T67; simp only [agree_self]
  | some (.l1026 v1026_3 v1026_4 v1026_5) => by unfold Ta67 T67; simp only [agree_self]
  | some (.l1033 v1033_3 v1033_4 v1033_5) => by unfold Ta67 T67; simp only [agree_self]
  | some (.l1038 v1038_1 v1038_2) => by unfold Ta67 T67; simp only [agree_self]
theorem eq67 {R : Type} (B : Ops) (c67 : List ty66.den → List ty22.den → Int → Bool → List ty66.den → Option ((List ty66.den))) (c82 : Int → Option (Int)) (p0 : List ty66.den) (p1 : List ty22.den) (p2 : Int) (p3 : Bool) (p4 : List ty66.den) (k : AV → Objs → Option R) (n : Nat) : afun tau B gl0 X67 (ent 67 (e67 c67) (ent 82 (e82 c82) (gnil))) ow Try.f67 [.c (.list 66 ty66 p0), .c (.list 22 ty22 p1), .c (.int .i64 p2), .c (.bool p3), .c (.own 4)] [(4, .row 66 ty66 p4)] k n = T67 B c67 c82 p0 p1 p2 p3 p4 (fun s => aloop tau B gl0 X67 (ent 67 (e67 c67) (ent 82 (e82 c82) (gnil))) ow [] Try.f67 k (I67 s) (E67 p0 p1 p2 p3 p4 s) n) (fun y => k (.c (.own 500)) [(500, .row 66 ty66 y)]) none := by rw [← ta67]; kernel_rfl
theorem el67 {R : Type} (B : Ops) (c67 : List ty66.den → List ty22.den → Int → Bool → List ty66.den → Option ((List ty66.den))) (c82 : Int → Option (Int)) (p0 : List ty66.den) (p1 : List ty22.den) (p2 : Int) (p3 : Bool) (p4 : List ty66.den) (k : AV → Objs → Option R) (n : Nat) : ∀ s, aloop tau B gl0 X67 (ent 67 (e67 c67) (ent 82 (e82 c82) (gnil))) ow [] Try.f67 k (I67 s) (E67 p0 p1 p2 p3 p4 s) (n + 1) = T67 B c67 c82 p0 p1 p2 p3 p4 (fun s => aloop tau B gl0 X67 (ent 67 (e67 c67) (ent 82 (e82 c82) (gnil))) ow [] Try.f67 k (I67 s) (E67 p0 p1 p2 p3 p4 s) n) (fun y => k (.c (.own 500)) [(500, .row 66 ty66 y)]) (some s)
  | .l1010 v1010_0 => by rw [← ta67]; kernel_rfl
  | .l1015 v1015_0 => by rw [← ta67]; kernel_rfl
  | .l1026 v1026_3 v1026_4 v1026_5 => by rw [← ta67]; kernel_rfl
  | .l1033 v1033_3 v1033_4 v1033_5 => by rw [← ta67]; kernel_rfl
  | .l1038 v1038_1 v1038_2 => by rw [← ta67]; kernel_rfl
theorem nt67 {R R' : Type} (B : Ops) (c67 : List ty66.den → List ty22.den → Int → Bool → List ty66.den → Option ((List ty66.den))) (c82 : Int → Option (Int)) (p0 : List ty66.den) (p1 : List ty22.den) (p2 : Int) (p3 : Bool) (p4 : List ty66.den) (again : S67 → Option R) (again' : S67 → Option R') (k0 : ((List ty66.den)) → Option R') (k : R' → Option R) (h : ∀ s, again s = ob (again' s) k) : ∀ s, T67 B c67 c82 p0 p1 p2 p3 p4 again (fun y => ob (k0 y) k) s = ob (T67 B c67 c82 p0 p1 p2 p3 p4 again' k0 s) k
  | none => by unfold T67; repeat' first | exact rfl | exact h _ | apply nat_cond | (apply nat_ob; intro)
  | some (.l1010 v1010_0) => by unfold T67; repeat' first | exact rfl | exact h _ | apply nat_cond | (apply nat_ob; intro)
  | some (.l1015 v1015_0) => by unfold T67; repeat' first | exact rfl | exact h _ | apply nat_cond | (apply nat_ob; intro)
  | some (.l1026 v1026_3 v1026_4 v1026_5) => by unfold T67; repeat' first | exact rfl | exact h _ | apply nat_cond | (apply nat_ob; intro)
  | some (.l1033 v1033_3 v1033_4 v1033_5) => by unfold T67; repeat' first | exact rfl | exact h _ | apply nat_cond | (apply nat_ob; intro)
  | some (.l1038 v1038_1 v1038_2) => by unfold T67; repeat' first | exact rfl | exact h _ | apply nat_cond | (apply nat_ob; intro)
def R67 (c67 : List ty66.den → List ty22.den → Int → Bool → List ty66.den → Option ((List ty66.den))) (c82 : Int → Option (Int)) (p0 : List ty66.den) (p1 : List ty22.den) (p2 : Int) (p3 : Bool) (p4 : List ty66.den) : Nat → S67 → Option ((List ty66.den))
  | 0, _ => none
  | n + 1, s => T67 Ops.std c67 c82 p0 p1 p2 p3 p4 (R67 c67 c82 p0 p1 p2 p3 p4 n) some (some s)
theorem rr67 {R : Type} (c67 : List ty66.den → List ty22.den → Int → Bool → List ty66.den → Option ((List ty66.den))) (c82 : Int → Option (Int)) (p0 : List ty66.den) (p1 : List ty22.den) (p2 : Int) (p3 : Bool) (p4 : List ty66.den) (k : AV → Objs → Option R) : ∀ (n : Nat) (s : S67), aloop tau Ops.std gl0 X67 (ent 67 (e67 c67) (ent 82 (e82 c82) (gnil))) ow [] Try.f67 k (I67 s) (E67 p0 p1 p2 p3 p4 s) n = ob (R67 c67 c82 p0 p1 p2 p3 p4 n s) (fun y => k (.c (.own 500)) [(500, .row 66 ty66 y)])
  | 0, s => by cases s <;> rfl
  | n + 1, s => by rw [el67]; exact nt67 Ops.std c67 c82 p0 p1 p2 p3 p4 _ _ some (fun y => k (.c (.own 500)) [(500, .row 66 ty66 y)]) (rr67 c67 c82 p0 p1 p2 p3 p4 k n) (some s)
def F67 (c67 : List ty66.den → List ty22.den → Int → Bool → List ty66.den → Option ((List ty66.den))) (c82 : Int → Option (Int)) (p0 : List ty66.den) (p1 : List ty22.den) (p2 : Int) (p3 : Bool) (p4 : List ty66.den) : Option ((List ty66.den)) := T67 Ops.std c67 c82 p0 p1 p2 p3 p4 (R67 c67 c82 p0 p1 p2 p3 p4 1000000) some none
theorem fo67 {R : Type} (c67 : List ty66.den → List ty22.den → Int → Bool → List ty66.den → Option ((List ty66.den))) (c82 : Int → Option (Int)) (p0 : List ty66.den) (p1 : List ty22.den) (p2 : Int) (p3 : Bool) (p4 : List ty66.den) (k : AV → Objs → Option R) : afun tau Ops.std gl0 X67 (ent 67 (e67 c67) (ent 82 (e82 c82) (gnil))) ow Try.f67 [.c (.list 66 ty66 p0), .c (.list 22 ty22 p1), .c (.int .i64 p2), .c (.bool p3), .c (.own 4)] [(4, .row 66 ty66 p4)] k 1000000 = ob (F67 c67 c82 p0 p1 p2 p3 p4) (fun y => k (.c (.own 500)) [(500, .row 66 ty66 y)]) := by rw [eq67]; exact nt67 Ops.std c67 c82 p0 p1 p2 p3 p4 _ _ some (fun y => k (.c (.own 500)) [(500, .row 66 ty66 y)]) (rr67 c67 c82 p0 p1 p2 p3 p4 k 1000000) none
theorem sf67 {c67 : List ty66.den → List ty22.den → Int → Bool → List ty66.den → Option ((List ty66.den))} {c82 : Int → Option (Int)} (h67 : Sp67 c67) (h82 : Sp82 c82) : Sp67 (F67 c67 c82) := fun p0 p1 p2 p3 p4 y hy => by
  refine spec_of (G := ent 67 (e67 c67) (ent 82 (e82 c82) (gnil))) (ent_ok (ek67 h67) (ent_ok (ek82 h82) (gnil_ok))) 1000000 (fn := Try.f67) (by kernel_rfl) (by kernel_rfl) (X := X67) (by kernel_rfl) ?_
  rw [fo67, hy]
  rfl
noncomputable def Rec67 : Nat → (List ty66.den → List ty22.den → Int → Bool → List ty66.den → Option ((List ty66.den)))
  | 0 => fun _ _ _ _ _ => none
  | d + 1 => F67 (Rec67 d) M82
theorem rec67 : ∀ d, Sp67 (Rec67 d)
  | 0 => fun p0 p1 p2 p3 p4 y (h : (none : Option ((List ty66.den))) = some y) => by cases h
  | d + 1 => sf67 (rec67 d) sm82
noncomputable def M67 : List ty66.den → List ty22.den → Int → Bool → List ty66.den → Option ((List ty66.den)) := (Rec67 1000000)
theorem sm67 : Sp67 M67 := (rec67 1000000)

/-! ### 44: lariat/lariatref13.nnf -/
def X44 : Aux := ⟨[], []⟩
def T44 {R : Type} (B : Ops) (c48 : List ty66.den → Option (Bool)) (c47 : List ty66.den → Option ((List ty22.den))) (c67 : List ty66.den → List ty22.den → Int → Bool → List ty66.den → Option ((List ty66.den))) (p0 : List ty66.den) (p1 : Bool) (k : ((List ty66.den)) → Option R) : Option R :=
  ob (c48 p0) fun y0 =>
  cond (!y0)
   (
    k (mt (Ty.den (Ty.pair (Ty.int IntKind.i64) (Ty.list (98) (Ty.pair (Ty.int IntKind.i64) (Ty.pair (Ty.int IntKind.i64) (Ty.pair Ty.str Ty.str))))))))
   (
    ob (c47 p0) fun y1 =>
    ob (c67 p0 y1 (IntKind.wrap IntKind.i64 (Nat.cast (List.length p0) - 1)) p1 (mt (Ty.den (Ty.pair (Ty.int IntKind.i64) (Ty.list (98) (Ty.pair (Ty.int IntKind.i64) (Ty.pair (Ty.int IntKind.i64) (Ty.pair Ty.str Ty.str)))))))) fun y2 =>
    cond (Ops.lt B (60) (Nat.cast (List.length y2)))
     (
      k (mt (Ty.den (Ty.pair (Ty.int IntKind.i64) (Ty.list (98) (Ty.pair (Ty.int IntKind.i64) (Ty.pair (Ty.int IntKind.i64) (Ty.pair Ty.str Ty.str))))))))
     (
      k y2))
theorem eq44 {R : Type} (B : Ops) (c48 : List ty66.den → Option (Bool)) (c47 : List ty66.den → Option ((List ty22.den))) (c67 : List ty66.den → List ty22.den → Int → Bool → List ty66.den → Option ((List ty66.den))) (p0 : List ty66.den) (p1 : Bool) (k : AV → Objs → Option R) (n : Nat) : afun tau B gl0 X44 (ent 48 (e48 c48) (ent 47 (e47 c47) (ent 67 (e67 c67) (gnil)))) ow Try.f44 [.c (.list 66 ty66 p0), .c (.bool p1)] [] k n = T44 B c48 c47 c67 p0 p1 (fun y => k (.c (.own 500)) [(500, .row 66 ty66 y)]) := by kernel_rfl
theorem nt44 {R R' : Type} (B : Ops) (c48 : List ty66.den → Option (Bool)) (c47 : List ty66.den → Option ((List ty22.den))) (c67 : List ty66.den → List ty22.den → Int → Bool → List ty66.den → Option ((List ty66.den))) (p0 : List ty66.den) (p1 : Bool) (k0 : ((List ty66.den)) → Option R') (k : R' → Option R) : T44 B c48 c47 c67 p0 p1 (fun y => ob (k0 y) k) = ob (T44 B c48 c47 c67 p0 p1 k0) k := by
  unfold T44
  repeat' first | exact rfl | apply nat_cond | (apply nat_ob; intro)
def F44 (c48 : List ty66.den → Option (Bool)) (c47 : List ty66.den → Option ((List ty22.den))) (c67 : List ty66.den → List ty22.den → Int → Bool → List ty66.den → Option ((List ty66.den))) (p0 : List ty66.den) (p1 : Bool) : Option ((List ty66.den)) := T44 Ops.std c48 c47 c67 p0 p1 some
theorem fo44 {R : Type} (c48 : List ty66.den → Option (Bool)) (c47 : List ty66.den → Option ((List ty22.den))) (c67 : List ty66.den → List ty22.den → Int → Bool → List ty66.den → Option ((List ty66.den))) (p0 : List ty66.den) (p1 : Bool) (k : AV → Objs → Option R) (n : Nat) : afun tau Ops.std gl0 X44 (ent 48 (e48 c48) (ent 47 (e47 c47) (ent 67 (e67 c67) (gnil)))) ow Try.f44 [.c (.list 66 ty66 p0), .c (.bool p1)] [] k n = ob (F44 c48 c47 c67 p0 p1) (fun y => k (.c (.own 500)) [(500, .row 66 ty66 y)]) := by rw [eq44]; exact nt44 Ops.std c48 c47 c67 p0 p1 some (fun y => k (.c (.own 500)) [(500, .row 66 ty66 y)])
def e44 {R : Type} (c : List ty66.den → Bool → Option ((List ty66.den))) : Ent R := fun args objs k =>
  oCons args fun a0 l0 => oC a0 fun x0 => cList 66 ty66 x0 fun p0 => oCons l0 fun a1 l1 => oC a1 fun x1 => cBool x1 fun p1 => oNil l1 <| oNilO objs <| ob (c p0 p1) fun y => k (.c (.own 500)) [(500, .row 66 ty66 y)]
abbrev Sp44 (c : List ty66.den → Bool → Option ((List ty66.den))) : Prop := ∀ (p0 : List ty66.den) (p1 : Bool) (y : (List ty66.den)), c p0 p1 = some y → Spec Try.prog gl0 44 [.c (.list 66 ty66 p0), .c (.bool p1)] [] (.c (.own 500)) [(500, .row 66 ty66 y)]
theorem ek44 {R : Type} {c : List ty66.den → Bool → Option ((List ty66.den))} (hs : Sp44 c) : EOk 44 (e44 (R := R) c) := fun args objs k r h => by
  unfold e44 at h
  obtain ⟨a0, l0, rfl, q1⟩ := oCons_some h
  obtain ⟨x0, rfl, q2⟩ := oC_some q1
  obtain ⟨p0, rfl, q3⟩ := cList_some q2
  obtain ⟨a1, l1, rfl, q4⟩ := oCons_some q3
  obtain ⟨x1, rfl, q5⟩ := oC_some q4
  obtain ⟨p1, rfl, q6⟩ := cBool_some q5
  obtain ⟨rfl, q7⟩ := oNil_some q6
  obtain ⟨rfl, q8⟩ := oNilO_some q7
  exact eok_of (hs p0 p1) q8
theorem sf44 {c48 : List ty66.den → Option (Bool)} {c47 : List ty66.den → Option ((List ty22.den))} {c67 : List ty66.den → List ty22.den → Int → Bool → List ty66.den → Option ((List ty66.den))} (h48 : Sp48 c48) (h47 : Sp47 c47) (h67 : Sp67 c67) : Sp44 (F44 c48 c47 c67) := fun p0 p1 y hy => by
  refine spec_of (G := ent 48 (e48 c48) (ent 47 (e47 c47) (ent 67 (e67 c67) (gnil)))) (ent_ok (ek48 h48) (ent_ok (ek47 h47) (ent_ok (ek67 h67) (gnil_ok)))) 1000000 (fn := Try.f44) (by kernel_rfl) (by kernel_rfl) (X := X44) (by kernel_rfl) ?_
  rw [fo44, hy]
  rfl
noncomputable def M44 : List ty66.den → Bool → Option ((List ty66.den)) := F44 M48 M47 M67
theorem sm44 : Sp44 M44 := sf44 sm48 sm47 sm67

/-! ### 21: lariat/lariatref13.Nnf -/
def X21 : Aux := ⟨[], []⟩
def T21 {R : Type} (B : Ops) (c44 : List ty66.den → Bool → Option ((List ty66.den))) (p0 : List ty66.den) (k : ((List ty66.den)) → Option R) : Option R :=
  ob (c44 p0 false) fun y0 =>
  k y0
theorem eq21 {R : Type} (B : Ops) (c44 : List ty66.den → Bool → Option ((List ty66.den))) (p0 : List ty66.den) (k : AV → Objs → Option R) (n : Nat) : afun tau B gl0 X21 (ent 44 (e44 c44) (gnil)) ow Try.f21 [.c (.list 66 ty66 p0)] [] k n = T21 B c44 p0 (fun y => k (.c (.own 500)) [(500, .row 66 ty66 y)]) := by kernel_rfl
theorem nt21 {R R' : Type} (B : Ops) (c44 : List ty66.den → Bool → Option ((List ty66.den))) (p0 : List ty66.den) (k0 : ((List ty66.den)) → Option R') (k : R' → Option R) : T21 B c44 p0 (fun y => ob (k0 y) k) = ob (T21 B c44 p0 k0) k := by
  unfold T21
  repeat' first | exact rfl | apply nat_cond | (apply nat_ob; intro)
def F21 (c44 : List ty66.den → Bool → Option ((List ty66.den))) (p0 : List ty66.den) : Option ((List ty66.den)) := T21 Ops.std c44 p0 some
theorem fo21 {R : Type} (c44 : List ty66.den → Bool → Option ((List ty66.den))) (p0 : List ty66.den) (k : AV → Objs → Option R) (n : Nat) : afun tau Ops.std gl0 X21 (ent 44 (e44 c44) (gnil)) ow Try.f21 [.c (.list 66 ty66 p0)] [] k n = ob (F21 c44 p0) (fun y => k (.c (.own 500)) [(500, .row 66 ty66 y)]) := by rw [eq21]; exact nt21 Ops.std c44 p0 some (fun y => k (.c (.own 500)) [(500, .row 66 ty66 y)])
def e21 {R : Type} (c : List ty66.den → Option ((List ty66.den))) : Ent R := fun args objs k =>
  oCons args fun a0 l0 => oC a0 fun x0 => cList 66 ty66 x0 fun p0 => oNil l0 <| oNilO objs <| ob (c p0) fun y => k (.c (.own 500)) [(500, .row 66 ty66 y)]
abbrev Sp21 (c : List ty66.den → Option ((List ty66.den))) : Prop := ∀ (p0 : List ty66.den) (y : (List ty66.den)), c p0 = some y → Spec Try.prog gl0 21 [.c (.list 66 ty66 p0)] [] (.c (.own 500)) [(500, .row 66 ty66 y)]
theorem ek21 {R : Type} {c : List ty66.den → Option ((List ty66.den))} (hs : Sp21 c) : EOk 21 (e21 (R := R) c) := fun args objs k r h => by
  unfold e21 at h
  obtain ⟨a0, l0, rfl, q1⟩ := oCons_some h
  obtain ⟨x0, rfl, q2⟩ := oC_some q1
  obtain ⟨p0, rfl, q3⟩ := cList_some q2
  obtain ⟨rfl, q4⟩ := oNil_some q3
  obtain ⟨rfl, q5⟩ := oNilO_some q4
  exact eok_of (hs p0) q5
theorem sf21 {c44 : List ty66.den → Bool → Option ((List ty66.den))} (h44 : Sp44 c44) : Sp21 (F21 c44) := fun p0 y hy => by
  refine spec_of (G := ent 44 (e44 c44) (gnil)) (ent_ok (ek44 h44) (gnil_ok)) 1000000 (fn := Try.f21) (by kernel_rfl) (by kernel_rfl) (X := X21) (by kernel_rfl) ?_
  rw [fo21, hy]
  rfl
noncomputable def M21 : List ty66.den → Option ((List ty66.den)) := F21 M44
theorem sm21 : Sp21 M21 := sf21 sm44

/-! ### 23: lariat/lariatref13.Negate -/
def X23 : Aux := ⟨[], []⟩
def T23 {R : Type} (B : Ops) (c44 : List ty66.den → Bool → Option ((List ty66.den))) (p0 : List ty66.den) (k : ((List ty66.den)) → Option R) : Option R :=
  ob (c44 p0 true) fun y0 =>
  k y0
theorem eq23 {R : Type} (B : Ops) (c44 : List ty66.den → Bool → Option ((List ty66.den))) (p0 : List ty66.den) (k : AV → Objs → Option R) (n : Nat) : afun tau B gl0 X23 (ent 44 (e44 c44) (gnil)) ow Try.f23 [.c (.list 66 ty66 p0)] [] k n = T23 B c44 p0 (fun y => k (.c (.own 500)) [(500, .row 66 ty66 y)]) := by kernel_rfl
theorem nt23 {R R' : Type} (B : Ops) (c44 : List ty66.den → Bool → Option ((List ty66.den))) (p0 : List ty66.den) (k0 : ((List ty66.den)) → Option R') (k : R' → Option R) : T23 B c44 p0 (fun y => ob (k0 y) k) = ob (T23 B c44 p0 k0) k := by
  unfold T23
  repeat' first | exact rfl | apply nat_cond | (apply nat_ob; intro)
def F23 (c44 : List ty66.den → Bool → Option ((List ty66.den))) (p0 : List ty66.den) : Option ((List ty66.den)) := T23 Ops.std c44 p0 some
theorem fo23 {R : Type} (c44 : List ty66.den → Bool → Option ((List ty66.den))) (p0 : List ty66.den) (k : AV → Objs → Option R) (n : Nat) : afun tau Ops.std gl0 X23 (ent 44 (e44 c44) (gnil)) ow Try.f23 [.c (.list 66 ty66 p0)] [] k n = ob (F23 c44 p0) (fun y => k (.c (.own 500)) [(500, .row 66 ty66 y)]) := by rw [eq23]; exact nt23 Ops.std c44 p0 some (fun y => k (.c (.own 500)) [(500, .row 66 ty66 y)])
def e23 {R : Type} (c : List ty66.den → Option ((List ty66.den))) : Ent R := fun args objs k =>
  oCons args fun a0 l0 => oC a0 fun x0 => cList 66 ty66 x0 fun p0 => oNil l0 <| oNilO objs <| ob (c p0) fun y => k (.c (.own 500)) [(500, .row 66 ty66 y)]
abbrev Sp23 (c : List ty66.den → Option ((List ty66.den))) : Prop := ∀ (p0 : List ty66.den) (y : (List ty66.den)), c p0 = some y → Spec Try.prog gl0 23 [.c (.list 66 ty66 p0)] [] (.c (.own 500)) [(500, .row 66 ty66 y)]
theorem ek23 {R : Type} {c : List ty66.den → Option ((List ty66.den))} (hs : Sp23 c) : EOk 23 (e23 (R := R) c) := fun args objs k r h => by
  unfold e23 at h
  obtain ⟨a0, l0, rfl, q1⟩ := oCons_some h
  obtain ⟨x0, rfl, q2⟩ := oC_some q1
  obtain ⟨p0, rfl, q3⟩ := cList_some q2
  obtain ⟨rfl, q4⟩ := oNil_some q3
  obtain ⟨rfl, q5⟩ := oNilO_some q4
  exact eok_of (hs p0) q5
theorem sf23 {c44 : List ty66.den → Bool → Option ((List ty66.den))} (h44 : Sp44 c44) : Sp23 (F23 c44) := fun p0 y hy => by
  refine spec_of (G := ent 44 (e44 c44) (gnil)) (ent_ok (ek44 h44) (gnil_ok)) 1000000 (fn := Try.f23) (by kernel_rfl) (by kernel_rfl) (X := X23) (by kernel_rfl) ?_
  rw [fo23, hy]
  rfl
noncomputable def M23 : List ty66.den → Option ((List ty66.den)) := F23 M44
theorem sm23 : Sp23 M23 := sf23 sm44

/-! ### 7: lariat/lariatlaw18.FairTells -/
def X7 : Aux := ⟨[(10, [0, 1, 5, 6, 7, 8, 9, 10, 13, 14, 15, 16, 17, 18, 19, 20, 21, 22, 23, 24, 25, 26, 27, 28, 29, 30, 31, 32, 33, 34, 35, 36, 37, 38, 39, 40, 41, 42, 45, 46, 47, 48, 49, 50, 51, 52, 53, 54, 55, 56, 57, 58, 59, 60, 61, 62, 63, 64, 65, 66, 67, 68, 69, 70, 71, 72, 73, 74, 75, 76, 77, 78, 79, 80, 81, 82, 83, 84, 85, 86, 87, 88, 89, 90, 91, 92, 93, 94, 95, 96, 97, 98, 99, 100, 101, 102, 103, 104, 105, 106, 107, 108, 109, 110, 111, 112, 113, 114, 115, 116, 117, 118, 119, 120]), (19, [0, 1, 2, 5, 6, 7, 8, 9, 10, 11, 12, 13, 16, 17, 18, 19, 20, 21, 22, 23, 24, 25, 26, 27, 28, 29, 30, 31, 32, 33, 34, 35, 36, 37, 38, 39, 40, 41, 42, 43, 44, 45, 46, 47, 48, 49, 50, 51, 52, 53, 54, 55, 56, 57, 58, 59, 60, 61, 62, 63, 64, 65, 66, 67, 68, 69, 70, 71, 72, 73, 74, 75, 76, 77, 78, 79, 80, 83, 84, 85, 86, 87, 88, 89, 90, 91, 92, 93, 94, 95, 96, 97, 98, 99, 100, 101, 102, 103, 104, 105, 106, 107, 108, 109, 110, 111, 112, 113, 114, 115, 116, 117, 118, 119, 120])], [(21, .lin [0, 1, 2, 3, 4, 5, 6, 7, 8])]⟩
inductive S7 where
  | l0 (v0_3 : Int) (v0_4 : Int) (v0_5 : List ty66.den) (v0_6 : List ty4.den)
  | l1 (v1_2 : Int) (v1_3 : Int) (v1_4 : List ty4.den) (v1_5 : List ty4.den)
def T7 {R : Type} (B : Ops) (c15 : Option (Bool)) (c22 : List ty3.den → Option ((List UInt8))) (c17 : List UInt8 → Option ((List ty66.den))) (c21 : List ty66.den → Option ((List ty66.den))) (c23 : List ty66.den → Option ((List ty66.den))) (c20 : List ty66.den → Option ((List ty3.den))) (c18 : List ty66.den → List ty4.den → Option ((List ty4.den))) (c24 : List ty66.den → List ty4.den → Option ((List ty4.den))) (c25 : List ty66.den → Option ((List ty3.den))) (c19 : List ty3.den → List ty3.den → Option (Bool)) (c12 : Int → Int → Option (Int)) (c16 : Int → List ty4.den → Option (Int × Bool)) (c26 : Int → List ty4.den → Option (Int × Bool)) (p0 : List ty3.den) (p1 : Bool) (p2 : List ty4.den) (p3 : Int) (p4 : List ty4.den) (again : S7 → Option R) (k : (Bool) → Option R) : Option S7 → Option R
  | none =>
    ob (c15) fun y0 =>
    cond (!y0)
     (
      k false)
     (
      ob (c22 p0) fun y1 =>
      ob (c17 y1) fun y2 =>
      ob (c21 y2) fun y3 =>
      cond (p1)
       (
        ob (c22 p0) fun y4 =>
        ob (c17 y4) fun y5 =>
        ob (c23 y5) fun y6 =>
        cond (Ops.eq B (Nat.cast (List.length y6)) (0))
         (
          ob (c15) fun y7 =>
          cond (y7)
           (
            ob (c20 y6) fun y8 =>
            k (Ops.eq B (Nat.cast (List.length y8)) (0)))
           (
            k false))
         (
          again (.l0 (Nat.cast (List.length y6)) 0 y6 (mt (Ty.den Ty.bool)))))
       (
        cond (Ops.eq B (Nat.cast (List.length y3)) (0))
         (
          ob (c15) fun y4 =>
          cond (y4)
           (
            ob (c20 y3) fun y5 =>
            k (Ops.eq B (Nat.cast (List.length y5)) (0)))
           (
            k false))
         (
          again (.l0 (Nat.cast (List.length y3)) 0 y3 (mt (Ty.den Ty.bool))))))
  | some (.l0 v0_3 v0_4 v0_5 v0_6) =>
    cond (Ops.lt B v0_4 v0_3)
     (
      cond (Ops.lt B v0_4 (Nat.cast (List.length p2)))
       (
        cond (Ops.inb B v0_4 (List.length p2))
         (
          cond (Ops.lim B (List.length v0_6 + List.length (List.getD p2 (Int.toNat v0_4) (Ty.dflt ty4) :: mt (Ty.den Ty.bool))) (1))
           (
            again (.l0 v0_3 (IntKind.wrap IntKind.i64 (v0_4 + 1)) v0_5 (v0_6 ++ List.getD p2 (Int.toNat v0_4) (Ty.dflt ty4) :: mt (Ty.den Ty.bool))))
           (
            none))
         (
          none))
       (
        cond (Ops.lim B (List.length v0_6 + List.length (false :: mt (Ty.den Ty.bool))) (1))
         (
          again (.l0 v0_3 (IntKind.wrap IntKind.i64 (v0_4 + 1)) v0_5 (v0_6 ++ false :: mt (Ty.den Ty.bool))))
         (
          none)))
     (
      ob (c18 v0_5 v0_6) fun y0 =>
      ob (c24 v0_5 v0_6) fun y1 =>
      cond (!Ops.eq B (Nat.cast (List.length y0)) (Nat.cast (List.length y1)))
       (
        k false)
       (
        ob (c20 v0_5) fun y2 =>
        ob (c25 v0_5) fun y3 =>
        ob (c19 y2 y3) fun y4 =>
        cond (!y4)
         (
          k false)
         (
          again (.l1 (Nat.cast (List.length y0)) 0 y0 y1))))
  | some (.l1 v1_2 v1_3 v1_4 v1_5) =>
    cond (Ops.lt B v1_3 v1_2)
     (
      cond (Ops.inb B v1_3 (List.length v1_4))
       (
        cond (Ops.inb B v1_3 (List.length v1_5))
         (
          cond (!List.getD v1_4 (Int.toNat v1_3) (Ty.dflt ty4) == List.getD v1_5 (Int.toNat v1_3) (Ty.dflt ty4))
           (
            k false)
           (
            again (.l1 v1_2 (IntKind.wrap IntKind.i64 (v1_3 + 1)) v1_4 v1_5)))
         (
          none))
       (
        none))
     (
      ob (c12 p3 (12)) fun y0 =>
      ob (c16 (IntKind.wrap IntKind.i64 (y0 - 2)) p4) fun y1 =>
      ob (c26 (IntKind.wrap IntKind.i64 (y0 - 2)) p4) fun y2 =>
      ob (c15) fun y3 =>
      cond (y3)
       (
        cond (Ops.eq B (Prod.fst y1) (Prod.fst y2))
         (
          k (Prod.snd y1 == Prod.snd y2))
         (
          k false))
       (
        k false))
def E7 (p0 : List ty3.den) (p1 : Bool) (p2 : List ty4.den) (p3 : Int) (p4 : List ty4.den) : S7 → List AV × Objs
  | .l0 v0_3 v0_4 v0_5 v0_6 => (mk 121 [(2, .c (.list 4 ty4 p2)), (3, .c (.int .i64 p3)), (4, .c (.list 4 ty4 p4)), (11, .c (.own 11)), (12, .c (.own 12)), (43, .c (.int .i64 v0_3)), (44, .c (.int .i64 v0_4))], [(11, .row 66 ty66 v0_5), (12, .row 4 ty4 v0_6)])
  | .l1 v1_2 v1_3 v1_4 v1_5 => (mk 121 [(3, .c (.int .i64 p3)), (4, .c (.list 4 ty4 p4)), (14, .c (.own 14)), (15, .c (.own 15)), (81, .c (.int .i64 v1_2)), (82, .c (.int .i64 v1_3))], [(14, .row 4 ty4 v1_4), (15, .row 4 ty4 v1_5)])
def I7 : S7 → Nat
  | .l0 _ _ _ _ => 0
  | .l1 _ _ _ _ => 1
theorem eq7 {R : Type} (B : Ops) (c15 : Option (Bool)) (c22 : List ty3.den → Option ((List UInt8))) (c17 : List UInt8 → Option ((List ty66.den))) (c21 : List ty66.den → Option ((List ty66.den))) (c23 : List ty66.den → Option ((List ty66.den))) (c20 : List ty66.den → Option ((List ty3.den))) (c18 : List ty66.den → List ty4.den → Option ((List ty4.den))) (c24 : List ty66.den → List ty4.den → Option ((List ty4.den))) (c25 : List ty66.den → Option ((List ty3.den))) (c19 : List ty3.den → List ty3.den → Option (Bool)) (c12 : Int → Int → Option (Int)) (c16 : Int → List ty4.den → Option (Int × Bool)) (c26 : Int → List ty4.den → Option (Int × Bool)) (p0 : List ty3.den) (p1 : Bool) (p2 : List ty4.den) (p3 : Int) (p4 : List ty4.den) (k : AV → Objs → Option R) (n : Nat) : afun tau B gl0 X7 (ent 15 (e15 c15) (ent 22 (e22 c22) (ent 17 (e17 c17) (ent 21 (e21 c21) (ent 23 (e23 c23) (ent 20 (e20 c20) (ent 18 (e18 c18) (ent 24 (e24 c24) (ent 25 (e25 c25) (ent 19 (e19 c19) (ent 12 (e12 c12) (ent 16 (e16 c16) (ent 26 (e26 c26) (gnil)))))))))))))) ow Try.f7 [.c (.list 3 ty3 p0), .c (.bool p1), .c (.list 4 ty4 p2), .c (.int .i64 p3), .c (.list 4 ty4 p4)] [] k n = T7 B c15 c22 c17 c21 c23 c20 c18 c24 c25 c19 c12 c16 c26 p0 p1 p2 p3 p4 (fun s => aloop tau B gl0 X7 (ent 15 (e15 c15) (ent 22 (e22 c22) (ent 17 (e17 c17) (ent 21 (e21 c21) (ent 23 (e23 c23) (ent 20 (e20 c20) (ent 18 (e18 c18) (ent 24 (e24 c24) (ent 25 (e25 c25) (ent 19 (e19 c19) (ent 12 (e12 c12) (ent 16 (e16 c16) (ent 26 (e26 c26) (gnil)))))))))))))) ow [] Try.f7 k (I7 s) (E7 p0 p1 p2 p3 p4 s) n) (fun y => k (.c (.bool y)) []) none := by kernel_rfl
theorem el7 {R : Type} (B : Ops) (c15 : Option (Bool)) (c22 : List ty3.den → Option ((List UInt8))) (c17 : List UInt8 → Option ((List ty66.den))) (c21 : List ty66.den → Option ((List ty66.den))) (c23 : List ty66.den → Option ((List ty66.den))) (c20 : List ty66.den → Option ((List ty3.den))) (c18 : List ty66.den → List ty4.den → Option ((List ty4.den))) (c24 : List ty66.den → List ty4.den → Option ((List ty4.den))) (c25 : List ty66.den → Option ((List ty3.den))) (c19 : List ty3.den → List ty3.den → Option (Bool)) (c12 : Int → Int → Option (Int)) (c16 : Int → List ty4.den → Option (Int × Bool)) (c26 : Int → List ty4.den → Option (Int × Bool)) (p0 : List ty3.den) (p1 : Bool) (p2 : List ty4.den) (p3 : Int) (p4 : List ty4.den) (k : AV → Objs → Option R) (n : Nat) : ∀ s, aloop tau B gl0 X7 (ent 15 (e15 c15) (ent 22 (e22 c22) (ent 17 (e17 c17) (ent 21 (e21 c21) (ent 23 (e23 c23) (ent 20 (e20 c20) (ent 18 (e18 c18) (ent 24 (e24 c24) (ent 25 (e25 c25) (ent 19 (e19 c19) (ent 12 (e12 c12) (ent 16 (e16 c16) (ent 26 (e26 c26) (gnil)))))))))))))) ow [] Try.f7 k (I7 s) (E7 p0 p1 p2 p3 p4 s) (n + 1) = T7 B c15 c22 c17 c21 c23 c20 c18 c24 c25 c19 c12 c16 c26 p0 p1 p2 p3 p4 (fun s => aloop tau B gl0 X7 (ent 15 (e15 c15) (ent 22 (e22 c22) (ent 17 (e17 c17) (ent 21 (e21 c21) (ent 23 (e23 c23) (ent 20 (e20 c20) (ent 18 (e18 c18) (ent 24 (e24 c24) (ent 25 (e25 c25) (ent 19 (e19 c19) (ent 12 (e12 c12) (ent 16 (e16 c16) (ent 26 (e26 c26) (gnil)))))))))))))) ow [] Try.f7 k (I7 s) (E7 p0 p1 p2 p3 p4 s) n) (fun y => k (.c (.bool y)) []) (some s)
  | .l0 v0_3 v0_4 v0_5 v0_6 => by kernel_rfl
  | .l1 v1_2 v1_3 v1_4 v1_5 => by kernel_rfl
theorem nt7 {R R' : Type} (B : Ops) (c15 : Option (Bool)) (c22 : List ty3.den → Option ((List UInt8))) (c17 : List UInt8 → Option ((List ty66.den))) (c21 : List ty66.den → Option ((List ty66.den))) (c23 : List ty66.den → Option ((List ty66.den))) (c20 : List ty66.den → Option ((List ty3.den))) (c18 : List ty66.den → List ty4.den → Option ((List ty4.den))) (c24 : List ty66.den → List ty4.den → Option ((List ty4.den))) (c25 : List ty66.den → Option ((List ty3.den))) (c19 : List ty3.den → List ty3.den → Option (Bool)) (c12 : Int → Int → Option (Int)) (c16 : Int → List ty4.den → Option (Int × Bool)) (c26 : Int → List ty4.den → Option (Int × Bool)) (p0 : List ty3.den) (p1 : Bool) (p2 : List ty4.den) (p3 : Int) (p4 : List ty4.den) (again : S7 → Option R) (again' : S7 → Option R') (k0 : (Bool) → Option R') (k : R' → Option R) (h : ∀ s, again s = ob (again' s) k) : ∀ s, T7 B c15 c22 c17 c21 c23 c20 c18 c24 c25 c19 c12 c16 c26 p0 p1 p2 p3 p4 again (fun y => ob (k0 y) k) s = ob (T7 B c15 c22 c17 c21 c23 c20 c18 c24 c25 c19 c12 c16 c26 p0 p1 p2 p3 p4 again' k0 s) k
  | none => by unfold T7; repeat' first | exact rfl | exact h _ | apply nat_cond | (apply nat_ob; intro)
  | some (.l0 v0_3 v0_4 v0_5 v0_6) => by unfold T7; repeat' first | exact rfl | exact h _ | apply nat_cond | (apply nat_ob; intro)
  | some (.l1 v1_2 v1_3 v1_4 v1_5) => by unfold T7; repeat' first | exact rfl | exact h _ | apply nat_cond | (apply nat_ob; intro)
def R7 (c15 : Option (Bool)) (c22 : List ty3.den → Option ((List UInt8))) (c17 : List UInt8 → Option ((List ty66.den))) (c21 : List ty66.den → Option ((List ty66.den))) (c23 : List ty66.den → Option ((List ty66.den))) (c20 : List ty66.den → Option ((List ty3.den))) (c18 : List ty66.den → List ty4.den → Option ((List ty4.den))) (c24 : List ty66.den → List ty4.den → Option ((List ty4.den))) (c25 : List ty66.den → Option ((List ty3.den))) (c19 : List ty3.den → List ty3.den → Option (Bool)) (c12 : Int → Int → Option (Int)) (c16 : Int → List ty4.den → Option (Int × Bool)) (c26 : Int → List ty4.den → Option (Int × Bool)) (p0 : List ty3.den) (p1 : Bool) (p2 : List ty4.den) (p3 : Int) (p4 : List ty4.den) : Nat → S7 → Option (Bool)
  | 0, _ => none
  | n + 1, s => T7 Ops.std c15 c22 c17 c21 c23 c20 c18 c24 c25 c19 c12 c16 c26 p0 p1 p2 p3 p4 (R7 c15 c22 c17 c21 c23 c20 c18 c24 c25 c19 c12 c16 c26 p0 p1 p2 p3 p4 n) some (some s)
theorem rr7 {R : Type} (c15 : Option (Bool)) (c22 : List ty3.den → Option ((List UInt8))) (c17 : List UInt8 → Option ((List ty66.den))) (c21 : List ty66.den → Option ((List ty66.den))) (c23 : List ty66.den → Option ((List ty66.den))) (c20 : List ty66.den → Option ((List ty3.den))) (c18 : List ty66.den → List ty4.den → Option ((List ty4.den))) (c24 : List ty66.den → List ty4.den → Option ((List ty4.den))) (c25 : List ty66.den → Option ((List ty3.den))) (c19 : List ty3.den → List ty3.den → Option (Bool)) (c12 : Int → Int → Option (Int)) (c16 : Int → List ty4.den → Option (Int × Bool)) (c26 : Int → List ty4.den → Option (Int × Bool)) (p0 : List ty3.den) (p1 : Bool) (p2 : List ty4.den) (p3 : Int) (p4 : List ty4.den) (k : AV → Objs → Option R) : ∀ (n : Nat) (s : S7), aloop tau Ops.std gl0 X7 (ent 15 (e15 c15) (ent 22 (e22 c22) (ent 17 (e17 c17) (ent 21 (e21 c21) (ent 23 (e23 c23) (ent 20 (e20 c20) (ent 18 (e18 c18) (ent 24 (e24 c24) (ent 25 (e25 c25) (ent 19 (e19 c19) (ent 12 (e12 c12) (ent 16 (e16 c16) (ent 26 (e26 c26) (gnil)))))))))))))) ow [] Try.f7 k (I7 s) (E7 p0 p1 p2 p3 p4 s) n = ob (R7 c15 c22 c17 c21 c23 c20 c18 c24 c25 c19 c12 c16 c26 p0 p1 p2 p3 p4 n s) (fun y => k (.c (.bool y)) [])
  | 0, s => by cases s <;> rfl
  | n + 1, s => by rw [el7]; exact nt7 Ops.std c15 c22 c17 c21 c23 c20 c18 c24 c25 c19 c12 c16 c26 p0 p1 p2 p3 p4 _ _ some (fun y => k (.c (.bool y)) []) (rr7 c15 c22 c17 c21 c23 c20 c18 c24 c25 c19 c12 c16 c26 p0 p1 p2 p3 p4 k n) (some s)
def F7 (c15 : Option (Bool)) (c22 : List ty3.den → Option ((List UInt8))) (c17 : List UInt8 → Option ((List ty66.den))) (c21 : List ty66.den → Option ((List ty66.den))) (c23 : List ty66.den → Option ((List ty66.den))) (c20 : List ty66.den → Option ((List ty3.den))) (c18 : List ty66.den → List ty4.den → Option ((List ty4.den))) (c24 : List ty66.den → List ty4.den → Option ((List ty4.den))) (c25 : List ty66.den → Option ((List ty3.den))) (c19 : List ty3.den → List ty3.den → Option (Bool)) (c12 : Int → Int → Option (Int)) (c16 : Int → List ty4.den → Option (Int × Bool)) (c26 : Int → List ty4.den → Option (Int × Bool)) (p0 : List ty3.den) (p1 : Bool) (p2 : List ty4.den) (p3 : Int) (p4 : List ty4.den) : Option (Bool) := T7 Ops.std c15 c22 c17 c21 c23 c20 c18 c24 c25 c19 c12 c16 c26 p0 p1 p2 p3 p4 (R7 c15 c22 c17 c21 c23 c20 c18 c24 c25 c19 c12 c16 c26 p0 p1 p2 p3 p4 1000000) some none
theorem fo7 {R : Type} (c15 : Option (Bool)) (c22 : List ty3.den → Option ((List UInt8))) (c17 : List UInt8 → Option ((List ty66.den))) (c21 : List ty66.den → Option ((List ty66.den))) (c23 : List ty66.den → Option ((List ty66.den))) (c20 : List ty66.den → Option ((List ty3.den))) (c18 : List ty66.den → List ty4.den → Option ((List ty4.den))) (c24 : List ty66.den → List ty4.den → Option ((List ty4.den))) (c25 : List ty66.den → Option ((List ty3.den))) (c19 : List ty3.den → List ty3.den → Option (Bool)) (c12 : Int → Int → Option (Int)) (c16 : Int → List ty4.den → Option (Int × Bool)) (c26 : Int → List ty4.den → Option (Int × Bool)) (p0 : List ty3.den) (p1 : Bool) (p2 : List ty4.den) (p3 : Int) (p4 : List ty4.den) (k : AV → Objs → Option R) : afun tau Ops.std gl0 X7 (ent 15 (e15 c15) (ent 22 (e22 c22) (ent 17 (e17 c17) (ent 21 (e21 c21) (ent 23 (e23 c23) (ent 20 (e20 c20) (ent 18 (e18 c18) (ent 24 (e24 c24) (ent 25 (e25 c25) (ent 19 (e19 c19) (ent 12 (e12 c12) (ent 16 (e16 c16) (ent 26 (e26 c26) (gnil)))))))))))))) ow Try.f7 [.c (.list 3 ty3 p0), .c (.bool p1), .c (.list 4 ty4 p2), .c (.int .i64 p3), .c (.list 4 ty4 p4)] [] k 1000000 = ob (F7 c15 c22 c17 c21 c23 c20 c18 c24 c25 c19 c12 c16 c26 p0 p1 p2 p3 p4) (fun y => k (.c (.bool y)) []) := by rw [eq7]; exact nt7 Ops.std c15 c22 c17 c21 c23 c20 c18 c24 c25 c19 c12 c16 c26 p0 p1 p2 p3 p4 _ _ some (fun y => k (.c (.bool y)) []) (rr7 c15 c22 c17 c21 c23 c20 c18 c24 c25 c19 c12 c16 c26 p0 p1 p2 p3 p4 k 1000000) none
def e7 {R : Type} (c : List ty3.den → Bool → List ty4.den → Int → List ty4.den → Option (Bool)) : Ent R := fun args objs k =>
  oCons args fun a0 l0 => oC a0 fun x0 => cList 3 ty3 x0 fun p0 => oCons l0 fun a1 l1 => oC a1 fun x1 => cBool x1 fun p1 => oCons l1 fun a2 l2 => oC a2 fun x2 => cList 4 ty4 x2 fun p2 => oCons l2 fun a3 l3 => oC a3 fun x3 => cInt .i64 x3 fun p3 => oCons l3 fun a4 l4 => oC a4 fun x4 => cList 4 ty4 x4 fun p4 => oNil l4 <| oNilO objs <| ob (c p0 p1 p2 p3 p4) fun y => k (.c (.bool y)) []
abbrev Sp7 (c : List ty3.den → Bool → List ty4.den → Int → List ty4.den → Option (Bool)) : Prop := ∀ (p0 : List ty3.den) (p1 : Bool) (p2 : List ty4.den) (p3 : Int) (p4 : List ty4.den) (y : Bool), c p0 p1 p2 p3 p4 = some y → Spec Try.prog gl0 7 [.c (.list 3 ty3 p0), .c (.bool p1), .c (.list 4 ty4 p2), .c (.int .i64 p3), .c (.list 4 ty4 p4)] [] (.c (.bool y)) []
theorem ek7 {R : Type} {c : List ty3.den → Bool → List ty4.den → Int → List ty4.den → Option (Bool)} (hs : Sp7 c) : EOk 7 (e7 (R := R) c) := fun args objs k r h => by
  unfold e7 at h
  obtain ⟨a0, l0, rfl, q1⟩ := oCons_some h
  obtain ⟨x0, rfl, q2⟩ := oC_some q1
  obtain ⟨p0, rfl, q3⟩ := cList_some q2
  obtain ⟨a1, l1, rfl, q4⟩ := oCons_some q3
  obtain ⟨x1, rfl, q5⟩ := oC_some q4
  obtain ⟨p1, rfl, q6⟩ := cBool_some q5
  obtain ⟨a2, l2, rfl, q7⟩ := oCons_some q6
  obtain ⟨x2, rfl, q8⟩ := oC_some q7
  obtain ⟨p2, rfl, q9⟩ := cList_some q8
  obtain ⟨a3, l3, rfl, q10⟩ := oCons_some q9
  obtain ⟨x3, rfl, q11⟩ := oC_some q10
  obtain ⟨p3, rfl, q12⟩ := cInt_some q11
  obtain ⟨a4, l4, rfl, q13⟩ := oCons_some q12
  obtain ⟨x4, rfl, q14⟩ := oC_some q13
  obtain ⟨p4, rfl, q15⟩ := cList_some q14
  obtain ⟨rfl, q16⟩ := oNil_some q15
  obtain ⟨rfl, q17⟩ := oNilO_some q16
  exact eok_of (hs p0 p1 p2 p3 p4) q17
theorem sf7 {c15 : Option (Bool)} {c22 : List ty3.den → Option ((List UInt8))} {c17 : List UInt8 → Option ((List ty66.den))} {c21 : List ty66.den → Option ((List ty66.den))} {c23 : List ty66.den → Option ((List ty66.den))} {c20 : List ty66.den → Option ((List ty3.den))} {c18 : List ty66.den → List ty4.den → Option ((List ty4.den))} {c24 : List ty66.den → List ty4.den → Option ((List ty4.den))} {c25 : List ty66.den → Option ((List ty3.den))} {c19 : List ty3.den → List ty3.den → Option (Bool)} {c12 : Int → Int → Option (Int)} {c16 : Int → List ty4.den → Option (Int × Bool)} {c26 : Int → List ty4.den → Option (Int × Bool)} (h15 : Sp15 c15) (h22 : Sp22 c22) (h17 : Sp17 c17) (h21 : Sp21 c21) (h23 : Sp23 c23) (h20 : Sp20 c20) (h18 : Sp18 c18) (h24 : Sp24 c24) (h25 : Sp25 c25) (h19 : Sp19 c19) (h12 : Sp12 c12) (h16 : Sp16 c16) (h26 : Sp26 c26) : Sp7 (F7 c15 c22 c17 c21 c23 c20 c18 c24 c25 c19 c12 c16 c26) := fun p0 p1 p2 p3 p4 y hy => by
  refine spec_of (G := ent 15 (e15 c15) (ent 22 (e22 c22) (ent 17 (e17 c17) (ent 21 (e21 c21) (ent 23 (e23 c23) (ent 20 (e20 c20) (ent 18 (e18 c18) (ent 24 (e24 c24) (ent 25 (e25 c25) (ent 19 (e19 c19) (ent 12 (e12 c12) (ent 16 (e16 c16) (ent 26 (e26 c26) (gnil)))))))))))))) (ent_ok (ek15 h15) (ent_ok (ek22 h22) (ent_ok (ek17 h17) (ent_ok (ek21 h21) (ent_ok (ek23 h23) (ent_ok (ek20 h20) (ent_ok (ek18 h18) (ent_ok (ek24 h24) (ent_ok (ek25 h25) (ent_ok (ek19 h19) (ent_ok (ek12 h12) (ent_ok (ek16 h16) (ent_ok (ek26 h26) (gnil_ok)))))))))))))) 1000000 (fn := Try.f7) (by kernel_rfl) (by kernel_rfl) (X := X7) (by kernel_rfl) ?_
  rw [fo7, hy]
  rfl
noncomputable def M7 : List ty3.den → Bool → List ty4.den → Int → List ty4.den → Option (Bool) := F7 M15 M22 M17 M21 M23 M20 M18 M24 M25 M19 M12 M16 M26
theorem sm7 : Sp7 M7 := sf7 sm15 sm22 sm17 sm21 sm23 sm20 sm18 sm24 sm25 sm19 sm12 sm16 sm26
end Go.Proofs.Ytfdlgmbbflmbgaa.Av
