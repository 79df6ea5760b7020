/- Package lex: numbers, signs, tokens. Conditions: none. -/
import Derived.Test.YtfdlgmbbflmbgaaLex1
set_option linter.unusedVariables false
set_option linter.unusedSimpArgs false
namespace Go.Proofs.Ytfdlgmbbflmbgaa.Av
open Go

/-! ### number -/
def numStep (n : Int) (c : UInt8) : Int := IntKind.i64.wrap (IntKind.i64.wrap (10 * n) + IntKind.i64.wrap (IntKind.u8.wrap ((c.toNat : Int) - 48)))
def numberF (s : List UInt8) : Int := s.foldl numStep 0
def numE (s : List UInt8) (n i : Int) : List AV × Objs := (mk 20 [(0, .c (.str s)), (2, .c (.int .i64 0)), (3, .c (.int .i64 n)), (6, .c (.int .i64 s.length)), (7, .c (.int .i64 i))], [])
def numT {R : Type} (B : Ops) (s : List UInt8) (n i : Int) (k : AV → Objs → Option R) (again : Int → Int → Option R) : Option R :=
  cond (B.lt i s.length) (cond (B.inb i s.length) (again (numStep n (s.getD i.toNat 0)) (IntKind.i64.wrap (i + 1))) none) (k (.c (.int .i64 n)) [])
theorem numT_loop {R : Type} (s : List UInt8) (k : AV → Objs → Option R) (L : Nat → Int → Int → Option R) (hL : ∀ m n i, L (m + 1) n i = numT Ops.std s n i k (L m)) (hs : s.length ≤ 9223372036854775807) :
    ∀ (t i m : Nat) (n : Int), i + t = s.length → t < m → L m n (i : Int) = k (.c (.int .i64 ((s.drop i).foldl numStep n))) []
  | t, i, 0, n, hn, hm => by omega
  | t, i, m + 1, n, hn, hm => by
    rw [hL, numT, lt_std, inb_std]
    by_cases h : i < s.length
    · simp only [h, decide_true, cond_true, Int.toNat_natCast]
      rw [wrap_succ (by omega), numT_loop s k L hL hs (t - 1) (i + 1) m _ (by omega) (by omega), drop_cons h, List.foldl_cons]
    · have : s.drop i = [] := List.drop_eq_nil_of_le (by omega)
      simp [h, this]
theorem number_spec (s : List UInt8) (hs : s.length ≤ 9223372036854775807) : Spec Try.prog gl0 58 [.c (.str s)] [] (.c (.int .i64 (numberF s))) [] := by
  refine spec_of (G := gnil) gnil_ok (s.length + 1) (fn := Try.f58) (by kernel_rfl) (by kernel_rfl) ?_
  have h : ∀ (B : Ops) (k : AV → Objs → Option AO) (m : Nat), afun tau B gl0 gnil ow Try.f58 [.c (.str s)] [] k m = aloop tau B gl0 gnil ow [] Try.f58 k 0 (numE s 0 0) m := fun B k m => by kernel_rfl
  have hl : ∀ (B : Ops) (k : AV → Objs → Option AO) (m : Nat) (n i : Int), aloop tau B gl0 gnil ow [] Try.f58 k 0 (numE s n i) (m + 1) =
      numT B s n i k fun n' i' => aloop tau B gl0 gnil ow [] Try.f58 k 0 (numE s n' i') m := fun B k m n i => by kernel_rfl
  rw [h]
  have := numT_loop s k0 (fun m n i => aloop tau Ops.std gl0 gnil ow [] Try.f58 k0 0 (numE s n i) m) (fun m n i => hl _ _ m n i) hs s.length 0 (s.length + 1) 0 (by omega) (by omega)
  simpa [numberF] using this
def eNumber {R : Type} : Ent R
  | [.c (.str s)], [], k => cond (short s) (k (.c (.int .i64 (numberF s))) []) none
  | _, _, _ => none
theorem eNumber_ok {R : Type} : EOk 58 (eNumber (R := R)) := fun args objs k r h => by
  unfold eNumber at h
  split at h
  · rename_i s
    cases hs : short s with
    | false => rw [hs] at h; cases h
    | true => rw [hs] at h; exact ⟨_, _, h, number_spec s (by simpa [short] using hs)⟩
  · cases h

/-! ### slices.Index, slices.Contains of bytes -/
def indexF (n : Int) : Nat → List Int → Int
  | _, [] => -1
  | i, x :: r => bif decide (n = x) then (i : Int) else indexF n (i + 1) r
def idxE (xs : List Int) (n i : Int) : List AV × Objs := (mk 19 [(0, .c (.list 5 (.int .u8) xs)), (1, .c (.int .u8 n)), (7, .c (.int .i64 xs.length)), (8, .c (.int .i64 i))], [])
def idxT {R : Type} (B : Ops) (xs : List Int) (n i : Int) (k : AV → Objs → Option R) (again : Int → Option R) : Option R :=
  cond (B.lt i xs.length) (cond (B.inb i xs.length) (cond (B.eq n (xs.getD i.toNat 0)) (k (.c (.int .i64 i)) []) (again (IntKind.i64.wrap (i + 1)))) none) (k (.c (.int .i64 (-1))) [])
theorem drop_cons' {α : Type} {s : List α} {n : Nat} (d : α) (h : n < s.length) : s.drop n = s.getD n d :: s.drop (n + 1) := by
  rw [List.drop_eq_getElem_cons h]
  congr 1
  simp [List.getD_eq_getElem?_getD, List.getElem?_eq_getElem h]
theorem idxT_loop {R : Type} (xs : List Int) (n : Int) (k : AV → Objs → Option R) (L : Nat → Int → Option R) (hL : ∀ m i, L (m + 1) i = idxT Ops.std xs n i k (L m)) (hs : xs.length ≤ 9223372036854775807) :
    ∀ (t i m : Nat), i + t = xs.length → t < m → L m (i : Int) = k (.c (.int .i64 (indexF n i (xs.drop i)))) []
  | t, i, 0, hn, hm => by omega
  | t, i, m + 1, hn, hm => by
    rw [hL, idxT, lt_std, inb_std]
    by_cases h : i < xs.length
    · simp only [h, decide_true, cond_true, Int.toNat_natCast]
      rw [drop_cons' 0 h, indexF]
      by_cases he : n = xs.getD i 0
      · simp [Ops.std, he]
      · simp only [Ops.std, he, decide_false, cond_false]
        rw [wrap_succ (by omega), idxT_loop xs n k L hL hs (t - 1) (i + 1) m (by omega) (by omega)]
    · have : xs.drop i = [] := List.drop_eq_nil_of_le (by omega)
      simp [h, this, indexF]
theorem index_spec (xs : List Int) (n : Int) (hs : xs.length ≤ 9223372036854775807) : Spec Try.prog gl0 56 [.c (.list 5 (.int .u8) xs), .c (.int .u8 n)] [] (.c (.int .i64 (indexF n 0 xs))) [] := by
  refine spec_of (G := gnil) gnil_ok (xs.length + 1) (fn := Try.f56) (by kernel_rfl) (by kernel_rfl) ?_
  have h : ∀ (B : Ops) (k : AV → Objs → Option AO) (m : Nat), afun tau B gl0 gnil ow Try.f56 [.c (.list 5 (.int .u8) xs), .c (.int .u8 n)] [] k m = aloop tau B gl0 gnil ow [] Try.f56 k 0 (idxE xs n 0) m := fun B k m => by kernel_rfl
  have hl : ∀ (B : Ops) (k : AV → Objs → Option AO) (m : Nat) (i : Int), aloop tau B gl0 gnil ow [] Try.f56 k 0 (idxE xs n i) (m + 1) =
      idxT B xs n i k fun i' => aloop tau B gl0 gnil ow [] Try.f56 k 0 (idxE xs n i') m := fun B k m i => by kernel_rfl
  rw [h]
  have := idxT_loop xs n k0 (fun m i => aloop tau Ops.std gl0 gnil ow [] Try.f56 k0 0 (idxE xs n i) m) (fun m i => hl _ _ m i) hs xs.length 0 (xs.length + 1) (by omega) (by omega)
  simpa using this
def shortI (s : List Int) : Bool := decide (s.length ≤ 9223372036854775807)
def eIndex {R : Type} : Ent R
  | [.c (.list e (.int .u8) xs), .c (.int .u8 n)], [], k => bif Nat.beq e 5 then cond (shortI xs) (k (.c (.int .i64 (indexF n 0 xs))) []) none else none
  | _, _, _ => none
theorem eIndex_ok {R : Type} : EOk 56 (eIndex (R := R)) := fun args objs k r h => by
  unfold eIndex at h
  split at h
  · rename_i e xs n
    cases he : Nat.beq e 5 with
    | false => rw [he] at h; cases h
    | true =>
      rw [he] at h
      have := Nat.eq_of_beq_eq_true he
      subst this
      cases hs : shortI xs with
      | false => rw [hs] at h; cases h
      | true => rw [hs] at h; exact ⟨_, _, h, index_spec xs n (by simpa [shortI] using hs)⟩
  · cases h

def gIx {R : Type} : Gam R := ent 56 eIndex gnil
theorem gIx_ok {R : Type} : GOk Try.prog gl0 (gIx (R := R)) := ent_ok eIndex_ok gnil_ok
theorem indexF_has (n : Int) : ∀ (xs : List Int) (i : Nat), (0 ≤ indexF n i xs) ↔ n ∈ xs
  | [], i => by simp [indexF]
  | x :: r, i => by
    simp only [indexF]
    by_cases h : n = x
    · simp [h]
    · simp [h, indexF_has n r (i + 1)]
def contF (xs : List Int) (n : Int) : Bool := xs.any fun x => decide (n = x)
theorem contains_spec (xs : List Int) (n : Int) (hs : xs.length ≤ 9223372036854775807) : Spec Try.prog gl0 37 [.c (.list 5 (.int .u8) xs), .c (.int .u8 n)] [] (.c (.bool (contF xs n))) [] := by
  refine spec_of (G := gIx) gIx_ok 1 (fn := Try.f37) (by kernel_rfl) (by kernel_rfl) ?_
  have h : ∀ (B : Ops) (k : AV → Objs → Option AO), afun tau B gl0 gIx ow Try.f37 [.c (.list 5 (.int .u8) xs), .c (.int .u8 n)] [] k 1 = cond (shortI xs) (k (.c (.bool (B.le 0 (indexF n 0 xs)))) []) none := fun B k => by kernel_rfl
  rw [h]
  have h1 : shortI xs = true := by simpa [shortI] using hs
  have h2 : Ops.std.le 0 (indexF n 0 xs) = contF xs n := by
    have := indexF_has n xs 0
    simp only [Ops.le, Ops.std, contF]
    by_cases hm : n ∈ xs
    · have h3 := this.2 hm
      have : xs.any (fun x => decide (n = x)) = true := by simpa using hm
      rw [this]; simp; omega
    · have h3 : ¬ 0 ≤ indexF n 0 xs := fun h => hm (this.1 h)
      have : xs.any (fun x => decide (n = x)) = false := by
        rw [List.any_eq_false]
        intro x hx he
        have he : n = x := by simpa using he
        exact hm (by rw [he]; exact hx)
      rw [this]; simp; omega
  rw [h1, h2]; rfl
def eContains {R : Type} : Ent R
  | [.c (.list e (.int .u8) xs), .c (.int .u8 n)], [], k => bif Nat.beq e 5 then cond (shortI xs) (k (.c (.bool (contF xs n))) []) none else none
  | _, _, _ => none
theorem eContains_ok {R : Type} : EOk 37 (eContains (R := R)) := fun args objs k r h => by
  unfold eContains at h
  split at h
  · rename_i e xs n
    cases he : Nat.beq e 5 with
    | false => rw [he] at h; cases h
    | true =>
      rw [he] at h
      have := Nat.eq_of_beq_eq_true he
      subst this
      cases hs : shortI xs with
      | false => rw [hs] at h; cases h
      | true => rw [hs] at h; exact ⟨_, _, h, contains_spec xs n (by simpa [shortI] using hs)⟩
  · cases h

/-! ### strings.HasPrefix -/
def prefF (s t : List UInt8) : Bool := bif decide (t.length ≤ s.length) then s.take t.length == t else false
theorem pref0_spec (s t : List UInt8) : Spec Try.prog gl0 75 [.c (.str s), .c (.str t)] [] (.c (.bool (prefF s t))) [] := by
  refine spec_of (G := gnil) gnil_ok 1 (fn := Try.f75) (by kernel_rfl) (by kernel_rfl) ?_
  have h : ∀ (B : Ops) (k : AV → Objs → Option AO), afun tau B gl0 gnil ow Try.f75 [.c (.str s), .c (.str t)] [] k 1 =
      cond (B.le t.length s.length) (cond (B.inb t.length (s.length + 1)) (k (.c (.bool ((s.take (t.length : Int).toNat).drop 0 == t))) []) none) (k (.c (.bool false)) []) := fun B k => by kernel_rfl
  rw [h, prefF, inb_std]
  by_cases hl : t.length ≤ s.length
  · have : Ops.std.le (t.length : Int) (s.length : Int) = true := by simp [Ops.le, Ops.std]; omega
    simp [this, hl, show t.length < s.length + 1 by omega]
  · have : Ops.std.le (t.length : Int) (s.length : Int) = false := by simp [Ops.le, Ops.std]; omega
    simp [this, hl]
def ePref {R : Type} : Ent R
  | [.c (.str s), .c (.str t)], [], k => k (.c (.bool (prefF s t))) []
  | _, _, _ => none
theorem ePref0_ok {R : Type} : EOk 75 (ePref (R := R)) := fun args objs k r h => by
  unfold ePref at h
  split at h
  · exact ⟨_, _, h, pref0_spec _ _⟩
  · cases h
def gP {R : Type} : Gam R := ent 75 ePref gnil
theorem gP_ok {R : Type} : GOk Try.prog gl0 (gP (R := R)) := ent_ok ePref0_ok gnil_ok
theorem pref_spec (s t : List UInt8) : Spec Try.prog gl0 60 [.c (.str s), .c (.str t)] [] (.c (.bool (prefF s t))) [] := by
  refine spec_of (G := gP) gP_ok 1 (fn := Try.f60) (by kernel_rfl) (by kernel_rfl) ?_
  have h : ∀ (B : Ops) (k : AV → Objs → Option AO), afun tau B gl0 gP ow Try.f60 [.c (.str s), .c (.str t)] [] k 1 = k (.c (.bool (prefF s t))) [] := fun B k => by kernel_rfl
  rw [h]
theorem ePref_ok {R : Type} : EOk 60 (ePref (R := R)) := fun args objs k r h => by
  unfold ePref at h
  split at h
  · exact ⟨_, _, h, pref_spec _ _⟩
  · cases h

/-! ### signs -/
def signsL : List (List UInt8) := [[60, 61], [62, 61], [61, 61], [33, 61], [38, 38], [124, 124], [45, 62], [40], [41], [91], [93], [43], [45], [42], [60], [62], [33], [64], [59], [61]]
theorem signs_spec : Spec Try.prog gl0 59 [] [] (.c (.own 500)) [(500, .row 9 .str signsL)] := by
  refine spec_of (G := gnil) gnil_ok 1 (fn := Try.f59) (by kernel_rfl) (by kernel_rfl) ?_
  kernel_rfl
def eSigns {R : Type} : Ent R
  | [], [], k => k (.c (.own 500)) [(500, .row 9 .str signsL)]
  | _, _, _ => none
theorem eSigns_ok {R : Type} : EOk 59 (eSigns (R := R)) := fun args objs k r h => by
  unfold eSigns at h
  split at h
  · exact ⟨_, _, h, signs_spec⟩
  · cases h
end Go.Proofs.Ytfdlgmbbflmbgaa.Av
