/- Package lex: what its functions answer. Conditions: none. -/
import Derived.Test.YtfdlgmbbflmbgaaAv18
set_option linter.unusedVariables false
set_option linter.unusedSimpArgs false
namespace Go.Proofs.Ytfdlgmbbflmbgaa.Av
open Go

def ow : Nat → Nat → Bool := fun _ _ => false
def mk (n : Nat) (l : List (Nat × AV)) : List AV := (List.range n).map fun i => ((l.find? fun p => Nat.beq p.1 i).map (·.2)).getD (.c .bot)
abbrev Ent (R : Type) := List AV → Objs → (AV → Objs → Option R) → Option R
abbrev Gam (R : Type) := Nat → List AV → Objs → (AV → Objs → Option R) → Option R
def gnil {R : Type} : Gam R := fun _ _ _ _ => none
def ent {R : Type} (f0 : Nat) (E : Ent R) (G : Gam R) : Gam R := fun f a o k => bif Nat.beq f f0 then E a o k else G f a o k
def EOk {R : Type} (f : Nat) (E : Ent R) : Prop := ∀ args objs k r, E args objs k = some r → ∃ v o', k v o' = some r ∧ Spec Try.prog gl0 f args objs v o'
theorem gnil_ok {R : Type} : GOk Try.prog gl0 (gnil (R := R)) := fun f a o k r h => by cases h
theorem ent_ok {R : Type} {f0 : Nat} {E : Ent R} {G : Gam R} (hE : EOk f0 E) (hG : GOk Try.prog gl0 G) : GOk Try.prog gl0 (ent f0 E G) := fun f a o k r h => by
  unfold ent at h
  cases hb : Nat.beq f f0 with
  | true => rw [hb] at h; have := Nat.eq_of_beq_eq_true hb; subst this; exact hE a o k r h
  | false => rw [hb] at h; exact hG f a o k r h
abbrev AO := AV × Objs
abbrev k0 : AV → Objs → Option AO := fun v o => some (v, o)
theorem spec_of {G : Gam AO} (hG : GOk Try.prog gl0 G) {f : Nat} {fn : Func} {args : List AV} {objs objs' : Objs} {v : AV} (n : Nat) (hf : Try.prog.funcs[f]? = some fn) (hname : (fn.name == "runtime.NumGoroutine") = false)
    (h : afun tau Ops.std gl0 G ow fn args objs k0 n = some (v, objs')) : Spec Try.prog gl0 f args objs v objs' := afun_ok Ops.std_ok tau_ok hG hf hname h

/-! ### Small laws -/
theorem lt_std (a b : Nat) : Ops.std.lt (a : Int) (b : Int) = decide (a < b) := by simp [Ops.std]
theorem inb_std (a b : Nat) : Ops.std.inb (a : Int) b = decide (a < b) := by
  simp only [Ops.inb, Ops.std]
  have : ¬ (a : Int) < 0 := by omega
  simp [this]
theorem wrap_succ {n : Nat} (h : n < 9223372036854775807) : IntKind.i64.wrap ((n : Int) + 1) = ((n + 1 : Nat) : Int) := by rw [wrap_id (by omega) (by omega)]; omega
theorem drop_cons {s : List UInt8} {n : Nat} (h : n < s.length) : s.drop n = s.getD n 0 :: s.drop (n + 1) := by
  rw [List.drop_eq_getElem_cons h]
  congr 1
  simp [List.getD_eq_getElem?_getD, List.getElem?_eq_getElem h]

/-! ### digit, begins, within -/
def digitF (n : Int) : Bool := decide (48 ≤ n) && decide (n ≤ 57)
def beginsF (n : Int) : Bool := (decide (97 ≤ n) && decide (n ≤ 122)) || decide (n = 95)
def withinF (n : Int) : Bool := beginsF n || digitF n

theorem digit_spec (n : Int) : Spec Try.prog gl0 57 [.c (.int .u8 n)] [] (.c (.bool (digitF n))) [] := by
  refine spec_of (G := gnil) gnil_ok 1 (fn := Try.f57) (by kernel_rfl) (by kernel_rfl) ?_
  have h : ∀ (B : Ops) (k : AV → Objs → Option AO), afun tau B gl0 gnil ow Try.f57 [.c (.int .u8 n)] [] k 1 = cond (B.le 48 n) (k (.c (.bool (B.le n 57))) []) (k (.c (.bool false)) []) := fun B k => by kernel_rfl
  rw [h, digitF]
  by_cases h1 : n < 48 <;> by_cases h2 : 57 < n <;> simp [Ops.le, Ops.std, h1, h2] <;> omega
def eDigit {R : Type} : Ent R
  | [.c (.int .u8 n)], [], k => k (.c (.bool (digitF n))) []
  | _, _, _ => none
theorem eDigit_ok {R : Type} : EOk 57 (eDigit (R := R)) := fun args objs k r h => by
  unfold eDigit at h
  split at h
  · exact ⟨_, _, h, digit_spec _⟩
  · cases h

theorem begins_spec (n : Int) : Spec Try.prog gl0 39 [.c (.int .u8 n)] [] (.c (.bool (beginsF n))) [] := by
  refine spec_of (G := gnil) gnil_ok 1 (fn := Try.f39) (by kernel_rfl) (by kernel_rfl) ?_
  have h : ∀ (B : Ops) (k : AV → Objs → Option AO), afun tau B gl0 gnil ow Try.f39 [.c (.int .u8 n)] [] k 1 = cond (B.le 97 n) (cond (B.le n 122) (k (.c (.bool true)) []) (k (.c (.bool (B.eq n 95))) [])) (k (.c (.bool (B.eq n 95))) []) := fun B k => by kernel_rfl
  rw [h, beginsF]
  by_cases h1 : n < 97 <;> by_cases h2 : 122 < n <;> simp [Ops.le, Ops.std, h1, h2] <;> omega
def eBegins {R : Type} : Ent R
  | [.c (.int .u8 n)], [], k => k (.c (.bool (beginsF n))) []
  | _, _, _ => none
theorem eBegins_ok {R : Type} : EOk 39 (eBegins (R := R)) := fun args objs k r h => by
  unfold eBegins at h
  split at h
  · exact ⟨_, _, h, begins_spec _⟩
  · cases h

def gDB {R : Type} : Gam R := ent 57 eDigit (ent 39 eBegins gnil)
theorem gDB_ok {R : Type} : GOk Try.prog gl0 (gDB (R := R)) := ent_ok eDigit_ok (ent_ok eBegins_ok gnil_ok)

theorem within_spec (n : Int) : Spec Try.prog gl0 41 [.c (.int .u8 n)] [] (.c (.bool (withinF n))) [] := by
  refine spec_of (G := gDB) gDB_ok 1 (fn := Try.f41) (by kernel_rfl) (by kernel_rfl) ?_
  have h : ∀ (B : Ops) (k : AV → Objs → Option AO), afun tau B gl0 gDB ow Try.f41 [.c (.int .u8 n)] [] k 1 = cond (beginsF n) (k (.c (.bool true)) []) (k (.c (.bool (digitF n))) []) := fun B k => by kernel_rfl
  rw [h, withinF]
  cases beginsF n <;> rfl
def eWithin {R : Type} : Ent R
  | [.c (.int .u8 n)], [], k => k (.c (.bool (withinF n))) []
  | _, _, _ => none
theorem eWithin_ok {R : Type} : EOk 41 (eWithin (R := R)) := fun args objs k r h => by
  unfold eWithin at h
  split at h
  · exact ⟨_, _, h, within_spec _⟩
  · cases h

/-! ### run -/
def runLen (p : Int → Bool) : List UInt8 → Nat
  | [] => 0
  | c :: r => bif p c.toNat then runLen p r + 1 else 0
theorem runLen_le (p : Int → Bool) : ∀ s, runLen p s ≤ s.length
  | [] => Nat.le_refl _
  | c :: r => by
    simp only [runLen]
    cases p c.toNat with
    | true => simp; exact runLen_le p r
    | false => simp
def runF (p : Int → Bool) (s : List UInt8) : List UInt8 := s.take (runLen p s)
def gR {R : Type} : Gam R := ent 41 eWithin gDB
theorem gR_ok {R : Type} : GOk Try.prog gl0 (gR (R := R)) := ent_ok eWithin_ok gDB_ok

def runE (s : List UInt8) (f : Nat) (n : Int) : List AV × Objs := (mk 22 [(0, .c (.str s)), (1, .fn f []), (4, .c (.str [])), (5, .c (.int .i64 n))], [])
def runT {R : Type} (B : Ops) (p : Int → Bool) (s : List UInt8) (n : Int) (k : AV → Objs → Option R) (again : Int → Option R) : Option R :=
  cond (B.lt n s.length) (cond (B.inb n s.length) (cond (p ((s.getD n.toNat 0).toNat : Int)) (again (IntKind.i64.wrap (n + 1)))
    (cond (B.inb n (s.length + 1)) (k (.c (.str ((s.take n.toNat).drop 0))) []) none)) none)
    (cond (B.inb n (s.length + 1)) (k (.c (.str ((s.take n.toNat).drop 0))) []) none)

theorem runT_loop {R : Type} (p : Int → Bool) (s : List UInt8) (k : AV → Objs → Option R) (L : Nat → Int → Option R) (hL : ∀ m n, L (m + 1) n = runT Ops.std p s n k (L m)) (hs : s.length ≤ 9223372036854775807) :
    ∀ (t n m : Nat), n + t = s.length → t < m → L m (n : Int) = k (.c (.str (s.take (n + runLen p (s.drop n))))) []
  | t, n, 0, hn, hm => by omega
  | t, n, m + 1, hn, hm => by
    rw [hL, runT, lt_std, inb_std]
    by_cases h : n < s.length
    · have hd := drop_cons h
      have i2 : Ops.std.inb (n : Int) (s.length + 1) = true := by rw [inb_std]; simp; omega
      simp only [h, decide_true, cond_true, i2, Int.toNat_natCast]
      cases hp : p ((s.getD n 0).toNat : Int) with
      | true =>
        simp only [cond_true]
        rw [wrap_succ (by omega), runT_loop p s k L hL hs (t - 1) (n + 1) m (by omega) (by omega), hd]
        simp only [runLen, hp, cond_true]
        congr 4
        omega
      | false =>
        simp only [cond_false]
        rw [hd]
        simp only [runLen, hp, cond_false, Nat.add_zero, List.drop_zero]
    · have i2 : Ops.std.inb (n : Int) (s.length + 1) = true := by rw [inb_std]; simp; omega
      have : s.drop n = [] := List.drop_eq_nil_of_le (by omega)
      simp [h, i2, this, runLen]

theorem run_digit_spec (s : List UInt8) (hs : s.length ≤ 9223372036854775807) : Spec Try.prog gl0 40 [.c (.str s), .fn 57 []] [] (.c (.str (runF digitF s))) [] := by
  refine spec_of (G := gR) gR_ok (s.length + 1) (fn := Try.f40) (by kernel_rfl) (by kernel_rfl) ?_
  have h : ∀ (B : Ops) (k : AV → Objs → Option AO) (m : Nat), afun tau B gl0 gR ow Try.f40 [.c (.str s), .fn 57 []] [] k m = aloop tau B gl0 gR ow [] Try.f40 k 0 (runE s 57 0) m := fun B k m => by kernel_rfl
  have hl : ∀ (B : Ops) (k : AV → Objs → Option AO) (m : Nat) (n : Int), aloop tau B gl0 gR ow [] Try.f40 k 0 (runE s 57 n) (m + 1) =
      runT B digitF s n k fun n' => aloop tau B gl0 gR ow [] Try.f40 k 0 (runE s 57 n') m := fun B k m n => by kernel_rfl
  rw [h]
  have := runT_loop digitF s k0 (fun m n => aloop tau Ops.std gl0 gR ow [] Try.f40 k0 0 (runE s 57 n) m) (fun m n => hl _ _ m n) hs s.length 0 (s.length + 1) (by omega) (by omega)
  simpa [runF] using this
theorem run_within_spec (s : List UInt8) (hs : s.length ≤ 9223372036854775807) : Spec Try.prog gl0 40 [.c (.str s), .fn 41 []] [] (.c (.str (runF withinF s))) [] := by
  refine spec_of (G := gR) gR_ok (s.length + 1) (fn := Try.f40) (by kernel_rfl) (by kernel_rfl) ?_
  have h : ∀ (B : Ops) (k : AV → Objs → Option AO) (m : Nat), afun tau B gl0 gR ow Try.f40 [.c (.str s), .fn 41 []] [] k m = aloop tau B gl0 gR ow [] Try.f40 k 0 (runE s 41 0) m := fun B k m => by kernel_rfl
  have hl : ∀ (B : Ops) (k : AV → Objs → Option AO) (m : Nat) (n : Int), aloop tau B gl0 gR ow [] Try.f40 k 0 (runE s 41 n) (m + 1) =
      runT B withinF s n k fun n' => aloop tau B gl0 gR ow [] Try.f40 k 0 (runE s 41 n') m := fun B k m n => by kernel_rfl
  rw [h]
  have := runT_loop withinF s k0 (fun m n => aloop tau Ops.std gl0 gR ow [] Try.f40 k0 0 (runE s 41 n) m) (fun m n => hl _ _ m n) hs s.length 0 (s.length + 1) (by omega) (by omega)
  simpa [runF] using this
def short (s : List UInt8) : Bool := decide (s.length ≤ 9223372036854775807)
def eRun {R : Type} : Ent R
  | [.c (.str s), .fn f []], [], k => bif Nat.beq f 57 then cond (short s) (k (.c (.str (runF digitF s))) []) none
      else bif Nat.beq f 41 then cond (short s) (k (.c (.str (runF withinF s))) []) none else none
  | _, _, _ => none
theorem eRun_ok {R : Type} : EOk 40 (eRun (R := R)) := fun args objs k r h => by
  unfold eRun at h
  split at h
  · rename_i s f
    cases h1 : Nat.beq f 57 with
    | true =>
      rw [h1] at h
      have := Nat.eq_of_beq_eq_true h1
      subst this
      cases hs : short s with
      | false => rw [hs] at h; cases h
      | true => rw [hs] at h; exact ⟨_, _, h, run_digit_spec s (by simpa [short] using hs)⟩
    | false =>
      rw [h1] at h
      cases h2 : Nat.beq f 41 with
      | true =>
        rw [h2] at h
        have := Nat.eq_of_beq_eq_true h2
        subst this
        cases hs : short s with
        | false => rw [hs] at h; cases h
        | true => rw [hs] at h; exact ⟨_, _, h, run_within_spec s (by simpa [short] using hs)⟩
      | false => rw [h2] at h; cases h
  · cases h
end Go.Proofs.Ytfdlgmbbflmbgaa.Av
