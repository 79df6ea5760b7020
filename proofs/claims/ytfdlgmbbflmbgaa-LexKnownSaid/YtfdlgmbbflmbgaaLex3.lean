/- Package lex: token, Lex, IsWord. Conditions: none. -/
import Derived.Test.YtfdlgmbbflmbgaaLex2
set_option linter.unusedVariables false
set_option linter.unusedSimpArgs false
namespace Go.Proofs.Ytfdlgmbbflmbgaa.Av
open Go

abbrev TTok : Ty := .pair (.int .i64) (.pair .str (.pair (.int .i64) (.int .i64)))
abbrev Tok := Int × (List UInt8 × (Int × Int))
def findSign (s : List UInt8) : List (List UInt8) → Tok
  | [] => (0, [], 0, 0)
  | g :: r => bif prefF s g then (4, g, 0, 0) else findSign s r
/-- a token at the beginning of a text -/
def tokenF (s : List UInt8) : Tok :=
  cond (digitF ((s.getD 0 0).toNat : Int)) (cond (decide ((runF digitF s).length ≤ 3)) (1, runF digitF s, numberF (runF digitF s), 0) (0, [], 0, 0))
    (cond (beginsF ((s.getD 0 0).toNat : Int)) (cond (decide ((runF withinF s).length ≤ 8)) (2, runF withinF s, 0, 0) (0, [], 0, 0))
      (cond (contF [88, 70, 71, 85, 82] ((s.getD 0 0).toNat : Int)) (3, s.take 1, 0, 0) (findSign s signsL)))
def tokA (t : Tok) : AV := .agg [.int .i64 t.1, .str t.2.1, .int .i64 t.2.2.1, .int .i64 t.2.2.2]

def gT {R : Type} : Gam R := ent 40 eRun (ent 58 eNumber (ent 37 eContains (ent 60 ePref (ent 59 eSigns gDB))))
theorem gT_ok {R : Type} : GOk Try.prog gl0 (gT (R := R)) := ent_ok eRun_ok (ent_ok eNumber_ok (ent_ok eContains_ok (ent_ok ePref_ok (ent_ok eSigns_ok gDB_ok))))
def tokE (s : List UInt8) (i : Int) : List AV × Objs := (mk 55 [(0, .c (.str s)), (2, .c (.ptr 2 0)), (42, .c (.own 42)), (43, .c (.int .i64 signsL.length)), (44, .c (.int .i64 i))],
  [(2, .box 33 [.int .i64 0, .str [], .int .i64 0, .int .i64 0]), (42, .row 9 .str signsL)])
def tokT {R : Type} (B : Ops) (s : List UInt8) (i : Int) (k : AV → Objs → Option R) (again : Int → Option R) : Option R :=
  cond (B.lt i signsL.length) (cond (B.inb i signsL.length) (cond (prefF s (signsL.getD i.toNat [])) (k (tokA (4, signsL.getD i.toNat [], 0, 0)) []) (again (IntKind.i64.wrap (i + 1)))) none) (k (tokA (0, [], 0, 0)) [])
theorem tokT_loop {R : Type} (s : List UInt8) (k : AV → Objs → Option R) (L : Nat → Int → Option R) (hL : ∀ m i, L (m + 1) i = tokT Ops.std s i k (L m)) :
    ∀ (t i m : Nat), i + t = signsL.length → t < m → L m (i : Int) = k (tokA (findSign s (signsL.drop i))) []
  | t, i, 0, hn, hm => by omega
  | t, i, m + 1, hn, hm => by
    have h20 : signsL.length = 20 := rfl
    rw [hL, tokT, lt_std, inb_std]
    by_cases h : i < signsL.length
    · simp only [h, decide_true, cond_true, Int.toNat_natCast]
      rw [drop_cons' [] h, findSign]
      cases hp : prefF s (signsL.getD i []) with
      | true => simp
      | false =>
        simp only [cond_false]
        rw [wrap_succ (by omega), tokT_loop s k L hL (t - 1) (i + 1) m (by omega) (by omega)]
    · have : signsL.drop i = [] := List.drop_eq_nil_of_le (by omega)
      simp [h, this, findSign]
def token0 {R : Type} (B : Ops) (s : List UInt8) (k : AV → Objs → Option R) (again : Option R) : Option R :=
  cond (B.inb 0 s.length)
    (cond (digitF ((s.getD 0 0).toNat : Int))
      (cond (short s) (cond (B.le (runF digitF s).length 3) (cond (short (runF digitF s)) (k (tokA (1, runF digitF s, numberF (runF digitF s), 0)) []) none) (k (tokA (0, [], 0, 0)) [])) none)
      (cond (beginsF ((s.getD 0 0).toNat : Int))
        (cond (short s) (cond (B.le (runF withinF s).length 8) (k (tokA (2, runF withinF s, 0, 0)) []) (k (tokA (0, [], 0, 0)) [])) none)
        (cond (contF [88, 70, 71, 85, 82] ((s.getD 0 0).toNat : Int)) (cond (B.inb 1 (s.length + 1)) (k (tokA (3, (s.take 1).drop 0, 0, 0)) []) none) again)))
    none
theorem token_start (B : Ops) (s : List UInt8) (k : AV → Objs → Option AO) (m : Nat) : afun tau B gl0 gT ow Try.f38 [.c (.str s)] [] k m = token0 B s k (aloop tau B gl0 gT ow [] Try.f38 k 0 (tokE s 0) m) := by kernel_rfl
theorem token_loop (B : Ops) (s : List UInt8) (k : AV → Objs → Option AO) (m : Nat) (i : Int) : aloop tau B gl0 gT ow [] Try.f38 k 0 (tokE s i) (m + 1) = tokT B s i k fun i' => aloop tau B gl0 gT ow [] Try.f38 k 0 (tokE s i') m := by kernel_rfl
theorem short_take (s : List UInt8) (n : Nat) (h : short s = true) : short (s.take n) = true := by
  simp only [short, decide_eq_true_eq, List.length_take] at h ⊢
  omega
theorem le_std (a b : Nat) : Ops.std.le (a : Int) (b : Int) = decide (a ≤ b) := by
  simp only [Ops.le, Ops.std]
  by_cases h : a ≤ b
  · simp [h]
  · simp [h]; omega
theorem token_spec (s : List UInt8) (hs : short s = true) (hn : 0 < s.length) : Spec Try.prog gl0 38 [.c (.str s)] [] (tokA (tokenF s)) [] := by
  refine spec_of (G := gT) gT_ok (signsL.length + 1) (fn := Try.f38) (by kernel_rfl) (by kernel_rfl) ?_
  rw [token_start, token0, tokenF]
  have hl := tokT_loop s k0 (fun m i => aloop tau Ops.std gl0 gT ow [] Try.f38 k0 0 (tokE s i) m) (fun m i => token_loop _ s _ m i) signsL.length 0 (signsL.length + 1) (by omega) (by omega)
  have hl : aloop tau Ops.std gl0 gT ow [] Try.f38 k0 0 (tokE s 0) (signsL.length + 1) = k0 (tokA (findSign s signsL)) [] := by simpa using hl
  rw [hl]
  have i0 : Ops.std.inb 0 s.length = true := by have := inb_std 0 s.length; simp only [Int.natCast_zero] at this; simpa [hn] using this
  have i1 : Ops.std.inb 1 (s.length + 1) = true := by have := inb_std 1 (s.length + 1); simp only [Int.natCast_one] at this; rw [this]; simp; omega
  rw [i0, hs, i1]
  have l3 : Ops.std.le ((runF digitF s).length : Int) 3 = decide ((runF digitF s).length ≤ 3) := le_std _ 3
  have l8 : Ops.std.le ((runF withinF s).length : Int) 8 = decide ((runF withinF s).length ≤ 8) := le_std _ 8
  have hsr : short (runF digitF s) = true := short_take s _ hs
  rw [l3, l8, hsr]
  cases digitF ((s.getD 0 0).toNat : Int) <;> cases decide ((runF digitF s).length ≤ 3) <;> cases beginsF ((s.getD 0 0).toNat : Int) <;> cases decide ((runF withinF s).length ≤ 8) <;> cases contF [88, 70, 71, 85, 82] ((s.getD 0 0).toNat : Int) <;> rfl
def eToken {R : Type} : Ent R
  | [.c (.str s)], [], k => cond (short s) (cond (Nat.blt 0 s.length) (k (tokA (tokenF s)) []) none) none
  | _, _, _ => none
theorem eToken_ok {R : Type} : EOk 38 (eToken (R := R)) := fun args objs k r h => by
  unfold eToken at h
  split at h
  · rename_i s
    cases hs : short s with
    | false => rw [hs] at h; cases h
    | true =>
      rw [hs] at h
      cases hn : Nat.blt 0 s.length with
      | false => rw [hn] at h; cases h
      | true => rw [hn] at h; exact ⟨_, _, h, token_spec s hs (Nat.le_of_ble_eq_true hn)⟩
  · cases h

/-! ### Lex -/
def blankF (c : Int) : Bool := contF [32, 9, 10] c
/-- from a place on; n: how many steps -/
def lexGo (s : List UInt8) : Nat → Nat → List Tok → List Tok × (Int × Int)
  | 0, _, out => (out, 0, 0)
  | n + 1, i, out =>
    cond (decide (i < s.length))
      (cond (blankF ((s.getD i 0).toNat : Int)) (lexGo s n (i + 1) out)
        (cond (decide ((tokenF (s.drop i)).1 = 0)) ([], 2, (i : Int))
          (lexGo s n (i + (tokenF (s.drop i)).2.1.length) (out ++ [((tokenF (s.drop i)).1, (tokenF (s.drop i)).2.1, (tokenF (s.drop i)).2.2.1, (i : Int))]))))
      (out ++ [(5, [], 0, (s.length : Int))], 0, 0)
def lexF (s : List UInt8) : List Tok × (Int × Int) := cond (decide (60000 < s.length)) ([], 14, 0) (lexGo s (s.length + 1) 0 [])
def gX {R : Type} : Gam R := ent 38 eToken (ent 37 eContains gnil)
theorem gX_ok {R : Type} : GOk Try.prog gl0 (gX (R := R)) := ent_ok eToken_ok (ent_ok eContains_ok gnil_ok)
def lexE (s : List UInt8) (out : List Tok) (i : Int) : List AV × Objs := (mk 48 [(0, .c (.str s)), (5, .c (.own 5)), (6, .c (.int .i64 i))], [(5, .row 33 TTok out)])
def lexK {R : Type} (k : AV → Objs → Option R) (r : List Tok × (Int × Int)) : Option R := k (.tup [(false, [.own 501000]), (false, [.int .i64 r.2.1]), (false, [.int .i64 r.2.2])]) [(501000, .row 33 TTok r.1)]
def lexT {R : Type} (B : Ops) (s : List UInt8) (out : List Tok) (i : Int) (k : AV → Objs → Option R) (again : List Tok → Int → Option R) : Option R :=
  cond (B.lt i s.length)
    (cond (B.inb i s.length)
      (cond (contF [32, 9, 10] ((s.getD i.toNat 0).toNat : Int)) (again out (IntKind.i64.wrap (i + 1)))
        (cond (B.inb i (s.length + 1))
          (cond (short ((s.take s.length).drop i.toNat)) (cond (Nat.blt 0 ((s.take s.length).drop i.toNat).length)
            (cond (B.eq (tokenF ((s.take s.length).drop i.toNat)).1 0) (lexK k ([], 2, i))
              (cond (B.lim (out.length + [((tokenF ((s.take s.length).drop i.toNat)).1, (tokenF ((s.take s.length).drop i.toNat)).2.1, (tokenF ((s.take s.length).drop i.toNat)).2.2.1, i)].length) 40)
                (again (out ++ [((tokenF ((s.take s.length).drop i.toNat)).1, (tokenF ((s.take s.length).drop i.toNat)).2.1, (tokenF ((s.take s.length).drop i.toNat)).2.2.1, i)]) (IntKind.i64.wrap (i + (tokenF ((s.take s.length).drop i.toNat)).2.1.length))) none)) none) none) none)) none)
    (cond (B.lim (out.length + [((5, [], 0, (s.length : Int)) : Tok)].length) 40) (lexK k (out ++ [(5, [], 0, (s.length : Int))], 0, 0)) none)
theorem lex_start (B : Ops) (s : List UInt8) (k : AV → Objs → Option AO) (m : Nat) : afun tau B gl0 gX ow Try.f13 [.c (.str s)] [] k m =
    cond (B.lt 60000 s.length) (lexK k ([], 14, 0)) (aloop tau B gl0 gX ow [] Try.f13 k 0 (lexE s [] 0) m) := by kernel_rfl
theorem lex_loop (B : Ops) (s : List UInt8) (out : List Tok) (i : Int) (k : AV → Objs → Option AO) (m : Nat) : aloop tau B gl0 gX ow [] Try.f13 k 0 (lexE s out i) (m + 1) =
    lexT B s out i k fun out' i' => aloop tau B gl0 gX ow [] Try.f13 k 0 (lexE s out' i') m := by kernel_rfl
end Go.Proofs.Ytfdlgmbbflmbgaa.Av
