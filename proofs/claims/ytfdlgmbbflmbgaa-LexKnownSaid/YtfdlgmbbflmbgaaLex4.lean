/- Package lex: Lex, IsWord. Conditions: none. -/
import Derived.Test.YtfdlgmbbflmbgaaLex3
set_option linter.unusedVariables false
set_option linter.unusedSimpArgs false
namespace Go.Proofs.Ytfdlgmbbflmbgaa.Av
open Go

theorem runF_len (p : Int → Bool) (s : List UInt8) : (runF p s).length = runLen p s := by
  rw [runF, List.length_take]; have := runLen_le p s; omega
theorem runLen_pos (p : Int → Bool) (s : List UInt8) (hn : 0 < s.length) (h : p ((s.getD 0 0).toNat : Int) = true) : 0 < runLen p s := by
  cases s with
  | nil => simp at hn
  | cons c r => simp at h; simp [runLen, h]
theorem findSign_len (s : List UInt8) : ∀ (l : List (List UInt8)), (∀ g ∈ l, 0 < g.length) → (findSign s l).1 ≠ 0 → 0 < (findSign s l).2.1.length ∧ (findSign s l).2.1.length ≤ s.length
  | [], _, h => by simp [findSign] at h
  | g :: l, hg, h => by
    simp only [findSign] at h ⊢
    cases hp : prefF s g with
    | true =>
      simp only [cond_true]
      refine ⟨hg g List.mem_cons_self, ?_⟩
      unfold prefF at hp
      by_cases hl : g.length ≤ s.length
      · exact hl
      · simp [hl] at hp
    | false =>
      rw [hp] at h
      simp only [cond_false] at h ⊢
      exact findSign_len s l (fun g hg' => hg g (List.mem_cons_of_mem _ hg')) h
theorem tokenF_len (s : List UInt8) (hn : 0 < s.length) (h : (tokenF s).1 ≠ 0) : 0 < (tokenF s).2.1.length ∧ (tokenF s).2.1.length ≤ s.length := by
  have d1 := runLen_pos digitF s hn
  have d2 := runLen_pos withinF s hn
  have e1 := runLen_le digitF s
  have e2 := runLen_le withinF s
  have f1 := runF_len digitF s
  have f2 := runF_len withinF s
  have hs := findSign_len s signsL (by decide)
  have hw : beginsF ((s.getD 0 0).toNat : Int) = true → withinF ((s.getD 0 0).toNat : Int) = true := fun h => by rw [withinF, h]; rfl
  unfold tokenF at h ⊢
  cases hd : digitF ((s.getD 0 0).toNat : Int) with
  | true =>
    rw [hd] at h
    simp only [cond_true] at h ⊢
    cases hc : decide ((runF digitF s).length ≤ 3) with
    | true => simp only [cond_true]; have := d1 hd; omega
    | false => rw [hc] at h; simp at h
  | false =>
    rw [hd] at h
    simp only [cond_false] at h ⊢
    cases hb : beginsF ((s.getD 0 0).toNat : Int) with
    | true =>
      rw [hb] at h
      simp only [cond_true] at h ⊢
      cases hc : decide ((runF withinF s).length ≤ 8) with
      | true => simp only [cond_true]; have := d2 (hw hb); omega
      | false => rw [hc] at h; simp at h
    | false =>
      rw [hb] at h
      simp only [cond_false] at h ⊢
      cases hc : contF [88, 70, 71, 85, 82] ((s.getD 0 0).toNat : Int) with
      | true => simp only [cond_true, List.length_take]; omega
      | false =>
        rw [hc] at h
        simp only [cond_false] at h ⊢
        exact hs h

theorem lexT_loop {R : Type} (s : List UInt8) (k : AV → Objs → Option R) (L : Nat → List Tok → Int → Option R) (hL : ∀ m out i, L (m + 1) out i = lexT Ops.std s out i k (L m)) (hs : s.length ≤ 60000) :
    ∀ (t i m f : Nat) (out : List Tok), i + t = s.length → t < m → t < f → out.length ≤ i → L m out (i : Int) = lexK k (lexGo s f i out)
  | t, i, 0, f, out, hn, hm, hf, ho => by omega
  | t, i, m + 1, 0, out, hn, hm, hf, ho => by omega
  | t, i, m + 1, f + 1, out, hn, hm, hf, ho => by
    have lim : ∀ (x : Tok), Ops.std.lim (out.length + [x].length) 40 = true := fun x => by simp [Ops.std]; omega
    rw [hL, lexT, lt_std, inb_std, inb_std, lexGo]
    by_cases h : i < s.length
    · have hlt : i < s.length + 1 := by omega
      simp only [h, hlt, decide_true, cond_true, Int.toNat_natCast, List.take_length, lim]
      cases hb : contF [32, 9, 10] ((s.getD i 0).toNat : Int) with
      | true =>
        have hb' : blankF ((s.getD i 0).toNat : Int) = true := hb
        simp only [hb', cond_true]
        rw [wrap_succ (by omega), lexT_loop s k L hL hs (t - 1) (i + 1) m f out (by omega) (by omega) (by omega) (by omega)]
      | false =>
        have hb' : blankF ((s.getD i 0).toNat : Int) = false := hb
        simp only [hb', cond_false]
        have h1 : short (s.drop i) = true := by simp [short]; omega
        have h2 : Nat.blt 0 (s.drop i).length = true := by simp [Nat.blt]; omega
        rw [h1, h2]
        simp only [cond_true]
        have heq : Ops.std.eq (tokenF (s.drop i)).1 0 = decide ((tokenF (s.drop i)).1 = 0) := rfl
        rw [heq]
        by_cases h3 : (tokenF (s.drop i)).1 = 0
        · simp [h3]
        · simp only [h3, decide_false, cond_false]
          obtain ⟨g1, g2⟩ := tokenF_len (s.drop i) (by simp; omega) h3
          rw [List.length_drop] at g2
          have hw : IntKind.i64.wrap ((i : Int) + ((tokenF (s.drop i)).2.1.length : Int)) = ((i + (tokenF (s.drop i)).2.1.length : Nat) : Int) := by
            rw [wrap_id (by omega) (by omega)]; omega
          rw [hw]
          exact lexT_loop s k L hL hs (t - (tokenF (s.drop i)).2.1.length) _ m f _ (by omega) (by omega) (by omega) (by simp; omega)
    · simp only [h, decide_false, cond_false, lim, cond_true]
theorem lex_spec (s : List UInt8) : Spec Try.prog gl0 13 [.c (.str s)] [] (.tup [(false, [.own 501000]), (false, [.int .i64 (lexF s).2.1]), (false, [.int .i64 (lexF s).2.2])]) [(501000, .row 33 TTok (lexF s).1)] := by
  refine spec_of (G := gX) gX_ok (s.length + 1) (fn := Try.f13) (by kernel_rfl) (by kernel_rfl) ?_
  rw [lex_start]
  have hlt : Ops.std.lt 60000 (s.length : Int) = decide (60000 < s.length) := lt_std 60000 _
  rw [hlt, lexF]
  by_cases h : 60000 < s.length
  · simp [h, lexK]
  · have hl := lexT_loop s k0 (fun m out i => aloop tau Ops.std gl0 gX ow [] Try.f13 k0 0 (lexE s out i) m) (fun m out i => lex_loop _ s out i _ m) (by omega) s.length 0 (s.length + 1) (s.length + 1) [] (by omega) (by omega) (by omega) (by simp)
    have hl : aloop tau Ops.std gl0 gX ow [] Try.f13 k0 0 (lexE s [] 0) (s.length + 1) = lexK k0 (lexGo s (s.length + 1) 0 []) := hl
    simp only [h, decide_false, cond_false, hl, lexK]
def eLex {R : Type} (lx : List UInt8 → List Tok × (Int × Int)) : Ent R
  | [.c (.str s)], [], k => k (.tup [(false, [.own 501000]), (false, [.int .i64 (lx s).2.1]), (false, [.int .i64 (lx s).2.2])]) [(501000, .row 33 TTok (lx s).1)]
  | _, _, _ => none
theorem eLex_ok {R : Type} : EOk 13 (eLex (R := R) lexF) := fun args objs k r h => by
  unfold eLex at h
  split at h
  · exact ⟨_, _, h, lex_spec _⟩
  · cases h

/-! ### IsWord -/
def isWordF (s : List UInt8) : Bool := cond (!(s == [])) (cond (decide (s.length ≤ 8)) (cond (beginsF ((s.getD 0 0).toNat : Int)) (runF withinF s == s) false) false) false
def gW {R : Type} : Gam R := ent 40 eRun gDB
theorem gW_ok {R : Type} : GOk Try.prog gl0 (gW (R := R)) := ent_ok eRun_ok gDB_ok
theorem isWord_start (B : Ops) (s : List UInt8) (k : AV → Objs → Option AO) (m : Nat) : afun tau B gl0 gW ow Try.f14 [.c (.str s)] [] k m =
    cond (!(s == [])) (cond (B.le s.length 8) (cond (B.inb 0 s.length) (cond (beginsF ((s.getD 0 0).toNat : Int)) (cond (short s) (k (.c (.bool (runF withinF s == s))) []) none) (k (.c (.bool false)) [])) none) (k (.c (.bool false)) [])) (k (.c (.bool false)) []) := by kernel_rfl
theorem isWord_spec (s : List UInt8) : Spec Try.prog gl0 14 [.c (.str s)] [] (.c (.bool (isWordF s))) [] := by
  refine spec_of (G := gW) gW_ok 1 (fn := Try.f14) (by kernel_rfl) (by kernel_rfl) ?_
  rw [isWord_start, isWordF]
  have l8 : Ops.std.le (s.length : Int) 8 = decide (s.length ≤ 8) := le_std _ 8
  have i0 : Ops.std.inb 0 s.length = decide (0 < s.length) := inb_std 0 _
  rw [l8, i0]
  cases hn : (s == []) with
  | true => simp
  | false =>
    have hne : s ≠ [] := by simpa using hn
    have hpos : 0 < s.length := List.length_pos_iff.2 hne
    by_cases h8 : s.length ≤ 8
    · have hs : short s = true := by simp [short]; omega
      simp only [Bool.not_false, cond_true, h8, decide_true, hpos, hs]
      cases beginsF ((s.getD 0 0).toNat : Int) <;> rfl
    · simp [h8]
def eIsWord {R : Type} : Ent R
  | [.c (.str s)], [], k => k (.c (.bool (isWordF s))) []
  | _, _, _ => none
theorem eIsWord_ok {R : Type} : EOk 14 (eIsWord (R := R)) := fun args objs k r h => by
  unfold eIsWord at h
  split at h
  · exact ⟨_, _, h, isWord_spec _⟩
  · cases h
end Go.Proofs.Ytfdlgmbbflmbgaa.Av
