/- The plain law of LexJoins: what its twin computes answers true. Conditions: none. -/
import Derived.Test.YtfdlgmbbflmbgaaLJ1
import Derived.Test.YtfdlgmbbflmbgaaRead
import Derived.KernelRfl
set_option linter.unusedSimpArgs false
set_option linter.unusedVariables false
set_option maxRecDepth 100000
namespace Go.Proofs.Ytfdlgmbbflmbgaa.Av
open Go

theorem ltN (a b : Nat) : Ops.lt Ops.std (a : Int) (b : Int) = decide (a < b) := lt_std a b
theorem inbN (a b : Nat) : Ops.inb Ops.std (a : Int) b = decide (a < b) := inb_std a b

/-- a run of bytes: as far as p goes -/
theorem run_ok {p : UInt8 → Bool} {c : Int → Option Bool} (hc : ∀ b : UInt8, c (b.toNat : Int) = some (p b)) (s : List UInt8) (hs : s.length < 900000) : F40 c s = some (s.takeWhile p) := by
  have h : ∀ (t i n : Nat), i + t = s.length → t < n → R40 c s n (.l0 i) = some (s.take i ++ (s.drop i).takeWhile p) := by
    intro t
    induction t with
    | zero =>
      intro i n hi hn
      cases n with
      | zero => omega
      | succ n =>
        show T40 Ops.std c s _ some _ = _
        unfold T40
        have h1 : decide (i < s.length) = false := by simp; omega
        have h2 : decide (i < s.length + 1) = true := by simp; omega
        simp only [ltN, inbN, h1, h2, cond_false, cond_true, Int.toNat_natCast, List.drop_zero]
        rw [List.drop_eq_nil_of_le (by omega)]
        simp
    | succ t ih =>
      intro i n hi hn
      cases n with
      | zero => omega
      | succ n =>
        have hlt : i < s.length := by omega
        show T40 Ops.std c s _ some _ = _
        unfold T40
        have h1 : decide (i < s.length) = true := by simpa using hlt
        have h2 : decide (i < s.length + 1) = true := by simp; omega
        have hw : IntKind.i64.wrap ((i : Int) + 1) = ((i + 1 : Nat) : Int) := wrap_succ (by omega)
        simp only [ltN, inbN, h1, h2, cond_true, Int.toNat_natCast, List.drop_zero, hc, ob, hw]
        rw [drop_cons hlt]
        cases hp : p (s.getD i 0) with
        | true =>
          simp only [cond_true]
          rw [ih (i + 1) n (by omega) (by omega), List.takeWhile_cons_of_pos hp]
          have : s.take (i + 1) = s.take i ++ [s.getD i 0] := by
            rw [List.take_add_one]
            simp [List.getD_eq_getElem?_getD, List.getElem?_eq_getElem hlt]
          rw [this]
          simp
        | false =>
          simp only [cond_false]
          rw [List.takeWhile_cons_of_neg (by rw [hp]; decide)]
          simp
  show T40 Ops.std c s _ some none = _
  unfold T40
  have := h s.length 0 1000000 (by omega) (by omega)
  rw [List.take_zero, List.drop_zero, List.nil_append] at this
  exact this

/-- the same of its second twin (117: gen.py's number of it) -/
theorem run_ok2 {p : UInt8 → Bool} {c : Int → Option Bool} (hc : ∀ b : UInt8, c (b.toNat : Int) = some (p b)) (s : List UInt8) (hs : s.length < 900000) : F117 c s = some (s.takeWhile p) := by
  have h : ∀ (t i n : Nat), i + t = s.length → t < n → R117 c s n (.l0 i) = some (s.take i ++ (s.drop i).takeWhile p) := by
    intro t
    induction t with
    | zero =>
      intro i n hi hn
      cases n with
      | zero => omega
      | succ n =>
        show T117 Ops.std c s _ some _ = _
        unfold T117
        have h1 : decide (i < s.length) = false := by simp; omega
        have h2 : decide (i < s.length + 1) = true := by simp; omega
        simp only [ltN, inbN, h1, h2, cond_false, cond_true, Int.toNat_natCast, List.drop_zero]
        rw [List.drop_eq_nil_of_le (by omega)]
        simp
    | succ t ih =>
      intro i n hi hn
      cases n with
      | zero => omega
      | succ n =>
        have hlt : i < s.length := by omega
        show T117 Ops.std c s _ some _ = _
        unfold T117
        have h1 : decide (i < s.length) = true := by simpa using hlt
        have h2 : decide (i < s.length + 1) = true := by simp; omega
        have hw : IntKind.i64.wrap ((i : Int) + 1) = ((i + 1 : Nat) : Int) := wrap_succ (by omega)
        simp only [ltN, inbN, h1, h2, cond_true, Int.toNat_natCast, List.drop_zero, hc, ob, hw]
        rw [drop_cons hlt]
        cases hp : p (s.getD i 0) with
        | true =>
          simp only [cond_true]
          rw [ih (i + 1) n (by omega) (by omega), List.takeWhile_cons_of_pos hp]
          have : s.take (i + 1) = s.take i ++ [s.getD i 0] := by
            rw [List.take_add_one]
            simp [List.getD_eq_getElem?_getD, List.getElem?_eq_getElem hlt]
          rw [this]
          simp
        | false =>
          simp only [cond_false]
          rw [List.takeWhile_cons_of_neg (by rw [hp]; decide)]
          simp
  show T117 Ops.std c s _ some none = _
  unfold T117
  have := h s.length 0 1000000 (by omega) (by omega)
  rw [List.take_zero, List.drop_zero, List.nil_append] at this
  exact this

/-! ### Bytes -/
def digitP (b : UInt8) : Bool := decide (48 ≤ b.toNat) && decide (b.toNat ≤ 57)
def beginsP (b : UInt8) : Bool := (decide (97 ≤ b.toNat) && decide (b.toNat ≤ 122)) || decide (b.toNat = 95)
def withinP (b : UInt8) : Bool := beginsP b || digitP b
theorem leN (a b : Nat) : Ops.le Ops.std (a : Int) (b : Int) = decide (a ≤ b) := by
  rw [Ops.le, lt_std]
  by_cases h : a ≤ b
  · simp [h]
  · simp [h]; omega
theorem eqN (a b : Nat) : Ops.eq Ops.std (a : Int) (b : Int) = decide (a = b) := by
  simp only [Ops.std, decide_eq_decide]; omega
theorem digit_ok (b : UInt8) : M57 (b.toNat : Int) = some (digitP b) := by
  show T57 Ops.std _ some = _
  unfold T57 digitP
  rw [show (48 : Int) = ((48 : Nat) : Int) from rfl, show (57 : Int) = ((57 : Nat) : Int) from rfl, leN, leN]
  cases decide (48 ≤ b.toNat) <;> rfl
theorem begins_ok (b : UInt8) : M39 (b.toNat : Int) = some (beginsP b) := by
  show T39 Ops.std _ some = _
  unfold T39 beginsP
  rw [show (97 : Int) = ((97 : Nat) : Int) from rfl, show (122 : Int) = ((122 : Nat) : Int) from rfl, show (95 : Int) = ((95 : Nat) : Int) from rfl, leN, leN, eqN]
  cases decide (97 ≤ b.toNat) <;> cases decide (b.toNat ≤ 122) <;> rfl
theorem within_ok (b : UInt8) : M41 (b.toNat : Int) = some (withinP b) := by
  show T41 Ops.std M39 M57 _ some = _
  unfold T41 withinP
  rw [begins_ok, digit_ok]
  simp only [ob]
  cases beginsP b <;> rfl
theorem runW_ok (s : List UInt8) (hs : s.length < 900000) : M40 s = some (s.takeWhile withinP) := run_ok within_ok s hs

/-! ### Prefixes, signs -/
def pre (s p : List UInt8) : Bool := s.take p.length == p
theorem prefix_ok (s p : List UInt8) : M60 s p = some (pre s p) := by
  show T60 Ops.std M75 s p some = _
  unfold T60
  have : M75 s p = some (pre s p) := by
    show T75 Ops.std s p some = _
    unfold T75 pre
    rw [leN, inbN, Int.toNat_natCast]
    by_cases h : p.length ≤ s.length
    · have h2 : p.length < s.length + 1 := by omega
      simp [h, h2]
    · have hne : s.take p.length ≠ p := by
        intro he
        have := congrArg List.length he
        rw [List.length_take] at this
        omega
      simp [h, hne]
  rw [this]
  rfl

noncomputable abbrev runTok (s : List UInt8) := R38 M57 M40 M58 M39 M41 M37 M59 M60 M117 s
def signTok (s : List UInt8) (l : List (List UInt8)) : Int × List UInt8 × Int × Int :=
  match l.find? (pre s) with
  | some p => (4, p, 0, 0)
  | none => (0, [], 0, 0)
theorem signs_loop (s : List UInt8) (l : List (List UInt8)) (hl : l.length < 1000) : ∀ (t i n : Nat), i + t = l.length → t < n → runTok s n (.l0 l.length i l) = some (signTok s (l.drop i))
  | t, i, 0, hi, hn => by omega
  | 0, i, n + 1, hi, hn => by
    show T38 Ops.std _ _ _ _ _ _ _ _ _ s _ some _ = _
    unfold T38
    have h1 : decide (i < l.length) = false := by simp; omega
    simp only [ltN, h1, cond_false]
    rw [List.drop_eq_nil_of_le (by omega)]
    rfl
  | t + 1, i, n + 1, hi, hn => by
    have hlt : i < l.length := by omega
    show T38 Ops.std _ _ _ _ _ _ _ _ _ s _ some _ = _
    unfold T38
    have h1 : decide (i < l.length) = true := by simpa using hlt
    have hw : IntKind.i64.wrap ((i : Int) + 1) = ((i + 1 : Nat) : Int) := wrap_succ (by omega)
    have hd : l.drop i = l.getD i (Ty.dflt ty9) :: l.drop (i + 1) := by
      rw [List.drop_eq_getElem_cons hlt]
      congr 1
      simp [List.getD_eq_getElem?_getD, List.getElem?_eq_getElem hlt]
    simp only [ltN, inbN, h1, cond_true, Int.toNat_natCast, prefix_ok, ob, hw]
    rw [hd, signTok, List.find?_cons]
    cases hp : pre s (l.getD i (Ty.dflt ty9)) with
    | true => simp only [cond_true]
    | false =>
      simp only [cond_false]
      exact signs_loop s l hl t (i + 1) n (by omega) (by omega)

noncomputable def signsL : List (List UInt8) := (M59).getD []
theorem signs_ok : M59 = some signsL := by kernel_rfl
theorem signsL_len : signsL.length = 20 := by kernel_rfl
abbrev lettersL : List Int := [88, 70, 71, 85, 82]
abbrev Tk := Int × List UInt8 × Int × Int

theorem token_first (s : List UInt8) (h0 : 0 < s.length) (hs : s.length < 900000) : M38 s =
    (if digitP (s.getD 0 0) then (if (s.takeWhile digitP).length ≤ 3 then ob (M58 (s.takeWhile digitP)) fun n => some ((1, s.takeWhile digitP, n, 0) : Tk) else some (0, [], 0, 0))
    else if beginsP (s.getD 0 0) then (if (s.takeWhile withinP).length ≤ 8 then some (2, s.takeWhile withinP, 0, 0) else some (0, [], 0, 0))
    else ob (M37 lettersL ((s.getD 0 0).toNat : Int)) fun y => if y then some (3, s.take 1, 0, 0) else some (signTok s signsL)) := by
  show T38 Ops.std M57 M40 M58 M39 M41 M37 M59 M60 M117 s (runTok s 1000000) some none = _
  unfold T38
  have e0 : Ops.inb Ops.std 0 s.length = true := by
    have := inbN 0 s.length
    rw [show ((0 : Nat) : Int) = 0 from rfl] at this
    rw [this]; simpa using h0
  have e1 : Ops.inb Ops.std 1 (s.length + 1) = true := by
    have := inbN 1 (s.length + 1)
    rw [show ((1 : Nat) : Int) = 1 from rfl] at this
    rw [this]; simpa using h0
  have e2 : M117 s = some (s.takeWhile digitP) := run_ok2 (c := M57) digit_ok s hs
  have e3 : ∀ n : Nat, Ops.le Ops.std (Nat.cast n) 3 = decide (n ≤ 3) := fun n => leN n 3
  have e4 : ∀ n : Nat, Ops.le Ops.std (Nat.cast n) 8 = decide (n ≤ 8) := fun n => leN n 8
  have e5 : Int.toNat 0 = 0 := rfl
  have e6 : Int.toNat 1 = 1 := rfl
  simp only [e0, e1, e2, e3, e4, e5, e6, cond_true, digit_ok, begins_ok, runW_ok s hs, ob, signs_ok]
  cases hd : digitP (s.getD 0 0) with
  | true =>
    simp only [cond_true, if_true]
    by_cases h : (s.takeWhile digitP).length ≤ 3 <;> simp [h]
  | false =>
    simp only [cond_false, Bool.false_eq_true, if_false]
    cases hb : beginsP (s.getD 0 0) with
    | true =>
      simp only [cond_true, if_true]
      by_cases h : (s.takeWhile withinP).length ≤ 8 <;> simp [h]
    | false =>
      simp only [cond_false, Bool.false_eq_true, if_false]
      have hsl := signs_loop s signsL (by rw [signsL_len]; omega) 20 0 1000000 (by rw [signsL_len]) (by omega)
      cases hm : M37 lettersL ((s.getD 0 0).toNat : Int) with
      | none => simp only [mt, hm]
      | some y =>
        simp only [mt, hm]
        cases y with
        | true => simp
        | false => simp only [cond_false, Bool.false_eq_true, if_false]; exact hsl

/-! ### Lex, step by step -/
noncomputable abbrev runLex (s : List UInt8) := R13 M37 M38 s
abbrev blanksL : List Int := [32, 9, 10]
theorem lex_blank (s : List UInt8) (hs : s.length < 900000) (i n : Nat) (hi : i < s.length) (hb : M37 blanksL ((s.getD i 0).toNat : Int) = some true) (out : List Tk) : runLex s (n + 1) (.l0 i out) = runLex s n (.l0 ((i + 1 : Nat) : Int) out) := by
  show T13 Ops.std _ _ s _ some _ = _
  unfold T13
  have h1 : decide (i < s.length) = true := by simpa using hi
  have hw : IntKind.i64.wrap ((i : Int) + 1) = ((i + 1 : Nat) : Int) := wrap_succ (by omega)
  simp only [ltN, inbN, h1, cond_true, Int.toNat_natCast, mt, hb, ob, hw]
theorem lex_token (s : List UInt8) (hs : s.length < 900000) (i n : Nat) (hi : i < s.length) (hb : M37 blanksL ((s.getD i 0).toNat : Int) = some false) (out : List Tk) (ho : out.length < 900000) (kind v : Int) (w : List UInt8) (hk : kind ≠ 0) (hw : w.length < 900000)
    (ht : M38 (s.drop i) = some (kind, w, v, 0)) : runLex s (n + 1) (.l0 i out) = runLex s n (.l0 ((i + w.length : Nat) : Int) (out ++ [(kind, w, v, (i : Int))])) := by
  show T13 Ops.std _ _ s _ some _ = _
  unfold T13
  have h1 : decide (i < s.length) = true := by simpa using hi
  have h2 : decide (i < s.length + 1) = true := by simp; omega
  have h3 : Ops.eq Ops.std kind 0 = false := by simp [Ops.std, hk]
  have h4 : ∀ x : Tk, Ops.lim Ops.std (List.length out + List.length (x :: mt Tk)) 40 = true := fun x => by
    simp only [Ops.std, mt, List.length_cons, List.length_nil, decide_eq_true_eq]; omega
  have h5 : IntKind.i64.wrap ((i : Int) + ((w.length : Nat) : Int)) = ((i + w.length : Nat) : Int) := by rw [wrap_id (by omega) (by omega)]; omega
  have h6 : List.drop i (List.take s.length s) = s.drop i := by rw [List.take_length]
  have hb' : M37 (32 :: 9 :: 10 :: mt (Ty.den (Ty.int IntKind.u8))) ((s.getD i 0).toNat : Int) = some false := hb
  simp only [ltN, inbN, h1, h2, cond_true, cond_false, Int.toNat_natCast, hb', ob, h6, ht, h3, h5]
  exact (congrArg (fun b => cond b _ _) (h4 _)).trans rfl
theorem lex_end (s : List UInt8) (n : Nat) (out : List Tk) (ho : out.length < 900000) : runLex s (n + 1) (.l0 s.length out) = some (0, 0, out ++ [(5, [], 0, (s.length : Int))]) := by
  show T13 Ops.std _ _ s _ some _ = _
  unfold T13
  have h1 : decide (s.length < s.length) = false := by simp
  have h4 : ∀ x : Tk, Ops.lim Ops.std (List.length out + List.length (x :: mt Tk)) 40 = true := fun x => by
    simp only [Ops.std, mt, List.length_cons, List.length_nil, decide_eq_true_eq]; omega
  simp only [ltN, h1, cond_false]
  exact (congrArg (fun b => cond b _ _) (h4 _)).trans rfl
theorem signTok_all (r : List UInt8) : signTok (40 :: r) signsL = (4, [40], 0, 0) ∧ signTok (41 :: r) signsL = (4, [41], 0, 0) ∧ signTok (91 :: r) signsL = (4, [91], 0, 0) ∧ signTok (93 :: r) signsL = (4, [93], 0, 0) ∧ signTok (43 :: 32 :: r) signsL = (4, [43], 0, 0) ∧ signTok (45 :: 32 :: r) signsL = (4, [45], 0, 0) ∧ signTok (42 :: 32 :: r) signsL = (4, [42], 0, 0) ∧ signTok (60 :: 32 :: r) signsL = (4, [60], 0, 0) ∧ signTok (60 :: 61 :: 32 :: r) signsL = (4, [60, 61], 0, 0) ∧ signTok (62 :: 32 :: r) signsL = (4, [62], 0, 0) ∧ signTok (62 :: 61 :: 32 :: r) signsL = (4, [62, 61], 0, 0) ∧ signTok (61 :: 61 :: 32 :: r) signsL = (4, [61, 61], 0, 0) ∧ signTok (33 :: 61 :: 32 :: r) signsL = (4, [33, 61], 0, 0) ∧ signTok (38 :: 38 :: 32 :: r) signsL = (4, [38, 38], 0, 0) ∧ signTok (124 :: 124 :: 32 :: r) signsL = (4, [124, 124], 0, 0) ∧ signTok (33 :: 32 :: r) signsL = (4, [33], 0, 0) ∧ signTok (64 :: 32 :: r) signsL = (4, [64], 0, 0) ∧ signTok (45 :: 62 :: 32 :: r) signsL = (4, [45, 62], 0, 0) ∧ signTok (59 :: 32 :: r) signsL = (4, [59], 0, 0) ∧ signTok (61 :: 32 :: r) signsL = (4, [61], 0, 0) := by
  refine ⟨?_, ?_, ?_, ?_, ?_, ?_, ?_, ?_, ?_, ?_, ?_, ?_, ?_, ?_, ?_, ?_, ?_, ?_, ?_, ?_⟩ <;> kernel_rfl
theorem token_sign (s : List UInt8) (h0 : 0 < s.length) (hs : s.length < 900000) (hd : digitP (s.getD 0 0) = false) (hb : beginsP (s.getD 0 0) = false) (hl : M37 lettersL ((s.getD 0 0).toNat : Int) = some false) : M38 s = some (signTok s signsL) := by
  rw [token_first s h0 hs, hd, hb, hl]
  simp [ob]
theorem token_letter (s : List UInt8) (h0 : 0 < s.length) (hs : s.length < 900000) (hd : digitP (s.getD 0 0) = false) (hb : beginsP (s.getD 0 0) = false) (hl : M37 lettersL ((s.getD 0 0).toNat : Int) = some true) : M38 s = some (3, s.take 1, 0, 0) := by
  rw [token_first s h0 hs, hd, hb, hl]
  simp [ob]
theorem token_word (s w : List UInt8) (h0 : 0 < s.length) (hs : s.length < 900000) (hd : digitP (s.getD 0 0) = false) (hb : beginsP (s.getD 0 0) = true) (hw : s.takeWhile withinP = w) (h8 : w.length ≤ 8) : M38 s = some (2, w, 0, 0) := by
  rw [token_first s h0 hs, hd, hb, hw]
  simp [h8]
theorem token_number (s w : List UInt8) (v : Int) (h0 : 0 < s.length) (hs : s.length < 900000) (hd : digitP (s.getD 0 0) = true) (hw : s.takeWhile digitP = w) (h3 : w.length ≤ 3) (hv : M58 w = some v) : M38 s = some (1, w, v, 0) := by
  rw [token_first s h0 hs, hd, hw]
  simp [h3, hv, ob]
/-! ### The words, one by one: alone, whatever stands beside (brackets, letters), or ahead of a blank -/
theorem tok0 (r : List UInt8) (h : r.length < 800000) : M38 (40 :: r) = some (4, [40], 0, 0) := by
  exact (token_sign _ (by simp) (by simp; omega) rfl rfl (by kernel_rfl)).trans (congrArg some (by kernel_rfl))
theorem tok1 (r : List UInt8) (h : r.length < 800000) : M38 (41 :: r) = some (4, [41], 0, 0) := by
  exact (token_sign _ (by simp) (by simp; omega) rfl rfl (by kernel_rfl)).trans (congrArg some (by kernel_rfl))
theorem tok2 (r : List UInt8) (h : r.length < 800000) : M38 (91 :: r) = some (4, [91], 0, 0) := by
  exact (token_sign _ (by simp) (by simp; omega) rfl rfl (by kernel_rfl)).trans (congrArg some (by kernel_rfl))
theorem tok3 (r : List UInt8) (h : r.length < 800000) : M38 (93 :: r) = some (4, [93], 0, 0) := by
  exact (token_sign _ (by simp) (by simp; omega) rfl rfl (by kernel_rfl)).trans (congrArg some (by kernel_rfl))
theorem tok4 (r : List UInt8) (h : r.length < 800000) : M38 (43 :: 32 :: r) = some (4, [43], 0, 0) := by
  exact (token_sign _ (by simp) (by simp; omega) rfl rfl (by kernel_rfl)).trans (congrArg some (by kernel_rfl))
theorem tok5 (r : List UInt8) (h : r.length < 800000) : M38 (45 :: 32 :: r) = some (4, [45], 0, 0) := by
  exact (token_sign _ (by simp) (by simp; omega) rfl rfl (by kernel_rfl)).trans (congrArg some (by kernel_rfl))
theorem tok6 (r : List UInt8) (h : r.length < 800000) : M38 (42 :: 32 :: r) = some (4, [42], 0, 0) := by
  exact (token_sign _ (by simp) (by simp; omega) rfl rfl (by kernel_rfl)).trans (congrArg some (by kernel_rfl))
theorem tok7 (r : List UInt8) (h : r.length < 800000) : M38 (60 :: 32 :: r) = some (4, [60], 0, 0) := by
  exact (token_sign _ (by simp) (by simp; omega) rfl rfl (by kernel_rfl)).trans (congrArg some (by kernel_rfl))
theorem tok8 (r : List UInt8) (h : r.length < 800000) : M38 (60 :: 61 :: 32 :: r) = some (4, [60, 61], 0, 0) := by
  exact (token_sign _ (by simp) (by simp; omega) rfl rfl (by kernel_rfl)).trans (congrArg some (by kernel_rfl))
theorem tok9 (r : List UInt8) (h : r.length < 800000) : M38 (62 :: 32 :: r) = some (4, [62], 0, 0) := by
  exact (token_sign _ (by simp) (by simp; omega) rfl rfl (by kernel_rfl)).trans (congrArg some (by kernel_rfl))
theorem tok10 (r : List UInt8) (h : r.length < 800000) : M38 (62 :: 61 :: 32 :: r) = some (4, [62, 61], 0, 0) := by
  exact (token_sign _ (by simp) (by simp; omega) rfl rfl (by kernel_rfl)).trans (congrArg some (by kernel_rfl))
theorem tok11 (r : List UInt8) (h : r.length < 800000) : M38 (61 :: 61 :: 32 :: r) = some (4, [61, 61], 0, 0) := by
  exact (token_sign _ (by simp) (by simp; omega) rfl rfl (by kernel_rfl)).trans (congrArg some (by kernel_rfl))
theorem tok12 (r : List UInt8) (h : r.length < 800000) : M38 (33 :: 61 :: 32 :: r) = some (4, [33, 61], 0, 0) := by
  exact (token_sign _ (by simp) (by simp; omega) rfl rfl (by kernel_rfl)).trans (congrArg some (by kernel_rfl))
theorem tok13 (r : List UInt8) (h : r.length < 800000) : M38 (38 :: 38 :: 32 :: r) = some (4, [38, 38], 0, 0) := by
  exact (token_sign _ (by simp) (by simp; omega) rfl rfl (by kernel_rfl)).trans (congrArg some (by kernel_rfl))
theorem tok14 (r : List UInt8) (h : r.length < 800000) : M38 (124 :: 124 :: 32 :: r) = some (4, [124, 124], 0, 0) := by
  exact (token_sign _ (by simp) (by simp; omega) rfl rfl (by kernel_rfl)).trans (congrArg some (by kernel_rfl))
theorem tok15 (r : List UInt8) (h : r.length < 800000) : M38 (33 :: 32 :: r) = some (4, [33], 0, 0) := by
  exact (token_sign _ (by simp) (by simp; omega) rfl rfl (by kernel_rfl)).trans (congrArg some (by kernel_rfl))
theorem tok16 (r : List UInt8) (h : r.length < 800000) : M38 (64 :: 32 :: r) = some (4, [64], 0, 0) := by
  exact (token_sign _ (by simp) (by simp; omega) rfl rfl (by kernel_rfl)).trans (congrArg some (by kernel_rfl))
theorem tok17 (r : List UInt8) (h : r.length < 800000) : M38 (45 :: 62 :: 32 :: r) = some (4, [45, 62], 0, 0) := by
  exact (token_sign _ (by simp) (by simp; omega) rfl rfl (by kernel_rfl)).trans (congrArg some (by kernel_rfl))
theorem tok18 (r : List UInt8) (h : r.length < 800000) : M38 (59 :: 32 :: r) = some (4, [59], 0, 0) := by
  exact (token_sign _ (by simp) (by simp; omega) rfl rfl (by kernel_rfl)).trans (congrArg some (by kernel_rfl))
theorem tok19 (r : List UInt8) (h : r.length < 800000) : M38 (61 :: 32 :: r) = some (4, [61], 0, 0) := by
  exact (token_sign _ (by simp) (by simp; omega) rfl rfl (by kernel_rfl)).trans (congrArg some (by kernel_rfl))
theorem tok20 (r : List UInt8) (h : r.length < 800000) : M38 (88 :: r) = some (3, [88], 0, 0) := by
  exact (token_letter _ (by simp) (by simp; omega) rfl rfl (by kernel_rfl)).trans rfl
theorem tok21 (r : List UInt8) (h : r.length < 800000) : M38 (85 :: r) = some (3, [85], 0, 0) := by
  exact (token_letter _ (by simp) (by simp; omega) rfl rfl (by kernel_rfl)).trans rfl
theorem tok22 (r : List UInt8) (h : r.length < 800000) : M38 (120 :: 32 :: r) = some (2, [120], 0, 0) := by
  exact token_word _ _ (by simp) (by simp; omega) rfl rfl rfl (by decide)
theorem tok23 (r : List UInt8) (h : r.length < 800000) : M38 (97 :: 98 :: 95 :: 49 :: 32 :: r) = some (2, [97, 98, 95, 49], 0, 0) := by
  exact token_word _ _ (by simp) (by simp; omega) rfl rfl rfl (by decide)
theorem tok24 (r : List UInt8) (h : r.length < 800000) : M38 (55 :: 32 :: r) = some (1, [55], 7, 0) := by
  exact token_number _ _ _ (by simp) (by simp; omega) rfl rfl (by decide) (by kernel_rfl)
theorem tok25 (r : List UInt8) (h : r.length < 800000) : M38 (49 :: 50 :: 51 :: 32 :: r) = some (1, [49, 50, 51], 123, 0) := by
  exact token_number _ _ _ (by simp) (by simp; omega) rfl rfl (by decide) (by kernel_rfl)

/-! ### A text that is built word by word -/
/-- whatever follows, Lex comes to the end of s with these tokens -/
def Lexes (s : List UInt8) (out : List Tk) (K : Nat) : Prop := ∀ rest : List UInt8, (s ++ rest).length < 800000 → ∀ n, runLex (s ++ rest) (n + K) (.l0 0 []) = runLex (s ++ rest) n (.l0 s.length out)
theorem Lexes.nil : Lexes [] [] 0 := fun rest _ n => rfl
theorem getD_at (s : List UInt8) (b : UInt8) (r : List UInt8) : (s ++ b :: r).getD s.length 0 = b := by
  rw [List.getD_eq_getElem?_getD, List.getElem?_append_right (Nat.le_refl _)]; simp
theorem Lexes.blank {s : List UInt8} {out : List Tk} {K : Nat} (h : Lexes s out K) : Lexes (s ++ [32]) out (K + 1) := fun rest hr n => by
  have e : s ++ [32] ++ rest = s ++ 32 :: rest := by simp
  rw [e] at hr ⊢
  have h1 := h (32 :: rest) hr (n + 1)
  rw [show n + (K + 1) = n + 1 + K by omega, h1, lex_blank _ (by omega) s.length n (by simp) (by rw [getD_at]; kernel_rfl)]
  simp
theorem Lexes.tok {s w : List UInt8} {out : List Tk} {K : Nat} {kind v : Int} {b : UInt8} {w' : List UInt8} (h : Lexes s out K) (hw : w = b :: w') (hb : M37 blanksL (b.toNat : Int) = some false) (hk : kind ≠ 0) (ho : out.length < 800000)
    (rest : List UInt8) (ht : M38 (w ++ rest) = some (kind, w, v, 0)) (hr : (s ++ w ++ rest).length < 800000) (n : Nat) :
    runLex (s ++ w ++ rest) (n + (K + 1)) (.l0 0 []) = runLex (s ++ w ++ rest) n (.l0 ((s ++ w).length : Nat) (out ++ [(kind, w, v, (s.length : Int))])) := by
  have e : s ++ w ++ rest = s ++ (w ++ rest) := by simp
  rw [e] at hr ⊢
  have h1 := h (w ++ rest) hr (n + 1)
  have hl : (s ++ (w ++ rest)).length = s.length + (w.length + rest.length) := by simp
  have hw0 : 0 < w.length := by rw [hw]; simp
  have hg : (s ++ (w ++ rest)).getD s.length 0 = b := by rw [hw]; exact getD_at s b (w' ++ rest)
  rw [show n + (K + 1) = n + 1 + K by omega, h1, lex_token _ (by omega) s.length n (by omega) (by rw [hg]; exact hb) out (by omega) kind v w hk (by omega) (by rw [List.drop_left' rfl]; exact ht)]
  simp
def wordsL : List (List UInt8) := [[40], [41], [91], [93], [43], [45], [42], [60], [60, 61], [62], [62, 61], [61, 61], [33, 61], [38, 38], [124, 124], [33], [64], [45, 62], [59], [61], [88], [85], [120], [97, 98, 95, 49], [55], [49, 50, 51]]
/-- has a word a blank behind? -/
def behind (k : Nat) : List UInt8 := if 22 ≤ k ∨ (4 ≤ k ∧ k < 20) then [32] else []
theorem tok_all : ∀ k, k < 26 → ∃ (b : UInt8) (w' : List UInt8) (kind v : Int), wordsL.getD k [] = b :: w' ∧ M37 blanksL (b.toNat : Int) = some false ∧ kind ≠ 0 ∧ (b :: w').length ≤ 4 ∧ ∀ r : List UInt8, r.length < 800000 → M38 ((b :: w') ++ (behind k ++ r)) = some (kind, b :: w', v, 0)
  | 0, _ => ⟨40, [], 4, 0, rfl, by kernel_rfl, by decide, by decide, fun r h => tok0 r h⟩
  | 1, _ => ⟨41, [], 4, 0, rfl, by kernel_rfl, by decide, by decide, fun r h => tok1 r h⟩
  | 2, _ => ⟨91, [], 4, 0, rfl, by kernel_rfl, by decide, by decide, fun r h => tok2 r h⟩
  | 3, _ => ⟨93, [], 4, 0, rfl, by kernel_rfl, by decide, by decide, fun r h => tok3 r h⟩
  | 4, _ => ⟨43, [], 4, 0, rfl, by kernel_rfl, by decide, by decide, fun r h => tok4 r h⟩
  | 5, _ => ⟨45, [], 4, 0, rfl, by kernel_rfl, by decide, by decide, fun r h => tok5 r h⟩
  | 6, _ => ⟨42, [], 4, 0, rfl, by kernel_rfl, by decide, by decide, fun r h => tok6 r h⟩
  | 7, _ => ⟨60, [], 4, 0, rfl, by kernel_rfl, by decide, by decide, fun r h => tok7 r h⟩
  | 8, _ => ⟨60, [61], 4, 0, rfl, by kernel_rfl, by decide, by decide, fun r h => tok8 r h⟩
  | 9, _ => ⟨62, [], 4, 0, rfl, by kernel_rfl, by decide, by decide, fun r h => tok9 r h⟩
  | 10, _ => ⟨62, [61], 4, 0, rfl, by kernel_rfl, by decide, by decide, fun r h => tok10 r h⟩
  | 11, _ => ⟨61, [61], 4, 0, rfl, by kernel_rfl, by decide, by decide, fun r h => tok11 r h⟩
  | 12, _ => ⟨33, [61], 4, 0, rfl, by kernel_rfl, by decide, by decide, fun r h => tok12 r h⟩
  | 13, _ => ⟨38, [38], 4, 0, rfl, by kernel_rfl, by decide, by decide, fun r h => tok13 r h⟩
  | 14, _ => ⟨124, [124], 4, 0, rfl, by kernel_rfl, by decide, by decide, fun r h => tok14 r h⟩
  | 15, _ => ⟨33, [], 4, 0, rfl, by kernel_rfl, by decide, by decide, fun r h => tok15 r h⟩
  | 16, _ => ⟨64, [], 4, 0, rfl, by kernel_rfl, by decide, by decide, fun r h => tok16 r h⟩
  | 17, _ => ⟨45, [62], 4, 0, rfl, by kernel_rfl, by decide, by decide, fun r h => tok17 r h⟩
  | 18, _ => ⟨59, [], 4, 0, rfl, by kernel_rfl, by decide, by decide, fun r h => tok18 r h⟩
  | 19, _ => ⟨61, [], 4, 0, rfl, by kernel_rfl, by decide, by decide, fun r h => tok19 r h⟩
  | 20, _ => ⟨88, [], 3, 0, rfl, by kernel_rfl, by decide, by decide, fun r h => tok20 r h⟩
  | 21, _ => ⟨85, [], 3, 0, rfl, by kernel_rfl, by decide, by decide, fun r h => tok21 r h⟩
  | 22, _ => ⟨120, [], 2, 0, rfl, by kernel_rfl, by decide, by decide, fun r h => tok22 r h⟩
  | 23, _ => ⟨97, [98, 95, 49], 2, 0, rfl, by kernel_rfl, by decide, by decide, fun r h => tok23 r h⟩
  | 24, _ => ⟨55, [], 1, 7, rfl, by kernel_rfl, by decide, by decide, fun r h => tok24 r h⟩
  | 25, _ => ⟨49, [50, 51], 1, 123, rfl, by kernel_rfl, by decide, by decide, fun r h => tok25 r h⟩
  | k + 26, h => by omega
theorem Lexes.word {s : List UInt8} {out : List Tk} {K : Nat} (h : Lexes s out K) (ho : out.length < 700000) (k : Nat) (hk : k < 26) : ∃ (t : Tk) (K' : Nat), t.2.1 = wordsL.getD k [] ∧ K' ≤ K + 2 ∧ Lexes (s ++ wordsL.getD k [] ++ behind k) (out ++ [t]) K' := by
  obtain ⟨b, w', kind, v, hw, hb, hkind, hlen, ht⟩ := tok_all k hk
  rw [hw]
  have step := fun (rest : List UInt8) (hr : rest.length < 800000) => h.tok (w := b :: w') (w' := w') (b := b) rfl hb hkind (by omega) (behind k ++ rest) (ht rest hr)
  by_cases hbh : 22 ≤ k ∨ (4 ≤ k ∧ k < 20)
  · have eb : behind k = [32] := if_pos hbh
    rw [eb] at step ⊢
    refine ⟨(kind, b :: w', v, (s.length : Int)), K + 1 + 1, rfl, by omega, ?_⟩
    intro rest hr n
    have hl : (s ++ (b :: w') ++ [32] ++ rest).length = s.length + (b :: w').length + 1 + rest.length := by simp; omega
    have e : s ++ (b :: w') ++ [32] ++ rest = s ++ (b :: w') ++ ([32] ++ rest) := by simp
    have h1 := step rest (by omega) (by rw [← e]; exact hr) (n + 1)
    rw [e] at hr ⊢
    rw [show n + (K + 1 + 1) = n + 1 + (K + 1) by omega, h1]
    have hl2 : (s ++ (b :: w') ++ ([32] ++ rest)).length = (s ++ (b :: w')).length + (1 + rest.length) := by simp; omega
    rw [lex_blank _ (by omega) (s ++ (b :: w')).length n (by omega) (by rw [show [32] ++ rest = 32 :: rest from rfl, getD_at]; kernel_rfl)]
    congr 2
    simp
    omega
  · have eb : behind k = [] := if_neg hbh
    rw [eb] at step ⊢
    refine ⟨(kind, b :: w', v, (s.length : Int)), K + 1, rfl, by omega, ?_⟩
    intro rest hr n
    have hl : (s ++ (b :: w') ++ [] ++ rest).length = s.length + (b :: w').length + rest.length := by simp; omega
    have h1 := step rest (by omega) (by simpa using hr) n
    simpa using h1

theorem Lexes.all {s : List UInt8} {out : List Tk} {K : Nat} (h : Lexes s out K) (hs : s.length ≤ 60000) (hK : K < 900000) (ho : out.length < 900000) : M13 s = some (0, 0, out ++ [(5, [], 0, (s.length : Int))]) := by
  show T13 Ops.std M37 M38 s (runLex s 1000000) some none = _
  unfold T13
  have h1 : Ops.lt Ops.std 60000 (Nat.cast s.length) = false := by
    have := ltN 60000 s.length
    rw [show ((60000 : Nat) : Int) = 60000 from rfl] at this
    rw [this]; simp; omega
  rw [h1]
  simp only [cond_false]
  have h2 := h [] (by simp; omega) (1000000 - K)
  rw [List.append_nil, show 1000000 - K + K = 1000000 by omega] at h2
  refine Eq.trans h2 ?_
  have h3 := lex_end s (1000000 - K - 1) out ho
  rw [show 1000000 - K - 1 + 1 = 1000000 - K by omega] at h3
  exact h3
theorem pick26 (p0 : Int) : ∃ k : Nat, k < 26 ∧ M12 p0 26 = some (k : Int) := by
  show ∃ k : Nat, k < 26 ∧ T12 Ops.std p0 26 some = _
  unfold T12
  have h1 : Ops.eq Ops.std 26 0 = false := by decide
  rw [h1]
  simp only [cond_false]
  have h2 := Int.tmod_lt_of_pos p0 (show (0 : Int) < 26 by decide)
  have h3 := Int.lt_tmod_of_pos p0 (show (0 : Int) < 26 by decide)
  generalize Int.tmod p0 26 = q at h2 h3 ⊢
  by_cases hq : q < 0
  · refine ⟨(q + 26).toNat, by omega, ?_⟩
    have : Ops.lt Ops.std q 0 = true := by simp [Ops.std, hq]
    rw [this, cond_true, wrap_id (by omega) (by omega)]
    congr 1; omega
  · refine ⟨q.toNat, by omega, ?_⟩
    have : Ops.lt Ops.std q 0 = false := by simp [Ops.std, hq]
    rw [this, cond_false]
    congr 1; omega

theorem std_lt (a b : Int) : Ops.lt Ops.std a b = decide (a < b) := rfl
theorem std_eq (a b : Int) : Ops.eq Ops.std a b = decide (a = b) := rfl
theorem std_lim (n b : Nat) : Ops.lim Ops.std n b = decide (n * b ≤ 140737488355328) := rfl
theorem std_le (a b : Int) : Ops.le Ops.std a b = decide (a ≤ b) := by
  simp only [Ops.le, std_lt]
  by_cases h : a ≤ b
  · have : ¬ b < a := by omega
    simp [h, this]
  · have : b < a := by omega
    simp [h, this]
theorem std_inb (j : Int) (n : Nat) : Ops.inb Ops.std j n = decide (0 ≤ j ∧ j < (n : Int)) := by
  simp only [Ops.inb, std_lt]
  by_cases h : j < 0
  · have : ¬ (0 ≤ j ∧ j < (n : Int)) := by omega
    simp [h, this]
  · by_cases h2 : j < (n : Int)
    · have : (0 ≤ j ∧ j < (n : Int)) := by omega
      simp [h, h2, this]
    · have : ¬ (0 ≤ j ∧ j < (n : Int)) := by omega
      simp [h, h2, this]
theorem cond_dec {α : Type} (p : Prop) [Decidable p] (x y : α) : cond (decide p) x y = if p then x else y := by by_cases h : p <;> simp [h]
theorem not_dec (p : Prop) [Decidable p] : (!decide p) = decide (¬ p) := by by_cases h : p <;> simp [h]
theorem ob_s {α R : Type} (a : α) (f : α → Option R) : ob (some a) f = f a := rfl
theorem ob_n {α R : Type} (f : α → Option R) : ob none f = none := rfl
theorem cond_t {α : Type} (x y : α) : cond true x y = x := rfl
theorem cond_f {α : Type} (x y : α) : cond false x y = y := rfl
theorem wrap64 {n : Int} (h1 : -9223372036854775808 ≤ n) (h2 : n ≤ 9223372036854775807) : IntKind.wrap IntKind.i64 n = n := wrap_id h1 h2
theorem toNat_nat (n : Nat) : Int.toNat (Nat.cast n) = n := Int.toNat_natCast n
theorem ite_dec {α : Type} (p : Prop) [Decidable p] (x y : α) : (bif decide p then x else y) = if p then x else y := cond_dec p x y

theorem lex_known : M11 = some true := by kernel_rfl
noncomputable abbrev runLJ (p0 : List Int) (p1 : List Bool) := R3 M11 M12 M13 p0 p1
theorem words_len : ∀ k, (wordsL.getD k []).length ≤ 4
  | 0 | 1 | 2 | 3 | 4 | 5 | 6 | 7 | 8 | 9 | 10 | 11 | 12 | 13 | 14 | 15 | 16 | 17 | 18 | 19 | 20 | 21 | 22 | 23 | 24 | 25 => by decide
  | k + 26 => by simp [wordsL]
theorem behind_len (k : Nat) : (behind k).length ≤ 1 := by unfold behind; split <;> simp
theorem step16 (p0 : List Int) (p1 : List Bool) (n : Nat) (text : List UInt8) (i : Int) (k : Nat) (hk : k < 26) (want : List (List UInt8)) (hw : want.length < 1000) (hi : 0 ≤ i ∧ i < 1000) :
    runLJ p0 p1 (n + 1) (.l1016 text i k want) = runLJ p0 p1 n (.l0 text (i + 1) (want ++ [wordsL.getD k []])) := by
  show T3 Ops.std _ _ _ p0 p1 _ some _ = _
  unfold T3
  simp only [std_inb, std_lim, cond_dec, toNat_nat, List.length_cons, List.length_nil, mt]
  rw [if_pos (by omega), if_pos (by omega), wrap64 (by omega) (by omega)]
  rfl
theorem step11 (p0 : List Int) (p1 : List Bool) (n : Nat) (text : List UInt8) (ht : text.length < 10000) (i : Int) (k : Nat) (hk : k < 26) (loose : Bool) (want : List (List UInt8)) :
    runLJ p0 p1 (n + 1) (.l1011 text i k loose want) = runLJ p0 p1 n (.l1016 ((if loose then text else text ++ [32]) ++ wordsL.getD k [] ++ behind k) i k want) := by
  show T3 Ops.std _ _ _ p0 p1 _ some _ = _
  unfold T3
  have hl := words_len k
  have hwl : wordsL = (([40] : List UInt8) :: ([41] : List UInt8) :: ([91] : List UInt8) :: ([93] : List UInt8) :: ([43] : List UInt8) :: ([45] : List UInt8) :: ([42] : List UInt8) :: ([60] : List UInt8) :: ([60, 61] : List UInt8) :: ([62] : List UInt8) :: ([62, 61] : List UInt8) :: ([61, 61] : List UInt8) :: ([33, 61] : List UInt8) :: ([38, 38] : List UInt8) :: ([124, 124] : List UInt8) :: ([33] : List UInt8) :: ([64] : List UInt8) :: ([45, 62] : List UInt8) :: ([59] : List UInt8) :: ([61] : List UInt8) :: ([88] : List UInt8) :: ([85] : List UInt8) :: ([120] : List UInt8) :: ([97, 98, 95, 49] : List UInt8) :: ([55] : List UInt8) :: ([49, 50, 51] : List UInt8) :: mt (List UInt8)) := rfl
  simp only [std_inb, std_lim, std_le, std_lt, cond_dec, toNat_nat, ← hwl, mt]
  generalize wordsL.getD k [] = w at hl ⊢
  have hb : behind k = if 22 ≤ k ∨ (4 ≤ k ∧ k < 20) then [32] else [] := rfl
  cases loose with
  | false =>
    simp only [Bool.not_false, cond_true, Bool.false_eq_true, if_false]
    rw [if_pos (by omega), if_pos (by omega), if_pos (by simp; omega)]
    by_cases h1 : 22 ≤ k
    · rw [if_pos (by omega), if_pos (by simp; omega), hb, if_pos (by omega)]
    · rw [if_neg (by omega)]
      by_cases h2 : 4 ≤ k
      · rw [if_pos (by omega)]
        by_cases h3 : k < 20
        · rw [if_pos (by omega), if_pos (by simp; omega), hb, if_pos (by omega)]
        · rw [if_neg (by omega), hb, if_neg (by omega), List.append_nil]
      · rw [if_neg (by omega), hb, if_neg (by omega), List.append_nil]
  | true =>
    simp only [Bool.not_true, cond_false, if_true]
    rw [if_pos (by omega), if_pos (by omega)]
    by_cases h1 : 22 ≤ k
    · rw [if_pos (by omega), if_pos (by simp; omega), hb, if_pos (by omega)]
    · rw [if_neg (by omega)]
      by_cases h2 : 4 ≤ k
      · rw [if_pos (by omega)]
        by_cases h3 : k < 20
        · rw [if_pos (by omega), if_pos (by simp; omega), hb, if_pos (by omega)]
        · rw [if_neg (by omega), hb, if_neg (by omega), List.append_nil]
      · rw [if_neg (by omega), hb, if_neg (by omega), List.append_nil]
theorem step0 (p0 : List Int) (p1 : List Bool) (n : Nat) (text : List UInt8) (i : Nat) (hi : i < p0.length) (h50 : i < 50) (want : List (List UInt8)) :
    ∃ (k : Nat) (loose : Bool), k < 26 ∧ runLJ p0 p1 (n + 1) (.l0 text i want) = runLJ p0 p1 n (.l1011 text i k loose want) := by
  show ∃ (k : Nat) (loose : Bool), k < 26 ∧ T3 Ops.std _ _ _ p0 p1 _ some _ = _
  unfold T3
  obtain ⟨k, hk, hp⟩ := pick26 (p0.getD i (Ty.dflt ty3))
  simp only [std_inb, std_lim, std_le, std_lt, std_eq, cond_dec, toNat_nat]
  rw [if_pos (by omega), if_pos (by omega), if_pos (by omega), hp, ob_s]
  by_cases h1 : (i : Int) < (p1.length : Int)
  · rw [if_pos h1, if_pos (by omega)]
    cases p1.getD i (Ty.dflt ty4) with
    | false => exact ⟨k, false, hk, rfl⟩
    | true =>
      simp only [cond_true]
      by_cases h2 : (k : Int) < 4
      · rw [if_pos h2]; exact ⟨k, true, hk, rfl⟩
      · rw [if_neg h2]
        by_cases h3 : (k : Int) = 20
        · rw [if_pos h3]; exact ⟨k, true, hk, rfl⟩
        · rw [if_neg h3]; exact ⟨k, _, hk, rfl⟩
  · rw [if_neg h1]; exact ⟨k, false, hk, rfl⟩
theorem cmp_ok (p0 : List Int) (p1 : List Bool) (want : List (List UInt8)) (out : List Tk) (e : Tk) (he : e.1 = 5) (hw : want = out.map (·.2.1)) (hl : out.length < 1000) : ∀ (t i n : Nat), i + t = want.length → t < n →
    runLJ p0 p1 n (.l1 (want.length : Nat) i want (out ++ [e])) = some true
  | t, i, 0, hi, hn => by omega
  | 0, i, n + 1, hi, hn => by
    show T3 Ops.std _ _ _ p0 p1 _ some _ = _
    unfold T3
    have hlen : want.length = out.length := by rw [hw]; simp
    simp only [std_inb, std_lt, std_eq, cond_dec, toNat_nat]
    rw [if_neg (by omega), if_pos (by simp; omega), hlen]
    simp [he]
  | t + 1, i, n + 1, hi, hn => by
    show T3 Ops.std _ _ _ p0 p1 _ some _ = _
    unfold T3
    have hlen : want.length = out.length := by rw [hw]; simp
    simp only [std_inb, std_lt, std_eq, cond_dec, toNat_nat]
    have hg : ((out ++ [e]).getD i (Ty.dflt ty33)).2.1 = want.getD i (Ty.dflt ty9) := by
      rw [hw, List.getD_eq_getElem?_getD, List.getD_eq_getElem?_getD, List.getElem?_append_left (by omega), List.getElem?_map, List.getElem?_eq_getElem (by omega)]
      rfl
    have hg' : ((Prod.fst (Prod.snd (List.getD (out ++ [e]) i (Ty.dflt ty33)))) == want.getD i (Ty.dflt ty9)) = true := by rw [beq_iff_eq]; exact hg
    rw [if_pos (by omega), if_pos (by simp; omega), if_pos (by omega), hg', wrap64 (by omega) (by omega)]
    exact cmp_ok p0 p1 want out e he hw hl t (i + 1) n (by omega) (by omega)
theorem end_ok (p0 : List Int) (p1 : List Bool) (n : Nat) (text : List UInt8) (i : Nat) (hi : ¬ (i < p0.length ∧ i < 50)) (want : List (List UInt8)) (out : List Tk) (K : Nat) (hn : want.length + 2 ≤ n) (ht : text.length ≤ 10000) (hK : K < 900000) (hw : want = out.map (·.2.1)) (hl : out.length < 1000) (h : Lexes text out K) :
    runLJ p0 p1 (n + 1) (.l0 text i want) = some true := by
  have hall := h.all (by omega) hK (by omega)
  have hlen : want.length = out.length := by rw [hw]; simp
  have key : ob (M13 text) (fun y0 => ob (M11) fun y1 => cond (!y1) (some false) (cond (!Ops.eq Ops.std (Prod.fst y0) (0)) (some false) (cond (!Ops.eq Ops.std (Prod.fst (Prod.snd y0)) (0)) (some false)
      (cond (!Ops.eq Ops.std (Nat.cast (List.length (Prod.snd (Prod.snd y0)))) (IntKind.wrap IntKind.i64 (Nat.cast (List.length want) + 1))) (some false) (runLJ p0 p1 n (.l1020 want (Prod.snd (Prod.snd y0)))))))) = some true := by
    rw [hall, ob_s, lex_known, ob_s]
    simp only [std_eq, not_dec, cond_dec, Bool.not_true, cond_false]
    rw [if_neg (by simp), if_neg (by simp), wrap64 (by omega) (by omega), if_neg (by simp; omega)]
    obtain ⟨m, rfl⟩ : ∃ m, n = m + 1 := ⟨n - 1, by omega⟩
    show T3 Ops.std _ _ _ p0 p1 _ some _ = _
    unfold T3
    exact cmp_ok p0 p1 want out _ rfl hw hl want.length 0 m (by omega) (by omega)
  show T3 Ops.std _ _ _ p0 p1 _ some _ = _
  unfold T3
  by_cases h1 : i < p0.length
  · have h2 : ¬ i < 50 := fun h2 => hi ⟨h1, h2⟩
    have e1 : Ops.lt Ops.std (i : Int) (p0.length : Int) = true := by rw [std_lt]; simpa using h1
    have e2 : Ops.lt Ops.std (i : Int) 50 = false := by rw [std_lt]; simp; omega
    simp only [e1, e2, cond_true, cond_false]
    exact key
  · have e1 : Ops.lt Ops.std (i : Int) (p0.length : Int) = false := by rw [std_lt]; simp; omega
    simp only [e1, cond_false]
    exact key
theorem joins_go (p0 : List Int) (p1 : List Bool) : ∀ (t i n : Nat) (text : List UInt8) (want : List (List UInt8)) (out : List Tk) (K : Nat), i + t = min p0.length 50 → 3 * t + 100 < n → text.length ≤ 10 * i → out.length = i → want = out.map (·.2.1) → K ≤ 3 * i → Lexes text out K →
    runLJ p0 p1 n (.l0 text i want) = some true
  | 0, i, n, text, want, out, K, hi, hn, ht, ho, hw, hK, h => by
    obtain ⟨m, rfl⟩ : ∃ m, n = m + 1 := ⟨n - 1, by omega⟩
    have hlen : want.length = out.length := by rw [hw]; simp
    exact end_ok p0 p1 m text i (by omega) want out K (by omega) (by omega) (by omega) hw (by omega) h
  | t + 1, i, n, text, want, out, K, hi, hn, ht, ho, hw, hK, h => by
    obtain ⟨m, rfl⟩ : ∃ m, n = m + 3 := ⟨n - 3, by omega⟩
    have hlen : want.length = out.length := by rw [hw]; simp
    obtain ⟨k, loose, hk, e0⟩ := step0 p0 p1 (m + 2) text i (by omega) (by omega) want
    rw [e0, step11 p0 p1 (m + 1) text (by omega) i k hk loose want, step16 p0 p1 m _ i k hk want (by omega) (by omega)]
    have hb := behind_len k
    have hwk := words_len k
    have hx : ∃ (s : List UInt8) (K1 : Nat), (if loose then text else text ++ [32]) = s ∧ s.length ≤ text.length + 1 ∧ K1 ≤ K + 1 ∧ Lexes s out K1 := by
      cases loose with
      | true => exact ⟨text, K, rfl, by omega, by omega, h⟩
      | false => exact ⟨text ++ [32], K + 1, rfl, by simp, by omega, h.blank⟩
    obtain ⟨s, K1, hs, hsl, hK1, h1⟩ := hx
    rw [hs]
    obtain ⟨tk, K2, htk, hK2, h2⟩ := h1.word (by omega) k hk
    refine joins_go p0 p1 t (i + 1) m _ _ (out ++ [tk]) K2 (by omega) (by omega) (by simp only [List.length_append]; omega) (by simp [ho]) (by simp [hw, htk]) (by omega) h2
theorem plainLexJoins (p0 : List Int) (p1 : List Bool) (w0 : Ty.wf ty22 p0) (w1 : Ty.wf ty23 p1) : M3 p0 p1 = some true := by
  show T3 Ops.std M11 M12 M13 p0 p1 (runLJ p0 p1 1000000) some none = _
  unfold T3
  rw [lex_known, ob_s]
  simp only [Bool.not_true, cond_false]
  exact joins_go p0 p1 (min p0.length 50) 0 1000000 [] [] [] 0 (by omega) (by omega) (by simp) rfl rfl (by omega) Lexes.nil
end Go.Proofs.Ytfdlgmbbflmbgaa.Av
