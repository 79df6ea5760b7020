/- FairRounds: its twin answers true. Conditions: none. -/
import Derived.Test.YtfdlgmbbflmbgaaFR2
import Derived.Test.YtfdlgmbbflmbgaaRead
import Derived.KernelRfl
set_option linter.unusedVariables false
set_option linter.unusedSimpArgs false
set_option maxRecDepth 100000
namespace Go.Proofs.Ytfdlgmbbflmbgaa.Av
open Go

/-! ### The plain counter -/
def cstep (D : Nat) (s : Nat × Nat) (m : List Bool) : Nat × Nat :=
  if D = 0 then (0, s.2 + 1) else if m.getD s.1 false then (if s.1 + 1 < D then (s.1 + 1, s.2) else (0, s.2 + 1)) else s
def cpass (D : Nat) (l : List (List Bool)) (s : Nat × Nat) : Nat × Nat := l.foldl (cstep D) s
def phi (D : Nat) (s : Nat × Nat) : Nat := s.2 * D + s.1

theorem cstep_lt {D : Nat} (hD : 0 < D) {s : Nat × Nat} (h : s.1 < D) (m : List Bool) : (cstep D s m).1 < D ∧ phi D s ≤ phi D (cstep D s m) ∧ (phi D (cstep D s m) = phi D s → cstep D s m = s ∧ m.getD s.1 false = false) := by
  obtain ⟨c, r⟩ := s
  simp only at h
  unfold cstep
  rw [if_neg (by omega)]
  simp only
  by_cases hm : m.getD c false = true
  · rw [if_pos hm]
    by_cases hc : c + 1 < D
    · rw [if_pos hc]
      refine ⟨hc, by simp only [phi]; omega, fun h => ?_⟩
      simp only [phi] at h; omega
    · rw [if_neg hc]
      have : c + 1 = D := by omega
      refine ⟨hD, by simp only [phi, Nat.add_mul]; omega, fun h => ?_⟩
      simp only [phi, Nat.add_mul] at h; omega
  · rw [if_neg hm]
    exact ⟨h, Nat.le_refl _, fun _ => ⟨rfl, by simpa using hm⟩⟩

theorem cpass_ok {D : Nat} (hD : 0 < D) : ∀ (l : List (List Bool)) {s : Nat × Nat}, s.1 < D → (cpass D l s).1 < D ∧ phi D s ≤ phi D (cpass D l s) ∧ ((∃ m ∈ l, m.getD s.1 false = true) → phi D s < phi D (cpass D l s))
  | [], s, h => ⟨h, Nat.le_refl _, fun ⟨m, hm, _⟩ => by cases hm⟩
  | m :: l, s, h => by
    obtain ⟨h1, h2, h3⟩ := cstep_lt hD h m
    obtain ⟨g1, g2, g3⟩ := cpass_ok hD l h1
    refine ⟨g1, Nat.le_trans h2 g2, fun ⟨m', hm', ht⟩ => ?_⟩
    show phi D s < phi D (cpass D l (cstep D s m))
    by_cases he : phi D (cstep D s m) = phi D s
    · obtain ⟨e1, e2⟩ := h3 he
      rw [e1] at g3 ⊢
      rcases List.mem_cons.1 hm' with rfl | hm'
      · rw [ht] at e2; cases e2
      · exact g3 ⟨m', hm', ht⟩
    · omega

def passes (D : Nat) (l : List (List Bool)) : Nat → Nat × Nat → Nat × Nat
  | 0, s => s
  | n + 1, s => passes D l n (cpass D l s)

theorem passes_up {D : Nat} (hD : 0 < D) {l : List (List Bool)} (hl : ∀ e, e < D → ∃ m ∈ l, m.getD e false = true) : ∀ (n : Nat) {s : Nat × Nat}, s.1 < D → (passes D l n s).1 < D ∧ phi D s + n ≤ phi D (passes D l n s)
  | 0, s, h => ⟨h, Nat.le_refl _⟩
  | n + 1, s, h => by
    obtain ⟨h1, _, h3⟩ := cpass_ok hD l h
    obtain ⟨g1, g2⟩ := passes_up hD hl n h1
    exact ⟨g1, by have := h3 (hl _ h); simp only [passes]; omega⟩

/-- each duty is met somewhere: it comes round -/
theorem rounds_yes {D : Nat} (h4 : D < 5) {l : List (List Bool)} (hne : l ≠ []) (hl : ∀ e, e < D → ∃ m ∈ l, m.getD e false = true) : 2 ≤ (passes D l 12 (0, 0)).2 := by
  by_cases hD : D = 0
  · subst hD
    have h1 : ∀ (l : List (List Bool)) (s : Nat × Nat), s.2 + l.length ≤ (cpass 0 l s).2 := by
      intro l
      induction l with
      | nil => intro s; exact Nat.le_refl _
      | cons m l ih => intro s; have := ih (cstep 0 s m); simp only [cpass, List.foldl_cons, List.length_cons] at this ⊢; simp only [cstep, if_true] at this; simp only [cstep, if_true]; omega
    have h2 : ∀ n s, s.2 + n ≤ (passes 0 l n s).2 := by
      intro n
      induction n with
      | zero => intro s; exact Nat.le_refl _
      | succ n ih =>
        intro s
        have := ih (cpass 0 l s)
        have := h1 l s
        have : 0 < l.length := List.length_pos_iff.2 hne
        simp only [passes]; omega
    have := h2 12 (0, 0)
    omega
  · obtain ⟨g1, g2⟩ := passes_up (by omega : 0 < D) hl 12 (s := (0, 0)) (by simp only; omega)
    simp only [phi] at g2
    have hd : D = 1 ∨ D = 2 ∨ D = 3 ∨ D = 4 := by omega
    rcases hd with rfl | rfl | rfl | rfl <;> omega

/-- one duty is never met: it never comes round -/
theorem rounds_no {D e : Nat} (he : e < D) {l : List (List Bool)} (hl : ∀ m ∈ l, m.getD e false = false) : ∀ (n : Nat) {s : Nat × Nat}, s.1 ≤ e → (passes D l n s).2 = s.2 := by
  have h1 : ∀ (l : List (List Bool)) {s : Nat × Nat}, (∀ m ∈ l, m.getD e false = false) → s.1 ≤ e → (cpass D l s).1 ≤ e ∧ (cpass D l s).2 = s.2 := by
    intro l
    induction l with
    | nil => intro s _ h; exact ⟨h, rfl⟩
    | cons m l ih =>
      intro s hl h
      have hs : (cstep D s m).1 ≤ e ∧ (cstep D s m).2 = s.2 := by
        obtain ⟨c, r⟩ := s
        simp only at h
        unfold cstep
        rw [if_neg (by omega)]
        by_cases hm : m.getD c false = true
        · have hce : c ≠ e := by rintro rfl; rw [hl m List.mem_cons_self] at hm; cases hm
          simp only [hm, if_true, if_pos (show c + 1 < D by omega)]
          exact ⟨by omega, trivial⟩
        · simp only [hm]
          exact ⟨h, rfl⟩
      obtain ⟨g1, g2⟩ := ih (fun m hm => hl m (List.mem_cons_of_mem _ hm)) hs.1
      exact ⟨g1, g2.trans hs.2⟩
  intro n
  induction n with
  | zero => intro s _; rfl
  | succ n ih =>
    intro s h
    obtain ⟨g1, g2⟩ := h1 l hl h
    exact (ih g1).trans g2

/-! ### The twin's loops -/
abbrev FR := S5
noncomputable abbrev runFR (p0 : Int) (p1 : List (List Bool)) : Nat → FR → Option Bool := R5 (some true) M12 M16 p0 p1
def Reach (p0 : Int) (p1 : List (List Bool)) (k : Nat) (s s' : FR) : Prop := ∀ n, runFR p0 p1 (n + k) s = runFR p0 p1 n s'
theorem Reach.trans {p0 : Int} {p1 : List (List Bool)} {k k' : Nat} {s s' s'' : FR} (h : Reach p0 p1 k s s') (h' : Reach p0 p1 k' s' s'') : Reach p0 p1 (k' + k) s s'' := fun n => by
  rw [← Nat.add_assoc, h, h']

theorem count_ok {D c : Nat} {m : List Bool} (hm : m.length = D) (hD : D < 5) (hc : c ≤ D - 1) : M16 (c : Int) m = some (((cstep D (c, 0) m).1 : Int), decide (0 < (cstep D (c, 0) m).2)) := by
  show T16 Ops.std (c : Int) m some = _
  unfold T16 cstep
  by_cases h0 : D = 0
  · subst h0
    simp [Ops.std, List.eq_nil_of_length_eq_zero hm]
  · have h1 : ¬ ((m.length : Nat) : Int) = 0 := by omega
    have h2 : ¬ ((m.length : Nat) : Int) ≤ (c : Int) := by omega
    have h3 : IntKind.i64.wrap ((c : Int) + 1) = ((c + 1 : Nat) : Int) := wrap_succ (by omega)
    have h4 : ¬ (c : Int) < 0 := by omega
    have h5 : Ops.std.inb (c : Int) m.length = true := by rw [inb_std]; simp; omega
    rw [h3]
    simp only [h5, Ops.le, lt_std]
    simp only [Ops.std, h1, h4, decide_false, cond_false, Int.toNat_natCast, hm, h0, if_false]
    have h6 : decide (c < D) = true := by simp; omega
    rw [h6]
    simp only [Bool.not_true, cond_false, cond_true]
    cases hg : m.getD c (Ty.dflt ty4) with
    | false =>
      have hg' : m.getD c false = false := hg
      rw [List.getD_eq_getElem?_getD] at hg'
      simp [hg', h0]
    | true =>
      have hg' : m.getD c false = true := hg
      rw [List.getD_eq_getElem?_getD] at hg'
      by_cases h7 : c + 1 < D <;> simp [hg', h7, h0]

theorem wrapn {n : Nat} (h : n < 1000) : IntKind.i64.wrap ((n : Int) + 1) = ((n + 1 : Nat) : Int) := wrap_succ (by omega)
theorem ltn (a b : Nat) : Ops.lt Ops.std (a : Int) (b : Int) = decide (a < b) := lt_std a b
theorem inbn (a b : Nat) : Ops.inb Ops.std (a : Int) b = decide (a < b) := inb_std a b

theorem cstep_r (D c r : Nat) (m : List Bool) : cstep D (c, r) m = ((cstep D (c, 0) m).1, r + (cstep D (c, 0) m).2) ∧ (cstep D (c, 0) m).2 ≤ 1 := by
  unfold cstep
  by_cases h0 : D = 0
  · simp [h0]
  · by_cases hm : m.getD c false = true
    · by_cases h : c + 1 < D <;> simp only [h0, if_false, hm, if_true, h] <;> first | exact ⟨rfl, by omega⟩ | exact ⟨trivial, by omega⟩
    · simp only [h0, if_false, hm]
      exact ⟨rfl, Nat.zero_le _⟩
theorem maxv {D : Nat} (hD : D < 5) : (bif true then bif Ops.lt Ops.std 0 (IntKind.wrap IntKind.i64 ((D : Int) - 1)) then IntKind.wrap IntKind.i64 ((D : Int) - 1) else 0 else bif Ops.lt Ops.std (IntKind.wrap IntKind.i64 ((D : Int) - 1)) 0 then IntKind.wrap IntKind.i64 ((D : Int) - 1) else 0) = ((D - 1 : Nat) : Int) := by
  have hd : D = 0 ∨ D = 1 ∨ D = 2 ∨ D = 3 ∨ D = 4 := by omega
  rcases hd with rfl | rfl | rfl | rfl | rfl <;> decide

/-- one pass of the counter -/
theorem pass_reach {p0 : Int} {p1 : List (List Bool)} {D a : Nat} {b : Bool} {L : List (List Bool)} (hD : D < 5) (hL : ∀ m ∈ L, m.length = D) (ha : a < 12) (hL8 : L.length ≤ 8) : ∀ (t i c r : Nat), i + t = L.length → c ≤ D - 1 → r ≤ 12 * 8 - t → 
    Reach p0 p1 (t + 1) (.l4 D b c r a a L.length i L) (.l3 D b (cpass D (L.drop i) (c, r)).1 (cpass D (L.drop i) (c, r)).2 ((a + 1 : Nat) : Int) L)
  | 0, i, c, r, hi, hc, hr => fun n => by
    show T5 Ops.std _ _ _ p0 p1 _ some _ = _
    unfold T5
    have h1 : decide (i < L.length) = false := by simp; omega
    simp only [ltn, h1, cond_false, wrapn (show a < 1000 by omega)]
    have : L.drop i = [] := List.drop_eq_nil_of_le (by omega)
    rw [this]
    rfl
  | t + 1, i, c, r, hi, hc, hr => fun n => by
    show T5 Ops.std _ _ _ p0 p1 _ some _ = _
    unfold T5
    have hlt : i < L.length := by omega
    have h1 : decide (i < L.length) = true := by simpa using hlt
    have hd : L.drop i = L.getD i (Ty.dflt ty23) :: L.drop (i + 1) := by
      rw [List.drop_eq_getElem_cons hlt]
      congr 1
      simp [List.getD_eq_getElem?_getD, List.getElem?_eq_getElem hlt]
    have hmem : L.getD i (Ty.dflt ty23) ∈ L := by
      rw [List.getD_eq_getElem?_getD, List.getElem?_eq_getElem hlt]
      exact List.getElem_mem hlt
    have hlen := hL _ hmem
    have hcs := cstep_r D c r (L.getD i (Ty.dflt ty23))
    have hlt1 : (cstep D (c, 0) (L.getD i (Ty.dflt ty23))).1 ≤ D - 1 := by
      by_cases h0 : D = 0
      · simp [cstep, h0]
      · have := (cstep_lt (by omega : 0 < D) (s := (c, 0)) (by simp only; omega) (L.getD i (Ty.dflt ty23))).1
        omega
    simp only [ltn, inbn, h1, cond_true, Int.toNat_natCast, count_ok hlen hD hc, ob, maxv hD, wrapn (show i < 1000 by omega), hd, cpass, List.foldl_cons]
    generalize cstep D (c, 0) (L.getD i (Ty.dflt ty23)) = q at hcs hlt1 ⊢
    rw [hcs.1]
    have h2 : Ops.lt Ops.std ((q.1 : Nat) : Int) 0 = false := by simp [Ops.std]
    have h3 : decide (D - 1 < q.1) = false := by simp; omega
    simp only [h2, h3, cond_false]
    have ih := pass_reach (p0 := p0) (p1 := p1) (b := b) hD hL ha hL8 t (i + 1) q.1 (r + q.2) (by omega) hlt1 (by omega) n
    cases hq : decide (0 < q.2) with
    | true =>
      have : q.2 = 1 := by have := of_decide_eq_true hq; omega
      simp only [cond_true, wrapn (show r < 1000 by omega)]
      rw [this] at ih ⊢
      exact ih
    | false =>
      have : q.2 = 0 := by have := of_decide_eq_false hq; omega
      simp only [cond_false]
      rw [this] at ih ⊢
      exact ih

theorem cpass_r (D : Nat) : ∀ (l : List (List Bool)) (s : Nat × Nat), (cpass D l s).2 ≤ s.2 + l.length
  | [], s => Nat.le_refl _
  | m :: l, (c, r) => by
    have h1 := cstep_r D c r m
    have h2 := cpass_r D l (cstep D (c, r) m)
    rw [h1.1] at h2
    show (cpass D l (cstep D (c, r) m)).2 ≤ _
    rw [h1.1]
    simp only [List.length_cons] at h2 ⊢
    omega
theorem cpass_c {D : Nat} : ∀ (l : List (List Bool)) {s : Nat × Nat}, s.1 ≤ D - 1 → (cpass D l s).1 ≤ D - 1 := by
  intro l
  induction l with
  | nil => intro s h; exact h
  | cons m l ih =>
    intro s h
    refine ih (s := cstep D s m) ?_
    by_cases h0 : D = 0
    · simp [cstep, h0]
    · have := (cstep_lt (by omega : 0 < D) (s := s) (by omega) m).1
      omega

/-- the end: is what was counted as it must be? -/
theorem end_run {p0 : Int} {p1 : List (List Bool)} {D : Nat} {b : Bool} {c r : Nat} {L : List (List Bool)} (n : Nat) (hb : decide (2 ≤ r) = b) (hr : b = false → r = 0) : runFR p0 p1 (n + 1) (.l3 D b c r 12 L) = some true := by
  show T5 Ops.std _ _ _ p0 p1 _ some _ = _
  unfold T5
  have h1 : Ops.lt Ops.std 12 12 = false := by decide
  have h2 : Ops.le Ops.std 2 (r : Int) = decide (2 ≤ r) := by
    simp only [Ops.le, Ops.std]
    by_cases h : 2 ≤ r
    · have : ¬ ((r : Int) < 2) := by omega
      simp [h, this]
    · have : (r : Int) < 2 := by omega
      simp [h, this]
  simp only [h1, cond_false, h2, hb, beq_self_eq_true, cond_true]
  cases b with
  | true => rfl
  | false => simp [hr rfl, Ops.std]

theorem rounds_run {p0 : Int} {p1 : List (List Bool)} {D : Nat} {b : Bool} {L : List (List Bool)} (hD : D < 5) (hL : ∀ m ∈ L, m.length = D) (hL8 : L.length ≤ 8) : ∀ (t a c r n : Nat), a + t = 12 → c ≤ D - 1 → r ≤ 8 * a →
    decide (2 ≤ (passes D L t (c, r)).2) = b → (b = false → (passes D L t (c, r)).2 = 0) → runFR p0 p1 (n + (t * (L.length + 2) + 1)) (.l3 D b c r a L) = some true
  | 0, a, c, r, n, ha, hc, hr, hb, hb0 => by
    have : a = 12 := by omega
    subst this
    rw [Nat.zero_mul, Nat.zero_add]
    exact end_run n hb hb0
  | t + 1, a, c, r, n, ha, hc, hr, hb, hb0 => by
    have e : n + ((t + 1) * (L.length + 2) + 1) = (n + (t * (L.length + 2) + 1)) + (L.length + 1) + 1 := by rw [Nat.add_mul]; omega
    rw [e]
    show T5 Ops.std _ _ _ p0 p1 _ some _ = _
    unfold T5
    have h1 : Ops.lt Ops.std (a : Int) 12 = true := by
      have : (a : Int) < 12 := by omega
      simp [Ops.std, this]
    simp only [h1, cond_true]
    have h2 := pass_reach (p0 := p0) (p1 := p1) (b := b) hD hL (by omega : a < 12) hL8 L.length 0 c r (by omega) hc (by omega) (n + (t * (L.length + 2) + 1))
    have h3 := cpass_r D L (c, r)
    rw [List.drop_zero] at h2
    refine Eq.trans h2 ?_
    exact rounds_run hD hL hL8 t (a + 1) _ _ n (by omega) (cpass_c L hc) (by simp only at h3; omega) hb hb0

/-- are all met? -/
theorem all_reach {p0 : Int} {p1 : List (List Bool)} {D : Nat} {b0 : Bool} {L : List (List Bool)} {met : List Bool} (hD : met.length < 5) : ∀ (t i : Nat) (b : Bool), i + t = met.length →
    Reach p0 p1 (t + 1) (.l2 D b0 b met.length i L met) (.l3 D (b && (met.drop i).all id) 0 0 0 L)
  | 0, i, b, hi => fun n => by
    show T5 Ops.std _ _ _ p0 p1 _ some _ = _
    unfold T5
    have h1 : decide (i < met.length) = false := by simp; omega
    simp only [ltn, h1, cond_false]
    have : met.drop i = [] := List.drop_eq_nil_of_le (by omega)
    rw [this]
    simp
  | t + 1, i, b, hi => fun n => by
    have hlt : i < met.length := by omega
    show T5 Ops.std _ _ _ p0 p1 _ some _ = _
    unfold T5
    have h1 : decide (i < met.length) = true := by simpa using hlt
    have hd : met.drop i = met.getD i (Ty.dflt ty4) :: met.drop (i + 1) := by
      rw [List.drop_eq_getElem_cons hlt]
      congr 1
      simp [List.getD_eq_getElem?_getD, List.getElem?_eq_getElem hlt]
    simp only [ltn, inbn, h1, cond_true, Int.toNat_natCast, wrapn (show i < 1000 by omega)]
    cases b with
    | true =>
      have ih := all_reach (p0 := p0) (p1 := p1) (D := D) (b0 := b0) (L := L) hD t (i + 1) (met.getD i (Ty.dflt ty4)) (by omega) n
      simp only [cond_true]
      refine Eq.trans ih ?_
      rw [hd]
      simp
    | false =>
      have ih := all_reach (p0 := p0) (p1 := p1) (D := D) (b0 := b0) (L := L) hD t (i + 1) false (by omega) n
      simp only [cond_false]
      refine Eq.trans ih ?_
      simp

def isMet (p1 : List (List Bool)) (i e : Nat) : Bool := (p1.getD i []).getD e false
theorem getD_set (l : List Bool) (d e : Nat) (b : Bool) (h : d < l.length) : (l.set d b).getD e false = if e = d then b else l.getD e false := by
  simp only [List.getD_eq_getElem?_getD, List.getElem?_set]
  by_cases he : d = e
  · subst he; simp [h]
  · simp [he, Ne.symm he]
theorem getD_snoc (l : List Bool) (e : Nat) (b : Bool) : (l ++ [b]).getD e false = if e < l.length then l.getD e false else (decide (e = l.length) && b) := by
  simp only [List.getD_eq_getElem?_getD]
  by_cases he : e < l.length
  · rw [List.getElem?_append_left he, if_pos he]
  · rw [List.getElem?_append_right (by omega), if_neg he]
    by_cases h2 : e = l.length
    · subst h2; simp
    · rw [List.getElem?_eq_none (by simp; omega)]; simp [h2]

theorem fill_reach {p0 : Int} {p1 : List (List Bool)} {D N i : Nat} {b : Bool} {L : List (List Bool)} (hD : D < 5) (hi : i < p1.length) (hi8 : i < 8) (hL8 : L.length < 8) : ∀ (t d : Nat) (met x : List Bool), d + t = D → met.length = D → x.length = d →
    ∃ met' x', Reach p0 p1 (t + 1) (.l1 D p1 b N i d i N L met x) (.l0 D p1 b N ((i + 1 : Nat) : Int) (L ++ [x']) met') ∧ met'.length = D ∧ x'.length = D ∧ (∀ e, met'.getD e false = (met.getD e false || (decide (d ≤ e ∧ e < D) && isMet p1 i e))) ∧
      ∀ e, x'.getD e false = if e < d then x.getD e false else (decide (e < D) && isMet p1 i e)
  | 0, d, met, x, hd, hm, hx => by
    refine ⟨met, x, fun n => ?_, hm, by omega, fun e => ?_, fun e => ?_⟩
    · show T5 Ops.std _ _ _ p0 p1 _ some _ = _
      unfold T5
      have h1 : decide (d < D) = false := by simp; omega
      have h2 : Ops.lim Ops.std (List.length L + List.length (x :: mt (Ty.den (Ty.list 4 Ty.bool)))) 24 = true := by
        simp only [Ops.std, mt, List.length_cons, List.length_nil, decide_eq_true_eq]; omega
      simp only [ltn, h1, cond_false, h2, cond_true, wrapn (show i < 1000 by omega)]
    · have : ¬ (d ≤ e ∧ e < D) := by omega
      simp [this]
    · by_cases he : e < d
      · rw [if_pos he]
      · rw [if_neg he]
        have h1 : ¬ e < D := by omega
        simp only [h1, decide_false, Bool.false_and]
        rw [List.getD_eq_getElem?_getD, List.getElem?_eq_none (by omega)]; rfl
  | t + 1, d, met, x, hd, hm, hx => by
    have ih := fill_reach (p0 := p0) (p1 := p1) (N := N) (b := b) hD hi hi8 hL8 t (d + 1) (met.set d (met.getD d false || isMet p1 i d)) (x ++ [isMet p1 i d]) (by omega) (by simpa using hm) (by simp [hx])
    obtain ⟨met', x', h1, h2, h3, h4, h5⟩ := ih
    refine ⟨met', x', fun n => ?_, h2, h3, fun e => ?_, fun e => ?_⟩
    · show T5 Ops.std _ _ _ p0 p1 _ some _ = _
      unfold T5
      have g1 : decide (d < D) = true := by simp; omega
      have g2 : decide (i < p1.length) = true := by simpa using hi
      have g3 : decide (d < met.length) = true := by simp; omega
      have g4 : ∀ y : Bool, Ops.lim Ops.std (List.length x + List.length (y :: mt (Ty.den Ty.bool))) 1 = true := fun y => by
        simp only [Ops.std, mt, List.length_cons, List.length_nil, decide_eq_true_eq]; omega
      simp only [ltn, inbn, g1, g2, cond_true, Int.toNat_natCast]
      have e0 : List.getD p1 i (Ty.dflt ty23) = p1.getD i [] := rfl
      rw [e0]
      cases hq : decide (d < (p1.getD i []).length) with
      | true =>
        have e1 : List.getD (p1.getD i []) d (Ty.dflt Ty.bool) = isMet p1 i d := rfl
        simp only [cond_true, e1, g4, g3, wrapn (show d < 1000 by omega)]
        have e2 : List.getD met d (Ty.dflt ty4) = met.getD d false := rfl
        rw [e2]
        cases hmd : met.getD d false with
        | true => rw [hmd, Bool.true_or] at h1; exact h1 n
        | false => rw [hmd, Bool.false_or] at h1; exact h1 n
      | false =>
        have e1 : isMet p1 i d = false := by
          have := of_decide_eq_false hq
          unfold isMet
          rw [List.getD_eq_getElem?_getD (l := p1.getD i []), List.getElem?_eq_none (by omega)]; rfl
        simp only [cond_false, g4, g3, cond_true, wrapn (show d < 1000 by omega)]
        have e2 : List.getD met d (Ty.dflt ty4) = met.getD d false := rfl
        rw [e2]
        rw [e1] at h1
        cases hmd : met.getD d false with
        | true => rw [hmd, Bool.true_or] at h1; exact h1 n
        | false => rw [hmd, Bool.false_or] at h1; exact h1 n
    · rw [h4 e, getD_set _ _ _ _ (by omega)]
      by_cases he : e = d
      · subst he
        have k1 : ¬ (e + 1 ≤ e ∧ e < D) := by omega
        have k2 : e ≤ e ∧ e < D := by omega
        rw [if_pos rfl, decide_eq_false k1, decide_eq_true k2, Bool.false_and, Bool.or_false, Bool.true_and]
      · rw [if_neg he]
        have : (d + 1 ≤ e ∧ e < D) ↔ (d ≤ e ∧ e < D) := by omega
        simp only [this]
    · rw [h5 e, getD_snoc]
      by_cases h6 : e < d
      · rw [if_pos (by omega), if_pos (by omega), if_pos h6]
      · rw [if_neg h6]
        by_cases h7 : e = d
        · subst h7
          have k1 : e < D := by omega
          rw [if_pos (by omega), if_neg (by omega)]
          simp only [hx, k1, decide_true]
        · rw [if_neg (by omega)]

/-- the rows are laid out, and who is met somewhere -/
theorem rows_reach {p0 : Int} {p1 : List (List Bool)} {D N : Nat} {b : Bool} (hD : D < 5) (hN : N ≤ p1.length) (hN8 : N ≤ 8) : ∀ (t i : Nat) (L : List (List Bool)) (met : List Bool), i + t = N → L.length = i → met.length = D → (∀ m ∈ L, m.length = D) →
    ∃ L' met', Reach p0 p1 (t * (D + 2) + 1) (.l0 D p1 b N i L met) (.l2 D b true D 0 L' met') ∧ L'.length = N ∧ met'.length = D ∧ (∀ m ∈ L', m.length = D) ∧
      ∀ e, e < D → (met'.getD e false = (met.getD e false || (L'.drop i).any fun m => m.getD e false)) ∧ L'.take i = L
  | 0, i, L, met, hi, hL, hm, hm' => by
    refine ⟨L, met, fun n => ?_, by omega, hm, hm', fun e _ => ⟨?_, List.take_of_length_le (by omega)⟩⟩
    · show T5 Ops.std _ _ _ p0 p1 _ some _ = _
      unfold T5
      have h1 : decide (i < N) = false := by simp; omega
      simp only [ltn, h1, cond_false, hm]
      rw [Nat.zero_mul]
      rfl
    · rw [List.drop_eq_nil_of_le (by omega)]; simp
  | t + 1, i, L, met, hi, hL, hm, hm' => by
    obtain ⟨met1, x, h1, h2, h3, h4, h5⟩ := fill_reach (p0 := p0) (p1 := p1) (D := D) (N := N) (i := i) (b := b) (L := L) hD (by omega) (by omega) (by omega) D 0 met [] (by omega) hm rfl
    obtain ⟨L', met', g1, g2, g3, g4, g5⟩ := rows_reach (p0 := p0) (b := b) hD hN hN8 t (i + 1) (L ++ [x]) met1 (by omega) (by simp [hL]) h2 (fun m hmm => by
      rcases List.mem_append.1 hmm with hmm | hmm
      · exact hm' m hmm
      · rw [List.mem_singleton.1 hmm]; exact h3)
    have s0 : Reach p0 p1 1 (.l0 D p1 b N i L met) (.l1 D p1 b N i 0 i N L met []) := fun n => by
      show T5 Ops.std _ _ _ p0 p1 _ some _ = _
      unfold T5
      have h1 : decide (i < N) = true := by simp; omega
      simp only [ltn, h1, cond_true]
    refine ⟨L', met', ?_, g2, g3, g4, fun e he => ?_⟩
    · have := (s0.trans h1).trans g1
      have e : t * (D + 2) + 1 + (D + 1 + 1) = (t + 1) * (D + 2) + 1 := by rw [Nat.add_mul]; omega
      rw [e] at this
      exact this
    · obtain ⟨k1, k2⟩ := g5 e he
      have hLi : L'.take i = L := by
        have := congrArg (List.take i) k2
        rw [List.take_take, Nat.min_eq_left (by omega), List.take_left' hL] at this
        exact this
      have hlt : i < L'.length := by omega
      have hx : L'[i] = x := by
        have := congrArg (fun l => l[i]?) k2
        simp only [List.getElem?_take, List.getElem?_append_right (show L.length ≤ i by omega)] at this
        rw [if_pos (by omega), List.getElem?_eq_getElem hlt, show i - L.length = 0 by omega] at this
        simpa using this
      refine ⟨?_, hLi⟩
      rw [k1, h4 e, List.drop_eq_getElem_cons hlt, List.any_cons, hx, h5 e, if_neg (by omega)]
      simp only [Nat.zero_le, true_and, Bool.or_assoc]

theorem pick_ok (p0 : Int) : ∃ D : Nat, D < 5 ∧ M12 p0 5 = some (D : Int) := by
  show ∃ D : Nat, D < 5 ∧ T12 Ops.std p0 5 some = _
  unfold T12
  have h1 : Ops.eq Ops.std 5 0 = false := by decide
  rw [h1]
  simp only [cond_false]
  have h2 := Int.tmod_lt_of_pos p0 (show (0 : Int) < 5 by decide)
  have h3 : -5 < Int.tmod p0 5 := by
    have := Int.lt_tmod_of_pos p0 (show (0 : Int) < 5 by decide)
    omega
  generalize Int.tmod p0 5 = q at h2 h3 ⊢
  by_cases hq : q < 0
  · refine ⟨(q + 5).toNat, by omega, ?_⟩
    have : Ops.lt Ops.std q 0 = true := by simp [Ops.std, hq]
    rw [this, cond_true, wrap_id (by omega) (by omega)]
    congr 1; omega
  · refine ⟨q.toNat, by omega, ?_⟩
    have : Ops.lt Ops.std q 0 = false := by simp [Ops.std, hq]
    rw [this, cond_false]
    congr 1; omega

theorem law_ok {p0 : Int} {p1 : List (List Bool)} {D N : Nat} (hD : D < 5) (hN : N ≤ p1.length) (hN8 : N ≤ 8) (h0 : 0 < N) : runFR p0 p1 1000000 (.l0 D p1 false N 0 [] (List.replicate D false)) = some true := by
  obtain ⟨L', met', h1, h2, h3, h4, h5⟩ := rows_reach (p0 := p0) (p1 := p1) (b := false) hD hN hN8 N 0 [] (List.replicate D false) (by omega) rfl (by simp) (fun m hm => by cases hm)
  have h6 := all_reach (p0 := p0) (p1 := p1) (D := D) (b0 := false) (L := L') (met := met') (by omega) D 0 true (by omega)
  rw [h3] at h6
  have hK : N * (D + 2) ≤ 8 * 6 := Nat.mul_le_mul hN8 (by omega)
  have e : 1000000 = (1000000 - (N * (D + 2) + 1 + (D + 1) + (12 * (L'.length + 2) + 1)) + (12 * (L'.length + 2) + 1)) + (D + 1) + (N * (D + 2) + 1) := by omega
  rw [e]
  refine Eq.trans (h1 _) (Eq.trans (h6 _) ?_)
  simp only [Bool.true_and, List.drop_zero]
  have hm : ∀ e, e < D → (met'.getD e false = true ↔ ∃ m ∈ L', m.getD e false = true) := by
    intro e he
    rw [(h5 e he).1]
    simp only [List.drop_zero, Bool.or_eq_true, List.any_eq_true]
    constructor
    · rintro (h | h)
      · rw [List.getD_eq_getElem?_getD, List.getElem?_replicate] at h
        split at h <;> cases h
      · exact h
    · exact Or.inr
  have hall : met'.all id = true ↔ ∀ e, e < D → met'.getD e false = true := by
    rw [List.all_eq_true]
    constructor
    · intro h e he
      rw [List.getD_eq_getElem?_getD, List.getElem?_eq_getElem (by omega)]
      exact h _ (List.getElem_mem _)
    · intro h x hx
      obtain ⟨e, he, rfl⟩ := List.getElem_of_mem hx
      have := h e (by omega)
      rw [List.getD_eq_getElem?_getD, List.getElem?_eq_getElem he] at this
      exact this
  have hne : L' ≠ [] := by rintro rfl; simp at h2; omega
  refine rounds_run hD h4 (by omega) 12 0 0 0 _ rfl (Nat.zero_le _) (Nat.zero_le _) ?_ ?_
  · by_cases hb : met'.all id = true
    · rw [hb]
      have := rounds_yes hD hne fun e he => (hm e he).1 (hall.1 hb e he)
      simpa using this
    · have hb' : met'.all id = false := by simpa using hb
      rw [hb']
      have : ∃ e, e < D ∧ met'.getD e false = false := by
        by_cases hx : ∃ e, e < D ∧ met'.getD e false = false
        · exact hx
        · exfalso; apply hb; rw [hall]; intro e he
          by_cases hy : met'.getD e false = true
          · exact hy
          · exact absurd ⟨e, he, by simpa using hy⟩ hx
      obtain ⟨e, he, hf⟩ := this
      have := rounds_no he (l := L') (fun m hmm => by
        by_cases hy : m.getD e false = true
        · have := (hm e he).2 ⟨m, hmm, hy⟩; rw [hf] at this; cases this
        · simpa using hy) 12 (s := (0, 0)) (Nat.zero_le _)
      rw [this]; rfl
  · intro hb
    have : ∃ e, e < D ∧ met'.getD e false = false := by
      by_cases hx : ∃ e, e < D ∧ met'.getD e false = false
      · exact hx
      · exfalso
        have : met'.all id = true := by
          rw [hall]; intro e he
          by_cases hy : met'.getD e false = true
          · exact hy
          · exact absurd ⟨e, he, by simpa using hy⟩ hx
        rw [hb] at this; cases this
    obtain ⟨e, he, hf⟩ := this
    exact rounds_no he (l := L') (fun m hmm => by
      by_cases hy : m.getD e false = true
      · have := (hm e he).2 ⟨m, hmm, hy⟩; rw [hf] at this; cases this
      · simpa using hy) 12 (s := (0, 0)) (Nat.zero_le _)

theorem knownF : M15 = some true := by kernel_rfl
theorem plainFairRounds (p0 : Int) (p1 : List (List Bool)) (w0 : (Lit.int .i64 p0).wf = true) (w1 : Ty.wf ty37 p1) : M5 p0 p1 = some true := by
  show T5 Ops.std M15 M12 M16 p0 p1 (R5 M15 M12 M16 p0 p1 1000000) some none = _
  rw [knownF]
  obtain ⟨D, hD, hp⟩ := pick_ok p0
  unfold T5
  simp only [ob, Bool.not_true, cond_false, hp]
  have hN : ∃ N : Nat, N ≤ p1.length ∧ N ≤ 8 ∧ (N = 0 → p1.length = 0) ∧ (bif Ops.lt Ops.std 8 (Nat.cast p1.length) then (8 : Int) else Nat.cast p1.length) = (N : Int) := by
    by_cases h : 8 < p1.length
    · refine ⟨8, by omega, by omega, by omega, ?_⟩
      have : Ops.lt Ops.std 8 (Nat.cast p1.length) = true := by simp [Ops.std]; omega
      rw [this]; rfl
    · refine ⟨p1.length, Nat.le_refl _, by omega, id, ?_⟩
      have : Ops.lt Ops.std 8 (Nat.cast p1.length) = false := by simp [Ops.std]; omega
      rw [this]; rfl
  obtain ⟨N, hN1, hN2, hN3, hN4⟩ := hN
  rw [hN4]
  by_cases h0 : N = 0
  · have : Ops.eq Ops.std (N : Int) 0 = true := by simp [Ops.std, h0]
    rw [this]; rfl
  · have h1 : Ops.eq Ops.std (N : Int) 0 = false := by simp [Ops.std, h0]
    have h2 : Ops.eq Ops.std (D : Int) (D : Int) = true := by simp [Ops.std]
    have h3 : Ops.le Ops.std 0 (D : Int) = true := by simp [Ops.std, Ops.le]
    have h4 : Ops.lim Ops.std D 1 = true := by simp only [Ops.std, decide_eq_true_eq]; omega
    simp only [h1, h2, h3, cond_true, cond_false, Int.toNat_natCast, h4]
    exact law_ok hD hN1 hN2 (by omega)
end Go.Proofs.Ytfdlgmbbflmbgaa.Av
