/- The law FormulaRight is true. Conditions: none. -/
import Derived.Test.YtkmpkebaloejhaaGreatDoorRows
import Derived.Test.YtkmpkebaloejhaaGreatDoorPFormulaRight
import Derived.Test.YtkmpkebaloejhaaGreatDoorRead
import Derived.Test.YtkmpkebaloejhaaGreatDoorGl
import Derived.Test.YtkmpkebaloejhaaGreatDoorCards
import Derived.Test.YtkmpkebaloejhaaGreatDoorTie
import Derived.WalkKit
import Derived.ProofKit
import Derived.OpenShut
import Derived.ShutString
import Derived.ChangeOld
import Derived.Below
import Derived.SizedLaws
import Derived.LaidMore
import Derived.Stop.Joined
import Derived.SevenTiedAt
namespace Go.Proofs.YtkmpkebaloejhaaGreatDoor.formulaRight
open Go.ChangeShapes Go.WideShapes Go.ChangeAt Go.RowKit
open Go.ChangeMaps (open_string shut_string)
set_option linter.unusedVariables false
theorem own : ownKnob Tryz.prog.godebug = none := by kernel_rfl
theorem laidOut : laidOutB Tryz.prog = true := by kernel_rfl
def laidL : List (String × DataW Unit) := [("math/bits.deBruijn32tab", Rows.laid_math_bits_deBruijn32tab), ("math/bits.deBruijn64tab", Rows.laid_math_bits_deBruijn64tab), ("internal/strconv.uint64pow10", Rows.laid_internal_strconv_uint64pow10), ("lariat/lariathand.vars", Rows.laid_lariat_lariathand_vars), ("lariat/lariathand.procs", Rows.laid_lariat_lariathand_procs), ("lariat/lariathand.locs", Rows.laid_lariat_lariathand_locs)]
theorem door_met (os : Os) (args : Array Value) : laidMetH Tryz.prog laidL ((World.doorLaid Tryz.prog 400 os).forCall (fun _ _ => 0) ⟨#[], args, []⟩).memory :=
  laidMetH_of_parts3 (fuel := 8) (laidMet_of_run' 8 (by kernel_rfl) (by kernel_rfl)) (by kernel_rfl) (by kernel_rfl)
theorem glr {W : World} (h : laidMetH Tryz.prog laidL W) : Av.GlR (fun k => k < W.heap.size) W Av.gl0 := by
  rw [MakeChecks.laidMetH_plain _ _ _ (by kernel_rfl)] at h
  refine Av.glr_of (l := Av.glL) fun p hp => ?_
  simp only [Av.glL, List.mem_cons, List.not_mem_nil, or_false] at hp
  rcases hp with rfl | rfl | rfl | rfl
  · exact Av.gl_str h (n := "lariat/lariathand.vars") (d := Rows.laid_lariat_lariathand_vars) (ss := [[120], [121], [122]]) (g := 0) (t := 91) (m := 3) (e := 9) (by unfold laidL; exact List.mem_cons_of_mem _ (List.mem_cons_of_mem _ (List.mem_cons_of_mem _ (List.mem_cons_self ..)))) rfl (by kernel_rfl) (by kernel_rfl) (by kernel_rfl) (by kernel_rfl) (by kernel_rfl) (by kernel_rfl)
  · exact Av.gl_str h (n := "lariat/lariathand.procs") (d := Rows.laid_lariat_lariathand_procs) (ss := [[112], [113], [114]]) (g := 1) (t := 91) (m := 3) (e := 9) (by unfold laidL; exact List.mem_cons_of_mem _ (List.mem_cons_of_mem _ (List.mem_cons_of_mem _ (List.mem_cons_of_mem _ (List.mem_cons_self ..))))) rfl (by kernel_rfl) (by kernel_rfl) (by kernel_rfl) (by kernel_rfl) (by kernel_rfl) (by kernel_rfl)
  · exact Av.gl_str h (n := "lariat/lariathand.locs") (d := Rows.laid_lariat_lariathand_locs) (ss := [[97], [98], [99], [100]]) (g := 2) (t := 145) (m := 4) (e := 9) (by unfold laidL; exact List.mem_cons_of_mem _ (List.mem_cons_of_mem _ (List.mem_cons_of_mem _ (List.mem_cons_of_mem _ (List.mem_cons_of_mem _ (List.mem_cons_self ..)))))) rfl (by kernel_rfl) (by kernel_rfl) (by kernel_rfl) (by kernel_rfl) (by kernel_rfl) (by kernel_rfl)
  · exact Av.gl_int h (n := "internal/strconv.uint64pow10") (d := Rows.laid_internal_strconv_uint64pow10) (ik := .u64) (ss := [1, 10, 100, 1000, 10000, 100000, 1000000, 10000000, 100000000, 1000000000, 10000000000, 100000000000, 1000000000000, 10000000000000, 100000000000000, 1000000000000000, 10000000000000000, 100000000000000000, 1000000000000000000, 10000000000000000000]) (g := 3) (t := 188) (m := 20) (e := 159) (by unfold laidL; exact List.mem_cons_of_mem _ (List.mem_cons_of_mem _ (List.mem_cons_self ..))) rfl (by kernel_rfl) (by kernel_rfl) (by kernel_rfl) (by kernel_rfl) (by kernel_rfl) (by kernel_rfl)
set_option maxRecDepth 100000 in
theorem lifted (os : Os) (started : os.Started) (H : Type) (enc : TypeId × Value → H) :
    ReturnsInHanded {} Tryz.checked os 3 .any (fun w args => (Rows.formulaRightSpec.pre enc Tryz.prog Tryz.f3 [] false w args ∧ laidMetH Tryz.prog laidL w) ∧ sizedMet enc Tryz.prog Tryz.f3 (OpenSpec.ofChange Rows.formulaRightSpec) false w args)
      (Rows.formulaRightSpec.post enc Tryz.prog Tryz.f3 false true false false) := by
  refine returnsInHanded_of_change_and (C := Tryz.checked) (X := fun w _ => laidMetH Tryz.prog laidL w) (fun _ _ _ hh h => h.of_heap hh) own started (by kernel_rfl) Tryz.func3
    (ChangeSpec.witness_shaped (enc := enc) (C := Tryz.checked) (os := os) (X := fun w _ => laidMetH Tryz.prog laidL w) false (World.doorLaid Tryz.prog 400 os) #[.slice none 0 0, .int .i64 0, .int .i64 0, .int .i64 0, .agg #[.int .i64 0, .int .i64 0, .slice none 0 0]] 8 rfl (World.shaped_of_RefB (by kernel_rfl) (by kernel_rfl)) (by kernel_rfl) (by kernel_rfl) (by kernel_rfl) (door_met os _)) ?_
  intro W base args ds gs before hval0 hW hcnd hsz0 hL _
  have hval : ∀ (j : Nat) t v, Tryz.f3.params[j]? = some t → args[j]? = some v → Value.okWide Tryz.prog W .any base t v := hval0
  have hW' := hW
  obtain ⟨p, q, hA0, hV, rfl, hfz, hnd⟩ := hW
  have hA : DataW.TrodAll enc Tryz.prog W 0 (fun _ => true) true Tryz.f3.params.toList args.toList ds p := hA0
  rw [Tryz.params3] at hA
  obtain ⟨v0, vs0, d0, ds0, p0, q0, hargs, rfl, rfl, h0, r0⟩ := trodAll_cons hA
  obtain ⟨v1, vs1, d1, ds1, p1, q1, rfl, rfl, rfl, h1, r1⟩ := trodAll_cons r0
  obtain ⟨v2, vs2, d2, ds2, p2, q2, rfl, rfl, rfl, h2, r2⟩ := trodAll_cons r1
  obtain ⟨v3, vs3, d3, ds3, p3, q3, rfl, rfl, rfl, h3, r3⟩ := trodAll_cons r2
  obtain ⟨v4, vs4, d4, ds4, p4, q4, rfl, rfl, rfl, h4, r4⟩ := trodAll_cons r3
  obtain ⟨rfl, rfl, rfl⟩ := trodAll_nil r4
  obtain rfl : args = #[v0, v1, v2, v3, v4] := by cases args; simp_all
  obtain ⟨rfl, rfl⟩ := trodVars_none hV
  obtain ⟨a0, len0, cap0, rfl⟩ := okWide_slice Tryz.underlying22 (hval 0 22 v0 rfl rfl)
  have k0 := h0
  have lt0 : ∀ x ∈ p0, x.block < W.heap.size := by obtain ⟨m, hm⟩ := k0; exact DataW.trod_lt m _ _ _ hm
  obtain ⟨y0, hy0, w0⟩ : ∃ y : (Av.ty22).den, (Av.ty22).K (fun k => k < W.heap.size) W y [.slice a0 len0 cap0] ∧ (Av.ty22).wf y := by
    obtain ⟨fuel, hf⟩ := h0
    exact Av.read_ok Av.ty22 22 fuel _ _ (by kernel_rfl) hf
  obtain ⟨a1, rfl, rfl, rfl, w1⟩ := open_int Tryz.underlying3 (hval 1 3 v1 rfl rfl) h1
  obtain ⟨a2, rfl, rfl, rfl, w2⟩ := open_int Tryz.underlying3 (hval 2 3 v2 rfl rfl) h2
  obtain ⟨a3, rfl, rfl, rfl, w3⟩ := open_int Tryz.underlying3 (hval 3 3 v3 rfl rfl) h3
  obtain ⟨c4, rfl, _⟩ := okWide_struct Tryz.underlying25 (hval 4 25 v4 rfl rfl)
  have k4 := h4
  have lt4 : ∀ x ∈ p4, x.block < W.heap.size := by obtain ⟨m, hm⟩ := k4; exact DataW.trod_lt m _ _ _ hm
  obtain ⟨fu4, hf4⟩ := h4
  have hf4' : DataW.trod enc Tryz.prog W 0 (fun _ => true) true fu4 25 c4.toList = some (d4, p4) := hf4
  obtain ⟨u4_0, u4_1, u4_2, y4_0, y4_1, y4_2, hc4, ⟨g4_0, w4_0⟩, ⟨g4_1, w4_1⟩, ⟨g4_2, w4_2⟩⟩ := Av.read_struct3 (.int .i64) (.int .i64) Av.ty23 Tryz.underlying25 ⟨⟨rfl, rfl⟩, rfl⟩ (by kernel_rfl) (by kernel_rfl) (by kernel_rfl) (by kernel_rfl) (by kernel_rfl) (by kernel_rfl) (by kernel_rfl) hf4'
  clear hA0 hval0 hsz0
  refine (Av.walk_gl (Av.sm3 y0 a1 a2 a3 y4_0 y4_1 y4_2 true (Av.plainFormulaRight y0 a1 a2 a3 y4_0 y4_1 y4_2 w0 w1 w2 w3 w4_0 w4_1 w4_2)) W #[.slice a0 len0 cap0, .int .i64 a1, .int .i64 a2, .int .i64 a3, .agg c4] (glr hL) (fun ρ => ⟨hy0, ⟨rfl, ⟨rfl, ⟨rfl, ⟨Av.avr_struct3 hc4 (List.cons.inj g4_0).1 (List.cons.inj g4_1).1 g4_2 (Av.Ty.K_one _ _ _ _ _ g4_0 u4_0 (List.mem_singleton_self _)) (Av.Ty.K_one _ _ _ _ _ g4_1 u4_1 (List.mem_singleton_self _)) (Av.Ty.K_one _ _ _ _ _ g4_2 u4_2 (List.mem_singleton_self _)), trivial⟩⟩⟩⟩⟩)).mono fun e W' ⟨he, bel⟩ => ?_
  subst he
  exact ⟨_, rfl, _, _, _, [], _, [], hW', trodAll_mk1 (shut_bool Tryz.underlying4 _), (trodAll_cons_mk (Below.trod laidOut (by kernel_rfl) (of_decide_eq_true (by kernel_rfl)) k0 bel lt0) (trodAll_cons_mk (shut_int Tryz.underlying3 w1) (trodAll_cons_mk (shut_int Tryz.underlying3 w2) (trodAll_cons_mk (shut_int Tryz.underlying3 w3) (trodAll_cons_mk (Below.trod laidOut (by kernel_rfl) (of_decide_eq_true (by kernel_rfl)) k4 bel lt4) trodAll_mk0))))), rfl, bel.frame _, fun h => by cases h⟩
theorem over : Rows.formulaRightRow.holds Tryz.pinned (OpenSpec.ofChange Rows.formulaRightSpec) :=
  OpenClaim.holds_of_wide 3 Tryz.f3 rfl rfl rfl rfl rfl rfl rfl ⟨rfl, rfl, rfl, rfl, rfl⟩ rfl rfl rfl rfl rfl (by kernel_rfl) Tryz.func3 (by kernel_rfl)
    (of_decide_eq_true (by kernel_rfl)) (by unfold Func.isWrapper; first | (rw [if_pos (by decide +kernel)]; kernel_rfl) | (rw [if_neg (by decide +kernel)]; exact ⟨rfl, rfl⟩))
    (fun os started H enc _ => lifted os started H enc)
theorem proved : Rows.FormulaRightSaid := over
end Go.Proofs.YtkmpkebaloejhaaGreatDoor.formulaRight
namespace Go.Proofs.YtkmpkebaloejhaaGreatDoor
/-- The card, under a short name, for the claim. -/
theorem formulaRight_holds : Rows.FormulaRightCardSaid :=
  Claim7.holds_tied_plain_at .later [] [.data, .data, .data, .data, .data, .data] true (true, "26f81709495dce524e1aadcd7276c9e4c9ebbdb9554dca093a87e1799f16106f") false
    formulaRight.proved (fun _ h => by cases h) (by kernel_rfl) (fun _ h => by cases h) formulaRight_row_tie rfl ⟨rfl, rfl⟩ (by kernel_rfl) rfl
    (fun f fn hf hfn => by
      obtain rfl : f = 3 := Option.some.inj ((show Tryz.prog.funcNamed "lariat/lariatlaw13.FormulaRight" = some 3 by kernel_rfl).symm.trans hf) |>.symm
      obtain rfl : fn = Tryz.f3 := (Option.some.inj (Tryz.func3.symm.trans hfn)).symm
      exact ⟨by kernel_rfl, fun j t ht => by
        rw [Tryz.params3] at ht
        have hm : t ∈ [22, 3, 3, 3, 25] := by simpa using Array.mem_of_getElem? ht
        have hall : ([22, 3, 3, 3, 25].all fun u => !Tryz.prog.wantsStandIn u) = true := by kernel_rfl
        exact (show Tryz.prog.wantsStandIn t = false by simpa using List.all_eq_true.1 hall t hm)⟩)
    (by kernel_rfl)
end Go.Proofs.YtkmpkebaloejhaaGreatDoor
