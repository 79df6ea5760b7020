/- The law WordTells is true. Conditions: none. -/
import Derived.Test.YtccnmhdgghjgoaaGreatDoorRows
import Derived.Test.YtccnmhdgghjgoaaGreatDoorPWordTells
import Derived.Test.YtccnmhdgghjgoaaGreatDoorRead
import Derived.Test.YtccnmhdgghjgoaaGreatDoorGl
import Derived.Test.YtccnmhdgghjgoaaGreatDoorCards
import Derived.Test.YtccnmhdgghjgoaaGreatDoorTie
import Derived.WalkKit
import Derived.ProofKit
import Derived.OpenShut
import Derived.ShutString
import Derived.ChangeOld
import Derived.Below
import Derived.SizedLaws
import Derived.LaidMore
import Derived.Stop.Joined
import Derived.SevenTiedAt
namespace Go.Proofs.YtccnmhdgghjgoaaGreatDoor.wordTells
open Go.ChangeShapes Go.WideShapes Go.ChangeAt Go.RowKit
open Go.ChangeMaps (open_string shut_string)
set_option linter.unusedVariables false
theorem own : ownKnob Tryz.prog.godebug = none := by kernel_rfl
theorem laidOut : laidOutB Tryz.prog = true := by kernel_rfl
def laidL : List (String × DataW Unit) := [("lariat/lariathand.vars", Rows.laid_lariat_lariathand_vars), ("lariat/lariathand.procs", Rows.laid_lariat_lariathand_procs), ("lariat/lariathand.locs", Rows.laid_lariat_lariathand_locs)]
theorem door_met (os : Os) (args : Array Value) : laidMetH Tryz.prog laidL ((World.doorLaid Tryz.prog 400 os).forCall (fun _ _ => 0) ⟨#[], args, []⟩).memory :=
  laidMetH_of_parts3 (fuel := 8) (laidMet_of_run' 8 (by kernel_rfl) (by kernel_rfl)) (by kernel_rfl) (by kernel_rfl)
theorem glr {W : World} (h : laidMetH Tryz.prog laidL W) : Av.GlR (fun k => k < W.heap.size) W Av.gl0 := by
  rw [MakeChecks.laidMetH_plain _ _ _ (by kernel_rfl)] at h
  refine Av.glr_of (l := Av.glL) fun p hp => ?_
  simp only [Av.glL, List.mem_cons, List.not_mem_nil, or_false] at hp
  rcases hp with rfl | rfl | rfl
  · exact Av.gl_str h (n := "lariat/lariathand.vars") (d := Rows.laid_lariat_lariathand_vars) (ss := [[120], [121], [122]]) (g := 0) (t := 140) (m := 3) (e := 9) (by unfold laidL; exact List.mem_cons_self ..) rfl (by kernel_rfl) (by kernel_rfl) (by kernel_rfl) (by kernel_rfl) (by kernel_rfl) (by kernel_rfl)
  · exact Av.gl_str h (n := "lariat/lariathand.procs") (d := Rows.laid_lariat_lariathand_procs) (ss := [[112], [113], [114]]) (g := 1) (t := 140) (m := 3) (e := 9) (by unfold laidL; exact List.mem_cons_of_mem _ (List.mem_cons_self ..)) rfl (by kernel_rfl) (by kernel_rfl) (by kernel_rfl) (by kernel_rfl) (by kernel_rfl) (by kernel_rfl)
  · exact Av.gl_str h (n := "lariat/lariathand.locs") (d := Rows.laid_lariat_lariathand_locs) (ss := [[97], [98], [99], [100]]) (g := 2) (t := 186) (m := 4) (e := 9) (by unfold laidL; exact List.mem_cons_of_mem _ (List.mem_cons_of_mem _ (List.mem_cons_self ..))) rfl (by kernel_rfl) (by kernel_rfl) (by kernel_rfl) (by kernel_rfl) (by kernel_rfl) (by kernel_rfl)
set_option maxRecDepth 100000 in
theorem lifted (os : Os) (started : os.Started) (H : Type) (enc : TypeId × Value → H) :
    ReturnsInHanded {} Tryz.checked os 7 .any (fun w args => (Rows.wordTellsSpec.pre enc Tryz.prog Tryz.f7 [] false w args ∧ laidMetH Tryz.prog laidL w) ∧ sizedMet enc Tryz.prog Tryz.f7 (OpenSpec.ofChange Rows.wordTellsSpec) false w args)
      (Rows.wordTellsSpec.post enc Tryz.prog Tryz.f7 false true false false) := by
  refine returnsInHanded_of_change_and (C := Tryz.checked) (X := fun w _ => laidMetH Tryz.prog laidL w) (fun _ _ _ hh h => h.of_heap hh) own started (by kernel_rfl) Tryz.func7
    (ChangeSpec.witness_shaped (enc := enc) (C := Tryz.checked) (os := os) (X := fun w _ => laidMetH Tryz.prog laidL w) false (World.doorLaid Tryz.prog 400 os) #[.slice none 0 0, .agg #[.int .i64 0, .int .i64 0, .slice none 0 0], .slice none 0 0, .slice none 0 0, .int .i64 0] 8 rfl (World.shaped_of_RefB (by kernel_rfl) (by kernel_rfl)) (by kernel_rfl) (by kernel_rfl) (by kernel_rfl) (door_met os _)) ?_
  intro W base args ds gs before hval0 hW hcnd hsz0 hL _
  have hval : ∀ (j : Nat) t v, Tryz.f7.params[j]? = some t → args[j]? = some v → Value.okWide Tryz.prog W .any base t v := hval0
  have hW' := hW
  obtain ⟨p, q, hA0, hV, rfl, hfz, hnd⟩ := hW
  have hA : DataW.TrodAll enc Tryz.prog W 0 (fun _ => true) true Tryz.f7.params.toList args.toList ds p := hA0
  rw [Tryz.params7] at hA
  obtain ⟨v0, vs0, d0, ds0, p0, q0, hargs, rfl, rfl, h0, r0⟩ := trodAll_cons hA
  obtain ⟨v1, vs1, d1, ds1, p1, q1, rfl, rfl, rfl, h1, r1⟩ := trodAll_cons r0
  obtain ⟨v2, vs2, d2, ds2, p2, q2, rfl, rfl, rfl, h2, r2⟩ := trodAll_cons r1
  obtain ⟨v3, vs3, d3, ds3, p3, q3, rfl, rfl, rfl, h3, r3⟩ := trodAll_cons r2
  obtain ⟨v4, vs4, d4, ds4, p4, q4, rfl, rfl, rfl, h4, r4⟩ := trodAll_cons r3
  obtain ⟨rfl, rfl, rfl⟩ := trodAll_nil r4
  obtain rfl : args = #[v0, v1, v2, v3, v4] := by cases args; simp_all
  obtain ⟨rfl, rfl⟩ := trodVars_none hV
  obtain ⟨a0, len0, cap0, rfl⟩ := okWide_slice Tryz.underlying22 (hval 0 22 v0 rfl rfl)
  have k0 := h0
  have lt0 : ∀ x ∈ p0, x.block < W.heap.size := by obtain ⟨m, hm⟩ := k0; exact DataW.trod_lt m _ _ _ hm
  obtain ⟨y0, hy0, w0⟩ : ∃ y : (Av.ty22).den, (Av.ty22).K (fun k => k < W.heap.size) W y [.slice a0 len0 cap0] ∧ (Av.ty22).wf y := by
    obtain ⟨fuel, hf⟩ := h0
    exact Av.read_ok Av.ty22 22 fuel _ _ (by kernel_rfl) hf
  obtain ⟨c1, rfl, _⟩ := okWide_struct Tryz.underlying25 (hval 1 25 v1 rfl rfl)
  have k1 := h1
  have lt1 : ∀ x ∈ p1, x.block < W.heap.size := by obtain ⟨m, hm⟩ := k1; exact DataW.trod_lt m _ _ _ hm
  obtain ⟨fu1, hf1⟩ := h1
  have hf1' : DataW.trod enc Tryz.prog W 0 (fun _ => true) true fu1 25 c1.toList = some (d1, p1) := hf1
  obtain ⟨u1_0, u1_1, u1_2, y1_0, y1_1, y1_2, hc1, ⟨g1_0, w1_0⟩, ⟨g1_1, w1_1⟩, ⟨g1_2, w1_2⟩⟩ := Av.read_struct3 (.int .i64) (.int .i64) Av.ty23 Tryz.underlying25 ⟨⟨rfl, rfl⟩, rfl⟩ (by kernel_rfl) (by kernel_rfl) (by kernel_rfl) (by kernel_rfl) (by kernel_rfl) (by kernel_rfl) (by kernel_rfl) hf1'
  obtain ⟨a2, len2, cap2, rfl⟩ := okWide_slice Tryz.underlying22 (hval 2 22 v2 rfl rfl)
  have k2 := h2
  have lt2 : ∀ x ∈ p2, x.block < W.heap.size := by obtain ⟨m, hm⟩ := k2; exact DataW.trod_lt m _ _ _ hm
  obtain ⟨y2, hy2, w2⟩ : ∃ y : (Av.ty22).den, (Av.ty22).K (fun k => k < W.heap.size) W y [.slice a2 len2 cap2] ∧ (Av.ty22).wf y := by
    obtain ⟨fuel, hf⟩ := h2
    exact Av.read_ok Av.ty22 22 fuel _ _ (by kernel_rfl) hf
  obtain ⟨a3, len3, cap3, rfl⟩ := okWide_slice Tryz.underlying22 (hval 3 22 v3 rfl rfl)
  have k3 := h3
  have lt3 : ∀ x ∈ p3, x.block < W.heap.size := by obtain ⟨m, hm⟩ := k3; exact DataW.trod_lt m _ _ _ hm
  obtain ⟨y3, hy3, w3⟩ : ∃ y : (Av.ty22).den, (Av.ty22).K (fun k => k < W.heap.size) W y [.slice a3 len3 cap3] ∧ (Av.ty22).wf y := by
    obtain ⟨fuel, hf⟩ := h3
    exact Av.read_ok Av.ty22 22 fuel _ _ (by kernel_rfl) hf
  obtain ⟨a4, rfl, rfl, rfl, w4⟩ := open_int Tryz.underlying3 (hval 4 3 v4 rfl rfl) h4
  clear hA0 hval0 hsz0
  refine (Av.walk_gl (Av.sm7 y0 y1_0 y1_1 y1_2 y2 y3 a4 true (Av.plainWordTells y0 y1_0 y1_1 y1_2 y2 y3 a4 w0 w1_0 w1_1 w1_2 w2 w3 w4)) W #[.slice a0 len0 cap0, .agg c1, .slice a2 len2 cap2, .slice a3 len3 cap3, .int .i64 a4] (glr hL) (fun ρ => ⟨hy0, ⟨Av.avr_struct3 hc1 (List.cons.inj g1_0).1 (List.cons.inj g1_1).1 g1_2 (Av.Ty.K_one _ _ _ _ _ g1_0 u1_0 (List.mem_singleton_self _)) (Av.Ty.K_one _ _ _ _ _ g1_1 u1_1 (List.mem_singleton_self _)) (Av.Ty.K_one _ _ _ _ _ g1_2 u1_2 (List.mem_singleton_self _)), ⟨hy2, ⟨hy3, ⟨rfl, trivial⟩⟩⟩⟩⟩)).mono fun e W' ⟨he, bel⟩ => ?_
  subst he
  exact ⟨_, rfl, _, _, _, [], _, [], hW', trodAll_mk1 (shut_bool Tryz.underlying4 _), (trodAll_cons_mk (Below.trod laidOut (by kernel_rfl) (of_decide_eq_true (by kernel_rfl)) k0 bel lt0) (trodAll_cons_mk (Below.trod laidOut (by kernel_rfl) (of_decide_eq_true (by kernel_rfl)) k1 bel lt1) (trodAll_cons_mk (Below.trod laidOut (by kernel_rfl) (of_decide_eq_true (by kernel_rfl)) k2 bel lt2) (trodAll_cons_mk (Below.trod laidOut (by kernel_rfl) (of_decide_eq_true (by kernel_rfl)) k3 bel lt3) (trodAll_cons_mk (shut_int Tryz.underlying3 w4) trodAll_mk0))))), rfl, bel.frame _, fun h => by cases h⟩
theorem over : Rows.wordTellsRow.holds Tryz.pinned (OpenSpec.ofChange Rows.wordTellsSpec) :=
  OpenClaim.holds_of_wide 7 Tryz.f7 rfl rfl rfl rfl rfl rfl rfl ⟨rfl, rfl, rfl, rfl, rfl⟩ rfl rfl rfl rfl rfl (by kernel_rfl) Tryz.func7 (by kernel_rfl)
    (of_decide_eq_true (by kernel_rfl)) (by unfold Func.isWrapper; first | (rw [if_pos (by decide +kernel)]; kernel_rfl) | (rw [if_neg (by decide +kernel)]; exact ⟨rfl, rfl⟩))
    (fun os started H enc _ => lifted os started H enc)
theorem proved : Rows.WordTellsSaid := over
end Go.Proofs.YtccnmhdgghjgoaaGreatDoor.wordTells
namespace Go.Proofs.YtccnmhdgghjgoaaGreatDoor
/-- The card, under a short name, for the claim. -/
theorem wordTells_holds : Rows.WordTellsCardSaid :=
  Claim7.holds_tied_plain_at .later [] [.data, .data, .data] true (true, "de175b3018b22398997d14ee8aa9ce43b750c2e92a72d6b356071fb7dea13cec") false
    wordTells.proved (fun _ h => by cases h) (by kernel_rfl) (fun _ h => by cases h) wordTells_row_tie rfl ⟨rfl, rfl⟩ (by kernel_rfl) rfl
    (fun f fn hf hfn => by
      obtain rfl : f = 7 := Option.some.inj ((show Tryz.prog.funcNamed "lariat/lariatlaw16.WordTells" = some 7 by kernel_rfl).symm.trans hf) |>.symm
      obtain rfl : fn = Tryz.f7 := (Option.some.inj (Tryz.func7.symm.trans hfn)).symm
      exact ⟨by kernel_rfl, fun j t ht => by
        rw [Tryz.params7] at ht
        have hm : t ∈ [22, 25, 22, 22, 3] := by simpa using Array.mem_of_getElem? ht
        have hall : ([22, 25, 22, 22, 3].all fun u => !Tryz.prog.wantsStandIn u) = true := by kernel_rfl
        exact (show Tryz.prog.wantsStandIn t = false by simpa using List.all_eq_true.1 hall t hm)⟩)
    (by kernel_rfl)
end Go.Proofs.YtccnmhdgghjgoaaGreatDoor
