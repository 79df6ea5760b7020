/- The law TableauTells is true. Conditions: none. -/
import Derived.Test.YtccnmhdgghjgoaaGreatDoorRows
import Derived.Test.YtccnmhdgghjgoaaGreatDoorPTableauTells
import Derived.Test.YtccnmhdgghjgoaaGreatDoorRead
import Derived.Test.YtccnmhdgghjgoaaGreatDoorGl
import Derived.Test.YtccnmhdgghjgoaaGreatDoorCards
import Derived.Test.YtccnmhdgghjgoaaGreatDoorTie
import Derived.WalkKit
import Derived.ProofKit
import Derived.OpenShut
import Derived.ShutString
import Derived.ChangeOld
import Derived.Below
import Derived.SizedLaws
import Derived.LaidMore
import Derived.Stop.Joined
import Derived.SevenTiedAt
namespace Go.Proofs.YtccnmhdgghjgoaaGreatDoor.tableauTells
open Go.ChangeShapes Go.WideShapes Go.ChangeAt Go.RowKit
open Go.ChangeMaps (open_string shut_string)
set_option linter.unusedVariables false
theorem own : ownKnob Tryz.prog.godebug = none := by kernel_rfl
theorem laidOut : laidOutB Tryz.prog = true := by kernel_rfl
def laidL : List (String × DataW Unit) := [("lariat/lariathand.vars", Rows.laid_lariat_lariathand_vars), ("lariat/lariathand.procs", Rows.laid_lariat_lariathand_procs), ("lariat/lariathand.locs", Rows.laid_lariat_lariathand_locs)]
theorem door_met (os : Os) (args : Array Value) : laidMetH Tryz.prog laidL ((World.doorLaid Tryz.prog 400 os).forCall (fun _ _ => 0) ⟨#[], args, []⟩).memory :=
  laidMetH_of_parts3 (fuel := 8) (laidMet_of_run' 8 (by kernel_rfl) (by kernel_rfl)) (by kernel_rfl) (by kernel_rfl)
theorem glr {W : World} (h : laidMetH Tryz.prog laidL W) : Av.GlR (fun k => k < W.heap.size) W Av.gl0 := by
  rw [MakeChecks.laidMetH_plain _ _ _ (by kernel_rfl)] at h
  refine Av.glr_of (l := Av.glL) fun p hp => ?_
  simp only [Av.glL, List.mem_cons, List.not_mem_nil, or_false] at hp
  rcases hp with rfl | rfl | rfl
  · exact Av.gl_str h (n := "lariat/lariathand.vars") (d := Rows.laid_lariat_lariathand_vars) (ss := [[120], [121], [122]]) (g := 0) (t := 140) (m := 3) (e := 9) (by unfold laidL; exact List.mem_cons_self ..) rfl (by kernel_rfl) (by kernel_rfl) (by kernel_rfl) (by kernel_rfl) (by kernel_rfl) (by kernel_rfl)
  · exact Av.gl_str h (n := "lariat/lariathand.procs") (d := Rows.laid_lariat_lariathand_procs) (ss := [[112], [113], [114]]) (g := 1) (t := 140) (m := 3) (e := 9) (by unfold laidL; exact List.mem_cons_of_mem _ (List.mem_cons_self ..)) rfl (by kernel_rfl) (by kernel_rfl) (by kernel_rfl) (by kernel_rfl) (by kernel_rfl) (by kernel_rfl)
  · exact Av.gl_str h (n := "lariat/lariathand.locs") (d := Rows.laid_lariat_lariathand_locs) (ss := [[97], [98], [99], [100]]) (g := 2) (t := 186) (m := 4) (e := 9) (by unfold laidL; exact List.mem_cons_of_mem _ (List.mem_cons_of_mem _ (List.mem_cons_self ..))) rfl (by kernel_rfl) (by kernel_rfl) (by kernel_rfl) (by kernel_rfl) (by kernel_rfl) (by kernel_rfl)
set_option maxRecDepth 100000 in
theorem lifted (os : Os) (started : os.Started) (H : Type) (enc : TypeId × Value → H) :
    ReturnsInHanded {} Tryz.checked os 4 .any (fun w args => (Rows.tableauTellsSpec.pre enc Tryz.prog Tryz.f4 [] false w args ∧ laidMetH Tryz.prog laidL w) ∧ sizedMet enc Tryz.prog Tryz.f4 (OpenSpec.ofChange Rows.tableauTellsSpec) false w args)
      (Rows.tableauTellsSpec.post enc Tryz.prog Tryz.f4 false true false false) := by
  refine returnsInHanded_of_change_and (C := Tryz.checked) (X := fun w _ => laidMetH Tryz.prog laidL w) (fun _ _ _ hh h => h.of_heap hh) own started (by kernel_rfl) Tryz.func4
    (ChangeSpec.witness_shaped (enc := enc) (C := Tryz.checked) (os := os) (X := fun w _ => laidMetH Tryz.prog laidL w) false (World.doorLaid Tryz.prog 400 os) #[.slice none 0 0, .bool false, .agg #[.int .i64 0, .int .i64 0, .slice none 0 0], .int .i64 0, .int .i64 0, .int .i64 0, .int .i64 0] 8 rfl (World.shaped_of_RefB (by kernel_rfl) (by kernel_rfl)) (by kernel_rfl) (by kernel_rfl) (by kernel_rfl) (door_met os _)) ?_
  intro W base args ds gs before hval0 hW hcnd hsz0 hL _
  have hval : ∀ (j : Nat) t v, Tryz.f4.params[j]? = some t → args[j]? = some v → Value.okWide Tryz.prog W .any base t v := hval0
  have hW' := hW
  obtain ⟨p, q, hA0, hV, rfl, hfz, hnd⟩ := hW
  have hA : DataW.TrodAll enc Tryz.prog W 0 (fun _ => true) true Tryz.f4.params.toList args.toList ds p := hA0
  rw [Tryz.params4] at hA
  obtain ⟨v0, vs0, d0, ds0, p0, q0, hargs, rfl, rfl, h0, r0⟩ := trodAll_cons hA
  obtain ⟨v1, vs1, d1, ds1, p1, q1, rfl, rfl, rfl, h1, r1⟩ := trodAll_cons r0
  obtain ⟨v2, vs2, d2, ds2, p2, q2, rfl, rfl, rfl, h2, r2⟩ := trodAll_cons r1
  obtain ⟨v3, vs3, d3, ds3, p3, q3, rfl, rfl, rfl, h3, r3⟩ := trodAll_cons r2
  obtain ⟨v4, vs4, d4, ds4, p4, q4, rfl, rfl, rfl, h4, r4⟩ := trodAll_cons r3
  obtain ⟨v5, vs5, d5, ds5, p5, q5, rfl, rfl, rfl, h5, r5⟩ := trodAll_cons r4
  obtain ⟨v6, vs6, d6, ds6, p6, q6, rfl, rfl, rfl, h6, r6⟩ := trodAll_cons r5
  obtain ⟨rfl, rfl, rfl⟩ := trodAll_nil r6
  obtain rfl : args = #[v0, v1, v2, v3, v4, v5, v6] := by cases args; simp_all
  obtain ⟨rfl, rfl⟩ := trodVars_none hV
  obtain ⟨a0, len0, cap0, rfl⟩ := okWide_slice Tryz.underlying22 (hval 0 22 v0 rfl rfl)
  have k0 := h0
  have lt0 : ∀ x ∈ p0, x.block < W.heap.size := by obtain ⟨m, hm⟩ := k0; exact DataW.trod_lt m _ _ _ hm
  obtain ⟨y0, hy0, w0⟩ : ∃ y : (Av.ty22).den, (Av.ty22).K (fun k => k < W.heap.size) W y [.slice a0 len0 cap0] ∧ (Av.ty22).wf y := by
    obtain ⟨fuel, hf⟩ := h0
    exact Av.read_ok Av.ty22 22 fuel _ _ (by kernel_rfl) hf
  obtain ⟨a1, rfl, rfl, rfl⟩ := open_bool Tryz.underlying4 (hval 1 4 v1 rfl rfl) h1
  obtain ⟨c2, rfl, _⟩ := okWide_struct Tryz.underlying25 (hval 2 25 v2 rfl rfl)
  have k2 := h2
  have lt2 : ∀ x ∈ p2, x.block < W.heap.size := by obtain ⟨m, hm⟩ := k2; exact DataW.trod_lt m _ _ _ hm
  obtain ⟨fu2, hf2⟩ := h2
  have hf2' : DataW.trod enc Tryz.prog W 0 (fun _ => true) true fu2 25 c2.toList = some (d2, p2) := hf2
  obtain ⟨u2_0, u2_1, u2_2, y2_0, y2_1, y2_2, hc2, ⟨g2_0, w2_0⟩, ⟨g2_1, w2_1⟩, ⟨g2_2, w2_2⟩⟩ := Av.read_struct3 (.int .i64) (.int .i64) Av.ty23 Tryz.underlying25 ⟨⟨rfl, rfl⟩, rfl⟩ (by kernel_rfl) (by kernel_rfl) (by kernel_rfl) (by kernel_rfl) (by kernel_rfl) (by kernel_rfl) (by kernel_rfl) hf2'
  obtain ⟨a3, rfl, rfl, rfl, w3⟩ := open_int Tryz.underlying3 (hval 3 3 v3 rfl rfl) h3
  obtain ⟨a4, rfl, rfl, rfl, w4⟩ := open_int Tryz.underlying3 (hval 4 3 v4 rfl rfl) h4
  obtain ⟨a5, rfl, rfl, rfl, w5⟩ := open_int Tryz.underlying3 (hval 5 3 v5 rfl rfl) h5
  obtain ⟨a6, rfl, rfl, rfl, w6⟩ := open_int Tryz.underlying3 (hval 6 3 v6 rfl rfl) h6
  clear hA0 hval0 hsz0
  refine (Av.walk_gl (Av.sm4 y0 a1 y2_0 y2_1 y2_2 a3 a4 a5 a6 true (Av.plainTableauTells y0 a1 y2_0 y2_1 y2_2 a3 a4 a5 a6 w0 trivial w2_0 w2_1 w2_2 w3 w4 w5 w6)) W #[.slice a0 len0 cap0, .bool a1, .agg c2, .int .i64 a3, .int .i64 a4, .int .i64 a5, .int .i64 a6] (glr hL) (fun ρ => ⟨hy0, ⟨rfl, ⟨Av.avr_struct3 hc2 (List.cons.inj g2_0).1 (List.cons.inj g2_1).1 g2_2 (Av.Ty.K_one _ _ _ _ _ g2_0 u2_0 (List.mem_singleton_self _)) (Av.Ty.K_one _ _ _ _ _ g2_1 u2_1 (List.mem_singleton_self _)) (Av.Ty.K_one _ _ _ _ _ g2_2 u2_2 (List.mem_singleton_self _)), ⟨rfl, ⟨rfl, ⟨rfl, ⟨rfl, trivial⟩⟩⟩⟩⟩⟩⟩)).mono fun e W' ⟨he, bel⟩ => ?_
  subst he
  exact ⟨_, rfl, _, _, _, [], _, [], hW', trodAll_mk1 (shut_bool Tryz.underlying4 _), (trodAll_cons_mk (Below.trod laidOut (by kernel_rfl) (of_decide_eq_true (by kernel_rfl)) k0 bel lt0) (trodAll_cons_mk (shut_bool Tryz.underlying4 _) (trodAll_cons_mk (Below.trod laidOut (by kernel_rfl) (of_decide_eq_true (by kernel_rfl)) k2 bel lt2) (trodAll_cons_mk (shut_int Tryz.underlying3 w3) (trodAll_cons_mk (shut_int Tryz.underlying3 w4) (trodAll_cons_mk (shut_int Tryz.underlying3 w5) (trodAll_cons_mk (shut_int Tryz.underlying3 w6) trodAll_mk0))))))), rfl, bel.frame _, fun h => by cases h⟩
theorem over : Rows.tableauTellsRow.holds Tryz.pinned (OpenSpec.ofChange Rows.tableauTellsSpec) :=
  OpenClaim.holds_of_wide 4 Tryz.f4 rfl rfl rfl rfl rfl rfl rfl ⟨rfl, rfl, rfl, rfl, rfl⟩ rfl rfl rfl rfl rfl (by kernel_rfl) Tryz.func4 (by kernel_rfl)
    (of_decide_eq_true (by kernel_rfl)) (by unfold Func.isWrapper; first | (rw [if_pos (by decide +kernel)]; kernel_rfl) | (rw [if_neg (by decide +kernel)]; exact ⟨rfl, rfl⟩))
    (fun os started H enc _ => lifted os started H enc)
theorem proved : Rows.TableauTellsSaid := over
end Go.Proofs.YtccnmhdgghjgoaaGreatDoor.tableauTells
namespace Go.Proofs.YtccnmhdgghjgoaaGreatDoor
/-- The card, under a short name, for the claim. -/
theorem tableauTells_holds : Rows.TableauTellsCardSaid :=
  Claim7.holds_tied_plain_at .later [] [.data, .data, .data] true (true, "de175b3018b22398997d14ee8aa9ce43b750c2e92a72d6b356071fb7dea13cec") false
    tableauTells.proved (fun _ h => by cases h) (by kernel_rfl) (fun _ h => by cases h) tableauTells_row_tie rfl ⟨rfl, rfl⟩ (by kernel_rfl) rfl
    (fun f fn hf hfn => by
      obtain rfl : f = 4 := Option.some.inj ((show Tryz.prog.funcNamed "lariat/lariatlaw17.TableauTells" = some 4 by kernel_rfl).symm.trans hf) |>.symm
      obtain rfl : fn = Tryz.f4 := (Option.some.inj (Tryz.func4.symm.trans hfn)).symm
      exact ⟨by kernel_rfl, fun j t ht => by
        rw [Tryz.params4] at ht
        have hm : t ∈ [22, 4, 25, 3, 3, 3, 3] := by simpa using Array.mem_of_getElem? ht
        have hall : ([22, 4, 25, 3, 3, 3, 3].all fun u => !Tryz.prog.wantsStandIn u) = true := by kernel_rfl
        exact (show Tryz.prog.wantsStandIn t = false by simpa using List.all_eq_true.1 hall t hm)⟩)
    (by kernel_rfl)
end Go.Proofs.YtccnmhdgghjgoaaGreatDoor
