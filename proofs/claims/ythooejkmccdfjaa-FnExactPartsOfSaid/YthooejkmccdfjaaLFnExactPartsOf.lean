/- The statement Rows.FnExactPartsOfSaid is proved: for every argument the law returns true and its arguments read as before. No conditions. -/
import Derived.Test.YthooejkmccdfjaaRows
import Derived.Test.YthooejkmccdfjaaLaw
import Derived.Test.YthooejkmccdfjaaC1
import Derived.Test.YthooejkmccdfjaaC2
import Derived.Test.YthooejkmccdfjaaC3
import Derived.Test.YthooejkmccdfjaaC4
import Derived.Test.YthooejkmccdfjaaC5
import Derived.Test.YthooejkmccdfjaaC6
import Derived.Test.YthooejkmccdfjaaE1
import Derived.Test.YthooejkmccdfjaaE2
import Derived.Test.YthooejkmccdfjaaE3
import Derived.Test.YthooejkmccdfjaaE6
import Derived.Test.YthooejkmccdfjaaLFnExactPartsOfA
import Derived.Test.YthooejkmccdfjaaLFnExactPartsOfB
import Derived.Test.YthooejkmccdfjaaLFnExactPartsOfC
import Derived.Test.YthooejkmccdfjaaLFnExactPartsOfD
import Derived.WalkKit
import Derived.ProofKit
import Derived.OpenShut
import Derived.WalkLawsBesides
import Derived.BigQuiet
import Derived.Deep.QuietTactic
import Derived.Deep.LoopGhost
import Derived.LoopN
import Derived.Deep.RegionWith
import Derived.Deep.CutRange
import Derived.Test.YthooejkmccdfjaaOwn
namespace Go.Proofs.Ythooejkmccdfjaa
open Go.ChangeShapes Go.WideShapes Go.ChangeAt Go.RowKit
set_option linter.unusedVariables false
set_option linter.unusedSimpArgs false
theorem walk_FnExactPartsOf (aW_Azimuth : Int) (aW_Slope : Int) (aV_X_Low : Int) (aV_X_High : Int) (aV_Y_Low : Int) (aV_Y_High : Int) (aV_Z_Low : Int) (aV_Z_High : Int) (w : World)  : Calls Try.prog 7 #[.agg #[.int .i64 aW_Azimuth, .int .i64 aW_Slope], .agg #[.int .i64 aV_X_Low, .int .i64 aV_X_High, .int .i64 aV_Y_Low, .int .i64 aV_Y_High, .int .i64 aV_Z_Low, .int .i64 aV_Z_High]] w fun e w' => e = .returned (.bool true) ∧ Q w w' := by
  rcases Bool.eq_false_or_eq_true (S_IsWall (⟨aW_Azimuth, aW_Slope⟩ : Wall)) with h0 | h0
  · skip
    rcases Bool.eq_false_or_eq_true (S_IsVector (⟨⟨aV_X_Low, aV_X_High⟩, ⟨aV_Y_Low, aV_Y_High⟩, ⟨aV_Z_Low, aV_Z_High⟩⟩ : Vector)) with h1 | h1
    · skip
      exact walk2_FnExactPartsOf aW_Azimuth aW_Slope aV_X_Low aV_X_High aV_Y_Low aV_Y_High aV_Z_Low aV_Z_High w h0 h1
    · exact walk1_FnExactPartsOf aW_Azimuth aW_Slope aV_X_Low aV_X_High aV_Y_Low aV_Y_High aV_Z_Low aV_Z_High w h0 h1
  · exact walk0_FnExactPartsOf aW_Azimuth aW_Slope aV_X_Low aV_X_High aV_Y_Low aV_Y_High aV_Z_Low aV_Z_High w h0
namespace lawFnExactPartsOf
set_option maxRecDepth 100000 in
theorem lifted (os : Os) (started : os.Started) (H : Type) (enc : TypeId × Value → H) :
    ReturnsInHanded {} Try.checked os 7 .any (Rows.fnExactPartsOfSpec.pre6 enc Try.prog Try.f7 Rows.fnExactPartsOfRow.domain false) (Rows.fnExactPartsOfSpec.post enc Try.prog Try.f7 false true false false) := by
  refine returnsInHanded_of_change (C := Try.checked) own started (by kernel_rfl) Try.func7
    (ChangeSpec.witness6 (enc := enc) (C := Try.checked) false ⟨#[], #[.agg #[.int .i64 0, .int .i64 0], .agg #[.int .i64 0, .int .i64 0, .int .i64 0, .int .i64 0, .int .i64 0, .int .i64 0]], []⟩ 8 (by kernel_rfl) (by kernel_rfl) (by kernel_rfl) (by kernel_rfl)) ?_
  intro W base args ds gs before hval0 hW hcnd _
  have hval : ∀ (j : Nat) t v, Try.f7.params[j]? = some t → args[j]? = some v → Value.okWide Try.prog W .any base t v := hval0
  have hW' := hW
  obtain ⟨p, q, hA0, hV, rfl, hfz, hnd⟩ := hW
  have hA : DataW.TrodAll enc Try.prog W 0 (fun _ => true) true Try.f7.params.toList args.toList ds p := hA0
  rw [Try.params7] at hA hval
  obtain ⟨v0, vs0, d0, ds0, p0, q0, hargs, rfl, rfl, h0, r0⟩ := trodAll_cons hA
  obtain ⟨v1, vs1, d1, ds1, p1, q1, rfl, rfl, rfl, h1, r1⟩ := trodAll_cons r0
  obtain ⟨rfl, rfl, rfl⟩ := trodAll_nil r1
  obtain rfl : args = #[v0, v1] := by cases args; simp_all
  obtain ⟨rfl, rfl⟩ := trodVars_none hV
  obtain ⟨zs0, hz0, rfl⟩ := open_cells (m := 2) (u := 2) Try.underlying23 (by kernel_rfl) Try.underlying2 (by kernel_rfl) (hval 0 23 v0 rfl rfl)
  obtain ⟨aW_Azimuth, aW_Slope, rfl⟩ := list2 hz0
  obtain ⟨zs1, hz1, rfl⟩ := open_cells (m := 6) (u := 2) Try.underlying27 (by kernel_rfl) Try.underlying2 (by kernel_rfl) (hval 1 27 v1 rfl rfl)
  obtain ⟨aV_X_Low, aV_X_High, aV_Y_Low, aV_Y_High, aV_Z_Low, aV_Z_High, rfl⟩ := list6 hz1
  refine (walk_FnExactPartsOf aW_Azimuth aW_Slope aV_X_Low aV_X_High aV_Y_Low aV_Y_High aV_Z_Low aV_Z_High W).mono fun e W' ⟨he, hq⟩ => ?_
  subst he
  exact ⟨_, rfl, _, _, _, [], _, [], hW', trodAll_cons_mk (shut_bool Try.underlying4 _) trodAll_mk0,
    all_stay laidOut hq (by rw [Try.params7]; intro t ht; simp only [Array.toList, List.mem_cons, List.not_mem_nil, or_false] at ht; rcases ht with rfl | rfl <;> exact ⟨by kernel_rfl, of_decide_eq_true (by kernel_rfl)⟩) hA0,
    rfl, Below.frame hq _, fun h => by cases h⟩
theorem over : Rows.fnExactPartsOfRow.holds Try.pinned (OpenSpec.ofChange Rows.fnExactPartsOfSpec) :=
  OpenClaim.holds_of_wide 7 Try.f7 rfl rfl rfl rfl rfl rfl rfl ⟨rfl, rfl, rfl, rfl, rfl⟩ rfl rfl rfl rfl rfl (by kernel_rfl) Try.func7 (by kernel_rfl)
    (of_decide_eq_true (by kernel_rfl)) (by unfold Func.isWrapper; first | (rw [if_pos (by decide +kernel)]; kernel_rfl) | (rw [if_neg (by decide +kernel)]; exact ⟨rfl, rfl⟩))
    (fun os started H enc _ => lifted os started H enc)
theorem proved : Rows.FnExactPartsOfSaid :=
  over
#print axioms proved
end lawFnExactPartsOf
end Go.Proofs.Ythooejkmccdfjaa
