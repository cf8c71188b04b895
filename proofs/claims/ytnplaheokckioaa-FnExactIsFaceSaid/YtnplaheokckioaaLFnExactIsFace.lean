/- The statement Rows.FnExactIsFaceSaid is proved: for every argument the law returns true and its arguments read as before. No conditions. -/
import Derived.Test.YtnplaheokckioaaRows
import Derived.Test.YtnplaheokckioaaLaw
import Derived.Test.YtnplaheokckioaaC1
import Derived.Test.YtnplaheokckioaaC2
import Derived.Test.YtnplaheokckioaaE1
import Derived.WalkKit
import Derived.ProofKit
import Derived.OpenShut
import Derived.WalkLawsBesides
import Derived.BigQuiet
import Derived.Deep.QuietTactic
namespace Go.Proofs.Ytnplaheokckioaa
open Go.ChangeShapes Go.WideShapes Go.ChangeAt Go.RowKit
set_option linter.unusedVariables false
set_option linter.unusedSimpArgs false
def L_FnExactIsFace (aF : Face) : Bool :=
  let w0_1 := (S_IsFace (L_toFace aF))
  let g0_2 := (I_IsFace (L_toFace aF))
  if (g0_2 != w0_1) then
    false
  else
    true
theorem walk_FnExactIsFace (aF_Left : Int) (aF_Bottom : Int) (aF_Right : Int) (aF_Top : Int) (w : World)  : Calls Try.prog 8 #[.agg #[.int .i64 aF_Left, .int .i64 aF_Bottom, .int .i64 aF_Right, .int .i64 aF_Top]] w fun e w' => e = .returned (.bool ((L_FnExactIsFace (⟨aF_Left, aF_Bottom, aF_Right, aF_Top⟩ : Face)))) ∧ Q w w' := by
  have hset := setRule
  go_enter Try.func8, Try.ntmps8
  go_wp2_with (first | (go_at_call 28; refine (c_S_IsFace _ _ _ _ _ ).mono ?_; rintro e w1 ⟨rfl, hq⟩; obtain ⟨hc, hf⟩ := hq.rules; have hs := hq.le; try simp at hs) | (go_at_call 29; refine (c_L_toFace _ _ _ _ _ ).mono ?_; rintro e w1 ⟨rfl, hq⟩; obtain ⟨hc, hf⟩ := hq.rules; have hs := hq.le; try simp at hs) | (go_at_call 30; refine (c_I_IsFace _ _ _ _ _ ).mono ?_; rintro e w1 ⟨rfl, hq⟩; obtain ⟨hc, hf⟩ := hq.rules; have hs := hq.le; try simp at hs))
  all_goals go_ret
  all_goals refine ⟨?_, (by (repeat (first | (with_reducible exact Q.refl _) | (with_reducible assumption) | (with_reducible refine Q.setCell ?_ (by dsimp only; omega) _) | (with_reducible refine Q.alloc ?_ _) | (with_reducible refine Q.drew ?_) | (with_reducible refine Q.call ?_ (by with_reducible assumption)))))⟩
  all_goals first | (simp [L_FnExactIsFace, *]; done) | (simp [L_FnExactIsFace, *]; omega) | (simp_all [L_FnExactIsFace]; done) | (simp_all [L_FnExactIsFace]; omega)
theorem true_FnExactIsFace (aF : Face) : L_FnExactIsFace aF = true := by
  simp [L_FnExactIsFace, eq_IsFace]
namespace lawFnExactIsFace
set_option maxRecDepth 100000 in
theorem lifted (os : Os) (started : os.Started) (H : Type) (enc : TypeId × Value → H) :
    ReturnsInHanded {} Try.checked os 8 .any (Rows.fnExactIsFaceSpec.pre6 enc Try.prog Try.f8 Rows.fnExactIsFaceRow.domain false) (Rows.fnExactIsFaceSpec.post enc Try.prog Try.f8 false true false false) := by
  refine returnsInHanded_of_change (C := Try.checked) own started (by kernel_rfl) Try.func8
    (ChangeSpec.witness6 (enc := enc) (C := Try.checked) false ⟨#[], #[.agg #[.int .i64 0, .int .i64 0, .int .i64 0, .int .i64 0]], []⟩ 8 (by kernel_rfl) (by kernel_rfl) (by kernel_rfl) (by kernel_rfl)) ?_
  intro W base args ds gs before hval0 hW hcnd _
  have hval : ∀ (j : Nat) t v, Try.f8.params[j]? = some t → args[j]? = some v → Value.okWide Try.prog W .any base t v := hval0
  have hW' := hW
  obtain ⟨p, q, hA0, hV, rfl, hfz, hnd⟩ := hW
  have hA : DataW.TrodAll enc Try.prog W 0 (fun _ => true) true Try.f8.params.toList args.toList ds p := hA0
  rw [Try.params8] at hA hval
  obtain ⟨v0, vs0, d0, ds0, p0, q0, hargs, rfl, rfl, h0, r0⟩ := trodAll_cons hA
  obtain ⟨rfl, rfl, rfl⟩ := trodAll_nil r0
  obtain rfl : args = #[v0] := by cases args; simp_all
  obtain ⟨rfl, rfl⟩ := trodVars_none hV
  obtain ⟨zs0, hz0, rfl⟩ := open_cells (m := 4) (u := 2) Try.underlying45 (by kernel_rfl) Try.underlying2 (by kernel_rfl) (hval 0 45 v0 rfl rfl)
  obtain ⟨aF_Left, aF_Bottom, aF_Right, aF_Top, rfl⟩ := list4 hz0
  refine (walk_FnExactIsFace aF_Left aF_Bottom aF_Right aF_Top W).mono fun e W' ⟨he, hq⟩ => ?_
  rw [true_FnExactIsFace] at he
  subst he
  exact ⟨_, rfl, _, _, _, [], _, [], hW', trodAll_cons_mk (shut_bool Try.underlying4 _) trodAll_mk0,
    all_stay laidOut hq (by rw [Try.params8]; intro t ht; simp only [Array.toList, List.mem_cons, List.not_mem_nil, or_false] at ht; rcases ht with rfl <;> exact ⟨by kernel_rfl, of_decide_eq_true (by kernel_rfl)⟩) hA0,
    rfl, Below.frame hq _, fun h => by cases h⟩
theorem over : Rows.fnExactIsFaceRow.holds Try.pinned (OpenSpec.ofChange Rows.fnExactIsFaceSpec) :=
  OpenClaim.holds_of_wide 8 Try.f8 rfl rfl rfl rfl rfl rfl rfl ⟨rfl, rfl, rfl, rfl, rfl⟩ rfl rfl rfl rfl rfl (by kernel_rfl) Try.func8 (by kernel_rfl)
    (of_decide_eq_true (by kernel_rfl)) (by unfold Func.isWrapper; first | (rw [if_pos (by decide +kernel)]; kernel_rfl) | (rw [if_neg (by decide +kernel)]; exact ⟨rfl, rfl⟩))
    (fun os started H enc _ => lifted os started H enc)
theorem proved : Rows.FnExactIsFaceSaid :=
  over
#print axioms proved
end lawFnExactIsFace
end Go.Proofs.Ytnplaheokckioaa
