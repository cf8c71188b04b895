/- The statement Rows.FnExactOppositeWallSaid is proved: for every argument the law returns true and its arguments read as before. No conditions. -/
import Derived.Test.YtnplaheokckioaaRows
import Derived.Test.YtnplaheokckioaaLaw
import Derived.Test.YtnplaheokckioaaC1
import Derived.Test.YtnplaheokckioaaC2
import Derived.Test.YtnplaheokckioaaE1
import Derived.WalkKit
import Derived.ProofKit
import Derived.OpenShut
import Derived.WalkLawsBesides
import Derived.BigQuiet
import Derived.Deep.QuietTactic
namespace Go.Proofs.Ytnplaheokckioaa
open Go.ChangeShapes Go.WideShapes Go.ChangeAt Go.RowKit
set_option linter.unusedVariables false
set_option linter.unusedSimpArgs false
def L_FnExactOppositeWall (aW : Wall) : Bool :=
  let t_1 := (S_OppositeWall (L_toWall aW))
  let w0_2 := t_1.1
  let w1_3 := t_1.2
  let t_4 := (I_OppositeWall (L_toWall aW))
  let g0_5 := t_4.1
  let g1_6 := t_4.2
  if ((!(L_eqWall g0_5 w0_2)) || (g1_6 != w1_3)) then
    false
  else
    true
theorem walk_FnExactOppositeWall (aW_Azimuth : Int) (aW_Slope : Int) (w : World)  : Calls Try.prog 13 #[.agg #[.int .i64 aW_Azimuth, .int .i64 aW_Slope]] w fun e w' => e = .returned (.bool ((L_FnExactOppositeWall (⟨aW_Azimuth, aW_Slope⟩ : Wall)))) ∧ Q w w' := by
  have hset := setRule
  have hall := allocRule
  have halm := allocMark
  go_enter Try.func13, Try.ntmps13
  go_wp2_with (first | (go_at_call 42; refine (c_S_OppositeWall _ _ _ ).mono ?_; rintro e w1 ⟨rfl, hq⟩; obtain ⟨hc, hf⟩ := hq.rules; have hs := hq.le; try simp at hs) | (go_at_call 19; refine (c_L_toWall _ _ _ ).mono ?_; rintro e w1 ⟨rfl, hq⟩; obtain ⟨hc, hf⟩ := hq.rules; have hs := hq.le; try simp at hs) | (go_at_call 43; refine (c_I_OppositeWall _ _ _ ).mono ?_; rintro e w1 ⟨rfl, hq⟩; obtain ⟨hc, hf⟩ := hq.rules; have hs := hq.le; try simp at hs) | (go_at_call 44; refine (c_L_eqWall _ _ _ _ _ ).mono ?_; rintro e w1 ⟨rfl, hq⟩; obtain ⟨hc, hf⟩ := hq.rules; have hs := hq.le; try simp at hs))
  all_goals go_ret
  all_goals refine ⟨?_, (by (repeat (first | (with_reducible exact Q.refl _) | (with_reducible assumption) | (with_reducible refine Q.setCell ?_ (by dsimp only; omega) _) | (with_reducible refine Q.alloc ?_ _) | (with_reducible refine Q.drew ?_) | (with_reducible refine Q.call ?_ (by with_reducible assumption)))))⟩
  all_goals first | (simp [L_FnExactOppositeWall, *]; done) | (simp [L_FnExactOppositeWall, *]; omega) | (simp_all [L_FnExactOppositeWall]; done) | (simp_all [L_FnExactOppositeWall]; omega)
theorem true_FnExactOppositeWall (aW : Wall) : L_FnExactOppositeWall aW = true := by
  simp [L_FnExactOppositeWall, eq_OppositeWall, eqWall_refl]
namespace lawFnExactOppositeWall
set_option maxRecDepth 100000 in
theorem lifted (os : Os) (started : os.Started) (H : Type) (enc : TypeId × Value → H) :
    ReturnsInHanded {} Try.checked os 13 .any (Rows.fnExactOppositeWallSpec.pre6 enc Try.prog Try.f13 Rows.fnExactOppositeWallRow.domain false) (Rows.fnExactOppositeWallSpec.post enc Try.prog Try.f13 false true false false) := by
  refine returnsInHanded_of_change (C := Try.checked) own started (by kernel_rfl) Try.func13
    (ChangeSpec.witness6 (enc := enc) (C := Try.checked) false ⟨#[], #[.agg #[.int .i64 0, .int .i64 0]], []⟩ 8 (by kernel_rfl) (by kernel_rfl) (by kernel_rfl) (by kernel_rfl)) ?_
  intro W base args ds gs before hval0 hW hcnd _
  have hval : ∀ (j : Nat) t v, Try.f13.params[j]? = some t → args[j]? = some v → Value.okWide Try.prog W .any base t v := hval0
  have hW' := hW
  obtain ⟨p, q, hA0, hV, rfl, hfz, hnd⟩ := hW
  have hA : DataW.TrodAll enc Try.prog W 0 (fun _ => true) true Try.f13.params.toList args.toList ds p := hA0
  rw [Try.params13] at hA hval
  obtain ⟨v0, vs0, d0, ds0, p0, q0, hargs, rfl, rfl, h0, r0⟩ := trodAll_cons hA
  obtain ⟨rfl, rfl, rfl⟩ := trodAll_nil r0
  obtain rfl : args = #[v0] := by cases args; simp_all
  obtain ⟨rfl, rfl⟩ := trodVars_none hV
  obtain ⟨zs0, hz0, rfl⟩ := open_cells (m := 2) (u := 2) Try.underlying29 (by kernel_rfl) Try.underlying2 (by kernel_rfl) (hval 0 29 v0 rfl rfl)
  obtain ⟨aW_Azimuth, aW_Slope, rfl⟩ := list2 hz0
  refine (walk_FnExactOppositeWall aW_Azimuth aW_Slope W).mono fun e W' ⟨he, hq⟩ => ?_
  rw [true_FnExactOppositeWall] at he
  subst he
  exact ⟨_, rfl, _, _, _, [], _, [], hW', trodAll_cons_mk (shut_bool Try.underlying4 _) trodAll_mk0,
    all_stay laidOut hq (by rw [Try.params13]; intro t ht; simp only [Array.toList, List.mem_cons, List.not_mem_nil, or_false] at ht; rcases ht with rfl <;> exact ⟨by kernel_rfl, of_decide_eq_true (by kernel_rfl)⟩) hA0,
    rfl, Below.frame hq _, fun h => by cases h⟩
theorem over : Rows.fnExactOppositeWallRow.holds Try.pinned (OpenSpec.ofChange Rows.fnExactOppositeWallSpec) :=
  OpenClaim.holds_of_wide 13 Try.f13 rfl rfl rfl rfl rfl rfl rfl ⟨rfl, rfl, rfl, rfl, rfl⟩ rfl rfl rfl rfl rfl (by kernel_rfl) Try.func13 (by kernel_rfl)
    (of_decide_eq_true (by kernel_rfl)) (by unfold Func.isWrapper; first | (rw [if_pos (by decide +kernel)]; kernel_rfl) | (rw [if_neg (by decide +kernel)]; exact ⟨rfl, rfl⟩))
    (fun os started H enc _ => lifted os started H enc)
theorem proved : Rows.FnExactOppositeWallSaid :=
  over
#print axioms proved
end lawFnExactOppositeWall
end Go.Proofs.Ytnplaheokckioaa
