/- The statement Rows.FnExactEquationOfTimeSaid is proved: for every argument the law returns true and its arguments read as before. No conditions. -/
import Derived.Test.YtlckpdagejbchaaRows
import Derived.Test.YtlckpdagejbchaaLaw
import Derived.Test.YtlckpdagejbchaaC1
import Derived.Test.YtlckpdagejbchaaC2
import Derived.Test.YtlckpdagejbchaaC3
import Derived.Test.YtlckpdagejbchaaC4
import Derived.Test.YtlckpdagejbchaaC5
import Derived.Test.YtlckpdagejbchaaE1
import Derived.Test.YtlckpdagejbchaaE2
import Derived.Test.YtlckpdagejbchaaE3
import Derived.Test.YtlckpdagejbchaaE4
import Derived.Test.YtlckpdagejbchaaE5
import Derived.WalkKit
import Derived.ProofKit
import Derived.OpenShut
import Derived.WalkLawsBesides
import Derived.BigQuiet
import Derived.Deep.QuietTactic
import Derived.Deep.LoopGhost
import Derived.LoopN
namespace Go.Proofs.Ytlckpdagejbchaa
open Go.ChangeShapes Go.WideShapes Go.ChangeAt Go.RowKit
set_option linter.unusedVariables false
set_option linter.unusedSimpArgs false
def L_FnExactEquationOfTime (aN : Int) : Bool :=
  let t_1 := (S_EquationOfTime aN)
  let w0_2 := t_1.1
  let w1_3 := t_1.2
  let t_4 := (I_EquationOfTime aN)
  let g0_5 := t_4.1
  let g1_6 := t_4.2
  if ((!(L_eqInterval g0_5 w0_2)) || (g1_6 != w1_3)) then
    false
  else
    true
theorem walk_FnExactEquationOfTime (aN : Int) (w : World)  : Calls Try.prog 11 #[.int .i64 aN] w fun e w' => e = .returned (.bool ((L_FnExactEquationOfTime aN))) ∧ Q w w' := by
  have hset := setRule
  have hall := allocRule
  have halm := allocMark
  have hw64 := wrapRule
  go_enter Try.func11, Try.ntmps11
  go_wp2_with (first | (go_at_call 35; refine (c_S_EquationOfTime _ _ ).mono ?_; rintro e w1 ⟨rfl, hq⟩; obtain ⟨hc, hf⟩ := hq.rules; have hs := hq.le; try simp at hs) | (go_at_call 36; refine (c_I_EquationOfTime _ _ ).mono ?_; rintro e w1 ⟨rfl, hq⟩; obtain ⟨hc, hf⟩ := hq.rules; have hs := hq.le; try simp at hs) | (go_at_call 32; refine (c_L_eqInterval _ _ _ _ _ ).mono ?_; rintro e w1 ⟨rfl, hq⟩; obtain ⟨hc, hf⟩ := hq.rules; have hs := hq.le; try simp at hs))
  all_goals go_ret
  all_goals refine ⟨?_, (by (repeat (first | (with_reducible exact Q.refl _) | (with_reducible assumption) | (with_reducible refine Q.setCell ?_ (by dsimp only; omega) _) | (with_reducible refine Q.alloc ?_ _) | (with_reducible refine Q.drew ?_) | (with_reducible refine Q.call ?_ (by with_reducible assumption)))))⟩
  all_goals first | (simp [L_FnExactEquationOfTime, *]; done) | (simp [L_FnExactEquationOfTime, *]; omega) | (simp [L_FnExactEquationOfTime, *]; simp (disch := omega) only [if_pos, if_neg]; done) | (simp_all [L_FnExactEquationOfTime]; done) | (simp_all [L_FnExactEquationOfTime]; omega)
theorem true_FnExactEquationOfTime (aN : Int) : L_FnExactEquationOfTime aN = true := by
  simp [L_FnExactEquationOfTime, eq_EquationOfTime, eqInterval_refl]
namespace lawFnExactEquationOfTime
set_option maxRecDepth 100000 in
theorem lifted (os : Os) (started : os.Started) (H : Type) (enc : TypeId × Value → H) :
    ReturnsInHanded {} Try.checked os 11 .any (Rows.fnExactEquationOfTimeSpec.pre6 enc Try.prog Try.f11 Rows.fnExactEquationOfTimeRow.domain false) (Rows.fnExactEquationOfTimeSpec.post enc Try.prog Try.f11 false true false false) := by
  refine returnsInHanded_of_change (C := Try.checked) own started (by kernel_rfl) Try.func11
    (ChangeSpec.witness6 (enc := enc) (C := Try.checked) false ⟨#[], #[.int .i64 0], []⟩ 8 (by kernel_rfl) (by kernel_rfl) (by kernel_rfl) (by kernel_rfl)) ?_
  intro W base args ds gs before hval0 hW hcnd _
  have hval : ∀ (j : Nat) t v, Try.f11.params[j]? = some t → args[j]? = some v → Value.okWide Try.prog W .any base t v := hval0
  have hW' := hW
  obtain ⟨p, q, hA0, hV, rfl, hfz, hnd⟩ := hW
  have hA : DataW.TrodAll enc Try.prog W 0 (fun _ => true) true Try.f11.params.toList args.toList ds p := hA0
  rw [Try.params11] at hA hval
  obtain ⟨v0, vs0, d0, ds0, p0, q0, hargs, rfl, rfl, h0, r0⟩ := trodAll_cons hA
  obtain ⟨rfl, rfl, rfl⟩ := trodAll_nil r0
  obtain rfl : args = #[v0] := by cases args; simp_all
  obtain ⟨rfl, rfl⟩ := trodVars_none hV
  obtain ⟨aN, rfl, _, _, _⟩ := open_int Try.underlying2 (hval 0 2 v0 rfl rfl) h0
  refine (walk_FnExactEquationOfTime aN W).mono fun e W' ⟨he, hq⟩ => ?_
  rw [true_FnExactEquationOfTime] at he
  subst he
  exact ⟨_, rfl, _, _, _, [], _, [], hW', trodAll_cons_mk (shut_bool Try.underlying4 _) trodAll_mk0,
    all_stay laidOut hq (by rw [Try.params11]; intro t ht; simp only [Array.toList, List.mem_cons, List.not_mem_nil, or_false] at ht; rcases ht with rfl <;> exact ⟨by kernel_rfl, of_decide_eq_true (by kernel_rfl)⟩) hA0,
    rfl, Below.frame hq _, fun h => by cases h⟩
theorem over : Rows.fnExactEquationOfTimeRow.holds Try.pinned (OpenSpec.ofChange Rows.fnExactEquationOfTimeSpec) :=
  OpenClaim.holds_of_wide 11 Try.f11 rfl rfl rfl rfl rfl rfl rfl ⟨rfl, rfl, rfl, rfl, rfl⟩ rfl rfl rfl rfl rfl (by kernel_rfl) Try.func11 (by kernel_rfl)
    (of_decide_eq_true (by kernel_rfl)) (by unfold Func.isWrapper; first | (rw [if_pos (by decide +kernel)]; kernel_rfl) | (rw [if_neg (by decide +kernel)]; exact ⟨rfl, rfl⟩))
    (fun os started H enc _ => lifted os started H enc)
theorem proved : Rows.FnExactEquationOfTimeSaid :=
  over
#print axioms proved
end lawFnExactEquationOfTime
end Go.Proofs.Ytlckpdagejbchaa
