/- The statement Rows.FnExactMiddleOfSaid is proved: for every argument the law returns true and its arguments read as before. No conditions. -/
import Derived.Test.YtecnjkhncdjebaaRows
import Derived.Test.YtecnjkhncdjebaaLaw
import Derived.Test.YtecnjkhncdjebaaC1
import Derived.Test.YtecnjkhncdjebaaC2
import Derived.Test.YtecnjkhncdjebaaE1
import Derived.WalkKit
import Derived.ProofKit
import Derived.OpenShut
import Derived.WalkLawsBesides
import Derived.BigQuiet
import Derived.Deep.QuietTactic
namespace Go.Proofs.Ytecnjkhncdjebaa
open Go.ChangeShapes Go.WideShapes Go.ChangeAt Go.RowKit
set_option linter.unusedVariables false
set_option linter.unusedSimpArgs false
def L_FnExactMiddleOf (aP : Place) : Bool :=
  let t_1 := (S_MiddleOf (L_toPlace aP))
  let w0_2 := t_1.1
  let w1_3 := t_1.2.1
  let w2_4 := t_1.2.2
  let t_5 := (I_MiddleOf (L_toPlace aP))
  let g0_6 := t_5.1
  let g1_7 := t_5.2.1
  let g2_8 := t_5.2.2
  if (((g0_6 != w0_2) || (g1_7 != w1_3)) || (g2_8 != w2_4)) then
    false
  else
    true
theorem walk_FnExactMiddleOf (aP_X_Low : Int) (aP_X_High : Int) (aP_Y_Low : Int) (aP_Y_High : Int) (w : World)  : Calls Try.prog 5 #[.agg #[.int .i64 aP_X_Low, .int .i64 aP_X_High, .int .i64 aP_Y_Low, .int .i64 aP_Y_High]] w fun e w' => e = .returned (.bool ((L_FnExactMiddleOf (⟨(⟨aP_X_Low, aP_X_High⟩ : Interval), (⟨aP_Y_Low, aP_Y_High⟩ : Interval)⟩ : Place)))) ∧ Q w w' := by
  have hset := setRule
  have hall := allocRule
  have halm := allocMark
  have hw64 := wrapRule
  go_enter Try.func5, Try.ntmps5
  go_wp2_with (first | (go_at_call 22; refine (c_S_MiddleOf _ _ _ _ _ ).mono ?_; rintro e w1 ⟨rfl, hq⟩; obtain ⟨hc, hf⟩ := hq.rules; have hs := hq.le; try simp at hs) | (go_at_call 23; refine (c_L_toPlace _ _ _ _ _ ).mono ?_; rintro e w1 ⟨rfl, hq⟩; obtain ⟨hc, hf⟩ := hq.rules; have hs := hq.le; try simp at hs) | (go_at_call 24; refine (c_I_MiddleOf _ _ _ _ _ ).mono ?_; rintro e w1 ⟨rfl, hq⟩; obtain ⟨hc, hf⟩ := hq.rules; have hs := hq.le; try simp at hs))
  all_goals go_ret
  all_goals refine ⟨?_, (by (repeat (first | (with_reducible exact Q.refl _) | (with_reducible assumption) | (with_reducible refine Q.setCell ?_ (by dsimp only; omega) _) | (with_reducible refine Q.alloc ?_ _) | (with_reducible refine Q.drew ?_) | (with_reducible refine Q.call ?_ (by with_reducible assumption)))))⟩
  all_goals first | (simp [L_FnExactMiddleOf, *]; done) | (simp [L_FnExactMiddleOf, *]; omega) | (simp [L_FnExactMiddleOf, *]; simp (disch := omega) only [if_pos, if_neg]; done) | (simp_all [L_FnExactMiddleOf]; done) | (simp_all [L_FnExactMiddleOf]; omega)
theorem true_FnExactMiddleOf (aP : Place) : L_FnExactMiddleOf aP = true := by
  simp [L_FnExactMiddleOf, eq_MiddleOf]
namespace lawFnExactMiddleOf
set_option maxRecDepth 100000 in
theorem lifted (os : Os) (started : os.Started) (H : Type) (enc : TypeId × Value → H) :
    ReturnsInHanded {} Try.checked os 5 .any (Rows.fnExactMiddleOfSpec.pre6 enc Try.prog Try.f5 Rows.fnExactMiddleOfRow.domain false) (Rows.fnExactMiddleOfSpec.post enc Try.prog Try.f5 false true false false) := by
  refine returnsInHanded_of_change (C := Try.checked) own started (by kernel_rfl) Try.func5
    (ChangeSpec.witness6 (enc := enc) (C := Try.checked) false ⟨#[], #[.agg #[.int .i64 0, .int .i64 0, .int .i64 0, .int .i64 0]], []⟩ 8 (by kernel_rfl) (by kernel_rfl) (by kernel_rfl) (by kernel_rfl)) ?_
  intro W base args ds gs before hval0 hW hcnd _
  have hval : ∀ (j : Nat) t v, Try.f5.params[j]? = some t → args[j]? = some v → Value.okWide Try.prog W .any base t v := hval0
  have hW' := hW
  obtain ⟨p, q, hA0, hV, rfl, hfz, hnd⟩ := hW
  have hA : DataW.TrodAll enc Try.prog W 0 (fun _ => true) true Try.f5.params.toList args.toList ds p := hA0
  rw [Try.params5] at hA hval
  obtain ⟨v0, vs0, d0, ds0, p0, q0, hargs, rfl, rfl, h0, r0⟩ := trodAll_cons hA
  obtain ⟨rfl, rfl, rfl⟩ := trodAll_nil r0
  obtain rfl : args = #[v0] := by cases args; simp_all
  obtain ⟨rfl, rfl⟩ := trodVars_none hV
  obtain ⟨zs0, hz0, rfl⟩ := open_cells (m := 4) (u := 2) Try.underlying40 (by kernel_rfl) Try.underlying2 (by kernel_rfl) (hval 0 40 v0 rfl rfl)
  obtain ⟨aP_X_Low, aP_X_High, aP_Y_Low, aP_Y_High, rfl⟩ := list4 hz0
  refine (walk_FnExactMiddleOf aP_X_Low aP_X_High aP_Y_Low aP_Y_High W).mono fun e W' ⟨he, hq⟩ => ?_
  rw [true_FnExactMiddleOf] at he
  subst he
  exact ⟨_, rfl, _, _, _, [], _, [], hW', trodAll_cons_mk (shut_bool Try.underlying4 _) trodAll_mk0,
    all_stay laidOut hq (by rw [Try.params5]; intro t ht; simp only [Array.toList, List.mem_cons, List.not_mem_nil, or_false] at ht; rcases ht with rfl <;> exact ⟨by kernel_rfl, of_decide_eq_true (by kernel_rfl)⟩) hA0,
    rfl, Below.frame hq _, fun h => by cases h⟩
theorem over : Rows.fnExactMiddleOfRow.holds Try.pinned (OpenSpec.ofChange Rows.fnExactMiddleOfSpec) :=
  OpenClaim.holds_of_wide 5 Try.f5 rfl rfl rfl rfl rfl rfl rfl ⟨rfl, rfl, rfl, rfl, rfl⟩ rfl rfl rfl rfl rfl (by kernel_rfl) Try.func5 (by kernel_rfl)
    (of_decide_eq_true (by kernel_rfl)) (by unfold Func.isWrapper; first | (rw [if_pos (by decide +kernel)]; kernel_rfl) | (rw [if_neg (by decide +kernel)]; exact ⟨rfl, rfl⟩))
    (fun os started H enc _ => lifted os started H enc)
theorem proved : Rows.FnExactMiddleOfSaid :=
  over
#print axioms proved
end lawFnExactMiddleOf
end Go.Proofs.Ytecnjkhncdjebaa
