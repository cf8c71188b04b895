/- The statement Rows.FnExactNextLongitudeSaid is proved: for every argument the law returns true and its arguments read as before. No conditions. -/
import Derived.Test.YtlckpdagejbchaaRows
import Derived.Test.YtlckpdagejbchaaLaw
import Derived.Test.YtlckpdagejbchaaC1
import Derived.Test.YtlckpdagejbchaaC2
import Derived.Test.YtlckpdagejbchaaC3
import Derived.Test.YtlckpdagejbchaaC4
import Derived.Test.YtlckpdagejbchaaC5
import Derived.Test.YtlckpdagejbchaaE1
import Derived.Test.YtlckpdagejbchaaE2
import Derived.Test.YtlckpdagejbchaaE3
import Derived.Test.YtlckpdagejbchaaE4
import Derived.Test.YtlckpdagejbchaaE5
import Derived.WalkKit
import Derived.ProofKit
import Derived.OpenShut
import Derived.WalkLawsBesides
import Derived.BigQuiet
import Derived.Deep.QuietTactic
import Derived.Deep.LoopGhost
import Derived.LoopN
namespace Go.Proofs.Ytlckpdagejbchaa
open Go.ChangeShapes Go.WideShapes Go.ChangeAt Go.RowKit
set_option linter.unusedVariables false
set_option linter.unusedSimpArgs false
def L_FnExactNextLongitude (aN : Int) (aLongitude : Int) : Bool :=
  let t_1 := (S_NextLongitude aN aLongitude)
  let w0_2 := t_1.1
  let w1_3 := t_1.2
  let t_4 := (I_NextLongitude aN aLongitude)
  let g0_5 := t_4.1
  let g1_6 := t_4.2
  if ((g0_5 != w0_2) || (g1_6 != w1_3)) then
    false
  else
    true
theorem walk_FnExactNextLongitude (aN : Int) (aLongitude : Int) (w : World)  : Calls Try.prog 4 #[.int .i64 aN, .int .i64 aLongitude] w fun e w' => e = .returned (.bool ((L_FnExactNextLongitude aN aLongitude))) ∧ Q w w' := by
  have hset := setRule
  have hall := allocRule
  have halm := allocMark
  have hw64 := wrapRule
  go_enter Try.func4, Try.ntmps4
  go_wp2_with (first | (go_at_call 17; refine (c_S_NextLongitude _ _ _ ).mono ?_; rintro e w1 ⟨rfl, hq⟩; obtain ⟨hc, hf⟩ := hq.rules; have hs := hq.le; try simp at hs) | (go_at_call 18; refine (c_I_NextLongitude _ _ _ ).mono ?_; rintro e w1 ⟨rfl, hq⟩; obtain ⟨hc, hf⟩ := hq.rules; have hs := hq.le; try simp at hs))
  all_goals go_ret
  all_goals refine ⟨?_, (by (repeat (first | (with_reducible exact Q.refl _) | (with_reducible assumption) | (with_reducible refine Q.setCell ?_ (by dsimp only; omega) _) | (with_reducible refine Q.alloc ?_ _) | (with_reducible refine Q.drew ?_) | (with_reducible refine Q.call ?_ (by with_reducible assumption)))))⟩
  all_goals first | (simp [L_FnExactNextLongitude, *]; done) | (simp [L_FnExactNextLongitude, *]; omega) | (simp [L_FnExactNextLongitude, *]; simp (disch := omega) only [if_pos, if_neg]; done) | (simp_all [L_FnExactNextLongitude]; done) | (simp_all [L_FnExactNextLongitude]; omega)
theorem true_FnExactNextLongitude (aN : Int) (aLongitude : Int) : L_FnExactNextLongitude aN aLongitude = true := by
  simp [L_FnExactNextLongitude, eq_NextLongitude]
namespace lawFnExactNextLongitude
set_option maxRecDepth 100000 in
theorem lifted (os : Os) (started : os.Started) (H : Type) (enc : TypeId × Value → H) :
    ReturnsInHanded {} Try.checked os 4 .any (Rows.fnExactNextLongitudeSpec.pre6 enc Try.prog Try.f4 Rows.fnExactNextLongitudeRow.domain false) (Rows.fnExactNextLongitudeSpec.post enc Try.prog Try.f4 false true false false) := by
  refine returnsInHanded_of_change (C := Try.checked) own started (by kernel_rfl) Try.func4
    (ChangeSpec.witness6 (enc := enc) (C := Try.checked) false ⟨#[], #[.int .i64 0, .int .i64 0], []⟩ 8 (by kernel_rfl) (by kernel_rfl) (by kernel_rfl) (by kernel_rfl)) ?_
  intro W base args ds gs before hval0 hW hcnd _
  have hval : ∀ (j : Nat) t v, Try.f4.params[j]? = some t → args[j]? = some v → Value.okWide Try.prog W .any base t v := hval0
  have hW' := hW
  obtain ⟨p, q, hA0, hV, rfl, hfz, hnd⟩ := hW
  have hA : DataW.TrodAll enc Try.prog W 0 (fun _ => true) true Try.f4.params.toList args.toList ds p := hA0
  rw [Try.params4] at hA hval
  obtain ⟨v0, vs0, d0, ds0, p0, q0, hargs, rfl, rfl, h0, r0⟩ := trodAll_cons hA
  obtain ⟨v1, vs1, d1, ds1, p1, q1, rfl, rfl, rfl, h1, r1⟩ := trodAll_cons r0
  obtain ⟨rfl, rfl, rfl⟩ := trodAll_nil r1
  obtain rfl : args = #[v0, v1] := by cases args; simp_all
  obtain ⟨rfl, rfl⟩ := trodVars_none hV
  obtain ⟨aN, rfl, _, _, _⟩ := open_int Try.underlying2 (hval 0 2 v0 rfl rfl) h0
  obtain ⟨aLongitude, rfl, _, _, _⟩ := open_int Try.underlying2 (hval 1 2 v1 rfl rfl) h1
  refine (walk_FnExactNextLongitude aN aLongitude W).mono fun e W' ⟨he, hq⟩ => ?_
  rw [true_FnExactNextLongitude] at he
  subst he
  exact ⟨_, rfl, _, _, _, [], _, [], hW', trodAll_cons_mk (shut_bool Try.underlying4 _) trodAll_mk0,
    all_stay laidOut hq (by rw [Try.params4]; intro t ht; simp only [Array.toList, List.mem_cons, List.not_mem_nil, or_false] at ht; rcases ht with rfl | rfl <;> exact ⟨by kernel_rfl, of_decide_eq_true (by kernel_rfl)⟩) hA0,
    rfl, Below.frame hq _, fun h => by cases h⟩
theorem over : Rows.fnExactNextLongitudeRow.holds Try.pinned (OpenSpec.ofChange Rows.fnExactNextLongitudeSpec) :=
  OpenClaim.holds_of_wide 4 Try.f4 rfl rfl rfl rfl rfl rfl rfl ⟨rfl, rfl, rfl, rfl, rfl⟩ rfl rfl rfl rfl rfl (by kernel_rfl) Try.func4 (by kernel_rfl)
    (of_decide_eq_true (by kernel_rfl)) (by unfold Func.isWrapper; first | (rw [if_pos (by decide +kernel)]; kernel_rfl) | (rw [if_neg (by decide +kernel)]; exact ⟨rfl, rfl⟩))
    (fun os started H enc _ => lifted os started H enc)
theorem proved : Rows.FnExactNextLongitudeSaid :=
  over
#print axioms proved
end lawFnExactNextLongitude
end Go.Proofs.Ytlckpdagejbchaa
