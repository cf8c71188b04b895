/- The statement Rows.FnExactWidenPlaceSaid is proved: for every argument the law returns true and its arguments read as before. No conditions. -/
import Derived.Test.YtecnjkhncdjebaaRows
import Derived.Test.YtecnjkhncdjebaaLaw
import Derived.Test.YtecnjkhncdjebaaC1
import Derived.Test.YtecnjkhncdjebaaC2
import Derived.Test.YtecnjkhncdjebaaE1
import Derived.WalkKit
import Derived.ProofKit
import Derived.OpenShut
import Derived.WalkLawsBesides
import Derived.BigQuiet
import Derived.Deep.QuietTactic
namespace Go.Proofs.Ytecnjkhncdjebaa
open Go.ChangeShapes Go.WideShapes Go.ChangeAt Go.RowKit
set_option linter.unusedVariables false
set_option linter.unusedSimpArgs false
def L_FnExactWidenPlace (aP : Place) (aBy : Int) : Bool :=
  let t_1 := (S_WidenPlace (L_toPlace aP) aBy)
  let w0_2 := t_1.1
  let w1_3 := t_1.2
  let t_4 := (I_WidenPlace (L_toPlace aP) aBy)
  let g0_5 := t_4.1
  let g1_6 := t_4.2
  if ((!(L_eqPlace g0_5 w0_2)) || (g1_6 != w1_3)) then
    false
  else
    true
theorem walk_FnExactWidenPlace (aP_X_Low : Int) (aP_X_High : Int) (aP_Y_Low : Int) (aP_Y_High : Int) (aBy : Int) (w : World)  : Calls Try.prog 7 #[.agg #[.int .i64 aP_X_Low, .int .i64 aP_X_High, .int .i64 aP_Y_Low, .int .i64 aP_Y_High], .int .i64 aBy] w fun e w' => e = .returned (.bool ((L_FnExactWidenPlace (⟨(⟨aP_X_Low, aP_X_High⟩ : Interval), (⟨aP_Y_Low, aP_Y_High⟩ : Interval)⟩ : Place) aBy))) ∧ Q w w' := by
  have hset := setRule
  have hall := allocRule
  have halm := allocMark
  have hw64 := wrapRule
  go_enter Try.func7, Try.ntmps7
  go_wp2_with (first | (go_at_call 27; refine (c_S_WidenPlace _ _ _ _ _ _ ).mono ?_; rintro e w1 ⟨rfl, hq⟩; obtain ⟨hc, hf⟩ := hq.rules; have hs := hq.le; try simp at hs) | (go_at_call 23; refine (c_L_toPlace _ _ _ _ _ ).mono ?_; rintro e w1 ⟨rfl, hq⟩; obtain ⟨hc, hf⟩ := hq.rules; have hs := hq.le; try simp at hs) | (go_at_call 28; refine (c_I_WidenPlace _ _ _ _ _ _ ).mono ?_; rintro e w1 ⟨rfl, hq⟩; obtain ⟨hc, hf⟩ := hq.rules; have hs := hq.le; try simp at hs) | (go_at_call 29; refine (c_L_eqPlace _ _ _ _ _ _ _ _ _ ).mono ?_; rintro e w1 ⟨rfl, hq⟩; obtain ⟨hc, hf⟩ := hq.rules; have hs := hq.le; try simp at hs))
  all_goals go_ret
  all_goals refine ⟨?_, (by (repeat (first | (with_reducible exact Q.refl _) | (with_reducible assumption) | (with_reducible refine Q.setCell ?_ (by dsimp only; omega) _) | (with_reducible refine Q.alloc ?_ _) | (with_reducible refine Q.drew ?_) | (with_reducible refine Q.call ?_ (by with_reducible assumption)))))⟩
  all_goals first | (simp [L_FnExactWidenPlace, *]; done) | (simp [L_FnExactWidenPlace, *]; omega) | (simp [L_FnExactWidenPlace, *]; simp (disch := omega) only [if_pos, if_neg]; done) | (simp_all [L_FnExactWidenPlace]; done) | (simp_all [L_FnExactWidenPlace]; omega)
theorem true_FnExactWidenPlace (aP : Place) (aBy : Int) : L_FnExactWidenPlace aP aBy = true := by
  simp [L_FnExactWidenPlace, eq_WidenPlace, eqPlace_refl]
namespace lawFnExactWidenPlace
set_option maxRecDepth 100000 in
theorem lifted (os : Os) (started : os.Started) (H : Type) (enc : TypeId × Value → H) :
    ReturnsInHanded {} Try.checked os 7 .any (Rows.fnExactWidenPlaceSpec.pre6 enc Try.prog Try.f7 Rows.fnExactWidenPlaceRow.domain false) (Rows.fnExactWidenPlaceSpec.post enc Try.prog Try.f7 false true false false) := by
  refine returnsInHanded_of_change (C := Try.checked) own started (by kernel_rfl) Try.func7
    (ChangeSpec.witness6 (enc := enc) (C := Try.checked) false ⟨#[], #[.agg #[.int .i64 0, .int .i64 0, .int .i64 0, .int .i64 0], .int .i64 0], []⟩ 8 (by kernel_rfl) (by kernel_rfl) (by kernel_rfl) (by kernel_rfl)) ?_
  intro W base args ds gs before hval0 hW hcnd _
  have hval : ∀ (j : Nat) t v, Try.f7.params[j]? = some t → args[j]? = some v → Value.okWide Try.prog W .any base t v := hval0
  have hW' := hW
  obtain ⟨p, q, hA0, hV, rfl, hfz, hnd⟩ := hW
  have hA : DataW.TrodAll enc Try.prog W 0 (fun _ => true) true Try.f7.params.toList args.toList ds p := hA0
  rw [Try.params7] at hA hval
  obtain ⟨v0, vs0, d0, ds0, p0, q0, hargs, rfl, rfl, h0, r0⟩ := trodAll_cons hA
  obtain ⟨v1, vs1, d1, ds1, p1, q1, rfl, rfl, rfl, h1, r1⟩ := trodAll_cons r0
  obtain ⟨rfl, rfl, rfl⟩ := trodAll_nil r1
  obtain rfl : args = #[v0, v1] := by cases args; simp_all
  obtain ⟨rfl, rfl⟩ := trodVars_none hV
  obtain ⟨zs0, hz0, rfl⟩ := open_cells (m := 4) (u := 2) Try.underlying40 (by kernel_rfl) Try.underlying2 (by kernel_rfl) (hval 0 40 v0 rfl rfl)
  obtain ⟨aP_X_Low, aP_X_High, aP_Y_Low, aP_Y_High, rfl⟩ := list4 hz0
  obtain ⟨aBy, rfl, _, _, _⟩ := open_int Try.underlying2 (hval 1 2 v1 rfl rfl) h1
  refine (walk_FnExactWidenPlace aP_X_Low aP_X_High aP_Y_Low aP_Y_High aBy W).mono fun e W' ⟨he, hq⟩ => ?_
  rw [true_FnExactWidenPlace] at he
  subst he
  exact ⟨_, rfl, _, _, _, [], _, [], hW', trodAll_cons_mk (shut_bool Try.underlying4 _) trodAll_mk0,
    all_stay laidOut hq (by rw [Try.params7]; intro t ht; simp only [Array.toList, List.mem_cons, List.not_mem_nil, or_false] at ht; rcases ht with rfl | rfl <;> exact ⟨by kernel_rfl, of_decide_eq_true (by kernel_rfl)⟩) hA0,
    rfl, Below.frame hq _, fun h => by cases h⟩
theorem over : Rows.fnExactWidenPlaceRow.holds Try.pinned (OpenSpec.ofChange Rows.fnExactWidenPlaceSpec) :=
  OpenClaim.holds_of_wide 7 Try.f7 rfl rfl rfl rfl rfl rfl rfl ⟨rfl, rfl, rfl, rfl, rfl⟩ rfl rfl rfl rfl rfl (by kernel_rfl) Try.func7 (by kernel_rfl)
    (of_decide_eq_true (by kernel_rfl)) (by unfold Func.isWrapper; first | (rw [if_pos (by decide +kernel)]; kernel_rfl) | (rw [if_neg (by decide +kernel)]; exact ⟨rfl, rfl⟩))
    (fun os started H enc _ => lifted os started H enc)
theorem proved : Rows.FnExactWidenPlaceSaid :=
  over
#print axioms proved
end lawFnExactWidenPlace
end Go.Proofs.Ytecnjkhncdjebaa
