/- The statement Rows.FnExactMayBeAtSaid is proved: for every argument the law returns true and its arguments read as before. No conditions. -/
import Derived.Test.YtnplaheokckioaaRows
import Derived.Test.YtnplaheokckioaaLaw
import Derived.Test.YtnplaheokckioaaC1
import Derived.Test.YtnplaheokckioaaC2
import Derived.Test.YtnplaheokckioaaE1
import Derived.WalkKit
import Derived.ProofKit
import Derived.OpenShut
import Derived.WalkLawsBesides
import Derived.BigQuiet
import Derived.Deep.QuietTactic
namespace Go.Proofs.Ytnplaheokckioaa
open Go.ChangeShapes Go.WideShapes Go.ChangeAt Go.RowKit
set_option linter.unusedVariables false
set_option linter.unusedSimpArgs false
def L_FnExactMayBeAt (aP : Place) (aX : Int) (aY : Int) : Bool :=
  let t_1 := (S_MayBeAt (L_toPlace aP) aX aY)
  let w0_2 := t_1.1
  let w1_3 := t_1.2
  let t_4 := (I_MayBeAt (L_toPlace aP) aX aY)
  let g0_5 := t_4.1
  let g1_6 := t_4.2
  if ((g0_5 != w0_2) || (g1_6 != w1_3)) then
    false
  else
    true
theorem walk_FnExactMayBeAt (aP_X_Low : Int) (aP_X_High : Int) (aP_Y_Low : Int) (aP_Y_High : Int) (aX : Int) (aY : Int) (w : World)  : Calls Try.prog 14 #[.agg #[.int .i64 aP_X_Low, .int .i64 aP_X_High, .int .i64 aP_Y_Low, .int .i64 aP_Y_High], .int .i64 aX, .int .i64 aY] w fun e w' => e = .returned (.bool ((L_FnExactMayBeAt (⟨(⟨aP_X_Low, aP_X_High⟩ : Interval), (⟨aP_Y_Low, aP_Y_High⟩ : Interval)⟩ : Place) aX aY))) ∧ Q w w' := by
  have hset := setRule
  go_enter Try.func14, Try.ntmps14
  go_wp2_with (first | (go_at_call 45; refine (c_S_MayBeAt _ _ _ _ _ _ _ ).mono ?_; rintro e w1 ⟨rfl, hq⟩; obtain ⟨hc, hf⟩ := hq.rules; have hs := hq.le; try simp at hs) | (go_at_call 32; refine (c_L_toPlace _ _ _ _ _ ).mono ?_; rintro e w1 ⟨rfl, hq⟩; obtain ⟨hc, hf⟩ := hq.rules; have hs := hq.le; try simp at hs) | (go_at_call 46; refine (c_I_MayBeAt _ _ _ _ _ _ _ ).mono ?_; rintro e w1 ⟨rfl, hq⟩; obtain ⟨hc, hf⟩ := hq.rules; have hs := hq.le; try simp at hs))
  all_goals go_ret
  all_goals refine ⟨?_, (by (repeat (first | (with_reducible exact Q.refl _) | (with_reducible assumption) | (with_reducible refine Q.setCell ?_ (by dsimp only; omega) _) | (with_reducible refine Q.alloc ?_ _) | (with_reducible refine Q.drew ?_) | (with_reducible refine Q.call ?_ (by with_reducible assumption)))))⟩
  all_goals first | (simp [L_FnExactMayBeAt, *]; done) | (simp [L_FnExactMayBeAt, *]; omega) | (simp_all [L_FnExactMayBeAt]; done) | (simp_all [L_FnExactMayBeAt]; omega)
theorem true_FnExactMayBeAt (aP : Place) (aX : Int) (aY : Int) : L_FnExactMayBeAt aP aX aY = true := by
  simp [L_FnExactMayBeAt, eq_MayBeAt]
namespace lawFnExactMayBeAt
set_option maxRecDepth 100000 in
theorem lifted (os : Os) (started : os.Started) (H : Type) (enc : TypeId × Value → H) :
    ReturnsInHanded {} Try.checked os 14 .any (Rows.fnExactMayBeAtSpec.pre6 enc Try.prog Try.f14 Rows.fnExactMayBeAtRow.domain false) (Rows.fnExactMayBeAtSpec.post enc Try.prog Try.f14 false true false false) := by
  refine returnsInHanded_of_change (C := Try.checked) own started (by kernel_rfl) Try.func14
    (ChangeSpec.witness6 (enc := enc) (C := Try.checked) false ⟨#[], #[.agg #[.int .i64 0, .int .i64 0, .int .i64 0, .int .i64 0], .int .i64 0, .int .i64 0], []⟩ 8 (by kernel_rfl) (by kernel_rfl) (by kernel_rfl) (by kernel_rfl)) ?_
  intro W base args ds gs before hval0 hW hcnd _
  have hval : ∀ (j : Nat) t v, Try.f14.params[j]? = some t → args[j]? = some v → Value.okWide Try.prog W .any base t v := hval0
  have hW' := hW
  obtain ⟨p, q, hA0, hV, rfl, hfz, hnd⟩ := hW
  have hA : DataW.TrodAll enc Try.prog W 0 (fun _ => true) true Try.f14.params.toList args.toList ds p := hA0
  rw [Try.params14] at hA hval
  obtain ⟨v0, vs0, d0, ds0, p0, q0, hargs, rfl, rfl, h0, r0⟩ := trodAll_cons hA
  obtain ⟨v1, vs1, d1, ds1, p1, q1, rfl, rfl, rfl, h1, r1⟩ := trodAll_cons r0
  obtain ⟨v2, vs2, d2, ds2, p2, q2, rfl, rfl, rfl, h2, r2⟩ := trodAll_cons r1
  obtain ⟨rfl, rfl, rfl⟩ := trodAll_nil r2
  obtain rfl : args = #[v0, v1, v2] := by cases args; simp_all
  obtain ⟨rfl, rfl⟩ := trodVars_none hV
  obtain ⟨zs0, hz0, rfl⟩ := open_cells (m := 4) (u := 2) Try.underlying51 (by kernel_rfl) Try.underlying2 (by kernel_rfl) (hval 0 51 v0 rfl rfl)
  obtain ⟨aP_X_Low, aP_X_High, aP_Y_Low, aP_Y_High, rfl⟩ := list4 hz0
  obtain ⟨aX, rfl, _, _, _⟩ := open_int Try.underlying2 (hval 1 2 v1 rfl rfl) h1
  obtain ⟨aY, rfl, _, _, _⟩ := open_int Try.underlying2 (hval 2 2 v2 rfl rfl) h2
  refine (walk_FnExactMayBeAt aP_X_Low aP_X_High aP_Y_Low aP_Y_High aX aY W).mono fun e W' ⟨he, hq⟩ => ?_
  rw [true_FnExactMayBeAt] at he
  subst he
  exact ⟨_, rfl, _, _, _, [], _, [], hW', trodAll_cons_mk (shut_bool Try.underlying4 _) trodAll_mk0,
    all_stay laidOut hq (by rw [Try.params14]; intro t ht; simp only [Array.toList, List.mem_cons, List.not_mem_nil, or_false] at ht; rcases ht with rfl | rfl | rfl <;> exact ⟨by kernel_rfl, of_decide_eq_true (by kernel_rfl)⟩) hA0,
    rfl, Below.frame hq _, fun h => by cases h⟩
theorem over : Rows.fnExactMayBeAtRow.holds Try.pinned (OpenSpec.ofChange Rows.fnExactMayBeAtSpec) :=
  OpenClaim.holds_of_wide 14 Try.f14 rfl rfl rfl rfl rfl rfl rfl ⟨rfl, rfl, rfl, rfl, rfl⟩ rfl rfl rfl rfl rfl (by kernel_rfl) Try.func14 (by kernel_rfl)
    (of_decide_eq_true (by kernel_rfl)) (by unfold Func.isWrapper; first | (rw [if_pos (by decide +kernel)]; kernel_rfl) | (rw [if_neg (by decide +kernel)]; exact ⟨rfl, rfl⟩))
    (fun os started H enc _ => lifted os started H enc)
theorem proved : Rows.FnExactMayBeAtSaid :=
  over
#print axioms proved
end lawFnExactMayBeAt
end Go.Proofs.Ytnplaheokckioaa
