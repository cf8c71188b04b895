/- The statement Rows.FnExactTemporalLengthSaid is proved: for every argument the law returns true and its arguments read as before. No conditions. -/
import Derived.Test.YtnplaheokckioaaRows
import Derived.Test.YtnplaheokckioaaLaw
import Derived.Test.YtnplaheokckioaaC1
import Derived.Test.YtnplaheokckioaaC2
import Derived.Test.YtnplaheokckioaaE1
import Derived.WalkKit
import Derived.ProofKit
import Derived.OpenShut
import Derived.WalkLawsBesides
import Derived.BigQuiet
import Derived.Deep.QuietTactic
namespace Go.Proofs.Ytnplaheokckioaa
open Go.ChangeShapes Go.WideShapes Go.ChangeAt Go.RowKit
set_option linter.unusedVariables false
set_option linter.unusedSimpArgs false
def L_FnExactTemporalLength (aD : Day) (aNight : Bool) : Bool :=
  let t_1 := (S_TemporalLength (L_toDay aD) aNight)
  let w0_2 := t_1.1
  let w1_3 := t_1.2
  let t_4 := (I_TemporalLength (L_toDay aD) aNight)
  let g0_5 := t_4.1
  let g1_6 := t_4.2
  if ((g0_5 != w0_2) || (g1_6 != w1_3)) then
    false
  else
    true
theorem walk_FnExactTemporalLength (aD_Rise : Int) (aD_Set : Int) (aNight : Bool) (w : World)  : Calls Try.prog 11 #[.agg #[.int .i64 aD_Rise, .int .i64 aD_Set], .bool aNight] w fun e w' => e = .returned (.bool ((L_FnExactTemporalLength (⟨aD_Rise, aD_Set⟩ : Day) aNight))) ∧ Q w w' := by
  have hset := setRule
  go_enter Try.func11, Try.ntmps11
  go_wp2_with (first | (go_at_call 37; refine (c_S_TemporalLength _ _ _ _ ).mono ?_; rintro e w1 ⟨rfl, hq⟩; obtain ⟨hc, hf⟩ := hq.rules; have hs := hq.le; try simp at hs) | (go_at_call 16; refine (c_L_toDay _ _ _ ).mono ?_; rintro e w1 ⟨rfl, hq⟩; obtain ⟨hc, hf⟩ := hq.rules; have hs := hq.le; try simp at hs) | (go_at_call 38; refine (c_I_TemporalLength _ _ _ _ ).mono ?_; rintro e w1 ⟨rfl, hq⟩; obtain ⟨hc, hf⟩ := hq.rules; have hs := hq.le; try simp at hs))
  all_goals go_ret
  all_goals refine ⟨?_, (by (repeat (first | (with_reducible exact Q.refl _) | (with_reducible assumption) | (with_reducible refine Q.setCell ?_ (by dsimp only; omega) _) | (with_reducible refine Q.alloc ?_ _) | (with_reducible refine Q.drew ?_) | (with_reducible refine Q.call ?_ (by with_reducible assumption)))))⟩
  all_goals first | (simp [L_FnExactTemporalLength, *]; done) | (simp [L_FnExactTemporalLength, *]; omega) | (simp_all [L_FnExactTemporalLength]; done) | (simp_all [L_FnExactTemporalLength]; omega)
theorem true_FnExactTemporalLength (aD : Day) (aNight : Bool) : L_FnExactTemporalLength aD aNight = true := by
  simp [L_FnExactTemporalLength, eq_TemporalLength]
namespace lawFnExactTemporalLength
set_option maxRecDepth 100000 in
theorem lifted (os : Os) (started : os.Started) (H : Type) (enc : TypeId × Value → H) :
    ReturnsInHanded {} Try.checked os 11 .any (Rows.fnExactTemporalLengthSpec.pre6 enc Try.prog Try.f11 Rows.fnExactTemporalLengthRow.domain false) (Rows.fnExactTemporalLengthSpec.post enc Try.prog Try.f11 false true false false) := by
  refine returnsInHanded_of_change (C := Try.checked) own started (by kernel_rfl) Try.func11
    (ChangeSpec.witness6 (enc := enc) (C := Try.checked) false ⟨#[], #[.agg #[.int .i64 0, .int .i64 0], .bool false], []⟩ 8 (by kernel_rfl) (by kernel_rfl) (by kernel_rfl) (by kernel_rfl)) ?_
  intro W base args ds gs before hval0 hW hcnd _
  have hval : ∀ (j : Nat) t v, Try.f11.params[j]? = some t → args[j]? = some v → Value.okWide Try.prog W .any base t v := hval0
  have hW' := hW
  obtain ⟨p, q, hA0, hV, rfl, hfz, hnd⟩ := hW
  have hA : DataW.TrodAll enc Try.prog W 0 (fun _ => true) true Try.f11.params.toList args.toList ds p := hA0
  rw [Try.params11] at hA hval
  obtain ⟨v0, vs0, d0, ds0, p0, q0, hargs, rfl, rfl, h0, r0⟩ := trodAll_cons hA
  obtain ⟨v1, vs1, d1, ds1, p1, q1, rfl, rfl, rfl, h1, r1⟩ := trodAll_cons r0
  obtain ⟨rfl, rfl, rfl⟩ := trodAll_nil r1
  obtain rfl : args = #[v0, v1] := by cases args; simp_all
  obtain ⟨rfl, rfl⟩ := trodVars_none hV
  obtain ⟨zs0, hz0, rfl⟩ := open_cells (m := 2) (u := 2) Try.underlying23 (by kernel_rfl) Try.underlying2 (by kernel_rfl) (hval 0 23 v0 rfl rfl)
  obtain ⟨aD_Rise, aD_Set, rfl⟩ := list2 hz0
  obtain ⟨aNight, rfl, _, _⟩ := open_bool Try.underlying4 (hval 1 4 v1 rfl rfl) h1
  refine (walk_FnExactTemporalLength aD_Rise aD_Set aNight W).mono fun e W' ⟨he, hq⟩ => ?_
  rw [true_FnExactTemporalLength] at he
  subst he
  exact ⟨_, rfl, _, _, _, [], _, [], hW', trodAll_cons_mk (shut_bool Try.underlying4 _) trodAll_mk0,
    all_stay laidOut hq (by rw [Try.params11]; intro t ht; simp only [Array.toList, List.mem_cons, List.not_mem_nil, or_false] at ht; rcases ht with rfl | rfl <;> exact ⟨by kernel_rfl, of_decide_eq_true (by kernel_rfl)⟩) hA0,
    rfl, Below.frame hq _, fun h => by cases h⟩
theorem over : Rows.fnExactTemporalLengthRow.holds Try.pinned (OpenSpec.ofChange Rows.fnExactTemporalLengthSpec) :=
  OpenClaim.holds_of_wide 11 Try.f11 rfl rfl rfl rfl rfl rfl rfl ⟨rfl, rfl, rfl, rfl, rfl⟩ rfl rfl rfl rfl rfl (by kernel_rfl) Try.func11 (by kernel_rfl)
    (of_decide_eq_true (by kernel_rfl)) (by unfold Func.isWrapper; first | (rw [if_pos (by decide +kernel)]; kernel_rfl) | (rw [if_neg (by decide +kernel)]; exact ⟨rfl, rfl⟩))
    (fun os started H enc _ => lifted os started H enc)
theorem proved : Rows.FnExactTemporalLengthSaid :=
  over
#print axioms proved
end lawFnExactTemporalLength
end Go.Proofs.Ytnplaheokckioaa
