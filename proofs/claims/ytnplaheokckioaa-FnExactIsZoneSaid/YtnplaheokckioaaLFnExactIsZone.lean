/- The statement Rows.FnExactIsZoneSaid is proved: for every argument the law returns true and its arguments read as before. No conditions. -/
import Derived.Test.YtnplaheokckioaaRows
import Derived.Test.YtnplaheokckioaaLaw
import Derived.Test.YtnplaheokckioaaC1
import Derived.Test.YtnplaheokckioaaC2
import Derived.Test.YtnplaheokckioaaE1
import Derived.WalkKit
import Derived.ProofKit
import Derived.OpenShut
import Derived.WalkLawsBesides
import Derived.BigQuiet
import Derived.Deep.QuietTactic
namespace Go.Proofs.Ytnplaheokckioaa
open Go.ChangeShapes Go.WideShapes Go.ChangeAt Go.RowKit
set_option linter.unusedVariables false
set_option linter.unusedSimpArgs false
def L_FnExactIsZone (aZ : Zone) : Bool :=
  let w0_1 := (S_IsZone (L_toZone aZ))
  let g0_2 := (I_IsZone (L_toZone aZ))
  if (g0_2 != w0_1) then
    false
  else
    true
theorem walk_FnExactIsZone (aZ_Offset : Int) (aZ_StartMonth : Int) (aZ_StartWeek : Int) (aZ_EndMonth : Int) (aZ_EndWeek : Int) (w : World)  : Calls Try.prog 12 #[.agg #[.int .i64 aZ_Offset, .int .i64 aZ_StartMonth, .int .i64 aZ_StartWeek, .int .i64 aZ_EndMonth, .int .i64 aZ_EndWeek]] w fun e w' => e = .returned (.bool ((L_FnExactIsZone (⟨aZ_Offset, aZ_StartMonth, aZ_StartWeek, aZ_EndMonth, aZ_EndWeek⟩ : Zone)))) ∧ Q w w' := by
  have hset := setRule
  go_enter Try.func12, Try.ntmps12
  go_wp2_with (first | (go_at_call 39; refine (c_S_IsZone _ _ _ _ _ _ ).mono ?_; rintro e w1 ⟨rfl, hq⟩; obtain ⟨hc, hf⟩ := hq.rules; have hs := hq.le; try simp at hs) | (go_at_call 40; refine (c_L_toZone _ _ _ _ _ _ ).mono ?_; rintro e w1 ⟨rfl, hq⟩; obtain ⟨hc, hf⟩ := hq.rules; have hs := hq.le; try simp at hs) | (go_at_call 41; refine (c_I_IsZone _ _ _ _ _ _ ).mono ?_; rintro e w1 ⟨rfl, hq⟩; obtain ⟨hc, hf⟩ := hq.rules; have hs := hq.le; try simp at hs))
  all_goals go_ret
  all_goals refine ⟨?_, (by (repeat (first | (with_reducible exact Q.refl _) | (with_reducible assumption) | (with_reducible refine Q.setCell ?_ (by dsimp only; omega) _) | (with_reducible refine Q.alloc ?_ _) | (with_reducible refine Q.drew ?_) | (with_reducible refine Q.call ?_ (by with_reducible assumption)))))⟩
  all_goals first | (simp [L_FnExactIsZone, *]; done) | (simp [L_FnExactIsZone, *]; omega) | (simp_all [L_FnExactIsZone]; done) | (simp_all [L_FnExactIsZone]; omega)
theorem true_FnExactIsZone (aZ : Zone) : L_FnExactIsZone aZ = true := by
  simp [L_FnExactIsZone, eq_IsZone]
namespace lawFnExactIsZone
set_option maxRecDepth 100000 in
theorem lifted (os : Os) (started : os.Started) (H : Type) (enc : TypeId × Value → H) :
    ReturnsInHanded {} Try.checked os 12 .any (Rows.fnExactIsZoneSpec.pre6 enc Try.prog Try.f12 Rows.fnExactIsZoneRow.domain false) (Rows.fnExactIsZoneSpec.post enc Try.prog Try.f12 false true false false) := by
  refine returnsInHanded_of_change (C := Try.checked) own started (by kernel_rfl) Try.func12
    (ChangeSpec.witness6 (enc := enc) (C := Try.checked) false ⟨#[], #[.agg #[.int .i64 0, .int .i64 0, .int .i64 0, .int .i64 0, .int .i64 0]], []⟩ 8 (by kernel_rfl) (by kernel_rfl) (by kernel_rfl) (by kernel_rfl)) ?_
  intro W base args ds gs before hval0 hW hcnd _
  have hval : ∀ (j : Nat) t v, Try.f12.params[j]? = some t → args[j]? = some v → Value.okWide Try.prog W .any base t v := hval0
  have hW' := hW
  obtain ⟨p, q, hA0, hV, rfl, hfz, hnd⟩ := hW
  have hA : DataW.TrodAll enc Try.prog W 0 (fun _ => true) true Try.f12.params.toList args.toList ds p := hA0
  rw [Try.params12] at hA hval
  obtain ⟨v0, vs0, d0, ds0, p0, q0, hargs, rfl, rfl, h0, r0⟩ := trodAll_cons hA
  obtain ⟨rfl, rfl, rfl⟩ := trodAll_nil r0
  obtain rfl : args = #[v0] := by cases args; simp_all
  obtain ⟨rfl, rfl⟩ := trodVars_none hV
  obtain ⟨zs0, hz0, rfl⟩ := open_cells (m := 5) (u := 2) Try.underlying67 (by kernel_rfl) Try.underlying2 (by kernel_rfl) (hval 0 67 v0 rfl rfl)
  obtain ⟨aZ_Offset, aZ_StartMonth, aZ_StartWeek, aZ_EndMonth, aZ_EndWeek, rfl⟩ := list5 hz0
  refine (walk_FnExactIsZone aZ_Offset aZ_StartMonth aZ_StartWeek aZ_EndMonth aZ_EndWeek W).mono fun e W' ⟨he, hq⟩ => ?_
  rw [true_FnExactIsZone] at he
  subst he
  exact ⟨_, rfl, _, _, _, [], _, [], hW', trodAll_cons_mk (shut_bool Try.underlying4 _) trodAll_mk0,
    all_stay laidOut hq (by rw [Try.params12]; intro t ht; simp only [Array.toList, List.mem_cons, List.not_mem_nil, or_false] at ht; rcases ht with rfl <;> exact ⟨by kernel_rfl, of_decide_eq_true (by kernel_rfl)⟩) hA0,
    rfl, Below.frame hq _, fun h => by cases h⟩
theorem over : Rows.fnExactIsZoneRow.holds Try.pinned (OpenSpec.ofChange Rows.fnExactIsZoneSpec) :=
  OpenClaim.holds_of_wide 12 Try.f12 rfl rfl rfl rfl rfl rfl rfl ⟨rfl, rfl, rfl, rfl, rfl⟩ rfl rfl rfl rfl rfl (by kernel_rfl) Try.func12 (by kernel_rfl)
    (of_decide_eq_true (by kernel_rfl)) (by unfold Func.isWrapper; first | (rw [if_pos (by decide +kernel)]; kernel_rfl) | (rw [if_neg (by decide +kernel)]; exact ⟨rfl, rfl⟩))
    (fun os started H enc _ => lifted os started H enc)
theorem proved : Rows.FnExactIsZoneSaid :=
  over
#print axioms proved
end lawFnExactIsZone
end Go.Proofs.Ytnplaheokckioaa
