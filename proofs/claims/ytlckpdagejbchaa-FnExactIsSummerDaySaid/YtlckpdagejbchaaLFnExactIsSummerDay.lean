/- The statement Rows.FnExactIsSummerDaySaid is proved: for every argument the law returns true and its arguments read as before. No conditions. -/
import Derived.Test.YtlckpdagejbchaaRows
import Derived.Test.YtlckpdagejbchaaLaw
import Derived.Test.YtlckpdagejbchaaC1
import Derived.Test.YtlckpdagejbchaaC2
import Derived.Test.YtlckpdagejbchaaC3
import Derived.Test.YtlckpdagejbchaaC4
import Derived.Test.YtlckpdagejbchaaC5
import Derived.Test.YtlckpdagejbchaaE1
import Derived.Test.YtlckpdagejbchaaE2
import Derived.Test.YtlckpdagejbchaaE3
import Derived.Test.YtlckpdagejbchaaE4
import Derived.Test.YtlckpdagejbchaaE5
import Derived.WalkKit
import Derived.ProofKit
import Derived.OpenShut
import Derived.WalkLawsBesides
import Derived.BigQuiet
import Derived.Deep.QuietTactic
import Derived.Deep.LoopGhost
import Derived.LoopN
namespace Go.Proofs.Ytlckpdagejbchaa
open Go.ChangeShapes Go.WideShapes Go.ChangeAt Go.RowKit
set_option linter.unusedVariables false
set_option linter.unusedSimpArgs false
def L_FnExactIsSummerDay (aZ : Zone) (aD : Date) : Bool :=
  let t_1 := (S_IsSummerDay (L_toZone aZ) (L_toDate aD))
  let w0_2 := t_1.1
  let w1_3 := t_1.2
  let t_4 := (I_IsSummerDay (L_toZone aZ) (L_toDate aD))
  let g0_5 := t_4.1
  let g1_6 := t_4.2
  if ((g0_5 != w0_2) || (g1_6 != w1_3)) then
    false
  else
    true
theorem walk_FnExactIsSummerDay (aZ_Offset : Int) (aZ_StartMonth : Int) (aZ_StartWeek : Int) (aZ_EndMonth : Int) (aZ_EndWeek : Int) (aD_Year : Int) (aD_Month : Int) (aD_Day : Int) (w : World)  : Calls Try.prog 5 #[.agg #[.int .i64 aZ_Offset, .int .i64 aZ_StartMonth, .int .i64 aZ_StartWeek, .int .i64 aZ_EndMonth, .int .i64 aZ_EndWeek], .agg #[.int .i64 aD_Year, .int .i64 aD_Month, .int .i64 aD_Day]] w fun e w' => e = .returned (.bool ((L_FnExactIsSummerDay (⟨aZ_Offset, aZ_StartMonth, aZ_StartWeek, aZ_EndMonth, aZ_EndWeek⟩ : Zone) (⟨aD_Year, aD_Month, aD_Day⟩ : Date)))) ∧ Q w w' := by
  have hset := setRule
  have hall := allocRule
  have halm := allocMark
  have hw64 := wrapRule
  go_enter Try.func5, Try.ntmps5
  go_wp2_with (first | (go_at_call 19; refine (c_S_IsSummerDay _ _ _ _ _ _ _ _ _ ).mono ?_; rintro e w1 ⟨rfl, hq⟩; obtain ⟨hc, hf⟩ := hq.rules; have hs := hq.le; try simp at hs) | (go_at_call 20; refine (c_L_toZone _ _ _ _ _ _ ).mono ?_; rintro e w1 ⟨rfl, hq⟩; obtain ⟨hc, hf⟩ := hq.rules; have hs := hq.le; try simp at hs) | (go_at_call 21; refine (c_L_toDate _ _ _ _ ).mono ?_; rintro e w1 ⟨rfl, hq⟩; obtain ⟨hc, hf⟩ := hq.rules; have hs := hq.le; try simp at hs) | (go_at_call 22; refine (c_I_IsSummerDay _ _ _ _ _ _ _ _ _ ).mono ?_; rintro e w1 ⟨rfl, hq⟩; obtain ⟨hc, hf⟩ := hq.rules; have hs := hq.le; try simp at hs))
  all_goals try (
    refine region_Q_all (id := 1) (by kernel_rfl) (by kernel_rfl) ?_
    repeat (first | (apply q_step rfl; (intro wq hq; have hr := Q.rules hq; have hcq := hr.1; have hfq := hr.2; clear hr; have hsq := Q.le hq; (try simp at hsq); go_simp; (repeat (simp (disch := omega) only [if_pos, if_neg]; try go_simp)); (first | rfl | exact ⟨rfl, rfl⟩ | (go_at_call 19; exact quiet_grow hq (c_S_IsSummerDay _ _ _ _ _ _ _ _ _ )) | (go_at_call 20; exact quiet_grow hq (c_L_toZone _ _ _ _ _ _ )) | (go_at_call 21; exact quiet_grow hq (c_L_toDate _ _ _ _ )) | (go_at_call 22; exact quiet_grow hq (c_I_IsSummerDay _ _ _ _ _ _ _ _ _ )))); try go_simp) | (apply q_skip rfl; try go_simp))
    refine wpQuiet_nil ?_
    intro w1 hq
    have hr := Q.rules hq; have hc := hr.1; have hf := hr.2; clear hr; have hs := Q.le hq; try simp at hs)
  all_goals try go_wp2_with (first | (go_at_call 19; refine (c_S_IsSummerDay _ _ _ _ _ _ _ _ _ ).mono ?_; rintro e w1 ⟨rfl, hq⟩; obtain ⟨hc, hf⟩ := hq.rules; have hs := hq.le; try simp at hs) | (go_at_call 20; refine (c_L_toZone _ _ _ _ _ _ ).mono ?_; rintro e w1 ⟨rfl, hq⟩; obtain ⟨hc, hf⟩ := hq.rules; have hs := hq.le; try simp at hs) | (go_at_call 21; refine (c_L_toDate _ _ _ _ ).mono ?_; rintro e w1 ⟨rfl, hq⟩; obtain ⟨hc, hf⟩ := hq.rules; have hs := hq.le; try simp at hs) | (go_at_call 22; refine (c_I_IsSummerDay _ _ _ _ _ _ _ _ _ ).mono ?_; rintro e w1 ⟨rfl, hq⟩; obtain ⟨hc, hf⟩ := hq.rules; have hs := hq.le; try simp at hs))
  all_goals try (
    refine region_Q_all (id := 2) (by kernel_rfl) (by kernel_rfl) ?_
    repeat (first | (apply q_step rfl; (intro wq hq; have hr := Q.rules hq; have hcq := hr.1; have hfq := hr.2; clear hr; have hsq := Q.le hq; (try simp at hsq); go_simp; (repeat (simp (disch := omega) only [if_pos, if_neg]; try go_simp)); (first | rfl | exact ⟨rfl, rfl⟩ | (go_at_call 19; exact quiet_grow hq (c_S_IsSummerDay _ _ _ _ _ _ _ _ _ )) | (go_at_call 20; exact quiet_grow hq (c_L_toZone _ _ _ _ _ _ )) | (go_at_call 21; exact quiet_grow hq (c_L_toDate _ _ _ _ )) | (go_at_call 22; exact quiet_grow hq (c_I_IsSummerDay _ _ _ _ _ _ _ _ _ )))); try go_simp) | (apply q_skip rfl; try go_simp))
    refine wpQuiet_nil ?_
    intro w1 hq
    have hr := Q.rules hq; have hc := hr.1; have hf := hr.2; clear hr; have hs := Q.le hq; try simp at hs)
  all_goals try go_wp2_with (first | (go_at_call 19; refine (c_S_IsSummerDay _ _ _ _ _ _ _ _ _ ).mono ?_; rintro e w1 ⟨rfl, hq⟩; obtain ⟨hc, hf⟩ := hq.rules; have hs := hq.le; try simp at hs) | (go_at_call 20; refine (c_L_toZone _ _ _ _ _ _ ).mono ?_; rintro e w1 ⟨rfl, hq⟩; obtain ⟨hc, hf⟩ := hq.rules; have hs := hq.le; try simp at hs) | (go_at_call 21; refine (c_L_toDate _ _ _ _ ).mono ?_; rintro e w1 ⟨rfl, hq⟩; obtain ⟨hc, hf⟩ := hq.rules; have hs := hq.le; try simp at hs) | (go_at_call 22; refine (c_I_IsSummerDay _ _ _ _ _ _ _ _ _ ).mono ?_; rintro e w1 ⟨rfl, hq⟩; obtain ⟨hc, hf⟩ := hq.rules; have hs := hq.le; try simp at hs))
  all_goals go_ret
  all_goals refine ⟨?_, (by (repeat (first | (with_reducible exact Q.refl _) | (with_reducible assumption) | (with_reducible refine Q.setCell ?_ (by dsimp only; omega) _) | (with_reducible refine Q.alloc ?_ _) | (with_reducible refine Q.drew ?_) | (with_reducible refine Q.call ?_ (by with_reducible assumption)))))⟩
  all_goals first | (simp [L_FnExactIsSummerDay, *]; done) | (simp [L_FnExactIsSummerDay, *]; omega) | (simp [L_FnExactIsSummerDay, *]; simp (disch := omega) only [if_pos, if_neg]; done) | (simp_all [L_FnExactIsSummerDay]; done) | (simp_all [L_FnExactIsSummerDay]; omega)
theorem true_FnExactIsSummerDay (aZ : Zone) (aD : Date) : L_FnExactIsSummerDay aZ aD = true := by
  simp [L_FnExactIsSummerDay, eq_IsSummerDay]
namespace lawFnExactIsSummerDay
set_option maxRecDepth 100000 in
theorem lifted (os : Os) (started : os.Started) (H : Type) (enc : TypeId × Value → H) :
    ReturnsInHanded {} Try.checked os 5 .any (Rows.fnExactIsSummerDaySpec.pre6 enc Try.prog Try.f5 Rows.fnExactIsSummerDayRow.domain false) (Rows.fnExactIsSummerDaySpec.post enc Try.prog Try.f5 false true false false) := by
  refine returnsInHanded_of_change (C := Try.checked) own started (by kernel_rfl) Try.func5
    (ChangeSpec.witness6 (enc := enc) (C := Try.checked) false ⟨#[], #[.agg #[.int .i64 0, .int .i64 0, .int .i64 0, .int .i64 0, .int .i64 0], .agg #[.int .i64 0, .int .i64 0, .int .i64 0]], []⟩ 8 (by kernel_rfl) (by kernel_rfl) (by kernel_rfl) (by kernel_rfl)) ?_
  intro W base args ds gs before hval0 hW hcnd _
  have hval : ∀ (j : Nat) t v, Try.f5.params[j]? = some t → args[j]? = some v → Value.okWide Try.prog W .any base t v := hval0
  have hW' := hW
  obtain ⟨p, q, hA0, hV, rfl, hfz, hnd⟩ := hW
  have hA : DataW.TrodAll enc Try.prog W 0 (fun _ => true) true Try.f5.params.toList args.toList ds p := hA0
  rw [Try.params5] at hA hval
  obtain ⟨v0, vs0, d0, ds0, p0, q0, hargs, rfl, rfl, h0, r0⟩ := trodAll_cons hA
  obtain ⟨v1, vs1, d1, ds1, p1, q1, rfl, rfl, rfl, h1, r1⟩ := trodAll_cons r0
  obtain ⟨rfl, rfl, rfl⟩ := trodAll_nil r1
  obtain rfl : args = #[v0, v1] := by cases args; simp_all
  obtain ⟨rfl, rfl⟩ := trodVars_none hV
  obtain ⟨zs0, hz0, rfl⟩ := open_cells (m := 5) (u := 2) Try.underlying28 (by kernel_rfl) Try.underlying2 (by kernel_rfl) (hval 0 28 v0 rfl rfl)
  obtain ⟨aZ_Offset, aZ_StartMonth, aZ_StartWeek, aZ_EndMonth, aZ_EndWeek, rfl⟩ := list5 hz0
  obtain ⟨zs1, hz1, rfl⟩ := open_cells (m := 3) (u := 2) Try.underlying30 (by kernel_rfl) Try.underlying2 (by kernel_rfl) (hval 1 30 v1 rfl rfl)
  obtain ⟨aD_Year, aD_Month, aD_Day, rfl⟩ := list3 hz1
  refine (walk_FnExactIsSummerDay aZ_Offset aZ_StartMonth aZ_StartWeek aZ_EndMonth aZ_EndWeek aD_Year aD_Month aD_Day W).mono fun e W' ⟨he, hq⟩ => ?_
  rw [true_FnExactIsSummerDay] at he
  subst he
  exact ⟨_, rfl, _, _, _, [], _, [], hW', trodAll_cons_mk (shut_bool Try.underlying4 _) trodAll_mk0,
    all_stay laidOut hq (by rw [Try.params5]; intro t ht; simp only [Array.toList, List.mem_cons, List.not_mem_nil, or_false] at ht; rcases ht with rfl | rfl <;> exact ⟨by kernel_rfl, of_decide_eq_true (by kernel_rfl)⟩) hA0,
    rfl, Below.frame hq _, fun h => by cases h⟩
theorem over : Rows.fnExactIsSummerDayRow.holds Try.pinned (OpenSpec.ofChange Rows.fnExactIsSummerDaySpec) :=
  OpenClaim.holds_of_wide 5 Try.f5 rfl rfl rfl rfl rfl rfl rfl ⟨rfl, rfl, rfl, rfl, rfl⟩ rfl rfl rfl rfl rfl (by kernel_rfl) Try.func5 (by kernel_rfl)
    (of_decide_eq_true (by kernel_rfl)) (by unfold Func.isWrapper; first | (rw [if_pos (by decide +kernel)]; kernel_rfl) | (rw [if_neg (by decide +kernel)]; exact ⟨rfl, rfl⟩))
    (fun os started H enc _ => lifted os started H enc)
theorem proved : Rows.FnExactIsSummerDaySaid :=
  over
#print axioms proved
end lawFnExactIsSummerDay
end Go.Proofs.Ytlckpdagejbchaa
