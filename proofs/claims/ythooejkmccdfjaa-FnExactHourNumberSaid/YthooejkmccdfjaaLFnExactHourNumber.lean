/- The statement Rows.FnExactHourNumberSaid is proved: for every argument the law returns true and its arguments read as before. No conditions. -/
import Derived.Test.YthooejkmccdfjaaRows
import Derived.Test.YthooejkmccdfjaaLaw
import Derived.Test.YthooejkmccdfjaaC1
import Derived.Test.YthooejkmccdfjaaC2
import Derived.Test.YthooejkmccdfjaaC3
import Derived.Test.YthooejkmccdfjaaC4
import Derived.Test.YthooejkmccdfjaaC5
import Derived.Test.YthooejkmccdfjaaE1
import Derived.Test.YthooejkmccdfjaaE2
import Derived.Test.YthooejkmccdfjaaE3
import Derived.Test.YthooejkmccdfjaaE6
import Derived.WalkKit
import Derived.ProofKit
import Derived.OpenShut
import Derived.WalkLawsBesides
import Derived.BigQuiet
import Derived.Deep.QuietTactic
import Derived.Deep.LoopGhost
import Derived.LoopN
namespace Go.Proofs.Ythooejkmccdfjaa
open Go.ChangeShapes Go.WideShapes Go.ChangeAt Go.RowKit
set_option linter.unusedVariables false
set_option linter.unusedSimpArgs false
def L_FnExactHourNumber (aD : Day) (aSystem : Int) (aMinute : Int) : Bool :=
  let t_1 := (S_HourNumber (L_toDay aD) aSystem aMinute)
  let w0_2 := t_1.1
  let w1_3 := t_1.2
  let t_4 := (I_HourNumber (L_toDay aD) aSystem aMinute)
  let g0_5 := t_4.1
  let g1_6 := t_4.2
  if ((g0_5 != w0_2) || (g1_6 != w1_3)) then
    false
  else
    true
theorem walk_FnExactHourNumber (aD_Rise : Int) (aD_Set : Int) (aSystem : Int) (aMinute : Int) (w : World)  : Calls Try.prog 8 #[.agg #[.int .i64 aD_Rise, .int .i64 aD_Set], .int .i64 aSystem, .int .i64 aMinute] w fun e w' => e = .returned (.bool ((L_FnExactHourNumber (⟨aD_Rise, aD_Set⟩ : Day) aSystem aMinute))) ∧ Q w w' := by
  have hset := setRule
  have hall := allocRule
  have halm := allocMark
  have hw64 := wrapRule
  go_enter Try.func8, Try.ntmps8
  go_wp2_with (first | (go_at_call 35; refine (c_S_HourNumber _ _ _ _ _ ).mono ?_; rintro e w1 ⟨rfl, hq⟩; obtain ⟨hc, hf⟩ := hq.rules; have hs := hq.le; try simp at hs) | (go_at_call 36; refine (c_L_toDay _ _ _ ).mono ?_; rintro e w1 ⟨rfl, hq⟩; obtain ⟨hc, hf⟩ := hq.rules; have hs := hq.le; try simp at hs) | (go_at_call 37; refine (c_I_HourNumber _ _ _ _ _ ).mono ?_; rintro e w1 ⟨rfl, hq⟩; obtain ⟨hc, hf⟩ := hq.rules; have hs := hq.le; try simp at hs))
  all_goals go_ret
  all_goals refine ⟨?_, (by (repeat (first | (with_reducible exact Q.refl _) | (with_reducible assumption) | (with_reducible refine Q.setCell ?_ (by dsimp only; omega) _) | (with_reducible refine Q.alloc ?_ _) | (with_reducible refine Q.drew ?_) | (with_reducible refine Q.call ?_ (by with_reducible assumption)))))⟩
  all_goals first | (simp [L_FnExactHourNumber, *]; done) | (simp [L_FnExactHourNumber, *]; omega) | (simp [L_FnExactHourNumber, *]; simp (disch := omega) only [if_pos, if_neg]; done) | (simp_all [L_FnExactHourNumber]; done) | (simp_all [L_FnExactHourNumber]; omega)
theorem true_FnExactHourNumber (aD : Day) (aSystem : Int) (aMinute : Int) : L_FnExactHourNumber aD aSystem aMinute = true := by
  simp [L_FnExactHourNumber, eq_HourNumber]
namespace lawFnExactHourNumber
set_option maxRecDepth 100000 in
theorem lifted (os : Os) (started : os.Started) (H : Type) (enc : TypeId × Value → H) :
    ReturnsInHanded {} Try.checked os 8 .any (Rows.fnExactHourNumberSpec.pre6 enc Try.prog Try.f8 Rows.fnExactHourNumberRow.domain false) (Rows.fnExactHourNumberSpec.post enc Try.prog Try.f8 false true false false) := by
  refine returnsInHanded_of_change (C := Try.checked) own started (by kernel_rfl) Try.func8
    (ChangeSpec.witness6 (enc := enc) (C := Try.checked) false ⟨#[], #[.agg #[.int .i64 0, .int .i64 0], .int .i64 0, .int .i64 0], []⟩ 8 (by kernel_rfl) (by kernel_rfl) (by kernel_rfl) (by kernel_rfl)) ?_
  intro W base args ds gs before hval0 hW hcnd _
  have hval : ∀ (j : Nat) t v, Try.f8.params[j]? = some t → args[j]? = some v → Value.okWide Try.prog W .any base t v := hval0
  have hW' := hW
  obtain ⟨p, q, hA0, hV, rfl, hfz, hnd⟩ := hW
  have hA : DataW.TrodAll enc Try.prog W 0 (fun _ => true) true Try.f8.params.toList args.toList ds p := hA0
  rw [Try.params8] at hA hval
  obtain ⟨v0, vs0, d0, ds0, p0, q0, hargs, rfl, rfl, h0, r0⟩ := trodAll_cons hA
  obtain ⟨v1, vs1, d1, ds1, p1, q1, rfl, rfl, rfl, h1, r1⟩ := trodAll_cons r0
  obtain ⟨v2, vs2, d2, ds2, p2, q2, rfl, rfl, rfl, h2, r2⟩ := trodAll_cons r1
  obtain ⟨rfl, rfl, rfl⟩ := trodAll_nil r2
  obtain rfl : args = #[v0, v1, v2] := by cases args; simp_all
  obtain ⟨rfl, rfl⟩ := trodVars_none hV
  obtain ⟨zs0, hz0, rfl⟩ := open_cells (m := 2) (u := 2) Try.underlying56 (by kernel_rfl) Try.underlying2 (by kernel_rfl) (hval 0 56 v0 rfl rfl)
  obtain ⟨aD_Rise, aD_Set, rfl⟩ := list2 hz0
  obtain ⟨aSystem, rfl, _, _, _⟩ := open_int Try.underlying2 (hval 1 2 v1 rfl rfl) h1
  obtain ⟨aMinute, rfl, _, _, _⟩ := open_int Try.underlying2 (hval 2 2 v2 rfl rfl) h2
  refine (walk_FnExactHourNumber aD_Rise aD_Set aSystem aMinute W).mono fun e W' ⟨he, hq⟩ => ?_
  rw [true_FnExactHourNumber] at he
  subst he
  exact ⟨_, rfl, _, _, _, [], _, [], hW', trodAll_cons_mk (shut_bool Try.underlying4 _) trodAll_mk0,
    all_stay laidOut hq (by rw [Try.params8]; intro t ht; simp only [Array.toList, List.mem_cons, List.not_mem_nil, or_false] at ht; rcases ht with rfl | rfl | rfl <;> exact ⟨by kernel_rfl, of_decide_eq_true (by kernel_rfl)⟩) hA0,
    rfl, Below.frame hq _, fun h => by cases h⟩
theorem over : Rows.fnExactHourNumberRow.holds Try.pinned (OpenSpec.ofChange Rows.fnExactHourNumberSpec) :=
  OpenClaim.holds_of_wide 8 Try.f8 rfl rfl rfl rfl rfl rfl rfl ⟨rfl, rfl, rfl, rfl, rfl⟩ rfl rfl rfl rfl rfl (by kernel_rfl) Try.func8 (by kernel_rfl)
    (of_decide_eq_true (by kernel_rfl)) (by unfold Func.isWrapper; first | (rw [if_pos (by decide +kernel)]; kernel_rfl) | (rw [if_neg (by decide +kernel)]; exact ⟨rfl, rfl⟩))
    (fun os started H enc _ => lifted os started H enc)
theorem proved : Rows.FnExactHourNumberSaid :=
  over
#print axioms proved
end lawFnExactHourNumber
end Go.Proofs.Ythooejkmccdfjaa
