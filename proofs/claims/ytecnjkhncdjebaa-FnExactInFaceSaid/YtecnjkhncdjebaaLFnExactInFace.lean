/- The statement Rows.FnExactInFaceSaid is proved: for every argument the law returns true and its arguments read as before. No conditions. -/
import Derived.Test.YtecnjkhncdjebaaRows
import Derived.Test.YtecnjkhncdjebaaLaw
import Derived.Test.YtecnjkhncdjebaaC1
import Derived.Test.YtecnjkhncdjebaaC2
import Derived.Test.YtecnjkhncdjebaaC3
import Derived.Test.YtecnjkhncdjebaaE1
import Derived.WalkKit
import Derived.ProofKit
import Derived.OpenShut
import Derived.WalkLawsBesides
import Derived.BigQuiet
import Derived.Deep.QuietTactic
import Derived.Deep.LoopGhost
import Derived.LoopN
import Derived.Deep.RegionWith
import Derived.Deep.CutRange
import Derived.Test.YtecnjkhncdjebaaOwn
namespace Go.Proofs.Ytecnjkhncdjebaa
open Go.ChangeShapes Go.WideShapes Go.ChangeAt Go.RowKit
set_option linter.unusedVariables false
set_option linter.unusedSimpArgs false
def L_FnExactInFace (aF : Face) (aP : Point) : Bool :=
  let t_1 := (S_InFace (L_toFace aF) (L_toPoint aP))
  let w0_2 := t_1.1
  let w1_3 := t_1.2
  let t_4 := (I_InFace (L_toFace aF) (L_toPoint aP))
  let g0_5 := t_4.1
  let g1_6 := t_4.2
  if ((g0_5 != w0_2) || (g1_6 != w1_3)) then
    false
  else
    true
theorem walk_FnExactInFace (aF_Left : Int) (aF_Bottom : Int) (aF_Right : Int) (aF_Top : Int) (aP_X : Int) (aP_Y : Int) (w : World)  : Calls Try.prog 4 #[.agg #[.int .i64 aF_Left, .int .i64 aF_Bottom, .int .i64 aF_Right, .int .i64 aF_Top], .agg #[.int .i64 aP_X, .int .i64 aP_Y]] w fun e w' => e = .returned (.bool ((L_FnExactInFace (⟨aF_Left, aF_Bottom, aF_Right, aF_Top⟩ : Face) (⟨aP_X, aP_Y⟩ : Point)))) ∧ Q w w' := by
  have hset := setRule
  have hall := allocRule
  have halm := allocMark
  have hw64 := wrapRule
  go_enter Try.func4, Try.ntmps4
  go_wp2_with (first | (go_at_call 19; refine (c_S_InFace _ _ _ _ _ _ _ ).mono ?_; rintro e w1 ⟨rfl, hq⟩; obtain ⟨hc, hf⟩ := hq.rules; have hs := hq.le; try simp at hs) | (go_at_call 16; refine (c_L_toFace _ _ _ _ _ ).mono ?_; rintro e w1 ⟨rfl, hq⟩; obtain ⟨hc, hf⟩ := hq.rules; have hs := hq.le; try simp at hs) | (go_at_call 20; refine (c_L_toPoint _ _ _ ).mono ?_; rintro e w1 ⟨rfl, hq⟩; obtain ⟨hc, hf⟩ := hq.rules; have hs := hq.le; try simp at hs) | (go_at_call 21; refine (c_I_InFace _ _ _ _ _ _ _ ).mono ?_; rintro e w1 ⟨rfl, hq⟩; obtain ⟨hc, hf⟩ := hq.rules; have hs := hq.le; try simp at hs))
  all_goals try (
    refine region_Q_all (id := 1) (by kernel_rfl) (by kernel_rfl) ?_
    repeat (first | (apply q_step rfl; (intro wq hq; have hr := Q.rules hq; have hcq := hr.1; have hfq := hr.2; clear hr; have hsq := Q.le hq; (try simp at hsq); go_simp; (repeat (simp (disch := omega) only [if_pos, if_neg]; try go_simp)); (first | rfl | exact ⟨rfl, rfl⟩ | (go_at_call 19; exact quiet_grow hq (c_S_InFace _ _ _ _ _ _ _ )) | (go_at_call 16; exact quiet_grow hq (c_L_toFace _ _ _ _ _ )) | (go_at_call 20; exact quiet_grow hq (c_L_toPoint _ _ _ )) | (go_at_call 21; exact quiet_grow hq (c_I_InFace _ _ _ _ _ _ _ )))); try go_simp) | (apply q_skip rfl; try go_simp))
    refine wpQuiet_nil ?_
    intro w1 hq
    have hr := Q.rules hq; have hc := hr.1; have hf := hr.2; clear hr; have hs := Q.le hq; try simp at hs)
  all_goals try go_wp2_with (first | (go_at_call 19; refine (c_S_InFace _ _ _ _ _ _ _ ).mono ?_; rintro e w1 ⟨rfl, hq⟩; obtain ⟨hc, hf⟩ := hq.rules; have hs := hq.le; try simp at hs) | (go_at_call 16; refine (c_L_toFace _ _ _ _ _ ).mono ?_; rintro e w1 ⟨rfl, hq⟩; obtain ⟨hc, hf⟩ := hq.rules; have hs := hq.le; try simp at hs) | (go_at_call 20; refine (c_L_toPoint _ _ _ ).mono ?_; rintro e w1 ⟨rfl, hq⟩; obtain ⟨hc, hf⟩ := hq.rules; have hs := hq.le; try simp at hs) | (go_at_call 21; refine (c_I_InFace _ _ _ _ _ _ _ ).mono ?_; rintro e w1 ⟨rfl, hq⟩; obtain ⟨hc, hf⟩ := hq.rules; have hs := hq.le; try simp at hs))
  all_goals try (
    refine region_Q_all (id := 2) (by kernel_rfl) (by kernel_rfl) ?_
    repeat (first | (apply q_step rfl; (intro wq hq; have hr := Q.rules hq; have hcq := hr.1; have hfq := hr.2; clear hr; have hsq := Q.le hq; (try simp at hsq); go_simp; (repeat (simp (disch := omega) only [if_pos, if_neg]; try go_simp)); (first | rfl | exact ⟨rfl, rfl⟩ | (go_at_call 19; exact quiet_grow hq (c_S_InFace _ _ _ _ _ _ _ )) | (go_at_call 16; exact quiet_grow hq (c_L_toFace _ _ _ _ _ )) | (go_at_call 20; exact quiet_grow hq (c_L_toPoint _ _ _ )) | (go_at_call 21; exact quiet_grow hq (c_I_InFace _ _ _ _ _ _ _ )))); try go_simp) | (apply q_skip rfl; try go_simp))
    refine wpQuiet_nil ?_
    intro w1 hq
    have hr := Q.rules hq; have hc := hr.1; have hf := hr.2; clear hr; have hs := Q.le hq; try simp at hs)
  all_goals try go_wp2_with (first | (go_at_call 19; refine (c_S_InFace _ _ _ _ _ _ _ ).mono ?_; rintro e w1 ⟨rfl, hq⟩; obtain ⟨hc, hf⟩ := hq.rules; have hs := hq.le; try simp at hs) | (go_at_call 16; refine (c_L_toFace _ _ _ _ _ ).mono ?_; rintro e w1 ⟨rfl, hq⟩; obtain ⟨hc, hf⟩ := hq.rules; have hs := hq.le; try simp at hs) | (go_at_call 20; refine (c_L_toPoint _ _ _ ).mono ?_; rintro e w1 ⟨rfl, hq⟩; obtain ⟨hc, hf⟩ := hq.rules; have hs := hq.le; try simp at hs) | (go_at_call 21; refine (c_I_InFace _ _ _ _ _ _ _ ).mono ?_; rintro e w1 ⟨rfl, hq⟩; obtain ⟨hc, hf⟩ := hq.rules; have hs := hq.le; try simp at hs))
  all_goals go_ret
  all_goals refine ⟨?_, (by (repeat (first | (with_reducible exact Q.refl _) | (with_reducible assumption) | (with_reducible refine Q.setCell ?_ (by dsimp only; omega) _) | (with_reducible refine Q.alloc ?_ _) | (with_reducible refine Q.drew ?_) | (with_reducible refine Q.call ?_ (by with_reducible assumption)))))⟩
  all_goals first | (simp [L_FnExactInFace, *]; done) | (simp [L_FnExactInFace, *]; omega) | (simp [L_FnExactInFace, *]; simp (disch := omega) only [if_pos, if_neg]; done) | (simp_all [L_FnExactInFace]; done) | (simp_all [L_FnExactInFace]; omega)
theorem true_FnExactInFace (aF : Face) (aP : Point) : L_FnExactInFace aF aP = true := by
  simp [L_FnExactInFace, eq_InFace]
namespace lawFnExactInFace
set_option maxRecDepth 100000 in
theorem lifted (os : Os) (started : os.Started) (H : Type) (enc : TypeId × Value → H) :
    ReturnsInHanded {} Try.checked os 4 .any (Rows.fnExactInFaceSpec.pre6 enc Try.prog Try.f4 Rows.fnExactInFaceRow.domain false) (Rows.fnExactInFaceSpec.post enc Try.prog Try.f4 false true false false) := by
  refine returnsInHanded_of_change (C := Try.checked) own started (by kernel_rfl) Try.func4
    (ChangeSpec.witness6 (enc := enc) (C := Try.checked) false ⟨#[], #[.agg #[.int .i64 0, .int .i64 0, .int .i64 0, .int .i64 0], .agg #[.int .i64 0, .int .i64 0]], []⟩ 8 (by kernel_rfl) (by kernel_rfl) (by kernel_rfl) (by kernel_rfl)) ?_
  intro W base args ds gs before hval0 hW hcnd _
  have hval : ∀ (j : Nat) t v, Try.f4.params[j]? = some t → args[j]? = some v → Value.okWide Try.prog W .any base t v := hval0
  have hW' := hW
  obtain ⟨p, q, hA0, hV, rfl, hfz, hnd⟩ := hW
  have hA : DataW.TrodAll enc Try.prog W 0 (fun _ => true) true Try.f4.params.toList args.toList ds p := hA0
  rw [Try.params4] at hA hval
  obtain ⟨v0, vs0, d0, ds0, p0, q0, hargs, rfl, rfl, h0, r0⟩ := trodAll_cons hA
  obtain ⟨v1, vs1, d1, ds1, p1, q1, rfl, rfl, rfl, h1, r1⟩ := trodAll_cons r0
  obtain ⟨rfl, rfl, rfl⟩ := trodAll_nil r1
  obtain rfl : args = #[v0, v1] := by cases args; simp_all
  obtain ⟨rfl, rfl⟩ := trodVars_none hV
  obtain ⟨zs0, hz0, rfl⟩ := open_cells (m := 4) (u := 2) Try.underlying23 (by kernel_rfl) Try.underlying2 (by kernel_rfl) (hval 0 23 v0 rfl rfl)
  obtain ⟨aF_Left, aF_Bottom, aF_Right, aF_Top, rfl⟩ := list4 hz0
  obtain ⟨zs1, hz1, rfl⟩ := open_cells (m := 2) (u := 2) Try.underlying31 (by kernel_rfl) Try.underlying2 (by kernel_rfl) (hval 1 31 v1 rfl rfl)
  obtain ⟨aP_X, aP_Y, rfl⟩ := list2 hz1
  refine (walk_FnExactInFace aF_Left aF_Bottom aF_Right aF_Top aP_X aP_Y W).mono fun e W' ⟨he, hq⟩ => ?_
  rw [true_FnExactInFace] at he
  subst he
  exact ⟨_, rfl, _, _, _, [], _, [], hW', trodAll_cons_mk (shut_bool Try.underlying4 _) trodAll_mk0,
    all_stay laidOut hq (by rw [Try.params4]; intro t ht; simp only [Array.toList, List.mem_cons, List.not_mem_nil, or_false] at ht; rcases ht with rfl | rfl <;> exact ⟨by kernel_rfl, of_decide_eq_true (by kernel_rfl)⟩) hA0,
    rfl, Below.frame hq _, fun h => by cases h⟩
theorem over : Rows.fnExactInFaceRow.holds Try.pinned (OpenSpec.ofChange Rows.fnExactInFaceSpec) :=
  OpenClaim.holds_of_wide 4 Try.f4 rfl rfl rfl rfl rfl rfl rfl ⟨rfl, rfl, rfl, rfl, rfl⟩ rfl rfl rfl rfl rfl (by kernel_rfl) Try.func4 (by kernel_rfl)
    (of_decide_eq_true (by kernel_rfl)) (by unfold Func.isWrapper; first | (rw [if_pos (by decide +kernel)]; kernel_rfl) | (rw [if_neg (by decide +kernel)]; exact ⟨rfl, rfl⟩))
    (fun os started H enc _ => lifted os started H enc)
theorem proved : Rows.FnExactInFaceSaid :=
  over
#print axioms proved
end lawFnExactInFace
end Go.Proofs.Ytecnjkhncdjebaa
