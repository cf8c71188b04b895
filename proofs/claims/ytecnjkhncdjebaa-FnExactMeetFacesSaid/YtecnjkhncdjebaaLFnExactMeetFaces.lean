/- The statement Rows.FnExactMeetFacesSaid is proved: for every argument the law returns true and its arguments read as before. No conditions. -/
import Derived.Test.YtecnjkhncdjebaaRows
import Derived.Test.YtecnjkhncdjebaaLaw
import Derived.Test.YtecnjkhncdjebaaC1
import Derived.Test.YtecnjkhncdjebaaC2
import Derived.Test.YtecnjkhncdjebaaE1
import Derived.WalkKit
import Derived.ProofKit
import Derived.OpenShut
import Derived.WalkLawsBesides
import Derived.BigQuiet
import Derived.Deep.QuietTactic
namespace Go.Proofs.Ytecnjkhncdjebaa
open Go.ChangeShapes Go.WideShapes Go.ChangeAt Go.RowKit
set_option linter.unusedVariables false
set_option linter.unusedSimpArgs false
def L_FnExactMeetFaces (aF : Face) (aG : Face) : Bool :=
  let t_1 := (S_MeetFaces (L_toFace aF) (L_toFace aG))
  let w0_2 := t_1.1
  let w1_3 := t_1.2
  let t_4 := (I_MeetFaces (L_toFace aF) (L_toFace aG))
  let g0_5 := t_4.1
  let g1_6 := t_4.2
  if ((!(L_eqFace g0_5 w0_2)) || (g1_6 != w1_3)) then
    false
  else
    true
theorem walk_FnExactMeetFaces (aF_Left : Int) (aF_Bottom : Int) (aF_Right : Int) (aF_Top : Int) (aG_Left : Int) (aG_Bottom : Int) (aG_Right : Int) (aG_Top : Int) (w : World)  : Calls Try.prog 3 #[.agg #[.int .i64 aF_Left, .int .i64 aF_Bottom, .int .i64 aF_Right, .int .i64 aF_Top], .agg #[.int .i64 aG_Left, .int .i64 aG_Bottom, .int .i64 aG_Right, .int .i64 aG_Top]] w fun e w' => e = .returned (.bool ((L_FnExactMeetFaces (⟨aF_Left, aF_Bottom, aF_Right, aF_Top⟩ : Face) (⟨aG_Left, aG_Bottom, aG_Right, aG_Top⟩ : Face)))) ∧ Q w w' := by
  have hset := setRule
  have hall := allocRule
  have halm := allocMark
  have hw64 := wrapRule
  go_enter Try.func3, Try.ntmps3
  go_wp2_with (first | (go_at_call 15; refine (c_S_MeetFaces _ _ _ _ _ _ _ _ _ ).mono ?_; rintro e w1 ⟨rfl, hq⟩; obtain ⟨hc, hf⟩ := hq.rules; have hs := hq.le; try simp at hs) | (go_at_call 16; refine (c_L_toFace _ _ _ _ _ ).mono ?_; rintro e w1 ⟨rfl, hq⟩; obtain ⟨hc, hf⟩ := hq.rules; have hs := hq.le; try simp at hs) | (go_at_call 17; refine (c_I_MeetFaces _ _ _ _ _ _ _ _ _ ).mono ?_; rintro e w1 ⟨rfl, hq⟩; obtain ⟨hc, hf⟩ := hq.rules; have hs := hq.le; try simp at hs) | (go_at_call 18; refine (c_L_eqFace _ _ _ _ _ _ _ _ _ ).mono ?_; rintro e w1 ⟨rfl, hq⟩; obtain ⟨hc, hf⟩ := hq.rules; have hs := hq.le; try simp at hs))
  all_goals try (
    refine region_new1 (id := 1) 8 (.cells #[.int .i64 0, .int .i64 0, .int .i64 0, .int .i64 0] 24) 5 (by kernel_rfl) (by kernel_rfl) (fun d _ _ _ _ h => by cases d <;> exact h) rfl (by intro i o h1 h2 ho; obtain rfl : i = 8 := (by omega); obtain rfl := Option.some.inj (show some _ = some o from ho); exact ⟨fun _ => rfl, fun a w => by simp [go_sem, ptr]⟩) ?_
    simp only [List.take_succ_cons, List.take_zero, List.drop_succ_cons, List.drop_zero]
    first | (apply f_step rfl (by kernel_rfl); (intro x wq hx; have hr := Q.rules hx.q; have hcq := hr.1; have hfq := hr.2; clear hr; have hsq := Q.le hx.q; (try simp at hsq); go_simp; (repeat (simp (disch := omega) only [if_pos, if_neg]; try go_simp)); (first | rfl | exact ⟨rfl, rfl⟩ | (go_at_call 15; exact fam_grow hx (c_S_MeetFaces _ _ _ _ _ _ _ _ _ )) | (go_at_call 16; exact fam_grow hx (c_L_toFace _ _ _ _ _ )) | (go_at_call 17; exact fam_grow hx (c_I_MeetFaces _ _ _ _ _ _ _ _ _ )) | (go_at_call 18; exact fam_grow hx (c_L_eqFace _ _ _ _ _ _ _ _ _ )))); try go_simp) | (apply f_skip rfl; try go_simp)
    first | (apply f_step rfl (by kernel_rfl); (intro x wq hx; have hr := Q.rules hx.q; have hcq := hr.1; have hfq := hr.2; clear hr; have hsq := Q.le hx.q; (try simp at hsq); go_simp; (repeat (simp (disch := omega) only [if_pos, if_neg]; try go_simp)); (first | rfl | exact ⟨rfl, rfl⟩ | (go_at_call 15; exact fam_grow hx (c_S_MeetFaces _ _ _ _ _ _ _ _ _ )) | (go_at_call 16; exact fam_grow hx (c_L_toFace _ _ _ _ _ )) | (go_at_call 17; exact fam_grow hx (c_I_MeetFaces _ _ _ _ _ _ _ _ _ )) | (go_at_call 18; exact fam_grow hx (c_L_eqFace _ _ _ _ _ _ _ _ _ )))); try go_simp) | (apply f_skip rfl; try go_simp)
    first | (apply f_step rfl (by kernel_rfl); (intro x wq hx; have hr := Q.rules hx.q; have hcq := hr.1; have hfq := hr.2; clear hr; have hsq := Q.le hx.q; (try simp at hsq); go_simp; (repeat (simp (disch := omega) only [if_pos, if_neg]; try go_simp)); (first | rfl | exact ⟨rfl, rfl⟩ | (go_at_call 15; exact fam_grow hx (c_S_MeetFaces _ _ _ _ _ _ _ _ _ )) | (go_at_call 16; exact fam_grow hx (c_L_toFace _ _ _ _ _ )) | (go_at_call 17; exact fam_grow hx (c_I_MeetFaces _ _ _ _ _ _ _ _ _ )) | (go_at_call 18; exact fam_grow hx (c_L_eqFace _ _ _ _ _ _ _ _ _ )))); try go_simp) | (apply f_skip rfl; try go_simp)
    first | (apply f_step rfl (by kernel_rfl); (intro x wq hx; have hr := Q.rules hx.q; have hcq := hr.1; have hfq := hr.2; clear hr; have hsq := Q.le hx.q; (try simp at hsq); go_simp; (repeat (simp (disch := omega) only [if_pos, if_neg]; try go_simp)); (first | rfl | exact ⟨rfl, rfl⟩ | (go_at_call 15; exact fam_grow hx (c_S_MeetFaces _ _ _ _ _ _ _ _ _ )) | (go_at_call 16; exact fam_grow hx (c_L_toFace _ _ _ _ _ )) | (go_at_call 17; exact fam_grow hx (c_I_MeetFaces _ _ _ _ _ _ _ _ _ )) | (go_at_call 18; exact fam_grow hx (c_L_eqFace _ _ _ _ _ _ _ _ _ )))); try go_simp) | (apply f_skip rfl; try go_simp)
    first | (apply f_step rfl (by kernel_rfl); (intro x wq hx; have hr := Q.rules hx.q; have hcq := hr.1; have hfq := hr.2; clear hr; have hsq := Q.le hx.q; (try simp at hsq); go_simp; (repeat (simp (disch := omega) only [if_pos, if_neg]; try go_simp)); (first | rfl | exact ⟨rfl, rfl⟩ | (go_at_call 15; exact fam_grow hx (c_S_MeetFaces _ _ _ _ _ _ _ _ _ )) | (go_at_call 16; exact fam_grow hx (c_L_toFace _ _ _ _ _ )) | (go_at_call 17; exact fam_grow hx (c_I_MeetFaces _ _ _ _ _ _ _ _ _ )) | (go_at_call 18; exact fam_grow hx (c_L_eqFace _ _ _ _ _ _ _ _ _ )))); try go_simp) | (apply f_skip rfl; try go_simp)
    first | (apply f_step rfl (by kernel_rfl); (intro x wq hx; have hr := Q.rules hx.q; have hcq := hr.1; have hfq := hr.2; clear hr; have hsq := Q.le hx.q; (try simp at hsq); go_simp; (repeat (simp (disch := omega) only [if_pos, if_neg]; try go_simp)); (first | rfl | exact ⟨rfl, rfl⟩ | (go_at_call 15; exact fam_grow hx (c_S_MeetFaces _ _ _ _ _ _ _ _ _ )) | (go_at_call 16; exact fam_grow hx (c_L_toFace _ _ _ _ _ )) | (go_at_call 17; exact fam_grow hx (c_I_MeetFaces _ _ _ _ _ _ _ _ _ )) | (go_at_call 18; exact fam_grow hx (c_L_eqFace _ _ _ _ _ _ _ _ _ )))); try go_simp) | (apply f_skip rfl; try go_simp)
    first | (apply f_step rfl (by kernel_rfl); (intro x wq hx; have hr := Q.rules hx.q; have hcq := hr.1; have hfq := hr.2; clear hr; have hsq := Q.le hx.q; (try simp at hsq); go_simp; (repeat (simp (disch := omega) only [if_pos, if_neg]; try go_simp)); (first | rfl | exact ⟨rfl, rfl⟩ | (go_at_call 15; exact fam_grow hx (c_S_MeetFaces _ _ _ _ _ _ _ _ _ )) | (go_at_call 16; exact fam_grow hx (c_L_toFace _ _ _ _ _ )) | (go_at_call 17; exact fam_grow hx (c_I_MeetFaces _ _ _ _ _ _ _ _ _ )) | (go_at_call 18; exact fam_grow hx (c_L_eqFace _ _ _ _ _ _ _ _ _ )))); try go_simp) | (apply f_skip rfl; try go_simp)
    first | (apply f_pure rfl; (intro wq; go_simp; rfl); try go_simp) | (apply f_skip rfl; try go_simp)
    refine f_nil ?_
    intro b w1 hx
    have hq := hx.q; have hn1 := hx.cells; have hn2 := hx.newCells; obtain ⟨hb1, hb2, hb3, hb4⟩ := hn1; obtain ⟨hb5, hb6⟩ := hn2; clear hx; try simp at hb1
    have hr := Q.rules hq; have hc := hr.1; have hf := hr.2; clear hr; have hs := Q.le hq; try simp at hs
    try go_simp)
  all_goals try go_wp2_with (first | (go_at_call 15; refine (c_S_MeetFaces _ _ _ _ _ _ _ _ _ ).mono ?_; rintro e w1 ⟨rfl, hq⟩; obtain ⟨hc, hf⟩ := hq.rules; have hs := hq.le; try simp at hs) | (go_at_call 16; refine (c_L_toFace _ _ _ _ _ ).mono ?_; rintro e w1 ⟨rfl, hq⟩; obtain ⟨hc, hf⟩ := hq.rules; have hs := hq.le; try simp at hs) | (go_at_call 17; refine (c_I_MeetFaces _ _ _ _ _ _ _ _ _ ).mono ?_; rintro e w1 ⟨rfl, hq⟩; obtain ⟨hc, hf⟩ := hq.rules; have hs := hq.le; try simp at hs) | (go_at_call 18; refine (c_L_eqFace _ _ _ _ _ _ _ _ _ ).mono ?_; rintro e w1 ⟨rfl, hq⟩; obtain ⟨hc, hf⟩ := hq.rules; have hs := hq.le; try simp at hs))
  all_goals try (
    refine region_new1 (id := 2) 8 (.cells #[.int .i64 0, .int .i64 0, .int .i64 0, .int .i64 0] 24) 7 (by kernel_rfl) (by kernel_rfl) (fun d _ _ _ _ h => by cases d <;> exact h) rfl (by intro i o h1 h2 ho; obtain rfl : i = 8 := (by omega); obtain rfl := Option.some.inj (show some _ = some o from ho); exact ⟨fun _ => rfl, fun a w => by simp [go_sem, ptr]⟩) ?_
    simp only [List.take_succ_cons, List.take_zero, List.drop_succ_cons, List.drop_zero]
    first | (apply f_step rfl (by kernel_rfl); (intro x wq hx; have hr := Q.rules hx.q; have hcq := hr.1; have hfq := hr.2; clear hr; have hsq := Q.le hx.q; (try simp at hsq); go_simp; (repeat (simp (disch := omega) only [if_pos, if_neg]; try go_simp)); (first | rfl | exact ⟨rfl, rfl⟩ | (go_at_call 15; exact fam_grow hx (c_S_MeetFaces _ _ _ _ _ _ _ _ _ )) | (go_at_call 16; exact fam_grow hx (c_L_toFace _ _ _ _ _ )) | (go_at_call 17; exact fam_grow hx (c_I_MeetFaces _ _ _ _ _ _ _ _ _ )) | (go_at_call 18; exact fam_grow hx (c_L_eqFace _ _ _ _ _ _ _ _ _ )))); try go_simp) | (apply f_skip rfl; try go_simp)
    first | (apply f_step rfl (by kernel_rfl); (intro x wq hx; have hr := Q.rules hx.q; have hcq := hr.1; have hfq := hr.2; clear hr; have hsq := Q.le hx.q; (try simp at hsq); go_simp; (repeat (simp (disch := omega) only [if_pos, if_neg]; try go_simp)); (first | rfl | exact ⟨rfl, rfl⟩ | (go_at_call 15; exact fam_grow hx (c_S_MeetFaces _ _ _ _ _ _ _ _ _ )) | (go_at_call 16; exact fam_grow hx (c_L_toFace _ _ _ _ _ )) | (go_at_call 17; exact fam_grow hx (c_I_MeetFaces _ _ _ _ _ _ _ _ _ )) | (go_at_call 18; exact fam_grow hx (c_L_eqFace _ _ _ _ _ _ _ _ _ )))); try go_simp) | (apply f_skip rfl; try go_simp)
    first | (apply f_step rfl (by kernel_rfl); (intro x wq hx; have hr := Q.rules hx.q; have hcq := hr.1; have hfq := hr.2; clear hr; have hsq := Q.le hx.q; (try simp at hsq); go_simp; (repeat (simp (disch := omega) only [if_pos, if_neg]; try go_simp)); (first | rfl | exact ⟨rfl, rfl⟩ | (go_at_call 15; exact fam_grow hx (c_S_MeetFaces _ _ _ _ _ _ _ _ _ )) | (go_at_call 16; exact fam_grow hx (c_L_toFace _ _ _ _ _ )) | (go_at_call 17; exact fam_grow hx (c_I_MeetFaces _ _ _ _ _ _ _ _ _ )) | (go_at_call 18; exact fam_grow hx (c_L_eqFace _ _ _ _ _ _ _ _ _ )))); try go_simp) | (apply f_skip rfl; try go_simp)
    first | (apply f_step rfl (by kernel_rfl); (intro x wq hx; have hr := Q.rules hx.q; have hcq := hr.1; have hfq := hr.2; clear hr; have hsq := Q.le hx.q; (try simp at hsq); go_simp; (repeat (simp (disch := omega) only [if_pos, if_neg]; try go_simp)); (first | rfl | exact ⟨rfl, rfl⟩ | (go_at_call 15; exact fam_grow hx (c_S_MeetFaces _ _ _ _ _ _ _ _ _ )) | (go_at_call 16; exact fam_grow hx (c_L_toFace _ _ _ _ _ )) | (go_at_call 17; exact fam_grow hx (c_I_MeetFaces _ _ _ _ _ _ _ _ _ )) | (go_at_call 18; exact fam_grow hx (c_L_eqFace _ _ _ _ _ _ _ _ _ )))); try go_simp) | (apply f_skip rfl; try go_simp)
    first | (apply f_step rfl (by kernel_rfl); (intro x wq hx; have hr := Q.rules hx.q; have hcq := hr.1; have hfq := hr.2; clear hr; have hsq := Q.le hx.q; (try simp at hsq); go_simp; (repeat (simp (disch := omega) only [if_pos, if_neg]; try go_simp)); (first | rfl | exact ⟨rfl, rfl⟩ | (go_at_call 15; exact fam_grow hx (c_S_MeetFaces _ _ _ _ _ _ _ _ _ )) | (go_at_call 16; exact fam_grow hx (c_L_toFace _ _ _ _ _ )) | (go_at_call 17; exact fam_grow hx (c_I_MeetFaces _ _ _ _ _ _ _ _ _ )) | (go_at_call 18; exact fam_grow hx (c_L_eqFace _ _ _ _ _ _ _ _ _ )))); try go_simp) | (apply f_skip rfl; try go_simp)
    first | (apply f_step rfl (by kernel_rfl); (intro x wq hx; have hr := Q.rules hx.q; have hcq := hr.1; have hfq := hr.2; clear hr; have hsq := Q.le hx.q; (try simp at hsq); go_simp; (repeat (simp (disch := omega) only [if_pos, if_neg]; try go_simp)); (first | rfl | exact ⟨rfl, rfl⟩ | (go_at_call 15; exact fam_grow hx (c_S_MeetFaces _ _ _ _ _ _ _ _ _ )) | (go_at_call 16; exact fam_grow hx (c_L_toFace _ _ _ _ _ )) | (go_at_call 17; exact fam_grow hx (c_I_MeetFaces _ _ _ _ _ _ _ _ _ )) | (go_at_call 18; exact fam_grow hx (c_L_eqFace _ _ _ _ _ _ _ _ _ )))); try go_simp) | (apply f_skip rfl; try go_simp)
    first | (apply f_step rfl (by kernel_rfl); (intro x wq hx; have hr := Q.rules hx.q; have hcq := hr.1; have hfq := hr.2; clear hr; have hsq := Q.le hx.q; (try simp at hsq); go_simp; (repeat (simp (disch := omega) only [if_pos, if_neg]; try go_simp)); (first | rfl | exact ⟨rfl, rfl⟩ | (go_at_call 15; exact fam_grow hx (c_S_MeetFaces _ _ _ _ _ _ _ _ _ )) | (go_at_call 16; exact fam_grow hx (c_L_toFace _ _ _ _ _ )) | (go_at_call 17; exact fam_grow hx (c_I_MeetFaces _ _ _ _ _ _ _ _ _ )) | (go_at_call 18; exact fam_grow hx (c_L_eqFace _ _ _ _ _ _ _ _ _ )))); try go_simp) | (apply f_skip rfl; try go_simp)
    first | (apply f_pure rfl; (intro wq; go_simp; rfl); try go_simp) | (apply f_skip rfl; try go_simp)
    refine f_nil ?_
    intro b w1 hx
    have hq := hx.q; have hn1 := hx.cells; have hn2 := hx.newCells; obtain ⟨hb1, hb2, hb3, hb4⟩ := hn1; obtain ⟨hb5, hb6⟩ := hn2; clear hx; try simp at hb1
    have hr := Q.rules hq; have hc := hr.1; have hf := hr.2; clear hr; have hs := Q.le hq; try simp at hs
    try go_simp)
  all_goals try go_wp2_with (first | (go_at_call 15; refine (c_S_MeetFaces _ _ _ _ _ _ _ _ _ ).mono ?_; rintro e w1 ⟨rfl, hq⟩; obtain ⟨hc, hf⟩ := hq.rules; have hs := hq.le; try simp at hs) | (go_at_call 16; refine (c_L_toFace _ _ _ _ _ ).mono ?_; rintro e w1 ⟨rfl, hq⟩; obtain ⟨hc, hf⟩ := hq.rules; have hs := hq.le; try simp at hs) | (go_at_call 17; refine (c_I_MeetFaces _ _ _ _ _ _ _ _ _ ).mono ?_; rintro e w1 ⟨rfl, hq⟩; obtain ⟨hc, hf⟩ := hq.rules; have hs := hq.le; try simp at hs) | (go_at_call 18; refine (c_L_eqFace _ _ _ _ _ _ _ _ _ ).mono ?_; rintro e w1 ⟨rfl, hq⟩; obtain ⟨hc, hf⟩ := hq.rules; have hs := hq.le; try simp at hs))
  all_goals go_ret
  all_goals refine ⟨?_, (by (repeat (first | (with_reducible exact Q.refl _) | (with_reducible assumption) | (with_reducible refine Q.setCell ?_ (by dsimp only; omega) _) | (with_reducible refine Q.alloc ?_ _) | (with_reducible refine Q.drew ?_) | (with_reducible refine Q.call ?_ (by with_reducible assumption)))))⟩
  all_goals first | (simp [L_FnExactMeetFaces, *]; done) | (simp [L_FnExactMeetFaces, *]; omega) | (simp [L_FnExactMeetFaces, *]; simp (disch := omega) only [if_pos, if_neg]; done) | (simp_all [L_FnExactMeetFaces]; done) | (simp_all [L_FnExactMeetFaces]; omega)
theorem true_FnExactMeetFaces (aF : Face) (aG : Face) : L_FnExactMeetFaces aF aG = true := by
  simp [L_FnExactMeetFaces, eq_MeetFaces, eqFace_refl]
namespace lawFnExactMeetFaces
set_option maxRecDepth 100000 in
theorem lifted (os : Os) (started : os.Started) (H : Type) (enc : TypeId × Value → H) :
    ReturnsInHanded {} Try.checked os 3 .any (Rows.fnExactMeetFacesSpec.pre6 enc Try.prog Try.f3 Rows.fnExactMeetFacesRow.domain false) (Rows.fnExactMeetFacesSpec.post enc Try.prog Try.f3 false true false false) := by
  refine returnsInHanded_of_change (C := Try.checked) own started (by kernel_rfl) Try.func3
    (ChangeSpec.witness6 (enc := enc) (C := Try.checked) false ⟨#[], #[.agg #[.int .i64 0, .int .i64 0, .int .i64 0, .int .i64 0], .agg #[.int .i64 0, .int .i64 0, .int .i64 0, .int .i64 0]], []⟩ 8 (by kernel_rfl) (by kernel_rfl) (by kernel_rfl) (by kernel_rfl)) ?_
  intro W base args ds gs before hval0 hW hcnd _
  have hval : ∀ (j : Nat) t v, Try.f3.params[j]? = some t → args[j]? = some v → Value.okWide Try.prog W .any base t v := hval0
  have hW' := hW
  obtain ⟨p, q, hA0, hV, rfl, hfz, hnd⟩ := hW
  have hA : DataW.TrodAll enc Try.prog W 0 (fun _ => true) true Try.f3.params.toList args.toList ds p := hA0
  rw [Try.params3] at hA hval
  obtain ⟨v0, vs0, d0, ds0, p0, q0, hargs, rfl, rfl, h0, r0⟩ := trodAll_cons hA
  obtain ⟨v1, vs1, d1, ds1, p1, q1, rfl, rfl, rfl, h1, r1⟩ := trodAll_cons r0
  obtain ⟨rfl, rfl, rfl⟩ := trodAll_nil r1
  obtain rfl : args = #[v0, v1] := by cases args; simp_all
  obtain ⟨rfl, rfl⟩ := trodVars_none hV
  obtain ⟨zs0, hz0, rfl⟩ := open_cells (m := 4) (u := 2) Try.underlying23 (by kernel_rfl) Try.underlying2 (by kernel_rfl) (hval 0 23 v0 rfl rfl)
  obtain ⟨aF_Left, aF_Bottom, aF_Right, aF_Top, rfl⟩ := list4 hz0
  obtain ⟨zs1, hz1, rfl⟩ := open_cells (m := 4) (u := 2) Try.underlying23 (by kernel_rfl) Try.underlying2 (by kernel_rfl) (hval 1 23 v1 rfl rfl)
  obtain ⟨aG_Left, aG_Bottom, aG_Right, aG_Top, rfl⟩ := list4 hz1
  refine (walk_FnExactMeetFaces aF_Left aF_Bottom aF_Right aF_Top aG_Left aG_Bottom aG_Right aG_Top W).mono fun e W' ⟨he, hq⟩ => ?_
  rw [true_FnExactMeetFaces] at he
  subst he
  exact ⟨_, rfl, _, _, _, [], _, [], hW', trodAll_cons_mk (shut_bool Try.underlying4 _) trodAll_mk0,
    all_stay laidOut hq (by rw [Try.params3]; intro t ht; simp only [Array.toList, List.mem_cons, List.not_mem_nil, or_false] at ht; rcases ht with rfl | rfl <;> exact ⟨by kernel_rfl, of_decide_eq_true (by kernel_rfl)⟩) hA0,
    rfl, Below.frame hq _, fun h => by cases h⟩
theorem over : Rows.fnExactMeetFacesRow.holds Try.pinned (OpenSpec.ofChange Rows.fnExactMeetFacesSpec) :=
  OpenClaim.holds_of_wide 3 Try.f3 rfl rfl rfl rfl rfl rfl rfl ⟨rfl, rfl, rfl, rfl, rfl⟩ rfl rfl rfl rfl rfl (by kernel_rfl) Try.func3 (by kernel_rfl)
    (of_decide_eq_true (by kernel_rfl)) (by unfold Func.isWrapper; first | (rw [if_pos (by decide +kernel)]; kernel_rfl) | (rw [if_neg (by decide +kernel)]; exact ⟨rfl, rfl⟩))
    (fun os started H enc _ => lifted os started H enc)
theorem proved : Rows.FnExactMeetFacesSaid :=
  over
#print axioms proved
end lawFnExactMeetFaces
end Go.Proofs.Ytecnjkhncdjebaa
