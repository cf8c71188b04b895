/- The statement Rows.FnExactCivilOfSaid is proved: for every argument the law returns true and its arguments read as before. No conditions. -/
import Derived.Test.YtlckpdagejbchaaRows
import Derived.Test.YtlckpdagejbchaaLaw
import Derived.Test.YtlckpdagejbchaaC1
import Derived.Test.YtlckpdagejbchaaC2
import Derived.Test.YtlckpdagejbchaaC3
import Derived.Test.YtlckpdagejbchaaC4
import Derived.Test.YtlckpdagejbchaaC5
import Derived.Test.YtlckpdagejbchaaE1
import Derived.Test.YtlckpdagejbchaaE2
import Derived.Test.YtlckpdagejbchaaE3
import Derived.Test.YtlckpdagejbchaaE4
import Derived.Test.YtlckpdagejbchaaE5
import Derived.WalkKit
import Derived.ProofKit
import Derived.OpenShut
import Derived.WalkLawsBesides
import Derived.BigQuiet
import Derived.Deep.QuietTactic
import Derived.Deep.LoopGhost
import Derived.LoopN
namespace Go.Proofs.Ytlckpdagejbchaa
open Go.ChangeShapes Go.WideShapes Go.ChangeAt Go.RowKit
set_option linter.unusedVariables false
set_option linter.unusedSimpArgs false
def L_FnExactCivilOf (aZ : Zone) (aD : Date) (aSecond : Int) : Bool :=
  let t_1 := (S_CivilOf (L_toZone aZ) (L_toDate aD) aSecond)
  let w0_2 := t_1.1
  let w1_3 := t_1.2.1
  let w2_4 := t_1.2.2
  let t_5 := (I_CivilOf (L_toZone aZ) (L_toDate aD) aSecond)
  let g0_6 := t_5.1
  let g1_7 := t_5.2.1
  let g2_8 := t_5.2.2
  if (((!(L_eqDate g0_6 w0_2)) || (g1_7 != w1_3)) || (g2_8 != w2_4)) then
    false
  else
    true
theorem walk_FnExactCivilOf (aZ_Offset : Int) (aZ_StartMonth : Int) (aZ_StartWeek : Int) (aZ_EndMonth : Int) (aZ_EndWeek : Int) (aD_Year : Int) (aD_Month : Int) (aD_Day : Int) (aSecond : Int) (w : World)  : Calls Try.prog 7 #[.agg #[.int .i64 aZ_Offset, .int .i64 aZ_StartMonth, .int .i64 aZ_StartWeek, .int .i64 aZ_EndMonth, .int .i64 aZ_EndWeek], .agg #[.int .i64 aD_Year, .int .i64 aD_Month, .int .i64 aD_Day], .int .i64 aSecond] w fun e w' => e = .returned (.bool ((L_FnExactCivilOf (⟨aZ_Offset, aZ_StartMonth, aZ_StartWeek, aZ_EndMonth, aZ_EndWeek⟩ : Zone) (⟨aD_Year, aD_Month, aD_Day⟩ : Date) aSecond))) ∧ Q w w' := by
  have hset := setRule
  have hall := allocRule
  have halm := allocMark
  have hw64 := wrapRule
  go_enter Try.func7, Try.ntmps7
  go_wp2_with (first | (go_at_call 25; refine (c_S_CivilOf _ _ _ _ _ _ _ _ _ _ ).mono ?_; rintro e w1 ⟨rfl, hq⟩; obtain ⟨hc, hf⟩ := hq.rules; have hs := hq.le; try simp at hs) | (go_at_call 20; refine (c_L_toZone _ _ _ _ _ _ ).mono ?_; rintro e w1 ⟨rfl, hq⟩; obtain ⟨hc, hf⟩ := hq.rules; have hs := hq.le; try simp at hs) | (go_at_call 21; refine (c_L_toDate _ _ _ _ ).mono ?_; rintro e w1 ⟨rfl, hq⟩; obtain ⟨hc, hf⟩ := hq.rules; have hs := hq.le; try simp at hs) | (go_at_call 26; refine (c_I_CivilOf _ _ _ _ _ _ _ _ _ _ ).mono ?_; rintro e w1 ⟨rfl, hq⟩; obtain ⟨hc, hf⟩ := hq.rules; have hs := hq.le; try simp at hs) | (go_at_call 27; refine (c_L_eqDate _ _ _ _ _ _ _ ).mono ?_; rintro e w1 ⟨rfl, hq⟩; obtain ⟨hc, hf⟩ := hq.rules; have hs := hq.le; try simp at hs))
  all_goals try (
    refine region_new1 (id := 1) 10 (.cells #[.int .i64 0, .int .i64 0, .int .i64 0] 35) 7 (by kernel_rfl) (by kernel_rfl) (fun d _ _ _ _ h => by cases d <;> exact h) rfl (by intro i o h1 h2 ho; obtain rfl : i = 10 := (by omega); obtain rfl := Option.some.inj (show some _ = some o from ho); exact ⟨fun _ => rfl, fun a w => by simp [go_sem, ptr]⟩) ?_
    simp only [List.take_succ_cons, List.take_zero, List.drop_succ_cons, List.drop_zero]
    first | (apply f_step rfl (by kernel_rfl); (intro x wq hx; have hr := Q.rules hx.q; have hcq := hr.1; have hfq := hr.2; clear hr; have hsq := Q.le hx.q; (try simp at hsq); go_simp; (repeat (simp (disch := omega) only [if_pos, if_neg]; try go_simp)); (first | rfl | exact ⟨rfl, rfl⟩ | (go_at_call 25; exact fam_grow hx (c_S_CivilOf _ _ _ _ _ _ _ _ _ _ )) | (go_at_call 20; exact fam_grow hx (c_L_toZone _ _ _ _ _ _ )) | (go_at_call 21; exact fam_grow hx (c_L_toDate _ _ _ _ )) | (go_at_call 26; exact fam_grow hx (c_I_CivilOf _ _ _ _ _ _ _ _ _ _ )) | (go_at_call 27; exact fam_grow hx (c_L_eqDate _ _ _ _ _ _ _ )))); try go_simp) | (apply f_skip rfl; try go_simp)
    first | (apply f_step rfl (by kernel_rfl); (intro x wq hx; have hr := Q.rules hx.q; have hcq := hr.1; have hfq := hr.2; clear hr; have hsq := Q.le hx.q; (try simp at hsq); go_simp; (repeat (simp (disch := omega) only [if_pos, if_neg]; try go_simp)); (first | rfl | exact ⟨rfl, rfl⟩ | (go_at_call 25; exact fam_grow hx (c_S_CivilOf _ _ _ _ _ _ _ _ _ _ )) | (go_at_call 20; exact fam_grow hx (c_L_toZone _ _ _ _ _ _ )) | (go_at_call 21; exact fam_grow hx (c_L_toDate _ _ _ _ )) | (go_at_call 26; exact fam_grow hx (c_I_CivilOf _ _ _ _ _ _ _ _ _ _ )) | (go_at_call 27; exact fam_grow hx (c_L_eqDate _ _ _ _ _ _ _ )))); try go_simp) | (apply f_skip rfl; try go_simp)
    first | (apply f_step rfl (by kernel_rfl); (intro x wq hx; have hr := Q.rules hx.q; have hcq := hr.1; have hfq := hr.2; clear hr; have hsq := Q.le hx.q; (try simp at hsq); go_simp; (repeat (simp (disch := omega) only [if_pos, if_neg]; try go_simp)); (first | rfl | exact ⟨rfl, rfl⟩ | (go_at_call 25; exact fam_grow hx (c_S_CivilOf _ _ _ _ _ _ _ _ _ _ )) | (go_at_call 20; exact fam_grow hx (c_L_toZone _ _ _ _ _ _ )) | (go_at_call 21; exact fam_grow hx (c_L_toDate _ _ _ _ )) | (go_at_call 26; exact fam_grow hx (c_I_CivilOf _ _ _ _ _ _ _ _ _ _ )) | (go_at_call 27; exact fam_grow hx (c_L_eqDate _ _ _ _ _ _ _ )))); try go_simp) | (apply f_skip rfl; try go_simp)
    first | (apply f_step rfl (by kernel_rfl); (intro x wq hx; have hr := Q.rules hx.q; have hcq := hr.1; have hfq := hr.2; clear hr; have hsq := Q.le hx.q; (try simp at hsq); go_simp; (repeat (simp (disch := omega) only [if_pos, if_neg]; try go_simp)); (first | rfl | exact ⟨rfl, rfl⟩ | (go_at_call 25; exact fam_grow hx (c_S_CivilOf _ _ _ _ _ _ _ _ _ _ )) | (go_at_call 20; exact fam_grow hx (c_L_toZone _ _ _ _ _ _ )) | (go_at_call 21; exact fam_grow hx (c_L_toDate _ _ _ _ )) | (go_at_call 26; exact fam_grow hx (c_I_CivilOf _ _ _ _ _ _ _ _ _ _ )) | (go_at_call 27; exact fam_grow hx (c_L_eqDate _ _ _ _ _ _ _ )))); try go_simp) | (apply f_skip rfl; try go_simp)
    first | (apply f_step rfl (by kernel_rfl); (intro x wq hx; have hr := Q.rules hx.q; have hcq := hr.1; have hfq := hr.2; clear hr; have hsq := Q.le hx.q; (try simp at hsq); go_simp; (repeat (simp (disch := omega) only [if_pos, if_neg]; try go_simp)); (first | rfl | exact ⟨rfl, rfl⟩ | (go_at_call 25; exact fam_grow hx (c_S_CivilOf _ _ _ _ _ _ _ _ _ _ )) | (go_at_call 20; exact fam_grow hx (c_L_toZone _ _ _ _ _ _ )) | (go_at_call 21; exact fam_grow hx (c_L_toDate _ _ _ _ )) | (go_at_call 26; exact fam_grow hx (c_I_CivilOf _ _ _ _ _ _ _ _ _ _ )) | (go_at_call 27; exact fam_grow hx (c_L_eqDate _ _ _ _ _ _ _ )))); try go_simp) | (apply f_skip rfl; try go_simp)
    first | (apply f_step rfl (by kernel_rfl); (intro x wq hx; have hr := Q.rules hx.q; have hcq := hr.1; have hfq := hr.2; clear hr; have hsq := Q.le hx.q; (try simp at hsq); go_simp; (repeat (simp (disch := omega) only [if_pos, if_neg]; try go_simp)); (first | rfl | exact ⟨rfl, rfl⟩ | (go_at_call 25; exact fam_grow hx (c_S_CivilOf _ _ _ _ _ _ _ _ _ _ )) | (go_at_call 20; exact fam_grow hx (c_L_toZone _ _ _ _ _ _ )) | (go_at_call 21; exact fam_grow hx (c_L_toDate _ _ _ _ )) | (go_at_call 26; exact fam_grow hx (c_I_CivilOf _ _ _ _ _ _ _ _ _ _ )) | (go_at_call 27; exact fam_grow hx (c_L_eqDate _ _ _ _ _ _ _ )))); try go_simp) | (apply f_skip rfl; try go_simp)
    first | (apply f_step rfl (by kernel_rfl); (intro x wq hx; have hr := Q.rules hx.q; have hcq := hr.1; have hfq := hr.2; clear hr; have hsq := Q.le hx.q; (try simp at hsq); go_simp; (repeat (simp (disch := omega) only [if_pos, if_neg]; try go_simp)); (first | rfl | exact ⟨rfl, rfl⟩ | (go_at_call 25; exact fam_grow hx (c_S_CivilOf _ _ _ _ _ _ _ _ _ _ )) | (go_at_call 20; exact fam_grow hx (c_L_toZone _ _ _ _ _ _ )) | (go_at_call 21; exact fam_grow hx (c_L_toDate _ _ _ _ )) | (go_at_call 26; exact fam_grow hx (c_I_CivilOf _ _ _ _ _ _ _ _ _ _ )) | (go_at_call 27; exact fam_grow hx (c_L_eqDate _ _ _ _ _ _ _ )))); try go_simp) | (apply f_skip rfl; try go_simp)
    first | (apply f_step rfl (by kernel_rfl); (intro x wq hx; have hr := Q.rules hx.q; have hcq := hr.1; have hfq := hr.2; clear hr; have hsq := Q.le hx.q; (try simp at hsq); go_simp; (repeat (simp (disch := omega) only [if_pos, if_neg]; try go_simp)); (first | rfl | exact ⟨rfl, rfl⟩ | (go_at_call 25; exact fam_grow hx (c_S_CivilOf _ _ _ _ _ _ _ _ _ _ )) | (go_at_call 20; exact fam_grow hx (c_L_toZone _ _ _ _ _ _ )) | (go_at_call 21; exact fam_grow hx (c_L_toDate _ _ _ _ )) | (go_at_call 26; exact fam_grow hx (c_I_CivilOf _ _ _ _ _ _ _ _ _ _ )) | (go_at_call 27; exact fam_grow hx (c_L_eqDate _ _ _ _ _ _ _ )))); try go_simp) | (apply f_skip rfl; try go_simp)
    first | (apply f_pure rfl; (intro wq; go_simp; rfl); try go_simp) | (apply f_skip rfl; try go_simp)
    first | (apply f_pure rfl; (intro wq; go_simp; rfl); try go_simp) | (apply f_skip rfl; try go_simp)
    refine f_nil ?_
    intro b w1 hx
    have hq := hx.q; have hn1 := hx.cells; have hn2 := hx.newCells; obtain ⟨hb1, hb2, hb3, hb4⟩ := hn1; obtain ⟨hb5, hb6⟩ := hn2; clear hx; try simp at hb1
    have hr := Q.rules hq; have hc := hr.1; have hf := hr.2; clear hr; have hs := Q.le hq; try simp at hs
    try go_simp)
  all_goals try go_wp2_with (first | (go_at_call 25; refine (c_S_CivilOf _ _ _ _ _ _ _ _ _ _ ).mono ?_; rintro e w1 ⟨rfl, hq⟩; obtain ⟨hc, hf⟩ := hq.rules; have hs := hq.le; try simp at hs) | (go_at_call 20; refine (c_L_toZone _ _ _ _ _ _ ).mono ?_; rintro e w1 ⟨rfl, hq⟩; obtain ⟨hc, hf⟩ := hq.rules; have hs := hq.le; try simp at hs) | (go_at_call 21; refine (c_L_toDate _ _ _ _ ).mono ?_; rintro e w1 ⟨rfl, hq⟩; obtain ⟨hc, hf⟩ := hq.rules; have hs := hq.le; try simp at hs) | (go_at_call 26; refine (c_I_CivilOf _ _ _ _ _ _ _ _ _ _ ).mono ?_; rintro e w1 ⟨rfl, hq⟩; obtain ⟨hc, hf⟩ := hq.rules; have hs := hq.le; try simp at hs) | (go_at_call 27; refine (c_L_eqDate _ _ _ _ _ _ _ ).mono ?_; rintro e w1 ⟨rfl, hq⟩; obtain ⟨hc, hf⟩ := hq.rules; have hs := hq.le; try simp at hs))
  all_goals try (
    refine region_new1 (id := 2) 10 (.cells #[.int .i64 0, .int .i64 0, .int .i64 0] 35) 10 (by kernel_rfl) (by kernel_rfl) (fun d _ _ _ _ h => by cases d <;> exact h) rfl (by intro i o h1 h2 ho; obtain rfl : i = 10 := (by omega); obtain rfl := Option.some.inj (show some _ = some o from ho); exact ⟨fun _ => rfl, fun a w => by simp [go_sem, ptr]⟩) ?_
    simp only [List.take_succ_cons, List.take_zero, List.drop_succ_cons, List.drop_zero]
    first | (apply f_step rfl (by kernel_rfl); (intro x wq hx; have hr := Q.rules hx.q; have hcq := hr.1; have hfq := hr.2; clear hr; have hsq := Q.le hx.q; (try simp at hsq); go_simp; (repeat (simp (disch := omega) only [if_pos, if_neg]; try go_simp)); (first | rfl | exact ⟨rfl, rfl⟩ | (go_at_call 25; exact fam_grow hx (c_S_CivilOf _ _ _ _ _ _ _ _ _ _ )) | (go_at_call 20; exact fam_grow hx (c_L_toZone _ _ _ _ _ _ )) | (go_at_call 21; exact fam_grow hx (c_L_toDate _ _ _ _ )) | (go_at_call 26; exact fam_grow hx (c_I_CivilOf _ _ _ _ _ _ _ _ _ _ )) | (go_at_call 27; exact fam_grow hx (c_L_eqDate _ _ _ _ _ _ _ )))); try go_simp) | (apply f_skip rfl; try go_simp)
    first | (apply f_step rfl (by kernel_rfl); (intro x wq hx; have hr := Q.rules hx.q; have hcq := hr.1; have hfq := hr.2; clear hr; have hsq := Q.le hx.q; (try simp at hsq); go_simp; (repeat (simp (disch := omega) only [if_pos, if_neg]; try go_simp)); (first | rfl | exact ⟨rfl, rfl⟩ | (go_at_call 25; exact fam_grow hx (c_S_CivilOf _ _ _ _ _ _ _ _ _ _ )) | (go_at_call 20; exact fam_grow hx (c_L_toZone _ _ _ _ _ _ )) | (go_at_call 21; exact fam_grow hx (c_L_toDate _ _ _ _ )) | (go_at_call 26; exact fam_grow hx (c_I_CivilOf _ _ _ _ _ _ _ _ _ _ )) | (go_at_call 27; exact fam_grow hx (c_L_eqDate _ _ _ _ _ _ _ )))); try go_simp) | (apply f_skip rfl; try go_simp)
    first | (apply f_step rfl (by kernel_rfl); (intro x wq hx; have hr := Q.rules hx.q; have hcq := hr.1; have hfq := hr.2; clear hr; have hsq := Q.le hx.q; (try simp at hsq); go_simp; (repeat (simp (disch := omega) only [if_pos, if_neg]; try go_simp)); (first | rfl | exact ⟨rfl, rfl⟩ | (go_at_call 25; exact fam_grow hx (c_S_CivilOf _ _ _ _ _ _ _ _ _ _ )) | (go_at_call 20; exact fam_grow hx (c_L_toZone _ _ _ _ _ _ )) | (go_at_call 21; exact fam_grow hx (c_L_toDate _ _ _ _ )) | (go_at_call 26; exact fam_grow hx (c_I_CivilOf _ _ _ _ _ _ _ _ _ _ )) | (go_at_call 27; exact fam_grow hx (c_L_eqDate _ _ _ _ _ _ _ )))); try go_simp) | (apply f_skip rfl; try go_simp)
    first | (apply f_step rfl (by kernel_rfl); (intro x wq hx; have hr := Q.rules hx.q; have hcq := hr.1; have hfq := hr.2; clear hr; have hsq := Q.le hx.q; (try simp at hsq); go_simp; (repeat (simp (disch := omega) only [if_pos, if_neg]; try go_simp)); (first | rfl | exact ⟨rfl, rfl⟩ | (go_at_call 25; exact fam_grow hx (c_S_CivilOf _ _ _ _ _ _ _ _ _ _ )) | (go_at_call 20; exact fam_grow hx (c_L_toZone _ _ _ _ _ _ )) | (go_at_call 21; exact fam_grow hx (c_L_toDate _ _ _ _ )) | (go_at_call 26; exact fam_grow hx (c_I_CivilOf _ _ _ _ _ _ _ _ _ _ )) | (go_at_call 27; exact fam_grow hx (c_L_eqDate _ _ _ _ _ _ _ )))); try go_simp) | (apply f_skip rfl; try go_simp)
    first | (apply f_step rfl (by kernel_rfl); (intro x wq hx; have hr := Q.rules hx.q; have hcq := hr.1; have hfq := hr.2; clear hr; have hsq := Q.le hx.q; (try simp at hsq); go_simp; (repeat (simp (disch := omega) only [if_pos, if_neg]; try go_simp)); (first | rfl | exact ⟨rfl, rfl⟩ | (go_at_call 25; exact fam_grow hx (c_S_CivilOf _ _ _ _ _ _ _ _ _ _ )) | (go_at_call 20; exact fam_grow hx (c_L_toZone _ _ _ _ _ _ )) | (go_at_call 21; exact fam_grow hx (c_L_toDate _ _ _ _ )) | (go_at_call 26; exact fam_grow hx (c_I_CivilOf _ _ _ _ _ _ _ _ _ _ )) | (go_at_call 27; exact fam_grow hx (c_L_eqDate _ _ _ _ _ _ _ )))); try go_simp) | (apply f_skip rfl; try go_simp)
    first | (apply f_step rfl (by kernel_rfl); (intro x wq hx; have hr := Q.rules hx.q; have hcq := hr.1; have hfq := hr.2; clear hr; have hsq := Q.le hx.q; (try simp at hsq); go_simp; (repeat (simp (disch := omega) only [if_pos, if_neg]; try go_simp)); (first | rfl | exact ⟨rfl, rfl⟩ | (go_at_call 25; exact fam_grow hx (c_S_CivilOf _ _ _ _ _ _ _ _ _ _ )) | (go_at_call 20; exact fam_grow hx (c_L_toZone _ _ _ _ _ _ )) | (go_at_call 21; exact fam_grow hx (c_L_toDate _ _ _ _ )) | (go_at_call 26; exact fam_grow hx (c_I_CivilOf _ _ _ _ _ _ _ _ _ _ )) | (go_at_call 27; exact fam_grow hx (c_L_eqDate _ _ _ _ _ _ _ )))); try go_simp) | (apply f_skip rfl; try go_simp)
    first | (apply f_step rfl (by kernel_rfl); (intro x wq hx; have hr := Q.rules hx.q; have hcq := hr.1; have hfq := hr.2; clear hr; have hsq := Q.le hx.q; (try simp at hsq); go_simp; (repeat (simp (disch := omega) only [if_pos, if_neg]; try go_simp)); (first | rfl | exact ⟨rfl, rfl⟩ | (go_at_call 25; exact fam_grow hx (c_S_CivilOf _ _ _ _ _ _ _ _ _ _ )) | (go_at_call 20; exact fam_grow hx (c_L_toZone _ _ _ _ _ _ )) | (go_at_call 21; exact fam_grow hx (c_L_toDate _ _ _ _ )) | (go_at_call 26; exact fam_grow hx (c_I_CivilOf _ _ _ _ _ _ _ _ _ _ )) | (go_at_call 27; exact fam_grow hx (c_L_eqDate _ _ _ _ _ _ _ )))); try go_simp) | (apply f_skip rfl; try go_simp)
    first | (apply f_step rfl (by kernel_rfl); (intro x wq hx; have hr := Q.rules hx.q; have hcq := hr.1; have hfq := hr.2; clear hr; have hsq := Q.le hx.q; (try simp at hsq); go_simp; (repeat (simp (disch := omega) only [if_pos, if_neg]; try go_simp)); (first | rfl | exact ⟨rfl, rfl⟩ | (go_at_call 25; exact fam_grow hx (c_S_CivilOf _ _ _ _ _ _ _ _ _ _ )) | (go_at_call 20; exact fam_grow hx (c_L_toZone _ _ _ _ _ _ )) | (go_at_call 21; exact fam_grow hx (c_L_toDate _ _ _ _ )) | (go_at_call 26; exact fam_grow hx (c_I_CivilOf _ _ _ _ _ _ _ _ _ _ )) | (go_at_call 27; exact fam_grow hx (c_L_eqDate _ _ _ _ _ _ _ )))); try go_simp) | (apply f_skip rfl; try go_simp)
    first | (apply f_pure rfl; (intro wq; go_simp; rfl); try go_simp) | (apply f_skip rfl; try go_simp)
    first | (apply f_pure rfl; (intro wq; go_simp; rfl); try go_simp) | (apply f_skip rfl; try go_simp)
    refine f_nil ?_
    intro b w1 hx
    have hq := hx.q; have hn1 := hx.cells; have hn2 := hx.newCells; obtain ⟨hb1, hb2, hb3, hb4⟩ := hn1; obtain ⟨hb5, hb6⟩ := hn2; clear hx; try simp at hb1
    have hr := Q.rules hq; have hc := hr.1; have hf := hr.2; clear hr; have hs := Q.le hq; try simp at hs
    try go_simp)
  all_goals try go_wp2_with (first | (go_at_call 25; refine (c_S_CivilOf _ _ _ _ _ _ _ _ _ _ ).mono ?_; rintro e w1 ⟨rfl, hq⟩; obtain ⟨hc, hf⟩ := hq.rules; have hs := hq.le; try simp at hs) | (go_at_call 20; refine (c_L_toZone _ _ _ _ _ _ ).mono ?_; rintro e w1 ⟨rfl, hq⟩; obtain ⟨hc, hf⟩ := hq.rules; have hs := hq.le; try simp at hs) | (go_at_call 21; refine (c_L_toDate _ _ _ _ ).mono ?_; rintro e w1 ⟨rfl, hq⟩; obtain ⟨hc, hf⟩ := hq.rules; have hs := hq.le; try simp at hs) | (go_at_call 26; refine (c_I_CivilOf _ _ _ _ _ _ _ _ _ _ ).mono ?_; rintro e w1 ⟨rfl, hq⟩; obtain ⟨hc, hf⟩ := hq.rules; have hs := hq.le; try simp at hs) | (go_at_call 27; refine (c_L_eqDate _ _ _ _ _ _ _ ).mono ?_; rintro e w1 ⟨rfl, hq⟩; obtain ⟨hc, hf⟩ := hq.rules; have hs := hq.le; try simp at hs))
  all_goals go_ret
  all_goals refine ⟨?_, (by (repeat (first | (with_reducible exact Q.refl _) | (with_reducible assumption) | (with_reducible refine Q.setCell ?_ (by dsimp only; omega) _) | (with_reducible refine Q.alloc ?_ _) | (with_reducible refine Q.drew ?_) | (with_reducible refine Q.call ?_ (by with_reducible assumption)))))⟩
  all_goals first | (simp [L_FnExactCivilOf, *]; done) | (simp [L_FnExactCivilOf, *]; omega) | (simp [L_FnExactCivilOf, *]; simp (disch := omega) only [if_pos, if_neg]; done) | (simp_all [L_FnExactCivilOf]; done) | (simp_all [L_FnExactCivilOf]; omega)
theorem true_FnExactCivilOf (aZ : Zone) (aD : Date) (aSecond : Int) : L_FnExactCivilOf aZ aD aSecond = true := by
  simp [L_FnExactCivilOf, eq_CivilOf, eqDate_refl]
namespace lawFnExactCivilOf
set_option maxRecDepth 100000 in
theorem lifted (os : Os) (started : os.Started) (H : Type) (enc : TypeId × Value → H) :
    ReturnsInHanded {} Try.checked os 7 .any (Rows.fnExactCivilOfSpec.pre6 enc Try.prog Try.f7 Rows.fnExactCivilOfRow.domain false) (Rows.fnExactCivilOfSpec.post enc Try.prog Try.f7 false true false false) := by
  refine returnsInHanded_of_change (C := Try.checked) own started (by kernel_rfl) Try.func7
    (ChangeSpec.witness6 (enc := enc) (C := Try.checked) false ⟨#[], #[.agg #[.int .i64 0, .int .i64 0, .int .i64 0, .int .i64 0, .int .i64 0], .agg #[.int .i64 0, .int .i64 0, .int .i64 0], .int .i64 0], []⟩ 8 (by kernel_rfl) (by kernel_rfl) (by kernel_rfl) (by kernel_rfl)) ?_
  intro W base args ds gs before hval0 hW hcnd _
  have hval : ∀ (j : Nat) t v, Try.f7.params[j]? = some t → args[j]? = some v → Value.okWide Try.prog W .any base t v := hval0
  have hW' := hW
  obtain ⟨p, q, hA0, hV, rfl, hfz, hnd⟩ := hW
  have hA : DataW.TrodAll enc Try.prog W 0 (fun _ => true) true Try.f7.params.toList args.toList ds p := hA0
  rw [Try.params7] at hA hval
  obtain ⟨v0, vs0, d0, ds0, p0, q0, hargs, rfl, rfl, h0, r0⟩ := trodAll_cons hA
  obtain ⟨v1, vs1, d1, ds1, p1, q1, rfl, rfl, rfl, h1, r1⟩ := trodAll_cons r0
  obtain ⟨v2, vs2, d2, ds2, p2, q2, rfl, rfl, rfl, h2, r2⟩ := trodAll_cons r1
  obtain ⟨rfl, rfl, rfl⟩ := trodAll_nil r2
  obtain rfl : args = #[v0, v1, v2] := by cases args; simp_all
  obtain ⟨rfl, rfl⟩ := trodVars_none hV
  obtain ⟨zs0, hz0, rfl⟩ := open_cells (m := 5) (u := 2) Try.underlying28 (by kernel_rfl) Try.underlying2 (by kernel_rfl) (hval 0 28 v0 rfl rfl)
  obtain ⟨aZ_Offset, aZ_StartMonth, aZ_StartWeek, aZ_EndMonth, aZ_EndWeek, rfl⟩ := list5 hz0
  obtain ⟨zs1, hz1, rfl⟩ := open_cells (m := 3) (u := 2) Try.underlying30 (by kernel_rfl) Try.underlying2 (by kernel_rfl) (hval 1 30 v1 rfl rfl)
  obtain ⟨aD_Year, aD_Month, aD_Day, rfl⟩ := list3 hz1
  obtain ⟨aSecond, rfl, _, _, _⟩ := open_int Try.underlying2 (hval 2 2 v2 rfl rfl) h2
  refine (walk_FnExactCivilOf aZ_Offset aZ_StartMonth aZ_StartWeek aZ_EndMonth aZ_EndWeek aD_Year aD_Month aD_Day aSecond W).mono fun e W' ⟨he, hq⟩ => ?_
  rw [true_FnExactCivilOf] at he
  subst he
  exact ⟨_, rfl, _, _, _, [], _, [], hW', trodAll_cons_mk (shut_bool Try.underlying4 _) trodAll_mk0,
    all_stay laidOut hq (by rw [Try.params7]; intro t ht; simp only [Array.toList, List.mem_cons, List.not_mem_nil, or_false] at ht; rcases ht with rfl | rfl | rfl <;> exact ⟨by kernel_rfl, of_decide_eq_true (by kernel_rfl)⟩) hA0,
    rfl, Below.frame hq _, fun h => by cases h⟩
theorem over : Rows.fnExactCivilOfRow.holds Try.pinned (OpenSpec.ofChange Rows.fnExactCivilOfSpec) :=
  OpenClaim.holds_of_wide 7 Try.f7 rfl rfl rfl rfl rfl rfl rfl ⟨rfl, rfl, rfl, rfl, rfl⟩ rfl rfl rfl rfl rfl (by kernel_rfl) Try.func7 (by kernel_rfl)
    (of_decide_eq_true (by kernel_rfl)) (by unfold Func.isWrapper; first | (rw [if_pos (by decide +kernel)]; kernel_rfl) | (rw [if_neg (by decide +kernel)]; exact ⟨rfl, rfl⟩))
    (fun os started H enc _ => lifted os started H enc)
theorem proved : Rows.FnExactCivilOfSaid :=
  over
#print axioms proved
end lawFnExactCivilOf
end Go.Proofs.Ytlckpdagejbchaa
