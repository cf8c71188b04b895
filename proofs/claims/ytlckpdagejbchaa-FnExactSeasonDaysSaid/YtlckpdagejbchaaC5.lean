/- Contracts of Go functions of the plain fragment, with their walks; printed by a program of the author's own. -/
import Derived.Test.YtlckpdagejbchaaRows
import Derived.Test.YtlckpdagejbchaaDefs
import Derived.Test.YtlckpdagejbchaaC4
import Derived.Test.YtlckpdagejbchaaFresh
import Derived.Test.YtlckpdagejbchaaM2
import Derived.WalkKit
import Derived.ProofKit
import Derived.OpenShut
import Derived.WalkLawsBesides
import Derived.BigQuiet
import Derived.Deep.QuietTactic
import Derived.Deep.LoopGhost
import Derived.LoopN
namespace Go.Proofs.Ytlckpdagejbchaa
open Go.ChangeShapes Go.WideShapes Go.ChangeAt Go.RowKit
set_option linter.unusedVariables false
set_option linter.unusedSimpArgs false
set_option maxHeartbeats 1000000 in
theorem c_I_equationOfTime (n : Int) (w : World)  : Calls Try.prog 76 #[.int .i64 n] w fun e w' => e = .returned (.agg #[.int .i64 ((I_equationOfTime n).Low), .int .i64 ((I_equationOfTime n).High)]) ∧ Q w w' := by
  have hset := setRule
  have hall := allocRule
  have halm := allocMark
  have hw64 := wrapRule
  go_enter Try.func76, Try.ntmps76
  go_wp2_with (first | (go_at_call 56; refine (c_I_sunLongitude _ _ ).mono ?_; rintro e w1 ⟨rfl, rfl⟩) | (go_at_call 114; refine (c_I_angleOfPoint _ _ _ ).mono ?_; rintro e w1 ⟨rfl, hq⟩; obtain ⟨hc, hf⟩ := hq.rules; have hs := hq.le; try simp at hs) | (go_at_call 115; refine (c_I_nanoCosine _ _ ).mono ?_; rintro e w1 ⟨rfl, rfl⟩) | (go_at_call 96; refine (c_I_floor _ _ _ (by first | assumption | decide | omega | (unfold wrap64; omega))).mono ?_; rintro e w1 ⟨rfl, rfl⟩) | (go_at_call 99; refine (c_I_nanoSine _ _ ).mono ?_; rintro e w1 ⟨rfl, rfl⟩) | (go_at_call 116; refine (c_I_signed _ _ ).mono ?_; rintro e w1 ⟨rfl, rfl⟩) | (go_at_call 97; refine (c_I_meanLongitude _ _ ).mono ?_; rintro e w1 ⟨rfl, rfl⟩) | (go_at_call 110; refine (c_I_ceil _ _ _ (by first | assumption | decide | omega | (unfold wrap64; omega))).mono ?_; rintro e w1 ⟨rfl, rfl⟩))
  all_goals try (
    refine region_Q_all (id := 3) (by kernel_rfl) (by kernel_rfl) ?_
    repeat (first | (apply q_step rfl; (intro wq hq; have hr := Q.rules hq; have hcq := hr.1; have hfq := hr.2; clear hr; have hsq := Q.le hq; (try simp at hsq); go_simp; (repeat (simp (disch := omega) only [if_pos, if_neg]; try go_simp)); (first | rfl | exact ⟨rfl, rfl⟩ | (go_at_call 56; exact quiet_same hq (c_I_sunLongitude _ _ )) | (go_at_call 114; exact quiet_grow hq (c_I_angleOfPoint _ _ _ )) | (go_at_call 115; exact quiet_same hq (c_I_nanoCosine _ _ )) | (go_at_call 96; exact quiet_same hq (c_I_floor _ _ _ (by first | assumption | decide | omega | (unfold wrap64; omega)))) | (go_at_call 99; exact quiet_same hq (c_I_nanoSine _ _ )) | (go_at_call 116; exact quiet_same hq (c_I_signed _ _ )) | (go_at_call 97; exact quiet_same hq (c_I_meanLongitude _ _ )) | (go_at_call 110; exact quiet_same hq (c_I_ceil _ _ _ (by first | assumption | decide | omega | (unfold wrap64; omega)))))); try go_simp) | (apply q_skip rfl; try go_simp))
    refine wpQuiet_nil ?_
    intro w1 hq
    have hr := Q.rules hq; have hc := hr.1; have hf := hr.2; clear hr; have hs := Q.le hq; try simp at hs)
  all_goals try go_wp2_with (first | (go_at_call 56; refine (c_I_sunLongitude _ _ ).mono ?_; rintro e w1 ⟨rfl, rfl⟩) | (go_at_call 114; refine (c_I_angleOfPoint _ _ _ ).mono ?_; rintro e w1 ⟨rfl, hq⟩; obtain ⟨hc, hf⟩ := hq.rules; have hs := hq.le; try simp at hs) | (go_at_call 115; refine (c_I_nanoCosine _ _ ).mono ?_; rintro e w1 ⟨rfl, rfl⟩) | (go_at_call 96; refine (c_I_floor _ _ _ (by first | assumption | decide | omega | (unfold wrap64; omega))).mono ?_; rintro e w1 ⟨rfl, rfl⟩) | (go_at_call 99; refine (c_I_nanoSine _ _ ).mono ?_; rintro e w1 ⟨rfl, rfl⟩) | (go_at_call 116; refine (c_I_signed _ _ ).mono ?_; rintro e w1 ⟨rfl, rfl⟩) | (go_at_call 97; refine (c_I_meanLongitude _ _ ).mono ?_; rintro e w1 ⟨rfl, rfl⟩) | (go_at_call 110; refine (c_I_ceil _ _ _ (by first | assumption | decide | omega | (unfold wrap64; omega))).mono ?_; rintro e w1 ⟨rfl, rfl⟩))
  all_goals try (
    refine region_Q (id := 4) 13 (by kernel_rfl) (by kernel_rfl) ?_
    simp only [List.take_succ_cons, List.take_zero, List.drop_succ_cons, List.drop_zero]
    repeat (first | (apply q_step rfl; (intro wq hq; have hr := Q.rules hq; have hcq := hr.1; have hfq := hr.2; clear hr; have hsq := Q.le hq; (try simp at hsq); go_simp; (repeat (simp (disch := omega) only [if_pos, if_neg]; try go_simp)); (first | rfl | exact ⟨rfl, rfl⟩ | (go_at_call 56; exact quiet_same hq (c_I_sunLongitude _ _ )) | (go_at_call 114; exact quiet_grow hq (c_I_angleOfPoint _ _ _ )) | (go_at_call 115; exact quiet_same hq (c_I_nanoCosine _ _ )) | (go_at_call 96; exact quiet_same hq (c_I_floor _ _ _ (by first | assumption | decide | omega | (unfold wrap64; omega)))) | (go_at_call 99; exact quiet_same hq (c_I_nanoSine _ _ )) | (go_at_call 116; exact quiet_same hq (c_I_signed _ _ )) | (go_at_call 97; exact quiet_same hq (c_I_meanLongitude _ _ )) | (go_at_call 110; exact quiet_same hq (c_I_ceil _ _ _ (by first | assumption | decide | omega | (unfold wrap64; omega)))))); try go_simp) | (apply q_skip rfl; try go_simp))
    refine wpQuiet_nil ?_
    intro w1 hq
    have hr := Q.rules hq; have hc := hr.1; have hf := hr.2; clear hr; have hs := Q.le hq; try simp at hs)
  all_goals try go_wp2_with (first | (go_at_call 56; refine (c_I_sunLongitude _ _ ).mono ?_; rintro e w1 ⟨rfl, rfl⟩) | (go_at_call 114; refine (c_I_angleOfPoint _ _ _ ).mono ?_; rintro e w1 ⟨rfl, hq⟩; obtain ⟨hc, hf⟩ := hq.rules; have hs := hq.le; try simp at hs) | (go_at_call 115; refine (c_I_nanoCosine _ _ ).mono ?_; rintro e w1 ⟨rfl, rfl⟩) | (go_at_call 96; refine (c_I_floor _ _ _ (by first | assumption | decide | omega | (unfold wrap64; omega))).mono ?_; rintro e w1 ⟨rfl, rfl⟩) | (go_at_call 99; refine (c_I_nanoSine _ _ ).mono ?_; rintro e w1 ⟨rfl, rfl⟩) | (go_at_call 116; refine (c_I_signed _ _ ).mono ?_; rintro e w1 ⟨rfl, rfl⟩) | (go_at_call 97; refine (c_I_meanLongitude _ _ ).mono ?_; rintro e w1 ⟨rfl, rfl⟩) | (go_at_call 110; refine (c_I_ceil _ _ _ (by first | assumption | decide | omega | (unfold wrap64; omega))).mono ?_; rintro e w1 ⟨rfl, rfl⟩))
  all_goals
    refine bodyPost_ret (v := .agg #[.int .i64 ((I_equationOfTime n).Low), .int .i64 ((I_equationOfTime n).High)]) ?_ rfl ⟨rfl, ?_⟩
    · first | (simp [results, Try.results76, go_sem, I_equationOfTime, *]; done) | (simp [results, Try.results76, go_sem, *]; repeat (simp (disch := omega) only [if_pos, if_neg]; try simp [go_sem, I_equationOfTime, *]))
    · (repeat (first | (with_reducible exact Q.refl _) | (with_reducible assumption) | (with_reducible refine Q.setCell ?_ (by dsimp only; omega) _) | (with_reducible refine Q.alloc ?_ _) | (with_reducible refine Q.drew ?_) | (with_reducible refine Q.call ?_ (by with_reducible assumption))))

set_option maxHeartbeats 4000000 in
theorem c_I_Zone_solar (z_Offset : Int) (z_StartMonth : Int) (z_StartWeek : Int) (z_EndMonth : Int) (z_EndWeek : Int) (longitude : Int) (d_Year : Int) (d_Month : Int) (d_Day : Int) (second : Int) (w : World) (hp0 : z_StartMonth ≤ 9223372036854775807) (hp1 : z_EndMonth ≤ 9223372036854775807) (hp2 : d_Month ≤ 9223372036854775807) : Calls Try.prog 73 #[.agg #[.int .i64 z_Offset, .int .i64 z_StartMonth, .int .i64 z_StartWeek, .int .i64 z_EndMonth, .int .i64 z_EndWeek], .int .i64 longitude, .agg #[.int .i64 d_Year, .int .i64 d_Month, .int .i64 d_Day], .int .i64 second] w fun e w' => e = .returned (.agg #[.int .i64 ((I_Zone_solar (⟨z_Offset, z_StartMonth, z_StartWeek, z_EndMonth, z_EndWeek⟩ : Zone) longitude (⟨d_Year, d_Month, d_Day⟩ : Date) second).Low), .int .i64 ((I_Zone_solar (⟨z_Offset, z_StartMonth, z_StartWeek, z_EndMonth, z_EndWeek⟩ : Zone) longitude (⟨d_Year, d_Month, d_Day⟩ : Date) second).High)]) ∧ Q w w' := by
  have hset := setRule
  have hall := allocRule
  have halm := allocMark
  have hw64 := wrapRule
  go_enter Try.func73, Try.ntmps73
  go_wp2_with (first | (go_at_call 66; refine (c_I_Zone_offset _ _ _ _ _ _ _ _ _ (by first | assumption | decide | omega | (unfold wrap64; omega) | exact (pre_month (by assumption)).1 | exact (pre_month (by assumption)).2.1 | exact (pre_month (by assumption)).2.2 | exact (pre_day (by assumption)).1 | exact (pre_day (by assumption)).2.1 | exact (pre_day (by assumption)).2.2 | exact (pre_dayI (by assumption)).1 | exact (pre_dayI (by assumption)).2.1 | exact (pre_dayI (by assumption)).2.2 | exact (pre_moment (by assumption)).1 | exact (pre_moment (by assumption)).2.1 | exact (pre_moment (by assumption)).2.2 | exact (pre_moment0 (by assumption)).1 | exact (pre_moment0 (by assumption)).2.1 | exact (pre_moment0 (by assumption)).2.2 | exact (pre_zone (by assumption)).1 | exact (pre_zone (by assumption)).2 | exact pre_date (by assumption) | exact nthWeekday_month (by assumption) | exact shift_month _ _ _ | exact later_month _ _) (by first | assumption | decide | omega | (unfold wrap64; omega) | exact (pre_month (by assumption)).1 | exact (pre_month (by assumption)).2.1 | exact (pre_month (by assumption)).2.2 | exact (pre_day (by assumption)).1 | exact (pre_day (by assumption)).2.1 | exact (pre_day (by assumption)).2.2 | exact (pre_dayI (by assumption)).1 | exact (pre_dayI (by assumption)).2.1 | exact (pre_dayI (by assumption)).2.2 | exact (pre_moment (by assumption)).1 | exact (pre_moment (by assumption)).2.1 | exact (pre_moment (by assumption)).2.2 | exact (pre_moment0 (by assumption)).1 | exact (pre_moment0 (by assumption)).2.1 | exact (pre_moment0 (by assumption)).2.2 | exact (pre_zone (by assumption)).1 | exact (pre_zone (by assumption)).2 | exact pre_date (by assumption) | exact nthWeekday_month (by assumption) | exact shift_month _ _ _ | exact later_month _ _) (by first | assumption | decide | omega | (unfold wrap64; omega) | exact (pre_month (by assumption)).1 | exact (pre_month (by assumption)).2.1 | exact (pre_month (by assumption)).2.2 | exact (pre_day (by assumption)).1 | exact (pre_day (by assumption)).2.1 | exact (pre_day (by assumption)).2.2 | exact (pre_dayI (by assumption)).1 | exact (pre_dayI (by assumption)).2.1 | exact (pre_dayI (by assumption)).2.2 | exact (pre_moment (by assumption)).1 | exact (pre_moment (by assumption)).2.1 | exact (pre_moment (by assumption)).2.2 | exact (pre_moment0 (by assumption)).1 | exact (pre_moment0 (by assumption)).2.1 | exact (pre_moment0 (by assumption)).2.2 | exact (pre_zone (by assumption)).1 | exact (pre_zone (by assumption)).2 | exact pre_date (by assumption) | exact nthWeekday_month (by assumption) | exact shift_month _ _ _ | exact later_month _ _)).mono ?_; rintro e w1 ⟨rfl, hq⟩; obtain ⟨hc, hf⟩ := hq.rules; have hs := hq.le; try simp at hs) | (go_at_call 109; refine (c_I_Interval_plus _ _ _ _ _ ).mono ?_; rintro e w1 ⟨rfl, hq⟩; obtain ⟨hc, hf⟩ := hq.rules; have hs := hq.le; try simp at hs) | (go_at_call 76; refine (c_I_equationOfTime _ _ ).mono ?_; rintro e w1 ⟨rfl, hq⟩; obtain ⟨hc, hf⟩ := hq.rules; have hs := hq.le; try simp at hs) | (go_at_call 78; refine (c_I_dayNumber _ _ _ _ (by first | assumption | decide | omega | (unfold wrap64; omega) | exact (pre_month (by assumption)).1 | exact (pre_month (by assumption)).2.1 | exact (pre_month (by assumption)).2.2 | exact (pre_day (by assumption)).1 | exact (pre_day (by assumption)).2.1 | exact (pre_day (by assumption)).2.2 | exact (pre_dayI (by assumption)).1 | exact (pre_dayI (by assumption)).2.1 | exact (pre_dayI (by assumption)).2.2 | exact (pre_moment (by assumption)).1 | exact (pre_moment (by assumption)).2.1 | exact (pre_moment (by assumption)).2.2 | exact (pre_moment0 (by assumption)).1 | exact (pre_moment0 (by assumption)).2.1 | exact (pre_moment0 (by assumption)).2.2 | exact (pre_zone (by assumption)).1 | exact (pre_zone (by assumption)).2 | exact pre_date (by assumption) | exact nthWeekday_month (by assumption) | exact shift_month _ _ _ | exact later_month _ _)).mono ?_; rintro e w1 ⟨rfl, hq⟩; obtain ⟨hc, hf⟩ := hq.rules; have hs := hq.le; try simp at hs) | (go_at_call 96; refine (c_I_floor _ _ _ (by first | assumption | decide | omega | (unfold wrap64; omega))).mono ?_; rintro e w1 ⟨rfl, rfl⟩) | (go_at_call 110; refine (c_I_ceil _ _ _ (by first | assumption | decide | omega | (unfold wrap64; omega))).mono ?_; rintro e w1 ⟨rfl, rfl⟩))
  all_goals
    refine bodyPost_ret (v := .agg #[.int .i64 ((I_Zone_solar (⟨z_Offset, z_StartMonth, z_StartWeek, z_EndMonth, z_EndWeek⟩ : Zone) longitude (⟨d_Year, d_Month, d_Day⟩ : Date) second).Low), .int .i64 ((I_Zone_solar (⟨z_Offset, z_StartMonth, z_StartWeek, z_EndMonth, z_EndWeek⟩ : Zone) longitude (⟨d_Year, d_Month, d_Day⟩ : Date) second).High)]) ?_ rfl ⟨rfl, ?_⟩
    · first | (simp [results, Try.results73, go_sem, I_Zone_solar, *]; done) | (simp [results, Try.results73, go_sem, *]; repeat (simp (disch := omega) only [if_pos, if_neg]; try simp [go_sem, I_Zone_solar, *]))
    · (repeat (first | (with_reducible exact Q.refl _) | (with_reducible assumption) | (with_reducible refine Q.setCell ?_ (by dsimp only; omega) _) | (with_reducible refine Q.alloc ?_ _) | (with_reducible refine Q.drew ?_) | (with_reducible refine Q.call ?_ (by with_reducible assumption))))

set_option maxHeartbeats 4000000 in
theorem c_I_SolarOf (z_Offset : Int) (z_StartMonth : Int) (z_StartWeek : Int) (z_EndMonth : Int) (z_EndWeek : Int) (longitude : Int) (d_Year : Int) (d_Month : Int) (d_Day : Int) (second : Int) (w : World)  : Calls Try.prog 31 #[.agg #[.int .i64 z_Offset, .int .i64 z_StartMonth, .int .i64 z_StartWeek, .int .i64 z_EndMonth, .int .i64 z_EndWeek], .int .i64 longitude, .agg #[.int .i64 d_Year, .int .i64 d_Month, .int .i64 d_Day], .int .i64 second] w fun e w' => e = .returned (.tuple #[.agg #[.int .i64 ((I_SolarOf (⟨z_Offset, z_StartMonth, z_StartWeek, z_EndMonth, z_EndWeek⟩ : Zone) longitude (⟨d_Year, d_Month, d_Day⟩ : Date) second).1.Low), .int .i64 ((I_SolarOf (⟨z_Offset, z_StartMonth, z_StartWeek, z_EndMonth, z_EndWeek⟩ : Zone) longitude (⟨d_Year, d_Month, d_Day⟩ : Date) second).1.High)], .int .i64 ((I_SolarOf (⟨z_Offset, z_StartMonth, z_StartWeek, z_EndMonth, z_EndWeek⟩ : Zone) longitude (⟨d_Year, d_Month, d_Day⟩ : Date) second).2)]) ∧ Q w w' := by
  have hset := setRule
  have hall := allocRule
  have halm := allocMark
  have hw64 := wrapRule
  go_enter Try.func31, Try.ntmps31
  go_wp2_with (first | (go_at_call 63; refine (c_I_zoned _ _ _ _ _ _ _ _ _ ).mono ?_; rintro e w1 ⟨rfl, hq⟩; obtain ⟨hc, hf⟩ := hq.rules; have hs := hq.le; try simp at hs) | (go_at_call 59; refine (c_I_in _ _ _ _ ).mono ?_; rintro e w1 ⟨rfl, rfl⟩) | (go_at_call 69; refine (c_I_isSecond _ _ ).mono ?_; rintro e w1 ⟨rfl, rfl⟩) | (go_at_call 73; refine (c_I_Zone_solar _ _ _ _ _ _ _ _ _ _ _ (by first | assumption | decide | omega | (unfold wrap64; omega) | exact (pre_month (by assumption)).1 | exact (pre_month (by assumption)).2.1 | exact (pre_month (by assumption)).2.2 | exact (pre_day (by assumption)).1 | exact (pre_day (by assumption)).2.1 | exact (pre_day (by assumption)).2.2 | exact (pre_dayI (by assumption)).1 | exact (pre_dayI (by assumption)).2.1 | exact (pre_dayI (by assumption)).2.2 | exact (pre_moment (by assumption)).1 | exact (pre_moment (by assumption)).2.1 | exact (pre_moment (by assumption)).2.2 | exact (pre_moment0 (by assumption)).1 | exact (pre_moment0 (by assumption)).2.1 | exact (pre_moment0 (by assumption)).2.2 | exact (pre_zone (by assumption)).1 | exact (pre_zone (by assumption)).2 | exact pre_date (by assumption) | exact nthWeekday_month (by assumption) | exact shift_month _ _ _ | exact later_month _ _) (by first | assumption | decide | omega | (unfold wrap64; omega) | exact (pre_month (by assumption)).1 | exact (pre_month (by assumption)).2.1 | exact (pre_month (by assumption)).2.2 | exact (pre_day (by assumption)).1 | exact (pre_day (by assumption)).2.1 | exact (pre_day (by assumption)).2.2 | exact (pre_dayI (by assumption)).1 | exact (pre_dayI (by assumption)).2.1 | exact (pre_dayI (by assumption)).2.2 | exact (pre_moment (by assumption)).1 | exact (pre_moment (by assumption)).2.1 | exact (pre_moment (by assumption)).2.2 | exact (pre_moment0 (by assumption)).1 | exact (pre_moment0 (by assumption)).2.1 | exact (pre_moment0 (by assumption)).2.2 | exact (pre_zone (by assumption)).1 | exact (pre_zone (by assumption)).2 | exact pre_date (by assumption) | exact nthWeekday_month (by assumption) | exact shift_month _ _ _ | exact later_month _ _) (by first | assumption | decide | omega | (unfold wrap64; omega) | exact (pre_month (by assumption)).1 | exact (pre_month (by assumption)).2.1 | exact (pre_month (by assumption)).2.2 | exact (pre_day (by assumption)).1 | exact (pre_day (by assumption)).2.1 | exact (pre_day (by assumption)).2.2 | exact (pre_dayI (by assumption)).1 | exact (pre_dayI (by assumption)).2.1 | exact (pre_dayI (by assumption)).2.2 | exact (pre_moment (by assumption)).1 | exact (pre_moment (by assumption)).2.1 | exact (pre_moment (by assumption)).2.2 | exact (pre_moment0 (by assumption)).1 | exact (pre_moment0 (by assumption)).2.1 | exact (pre_moment0 (by assumption)).2.2 | exact (pre_zone (by assumption)).1 | exact (pre_zone (by assumption)).2 | exact pre_date (by assumption) | exact nthWeekday_month (by assumption) | exact shift_month _ _ _ | exact later_month _ _)).mono ?_; rintro e w1 ⟨rfl, hq⟩; obtain ⟨hc, hf⟩ := hq.rules; have hs := hq.le; try simp at hs))
  all_goals
    refine bodyPost_ret (v := .tuple #[.agg #[.int .i64 ((I_SolarOf (⟨z_Offset, z_StartMonth, z_StartWeek, z_EndMonth, z_EndWeek⟩ : Zone) longitude (⟨d_Year, d_Month, d_Day⟩ : Date) second).1.Low), .int .i64 ((I_SolarOf (⟨z_Offset, z_StartMonth, z_StartWeek, z_EndMonth, z_EndWeek⟩ : Zone) longitude (⟨d_Year, d_Month, d_Day⟩ : Date) second).1.High)], .int .i64 ((I_SolarOf (⟨z_Offset, z_StartMonth, z_StartWeek, z_EndMonth, z_EndWeek⟩ : Zone) longitude (⟨d_Year, d_Month, d_Day⟩ : Date) second).2)]) ?_ rfl ⟨rfl, ?_⟩
    · first | (simp [results, Try.results31, go_sem, I_SolarOf, *]; done) | (simp [results, Try.results31, go_sem, *]; repeat (simp (disch := omega) only [if_pos, if_neg]; try simp [go_sem, I_SolarOf, *]))
    · (repeat (first | (with_reducible exact Q.refl _) | (with_reducible assumption) | (with_reducible refine Q.setCell ?_ (by dsimp only; omega) _) | (with_reducible refine Q.alloc ?_ _) | (with_reducible refine Q.drew ?_) | (with_reducible refine Q.call ?_ (by with_reducible assumption))))

theorem c_L_eqInterval (a_Low : Int) (a_High : Int) (b_Low : Int) (b_High : Int) (w : World)  : Calls Try.prog 32 #[.agg #[.int .i64 a_Low, .int .i64 a_High], .agg #[.int .i64 b_Low, .int .i64 b_High]] w fun e w' => e = .returned (.bool ((L_eqInterval (⟨a_Low, a_High⟩ : Interval) (⟨b_Low, b_High⟩ : Interval)))) ∧ Q w w' := by
  have hset := setRule
  have hall := allocRule
  have halm := allocMark
  have hw64 := wrapRule
  go_enter Try.func32, Try.ntmps32
  go_wp2
  all_goals go_ret
  all_goals refine ⟨?_, (by (repeat (first | (with_reducible exact Q.refl _) | (with_reducible assumption) | (with_reducible refine Q.setCell ?_ (by dsimp only; omega) _) | (with_reducible refine Q.alloc ?_ _) | (with_reducible refine Q.drew ?_) | (with_reducible refine Q.call ?_ (by with_reducible assumption)))))⟩
  all_goals first | (simp [L_eqInterval, *]; done) | (simp [L_eqInterval, *]; omega) | (simp [L_eqInterval, *]; simp (disch := omega) only [if_pos, if_neg]; done) | (simp_all [L_eqInterval]; done) | (simp_all [L_eqInterval]; omega)

set_option maxHeartbeats 4000000 in
theorem c_S_ClockError (z_Offset : Int) (z_StartMonth : Int) (z_StartWeek : Int) (z_EndMonth : Int) (z_EndWeek : Int) (longitude : Int) (d_Year : Int) (d_Month : Int) (d_Day : Int) (w : World)  : Calls Try.prog 33 #[.agg #[.int .i64 z_Offset, .int .i64 z_StartMonth, .int .i64 z_StartWeek, .int .i64 z_EndMonth, .int .i64 z_EndWeek], .int .i64 longitude, .agg #[.int .i64 d_Year, .int .i64 d_Month, .int .i64 d_Day]] w fun e w' => e = .returned (.tuple #[.agg #[.int .i64 ((S_ClockError (⟨z_Offset, z_StartMonth, z_StartWeek, z_EndMonth, z_EndWeek⟩ : Zone) longitude (⟨d_Year, d_Month, d_Day⟩ : Date)).1.Low), .int .i64 ((S_ClockError (⟨z_Offset, z_StartMonth, z_StartWeek, z_EndMonth, z_EndWeek⟩ : Zone) longitude (⟨d_Year, d_Month, d_Day⟩ : Date)).1.High)], .int .i64 ((S_ClockError (⟨z_Offset, z_StartMonth, z_StartWeek, z_EndMonth, z_EndWeek⟩ : Zone) longitude (⟨d_Year, d_Month, d_Day⟩ : Date)).2)]) ∧ Q w w' := by
  have hset := setRule
  have hall := allocRule
  have halm := allocMark
  have hw64 := wrapRule
  go_enter Try.func33, Try.ntmps33
  go_wp2_with (first | (go_at_call 30; refine (c_S_SolarOf _ _ _ _ _ _ _ _ _ _ _ ).mono ?_; rintro e w1 ⟨rfl, hq⟩; obtain ⟨hc, hf⟩ := hq.rules; have hs := hq.le; try simp at hs))
  all_goals
    refine bodyPost_ret (v := .tuple #[.agg #[.int .i64 ((S_ClockError (⟨z_Offset, z_StartMonth, z_StartWeek, z_EndMonth, z_EndWeek⟩ : Zone) longitude (⟨d_Year, d_Month, d_Day⟩ : Date)).1.Low), .int .i64 ((S_ClockError (⟨z_Offset, z_StartMonth, z_StartWeek, z_EndMonth, z_EndWeek⟩ : Zone) longitude (⟨d_Year, d_Month, d_Day⟩ : Date)).1.High)], .int .i64 ((S_ClockError (⟨z_Offset, z_StartMonth, z_StartWeek, z_EndMonth, z_EndWeek⟩ : Zone) longitude (⟨d_Year, d_Month, d_Day⟩ : Date)).2)]) ?_ rfl ⟨rfl, ?_⟩
    · first | (simp [results, Try.results33, go_sem, S_ClockError, *]; done) | (simp [results, Try.results33, go_sem, *]; repeat (simp (disch := omega) only [if_pos, if_neg]; try simp [go_sem, S_ClockError, *]))
    · (repeat (first | (with_reducible exact Q.refl _) | (with_reducible assumption) | (with_reducible refine Q.setCell ?_ (by dsimp only; omega) _) | (with_reducible refine Q.alloc ?_ _) | (with_reducible refine Q.drew ?_) | (with_reducible refine Q.call ?_ (by with_reducible assumption))))

set_option maxHeartbeats 1000000 in
theorem c_I_Interval_shifted (a_Low : Int) (a_High : Int) (by_ : Int) (w : World)  : Calls Try.prog 74 #[.agg #[.int .i64 a_Low, .int .i64 a_High], .int .i64 by_] w fun e w' => e = .returned (.agg #[.int .i64 ((I_Interval_shifted (⟨a_Low, a_High⟩ : Interval) by_).Low), .int .i64 ((I_Interval_shifted (⟨a_Low, a_High⟩ : Interval) by_).High)]) ∧ Q w w' := by
  have hset := setRule
  have hall := allocRule
  have halm := allocMark
  have hw64 := wrapRule
  go_enter Try.func74, Try.ntmps74
  go_wp2
  all_goals
    refine bodyPost_ret (v := .agg #[.int .i64 ((I_Interval_shifted (⟨a_Low, a_High⟩ : Interval) by_).Low), .int .i64 ((I_Interval_shifted (⟨a_Low, a_High⟩ : Interval) by_).High)]) ?_ rfl ⟨rfl, ?_⟩
    · first | (simp [results, Try.results74, go_sem, I_Interval_shifted, *]; done) | (simp [results, Try.results74, go_sem, *]; repeat (simp (disch := omega) only [if_pos, if_neg]; try simp [go_sem, I_Interval_shifted, *]))
    · (repeat (first | (with_reducible exact Q.refl _) | (with_reducible assumption) | (with_reducible refine Q.setCell ?_ (by dsimp only; omega) _) | (with_reducible refine Q.alloc ?_ _) | (with_reducible refine Q.drew ?_) | (with_reducible refine Q.call ?_ (by with_reducible assumption))))

set_option maxHeartbeats 4000000 in
theorem c_I_ClockError (z_Offset : Int) (z_StartMonth : Int) (z_StartWeek : Int) (z_EndMonth : Int) (z_EndWeek : Int) (longitude : Int) (d_Year : Int) (d_Month : Int) (d_Day : Int) (w : World)  : Calls Try.prog 34 #[.agg #[.int .i64 z_Offset, .int .i64 z_StartMonth, .int .i64 z_StartWeek, .int .i64 z_EndMonth, .int .i64 z_EndWeek], .int .i64 longitude, .agg #[.int .i64 d_Year, .int .i64 d_Month, .int .i64 d_Day]] w fun e w' => e = .returned (.tuple #[.agg #[.int .i64 ((I_ClockError (⟨z_Offset, z_StartMonth, z_StartWeek, z_EndMonth, z_EndWeek⟩ : Zone) longitude (⟨d_Year, d_Month, d_Day⟩ : Date)).1.Low), .int .i64 ((I_ClockError (⟨z_Offset, z_StartMonth, z_StartWeek, z_EndMonth, z_EndWeek⟩ : Zone) longitude (⟨d_Year, d_Month, d_Day⟩ : Date)).1.High)], .int .i64 ((I_ClockError (⟨z_Offset, z_StartMonth, z_StartWeek, z_EndMonth, z_EndWeek⟩ : Zone) longitude (⟨d_Year, d_Month, d_Day⟩ : Date)).2)]) ∧ Q w w' := by
  have hset := setRule
  have hall := allocRule
  have halm := allocMark
  have hw64 := wrapRule
  go_enter Try.func34, Try.ntmps34
  go_wp2_with (first | (go_at_call 31; refine (c_I_SolarOf _ _ _ _ _ _ _ _ _ _ _ ).mono ?_; rintro e w1 ⟨rfl, hq⟩; obtain ⟨hc, hf⟩ := hq.rules; have hs := hq.le; try simp at hs) | (go_at_call 74; refine (c_I_Interval_shifted _ _ _ _ ).mono ?_; rintro e w1 ⟨rfl, hq⟩; obtain ⟨hc, hf⟩ := hq.rules; have hs := hq.le; try simp at hs))
  all_goals
    refine bodyPost_ret (v := .tuple #[.agg #[.int .i64 ((I_ClockError (⟨z_Offset, z_StartMonth, z_StartWeek, z_EndMonth, z_EndWeek⟩ : Zone) longitude (⟨d_Year, d_Month, d_Day⟩ : Date)).1.Low), .int .i64 ((I_ClockError (⟨z_Offset, z_StartMonth, z_StartWeek, z_EndMonth, z_EndWeek⟩ : Zone) longitude (⟨d_Year, d_Month, d_Day⟩ : Date)).1.High)], .int .i64 ((I_ClockError (⟨z_Offset, z_StartMonth, z_StartWeek, z_EndMonth, z_EndWeek⟩ : Zone) longitude (⟨d_Year, d_Month, d_Day⟩ : Date)).2)]) ?_ rfl ⟨rfl, ?_⟩
    · first | (simp [results, Try.results34, go_sem, I_ClockError, *]; done) | (simp [results, Try.results34, go_sem, *]; repeat (simp (disch := omega) only [if_pos, if_neg]; try simp [go_sem, I_ClockError, *]))
    · (repeat (first | (with_reducible exact Q.refl _) | (with_reducible assumption) | (with_reducible refine Q.setCell ?_ (by dsimp only; omega) _) | (with_reducible refine Q.alloc ?_ _) | (with_reducible refine Q.drew ?_) | (with_reducible refine Q.call ?_ (by with_reducible assumption))))

set_option maxHeartbeats 1000000 in
theorem c_S_EquationOfTime (n : Int) (w : World)  : Calls Try.prog 35 #[.int .i64 n] w fun e w' => e = .returned (.tuple #[.agg #[.int .i64 ((S_EquationOfTime n).1.Low), .int .i64 ((S_EquationOfTime n).1.High)], .int .i64 ((S_EquationOfTime n).2)]) ∧ Q w w' := by
  have hset := setRule
  have hall := allocRule
  have halm := allocMark
  have hw64 := wrapRule
  go_enter Try.func35, Try.ntmps35
  go_wp2_with (first | (go_at_call 53; refine (c_S_l07Has _ _ ).mono ?_; rintro e w1 ⟨rfl, rfl⟩) | (go_at_call 75; refine (c_S_l08Equation _ _ ).mono ?_; rintro e w1 ⟨rfl, hq⟩; obtain ⟨hc, hf⟩ := hq.rules; have hs := hq.le; try simp at hs))
  all_goals
    refine bodyPost_ret (v := .tuple #[.agg #[.int .i64 ((S_EquationOfTime n).1.Low), .int .i64 ((S_EquationOfTime n).1.High)], .int .i64 ((S_EquationOfTime n).2)]) ?_ rfl ⟨rfl, ?_⟩
    · first | (simp [results, Try.results35, go_sem, S_EquationOfTime, *]; done) | (simp [results, Try.results35, go_sem, *]; repeat (simp (disch := omega) only [if_pos, if_neg]; try simp [go_sem, S_EquationOfTime, *]))
    · (repeat (first | (with_reducible exact Q.refl _) | (with_reducible assumption) | (with_reducible refine Q.setCell ?_ (by dsimp only; omega) _) | (with_reducible refine Q.alloc ?_ _) | (with_reducible refine Q.drew ?_) | (with_reducible refine Q.call ?_ (by with_reducible assumption))))

set_option maxHeartbeats 1000000 in
theorem c_I_EquationOfTime (n : Int) (w : World)  : Calls Try.prog 36 #[.int .i64 n] w fun e w' => e = .returned (.tuple #[.agg #[.int .i64 ((I_EquationOfTime n).1.Low), .int .i64 ((I_EquationOfTime n).1.High)], .int .i64 ((I_EquationOfTime n).2)]) ∧ Q w w' := by
  have hset := setRule
  have hall := allocRule
  have halm := allocMark
  have hw64 := wrapRule
  go_enter Try.func36, Try.ntmps36
  go_wp2_with (first | (go_at_call 55; refine (c_I_isDayNumber _ _ ).mono ?_; rintro e w1 ⟨rfl, hq⟩; obtain ⟨hc, hf⟩ := hq.rules; have hs := hq.le; try simp at hs) | (go_at_call 76; refine (c_I_equationOfTime _ _ ).mono ?_; rintro e w1 ⟨rfl, hq⟩; obtain ⟨hc, hf⟩ := hq.rules; have hs := hq.le; try simp at hs))
  all_goals
    refine bodyPost_ret (v := .tuple #[.agg #[.int .i64 ((I_EquationOfTime n).1.Low), .int .i64 ((I_EquationOfTime n).1.High)], .int .i64 ((I_EquationOfTime n).2)]) ?_ rfl ⟨rfl, ?_⟩
    · first | (simp [results, Try.results36, go_sem, I_EquationOfTime, *]; done) | (simp [results, Try.results36, go_sem, *]; repeat (simp (disch := omega) only [if_pos, if_neg]; try simp [go_sem, I_EquationOfTime, *]))
    · (repeat (first | (with_reducible exact Q.refl _) | (with_reducible assumption) | (with_reducible refine Q.setCell ?_ (by dsimp only; omega) _) | (with_reducible refine Q.alloc ?_ _) | (with_reducible refine Q.drew ?_) | (with_reducible refine Q.call ?_ (by with_reducible assumption))))

theorem c_I_isValue (n : Int) (w : World)  : Calls Try.prog 83 #[.int .i64 n] w fun e w' => e = .returned (.bool ((I_isValue n))) ∧ w = w' := by
  have hw64 := wrapRule
  go_enter Try.func83, Try.ntmps83
  go_wp2_with (first | (go_at_call 59; refine (c_I_in _ _ _ _ ).mono ?_; rintro e w1 ⟨rfl, rfl⟩))
  all_goals go_ret
  all_goals refine ⟨?_, rfl⟩
  all_goals first | (simp [I_isValue, *]; done) | (simp [I_isValue, *]; omega) | (simp [I_isValue, *]; simp (disch := omega) only [if_pos, if_neg]; done) | (simp_all [I_isValue]; done) | (simp_all [I_isValue]; omega)

theorem c_I_LiesOnWay (a : Int) (from_ : Int) (to : Int) (w : World)  : Calls Try.prog 46 #[.int .i64 a, .int .i64 from_, .int .i64 to] w fun e w' => e = .returned (.tuple #[.bool ((I_LiesOnWay a from_ to).1), .int .i64 ((I_LiesOnWay a from_ to).2)]) ∧ w = w' := by
  have hw64 := wrapRule
  go_enter Try.func46, Try.ntmps46
  go_wp2_with (first | (go_at_call 83; refine (c_I_isValue _ _ ).mono ?_; rintro e w1 ⟨rfl, rfl⟩) | (go_at_call 84; refine (c_I_liesOnWay _ _ _ _ ).mono ?_; rintro e w1 ⟨rfl, rfl⟩))
  all_goals go_ret2
  all_goals refine ⟨?_, rfl⟩
  all_goals first | (simp [I_LiesOnWay, *]; done) | (simp [I_LiesOnWay, *]; omega) | (simp [I_LiesOnWay, *]; simp (disch := omega) only [if_pos, if_neg]; done) | (simp_all [I_LiesOnWay]; done) | (simp_all [I_LiesOnWay]; omega)

set_option maxHeartbeats 1000000 in
theorem c_I_DateOf (number : Int) (w : World)  : Calls Try.prog 52 #[.int .i64 number] w fun e w' => e = .returned (.tuple #[.agg #[.int .i64 ((I_DateOf number).1.Year), .int .i64 ((I_DateOf number).1.Month), .int .i64 ((I_DateOf number).1.Day)], .int .i64 ((I_DateOf number).2)]) ∧ Q w w' := by
  have hset := setRule
  have hall := allocRule
  have halm := allocMark
  have hw64 := wrapRule
  go_enter Try.func52, Try.ntmps52
  go_wp2_with (first | (go_at_call 55; refine (c_I_isDayNumber _ _ ).mono ?_; rintro e w1 ⟨rfl, hq⟩; obtain ⟨hc, hf⟩ := hq.rules; have hs := hq.le; try simp at hs) | (go_at_call 90; refine (c_I_dateOf _ _ ).mono ?_; rintro e w1 ⟨rfl, hq⟩; obtain ⟨hc, hf⟩ := hq.rules; have hs := hq.le; try simp at hs))
  all_goals
    refine bodyPost_ret (v := .tuple #[.agg #[.int .i64 ((I_DateOf number).1.Year), .int .i64 ((I_DateOf number).1.Month), .int .i64 ((I_DateOf number).1.Day)], .int .i64 ((I_DateOf number).2)]) ?_ rfl ⟨rfl, ?_⟩
    · first | (simp [results, Try.results52, go_sem, I_DateOf, *]; done) | (simp [results, Try.results52, go_sem, *]; repeat (simp (disch := omega) only [if_pos, if_neg]; try simp [go_sem, I_DateOf, *]))
    · (repeat (first | (with_reducible exact Q.refl _) | (with_reducible assumption) | (with_reducible refine Q.setCell ?_ (by dsimp only; omega) _) | (with_reducible refine Q.alloc ?_ _) | (with_reducible refine Q.drew ?_) | (with_reducible refine Q.call ?_ (by with_reducible assumption))))

end Go.Proofs.Ytlckpdagejbchaa
