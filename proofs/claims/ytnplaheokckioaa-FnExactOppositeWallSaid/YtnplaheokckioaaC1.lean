/- Contracts of Go functions of the plain fragment, with their walks; printed by a program of the author's own. -/
import Derived.Test.YtnplaheokckioaaRows
import Derived.Test.YtnplaheokckioaaDefs
import Derived.Test.YtnplaheokckioaaQ
import Derived.Test.YtnplaheokckioaaRegion
import Derived.WalkKit
import Derived.ProofKit
import Derived.OpenShut
import Derived.WalkLawsBesides
import Derived.BigQuiet
import Derived.Deep.QuietTactic
namespace Go.Proofs.Ytnplaheokckioaa
open Go.ChangeShapes Go.WideShapes Go.ChangeAt Go.RowKit
set_option linter.unusedVariables false
set_option linter.unusedSimpArgs false
theorem c_S_IsDay (d_Rise : Int) (d_Set : Int) (w : World)  : Calls Try.prog 15 #[.agg #[.int .i64 d_Rise, .int .i64 d_Set]] w fun e w' => e = .returned (.bool ((S_IsDay (⟨d_Rise, d_Set⟩ : Day)))) ∧ Q w w' := by
  have hset := setRule
  have hall := allocRule
  have halm := allocMark
  go_enter Try.func15, Try.ntmps15
  go_wp2
  all_goals go_ret
  all_goals refine ⟨?_, (by (repeat (first | (with_reducible exact Q.refl _) | (with_reducible assumption) | (with_reducible refine Q.setCell ?_ (by dsimp only; omega) _) | (with_reducible refine Q.alloc ?_ _) | (with_reducible refine Q.drew ?_) | (with_reducible refine Q.call ?_ (by with_reducible assumption)))))⟩
  all_goals first | (simp [S_IsDay, *]; done) | (simp [S_IsDay, *]; omega) | (simp_all [S_IsDay]; done) | (simp_all [S_IsDay]; omega)

set_option maxHeartbeats 1000000 in
theorem c_L_toDay (a_Rise : Int) (a_Set : Int) (w : World)  : Calls Try.prog 16 #[.agg #[.int .i64 a_Rise, .int .i64 a_Set]] w fun e w' => e = .returned (.agg #[.int .i64 ((L_toDay (⟨a_Rise, a_Set⟩ : Day)).Rise), .int .i64 ((L_toDay (⟨a_Rise, a_Set⟩ : Day)).Set)]) ∧ Q w w' := by
  have hset := setRule
  have hall := allocRule
  have halm := allocMark
  go_enter Try.func16, Try.ntmps16
  go_wp2
  all_goals
    refine bodyPost_ret (v := .agg #[.int .i64 ((L_toDay (⟨a_Rise, a_Set⟩ : Day)).Rise), .int .i64 ((L_toDay (⟨a_Rise, a_Set⟩ : Day)).Set)]) ?_ rfl ⟨rfl, ?_⟩
    · first | (simp [results, Try.results16, go_sem, L_toDay, *]; done) | (simp [results, Try.results16, go_sem, *]; repeat (simp (disch := omega) only [if_pos]; try simp [go_sem, L_toDay, *]))
    · (repeat (first | (with_reducible exact Q.refl _) | (with_reducible assumption) | (with_reducible refine Q.setCell ?_ (by dsimp only; omega) _) | (with_reducible refine Q.alloc ?_ _) | (with_reducible refine Q.drew ?_) | (with_reducible refine Q.call ?_ (by with_reducible assumption))))

theorem c_I_IsDay (d_Rise : Int) (d_Set : Int) (w : World)  : Calls Try.prog 17 #[.agg #[.int .i64 d_Rise, .int .i64 d_Set]] w fun e w' => e = .returned (.bool ((I_IsDay (⟨d_Rise, d_Set⟩ : Day)))) ∧ Q w w' := by
  have hset := setRule
  have hall := allocRule
  have halm := allocMark
  go_enter Try.func17, Try.ntmps17
  go_wp2
  all_goals go_ret
  all_goals refine ⟨?_, (by (repeat (first | (with_reducible exact Q.refl _) | (with_reducible assumption) | (with_reducible refine Q.setCell ?_ (by dsimp only; omega) _) | (with_reducible refine Q.alloc ?_ _) | (with_reducible refine Q.drew ?_) | (with_reducible refine Q.call ?_ (by with_reducible assumption)))))⟩
  all_goals first | (simp [I_IsDay, *]; done) | (simp [I_IsDay, *]; omega) | (simp_all [I_IsDay]; done) | (simp_all [I_IsDay]; omega)

theorem c_S_l01In (n : Int) (low : Int) (high : Int) (w : World)  : Calls Try.prog 47 #[.int .i64 n, .int .i64 low, .int .i64 high] w fun e w' => e = .returned (.bool ((S_l01In n low high))) ∧ w = w' := by
  go_enter Try.func47, Try.ntmps47
  go_wp2
  all_goals go_ret
  all_goals refine ⟨?_, rfl⟩
  all_goals first | (simp [S_l01In, *]; done) | (simp [S_l01In, *]; omega) | (simp_all [S_l01In]; done) | (simp_all [S_l01In]; omega)

theorem c_S_l09Latitude (a : Int) (w : World)  : Calls Try.prog 48 #[.int .i64 a] w fun e w' => e = .returned (.bool ((S_l09Latitude a))) ∧ w = w' := by
  go_enter Try.func48, Try.ntmps48
  go_wp2_with (first | (go_at_call 47; refine (c_S_l01In _ _ _ _ ).mono ?_; rintro e w1 ⟨rfl, rfl⟩))
  all_goals go_ret
  all_goals refine ⟨?_, rfl⟩
  all_goals first | (simp [S_l09Latitude, *]; done) | (simp [S_l09Latitude, *]; omega) | (simp_all [S_l09Latitude]; done) | (simp_all [S_l09Latitude]; omega)

theorem c_S_IsWall (w0_Azimuth : Int) (w0_Slope : Int) (w : World)  : Calls Try.prog 18 #[.agg #[.int .i64 w0_Azimuth, .int .i64 w0_Slope]] w fun e w' => e = .returned (.bool ((S_IsWall (⟨w0_Azimuth, w0_Slope⟩ : Wall)))) ∧ Q w w' := by
  have hset := setRule
  have hall := allocRule
  have halm := allocMark
  go_enter Try.func18, Try.ntmps18
  go_wp2_with (first | (go_at_call 47; refine (c_S_l01In _ _ _ _ ).mono ?_; rintro e w1 ⟨rfl, rfl⟩) | (go_at_call 48; refine (c_S_l09Latitude _ _ ).mono ?_; rintro e w1 ⟨rfl, rfl⟩))
  all_goals go_ret
  all_goals refine ⟨?_, (by (repeat (first | (with_reducible exact Q.refl _) | (with_reducible assumption) | (with_reducible refine Q.setCell ?_ (by dsimp only; omega) _) | (with_reducible refine Q.alloc ?_ _) | (with_reducible refine Q.drew ?_) | (with_reducible refine Q.call ?_ (by with_reducible assumption)))))⟩
  all_goals first | (simp [S_IsWall, *]; done) | (simp [S_IsWall, *]; omega) | (simp_all [S_IsWall]; done) | (simp_all [S_IsWall]; omega)

set_option maxHeartbeats 1000000 in
theorem c_L_toWall (a_Azimuth : Int) (a_Slope : Int) (w : World)  : Calls Try.prog 19 #[.agg #[.int .i64 a_Azimuth, .int .i64 a_Slope]] w fun e w' => e = .returned (.agg #[.int .i64 ((L_toWall (⟨a_Azimuth, a_Slope⟩ : Wall)).Azimuth), .int .i64 ((L_toWall (⟨a_Azimuth, a_Slope⟩ : Wall)).Slope)]) ∧ Q w w' := by
  have hset := setRule
  have hall := allocRule
  have halm := allocMark
  go_enter Try.func19, Try.ntmps19
  go_wp2
  all_goals
    refine bodyPost_ret (v := .agg #[.int .i64 ((L_toWall (⟨a_Azimuth, a_Slope⟩ : Wall)).Azimuth), .int .i64 ((L_toWall (⟨a_Azimuth, a_Slope⟩ : Wall)).Slope)]) ?_ rfl ⟨rfl, ?_⟩
    · first | (simp [results, Try.results19, go_sem, L_toWall, *]; done) | (simp [results, Try.results19, go_sem, *]; repeat (simp (disch := omega) only [if_pos]; try simp [go_sem, L_toWall, *]))
    · (repeat (first | (with_reducible exact Q.refl _) | (with_reducible assumption) | (with_reducible refine Q.setCell ?_ (by dsimp only; omega) _) | (with_reducible refine Q.alloc ?_ _) | (with_reducible refine Q.drew ?_) | (with_reducible refine Q.call ?_ (by with_reducible assumption))))

theorem c_I_in (n : Int) (low : Int) (high : Int) (w : World)  : Calls Try.prog 49 #[.int .i64 n, .int .i64 low, .int .i64 high] w fun e w' => e = .returned (.bool ((I_in n low high))) ∧ w = w' := by
  go_enter Try.func49, Try.ntmps49
  go_wp2
  all_goals go_ret
  all_goals refine ⟨?_, rfl⟩
  all_goals first | (simp [I_in, *]; done) | (simp [I_in, *]; omega) | (simp_all [I_in]; done) | (simp_all [I_in]; omega)

theorem c_I_IsWall (w0_Azimuth : Int) (w0_Slope : Int) (w : World)  : Calls Try.prog 20 #[.agg #[.int .i64 w0_Azimuth, .int .i64 w0_Slope]] w fun e w' => e = .returned (.bool ((I_IsWall (⟨w0_Azimuth, w0_Slope⟩ : Wall)))) ∧ Q w w' := by
  have hset := setRule
  have hall := allocRule
  have halm := allocMark
  go_enter Try.func20, Try.ntmps20
  go_wp2_with (first | (go_at_call 49; refine (c_I_in _ _ _ _ ).mono ?_; rintro e w1 ⟨rfl, rfl⟩))
  all_goals go_ret
  all_goals refine ⟨?_, (by (repeat (first | (with_reducible exact Q.refl _) | (with_reducible assumption) | (with_reducible refine Q.setCell ?_ (by dsimp only; omega) _) | (with_reducible refine Q.alloc ?_ _) | (with_reducible refine Q.drew ?_) | (with_reducible refine Q.call ?_ (by with_reducible assumption)))))⟩
  all_goals first | (simp [I_IsWall, *]; done) | (simp [I_IsWall, *]; omega) | (simp_all [I_IsWall]; done) | (simp_all [I_IsWall]; omega)

theorem c_S_l01Is (n : Int) (w : World)  : Calls Try.prog 66 #[.int .i64 n] w fun e w' => e = .returned (.bool ((S_l01Is n))) ∧ w = w' := by
  go_enter Try.func66, Try.ntmps66
  go_wp2_with (first | (go_at_call 47; refine (c_S_l01In _ _ _ _ ).mono ?_; rintro e w1 ⟨rfl, rfl⟩))
  all_goals go_ret
  all_goals refine ⟨?_, rfl⟩
  all_goals first | (simp [S_l01Is, *]; done) | (simp [S_l01Is, *]; omega) | (simp_all [S_l01Is]; done) | (simp_all [S_l01Is]; omega)

theorem c_S_IsInterval (a_Low : Int) (a_High : Int) (w : World)  : Calls Try.prog 50 #[.agg #[.int .i64 a_Low, .int .i64 a_High]] w fun e w' => e = .returned (.bool ((S_IsInterval (⟨a_Low, a_High⟩ : Interval)))) ∧ Q w w' := by
  have hset := setRule
  have hall := allocRule
  have halm := allocMark
  go_enter Try.func50, Try.ntmps50
  go_wp2_with (first | (go_at_call 66; refine (c_S_l01Is _ _ ).mono ?_; rintro e w1 ⟨rfl, rfl⟩))
  all_goals go_ret
  all_goals refine ⟨?_, (by (repeat (first | (with_reducible exact Q.refl _) | (with_reducible assumption) | (with_reducible refine Q.setCell ?_ (by dsimp only; omega) _) | (with_reducible refine Q.alloc ?_ _) | (with_reducible refine Q.drew ?_) | (with_reducible refine Q.call ?_ (by with_reducible assumption)))))⟩
  all_goals first | (simp [S_IsInterval, *]; done) | (simp [S_IsInterval, *]; omega) | (simp_all [S_IsInterval]; done) | (simp_all [S_IsInterval]; omega)

theorem c_S_HasNumber (a_Low : Int) (a_High : Int) (x : Int) (w : World)  : Calls Try.prog 21 #[.agg #[.int .i64 a_Low, .int .i64 a_High], .int .i64 x] w fun e w' => e = .returned (.bool ((S_HasNumber (⟨a_Low, a_High⟩ : Interval) x))) ∧ Q w w' := by
  have hset := setRule
  have hall := allocRule
  have halm := allocMark
  go_enter Try.func21, Try.ntmps21
  go_wp2_with (first | (go_at_call 50; refine (c_S_IsInterval _ _ _ ).mono ?_; rintro e w1 ⟨rfl, hq⟩; obtain ⟨hc, hf⟩ := hq.rules; have hs := hq.le; try simp at hs) | (go_at_call 47; refine (c_S_l01In _ _ _ _ ).mono ?_; rintro e w1 ⟨rfl, rfl⟩))
  all_goals go_ret
  all_goals refine ⟨?_, (by (repeat (first | (with_reducible exact Q.refl _) | (with_reducible assumption) | (with_reducible refine Q.setCell ?_ (by dsimp only; omega) _) | (with_reducible refine Q.alloc ?_ _) | (with_reducible refine Q.drew ?_) | (with_reducible refine Q.call ?_ (by with_reducible assumption)))))⟩
  all_goals first | (simp [S_HasNumber, *]; done) | (simp [S_HasNumber, *]; omega) | (simp_all [S_HasNumber]; done) | (simp_all [S_HasNumber]; omega)

set_option maxHeartbeats 1000000 in
theorem c_L_toInterval (a_Low : Int) (a_High : Int) (w : World)  : Calls Try.prog 22 #[.agg #[.int .i64 a_Low, .int .i64 a_High]] w fun e w' => e = .returned (.agg #[.int .i64 ((L_toInterval (⟨a_Low, a_High⟩ : Interval)).Low), .int .i64 ((L_toInterval (⟨a_Low, a_High⟩ : Interval)).High)]) ∧ Q w w' := by
  have hset := setRule
  have hall := allocRule
  have halm := allocMark
  go_enter Try.func22, Try.ntmps22
  go_wp2
  all_goals
    refine bodyPost_ret (v := .agg #[.int .i64 ((L_toInterval (⟨a_Low, a_High⟩ : Interval)).Low), .int .i64 ((L_toInterval (⟨a_Low, a_High⟩ : Interval)).High)]) ?_ rfl ⟨rfl, ?_⟩
    · first | (simp [results, Try.results22, go_sem, L_toInterval, *]; done) | (simp [results, Try.results22, go_sem, *]; repeat (simp (disch := omega) only [if_pos]; try simp [go_sem, L_toInterval, *]))
    · (repeat (first | (with_reducible exact Q.refl _) | (with_reducible assumption) | (with_reducible refine Q.setCell ?_ (by dsimp only; omega) _) | (with_reducible refine Q.alloc ?_ _) | (with_reducible refine Q.drew ?_) | (with_reducible refine Q.call ?_ (by with_reducible assumption))))

theorem c_I_isValue (n : Int) (w : World)  : Calls Try.prog 67 #[.int .i64 n] w fun e w' => e = .returned (.bool ((I_isValue n))) ∧ w = w' := by
  go_enter Try.func67, Try.ntmps67
  go_wp2_with (first | (go_at_call 49; refine (c_I_in _ _ _ _ ).mono ?_; rintro e w1 ⟨rfl, rfl⟩))
  all_goals go_ret
  all_goals refine ⟨?_, rfl⟩
  all_goals first | (simp [I_isValue, *]; done) | (simp [I_isValue, *]; omega) | (simp_all [I_isValue]; done) | (simp_all [I_isValue]; omega)

theorem c_I_IsInterval (a_Low : Int) (a_High : Int) (w : World)  : Calls Try.prog 51 #[.agg #[.int .i64 a_Low, .int .i64 a_High]] w fun e w' => e = .returned (.bool ((I_IsInterval (⟨a_Low, a_High⟩ : Interval)))) ∧ Q w w' := by
  have hset := setRule
  have hall := allocRule
  have halm := allocMark
  go_enter Try.func51, Try.ntmps51
  go_wp2_with (first | (go_at_call 67; refine (c_I_isValue _ _ ).mono ?_; rintro e w1 ⟨rfl, rfl⟩))
  all_goals go_ret
  all_goals refine ⟨?_, (by (repeat (first | (with_reducible exact Q.refl _) | (with_reducible assumption) | (with_reducible refine Q.setCell ?_ (by dsimp only; omega) _) | (with_reducible refine Q.alloc ?_ _) | (with_reducible refine Q.drew ?_) | (with_reducible refine Q.call ?_ (by with_reducible assumption)))))⟩
  all_goals first | (simp [I_IsInterval, *]; done) | (simp [I_IsInterval, *]; omega) | (simp_all [I_IsInterval]; done) | (simp_all [I_IsInterval]; omega)

theorem c_I_Interval_has (a_Low : Int) (a_High : Int) (x : Int) (w : World)  : Calls Try.prog 52 #[.agg #[.int .i64 a_Low, .int .i64 a_High], .int .i64 x] w fun e w' => e = .returned (.bool ((I_Interval_has (⟨a_Low, a_High⟩ : Interval) x))) ∧ Q w w' := by
  have hset := setRule
  have hall := allocRule
  have halm := allocMark
  go_enter Try.func52, Try.ntmps52
  go_wp2_with (first | (go_at_call 49; refine (c_I_in _ _ _ _ ).mono ?_; rintro e w1 ⟨rfl, rfl⟩))
  all_goals go_ret
  all_goals refine ⟨?_, (by (repeat (first | (with_reducible exact Q.refl _) | (with_reducible assumption) | (with_reducible refine Q.setCell ?_ (by dsimp only; omega) _) | (with_reducible refine Q.alloc ?_ _) | (with_reducible refine Q.drew ?_) | (with_reducible refine Q.call ?_ (by with_reducible assumption)))))⟩
  all_goals first | (simp [I_Interval_has, *]; done) | (simp [I_Interval_has, *]; omega) | (simp_all [I_Interval_has]; done) | (simp_all [I_Interval_has]; omega)

theorem c_I_HasNumber (a_Low : Int) (a_High : Int) (x : Int) (w : World)  : Calls Try.prog 23 #[.agg #[.int .i64 a_Low, .int .i64 a_High], .int .i64 x] w fun e w' => e = .returned (.bool ((I_HasNumber (⟨a_Low, a_High⟩ : Interval) x))) ∧ Q w w' := by
  have hset := setRule
  have hall := allocRule
  have halm := allocMark
  go_enter Try.func23, Try.ntmps23
  go_wp2_with (first | (go_at_call 51; refine (c_I_IsInterval _ _ _ ).mono ?_; rintro e w1 ⟨rfl, hq⟩; obtain ⟨hc, hf⟩ := hq.rules; have hs := hq.le; try simp at hs) | (go_at_call 52; refine (c_I_Interval_has _ _ _ _ ).mono ?_; rintro e w1 ⟨rfl, hq⟩; obtain ⟨hc, hf⟩ := hq.rules; have hs := hq.le; try simp at hs))
  all_goals go_ret
  all_goals refine ⟨?_, (by (repeat (first | (with_reducible exact Q.refl _) | (with_reducible assumption) | (with_reducible refine Q.setCell ?_ (by dsimp only; omega) _) | (with_reducible refine Q.alloc ?_ _) | (with_reducible refine Q.drew ?_) | (with_reducible refine Q.call ?_ (by with_reducible assumption)))))⟩
  all_goals first | (simp [I_HasNumber, *]; done) | (simp [I_HasNumber, *]; omega) | (simp_all [I_HasNumber]; done) | (simp_all [I_HasNumber]; omega)

theorem c_S_l09Minute (m : Int) (w : World)  : Calls Try.prog 53 #[.int .i64 m] w fun e w' => e = .returned (.bool ((S_l09Minute m))) ∧ w = w' := by
  go_enter Try.func53, Try.ntmps53
  go_wp2_with (first | (go_at_call 47; refine (c_S_l01In _ _ _ _ ).mono ?_; rintro e w1 ⟨rfl, rfl⟩))
  all_goals go_ret
  all_goals refine ⟨?_, rfl⟩
  all_goals first | (simp [S_l09Minute, *]; done) | (simp [S_l09Minute, *]; omega) | (simp_all [S_l09Minute]; done) | (simp_all [S_l09Minute]; omega)

theorem c_S_l09Hour (m : Int) (w : World)  : Calls Try.prog 54 #[.int .i64 m] w fun e w' => e = .returned (.int .i64 ((S_l09Hour m))) ∧ w = w' := by
  go_enter Try.func54, Try.ntmps54
  go_wp2
  all_goals go_ret
  all_goals refine ⟨?_, rfl⟩
  all_goals first | (simp [S_l09Hour, *]; done) | (simp [S_l09Hour, *]; omega) | (simp_all [S_l09Hour]; done) | (simp_all [S_l09Hour]; omega)

theorem c_S_HourAngleOf (minute : Int) (w : World)  : Calls Try.prog 24 #[.int .i64 minute] w fun e w' => e = .returned (.tuple #[.int .i64 ((S_HourAngleOf minute).1), .int .i64 ((S_HourAngleOf minute).2)]) ∧ w = w' := by
  go_enter Try.func24, Try.ntmps24
  go_wp2_with (first | (go_at_call 53; refine (c_S_l09Minute _ _ ).mono ?_; rintro e w1 ⟨rfl, rfl⟩) | (go_at_call 54; refine (c_S_l09Hour _ _ ).mono ?_; rintro e w1 ⟨rfl, rfl⟩))
  all_goals go_ret2
  all_goals refine ⟨?_, rfl⟩
  all_goals first | (simp [S_HourAngleOf, *]; done) | (simp [S_HourAngleOf, *]; omega) | (simp_all [S_HourAngleOf]; done) | (simp_all [S_HourAngleOf]; omega)

theorem c_I_isMinute (m : Int) (w : World)  : Calls Try.prog 55 #[.int .i64 m] w fun e w' => e = .returned (.bool ((I_isMinute m))) ∧ w = w' := by
  go_enter Try.func55, Try.ntmps55
  go_wp2_with (first | (go_at_call 49; refine (c_I_in _ _ _ _ ).mono ?_; rintro e w1 ⟨rfl, rfl⟩))
  all_goals go_ret
  all_goals refine ⟨?_, rfl⟩
  all_goals first | (simp [I_isMinute, *]; done) | (simp [I_isMinute, *]; omega) | (simp_all [I_isMinute]; done) | (simp_all [I_isMinute]; omega)

theorem c_I_HourAngleOf (minute : Int) (w : World)  : Calls Try.prog 25 #[.int .i64 minute] w fun e w' => e = .returned (.tuple #[.int .i64 ((I_HourAngleOf minute).1), .int .i64 ((I_HourAngleOf minute).2)]) ∧ w = w' := by
  go_enter Try.func25, Try.ntmps25
  go_wp2_with (first | (go_at_call 55; refine (c_I_isMinute _ _ ).mono ?_; rintro e w1 ⟨rfl, rfl⟩))
  all_goals go_ret2
  all_goals refine ⟨?_, rfl⟩
  all_goals first | (simp [I_HourAngleOf, *]; done) | (simp [I_HourAngleOf, *]; omega) | (simp_all [I_HourAngleOf]; done) | (simp_all [I_HourAngleOf]; omega)

theorem c_S_MiddleOfDay (d_Rise : Int) (d_Set : Int) (w : World)  : Calls Try.prog 26 #[.agg #[.int .i64 d_Rise, .int .i64 d_Set]] w fun e w' => e = .returned (.tuple #[.int .i64 ((S_MiddleOfDay (⟨d_Rise, d_Set⟩ : Day)).1), .int .i64 ((S_MiddleOfDay (⟨d_Rise, d_Set⟩ : Day)).2)]) ∧ Q w w' := by
  have hset := setRule
  have hall := allocRule
  have halm := allocMark
  go_enter Try.func26, Try.ntmps26
  go_wp2_with (first | (go_at_call 15; refine (c_S_IsDay _ _ _ ).mono ?_; rintro e w1 ⟨rfl, hq⟩; obtain ⟨hc, hf⟩ := hq.rules; have hs := hq.le; try simp at hs))
  all_goals go_ret2
  all_goals refine ⟨?_, (by (repeat (first | (with_reducible exact Q.refl _) | (with_reducible assumption) | (with_reducible refine Q.setCell ?_ (by dsimp only; omega) _) | (with_reducible refine Q.alloc ?_ _) | (with_reducible refine Q.drew ?_) | (with_reducible refine Q.call ?_ (by with_reducible assumption)))))⟩
  all_goals first | (simp [S_MiddleOfDay, *]; done) | (simp [S_MiddleOfDay, *]; omega) | (simp_all [S_MiddleOfDay]; done) | (simp_all [S_MiddleOfDay]; omega)

theorem c_I_MiddleOfDay (d_Rise : Int) (d_Set : Int) (w : World)  : Calls Try.prog 27 #[.agg #[.int .i64 d_Rise, .int .i64 d_Set]] w fun e w' => e = .returned (.tuple #[.int .i64 ((I_MiddleOfDay (⟨d_Rise, d_Set⟩ : Day)).1), .int .i64 ((I_MiddleOfDay (⟨d_Rise, d_Set⟩ : Day)).2)]) ∧ Q w w' := by
  have hset := setRule
  have hall := allocRule
  have halm := allocMark
  go_enter Try.func27, Try.ntmps27
  go_wp2_with (first | (go_at_call 17; refine (c_I_IsDay _ _ _ ).mono ?_; rintro e w1 ⟨rfl, hq⟩; obtain ⟨hc, hf⟩ := hq.rules; have hs := hq.le; try simp at hs))
  all_goals go_ret2
  all_goals refine ⟨?_, (by (repeat (first | (with_reducible exact Q.refl _) | (with_reducible assumption) | (with_reducible refine Q.setCell ?_ (by dsimp only; omega) _) | (with_reducible refine Q.alloc ?_ _) | (with_reducible refine Q.drew ?_) | (with_reducible refine Q.call ?_ (by with_reducible assumption)))))⟩
  all_goals first | (simp [I_MiddleOfDay, *]; done) | (simp [I_MiddleOfDay, *]; omega) | (simp_all [I_MiddleOfDay]; done) | (simp_all [I_MiddleOfDay]; omega)

theorem c_S_l14Point (x : Int) (y : Int) (w : World)  : Calls Try.prog 56 #[.int .i64 x, .int .i64 y] w fun e w' => e = .returned (.bool ((S_l14Point x y))) ∧ w = w' := by
  go_enter Try.func56, Try.ntmps56
  go_wp2_with (first | (go_at_call 47; refine (c_S_l01In _ _ _ _ ).mono ?_; rintro e w1 ⟨rfl, rfl⟩))
  all_goals go_ret
  all_goals refine ⟨?_, rfl⟩
  all_goals first | (simp [S_l14Point, *]; done) | (simp [S_l14Point, *]; omega) | (simp_all [S_l14Point]; done) | (simp_all [S_l14Point]; omega)

theorem c_S_IsFace (f_Left : Int) (f_Bottom : Int) (f_Right : Int) (f_Top : Int) (w : World)  : Calls Try.prog 28 #[.agg #[.int .i64 f_Left, .int .i64 f_Bottom, .int .i64 f_Right, .int .i64 f_Top]] w fun e w' => e = .returned (.bool ((S_IsFace (⟨f_Left, f_Bottom, f_Right, f_Top⟩ : Face)))) ∧ Q w w' := by
  have hset := setRule
  have hall := allocRule
  have halm := allocMark
  go_enter Try.func28, Try.ntmps28
  go_wp2_with (first | (go_at_call 56; refine (c_S_l14Point _ _ _ ).mono ?_; rintro e w1 ⟨rfl, rfl⟩))
  all_goals go_ret
  all_goals refine ⟨?_, (by (repeat (first | (with_reducible exact Q.refl _) | (with_reducible assumption) | (with_reducible refine Q.setCell ?_ (by dsimp only; omega) _) | (with_reducible refine Q.alloc ?_ _) | (with_reducible refine Q.drew ?_) | (with_reducible refine Q.call ?_ (by with_reducible assumption)))))⟩
  all_goals first | (simp [S_IsFace, *]; done) | (simp [S_IsFace, *]; omega) | (simp_all [S_IsFace]; done) | (simp_all [S_IsFace]; omega)

set_option maxHeartbeats 1000000 in
theorem c_L_toFace (a_Left : Int) (a_Bottom : Int) (a_Right : Int) (a_Top : Int) (w : World)  : Calls Try.prog 29 #[.agg #[.int .i64 a_Left, .int .i64 a_Bottom, .int .i64 a_Right, .int .i64 a_Top]] w fun e w' => e = .returned (.agg #[.int .i64 ((L_toFace (⟨a_Left, a_Bottom, a_Right, a_Top⟩ : Face)).Left), .int .i64 ((L_toFace (⟨a_Left, a_Bottom, a_Right, a_Top⟩ : Face)).Bottom), .int .i64 ((L_toFace (⟨a_Left, a_Bottom, a_Right, a_Top⟩ : Face)).Right), .int .i64 ((L_toFace (⟨a_Left, a_Bottom, a_Right, a_Top⟩ : Face)).Top)]) ∧ Q w w' := by
  have hset := setRule
  have hall := allocRule
  have halm := allocMark
  go_enter Try.func29, Try.ntmps29
  go_wp2
  all_goals
    refine bodyPost_ret (v := .agg #[.int .i64 ((L_toFace (⟨a_Left, a_Bottom, a_Right, a_Top⟩ : Face)).Left), .int .i64 ((L_toFace (⟨a_Left, a_Bottom, a_Right, a_Top⟩ : Face)).Bottom), .int .i64 ((L_toFace (⟨a_Left, a_Bottom, a_Right, a_Top⟩ : Face)).Right), .int .i64 ((L_toFace (⟨a_Left, a_Bottom, a_Right, a_Top⟩ : Face)).Top)]) ?_ rfl ⟨rfl, ?_⟩
    · first | (simp [results, Try.results29, go_sem, L_toFace, *]; done) | (simp [results, Try.results29, go_sem, *]; repeat (simp (disch := omega) only [if_pos]; try simp [go_sem, L_toFace, *]))
    · (repeat (first | (with_reducible exact Q.refl _) | (with_reducible assumption) | (with_reducible refine Q.setCell ?_ (by dsimp only; omega) _) | (with_reducible refine Q.alloc ?_ _) | (with_reducible refine Q.drew ?_) | (with_reducible refine Q.call ?_ (by with_reducible assumption))))

theorem c_I_isSpot (x : Int) (w : World)  : Calls Try.prog 57 #[.int .i64 x] w fun e w' => e = .returned (.bool ((I_isSpot x))) ∧ w = w' := by
  go_enter Try.func57, Try.ntmps57
  go_wp2_with (first | (go_at_call 49; refine (c_I_in _ _ _ _ ).mono ?_; rintro e w1 ⟨rfl, rfl⟩))
  all_goals go_ret
  all_goals refine ⟨?_, rfl⟩
  all_goals first | (simp [I_isSpot, *]; done) | (simp [I_isSpot, *]; omega) | (simp_all [I_isSpot]; done) | (simp_all [I_isSpot]; omega)

theorem c_I_IsFace (f_Left : Int) (f_Bottom : Int) (f_Right : Int) (f_Top : Int) (w : World)  : Calls Try.prog 30 #[.agg #[.int .i64 f_Left, .int .i64 f_Bottom, .int .i64 f_Right, .int .i64 f_Top]] w fun e w' => e = .returned (.bool ((I_IsFace (⟨f_Left, f_Bottom, f_Right, f_Top⟩ : Face)))) ∧ Q w w' := by
  have hset := setRule
  have hall := allocRule
  have halm := allocMark
  go_enter Try.func30, Try.ntmps30
  go_wp2_with (first | (go_at_call 57; refine (c_I_isSpot _ _ ).mono ?_; rintro e w1 ⟨rfl, rfl⟩))
  all_goals go_ret
  all_goals refine ⟨?_, (by (repeat (first | (with_reducible exact Q.refl _) | (with_reducible assumption) | (with_reducible refine Q.setCell ?_ (by dsimp only; omega) _) | (with_reducible refine Q.alloc ?_ _) | (with_reducible refine Q.drew ?_) | (with_reducible refine Q.call ?_ (by with_reducible assumption)))))⟩
  all_goals first | (simp [I_IsFace, *]; done) | (simp [I_IsFace, *]; omega) | (simp_all [I_IsFace]; done) | (simp_all [I_IsFace]; omega)

theorem c_S_l14Coordinate (a_Low : Int) (a_High : Int) (w : World)  : Calls Try.prog 58 #[.agg #[.int .i64 a_Low, .int .i64 a_High]] w fun e w' => e = .returned (.bool ((S_l14Coordinate (⟨a_Low, a_High⟩ : Interval)))) ∧ Q w w' := by
  have hset := setRule
  have hall := allocRule
  have halm := allocMark
  go_enter Try.func58, Try.ntmps58
  go_wp2_with (first | (go_at_call 47; refine (c_S_l01In _ _ _ _ ).mono ?_; rintro e w1 ⟨rfl, rfl⟩))
  all_goals go_ret
  all_goals refine ⟨?_, (by (repeat (first | (with_reducible exact Q.refl _) | (with_reducible assumption) | (with_reducible refine Q.setCell ?_ (by dsimp only; omega) _) | (with_reducible refine Q.alloc ?_ _) | (with_reducible refine Q.drew ?_) | (with_reducible refine Q.call ?_ (by with_reducible assumption)))))⟩
  all_goals first | (simp [S_l14Coordinate, *]; done) | (simp [S_l14Coordinate, *]; omega) | (simp_all [S_l14Coordinate]; done) | (simp_all [S_l14Coordinate]; omega)

theorem c_S_IsPlace (p_X_Low : Int) (p_X_High : Int) (p_Y_Low : Int) (p_Y_High : Int) (w : World)  : Calls Try.prog 31 #[.agg #[.int .i64 p_X_Low, .int .i64 p_X_High, .int .i64 p_Y_Low, .int .i64 p_Y_High]] w fun e w' => e = .returned (.bool ((S_IsPlace (⟨(⟨p_X_Low, p_X_High⟩ : Interval), (⟨p_Y_Low, p_Y_High⟩ : Interval)⟩ : Place)))) ∧ Q w w' := by
  have hset := setRule
  have hall := allocRule
  have halm := allocMark
  go_enter Try.func31, Try.ntmps31
  go_wp2_with (first | (go_at_call 58; refine (c_S_l14Coordinate _ _ _ ).mono ?_; rintro e w1 ⟨rfl, hq⟩; obtain ⟨hc, hf⟩ := hq.rules; have hs := hq.le; try simp at hs))
  all_goals go_ret
  all_goals refine ⟨?_, (by (repeat (first | (with_reducible exact Q.refl _) | (with_reducible assumption) | (with_reducible refine Q.setCell ?_ (by dsimp only; omega) _) | (with_reducible refine Q.alloc ?_ _) | (with_reducible refine Q.drew ?_) | (with_reducible refine Q.call ?_ (by with_reducible assumption)))))⟩
  all_goals first | (simp [S_IsPlace, *]; done) | (simp [S_IsPlace, *]; omega) | (simp_all [S_IsPlace]; done) | (simp_all [S_IsPlace]; omega)

set_option maxHeartbeats 1000000 in
theorem c_L_toPlace (a_X_Low : Int) (a_X_High : Int) (a_Y_Low : Int) (a_Y_High : Int) (w : World)  : Calls Try.prog 32 #[.agg #[.int .i64 a_X_Low, .int .i64 a_X_High, .int .i64 a_Y_Low, .int .i64 a_Y_High]] w fun e w' => e = .returned (.agg #[.int .i64 ((L_toPlace (⟨(⟨a_X_Low, a_X_High⟩ : Interval), (⟨a_Y_Low, a_Y_High⟩ : Interval)⟩ : Place)).X.Low), .int .i64 ((L_toPlace (⟨(⟨a_X_Low, a_X_High⟩ : Interval), (⟨a_Y_Low, a_Y_High⟩ : Interval)⟩ : Place)).X.High), .int .i64 ((L_toPlace (⟨(⟨a_X_Low, a_X_High⟩ : Interval), (⟨a_Y_Low, a_Y_High⟩ : Interval)⟩ : Place)).Y.Low), .int .i64 ((L_toPlace (⟨(⟨a_X_Low, a_X_High⟩ : Interval), (⟨a_Y_Low, a_Y_High⟩ : Interval)⟩ : Place)).Y.High)]) ∧ Q w w' := by
  have hset := setRule
  have hall := allocRule
  have halm := allocMark
  go_enter Try.func32, Try.ntmps32
  go_wp2_with (first | (go_at_call 22; refine (c_L_toInterval _ _ _ ).mono ?_; rintro e w1 ⟨rfl, hq⟩; obtain ⟨hc, hf⟩ := hq.rules; have hs := hq.le; try simp at hs))
  all_goals
    refine bodyPost_ret (v := .agg #[.int .i64 ((L_toPlace (⟨(⟨a_X_Low, a_X_High⟩ : Interval), (⟨a_Y_Low, a_Y_High⟩ : Interval)⟩ : Place)).X.Low), .int .i64 ((L_toPlace (⟨(⟨a_X_Low, a_X_High⟩ : Interval), (⟨a_Y_Low, a_Y_High⟩ : Interval)⟩ : Place)).X.High), .int .i64 ((L_toPlace (⟨(⟨a_X_Low, a_X_High⟩ : Interval), (⟨a_Y_Low, a_Y_High⟩ : Interval)⟩ : Place)).Y.Low), .int .i64 ((L_toPlace (⟨(⟨a_X_Low, a_X_High⟩ : Interval), (⟨a_Y_Low, a_Y_High⟩ : Interval)⟩ : Place)).Y.High)]) ?_ rfl ⟨rfl, ?_⟩
    · first | (simp [results, Try.results32, go_sem, L_toPlace, *]; done) | (simp [results, Try.results32, go_sem, *]; repeat (simp (disch := omega) only [if_pos]; try simp [go_sem, L_toPlace, *]))
    · (repeat (first | (with_reducible exact Q.refl _) | (with_reducible assumption) | (with_reducible refine Q.setCell ?_ (by dsimp only; omega) _) | (with_reducible refine Q.alloc ?_ _) | (with_reducible refine Q.drew ?_) | (with_reducible refine Q.call ?_ (by with_reducible assumption))))

theorem c_I_Interval_within (a_Low : Int) (a_High : Int) (most : Int) (w : World)  : Calls Try.prog 59 #[.agg #[.int .i64 a_Low, .int .i64 a_High], .int .i64 most] w fun e w' => e = .returned (.bool ((I_Interval_within (⟨a_Low, a_High⟩ : Interval) most))) ∧ Q w w' := by
  have hset := setRule
  have hall := allocRule
  have halm := allocMark
  go_enter Try.func59, Try.ntmps59
  go_wp2_with (first | (go_at_call 49; refine (c_I_in _ _ _ _ ).mono ?_; rintro e w1 ⟨rfl, rfl⟩))
  all_goals go_ret
  all_goals refine ⟨?_, (by (repeat (first | (with_reducible exact Q.refl _) | (with_reducible assumption) | (with_reducible refine Q.setCell ?_ (by dsimp only; omega) _) | (with_reducible refine Q.alloc ?_ _) | (with_reducible refine Q.drew ?_) | (with_reducible refine Q.call ?_ (by with_reducible assumption)))))⟩
  all_goals first | (simp [I_Interval_within, *]; done) | (simp [I_Interval_within, *]; omega) | (simp_all [I_Interval_within]; done) | (simp_all [I_Interval_within]; omega)

theorem c_I_IsPlace (p_X_Low : Int) (p_X_High : Int) (p_Y_Low : Int) (p_Y_High : Int) (w : World)  : Calls Try.prog 33 #[.agg #[.int .i64 p_X_Low, .int .i64 p_X_High, .int .i64 p_Y_Low, .int .i64 p_Y_High]] w fun e w' => e = .returned (.bool ((I_IsPlace (⟨(⟨p_X_Low, p_X_High⟩ : Interval), (⟨p_Y_Low, p_Y_High⟩ : Interval)⟩ : Place)))) ∧ Q w w' := by
  have hset := setRule
  have hall := allocRule
  have halm := allocMark
  go_enter Try.func33, Try.ntmps33
  go_wp2_with (first | (go_at_call 59; refine (c_I_Interval_within _ _ _ _ ).mono ?_; rintro e w1 ⟨rfl, hq⟩; obtain ⟨hc, hf⟩ := hq.rules; have hs := hq.le; try simp at hs))
  all_goals go_ret
  all_goals refine ⟨?_, (by (repeat (first | (with_reducible exact Q.refl _) | (with_reducible assumption) | (with_reducible refine Q.setCell ?_ (by dsimp only; omega) _) | (with_reducible refine Q.alloc ?_ _) | (with_reducible refine Q.drew ?_) | (with_reducible refine Q.call ?_ (by with_reducible assumption)))))⟩
  all_goals first | (simp [I_IsPlace, *]; done) | (simp [I_IsPlace, *]; omega) | (simp_all [I_IsPlace]; done) | (simp_all [I_IsPlace]; omega)

theorem c_S_l14Height (height : Int) (w : World)  : Calls Try.prog 60 #[.int .i64 height] w fun e w' => e = .returned (.bool ((S_l14Height height))) ∧ w = w' := by
  go_enter Try.func60, Try.ntmps60
  go_wp2_with (first | (go_at_call 47; refine (c_S_l01In _ _ _ _ ).mono ?_; rintro e w1 ⟨rfl, rfl⟩))
  all_goals go_ret
  all_goals refine ⟨?_, rfl⟩
  all_goals first | (simp [S_l14Height, *]; done) | (simp [S_l14Height, *]; omega) | (simp_all [S_l14Height]; done) | (simp_all [S_l14Height]; omega)

theorem c_S_IsDial (d_Latitude : Int) (d_Wall_Azimuth : Int) (d_Wall_Slope : Int) (d_Height : Int) (w : World)  : Calls Try.prog 34 #[.agg #[.int .i64 d_Latitude, .int .i64 d_Wall_Azimuth, .int .i64 d_Wall_Slope, .int .i64 d_Height]] w fun e w' => e = .returned (.bool ((S_IsDial (⟨d_Latitude, (⟨d_Wall_Azimuth, d_Wall_Slope⟩ : Wall), d_Height⟩ : Dial)))) ∧ Q w w' := by
  have hset := setRule
  have hall := allocRule
  have halm := allocMark
  go_enter Try.func34, Try.ntmps34
  go_wp2_with (first | (go_at_call 48; refine (c_S_l09Latitude _ _ ).mono ?_; rintro e w1 ⟨rfl, rfl⟩) | (go_at_call 18; refine (c_S_IsWall _ _ _ ).mono ?_; rintro e w1 ⟨rfl, hq⟩; obtain ⟨hc, hf⟩ := hq.rules; have hs := hq.le; try simp at hs) | (go_at_call 60; refine (c_S_l14Height _ _ ).mono ?_; rintro e w1 ⟨rfl, rfl⟩))
  all_goals go_ret
  all_goals refine ⟨?_, (by (repeat (first | (with_reducible exact Q.refl _) | (with_reducible assumption) | (with_reducible refine Q.setCell ?_ (by dsimp only; omega) _) | (with_reducible refine Q.alloc ?_ _) | (with_reducible refine Q.drew ?_) | (with_reducible refine Q.call ?_ (by with_reducible assumption)))))⟩
  all_goals first | (simp [S_IsDial, *]; done) | (simp [S_IsDial, *]; omega) | (simp_all [S_IsDial]; done) | (simp_all [S_IsDial]; omega)

set_option maxHeartbeats 1000000 in
theorem c_L_toDial (a_Latitude : Int) (a_Wall_Azimuth : Int) (a_Wall_Slope : Int) (a_Height : Int) (w : World)  : Calls Try.prog 35 #[.agg #[.int .i64 a_Latitude, .int .i64 a_Wall_Azimuth, .int .i64 a_Wall_Slope, .int .i64 a_Height]] w fun e w' => e = .returned (.agg #[.int .i64 ((L_toDial (⟨a_Latitude, (⟨a_Wall_Azimuth, a_Wall_Slope⟩ : Wall), a_Height⟩ : Dial)).Latitude), .int .i64 ((L_toDial (⟨a_Latitude, (⟨a_Wall_Azimuth, a_Wall_Slope⟩ : Wall), a_Height⟩ : Dial)).Wall.Azimuth), .int .i64 ((L_toDial (⟨a_Latitude, (⟨a_Wall_Azimuth, a_Wall_Slope⟩ : Wall), a_Height⟩ : Dial)).Wall.Slope), .int .i64 ((L_toDial (⟨a_Latitude, (⟨a_Wall_Azimuth, a_Wall_Slope⟩ : Wall), a_Height⟩ : Dial)).Height)]) ∧ Q w w' := by
  have hset := setRule
  have hall := allocRule
  have halm := allocMark
  go_enter Try.func35, Try.ntmps35
  go_wp2_with (first | (go_at_call 19; refine (c_L_toWall _ _ _ ).mono ?_; rintro e w1 ⟨rfl, hq⟩; obtain ⟨hc, hf⟩ := hq.rules; have hs := hq.le; try simp at hs))
  all_goals
    refine bodyPost_ret (v := .agg #[.int .i64 ((L_toDial (⟨a_Latitude, (⟨a_Wall_Azimuth, a_Wall_Slope⟩ : Wall), a_Height⟩ : Dial)).Latitude), .int .i64 ((L_toDial (⟨a_Latitude, (⟨a_Wall_Azimuth, a_Wall_Slope⟩ : Wall), a_Height⟩ : Dial)).Wall.Azimuth), .int .i64 ((L_toDial (⟨a_Latitude, (⟨a_Wall_Azimuth, a_Wall_Slope⟩ : Wall), a_Height⟩ : Dial)).Wall.Slope), .int .i64 ((L_toDial (⟨a_Latitude, (⟨a_Wall_Azimuth, a_Wall_Slope⟩ : Wall), a_Height⟩ : Dial)).Height)]) ?_ rfl ⟨rfl, ?_⟩
    · first | (simp [results, Try.results35, go_sem, L_toDial, *]; done) | (simp [results, Try.results35, go_sem, *]; repeat (simp (disch := omega) only [if_pos]; try simp [go_sem, L_toDial, *]))
    · (repeat (first | (with_reducible exact Q.refl _) | (with_reducible assumption) | (with_reducible refine Q.setCell ?_ (by dsimp only; omega) _) | (with_reducible refine Q.alloc ?_ _) | (with_reducible refine Q.drew ?_) | (with_reducible refine Q.call ?_ (by with_reducible assumption))))

theorem c_I_isLatitude (a : Int) (w : World)  : Calls Try.prog 61 #[.int .i64 a] w fun e w' => e = .returned (.bool ((I_isLatitude a))) ∧ w = w' := by
  go_enter Try.func61, Try.ntmps61
  go_wp2_with (first | (go_at_call 49; refine (c_I_in _ _ _ _ ).mono ?_; rintro e w1 ⟨rfl, rfl⟩))
  all_goals go_ret
  all_goals refine ⟨?_, rfl⟩
  all_goals first | (simp [I_isLatitude, *]; done) | (simp [I_isLatitude, *]; omega) | (simp_all [I_isLatitude]; done) | (simp_all [I_isLatitude]; omega)

theorem c_I_isHeight (height : Int) (w : World)  : Calls Try.prog 62 #[.int .i64 height] w fun e w' => e = .returned (.bool ((I_isHeight height))) ∧ w = w' := by
  go_enter Try.func62, Try.ntmps62
  go_wp2_with (first | (go_at_call 49; refine (c_I_in _ _ _ _ ).mono ?_; rintro e w1 ⟨rfl, rfl⟩))
  all_goals go_ret
  all_goals refine ⟨?_, rfl⟩
  all_goals first | (simp [I_isHeight, *]; done) | (simp [I_isHeight, *]; omega) | (simp_all [I_isHeight]; done) | (simp_all [I_isHeight]; omega)

theorem c_I_IsDial (d_Latitude : Int) (d_Wall_Azimuth : Int) (d_Wall_Slope : Int) (d_Height : Int) (w : World)  : Calls Try.prog 36 #[.agg #[.int .i64 d_Latitude, .int .i64 d_Wall_Azimuth, .int .i64 d_Wall_Slope, .int .i64 d_Height]] w fun e w' => e = .returned (.bool ((I_IsDial (⟨d_Latitude, (⟨d_Wall_Azimuth, d_Wall_Slope⟩ : Wall), d_Height⟩ : Dial)))) ∧ Q w w' := by
  have hset := setRule
  have hall := allocRule
  have halm := allocMark
  go_enter Try.func36, Try.ntmps36
  go_wp2_with (first | (go_at_call 61; refine (c_I_isLatitude _ _ ).mono ?_; rintro e w1 ⟨rfl, rfl⟩) | (go_at_call 20; refine (c_I_IsWall _ _ _ ).mono ?_; rintro e w1 ⟨rfl, hq⟩; obtain ⟨hc, hf⟩ := hq.rules; have hs := hq.le; try simp at hs) | (go_at_call 62; refine (c_I_isHeight _ _ ).mono ?_; rintro e w1 ⟨rfl, rfl⟩))
  all_goals go_ret
  all_goals refine ⟨?_, (by (repeat (first | (with_reducible exact Q.refl _) | (with_reducible assumption) | (with_reducible refine Q.setCell ?_ (by dsimp only; omega) _) | (with_reducible refine Q.alloc ?_ _) | (with_reducible refine Q.drew ?_) | (with_reducible refine Q.call ?_ (by with_reducible assumption)))))⟩
  all_goals first | (simp [I_IsDial, *]; done) | (simp [I_IsDial, *]; omega) | (simp_all [I_IsDial]; done) | (simp_all [I_IsDial]; omega)

end Go.Proofs.Ytnplaheokckioaa
