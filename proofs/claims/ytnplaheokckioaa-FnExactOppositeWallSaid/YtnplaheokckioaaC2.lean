/- Contracts of Go functions of the plain fragment, with their walks; printed by a program of the author's own. -/
import Derived.Test.YtnplaheokckioaaRows
import Derived.Test.YtnplaheokckioaaDefs
import Derived.Test.YtnplaheokckioaaC1
import Derived.Test.YtnplaheokckioaaRegion
import Derived.WalkKit
import Derived.ProofKit
import Derived.OpenShut
import Derived.WalkLawsBesides
import Derived.BigQuiet
import Derived.Deep.QuietTactic
namespace Go.Proofs.Ytnplaheokckioaa
open Go.ChangeShapes Go.WideShapes Go.ChangeAt Go.RowKit
set_option linter.unusedVariables false
set_option linter.unusedSimpArgs false
theorem c_S_TemporalLength (d_Rise : Int) (d_Set : Int) (night : Bool) (w : World)  : Calls Try.prog 37 #[.agg #[.int .i64 d_Rise, .int .i64 d_Set], .bool night] w fun e w' => e = .returned (.tuple #[.int .i64 ((S_TemporalLength (⟨d_Rise, d_Set⟩ : Day) night).1), .int .i64 ((S_TemporalLength (⟨d_Rise, d_Set⟩ : Day) night).2)]) ∧ Q w w' := by
  have hset := setRule
  have hall := allocRule
  have halm := allocMark
  go_enter Try.func37, Try.ntmps37
  go_wp2_with (first | (go_at_call 15; refine (c_S_IsDay _ _ _ ).mono ?_; rintro e w1 ⟨rfl, hq⟩; obtain ⟨hc, hf⟩ := hq.rules; have hs := hq.le; try simp at hs))
  all_goals go_ret2
  all_goals refine ⟨?_, (by (repeat (first | (with_reducible exact Q.refl _) | (with_reducible assumption) | (with_reducible refine Q.setCell ?_ (by dsimp only; omega) _) | (with_reducible refine Q.alloc ?_ _) | (with_reducible refine Q.drew ?_) | (with_reducible refine Q.call ?_ (by with_reducible assumption)))))⟩
  all_goals first | (simp [S_TemporalLength, *]; done) | (simp [S_TemporalLength, *]; omega) | (simp_all [S_TemporalLength]; done) | (simp_all [S_TemporalLength]; omega)

theorem c_I_TemporalLength (d_Rise : Int) (d_Set : Int) (night : Bool) (w : World)  : Calls Try.prog 38 #[.agg #[.int .i64 d_Rise, .int .i64 d_Set], .bool night] w fun e w' => e = .returned (.tuple #[.int .i64 ((I_TemporalLength (⟨d_Rise, d_Set⟩ : Day) night).1), .int .i64 ((I_TemporalLength (⟨d_Rise, d_Set⟩ : Day) night).2)]) ∧ Q w w' := by
  have hset := setRule
  have hall := allocRule
  have halm := allocMark
  go_enter Try.func38, Try.ntmps38
  go_wp2_with (first | (go_at_call 17; refine (c_I_IsDay _ _ _ ).mono ?_; rintro e w1 ⟨rfl, hq⟩; obtain ⟨hc, hf⟩ := hq.rules; have hs := hq.le; try simp at hs))
  all_goals go_ret2
  all_goals refine ⟨?_, (by (repeat (first | (with_reducible exact Q.refl _) | (with_reducible assumption) | (with_reducible refine Q.setCell ?_ (by dsimp only; omega) _) | (with_reducible refine Q.alloc ?_ _) | (with_reducible refine Q.drew ?_) | (with_reducible refine Q.call ?_ (by with_reducible assumption)))))⟩
  all_goals first | (simp [I_TemporalLength, *]; done) | (simp [I_TemporalLength, *]; omega) | (simp_all [I_TemporalLength]; done) | (simp_all [I_TemporalLength]; omega)

theorem c_S_IsZone (z_Offset : Int) (z_StartMonth : Int) (z_StartWeek : Int) (z_EndMonth : Int) (z_EndWeek : Int) (w : World)  : Calls Try.prog 39 #[.agg #[.int .i64 z_Offset, .int .i64 z_StartMonth, .int .i64 z_StartWeek, .int .i64 z_EndMonth, .int .i64 z_EndWeek]] w fun e w' => e = .returned (.bool ((S_IsZone (⟨z_Offset, z_StartMonth, z_StartWeek, z_EndMonth, z_EndWeek⟩ : Zone)))) ∧ Q w w' := by
  have hset := setRule
  have hall := allocRule
  have halm := allocMark
  go_enter Try.func39, Try.ntmps39
  go_wp2_with (first | (go_at_call 47; refine (c_S_l01In _ _ _ _ ).mono ?_; rintro e w1 ⟨rfl, rfl⟩))
  all_goals go_ret
  all_goals refine ⟨?_, (by (repeat (first | (with_reducible exact Q.refl _) | (with_reducible assumption) | (with_reducible refine Q.setCell ?_ (by dsimp only; omega) _) | (with_reducible refine Q.alloc ?_ _) | (with_reducible refine Q.drew ?_) | (with_reducible refine Q.call ?_ (by with_reducible assumption)))))⟩
  all_goals first | (simp [S_IsZone, *]; done) | (simp [S_IsZone, *]; omega) | (simp_all [S_IsZone]; done) | (simp_all [S_IsZone]; omega)

set_option maxHeartbeats 1000000 in
theorem c_L_toZone (a_Offset : Int) (a_StartMonth : Int) (a_StartWeek : Int) (a_EndMonth : Int) (a_EndWeek : Int) (w : World)  : Calls Try.prog 40 #[.agg #[.int .i64 a_Offset, .int .i64 a_StartMonth, .int .i64 a_StartWeek, .int .i64 a_EndMonth, .int .i64 a_EndWeek]] w fun e w' => e = .returned (.agg #[.int .i64 ((L_toZone (⟨a_Offset, a_StartMonth, a_StartWeek, a_EndMonth, a_EndWeek⟩ : Zone)).Offset), .int .i64 ((L_toZone (⟨a_Offset, a_StartMonth, a_StartWeek, a_EndMonth, a_EndWeek⟩ : Zone)).StartMonth), .int .i64 ((L_toZone (⟨a_Offset, a_StartMonth, a_StartWeek, a_EndMonth, a_EndWeek⟩ : Zone)).StartWeek), .int .i64 ((L_toZone (⟨a_Offset, a_StartMonth, a_StartWeek, a_EndMonth, a_EndWeek⟩ : Zone)).EndMonth), .int .i64 ((L_toZone (⟨a_Offset, a_StartMonth, a_StartWeek, a_EndMonth, a_EndWeek⟩ : Zone)).EndWeek)]) ∧ Q w w' := by
  have hset := setRule
  have hall := allocRule
  have halm := allocMark
  go_enter Try.func40, Try.ntmps40
  go_wp2
  all_goals
    refine bodyPost_ret (v := .agg #[.int .i64 ((L_toZone (⟨a_Offset, a_StartMonth, a_StartWeek, a_EndMonth, a_EndWeek⟩ : Zone)).Offset), .int .i64 ((L_toZone (⟨a_Offset, a_StartMonth, a_StartWeek, a_EndMonth, a_EndWeek⟩ : Zone)).StartMonth), .int .i64 ((L_toZone (⟨a_Offset, a_StartMonth, a_StartWeek, a_EndMonth, a_EndWeek⟩ : Zone)).StartWeek), .int .i64 ((L_toZone (⟨a_Offset, a_StartMonth, a_StartWeek, a_EndMonth, a_EndWeek⟩ : Zone)).EndMonth), .int .i64 ((L_toZone (⟨a_Offset, a_StartMonth, a_StartWeek, a_EndMonth, a_EndWeek⟩ : Zone)).EndWeek)]) ?_ rfl ⟨rfl, ?_⟩
    · first | (simp [results, Try.results40, go_sem, L_toZone, *]; done) | (simp [results, Try.results40, go_sem, *]; repeat (simp (disch := omega) only [if_pos]; try simp [go_sem, L_toZone, *]))
    · (repeat (first | (with_reducible exact Q.refl _) | (with_reducible assumption) | (with_reducible refine Q.setCell ?_ (by dsimp only; omega) _) | (with_reducible refine Q.alloc ?_ _) | (with_reducible refine Q.drew ?_) | (with_reducible refine Q.call ?_ (by with_reducible assumption))))

theorem c_I_IsZone (z_Offset : Int) (z_StartMonth : Int) (z_StartWeek : Int) (z_EndMonth : Int) (z_EndWeek : Int) (w : World)  : Calls Try.prog 41 #[.agg #[.int .i64 z_Offset, .int .i64 z_StartMonth, .int .i64 z_StartWeek, .int .i64 z_EndMonth, .int .i64 z_EndWeek]] w fun e w' => e = .returned (.bool ((I_IsZone (⟨z_Offset, z_StartMonth, z_StartWeek, z_EndMonth, z_EndWeek⟩ : Zone)))) ∧ Q w w' := by
  have hset := setRule
  have hall := allocRule
  have halm := allocMark
  go_enter Try.func41, Try.ntmps41
  go_wp2_with (first | (go_at_call 49; refine (c_I_in _ _ _ _ ).mono ?_; rintro e w1 ⟨rfl, rfl⟩))
  all_goals go_ret
  all_goals refine ⟨?_, (by (repeat (first | (with_reducible exact Q.refl _) | (with_reducible assumption) | (with_reducible refine Q.setCell ?_ (by dsimp only; omega) _) | (with_reducible refine Q.alloc ?_ _) | (with_reducible refine Q.drew ?_) | (with_reducible refine Q.call ?_ (by with_reducible assumption)))))⟩
  all_goals first | (simp [I_IsZone, *]; done) | (simp [I_IsZone, *]; omega) | (simp_all [I_IsZone]; done) | (simp_all [I_IsZone]; omega)

theorem c_S_l01Mod (a : Int) (m : Int) (w : World) (hz1 : ¬ m = 0) : Calls Try.prog 68 #[.int .i64 a, .int .i64 m] w fun e w' => e = .returned (.int .i64 ((S_l01Mod a m))) ∧ w = w' := by
  go_enter Try.func68, Try.ntmps68
  go_wp2
  all_goals go_ret
  all_goals refine ⟨?_, rfl⟩
  all_goals first | (simp [S_l01Mod, *]; done) | (simp [S_l01Mod, *]; omega) | (simp_all [S_l01Mod]; done) | (simp_all [S_l01Mod]; omega)

theorem c_S_l03Plain (a : Int) (w : World)  : Calls Try.prog 63 #[.int .i64 a] w fun e w' => e = .returned (.int .i64 ((S_l03Plain a))) ∧ w = w' := by
  go_enter Try.func63, Try.ntmps63
  go_wp2_with (first | (go_at_call 68; refine (c_S_l01Mod _ _ _ (by first | assumption | decide | omega)).mono ?_; rintro e w1 ⟨rfl, rfl⟩))
  all_goals go_ret
  all_goals refine ⟨?_, rfl⟩
  all_goals first | (simp [S_l03Plain, *]; done) | (simp [S_l03Plain, *]; omega) | (simp_all [S_l03Plain]; done) | (simp_all [S_l03Plain]; omega)

set_option maxHeartbeats 1000000 in
theorem c_S_OppositeWall (w0_Azimuth : Int) (w0_Slope : Int) (w : World)  : Calls Try.prog 42 #[.agg #[.int .i64 w0_Azimuth, .int .i64 w0_Slope]] w fun e w' => e = .returned (.tuple #[.agg #[.int .i64 ((S_OppositeWall (⟨w0_Azimuth, w0_Slope⟩ : Wall)).1.Azimuth), .int .i64 ((S_OppositeWall (⟨w0_Azimuth, w0_Slope⟩ : Wall)).1.Slope)], .int .i64 ((S_OppositeWall (⟨w0_Azimuth, w0_Slope⟩ : Wall)).2)]) ∧ Q w w' := by
  have hset := setRule
  have hall := allocRule
  have halm := allocMark
  go_enter Try.func42, Try.ntmps42
  go_wp2_with (first | (go_at_call 18; refine (c_S_IsWall _ _ _ ).mono ?_; rintro e w1 ⟨rfl, hq⟩; obtain ⟨hc, hf⟩ := hq.rules; have hs := hq.le; try simp at hs) | (go_at_call 63; refine (c_S_l03Plain _ _ ).mono ?_; rintro e w1 ⟨rfl, rfl⟩))
  all_goals try (
    refine region_Q (id := 3) 8 (by kernel_rfl) (by kernel_rfl) ?_
    simp only [List.take_succ_cons, List.take_zero, List.drop_succ_cons, List.drop_zero]
    repeat (first | (apply q_step rfl; (intro wq hq; have hr := Q.rules hq; have hcq := hr.1; have hfq := hr.2; clear hr; have hsq := Q.le hq; (try simp at hsq); go_simp; first | (first | rfl | exact ⟨rfl, rfl⟩ | (go_at_call 18; exact quiet_grow hq (c_S_IsWall _ _ _ )) | (go_at_call 63; exact quiet_same hq (c_S_l03Plain _ _ ))) | (repeat (simp (disch := omega) only [if_pos]; try go_simp); first | rfl | exact ⟨rfl, rfl⟩ | (go_at_call 18; exact quiet_grow hq (c_S_IsWall _ _ _ )) | (go_at_call 63; exact quiet_same hq (c_S_l03Plain _ _ )))); try go_simp) | (apply q_skip rfl; try go_simp))
    refine wpQuiet_nil ?_
    intro w1 hq
    have hr := Q.rules hq; have hc := hr.1; have hf := hr.2; clear hr; have hs := Q.le hq; try simp at hs)
  all_goals try go_wp2_with (first | (go_at_call 18; refine (c_S_IsWall _ _ _ ).mono ?_; rintro e w1 ⟨rfl, hq⟩; obtain ⟨hc, hf⟩ := hq.rules; have hs := hq.le; try simp at hs) | (go_at_call 63; refine (c_S_l03Plain _ _ ).mono ?_; rintro e w1 ⟨rfl, rfl⟩))
  all_goals
    refine bodyPost_ret (v := .tuple #[.agg #[.int .i64 ((S_OppositeWall (⟨w0_Azimuth, w0_Slope⟩ : Wall)).1.Azimuth), .int .i64 ((S_OppositeWall (⟨w0_Azimuth, w0_Slope⟩ : Wall)).1.Slope)], .int .i64 ((S_OppositeWall (⟨w0_Azimuth, w0_Slope⟩ : Wall)).2)]) ?_ rfl ⟨rfl, ?_⟩
    · first | (simp [results, Try.results42, go_sem, S_OppositeWall, *]; done) | (simp [results, Try.results42, go_sem, *]; repeat (simp (disch := omega) only [if_pos]; try simp [go_sem, S_OppositeWall, *]))
    · (repeat (first | (with_reducible exact Q.refl _) | (with_reducible assumption) | (with_reducible refine Q.setCell ?_ (by dsimp only; omega) _) | (with_reducible refine Q.alloc ?_ _) | (with_reducible refine Q.drew ?_) | (with_reducible refine Q.call ?_ (by with_reducible assumption))))

theorem c_I_floor (a : Int) (b : Int) (w : World) (hz1 : ¬ b = 0) : Calls Try.prog 70 #[.int .i64 a, .int .i64 b] w fun e w' => e = .returned (.int .i64 ((I_floor a b))) ∧ w = w' := by
  go_enter Try.func70, Try.ntmps70
  go_wp2
  all_goals go_ret
  all_goals refine ⟨?_, rfl⟩
  all_goals first | (simp [I_floor, *]; done) | (simp [I_floor, *]; omega) | (simp_all [I_floor]; done) | (simp_all [I_floor]; omega)

theorem c_I_mod (a : Int) (b : Int) (w : World) (hz1 : ¬ b = 0) : Calls Try.prog 69 #[.int .i64 a, .int .i64 b] w fun e w' => e = .returned (.int .i64 ((I_mod a b))) ∧ w = w' := by
  go_enter Try.func69, Try.ntmps69
  go_wp2_with (first | (go_at_call 70; refine (c_I_floor _ _ _ (by first | assumption | decide | omega)).mono ?_; rintro e w1 ⟨rfl, rfl⟩))
  all_goals go_ret
  all_goals refine ⟨?_, rfl⟩
  all_goals first | (simp [I_mod, *]; done) | (simp [I_mod, *]; omega) | (simp_all [I_mod]; done) | (simp_all [I_mod]; omega)

theorem c_I_plain (a : Int) (w : World)  : Calls Try.prog 64 #[.int .i64 a] w fun e w' => e = .returned (.int .i64 ((I_plain a))) ∧ w = w' := by
  go_enter Try.func64, Try.ntmps64
  go_wp2_with (first | (go_at_call 69; refine (c_I_mod _ _ _ (by first | assumption | decide | omega)).mono ?_; rintro e w1 ⟨rfl, rfl⟩))
  all_goals go_ret
  all_goals refine ⟨?_, rfl⟩
  all_goals first | (simp [I_plain, *]; done) | (simp [I_plain, *]; omega) | (simp_all [I_plain]; done) | (simp_all [I_plain]; omega)

set_option maxHeartbeats 1000000 in
theorem c_I_OppositeWall (w0_Azimuth : Int) (w0_Slope : Int) (w : World)  : Calls Try.prog 43 #[.agg #[.int .i64 w0_Azimuth, .int .i64 w0_Slope]] w fun e w' => e = .returned (.tuple #[.agg #[.int .i64 ((I_OppositeWall (⟨w0_Azimuth, w0_Slope⟩ : Wall)).1.Azimuth), .int .i64 ((I_OppositeWall (⟨w0_Azimuth, w0_Slope⟩ : Wall)).1.Slope)], .int .i64 ((I_OppositeWall (⟨w0_Azimuth, w0_Slope⟩ : Wall)).2)]) ∧ Q w w' := by
  have hset := setRule
  have hall := allocRule
  have halm := allocMark
  go_enter Try.func43, Try.ntmps43
  go_wp2_with (first | (go_at_call 20; refine (c_I_IsWall _ _ _ ).mono ?_; rintro e w1 ⟨rfl, hq⟩; obtain ⟨hc, hf⟩ := hq.rules; have hs := hq.le; try simp at hs) | (go_at_call 64; refine (c_I_plain _ _ ).mono ?_; rintro e w1 ⟨rfl, rfl⟩))
  all_goals try (
    refine region_Q (id := 3) 8 (by kernel_rfl) (by kernel_rfl) ?_
    simp only [List.take_succ_cons, List.take_zero, List.drop_succ_cons, List.drop_zero]
    repeat (first | (apply q_step rfl; (intro wq hq; have hr := Q.rules hq; have hcq := hr.1; have hfq := hr.2; clear hr; have hsq := Q.le hq; (try simp at hsq); go_simp; first | (first | rfl | exact ⟨rfl, rfl⟩ | (go_at_call 20; exact quiet_grow hq (c_I_IsWall _ _ _ )) | (go_at_call 64; exact quiet_same hq (c_I_plain _ _ ))) | (repeat (simp (disch := omega) only [if_pos]; try go_simp); first | rfl | exact ⟨rfl, rfl⟩ | (go_at_call 20; exact quiet_grow hq (c_I_IsWall _ _ _ )) | (go_at_call 64; exact quiet_same hq (c_I_plain _ _ )))); try go_simp) | (apply q_skip rfl; try go_simp))
    refine wpQuiet_nil ?_
    intro w1 hq
    have hr := Q.rules hq; have hc := hr.1; have hf := hr.2; clear hr; have hs := Q.le hq; try simp at hs)
  all_goals try go_wp2_with (first | (go_at_call 20; refine (c_I_IsWall _ _ _ ).mono ?_; rintro e w1 ⟨rfl, hq⟩; obtain ⟨hc, hf⟩ := hq.rules; have hs := hq.le; try simp at hs) | (go_at_call 64; refine (c_I_plain _ _ ).mono ?_; rintro e w1 ⟨rfl, rfl⟩))
  all_goals
    refine bodyPost_ret (v := .tuple #[.agg #[.int .i64 ((I_OppositeWall (⟨w0_Azimuth, w0_Slope⟩ : Wall)).1.Azimuth), .int .i64 ((I_OppositeWall (⟨w0_Azimuth, w0_Slope⟩ : Wall)).1.Slope)], .int .i64 ((I_OppositeWall (⟨w0_Azimuth, w0_Slope⟩ : Wall)).2)]) ?_ rfl ⟨rfl, ?_⟩
    · first | (simp [results, Try.results43, go_sem, I_OppositeWall, *]; done) | (simp [results, Try.results43, go_sem, *]; repeat (simp (disch := omega) only [if_pos]; try simp [go_sem, I_OppositeWall, *]))
    · (repeat (first | (with_reducible exact Q.refl _) | (with_reducible assumption) | (with_reducible refine Q.setCell ?_ (by dsimp only; omega) _) | (with_reducible refine Q.alloc ?_ _) | (with_reducible refine Q.drew ?_) | (with_reducible refine Q.call ?_ (by with_reducible assumption))))

theorem c_L_eqWall (a_Azimuth : Int) (a_Slope : Int) (b_Azimuth : Int) (b_Slope : Int) (w : World)  : Calls Try.prog 44 #[.agg #[.int .i64 a_Azimuth, .int .i64 a_Slope], .agg #[.int .i64 b_Azimuth, .int .i64 b_Slope]] w fun e w' => e = .returned (.bool ((L_eqWall (⟨a_Azimuth, a_Slope⟩ : Wall) (⟨b_Azimuth, b_Slope⟩ : Wall)))) ∧ Q w w' := by
  have hset := setRule
  have hall := allocRule
  have halm := allocMark
  go_enter Try.func44, Try.ntmps44
  go_wp2
  all_goals go_ret
  all_goals refine ⟨?_, (by (repeat (first | (with_reducible exact Q.refl _) | (with_reducible assumption) | (with_reducible refine Q.setCell ?_ (by dsimp only; omega) _) | (with_reducible refine Q.alloc ?_ _) | (with_reducible refine Q.drew ?_) | (with_reducible refine Q.call ?_ (by with_reducible assumption)))))⟩
  all_goals first | (simp [L_eqWall, *]; done) | (simp [L_eqWall, *]; omega) | (simp_all [L_eqWall]; done) | (simp_all [L_eqWall]; omega)

theorem c_S_l14May (p_X_Low : Int) (p_X_High : Int) (p_Y_Low : Int) (p_Y_High : Int) (x : Int) (y : Int) (w : World)  : Calls Try.prog 65 #[.agg #[.int .i64 p_X_Low, .int .i64 p_X_High, .int .i64 p_Y_Low, .int .i64 p_Y_High], .int .i64 x, .int .i64 y] w fun e w' => e = .returned (.bool ((S_l14May (⟨(⟨p_X_Low, p_X_High⟩ : Interval), (⟨p_Y_Low, p_Y_High⟩ : Interval)⟩ : Place) x y))) ∧ Q w w' := by
  have hset := setRule
  have hall := allocRule
  have halm := allocMark
  go_enter Try.func65, Try.ntmps65
  go_wp2_with (first | (go_at_call 47; refine (c_S_l01In _ _ _ _ ).mono ?_; rintro e w1 ⟨rfl, rfl⟩))
  all_goals go_ret
  all_goals refine ⟨?_, (by (repeat (first | (with_reducible exact Q.refl _) | (with_reducible assumption) | (with_reducible refine Q.setCell ?_ (by dsimp only; omega) _) | (with_reducible refine Q.alloc ?_ _) | (with_reducible refine Q.drew ?_) | (with_reducible refine Q.call ?_ (by with_reducible assumption)))))⟩
  all_goals first | (simp [S_l14May, *]; done) | (simp [S_l14May, *]; omega) | (simp_all [S_l14May]; done) | (simp_all [S_l14May]; omega)

theorem c_S_MayBeAt (p_X_Low : Int) (p_X_High : Int) (p_Y_Low : Int) (p_Y_High : Int) (x : Int) (y : Int) (w : World)  : Calls Try.prog 45 #[.agg #[.int .i64 p_X_Low, .int .i64 p_X_High, .int .i64 p_Y_Low, .int .i64 p_Y_High], .int .i64 x, .int .i64 y] w fun e w' => e = .returned (.tuple #[.bool ((S_MayBeAt (⟨(⟨p_X_Low, p_X_High⟩ : Interval), (⟨p_Y_Low, p_Y_High⟩ : Interval)⟩ : Place) x y).1), .int .i64 ((S_MayBeAt (⟨(⟨p_X_Low, p_X_High⟩ : Interval), (⟨p_Y_Low, p_Y_High⟩ : Interval)⟩ : Place) x y).2)]) ∧ Q w w' := by
  have hset := setRule
  have hall := allocRule
  have halm := allocMark
  go_enter Try.func45, Try.ntmps45
  go_wp2_with (first | (go_at_call 31; refine (c_S_IsPlace _ _ _ _ _ ).mono ?_; rintro e w1 ⟨rfl, hq⟩; obtain ⟨hc, hf⟩ := hq.rules; have hs := hq.le; try simp at hs) | (go_at_call 56; refine (c_S_l14Point _ _ _ ).mono ?_; rintro e w1 ⟨rfl, rfl⟩) | (go_at_call 65; refine (c_S_l14May _ _ _ _ _ _ _ ).mono ?_; rintro e w1 ⟨rfl, hq⟩; obtain ⟨hc, hf⟩ := hq.rules; have hs := hq.le; try simp at hs))
  all_goals go_ret2
  all_goals refine ⟨?_, (by (repeat (first | (with_reducible exact Q.refl _) | (with_reducible assumption) | (with_reducible refine Q.setCell ?_ (by dsimp only; omega) _) | (with_reducible refine Q.alloc ?_ _) | (with_reducible refine Q.drew ?_) | (with_reducible refine Q.call ?_ (by with_reducible assumption)))))⟩
  all_goals first | (simp [S_MayBeAt, *]; done) | (simp [S_MayBeAt, *]; omega) | (simp_all [S_MayBeAt]; done) | (simp_all [S_MayBeAt]; omega)

theorem c_I_MayBeAt (p_X_Low : Int) (p_X_High : Int) (p_Y_Low : Int) (p_Y_High : Int) (x : Int) (y : Int) (w : World)  : Calls Try.prog 46 #[.agg #[.int .i64 p_X_Low, .int .i64 p_X_High, .int .i64 p_Y_Low, .int .i64 p_Y_High], .int .i64 x, .int .i64 y] w fun e w' => e = .returned (.tuple #[.bool ((I_MayBeAt (⟨(⟨p_X_Low, p_X_High⟩ : Interval), (⟨p_Y_Low, p_Y_High⟩ : Interval)⟩ : Place) x y).1), .int .i64 ((I_MayBeAt (⟨(⟨p_X_Low, p_X_High⟩ : Interval), (⟨p_Y_Low, p_Y_High⟩ : Interval)⟩ : Place) x y).2)]) ∧ Q w w' := by
  have hset := setRule
  have hall := allocRule
  have halm := allocMark
  go_enter Try.func46, Try.ntmps46
  go_wp2_with (first | (go_at_call 33; refine (c_I_IsPlace _ _ _ _ _ ).mono ?_; rintro e w1 ⟨rfl, hq⟩; obtain ⟨hc, hf⟩ := hq.rules; have hs := hq.le; try simp at hs) | (go_at_call 57; refine (c_I_isSpot _ _ ).mono ?_; rintro e w1 ⟨rfl, rfl⟩) | (go_at_call 52; refine (c_I_Interval_has _ _ _ _ ).mono ?_; rintro e w1 ⟨rfl, hq⟩; obtain ⟨hc, hf⟩ := hq.rules; have hs := hq.le; try simp at hs))
  all_goals go_ret2
  all_goals refine ⟨?_, (by (repeat (first | (with_reducible exact Q.refl _) | (with_reducible assumption) | (with_reducible refine Q.setCell ?_ (by dsimp only; omega) _) | (with_reducible refine Q.alloc ?_ _) | (with_reducible refine Q.drew ?_) | (with_reducible refine Q.call ?_ (by with_reducible assumption)))))⟩
  all_goals first | (simp [I_MayBeAt, *]; done) | (simp [I_MayBeAt, *]; omega) | (simp_all [I_MayBeAt]; done) | (simp_all [I_MayBeAt]; omega)

end Go.Proofs.Ytnplaheokckioaa
