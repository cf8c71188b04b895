/- Contracts of Go functions of the plain fragment, with their walks; printed by a program of the author's own. -/
import Derived.Test.YthooejkmccdfjaaRows
import Derived.Test.YthooejkmccdfjaaDefs
import Derived.Test.YthooejkmccdfjaaQ
import Derived.Test.YthooejkmccdfjaaFresh
import Derived.Test.YthooejkmccdfjaaM2
import Derived.WalkKit
import Derived.ProofKit
import Derived.OpenShut
import Derived.WalkLawsBesides
import Derived.BigQuiet
import Derived.Deep.QuietTactic
import Derived.Deep.LoopGhost
import Derived.LoopN
import Derived.Deep.RegionWith
import Derived.Test.YthooejkmccdfjaaOwn
namespace Go.Proofs.Ythooejkmccdfjaa
open Go.ChangeShapes Go.WideShapes Go.ChangeAt Go.RowKit
set_option linter.unusedVariables false
set_option linter.unusedSimpArgs false
theorem c_S_l01In (n : Int) (low : Int) (high : Int) (w : World)  : Calls Try.prog 115 #[.int .i64 n, .int .i64 low, .int .i64 high] w fun e w' => e = .returned (.bool ((S_l01In n low high))) ∧ w = w' := by
  have hw64 := wrapRule
  go_enter Try.func115, Try.ntmps115
  go_wp2
  all_goals go_ret
  all_goals refine ⟨?_, rfl⟩
  all_goals first | (simp [S_l01In, *]; done) | (simp [S_l01In, *]; omega) | (simp [S_l01In, *]; simp (disch := omega) only [if_pos, if_neg]; done) | (simp_all [S_l01In]; done) | (simp_all [S_l01In]; omega)

theorem c_S_l09Latitude (a : Int) (w : World)  : Calls Try.prog 73 #[.int .i64 a] w fun e w' => e = .returned (.bool ((S_l09Latitude a))) ∧ w = w' := by
  have hw64 := wrapRule
  go_enter Try.func73, Try.ntmps73
  go_wp2_with (first | (go_at_call 115; refine (c_S_l01In _ _ _ _ ).mono ?_; rintro e w1 ⟨rfl, rfl⟩))
  all_goals go_ret
  all_goals refine ⟨?_, rfl⟩
  all_goals first | (simp [S_l09Latitude, *]; done) | (simp [S_l09Latitude, *]; omega) | (simp [S_l09Latitude, *]; simp (disch := omega) only [if_pos, if_neg]; done) | (simp_all [S_l09Latitude]; done) | (simp_all [S_l09Latitude]; omega)

theorem c_S_IsWall (w0_Azimuth : Int) (w0_Slope : Int) (w : World)  : Calls Try.prog 68 #[.agg #[.int .i64 w0_Azimuth, .int .i64 w0_Slope]] w fun e w' => e = .returned (.bool ((S_IsWall (⟨w0_Azimuth, w0_Slope⟩ : Wall)))) ∧ Q w w' := by
  have hset := setRule
  have hall := allocRule
  have halm := allocMark
  have hw64 := wrapRule
  go_enter Try.func68, Try.ntmps68
  go_wp2_with (first | (go_at_call 115; refine (c_S_l01In _ _ _ _ ).mono ?_; rintro e w1 ⟨rfl, rfl⟩) | (go_at_call 73; refine (c_S_l09Latitude _ _ ).mono ?_; rintro e w1 ⟨rfl, rfl⟩))
  all_goals go_ret
  all_goals refine ⟨?_, (by (repeat (first | (with_reducible exact Q.refl _) | (with_reducible assumption) | (with_reducible refine Q.setCell ?_ (by dsimp only; omega) _) | (with_reducible refine Q.alloc ?_ _) | (with_reducible refine Q.drew ?_) | (with_reducible refine Q.call ?_ (by with_reducible assumption)))))⟩
  all_goals first | (simp [S_IsWall, *]; done) | (simp [S_IsWall, *]; omega) | (simp [S_IsWall, *]; simp (disch := omega) only [if_pos, if_neg]; done) | (simp_all [S_IsWall]; done) | (simp_all [S_IsWall]; omega)

theorem c_S_l06Part (a_Low : Int) (a_High : Int) (w : World)  : Calls Try.prog 116 #[.agg #[.int .i64 a_Low, .int .i64 a_High]] w fun e w' => e = .returned (.bool ((S_l06Part (⟨a_Low, a_High⟩ : Interval)))) ∧ Q w w' := by
  have hset := setRule
  have hall := allocRule
  have halm := allocMark
  have hw64 := wrapRule
  go_enter Try.func116, Try.ntmps116
  go_wp2_with (first | (go_at_call 115; refine (c_S_l01In _ _ _ _ ).mono ?_; rintro e w1 ⟨rfl, rfl⟩))
  all_goals go_ret
  all_goals refine ⟨?_, (by (repeat (first | (with_reducible exact Q.refl _) | (with_reducible assumption) | (with_reducible refine Q.setCell ?_ (by dsimp only; omega) _) | (with_reducible refine Q.alloc ?_ _) | (with_reducible refine Q.drew ?_) | (with_reducible refine Q.call ?_ (by with_reducible assumption)))))⟩
  all_goals first | (simp [S_l06Part, *]; done) | (simp [S_l06Part, *]; omega) | (simp [S_l06Part, *]; simp (disch := omega) only [if_pos, if_neg]; done) | (simp_all [S_l06Part]; done) | (simp_all [S_l06Part]; omega)

theorem c_S_IsVector (v_X_Low : Int) (v_X_High : Int) (v_Y_Low : Int) (v_Y_High : Int) (v_Z_Low : Int) (v_Z_High : Int) (w : World)  : Calls Try.prog 69 #[.agg #[.int .i64 v_X_Low, .int .i64 v_X_High, .int .i64 v_Y_Low, .int .i64 v_Y_High, .int .i64 v_Z_Low, .int .i64 v_Z_High]] w fun e w' => e = .returned (.bool ((S_IsVector (⟨(⟨v_X_Low, v_X_High⟩ : Interval), (⟨v_Y_Low, v_Y_High⟩ : Interval), (⟨v_Z_Low, v_Z_High⟩ : Interval)⟩ : Vector)))) ∧ Q w w' := by
  have hset := setRule
  have hall := allocRule
  have halm := allocMark
  have hw64 := wrapRule
  go_enter Try.func69, Try.ntmps69
  go_wp2_with (first | (go_at_call 116; refine (c_S_l06Part _ _ _ ).mono ?_; rintro e w1 ⟨rfl, hq⟩; obtain ⟨hc, hf⟩ := hq.rules; have hs := hq.le; try simp at hs))
  all_goals go_ret
  all_goals refine ⟨?_, (by (repeat (first | (with_reducible exact Q.refl _) | (with_reducible assumption) | (with_reducible refine Q.setCell ?_ (by dsimp only; omega) _) | (with_reducible refine Q.alloc ?_ _) | (with_reducible refine Q.drew ?_) | (with_reducible refine Q.call ?_ (by with_reducible assumption)))))⟩
  all_goals first | (simp [S_IsVector, *]; done) | (simp [S_IsVector, *]; omega) | (simp [S_IsVector, *]; simp (disch := omega) only [if_pos, if_neg]; done) | (simp_all [S_IsVector]; done) | (simp_all [S_IsVector]; omega)

theorem c_S_l09Sign (a_Low : Int) (a_High : Int) (w : World)  : Calls Try.prog 70 #[.agg #[.int .i64 a_Low, .int .i64 a_High]] w fun e w' => e = .returned (.int .i64 ((S_l09Sign (⟨a_Low, a_High⟩ : Interval)))) ∧ Q w w' := by
  have hset := setRule
  have hall := allocRule
  have halm := allocMark
  have hw64 := wrapRule
  go_enter Try.func70, Try.ntmps70
  go_wp2
  all_goals go_ret
  all_goals refine ⟨?_, (by (repeat (first | (with_reducible exact Q.refl _) | (with_reducible assumption) | (with_reducible refine Q.setCell ?_ (by dsimp only; omega) _) | (with_reducible refine Q.alloc ?_ _) | (with_reducible refine Q.drew ?_) | (with_reducible refine Q.call ?_ (by with_reducible assumption)))))⟩
  all_goals first | (simp [S_l09Sign, *]; done) | (simp [S_l09Sign, *]; omega) | (simp [S_l09Sign, *]; simp (disch := omega) only [if_pos, if_neg]; done) | (simp_all [S_l09Sign]; done) | (simp_all [S_l09Sign]; omega)

set_option maxHeartbeats 1000000 in
theorem c_S_l02Add (a_Low : Int) (a_High : Int) (b_Low : Int) (b_High : Int) (w : World)  : Calls Try.prog 117 #[.agg #[.int .i64 a_Low, .int .i64 a_High], .agg #[.int .i64 b_Low, .int .i64 b_High]] w fun e w' => e = .returned (.agg #[.int .i64 ((S_l02Add (⟨a_Low, a_High⟩ : Interval) (⟨b_Low, b_High⟩ : Interval)).Low), .int .i64 ((S_l02Add (⟨a_Low, a_High⟩ : Interval) (⟨b_Low, b_High⟩ : Interval)).High)]) ∧ Q w w' := by
  have hset := setRule
  have hall := allocRule
  have halm := allocMark
  have hw64 := wrapRule
  go_enter Try.func117, Try.ntmps117
  go_wp2
  all_goals
    refine bodyPost_ret (v := .agg #[.int .i64 ((S_l02Add (⟨a_Low, a_High⟩ : Interval) (⟨b_Low, b_High⟩ : Interval)).Low), .int .i64 ((S_l02Add (⟨a_Low, a_High⟩ : Interval) (⟨b_Low, b_High⟩ : Interval)).High)]) ?_ rfl ⟨rfl, ?_⟩
    · first | (simp [results, Try.results117, go_sem, S_l02Add, *]; done) | (simp [results, Try.results117, go_sem, *]; repeat (simp (disch := omega) only [if_pos, if_neg]; try simp [go_sem, S_l02Add, *]))
    · (repeat (first | (with_reducible exact Q.refl _) | (with_reducible assumption) | (with_reducible refine Q.setCell ?_ (by dsimp only; omega) _) | (with_reducible refine Q.alloc ?_ _) | (with_reducible refine Q.drew ?_) | (with_reducible refine Q.call ?_ (by with_reducible assumption))))

theorem c_S_l01Floor (a : Int) (b : Int) (w : World) (hz0 : 0 < b) : Calls Try.prog 151 #[.int .i64 a, .int .i64 b] w fun e w' => e = .returned (.int .i64 ((S_l01Floor a b))) ∧ w = w' := by
  have hw64 := wrapRule
  have hbf : (b < 0) = False := eq_false (by omega)
  have hbz : (b = 0) = False := eq_false (by omega)
  go_enter Try.func151, Try.ntmps151
  go_wp2
  all_goals go_ret
  all_goals refine ⟨?_, rfl⟩
  all_goals first | (simp [S_l01Floor, *]; done) | (simp [S_l01Floor, *]; omega) | (simp [S_l01Floor, *]; simp (disch := omega) only [if_pos, if_neg]; done) | (simp_all [S_l01Floor]; done) | (simp_all [S_l01Floor]; omega)

theorem c_S_l01Ceil (a : Int) (b : Int) (w : World) (hz0 : 0 < b) : Calls Try.prog 152 #[.int .i64 a, .int .i64 b] w fun e w' => e = .returned (.int .i64 ((S_l01Ceil a b))) ∧ w = w' := by
  have hw64 := wrapRule
  have hbf : (b < 0) = False := eq_false (by omega)
  have hbz : (b = 0) = False := eq_false (by omega)
  go_enter Try.func152, Try.ntmps152
  go_wp2_with (first | (go_at_call 151; refine (c_S_l01Floor _ _ _ (by first | assumption | decide | omega | (unfold wrap64; omega))).mono ?_; rintro e w1 ⟨rfl, rfl⟩))
  all_goals go_ret
  all_goals refine ⟨?_, rfl⟩
  all_goals first | (simp [S_l01Ceil, *]; done) | (simp [S_l01Ceil, *]; omega) | (simp [S_l01Ceil, *]; simp (disch := omega) only [if_pos, if_neg]; done) | (simp_all [S_l01Ceil]; done) | (simp_all [S_l01Ceil]; omega)

set_option maxHeartbeats 1000000 in
theorem c_S_l02Mul (a_Low : Int) (a_High : Int) (b_Low : Int) (b_High : Int) (w : World)  : Calls Try.prog 118 #[.agg #[.int .i64 a_Low, .int .i64 a_High], .agg #[.int .i64 b_Low, .int .i64 b_High]] w fun e w' => e = .returned (.agg #[.int .i64 ((S_l02Mul (⟨a_Low, a_High⟩ : Interval) (⟨b_Low, b_High⟩ : Interval)).Low), .int .i64 ((S_l02Mul (⟨a_Low, a_High⟩ : Interval) (⟨b_Low, b_High⟩ : Interval)).High)]) ∧ Q w w' := by
  have hset := setRule
  have hall := allocRule
  have halm := allocMark
  have hw64 := wrapRule
  have hmax := maxRule
  have hmin := minRule
  have hmax4 := @max4 Try.prog
  have hmin4 := @min4 Try.prog
  go_enter Try.func118, Try.ntmps118
  go_wp2_with (first | (go_at_call 151; refine (c_S_l01Floor _ _ _ (by first | assumption | decide | omega | (unfold wrap64; omega))).mono ?_; rintro e w1 ⟨rfl, rfl⟩) | (go_at_call 152; refine (c_S_l01Ceil _ _ _ (by first | assumption | decide | omega | (unfold wrap64; omega))).mono ?_; rintro e w1 ⟨rfl, rfl⟩))
  all_goals try (
    refine region_Q_all (id := 1) (by kernel_rfl) (by kernel_rfl) ?_
    repeat (first | (apply q_step rfl; (intro wq hq; have hr := Q.rules hq; have hcq := hr.1; have hfq := hr.2; clear hr; have hsq := Q.le hq; (try simp at hsq); go_simp; (repeat (simp (disch := omega) only [if_pos, if_neg]; try go_simp)); (first | rfl | exact ⟨rfl, rfl⟩ | (go_at_call 151; exact quiet_same hq (c_S_l01Floor _ _ _ (by first | assumption | decide | omega | (unfold wrap64; omega)))) | (go_at_call 152; exact quiet_same hq (c_S_l01Ceil _ _ _ (by first | assumption | decide | omega | (unfold wrap64; omega)))))); try go_simp) | (apply q_skip rfl; try go_simp))
    refine wpQuiet_nil ?_
    intro w1 hq
    have hr := Q.rules hq; have hc := hr.1; have hf := hr.2; clear hr; have hs := Q.le hq; try simp at hs)
  all_goals try go_wp2_with (first | (go_at_call 151; refine (c_S_l01Floor _ _ _ (by first | assumption | decide | omega | (unfold wrap64; omega))).mono ?_; rintro e w1 ⟨rfl, rfl⟩) | (go_at_call 152; refine (c_S_l01Ceil _ _ _ (by first | assumption | decide | omega | (unfold wrap64; omega))).mono ?_; rintro e w1 ⟨rfl, rfl⟩))
  all_goals
    refine bodyPost_ret (v := .agg #[.int .i64 ((S_l02Mul (⟨a_Low, a_High⟩ : Interval) (⟨b_Low, b_High⟩ : Interval)).Low), .int .i64 ((S_l02Mul (⟨a_Low, a_High⟩ : Interval) (⟨b_Low, b_High⟩ : Interval)).High)]) ?_ rfl ⟨rfl, ?_⟩
    · first | (simp [results, Try.results118, go_sem, S_l02Mul, *]; done) | (simp [results, Try.results118, go_sem, *]; repeat (simp (disch := omega) only [if_pos, if_neg]; try simp [go_sem, S_l02Mul, *]))
    · (repeat (first | (with_reducible exact Q.refl _) | (with_reducible assumption) | (with_reducible refine Q.setCell ?_ (by dsimp only; omega) _) | (with_reducible refine Q.alloc ?_ _) | (with_reducible refine Q.drew ?_) | (with_reducible refine Q.call ?_ (by with_reducible assumption))))

set_option maxHeartbeats 1000000 in
theorem c_S_l06Dot (a_X_Low : Int) (a_X_High : Int) (a_Y_Low : Int) (a_Y_High : Int) (a_Z_Low : Int) (a_Z_High : Int) (b_X_Low : Int) (b_X_High : Int) (b_Y_Low : Int) (b_Y_High : Int) (b_Z_Low : Int) (b_Z_High : Int) (w : World)  : Calls Try.prog 71 #[.agg #[.int .i64 a_X_Low, .int .i64 a_X_High, .int .i64 a_Y_Low, .int .i64 a_Y_High, .int .i64 a_Z_Low, .int .i64 a_Z_High], .agg #[.int .i64 b_X_Low, .int .i64 b_X_High, .int .i64 b_Y_Low, .int .i64 b_Y_High, .int .i64 b_Z_Low, .int .i64 b_Z_High]] w fun e w' => e = .returned (.agg #[.int .i64 ((S_l06Dot (⟨(⟨a_X_Low, a_X_High⟩ : Interval), (⟨a_Y_Low, a_Y_High⟩ : Interval), (⟨a_Z_Low, a_Z_High⟩ : Interval)⟩ : Vector) (⟨(⟨b_X_Low, b_X_High⟩ : Interval), (⟨b_Y_Low, b_Y_High⟩ : Interval), (⟨b_Z_Low, b_Z_High⟩ : Interval)⟩ : Vector)).Low), .int .i64 ((S_l06Dot (⟨(⟨a_X_Low, a_X_High⟩ : Interval), (⟨a_Y_Low, a_Y_High⟩ : Interval), (⟨a_Z_Low, a_Z_High⟩ : Interval)⟩ : Vector) (⟨(⟨b_X_Low, b_X_High⟩ : Interval), (⟨b_Y_Low, b_Y_High⟩ : Interval), (⟨b_Z_Low, b_Z_High⟩ : Interval)⟩ : Vector)).High)]) ∧ Q w w' := by
  have hset := setRule
  have hall := allocRule
  have halm := allocMark
  have hw64 := wrapRule
  go_enter Try.func71, Try.ntmps71
  go_wp2_with (first | (go_at_call 117; refine (c_S_l02Add _ _ _ _ _ ).mono ?_; rintro e w1 ⟨rfl, hq⟩; obtain ⟨hc, hf⟩ := hq.rules; have hs := hq.le; try simp at hs) | (go_at_call 118; refine (c_S_l02Mul _ _ _ _ _ ).mono ?_; rintro e w1 ⟨rfl, hq⟩; obtain ⟨hc, hf⟩ := hq.rules; have hs := hq.le; try simp at hs))
  all_goals try (
    refine region_Q (id := 1) 17 (by kernel_rfl) (by kernel_rfl) ?_
    simp only [List.take_succ_cons, List.take_zero, List.drop_succ_cons, List.drop_zero]
    repeat (first | (apply q_step rfl; (intro wq hq; have hr := Q.rules hq; have hcq := hr.1; have hfq := hr.2; clear hr; have hsq := Q.le hq; (try simp at hsq); go_simp; (repeat (simp (disch := omega) only [if_pos, if_neg]; try go_simp)); (first | rfl | exact ⟨rfl, rfl⟩ | (go_at_call 117; exact quiet_grow hq (c_S_l02Add _ _ _ _ _ )) | (go_at_call 118; exact quiet_grow hq (c_S_l02Mul _ _ _ _ _ )))); try go_simp) | (apply q_skip rfl; try go_simp))
    refine wpQuiet_nil ?_
    intro w1 hq
    have hr := Q.rules hq; have hc := hr.1; have hf := hr.2; clear hr; have hs := Q.le hq; try simp at hs)
  all_goals try go_wp2_with (first | (go_at_call 117; refine (c_S_l02Add _ _ _ _ _ ).mono ?_; rintro e w1 ⟨rfl, hq⟩; obtain ⟨hc, hf⟩ := hq.rules; have hs := hq.le; try simp at hs) | (go_at_call 118; refine (c_S_l02Mul _ _ _ _ _ ).mono ?_; rintro e w1 ⟨rfl, hq⟩; obtain ⟨hc, hf⟩ := hq.rules; have hs := hq.le; try simp at hs))
  all_goals
    refine bodyPost_ret (v := .agg #[.int .i64 ((S_l06Dot (⟨(⟨a_X_Low, a_X_High⟩ : Interval), (⟨a_Y_Low, a_Y_High⟩ : Interval), (⟨a_Z_Low, a_Z_High⟩ : Interval)⟩ : Vector) (⟨(⟨b_X_Low, b_X_High⟩ : Interval), (⟨b_Y_Low, b_Y_High⟩ : Interval), (⟨b_Z_Low, b_Z_High⟩ : Interval)⟩ : Vector)).Low), .int .i64 ((S_l06Dot (⟨(⟨a_X_Low, a_X_High⟩ : Interval), (⟨a_Y_Low, a_Y_High⟩ : Interval), (⟨a_Z_Low, a_Z_High⟩ : Interval)⟩ : Vector) (⟨(⟨b_X_Low, b_X_High⟩ : Interval), (⟨b_Y_Low, b_Y_High⟩ : Interval), (⟨b_Z_Low, b_Z_High⟩ : Interval)⟩ : Vector)).High)]) ?_ rfl ⟨rfl, ?_⟩
    · first | (simp [results, Try.results71, go_sem, S_l06Dot, *]; done) | (simp [results, Try.results71, go_sem, *]; repeat (simp (disch := omega) only [if_pos, if_neg]; try simp [go_sem, S_l06Dot, *]))
    · (repeat (first | (with_reducible exact Q.refl _) | (with_reducible assumption) | (with_reducible refine Q.setCell ?_ (by dsimp only; omega) _) | (with_reducible refine Q.alloc ?_ _) | (with_reducible refine Q.drew ?_) | (with_reducible refine Q.call ?_ (by with_reducible assumption))))

set_option maxHeartbeats 1000000 in
theorem c_S_l04Interval (n : Int) (w : World)  : Calls Try.prog 153 #[.int .i64 n] w fun e w' => e = .returned (.agg #[.int .i64 ((S_l04Interval n).Low), .int .i64 ((S_l04Interval n).High)]) ∧ Q w w' := by
  have hset := setRule
  have hall := allocRule
  have halm := allocMark
  have hw64 := wrapRule
  go_enter Try.func153, Try.ntmps153
  go_wp2_with (first | (go_at_call 151; refine (c_S_l01Floor _ _ _ (by first | assumption | decide | omega | (unfold wrap64; omega))).mono ?_; rintro e w1 ⟨rfl, rfl⟩) | (go_at_call 152; refine (c_S_l01Ceil _ _ _ (by first | assumption | decide | omega | (unfold wrap64; omega))).mono ?_; rintro e w1 ⟨rfl, rfl⟩))
  all_goals
    refine bodyPost_ret (v := .agg #[.int .i64 ((S_l04Interval n).Low), .int .i64 ((S_l04Interval n).High)]) ?_ rfl ⟨rfl, ?_⟩
    · first | (simp [results, Try.results153, go_sem, S_l04Interval, *]; done) | (simp [results, Try.results153, go_sem, *]; repeat (simp (disch := omega) only [if_pos, if_neg]; try simp [go_sem, S_l04Interval, *]))
    · (repeat (first | (with_reducible exact Q.refl _) | (with_reducible assumption) | (with_reducible refine Q.setCell ?_ (by dsimp only; omega) _) | (with_reducible refine Q.alloc ?_ _) | (with_reducible refine Q.drew ?_) | (with_reducible refine Q.call ?_ (by with_reducible assumption))))

theorem c_S_l01Mod (a : Int) (m : Int) (w : World) (hz0 : ¬ m = 0) : Calls Try.prog 137 #[.int .i64 a, .int .i64 m] w fun e w' => e = .returned (.int .i64 ((S_l01Mod a m))) ∧ w = w' := by
  have hw64 := wrapRule
  go_enter Try.func137, Try.ntmps137
  go_wp2
  all_goals go_ret
  all_goals refine ⟨?_, rfl⟩
  all_goals first | (simp [S_l01Mod, *]; done) | (simp [S_l01Mod, *]; omega) | (simp [S_l01Mod, *]; simp (disch := omega) only [if_pos, if_neg]; done) | (simp_all [S_l01Mod]; done) | (simp_all [S_l01Mod]; omega)

theorem c_S_l03Plain (a : Int) (w : World)  : Calls Try.prog 160 #[.int .i64 a] w fun e w' => e = .returned (.int .i64 ((S_l03Plain a))) ∧ w = w' := by
  have hw64 := wrapRule
  go_enter Try.func160, Try.ntmps160
  go_wp2_with (first | (go_at_call 137; refine (c_S_l01Mod _ _ _ (by first | assumption | decide | omega | (unfold wrap64; omega))).mono ?_; rintro e w1 ⟨rfl, rfl⟩))
  all_goals go_ret
  all_goals refine ⟨?_, rfl⟩
  all_goals first | (simp [S_l03Plain, *]; done) | (simp [S_l03Plain, *]; omega) | (simp [S_l03Plain, *]; simp (disch := omega) only [if_pos, if_neg]; done) | (simp_all [S_l03Plain]; done) | (simp_all [S_l03Plain]; omega)

theorem c_S_l04Arc (r : Int) (w : World)  : Calls Try.prog 173 #[.int .i64 r] w fun e w' => e = .returned (.tuple #[.int .i64 ((S_l04Arc r).1), .int .i64 ((S_l04Arc r).2)]) ∧ w = w' := by
  have hw64 := wrapRule
  go_enter Try.func173, Try.ntmps173
  go_wp2
  all_goals go_ret2
  all_goals refine ⟨?_, rfl⟩
  all_goals first | (simp [S_l04Arc, *]; done) | (simp [S_l04Arc, *]; omega) | (simp [S_l04Arc, *]; simp (disch := omega) only [if_pos, if_neg]; done) | (simp_all [S_l04Arc]; done) | (simp_all [S_l04Arc]; omega)

theorem c_S_l04P (r : Int) (w : World)  : Calls Try.prog 169 #[.int .i64 r] w fun e w' => e = .returned (.int .i64 ((S_l04P r))) ∧ w = w' := by
  have hw64 := wrapRule
  go_enter Try.func169, Try.ntmps169
  go_wp2_with (first | (go_at_call 173; refine (c_S_l04Arc _ _ ).mono ?_; rintro e w1 ⟨rfl, rfl⟩))
  all_goals go_ret
  all_goals refine ⟨?_, rfl⟩
  all_goals first | (simp [S_l04P, *]; done) | (simp [S_l04P, *]; omega) | (simp [S_l04P, *]; simp (disch := omega) only [if_pos, if_neg]; done) | (simp_all [S_l04P]; done) | (simp_all [S_l04P]; omega)

theorem c_S_l04Q (r : Int) (w : World)  : Calls Try.prog 170 #[.int .i64 r] w fun e w' => e = .returned (.int .i64 ((S_l04Q r))) ∧ w = w' := by
  have hw64 := wrapRule
  go_enter Try.func170, Try.ntmps170
  go_wp2_with (first | (go_at_call 173; refine (c_S_l04Arc _ _ ).mono ?_; rintro e w1 ⟨rfl, rfl⟩))
  all_goals go_ret
  all_goals refine ⟨?_, rfl⟩
  all_goals first | (simp [S_l04Q, *]; done) | (simp [S_l04Q, *]; omega) | (simp [S_l04Q, *]; simp (disch := omega) only [if_pos, if_neg]; done) | (simp_all [S_l04Q]; done) | (simp_all [S_l04Q]; omega)

theorem c_S_l04Sine (a : Int) (w : World)  : Calls Try.prog 155 #[.int .i64 a] w fun e w' => e = .returned (.int .i64 ((S_l04Sine a))) ∧ w = w' := by
  have hw64 := wrapRule
  go_enter Try.func155, Try.ntmps155
  go_wp2_with (first | (go_at_call 160; refine (c_S_l03Plain _ _ ).mono ?_; rintro e w1 ⟨rfl, rfl⟩) | (go_at_call 169; refine (c_S_l04P _ _ ).mono ?_; rintro e w1 ⟨rfl, rfl⟩) | (go_at_call 170; refine (c_S_l04Q _ _ ).mono ?_; rintro e w1 ⟨rfl, rfl⟩))
  all_goals go_ret
  all_goals refine ⟨?_, rfl⟩
  all_goals first | (simp [S_l04Sine, *]; done) | (simp [S_l04Sine, *]; omega) | (simp [S_l04Sine, *]; simp (disch := omega) only [if_pos, if_neg]; done) | (simp_all [S_l04Sine]; done) | (simp_all [S_l04Sine]; omega)

theorem c_S_l04Cosine (a : Int) (w : World)  : Calls Try.prog 154 #[.int .i64 a] w fun e w' => e = .returned (.int .i64 ((S_l04Cosine a))) ∧ w = w' := by
  have hw64 := wrapRule
  go_enter Try.func154, Try.ntmps154
  go_wp2_with (first | (go_at_call 155; refine (c_S_l04Sine _ _ ).mono ?_; rintro e w1 ⟨rfl, rfl⟩))
  all_goals go_ret
  all_goals refine ⟨?_, rfl⟩
  all_goals first | (simp [S_l04Cosine, *]; done) | (simp [S_l04Cosine, *]; omega) | (simp [S_l04Cosine, *]; simp (disch := omega) only [if_pos, if_neg]; done) | (simp_all [S_l04Cosine]; done) | (simp_all [S_l04Cosine]; omega)

set_option maxHeartbeats 1000000 in
theorem c_S_l04Cos (a : Int) (w : World)  : Calls Try.prog 119 #[.int .i64 a] w fun e w' => e = .returned (.agg #[.int .i64 ((S_l04Cos a).Low), .int .i64 ((S_l04Cos a).High)]) ∧ Q w w' := by
  have hset := setRule
  have hall := allocRule
  have halm := allocMark
  have hw64 := wrapRule
  go_enter Try.func119, Try.ntmps119
  go_wp2_with (first | (go_at_call 153; refine (c_S_l04Interval _ _ ).mono ?_; rintro e w1 ⟨rfl, hq⟩; obtain ⟨hc, hf⟩ := hq.rules; have hs := hq.le; try simp at hs) | (go_at_call 154; refine (c_S_l04Cosine _ _ ).mono ?_; rintro e w1 ⟨rfl, rfl⟩))
  all_goals
    refine bodyPost_ret (v := .agg #[.int .i64 ((S_l04Cos a).Low), .int .i64 ((S_l04Cos a).High)]) ?_ rfl ⟨rfl, ?_⟩
    · first | (simp [results, Try.results119, go_sem, S_l04Cos, *]; done) | (simp [results, Try.results119, go_sem, *]; repeat (simp (disch := omega) only [if_pos, if_neg]; try simp [go_sem, S_l04Cos, *]))
    · (repeat (first | (with_reducible exact Q.refl _) | (with_reducible assumption) | (with_reducible refine Q.setCell ?_ (by dsimp only; omega) _) | (with_reducible refine Q.alloc ?_ _) | (with_reducible refine Q.drew ?_) | (with_reducible refine Q.call ?_ (by with_reducible assumption))))

end Go.Proofs.Ythooejkmccdfjaa
