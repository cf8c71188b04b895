/- Contracts of Go functions of the plain fragment, with their walks; printed by a program of the author's own. -/
import Derived.Test.YthooejkmccdfjaaRows
import Derived.Test.YthooejkmccdfjaaDefs
import Derived.Test.YthooejkmccdfjaaC2
import Derived.Test.YthooejkmccdfjaaFresh
import Derived.Test.YthooejkmccdfjaaM2
import Derived.WalkKit
import Derived.ProofKit
import Derived.OpenShut
import Derived.WalkLawsBesides
import Derived.BigQuiet
import Derived.Deep.QuietTactic
import Derived.Deep.LoopGhost
import Derived.LoopN
namespace Go.Proofs.Ythooejkmccdfjaa
open Go.ChangeShapes Go.WideShapes Go.ChangeAt Go.RowKit
set_option linter.unusedVariables false
set_option linter.unusedSimpArgs false
set_option maxHeartbeats 1000000 in
theorem c_I_Interval_times (a_Low : Int) (a_High : Int) (b_Low : Int) (b_High : Int) (w : World)  : Calls Try.prog 125 #[.agg #[.int .i64 a_Low, .int .i64 a_High], .agg #[.int .i64 b_Low, .int .i64 b_High]] w fun e w' => e = .returned (.agg #[.int .i64 ((I_Interval_times (⟨a_Low, a_High⟩ : Interval) (⟨b_Low, b_High⟩ : Interval)).Low), .int .i64 ((I_Interval_times (⟨a_Low, a_High⟩ : Interval) (⟨b_Low, b_High⟩ : Interval)).High)]) ∧ Q w w' := by
  have hset := setRule
  have hall := allocRule
  have halm := allocMark
  have hw64 := wrapRule
  have hmax := maxRule
  have hmin := minRule
  have hmax4 := @max4 Try.prog
  have hmin4 := @min4 Try.prog
  go_enter Try.func125, Try.ntmps125
  go_wp2_with (first | (go_at_call 157; refine (c_I_floor _ _ _ (by first | assumption | decide | omega | (unfold wrap64; omega))).mono ?_; rintro e w1 ⟨rfl, rfl⟩) | (go_at_call 158; refine (c_I_ceil _ _ _ (by first | assumption | decide | omega | (unfold wrap64; omega))).mono ?_; rintro e w1 ⟨rfl, rfl⟩))
  all_goals try (
    refine region_Q_all (id := 1) (by kernel_rfl) (by kernel_rfl) ?_
    repeat (first | (apply q_step rfl; (intro wq hq; have hr := Q.rules hq; have hcq := hr.1; have hfq := hr.2; clear hr; have hsq := Q.le hq; (try simp at hsq); go_simp; (repeat (simp (disch := omega) only [if_pos, if_neg]; try go_simp)); (first | rfl | exact ⟨rfl, rfl⟩ | (go_at_call 157; exact quiet_same hq (c_I_floor _ _ _ (by first | assumption | decide | omega | (unfold wrap64; omega)))) | (go_at_call 158; exact quiet_same hq (c_I_ceil _ _ _ (by first | assumption | decide | omega | (unfold wrap64; omega)))))); try go_simp) | (apply q_skip rfl; try go_simp))
    refine wpQuiet_nil ?_
    intro w1 hq
    have hr := Q.rules hq; have hc := hr.1; have hf := hr.2; clear hr; have hs := Q.le hq; try simp at hs)
  all_goals try go_wp2_with (first | (go_at_call 157; refine (c_I_floor _ _ _ (by first | assumption | decide | omega | (unfold wrap64; omega))).mono ?_; rintro e w1 ⟨rfl, rfl⟩) | (go_at_call 158; refine (c_I_ceil _ _ _ (by first | assumption | decide | omega | (unfold wrap64; omega))).mono ?_; rintro e w1 ⟨rfl, rfl⟩))
  all_goals
    refine bodyPost_ret (v := .agg #[.int .i64 ((I_Interval_times (⟨a_Low, a_High⟩ : Interval) (⟨b_Low, b_High⟩ : Interval)).Low), .int .i64 ((I_Interval_times (⟨a_Low, a_High⟩ : Interval) (⟨b_Low, b_High⟩ : Interval)).High)]) ?_ rfl ⟨rfl, ?_⟩
    · first | (simp [results, Try.results125, go_sem, I_Interval_times, *]; done) | (simp [results, Try.results125, go_sem, *]; repeat (simp (disch := omega) only [if_pos, if_neg]; try simp [go_sem, I_Interval_times, *]))
    · (repeat (first | (with_reducible exact Q.refl _) | (with_reducible assumption) | (with_reducible refine Q.setCell ?_ (by dsimp only; omega) _) | (with_reducible refine Q.alloc ?_ _) | (with_reducible refine Q.drew ?_) | (with_reducible refine Q.call ?_ (by with_reducible assumption))))

set_option maxHeartbeats 1000000 in
theorem c_I_direction (azimuth : Int) (altitude : Int) (w : World)  : Calls Try.prog 79 #[.int .i64 azimuth, .int .i64 altitude] w fun e w' => e = .returned (.agg #[.int .i64 ((I_direction azimuth altitude).X.Low), .int .i64 ((I_direction azimuth altitude).X.High), .int .i64 ((I_direction azimuth altitude).Y.Low), .int .i64 ((I_direction azimuth altitude).Y.High), .int .i64 ((I_direction azimuth altitude).Z.Low), .int .i64 ((I_direction azimuth altitude).Z.High)]) ∧ Q w w' := by
  have hset := setRule
  have hall := allocRule
  have halm := allocMark
  have hw64 := wrapRule
  go_enter Try.func79, Try.ntmps79
  go_wp2_with (first | (go_at_call 123; refine (c_I_cosine _ _ ).mono ?_; rintro e w1 ⟨rfl, hq⟩; obtain ⟨hc, hf⟩ := hq.rules; have hs := hq.le; try simp at hs) | (go_at_call 125; refine (c_I_Interval_times _ _ _ _ _ ).mono ?_; rintro e w1 ⟨rfl, hq⟩; obtain ⟨hc, hf⟩ := hq.rules; have hs := hq.le; try simp at hs) | (go_at_call 124; refine (c_I_sine _ _ ).mono ?_; rintro e w1 ⟨rfl, hq⟩; obtain ⟨hc, hf⟩ := hq.rules; have hs := hq.le; try simp at hs))
  all_goals try (
    refine region_Q (id := 2) 11 (by kernel_rfl) (by kernel_rfl) ?_
    simp only [List.take_succ_cons, List.take_zero, List.drop_succ_cons, List.drop_zero]
    repeat (first | (apply q_step rfl; (intro wq hq; have hr := Q.rules hq; have hcq := hr.1; have hfq := hr.2; clear hr; have hsq := Q.le hq; (try simp at hsq); go_simp; (repeat (simp (disch := omega) only [if_pos, if_neg]; try go_simp)); (first | rfl | exact ⟨rfl, rfl⟩ | (go_at_call 123; exact quiet_grow hq (c_I_cosine _ _ )) | (go_at_call 125; exact quiet_grow hq (c_I_Interval_times _ _ _ _ _ )) | (go_at_call 124; exact quiet_grow hq (c_I_sine _ _ )))); try go_simp) | (apply q_skip rfl; try go_simp))
    refine wpQuiet_nil ?_
    intro w1 hq
    have hr := Q.rules hq; have hc := hr.1; have hf := hr.2; clear hr; have hs := Q.le hq; try simp at hs)
  all_goals try go_wp2_with (first | (go_at_call 123; refine (c_I_cosine _ _ ).mono ?_; rintro e w1 ⟨rfl, hq⟩; obtain ⟨hc, hf⟩ := hq.rules; have hs := hq.le; try simp at hs) | (go_at_call 125; refine (c_I_Interval_times _ _ _ _ _ ).mono ?_; rintro e w1 ⟨rfl, hq⟩; obtain ⟨hc, hf⟩ := hq.rules; have hs := hq.le; try simp at hs) | (go_at_call 124; refine (c_I_sine _ _ ).mono ?_; rintro e w1 ⟨rfl, hq⟩; obtain ⟨hc, hf⟩ := hq.rules; have hs := hq.le; try simp at hs))
  all_goals
    refine bodyPost_ret (v := .agg #[.int .i64 ((I_direction azimuth altitude).X.Low), .int .i64 ((I_direction azimuth altitude).X.High), .int .i64 ((I_direction azimuth altitude).Y.Low), .int .i64 ((I_direction azimuth altitude).Y.High), .int .i64 ((I_direction azimuth altitude).Z.Low), .int .i64 ((I_direction azimuth altitude).Z.High)]) ?_ rfl ⟨rfl, ?_⟩
    · first | (simp [results, Try.results79, go_sem, I_direction, *]; done) | (simp [results, Try.results79, go_sem, *]; repeat (simp (disch := omega) only [if_pos, if_neg]; try simp [go_sem, I_direction, *]))
    · (repeat (first | (with_reducible exact Q.refl _) | (with_reducible assumption) | (with_reducible refine Q.setCell ?_ (by dsimp only; omega) _) | (with_reducible refine Q.alloc ?_ _) | (with_reducible refine Q.drew ?_) | (with_reducible refine Q.call ?_ (by with_reducible assumption))))

set_option maxHeartbeats 1000000 in
theorem c_I_Interval_plus (a_Low : Int) (a_High : Int) (b_Low : Int) (b_High : Int) (w : World)  : Calls Try.prog 135 #[.agg #[.int .i64 a_Low, .int .i64 a_High], .agg #[.int .i64 b_Low, .int .i64 b_High]] w fun e w' => e = .returned (.agg #[.int .i64 ((I_Interval_plus (⟨a_Low, a_High⟩ : Interval) (⟨b_Low, b_High⟩ : Interval)).Low), .int .i64 ((I_Interval_plus (⟨a_Low, a_High⟩ : Interval) (⟨b_Low, b_High⟩ : Interval)).High)]) ∧ Q w w' := by
  have hset := setRule
  have hall := allocRule
  have halm := allocMark
  have hw64 := wrapRule
  go_enter Try.func135, Try.ntmps135
  go_wp2
  all_goals
    refine bodyPost_ret (v := .agg #[.int .i64 ((I_Interval_plus (⟨a_Low, a_High⟩ : Interval) (⟨b_Low, b_High⟩ : Interval)).Low), .int .i64 ((I_Interval_plus (⟨a_Low, a_High⟩ : Interval) (⟨b_Low, b_High⟩ : Interval)).High)]) ?_ rfl ⟨rfl, ?_⟩
    · first | (simp [results, Try.results135, go_sem, I_Interval_plus, *]; done) | (simp [results, Try.results135, go_sem, *]; repeat (simp (disch := omega) only [if_pos, if_neg]; try simp [go_sem, I_Interval_plus, *]))
    · (repeat (first | (with_reducible exact Q.refl _) | (with_reducible assumption) | (with_reducible refine Q.setCell ?_ (by dsimp only; omega) _) | (with_reducible refine Q.alloc ?_ _) | (with_reducible refine Q.drew ?_) | (with_reducible refine Q.call ?_ (by with_reducible assumption))))

set_option maxHeartbeats 1000000 in
theorem c_I_Vector_dot (v_X_Low : Int) (v_X_High : Int) (v_Y_Low : Int) (v_Y_High : Int) (v_Z_Low : Int) (v_Z_High : Int) (w0_X_Low : Int) (w0_X_High : Int) (w0_Y_Low : Int) (w0_Y_High : Int) (w0_Z_Low : Int) (w0_Z_High : Int) (w : World)  : Calls Try.prog 122 #[.agg #[.int .i64 v_X_Low, .int .i64 v_X_High, .int .i64 v_Y_Low, .int .i64 v_Y_High, .int .i64 v_Z_Low, .int .i64 v_Z_High], .agg #[.int .i64 w0_X_Low, .int .i64 w0_X_High, .int .i64 w0_Y_Low, .int .i64 w0_Y_High, .int .i64 w0_Z_Low, .int .i64 w0_Z_High]] w fun e w' => e = .returned (.agg #[.int .i64 ((I_Vector_dot (⟨(⟨v_X_Low, v_X_High⟩ : Interval), (⟨v_Y_Low, v_Y_High⟩ : Interval), (⟨v_Z_Low, v_Z_High⟩ : Interval)⟩ : Vector) (⟨(⟨w0_X_Low, w0_X_High⟩ : Interval), (⟨w0_Y_Low, w0_Y_High⟩ : Interval), (⟨w0_Z_Low, w0_Z_High⟩ : Interval)⟩ : Vector)).Low), .int .i64 ((I_Vector_dot (⟨(⟨v_X_Low, v_X_High⟩ : Interval), (⟨v_Y_Low, v_Y_High⟩ : Interval), (⟨v_Z_Low, v_Z_High⟩ : Interval)⟩ : Vector) (⟨(⟨w0_X_Low, w0_X_High⟩ : Interval), (⟨w0_Y_Low, w0_Y_High⟩ : Interval), (⟨w0_Z_Low, w0_Z_High⟩ : Interval)⟩ : Vector)).High)]) ∧ Q w w' := by
  have hset := setRule
  have hall := allocRule
  have halm := allocMark
  have hw64 := wrapRule
  go_enter Try.func122, Try.ntmps122
  go_wp2_with (first | (go_at_call 135; refine (c_I_Interval_plus _ _ _ _ _ ).mono ?_; rintro e w1 ⟨rfl, hq⟩; obtain ⟨hc, hf⟩ := hq.rules; have hs := hq.le; try simp at hs) | (go_at_call 125; refine (c_I_Interval_times _ _ _ _ _ ).mono ?_; rintro e w1 ⟨rfl, hq⟩; obtain ⟨hc, hf⟩ := hq.rules; have hs := hq.le; try simp at hs))
  all_goals try (
    refine region_Q (id := 1) 17 (by kernel_rfl) (by kernel_rfl) ?_
    simp only [List.take_succ_cons, List.take_zero, List.drop_succ_cons, List.drop_zero]
    repeat (first | (apply q_step rfl; (intro wq hq; have hr := Q.rules hq; have hcq := hr.1; have hfq := hr.2; clear hr; have hsq := Q.le hq; (try simp at hsq); go_simp; (repeat (simp (disch := omega) only [if_pos, if_neg]; try go_simp)); (first | rfl | exact ⟨rfl, rfl⟩ | (go_at_call 135; exact quiet_grow hq (c_I_Interval_plus _ _ _ _ _ )) | (go_at_call 125; exact quiet_grow hq (c_I_Interval_times _ _ _ _ _ )))); try go_simp) | (apply q_skip rfl; try go_simp))
    refine wpQuiet_nil ?_
    intro w1 hq
    have hr := Q.rules hq; have hc := hr.1; have hf := hr.2; clear hr; have hs := Q.le hq; try simp at hs)
  all_goals try go_wp2_with (first | (go_at_call 135; refine (c_I_Interval_plus _ _ _ _ _ ).mono ?_; rintro e w1 ⟨rfl, hq⟩; obtain ⟨hc, hf⟩ := hq.rules; have hs := hq.le; try simp at hs) | (go_at_call 125; refine (c_I_Interval_times _ _ _ _ _ ).mono ?_; rintro e w1 ⟨rfl, hq⟩; obtain ⟨hc, hf⟩ := hq.rules; have hs := hq.le; try simp at hs))
  all_goals
    refine bodyPost_ret (v := .agg #[.int .i64 ((I_Vector_dot (⟨(⟨v_X_Low, v_X_High⟩ : Interval), (⟨v_Y_Low, v_Y_High⟩ : Interval), (⟨v_Z_Low, v_Z_High⟩ : Interval)⟩ : Vector) (⟨(⟨w0_X_Low, w0_X_High⟩ : Interval), (⟨w0_Y_Low, w0_Y_High⟩ : Interval), (⟨w0_Z_Low, w0_Z_High⟩ : Interval)⟩ : Vector)).Low), .int .i64 ((I_Vector_dot (⟨(⟨v_X_Low, v_X_High⟩ : Interval), (⟨v_Y_Low, v_Y_High⟩ : Interval), (⟨v_Z_Low, v_Z_High⟩ : Interval)⟩ : Vector) (⟨(⟨w0_X_Low, w0_X_High⟩ : Interval), (⟨w0_Y_Low, w0_Y_High⟩ : Interval), (⟨w0_Z_Low, w0_Z_High⟩ : Interval)⟩ : Vector)).High)]) ?_ rfl ⟨rfl, ?_⟩
    · first | (simp [results, Try.results122, go_sem, I_Vector_dot, *]; done) | (simp [results, Try.results122, go_sem, *]; repeat (simp (disch := omega) only [if_pos, if_neg]; try simp [go_sem, I_Vector_dot, *]))
    · (repeat (first | (with_reducible exact Q.refl _) | (with_reducible assumption) | (with_reducible refine Q.setCell ?_ (by dsimp only; omega) _) | (with_reducible refine Q.alloc ?_ _) | (with_reducible refine Q.drew ?_) | (with_reducible refine Q.call ?_ (by with_reducible assumption))))

theorem c_I_isLatitude (a : Int) (w : World)  : Calls Try.prog 77 #[.int .i64 a] w fun e w' => e = .returned (.bool ((I_isLatitude a))) ∧ w = w' := by
  have hw64 := wrapRule
  go_enter Try.func77, Try.ntmps77
  go_wp2_with (first | (go_at_call 121; refine (c_I_in _ _ _ _ ).mono ?_; rintro e w1 ⟨rfl, rfl⟩))
  all_goals go_ret
  all_goals refine ⟨?_, rfl⟩
  all_goals first | (simp [I_isLatitude, *]; done) | (simp [I_isLatitude, *]; omega) | (simp [I_isLatitude, *]; simp (disch := omega) only [if_pos, if_neg]; done) | (simp_all [I_isLatitude]; done) | (simp_all [I_isLatitude]; omega)

theorem c_L_eqInterval (a_Low : Int) (a_High : Int) (b_Low : Int) (b_High : Int) (w : World)  : Calls Try.prog 80 #[.agg #[.int .i64 a_Low, .int .i64 a_High], .agg #[.int .i64 b_Low, .int .i64 b_High]] w fun e w' => e = .returned (.bool ((L_eqInterval (⟨a_Low, a_High⟩ : Interval) (⟨b_Low, b_High⟩ : Interval)))) ∧ Q w w' := by
  have hset := setRule
  have hall := allocRule
  have halm := allocMark
  have hw64 := wrapRule
  go_enter Try.func80, Try.ntmps80
  go_wp2
  all_goals go_ret
  all_goals refine ⟨?_, (by (repeat (first | (with_reducible exact Q.refl _) | (with_reducible assumption) | (with_reducible refine Q.setCell ?_ (by dsimp only; omega) _) | (with_reducible refine Q.alloc ?_ _) | (with_reducible refine Q.drew ?_) | (with_reducible refine Q.call ?_ (by with_reducible assumption)))))⟩
  all_goals first | (simp [L_eqInterval, *]; done) | (simp [L_eqInterval, *]; omega) | (simp [L_eqInterval, *]; simp (disch := omega) only [if_pos, if_neg]; done) | (simp_all [L_eqInterval]; done) | (simp_all [L_eqInterval]; omega)

theorem c_L_eqVector (a_X_Low : Int) (a_X_High : Int) (a_Y_Low : Int) (a_Y_High : Int) (a_Z_Low : Int) (a_Z_High : Int) (b_X_Low : Int) (b_X_High : Int) (b_Y_Low : Int) (b_Y_High : Int) (b_Z_Low : Int) (b_Z_High : Int) (w : World)  : Calls Try.prog 32 #[.agg #[.int .i64 a_X_Low, .int .i64 a_X_High, .int .i64 a_Y_Low, .int .i64 a_Y_High, .int .i64 a_Z_Low, .int .i64 a_Z_High], .agg #[.int .i64 b_X_Low, .int .i64 b_X_High, .int .i64 b_Y_Low, .int .i64 b_Y_High, .int .i64 b_Z_Low, .int .i64 b_Z_High]] w fun e w' => e = .returned (.bool ((L_eqVector (⟨(⟨a_X_Low, a_X_High⟩ : Interval), (⟨a_Y_Low, a_Y_High⟩ : Interval), (⟨a_Z_Low, a_Z_High⟩ : Interval)⟩ : Vector) (⟨(⟨b_X_Low, b_X_High⟩ : Interval), (⟨b_Y_Low, b_Y_High⟩ : Interval), (⟨b_Z_Low, b_Z_High⟩ : Interval)⟩ : Vector)))) ∧ Q w w' := by
  have hset := setRule
  have hall := allocRule
  have halm := allocMark
  have hw64 := wrapRule
  go_enter Try.func32, Try.ntmps32
  go_wp2_with (first | (go_at_call 80; refine (c_L_eqInterval _ _ _ _ _ ).mono ?_; rintro e w1 ⟨rfl, hq⟩; obtain ⟨hc, hf⟩ := hq.rules; have hs := hq.le; try simp at hs))
  all_goals go_ret
  all_goals refine ⟨?_, (by (repeat (first | (with_reducible exact Q.refl _) | (with_reducible assumption) | (with_reducible refine Q.setCell ?_ (by dsimp only; omega) _) | (with_reducible refine Q.alloc ?_ _) | (with_reducible refine Q.drew ?_) | (with_reducible refine Q.call ?_ (by with_reducible assumption)))))⟩
  all_goals first | (simp [L_eqVector, *]; done) | (simp [L_eqVector, *]; omega) | (simp [L_eqVector, *]; simp (disch := omega) only [if_pos, if_neg]; done) | (simp_all [L_eqVector]; done) | (simp_all [L_eqVector]; omega)

theorem c_S_l01Is (n : Int) (w : World)  : Calls Try.prog 159 #[.int .i64 n] w fun e w' => e = .returned (.bool ((S_l01Is n))) ∧ w = w' := by
  have hw64 := wrapRule
  go_enter Try.func159, Try.ntmps159
  go_wp2_with (first | (go_at_call 115; refine (c_S_l01In _ _ _ _ ).mono ?_; rintro e w1 ⟨rfl, rfl⟩))
  all_goals go_ret
  all_goals refine ⟨?_, rfl⟩
  all_goals first | (simp [S_l01Is, *]; done) | (simp [S_l01Is, *]; omega) | (simp [S_l01Is, *]; simp (disch := omega) only [if_pos, if_neg]; done) | (simp_all [S_l01Is]; done) | (simp_all [S_l01Is]; omega)

theorem c_S_IsInterval (a_Low : Int) (a_High : Int) (w : World)  : Calls Try.prog 126 #[.agg #[.int .i64 a_Low, .int .i64 a_High]] w fun e w' => e = .returned (.bool ((S_IsInterval (⟨a_Low, a_High⟩ : Interval)))) ∧ Q w w' := by
  have hset := setRule
  have hall := allocRule
  have halm := allocMark
  have hw64 := wrapRule
  go_enter Try.func126, Try.ntmps126
  go_wp2_with (first | (go_at_call 159; refine (c_S_l01Is _ _ ).mono ?_; rintro e w1 ⟨rfl, rfl⟩))
  all_goals go_ret
  all_goals refine ⟨?_, (by (repeat (first | (with_reducible exact Q.refl _) | (with_reducible assumption) | (with_reducible refine Q.setCell ?_ (by dsimp only; omega) _) | (with_reducible refine Q.alloc ?_ _) | (with_reducible refine Q.drew ?_) | (with_reducible refine Q.call ?_ (by with_reducible assumption)))))⟩
  all_goals first | (simp [S_IsInterval, *]; done) | (simp [S_IsInterval, *]; omega) | (simp [S_IsInterval, *]; simp (disch := omega) only [if_pos, if_neg]; done) | (simp_all [S_IsInterval]; done) | (simp_all [S_IsInterval]; omega)

theorem c_S_l09Declination (d_Low : Int) (d_High : Int) (w : World)  : Calls Try.prog 82 #[.agg #[.int .i64 d_Low, .int .i64 d_High]] w fun e w' => e = .returned (.bool ((S_l09Declination (⟨d_Low, d_High⟩ : Interval)))) ∧ Q w w' := by
  have hset := setRule
  have hall := allocRule
  have halm := allocMark
  have hw64 := wrapRule
  go_enter Try.func82, Try.ntmps82
  go_wp2_with (first | (go_at_call 126; refine (c_S_IsInterval _ _ _ ).mono ?_; rintro e w1 ⟨rfl, hq⟩; obtain ⟨hc, hf⟩ := hq.rules; have hs := hq.le; try simp at hs) | (go_at_call 73; refine (c_S_l09Latitude _ _ ).mono ?_; rintro e w1 ⟨rfl, rfl⟩))
  all_goals go_ret
  all_goals refine ⟨?_, (by (repeat (first | (with_reducible exact Q.refl _) | (with_reducible assumption) | (with_reducible refine Q.setCell ?_ (by dsimp only; omega) _) | (with_reducible refine Q.alloc ?_ _) | (with_reducible refine Q.drew ?_) | (with_reducible refine Q.call ?_ (by with_reducible assumption)))))⟩
  all_goals first | (simp [S_l09Declination, *]; done) | (simp [S_l09Declination, *]; omega) | (simp [S_l09Declination, *]; simp (disch := omega) only [if_pos, if_neg]; done) | (simp_all [S_l09Declination]; done) | (simp_all [S_l09Declination]; omega)

theorem c_S_l09Minute (m : Int) (w : World)  : Calls Try.prog 83 #[.int .i64 m] w fun e w' => e = .returned (.bool ((S_l09Minute m))) ∧ w = w' := by
  have hw64 := wrapRule
  go_enter Try.func83, Try.ntmps83
  go_wp2_with (first | (go_at_call 115; refine (c_S_l01In _ _ _ _ ).mono ?_; rintro e w1 ⟨rfl, rfl⟩))
  all_goals go_ret
  all_goals refine ⟨?_, rfl⟩
  all_goals first | (simp [S_l09Minute, *]; done) | (simp [S_l09Minute, *]; omega) | (simp [S_l09Minute, *]; simp (disch := omega) only [if_pos, if_neg]; done) | (simp_all [S_l09Minute]; done) | (simp_all [S_l09Minute]; omega)

set_option maxHeartbeats 1000000 in
theorem c_S_l02Hull (a_Low : Int) (a_High : Int) (b_Low : Int) (b_High : Int) (w : World)  : Calls Try.prog 149 #[.agg #[.int .i64 a_Low, .int .i64 a_High], .agg #[.int .i64 b_Low, .int .i64 b_High]] w fun e w' => e = .returned (.agg #[.int .i64 ((S_l02Hull (⟨a_Low, a_High⟩ : Interval) (⟨b_Low, b_High⟩ : Interval)).Low), .int .i64 ((S_l02Hull (⟨a_Low, a_High⟩ : Interval) (⟨b_Low, b_High⟩ : Interval)).High)]) ∧ Q w w' := by
  have hset := setRule
  have hall := allocRule
  have halm := allocMark
  have hw64 := wrapRule
  have hmax := maxRule
  have hmin := minRule
  go_enter Try.func149, Try.ntmps149
  go_wp2
  all_goals
    refine bodyPost_ret (v := .agg #[.int .i64 ((S_l02Hull (⟨a_Low, a_High⟩ : Interval) (⟨b_Low, b_High⟩ : Interval)).Low), .int .i64 ((S_l02Hull (⟨a_Low, a_High⟩ : Interval) (⟨b_Low, b_High⟩ : Interval)).High)]) ?_ rfl ⟨rfl, ?_⟩
    · first | (simp [results, Try.results149, go_sem, S_l02Hull, *]; done) | (simp [results, Try.results149, go_sem, *]; repeat (simp (disch := omega) only [if_pos, if_neg]; try simp [go_sem, S_l02Hull, *]))
    · (repeat (first | (with_reducible exact Q.refl _) | (with_reducible assumption) | (with_reducible refine Q.setCell ?_ (by dsimp only; omega) _) | (with_reducible refine Q.alloc ?_ _) | (with_reducible refine Q.drew ?_) | (with_reducible refine Q.call ?_ (by with_reducible assumption))))

set_option maxHeartbeats 1000000 in
theorem c_S_l04Range (a_Low : Int) (a_High : Int) (w : World)  : Calls Try.prog 127 #[.agg #[.int .i64 a_Low, .int .i64 a_High]] w fun e w' => e = .returned (.agg #[.int .i64 ((S_l04Range (⟨a_Low, a_High⟩ : Interval)).Low), .int .i64 ((S_l04Range (⟨a_Low, a_High⟩ : Interval)).High)]) ∧ Q w w' := by
  have hset := setRule
  have hall := allocRule
  have halm := allocMark
  have hw64 := wrapRule
  go_enter Try.func127, Try.ntmps127
  go_wp2_with (first | (go_at_call 149; refine (c_S_l02Hull _ _ _ _ _ ).mono ?_; rintro e w1 ⟨rfl, hq⟩; obtain ⟨hc, hf⟩ := hq.rules; have hs := hq.le; try simp at hs) | (go_at_call 120; refine (c_S_l04Sin _ _ ).mono ?_; rintro e w1 ⟨rfl, hq⟩; obtain ⟨hc, hf⟩ := hq.rules; have hs := hq.le; try simp at hs) | (go_at_call 160; refine (c_S_l03Plain _ _ ).mono ?_; rintro e w1 ⟨rfl, rfl⟩))
  all_goals try (
    refine region_new1 (id := 1) 7 (.cells #[.int .i64 0, .int .i64 0] 32) 3 (by kernel_rfl) (by kernel_rfl) (fun d _ _ _ _ h => by cases d <;> exact h) rfl (by intro i o h1 h2 ho; obtain rfl : i = 7 := (by omega); obtain rfl := Option.some.inj (show some _ = some o from ho); exact ⟨fun _ => rfl, fun a w => by simp [go_sem, ptr]⟩) ?_
    simp only [List.take_succ_cons, List.take_zero, List.drop_succ_cons, List.drop_zero]
    first | (apply f_step rfl (by kernel_rfl); (intro x wq hx; have hr := Q.rules hx.q; have hcq := hr.1; have hfq := hr.2; clear hr; have hsq := Q.le hx.q; (try simp at hsq); go_simp; (repeat (simp (disch := omega) only [if_pos, if_neg]; try go_simp)); (first | rfl | exact ⟨rfl, rfl⟩ | (go_at_call 149; exact fam_grow hx (c_S_l02Hull _ _ _ _ _ )) | (go_at_call 120; exact fam_grow hx (c_S_l04Sin _ _ )) | (go_at_call 160; exact fam_same hx (c_S_l03Plain _ _ )))); try go_simp) | (apply f_skip rfl; try go_simp)
    first | (apply f_step rfl (by kernel_rfl); (intro x wq hx; have hr := Q.rules hx.q; have hcq := hr.1; have hfq := hr.2; clear hr; have hsq := Q.le hx.q; (try simp at hsq); go_simp; (repeat (simp (disch := omega) only [if_pos, if_neg]; try go_simp)); (first | rfl | exact ⟨rfl, rfl⟩ | (go_at_call 149; exact fam_grow hx (c_S_l02Hull _ _ _ _ _ )) | (go_at_call 120; exact fam_grow hx (c_S_l04Sin _ _ )) | (go_at_call 160; exact fam_same hx (c_S_l03Plain _ _ )))); try go_simp) | (apply f_skip rfl; try go_simp)
    first | (apply f_step rfl (by kernel_rfl); (intro x wq hx; have hr := Q.rules hx.q; have hcq := hr.1; have hfq := hr.2; clear hr; have hsq := Q.le hx.q; (try simp at hsq); go_simp; (repeat (simp (disch := omega) only [if_pos, if_neg]; try go_simp)); (first | rfl | exact ⟨rfl, rfl⟩ | (go_at_call 149; exact fam_grow hx (c_S_l02Hull _ _ _ _ _ )) | (go_at_call 120; exact fam_grow hx (c_S_l04Sin _ _ )) | (go_at_call 160; exact fam_same hx (c_S_l03Plain _ _ )))); try go_simp) | (apply f_skip rfl; try go_simp)
    first | (apply f_step rfl (by kernel_rfl); (intro x wq hx; have hr := Q.rules hx.q; have hcq := hr.1; have hfq := hr.2; clear hr; have hsq := Q.le hx.q; (try simp at hsq); go_simp; (repeat (simp (disch := omega) only [if_pos, if_neg]; try go_simp)); (first | rfl | exact ⟨rfl, rfl⟩ | (go_at_call 149; exact fam_grow hx (c_S_l02Hull _ _ _ _ _ )) | (go_at_call 120; exact fam_grow hx (c_S_l04Sin _ _ )) | (go_at_call 160; exact fam_same hx (c_S_l03Plain _ _ )))); try go_simp) | (apply f_skip rfl; try go_simp)
    first | (apply f_step rfl (by kernel_rfl); (intro x wq hx; have hr := Q.rules hx.q; have hcq := hr.1; have hfq := hr.2; clear hr; have hsq := Q.le hx.q; (try simp at hsq); go_simp; (repeat (simp (disch := omega) only [if_pos, if_neg]; try go_simp)); (first | rfl | exact ⟨rfl, rfl⟩ | (go_at_call 149; exact fam_grow hx (c_S_l02Hull _ _ _ _ _ )) | (go_at_call 120; exact fam_grow hx (c_S_l04Sin _ _ )) | (go_at_call 160; exact fam_same hx (c_S_l03Plain _ _ )))); try go_simp) | (apply f_skip rfl; try go_simp)
    first | (apply f_step rfl (by kernel_rfl); (intro x wq hx; have hr := Q.rules hx.q; have hcq := hr.1; have hfq := hr.2; clear hr; have hsq := Q.le hx.q; (try simp at hsq); go_simp; (repeat (simp (disch := omega) only [if_pos, if_neg]; try go_simp)); (first | rfl | exact ⟨rfl, rfl⟩ | (go_at_call 149; exact fam_grow hx (c_S_l02Hull _ _ _ _ _ )) | (go_at_call 120; exact fam_grow hx (c_S_l04Sin _ _ )) | (go_at_call 160; exact fam_same hx (c_S_l03Plain _ _ )))); try go_simp) | (apply f_skip rfl; try go_simp)
    first | (apply f_step rfl (by kernel_rfl); (intro x wq hx; have hr := Q.rules hx.q; have hcq := hr.1; have hfq := hr.2; clear hr; have hsq := Q.le hx.q; (try simp at hsq); go_simp; (repeat (simp (disch := omega) only [if_pos, if_neg]; try go_simp)); (first | rfl | exact ⟨rfl, rfl⟩ | (go_at_call 149; exact fam_grow hx (c_S_l02Hull _ _ _ _ _ )) | (go_at_call 120; exact fam_grow hx (c_S_l04Sin _ _ )) | (go_at_call 160; exact fam_same hx (c_S_l03Plain _ _ )))); try go_simp) | (apply f_skip rfl; try go_simp)
    refine f_nil ?_
    intro b w1 hx
    have hq := hx.q; have hn1 := hx.cells; have hn2 := hx.newCells; obtain ⟨hb1, hb2, hb3, hb4⟩ := hn1; obtain ⟨hb5, hb6⟩ := hn2; clear hx; try simp at hb1
    have hr := Q.rules hq; have hc := hr.1; have hf := hr.2; clear hr; have hs := Q.le hq; try simp at hs
    try go_simp)
  all_goals try go_wp2_with (first | (go_at_call 149; refine (c_S_l02Hull _ _ _ _ _ ).mono ?_; rintro e w1 ⟨rfl, hq⟩; obtain ⟨hc, hf⟩ := hq.rules; have hs := hq.le; try simp at hs) | (go_at_call 120; refine (c_S_l04Sin _ _ ).mono ?_; rintro e w1 ⟨rfl, hq⟩; obtain ⟨hc, hf⟩ := hq.rules; have hs := hq.le; try simp at hs) | (go_at_call 160; refine (c_S_l03Plain _ _ ).mono ?_; rintro e w1 ⟨rfl, rfl⟩))
  all_goals try (
    refine region_Q_all (id := 2) (by kernel_rfl) (by kernel_rfl) ?_
    repeat (first | (apply q_step rfl; (intro wq hq; have hr := Q.rules hq; have hcq := hr.1; have hfq := hr.2; clear hr; have hsq := Q.le hq; (try simp at hsq); go_simp; (repeat (simp (disch := omega) only [if_pos, if_neg]; try go_simp)); (first | rfl | exact ⟨rfl, rfl⟩ | (go_at_call 149; exact quiet_grow hq (c_S_l02Hull _ _ _ _ _ )) | (go_at_call 120; exact quiet_grow hq (c_S_l04Sin _ _ )) | (go_at_call 160; exact quiet_same hq (c_S_l03Plain _ _ )))); try go_simp) | (apply q_skip rfl; try go_simp))
    refine wpQuiet_nil ?_
    intro w1 hq
    have hr := Q.rules hq; have hc := hr.1; have hf := hr.2; clear hr; have hs := Q.le hq; try simp at hs)
  all_goals try go_wp2_with (first | (go_at_call 149; refine (c_S_l02Hull _ _ _ _ _ ).mono ?_; rintro e w1 ⟨rfl, hq⟩; obtain ⟨hc, hf⟩ := hq.rules; have hs := hq.le; try simp at hs) | (go_at_call 120; refine (c_S_l04Sin _ _ ).mono ?_; rintro e w1 ⟨rfl, hq⟩; obtain ⟨hc, hf⟩ := hq.rules; have hs := hq.le; try simp at hs) | (go_at_call 160; refine (c_S_l03Plain _ _ ).mono ?_; rintro e w1 ⟨rfl, rfl⟩))
  all_goals try (
    refine region_Q_all (id := 4) (by kernel_rfl) (by kernel_rfl) ?_
    repeat (first | (apply q_step rfl; (intro wq hq; have hr := Q.rules hq; have hcq := hr.1; have hfq := hr.2; clear hr; have hsq := Q.le hq; (try simp at hsq); go_simp; (repeat (simp (disch := omega) only [if_pos, if_neg]; try go_simp)); (first | rfl | exact ⟨rfl, rfl⟩ | (go_at_call 149; exact quiet_grow hq (c_S_l02Hull _ _ _ _ _ )) | (go_at_call 120; exact quiet_grow hq (c_S_l04Sin _ _ )) | (go_at_call 160; exact quiet_same hq (c_S_l03Plain _ _ )))); try go_simp) | (apply q_skip rfl; try go_simp))
    refine wpQuiet_nil ?_
    intro w1 hq
    have hr := Q.rules hq; have hc := hr.1; have hf := hr.2; clear hr; have hs := Q.le hq; try simp at hs)
  all_goals try go_wp2_with (first | (go_at_call 149; refine (c_S_l02Hull _ _ _ _ _ ).mono ?_; rintro e w1 ⟨rfl, hq⟩; obtain ⟨hc, hf⟩ := hq.rules; have hs := hq.le; try simp at hs) | (go_at_call 120; refine (c_S_l04Sin _ _ ).mono ?_; rintro e w1 ⟨rfl, hq⟩; obtain ⟨hc, hf⟩ := hq.rules; have hs := hq.le; try simp at hs) | (go_at_call 160; refine (c_S_l03Plain _ _ ).mono ?_; rintro e w1 ⟨rfl, rfl⟩))
  all_goals
    refine bodyPost_ret (v := .agg #[.int .i64 ((S_l04Range (⟨a_Low, a_High⟩ : Interval)).Low), .int .i64 ((S_l04Range (⟨a_Low, a_High⟩ : Interval)).High)]) ?_ rfl ⟨rfl, ?_⟩
    · first | (simp [results, Try.results127, go_sem, S_l04Range, *]; done) | (simp [results, Try.results127, go_sem, *]; repeat (simp (disch := omega) only [if_pos, if_neg]; try simp [go_sem, S_l04Range, *]))
    · (repeat (first | (with_reducible exact Q.refl _) | (with_reducible assumption) | (with_reducible refine Q.setCell ?_ (by dsimp only; omega) _) | (with_reducible refine Q.alloc ?_ _) | (with_reducible refine Q.drew ?_) | (with_reducible refine Q.call ?_ (by with_reducible assumption))))

theorem c_S_l09Hour (m : Int) (w : World)  : Calls Try.prog 128 #[.int .i64 m] w fun e w' => e = .returned (.int .i64 ((S_l09Hour m))) ∧ w = w' := by
  have hw64 := wrapRule
  go_enter Try.func128, Try.ntmps128
  go_wp2
  all_goals go_ret
  all_goals refine ⟨?_, rfl⟩
  all_goals first | (simp [S_l09Hour, *]; done) | (simp [S_l09Hour, *]; omega) | (simp [S_l09Hour, *]; simp (disch := omega) only [if_pos, if_neg]; done) | (simp_all [S_l09Hour]; done) | (simp_all [S_l09Hour]; omega)

set_option maxHeartbeats 1000000 in
theorem c_S_l02Sub (a_Low : Int) (a_High : Int) (b_Low : Int) (b_High : Int) (w : World)  : Calls Try.prog 129 #[.agg #[.int .i64 a_Low, .int .i64 a_High], .agg #[.int .i64 b_Low, .int .i64 b_High]] w fun e w' => e = .returned (.agg #[.int .i64 ((S_l02Sub (⟨a_Low, a_High⟩ : Interval) (⟨b_Low, b_High⟩ : Interval)).Low), .int .i64 ((S_l02Sub (⟨a_Low, a_High⟩ : Interval) (⟨b_Low, b_High⟩ : Interval)).High)]) ∧ Q w w' := by
  have hset := setRule
  have hall := allocRule
  have halm := allocMark
  have hw64 := wrapRule
  go_enter Try.func129, Try.ntmps129
  go_wp2
  all_goals
    refine bodyPost_ret (v := .agg #[.int .i64 ((S_l02Sub (⟨a_Low, a_High⟩ : Interval) (⟨b_Low, b_High⟩ : Interval)).Low), .int .i64 ((S_l02Sub (⟨a_Low, a_High⟩ : Interval) (⟨b_Low, b_High⟩ : Interval)).High)]) ?_ rfl ⟨rfl, ?_⟩
    · first | (simp [results, Try.results129, go_sem, S_l02Sub, *]; done) | (simp [results, Try.results129, go_sem, *]; repeat (simp (disch := omega) only [if_pos, if_neg]; try simp [go_sem, S_l02Sub, *]))
    · (repeat (first | (with_reducible exact Q.refl _) | (with_reducible assumption) | (with_reducible refine Q.setCell ?_ (by dsimp only; omega) _) | (with_reducible refine Q.alloc ?_ _) | (with_reducible refine Q.drew ?_) | (with_reducible refine Q.call ?_ (by with_reducible assumption))))

set_option maxHeartbeats 1000000 in
theorem c_S_l09Sun (latitude : Int) (declination_Low : Int) (declination_High : Int) (minute : Int) (w : World)  : Calls Try.prog 84 #[.int .i64 latitude, .agg #[.int .i64 declination_Low, .int .i64 declination_High], .int .i64 minute] w fun e w' => e = .returned (.agg #[.int .i64 ((S_l09Sun latitude (⟨declination_Low, declination_High⟩ : Interval) minute).X.Low), .int .i64 ((S_l09Sun latitude (⟨declination_Low, declination_High⟩ : Interval) minute).X.High), .int .i64 ((S_l09Sun latitude (⟨declination_Low, declination_High⟩ : Interval) minute).Y.Low), .int .i64 ((S_l09Sun latitude (⟨declination_Low, declination_High⟩ : Interval) minute).Y.High), .int .i64 ((S_l09Sun latitude (⟨declination_Low, declination_High⟩ : Interval) minute).Z.Low), .int .i64 ((S_l09Sun latitude (⟨declination_Low, declination_High⟩ : Interval) minute).Z.High)]) ∧ Q w w' := by
  have hset := setRule
  have hall := allocRule
  have halm := allocMark
  have hw64 := wrapRule
  have hmax := maxRule
  have hmin := minRule
  go_enter Try.func84, Try.ntmps84
  go_wp2_with (first | (go_at_call 127; refine (c_S_l04Range _ _ _ ).mono ?_; rintro e w1 ⟨rfl, hq⟩; obtain ⟨hc, hf⟩ := hq.rules; have hs := hq.le; try simp at hs) | (go_at_call 120; refine (c_S_l04Sin _ _ ).mono ?_; rintro e w1 ⟨rfl, hq⟩; obtain ⟨hc, hf⟩ := hq.rules; have hs := hq.le; try simp at hs) | (go_at_call 128; refine (c_S_l09Hour _ _ ).mono ?_; rintro e w1 ⟨rfl, rfl⟩) | (go_at_call 119; refine (c_S_l04Cos _ _ ).mono ?_; rintro e w1 ⟨rfl, hq⟩; obtain ⟨hc, hf⟩ := hq.rules; have hs := hq.le; try simp at hs) | (go_at_call 118; refine (c_S_l02Mul _ _ _ _ _ ).mono ?_; rintro e w1 ⟨rfl, hq⟩; obtain ⟨hc, hf⟩ := hq.rules; have hs := hq.le; try simp at hs) | (go_at_call 129; refine (c_S_l02Sub _ _ _ _ _ ).mono ?_; rintro e w1 ⟨rfl, hq⟩; obtain ⟨hc, hf⟩ := hq.rules; have hs := hq.le; try simp at hs) | (go_at_call 117; refine (c_S_l02Add _ _ _ _ _ ).mono ?_; rintro e w1 ⟨rfl, hq⟩; obtain ⟨hc, hf⟩ := hq.rules; have hs := hq.le; try simp at hs))
  all_goals try (
    refine region_Q (id := 6) 20 (by kernel_rfl) (by kernel_rfl) ?_
    simp only [List.take_succ_cons, List.take_zero, List.drop_succ_cons, List.drop_zero]
    repeat (first | (apply q_step rfl; (intro wq hq; have hr := Q.rules hq; have hcq := hr.1; have hfq := hr.2; clear hr; have hsq := Q.le hq; (try simp at hsq); go_simp; (repeat (simp (disch := omega) only [if_pos, if_neg]; try go_simp)); (first | rfl | exact ⟨rfl, rfl⟩ | (go_at_call 127; exact quiet_grow hq (c_S_l04Range _ _ _ )) | (go_at_call 120; exact quiet_grow hq (c_S_l04Sin _ _ )) | (go_at_call 128; exact quiet_same hq (c_S_l09Hour _ _ )) | (go_at_call 119; exact quiet_grow hq (c_S_l04Cos _ _ )) | (go_at_call 118; exact quiet_grow hq (c_S_l02Mul _ _ _ _ _ )) | (go_at_call 129; exact quiet_grow hq (c_S_l02Sub _ _ _ _ _ )) | (go_at_call 117; exact quiet_grow hq (c_S_l02Add _ _ _ _ _ )))); try go_simp) | (apply q_skip rfl; try go_simp))
    refine wpQuiet_nil ?_
    intro w1 hq
    have hr := Q.rules hq; have hc := hr.1; have hf := hr.2; clear hr; have hs := Q.le hq; try simp at hs)
  all_goals try go_wp2_with (first | (go_at_call 127; refine (c_S_l04Range _ _ _ ).mono ?_; rintro e w1 ⟨rfl, hq⟩; obtain ⟨hc, hf⟩ := hq.rules; have hs := hq.le; try simp at hs) | (go_at_call 120; refine (c_S_l04Sin _ _ ).mono ?_; rintro e w1 ⟨rfl, hq⟩; obtain ⟨hc, hf⟩ := hq.rules; have hs := hq.le; try simp at hs) | (go_at_call 128; refine (c_S_l09Hour _ _ ).mono ?_; rintro e w1 ⟨rfl, rfl⟩) | (go_at_call 119; refine (c_S_l04Cos _ _ ).mono ?_; rintro e w1 ⟨rfl, hq⟩; obtain ⟨hc, hf⟩ := hq.rules; have hs := hq.le; try simp at hs) | (go_at_call 118; refine (c_S_l02Mul _ _ _ _ _ ).mono ?_; rintro e w1 ⟨rfl, hq⟩; obtain ⟨hc, hf⟩ := hq.rules; have hs := hq.le; try simp at hs) | (go_at_call 129; refine (c_S_l02Sub _ _ _ _ _ ).mono ?_; rintro e w1 ⟨rfl, hq⟩; obtain ⟨hc, hf⟩ := hq.rules; have hs := hq.le; try simp at hs) | (go_at_call 117; refine (c_S_l02Add _ _ _ _ _ ).mono ?_; rintro e w1 ⟨rfl, hq⟩; obtain ⟨hc, hf⟩ := hq.rules; have hs := hq.le; try simp at hs))
  all_goals
    refine bodyPost_ret (v := .agg #[.int .i64 ((S_l09Sun latitude (⟨declination_Low, declination_High⟩ : Interval) minute).X.Low), .int .i64 ((S_l09Sun latitude (⟨declination_Low, declination_High⟩ : Interval) minute).X.High), .int .i64 ((S_l09Sun latitude (⟨declination_Low, declination_High⟩ : Interval) minute).Y.Low), .int .i64 ((S_l09Sun latitude (⟨declination_Low, declination_High⟩ : Interval) minute).Y.High), .int .i64 ((S_l09Sun latitude (⟨declination_Low, declination_High⟩ : Interval) minute).Z.Low), .int .i64 ((S_l09Sun latitude (⟨declination_Low, declination_High⟩ : Interval) minute).Z.High)]) ?_ rfl ⟨rfl, ?_⟩
    · first | (simp [results, Try.results84, go_sem, S_l09Sun, *]; done) | (simp [results, Try.results84, go_sem, *]; repeat (simp (disch := omega) only [if_pos, if_neg]; try simp [go_sem, S_l09Sun, *]))
    · (repeat (first | (with_reducible exact Q.refl _) | (with_reducible assumption) | (with_reducible refine Q.setCell ?_ (by dsimp only; omega) _) | (with_reducible refine Q.alloc ?_ _) | (with_reducible refine Q.drew ?_) | (with_reducible refine Q.call ?_ (by with_reducible assumption))))

set_option maxHeartbeats 1000000 in
theorem c_S_SunDirection (latitude : Int) (declination_Low : Int) (declination_High : Int) (minute : Int) (w : World)  : Calls Try.prog 29 #[.int .i64 latitude, .agg #[.int .i64 declination_Low, .int .i64 declination_High], .int .i64 minute] w fun e w' => e = .returned (.tuple #[.agg #[.int .i64 ((S_SunDirection latitude (⟨declination_Low, declination_High⟩ : Interval) minute).1.X.Low), .int .i64 ((S_SunDirection latitude (⟨declination_Low, declination_High⟩ : Interval) minute).1.X.High), .int .i64 ((S_SunDirection latitude (⟨declination_Low, declination_High⟩ : Interval) minute).1.Y.Low), .int .i64 ((S_SunDirection latitude (⟨declination_Low, declination_High⟩ : Interval) minute).1.Y.High), .int .i64 ((S_SunDirection latitude (⟨declination_Low, declination_High⟩ : Interval) minute).1.Z.Low), .int .i64 ((S_SunDirection latitude (⟨declination_Low, declination_High⟩ : Interval) minute).1.Z.High)], .int .i64 ((S_SunDirection latitude (⟨declination_Low, declination_High⟩ : Interval) minute).2)]) ∧ Q w w' := by
  have hset := setRule
  have hall := allocRule
  have halm := allocMark
  have hw64 := wrapRule
  have hmax := maxRule
  have hmin := minRule
  go_enter Try.func29, Try.ntmps29
  go_wp2_with (first | (go_at_call 82; refine (c_S_l09Declination _ _ _ ).mono ?_; rintro e w1 ⟨rfl, hq⟩; obtain ⟨hc, hf⟩ := hq.rules; have hs := hq.le; try simp at hs) | (go_at_call 73; refine (c_S_l09Latitude _ _ ).mono ?_; rintro e w1 ⟨rfl, rfl⟩) | (go_at_call 83; refine (c_S_l09Minute _ _ ).mono ?_; rintro e w1 ⟨rfl, rfl⟩) | (go_at_call 84; refine (c_S_l09Sun _ _ _ _ _ ).mono ?_; rintro e w1 ⟨rfl, hq⟩; obtain ⟨hc, hf⟩ := hq.rules; have hs := hq.le; try simp at hs))
  all_goals
    refine bodyPost_ret (v := .tuple #[.agg #[.int .i64 ((S_SunDirection latitude (⟨declination_Low, declination_High⟩ : Interval) minute).1.X.Low), .int .i64 ((S_SunDirection latitude (⟨declination_Low, declination_High⟩ : Interval) minute).1.X.High), .int .i64 ((S_SunDirection latitude (⟨declination_Low, declination_High⟩ : Interval) minute).1.Y.Low), .int .i64 ((S_SunDirection latitude (⟨declination_Low, declination_High⟩ : Interval) minute).1.Y.High), .int .i64 ((S_SunDirection latitude (⟨declination_Low, declination_High⟩ : Interval) minute).1.Z.Low), .int .i64 ((S_SunDirection latitude (⟨declination_Low, declination_High⟩ : Interval) minute).1.Z.High)], .int .i64 ((S_SunDirection latitude (⟨declination_Low, declination_High⟩ : Interval) minute).2)]) ?_ rfl ⟨rfl, ?_⟩
    · first | (simp [results, Try.results29, go_sem, S_SunDirection, *]; done) | (simp [results, Try.results29, go_sem, *]; repeat (simp (disch := omega) only [if_pos, if_neg]; try simp [go_sem, S_SunDirection, *]))
    · (repeat (first | (with_reducible exact Q.refl _) | (with_reducible assumption) | (with_reducible refine Q.setCell ?_ (by dsimp only; omega) _) | (with_reducible refine Q.alloc ?_ _) | (with_reducible refine Q.drew ?_) | (with_reducible refine Q.call ?_ (by with_reducible assumption))))

theorem c_I_isDeclination (d_Low : Int) (d_High : Int) (w : World)  : Calls Try.prog 85 #[.agg #[.int .i64 d_Low, .int .i64 d_High]] w fun e w' => e = .returned (.bool ((I_isDeclination (⟨d_Low, d_High⟩ : Interval)))) ∧ Q w w' := by
  have hset := setRule
  have hall := allocRule
  have halm := allocMark
  have hw64 := wrapRule
  go_enter Try.func85, Try.ntmps85
  go_wp2_with (first | (go_at_call 130; refine (c_I_IsInterval _ _ _ ).mono ?_; rintro e w1 ⟨rfl, hq⟩; obtain ⟨hc, hf⟩ := hq.rules; have hs := hq.le; try simp at hs) | (go_at_call 131; refine (c_I_Interval_within _ _ _ _ ).mono ?_; rintro e w1 ⟨rfl, hq⟩; obtain ⟨hc, hf⟩ := hq.rules; have hs := hq.le; try simp at hs))
  all_goals go_ret
  all_goals refine ⟨?_, (by (repeat (first | (with_reducible exact Q.refl _) | (with_reducible assumption) | (with_reducible refine Q.setCell ?_ (by dsimp only; omega) _) | (with_reducible refine Q.alloc ?_ _) | (with_reducible refine Q.drew ?_) | (with_reducible refine Q.call ?_ (by with_reducible assumption)))))⟩
  all_goals first | (simp [I_isDeclination, *]; done) | (simp [I_isDeclination, *]; omega) | (simp [I_isDeclination, *]; simp (disch := omega) only [if_pos, if_neg]; done) | (simp_all [I_isDeclination]; done) | (simp_all [I_isDeclination]; omega)

theorem c_I_isMinute (m : Int) (w : World)  : Calls Try.prog 86 #[.int .i64 m] w fun e w' => e = .returned (.bool ((I_isMinute m))) ∧ w = w' := by
  have hw64 := wrapRule
  go_enter Try.func86, Try.ntmps86
  go_wp2_with (first | (go_at_call 121; refine (c_I_in _ _ _ _ ).mono ?_; rintro e w1 ⟨rfl, rfl⟩))
  all_goals go_ret
  all_goals refine ⟨?_, rfl⟩
  all_goals first | (simp [I_isMinute, *]; done) | (simp [I_isMinute, *]; omega) | (simp [I_isMinute, *]; simp (disch := omega) only [if_pos, if_neg]; done) | (simp_all [I_isMinute]; done) | (simp_all [I_isMinute]; omega)

set_option maxHeartbeats 1000000 in
theorem c_I_Interval_hull (a_Low : Int) (a_High : Int) (b_Low : Int) (b_High : Int) (w : World)  : Calls Try.prog 150 #[.agg #[.int .i64 a_Low, .int .i64 a_High], .agg #[.int .i64 b_Low, .int .i64 b_High]] w fun e w' => e = .returned (.agg #[.int .i64 ((I_Interval_hull (⟨a_Low, a_High⟩ : Interval) (⟨b_Low, b_High⟩ : Interval)).Low), .int .i64 ((I_Interval_hull (⟨a_Low, a_High⟩ : Interval) (⟨b_Low, b_High⟩ : Interval)).High)]) ∧ Q w w' := by
  have hset := setRule
  have hall := allocRule
  have halm := allocMark
  have hw64 := wrapRule
  have hmax := maxRule
  have hmin := minRule
  go_enter Try.func150, Try.ntmps150
  go_wp2
  all_goals
    refine bodyPost_ret (v := .agg #[.int .i64 ((I_Interval_hull (⟨a_Low, a_High⟩ : Interval) (⟨b_Low, b_High⟩ : Interval)).Low), .int .i64 ((I_Interval_hull (⟨a_Low, a_High⟩ : Interval) (⟨b_Low, b_High⟩ : Interval)).High)]) ?_ rfl ⟨rfl, ?_⟩
    · first | (simp [results, Try.results150, go_sem, I_Interval_hull, *]; done) | (simp [results, Try.results150, go_sem, *]; repeat (simp (disch := omega) only [if_pos, if_neg]; try simp [go_sem, I_Interval_hull, *]))
    · (repeat (first | (with_reducible exact Q.refl _) | (with_reducible assumption) | (with_reducible refine Q.setCell ?_ (by dsimp only; omega) _) | (with_reducible refine Q.alloc ?_ _) | (with_reducible refine Q.drew ?_) | (with_reducible refine Q.call ?_ (by with_reducible assumption))))

end Go.Proofs.Ythooejkmccdfjaa
