/- Contracts of Go functions of the plain fragment, with their walks; printed by a program of the author's own. -/
import Derived.Test.YthooejkmccdfjaaRows
import Derived.Test.YthooejkmccdfjaaDefs
import Derived.Test.YthooejkmccdfjaaC2
import Derived.Test.YthooejkmccdfjaaFresh
import Derived.Test.YthooejkmccdfjaaM2
import Derived.WalkKit
import Derived.ProofKit
import Derived.OpenShut
import Derived.WalkLawsBesides
import Derived.BigQuiet
import Derived.Deep.QuietTactic
import Derived.Deep.LoopGhost
import Derived.LoopN
import Derived.Deep.RegionWith
import Derived.Test.YthooejkmccdfjaaOwn
namespace Go.Proofs.Ythooejkmccdfjaa
open Go.ChangeShapes Go.WideShapes Go.ChangeAt Go.RowKit
set_option linter.unusedVariables false
set_option linter.unusedSimpArgs false
set_option maxHeartbeats 1000000 in
theorem c_I_sine (a : Int) (w : World)  : Calls Try.prog 124 #[.int .i64 a] w fun e w' => e = .returned (.agg #[.int .i64 ((I_sine a).Low), .int .i64 ((I_sine a).High)]) ∧ Q w w' := by
  have hset := setRule
  have hall := allocRule
  have halm := allocMark
  have hw64 := wrapRule
  go_enter Try.func124, Try.ntmps124
  go_wp2_with (first | (go_at_call 156; refine (c_I_nanoSine _ _ ).mono ?_; rintro e w1 ⟨rfl, rfl⟩) | (go_at_call 157; refine (c_I_floor _ _ _ (by first | assumption | decide | omega | (unfold wrap64; omega))).mono ?_; rintro e w1 ⟨rfl, rfl⟩) | (go_at_call 158; refine (c_I_ceil _ _ _ (by first | assumption | decide | omega | (unfold wrap64; omega))).mono ?_; rintro e w1 ⟨rfl, rfl⟩))
  all_goals
    refine bodyPost_ret (v := .agg #[.int .i64 ((I_sine a).Low), .int .i64 ((I_sine a).High)]) ?_ rfl ⟨rfl, ?_⟩
    · first | (simp [results, Try.results124, go_sem, I_sine, *]; done) | (simp [results, Try.results124, go_sem, *]; repeat (simp (disch := omega) only [if_pos, if_neg]; try simp [go_sem, I_sine, *]))
    · (repeat (first | (with_reducible exact Q.refl _) | (with_reducible assumption) | (with_reducible refine Q.setCell ?_ (by dsimp only; omega) _) | (with_reducible refine Q.alloc ?_ _) | (with_reducible refine Q.drew ?_) | (with_reducible refine Q.call ?_ (by with_reducible assumption))))

set_option maxHeartbeats 1000000 in
theorem c_I_cosine (a : Int) (w : World)  : Calls Try.prog 123 #[.int .i64 a] w fun e w' => e = .returned (.agg #[.int .i64 ((I_cosine a).Low), .int .i64 ((I_cosine a).High)]) ∧ Q w w' := by
  have hset := setRule
  have hall := allocRule
  have halm := allocMark
  have hw64 := wrapRule
  go_enter Try.func123, Try.ntmps123
  go_wp2_with (first | (go_at_call 124; refine (c_I_sine _ _ ).mono ?_; rintro e w1 ⟨rfl, hq⟩; obtain ⟨hc, hf⟩ := hq.rules; have hs := hq.le; try simp at hs))
  all_goals
    refine bodyPost_ret (v := .agg #[.int .i64 ((I_cosine a).Low), .int .i64 ((I_cosine a).High)]) ?_ rfl ⟨rfl, ?_⟩
    · first | (simp [results, Try.results123, go_sem, I_cosine, *]; done) | (simp [results, Try.results123, go_sem, *]; repeat (simp (disch := omega) only [if_pos, if_neg]; try simp [go_sem, I_cosine, *]))
    · (repeat (first | (with_reducible exact Q.refl _) | (with_reducible assumption) | (with_reducible refine Q.setCell ?_ (by dsimp only; omega) _) | (with_reducible refine Q.alloc ?_ _) | (with_reducible refine Q.drew ?_) | (with_reducible refine Q.call ?_ (by with_reducible assumption))))

set_option maxHeartbeats 1000000 in
theorem c_I_Interval_times (a_Low : Int) (a_High : Int) (b_Low : Int) (b_High : Int) (w : World)  : Calls Try.prog 125 #[.agg #[.int .i64 a_Low, .int .i64 a_High], .agg #[.int .i64 b_Low, .int .i64 b_High]] w fun e w' => e = .returned (.agg #[.int .i64 ((I_Interval_times (⟨a_Low, a_High⟩ : Interval) (⟨b_Low, b_High⟩ : Interval)).Low), .int .i64 ((I_Interval_times (⟨a_Low, a_High⟩ : Interval) (⟨b_Low, b_High⟩ : Interval)).High)]) ∧ Q w w' := by
  have hset := setRule
  have hall := allocRule
  have halm := allocMark
  have hw64 := wrapRule
  have hmax := maxRule
  have hmin := minRule
  have hmax4 := @max4 Try.prog
  have hmin4 := @min4 Try.prog
  go_enter Try.func125, Try.ntmps125
  go_wp2_with (first | (go_at_call 157; refine (c_I_floor _ _ _ (by first | assumption | decide | omega | (unfold wrap64; omega))).mono ?_; rintro e w1 ⟨rfl, rfl⟩) | (go_at_call 158; refine (c_I_ceil _ _ _ (by first | assumption | decide | omega | (unfold wrap64; omega))).mono ?_; rintro e w1 ⟨rfl, rfl⟩))
  all_goals try (
    refine region_Q_all (id := 1) (by kernel_rfl) (by kernel_rfl) ?_
    repeat (first | (apply q_step rfl; (intro wq hq; have hr := Q.rules hq; have hcq := hr.1; have hfq := hr.2; clear hr; have hsq := Q.le hq; (try simp at hsq); go_simp; (repeat (simp (disch := omega) only [if_pos, if_neg]; try go_simp)); (first | rfl | exact ⟨rfl, rfl⟩ | (go_at_call 157; exact quiet_same hq (c_I_floor _ _ _ (by first | assumption | decide | omega | (unfold wrap64; omega)))) | (go_at_call 158; exact quiet_same hq (c_I_ceil _ _ _ (by first | assumption | decide | omega | (unfold wrap64; omega)))))); try go_simp) | (apply q_skip rfl; try go_simp))
    refine wpQuiet_nil ?_
    intro w1 hq
    have hr := Q.rules hq; have hc := hr.1; have hf := hr.2; clear hr; have hs := Q.le hq; try simp at hs)
  all_goals try go_wp2_with (first | (go_at_call 157; refine (c_I_floor _ _ _ (by first | assumption | decide | omega | (unfold wrap64; omega))).mono ?_; rintro e w1 ⟨rfl, rfl⟩) | (go_at_call 158; refine (c_I_ceil _ _ _ (by first | assumption | decide | omega | (unfold wrap64; omega))).mono ?_; rintro e w1 ⟨rfl, rfl⟩))
  all_goals
    refine bodyPost_ret (v := .agg #[.int .i64 ((I_Interval_times (⟨a_Low, a_High⟩ : Interval) (⟨b_Low, b_High⟩ : Interval)).Low), .int .i64 ((I_Interval_times (⟨a_Low, a_High⟩ : Interval) (⟨b_Low, b_High⟩ : Interval)).High)]) ?_ rfl ⟨rfl, ?_⟩
    · first | (simp [results, Try.results125, go_sem, I_Interval_times, *]; done) | (simp [results, Try.results125, go_sem, *]; repeat (simp (disch := omega) only [if_pos, if_neg]; try simp [go_sem, I_Interval_times, *]))
    · (repeat (first | (with_reducible exact Q.refl _) | (with_reducible assumption) | (with_reducible refine Q.setCell ?_ (by dsimp only; omega) _) | (with_reducible refine Q.alloc ?_ _) | (with_reducible refine Q.drew ?_) | (with_reducible refine Q.call ?_ (by with_reducible assumption))))

set_option maxHeartbeats 1000000 in
theorem c_I_direction (azimuth : Int) (altitude : Int) (w : World)  : Calls Try.prog 79 #[.int .i64 azimuth, .int .i64 altitude] w fun e w' => e = .returned (.agg #[.int .i64 ((I_direction azimuth altitude).X.Low), .int .i64 ((I_direction azimuth altitude).X.High), .int .i64 ((I_direction azimuth altitude).Y.Low), .int .i64 ((I_direction azimuth altitude).Y.High), .int .i64 ((I_direction azimuth altitude).Z.Low), .int .i64 ((I_direction azimuth altitude).Z.High)]) ∧ Q w w' := by
  have hset := setRule
  have hall := allocRule
  have halm := allocMark
  have hw64 := wrapRule
  go_enter Try.func79, Try.ntmps79
  go_wp2_with (first | (go_at_call 123; refine (c_I_cosine _ _ ).mono ?_; rintro e w1 ⟨rfl, hq⟩; obtain ⟨hc, hf⟩ := hq.rules; have hs := hq.le; try simp at hs) | (go_at_call 125; refine (c_I_Interval_times _ _ _ _ _ ).mono ?_; rintro e w1 ⟨rfl, hq⟩; obtain ⟨hc, hf⟩ := hq.rules; have hs := hq.le; try simp at hs) | (go_at_call 124; refine (c_I_sine _ _ ).mono ?_; rintro e w1 ⟨rfl, hq⟩; obtain ⟨hc, hf⟩ := hq.rules; have hs := hq.le; try simp at hs))
  all_goals try (
    refine region_Q (id := 2) 11 (by kernel_rfl) (by kernel_rfl) ?_
    simp only [List.take_succ_cons, List.take_zero, List.drop_succ_cons, List.drop_zero]
    repeat (first | (apply q_step rfl; (intro wq hq; have hr := Q.rules hq; have hcq := hr.1; have hfq := hr.2; clear hr; have hsq := Q.le hq; (try simp at hsq); go_simp; (repeat (simp (disch := omega) only [if_pos, if_neg]; try go_simp)); (first | rfl | exact ⟨rfl, rfl⟩ | (go_at_call 123; exact quiet_grow hq (c_I_cosine _ _ )) | (go_at_call 125; exact quiet_grow hq (c_I_Interval_times _ _ _ _ _ )) | (go_at_call 124; exact quiet_grow hq (c_I_sine _ _ )))); try go_simp) | (apply q_skip rfl; try go_simp))
    refine wpQuiet_nil ?_
    intro w1 hq
    have hr := Q.rules hq; have hc := hr.1; have hf := hr.2; clear hr; have hs := Q.le hq; try simp at hs)
  all_goals try go_wp2_with (first | (go_at_call 123; refine (c_I_cosine _ _ ).mono ?_; rintro e w1 ⟨rfl, hq⟩; obtain ⟨hc, hf⟩ := hq.rules; have hs := hq.le; try simp at hs) | (go_at_call 125; refine (c_I_Interval_times _ _ _ _ _ ).mono ?_; rintro e w1 ⟨rfl, hq⟩; obtain ⟨hc, hf⟩ := hq.rules; have hs := hq.le; try simp at hs) | (go_at_call 124; refine (c_I_sine _ _ ).mono ?_; rintro e w1 ⟨rfl, hq⟩; obtain ⟨hc, hf⟩ := hq.rules; have hs := hq.le; try simp at hs))
  all_goals
    refine bodyPost_ret (v := .agg #[.int .i64 ((I_direction azimuth altitude).X.Low), .int .i64 ((I_direction azimuth altitude).X.High), .int .i64 ((I_direction azimuth altitude).Y.Low), .int .i64 ((I_direction azimuth altitude).Y.High), .int .i64 ((I_direction azimuth altitude).Z.Low), .int .i64 ((I_direction azimuth altitude).Z.High)]) ?_ rfl ⟨rfl, ?_⟩
    · first | (simp [results, Try.results79, go_sem, I_direction, *]; done) | (simp [results, Try.results79, go_sem, *]; repeat (simp (disch := omega) only [if_pos, if_neg]; try simp [go_sem, I_direction, *]))
    · (repeat (first | (with_reducible exact Q.refl _) | (with_reducible assumption) | (with_reducible refine Q.setCell ?_ (by dsimp only; omega) _) | (with_reducible refine Q.alloc ?_ _) | (with_reducible refine Q.drew ?_) | (with_reducible refine Q.call ?_ (by with_reducible assumption))))

set_option maxHeartbeats 4000000 in
theorem c_I_Wall_axes (w_Azimuth w_Slope : Int) (w : World) : Calls Try.prog 81 #[.agg #[.int .i64 w_Azimuth, .int .i64 w_Slope]] w fun e w' => ∃ g, e = .returned (.slice (some ⟨g, 0, none⟩) 3 3) ∧ Q w w' ∧ w.heap.size ≤ g ∧ Row w' g [.int .i64 (((I_direction (wrap64 (w_Azimuth - 324000)) 0)).X).Low, .int .i64 (((I_direction (wrap64 (w_Azimuth - 324000)) 0)).X).High, .int .i64 (((I_direction (wrap64 (w_Azimuth - 324000)) 0)).Y).Low, .int .i64 (((I_direction (wrap64 (w_Azimuth - 324000)) 0)).Y).High, .int .i64 (((I_direction (wrap64 (w_Azimuth - 324000)) 0)).Z).Low, .int .i64 (((I_direction (wrap64 (w_Azimuth - 324000)) 0)).Z).High, .int .i64 (((I_direction w_Azimuth (wrap64 (w_Slope + 324000)))).X).Low, .int .i64 (((I_direction w_Azimuth (wrap64 (w_Slope + 324000)))).X).High, .int .i64 (((I_direction w_Azimuth (wrap64 (w_Slope + 324000)))).Y).Low, .int .i64 (((I_direction w_Azimuth (wrap64 (w_Slope + 324000)))).Y).High, .int .i64 (((I_direction w_Azimuth (wrap64 (w_Slope + 324000)))).Z).Low, .int .i64 (((I_direction w_Azimuth (wrap64 (w_Slope + 324000)))).Z).High, .int .i64 (((I_direction w_Azimuth w_Slope)).X).Low, .int .i64 (((I_direction w_Azimuth w_Slope)).X).High, .int .i64 (((I_direction w_Azimuth w_Slope)).Y).Low, .int .i64 (((I_direction w_Azimuth w_Slope)).Y).High, .int .i64 (((I_direction w_Azimuth w_Slope)).Z).Low, .int .i64 (((I_direction w_Azimuth w_Slope)).Z).High] := by
  have hset := setRule
  have hall := allocRule
  have halm := allocMark
  have hw64 := wrapRule
  go_enter Try.func81, Try.ntmps81
  go_wp2_with (first | (go_at_call 79; refine (c_I_direction _ _ _ ).mono ?_; rintro e w1 ⟨rfl, hq⟩; obtain ⟨hc, hf⟩ := hq.rules; have hs := hq.le; try simp at hs))
  all_goals try (
    refine region_Q (id := 1) 15 (by kernel_rfl) (by kernel_rfl) ?_
    simp only [List.take_succ_cons, List.take_zero, List.drop_succ_cons, List.drop_zero]
    repeat (first | (apply q_step rfl; (intro wq hq; have hr := Q.rules hq; have hcq := hr.1; have hfq := hr.2; clear hr; have hsq := Q.le hq; (try simp at hsq); go_simp; (repeat (simp (disch := omega) only [if_pos, if_neg]; try go_simp)); (first | rfl | exact ⟨rfl, rfl⟩ | (go_at_call 79; exact quiet_grow hq (c_I_direction _ _ _ )))); try go_simp) | (apply q_skip rfl; try go_simp))
    refine wpQuiet_nil ?_
    intro w1 hq
    have hr := Q.rules hq; have hc := hr.1; have hf := hr.2; clear hr; have hs := Q.le hq; try simp at hs)
  all_goals try go_wp2_with (first | (go_at_call 79; refine (c_I_direction _ _ _ ).mono ?_; rintro e w1 ⟨rfl, hq⟩; obtain ⟨hc, hf⟩ := hq.rules; have hs := hq.le; try simp at hs))
  all_goals go_ret
  all_goals refine ⟨_, rfl, (by repeat (first | (with_reducible exact Q.refl _) | (with_reducible assumption) | (with_reducible refine Q.setCell ?_ (by dsimp only; omega) _) | (with_reducible refine Q.alloc ?_ _) | (with_reducible refine Q.drew ?_) | (with_reducible refine Q.call ?_ (by with_reducible assumption)))), ?_, Row.new _ _ _⟩
  all_goals first | omega | (simp; omega)

set_option maxHeartbeats 1000000 in
theorem c_I_Interval_plus (a_Low : Int) (a_High : Int) (b_Low : Int) (b_High : Int) (w : World)  : Calls Try.prog 135 #[.agg #[.int .i64 a_Low, .int .i64 a_High], .agg #[.int .i64 b_Low, .int .i64 b_High]] w fun e w' => e = .returned (.agg #[.int .i64 ((I_Interval_plus (⟨a_Low, a_High⟩ : Interval) (⟨b_Low, b_High⟩ : Interval)).Low), .int .i64 ((I_Interval_plus (⟨a_Low, a_High⟩ : Interval) (⟨b_Low, b_High⟩ : Interval)).High)]) ∧ Q w w' := by
  have hset := setRule
  have hall := allocRule
  have halm := allocMark
  have hw64 := wrapRule
  go_enter Try.func135, Try.ntmps135
  go_wp2
  all_goals
    refine bodyPost_ret (v := .agg #[.int .i64 ((I_Interval_plus (⟨a_Low, a_High⟩ : Interval) (⟨b_Low, b_High⟩ : Interval)).Low), .int .i64 ((I_Interval_plus (⟨a_Low, a_High⟩ : Interval) (⟨b_Low, b_High⟩ : Interval)).High)]) ?_ rfl ⟨rfl, ?_⟩
    · first | (simp [results, Try.results135, go_sem, I_Interval_plus, *]; done) | (simp [results, Try.results135, go_sem, *]; repeat (simp (disch := omega) only [if_pos, if_neg]; try simp [go_sem, I_Interval_plus, *]))
    · (repeat (first | (with_reducible exact Q.refl _) | (with_reducible assumption) | (with_reducible refine Q.setCell ?_ (by dsimp only; omega) _) | (with_reducible refine Q.alloc ?_ _) | (with_reducible refine Q.drew ?_) | (with_reducible refine Q.call ?_ (by with_reducible assumption))))

set_option maxHeartbeats 1000000 in
theorem c_I_Vector_dot (v_X_Low : Int) (v_X_High : Int) (v_Y_Low : Int) (v_Y_High : Int) (v_Z_Low : Int) (v_Z_High : Int) (w0_X_Low : Int) (w0_X_High : Int) (w0_Y_Low : Int) (w0_Y_High : Int) (w0_Z_Low : Int) (w0_Z_High : Int) (w : World)  : Calls Try.prog 122 #[.agg #[.int .i64 v_X_Low, .int .i64 v_X_High, .int .i64 v_Y_Low, .int .i64 v_Y_High, .int .i64 v_Z_Low, .int .i64 v_Z_High], .agg #[.int .i64 w0_X_Low, .int .i64 w0_X_High, .int .i64 w0_Y_Low, .int .i64 w0_Y_High, .int .i64 w0_Z_Low, .int .i64 w0_Z_High]] w fun e w' => e = .returned (.agg #[.int .i64 ((I_Vector_dot (⟨(⟨v_X_Low, v_X_High⟩ : Interval), (⟨v_Y_Low, v_Y_High⟩ : Interval), (⟨v_Z_Low, v_Z_High⟩ : Interval)⟩ : Vector) (⟨(⟨w0_X_Low, w0_X_High⟩ : Interval), (⟨w0_Y_Low, w0_Y_High⟩ : Interval), (⟨w0_Z_Low, w0_Z_High⟩ : Interval)⟩ : Vector)).Low), .int .i64 ((I_Vector_dot (⟨(⟨v_X_Low, v_X_High⟩ : Interval), (⟨v_Y_Low, v_Y_High⟩ : Interval), (⟨v_Z_Low, v_Z_High⟩ : Interval)⟩ : Vector) (⟨(⟨w0_X_Low, w0_X_High⟩ : Interval), (⟨w0_Y_Low, w0_Y_High⟩ : Interval), (⟨w0_Z_Low, w0_Z_High⟩ : Interval)⟩ : Vector)).High)]) ∧ Q w w' := by
  have hset := setRule
  have hall := allocRule
  have halm := allocMark
  have hw64 := wrapRule
  go_enter Try.func122, Try.ntmps122
  go_wp2_with (first | (go_at_call 135; refine (c_I_Interval_plus _ _ _ _ _ ).mono ?_; rintro e w1 ⟨rfl, hq⟩; obtain ⟨hc, hf⟩ := hq.rules; have hs := hq.le; try simp at hs) | (go_at_call 125; refine (c_I_Interval_times _ _ _ _ _ ).mono ?_; rintro e w1 ⟨rfl, hq⟩; obtain ⟨hc, hf⟩ := hq.rules; have hs := hq.le; try simp at hs))
  all_goals try (
    refine region_Q (id := 1) 17 (by kernel_rfl) (by kernel_rfl) ?_
    simp only [List.take_succ_cons, List.take_zero, List.drop_succ_cons, List.drop_zero]
    repeat (first | (apply q_step rfl; (intro wq hq; have hr := Q.rules hq; have hcq := hr.1; have hfq := hr.2; clear hr; have hsq := Q.le hq; (try simp at hsq); go_simp; (repeat (simp (disch := omega) only [if_pos, if_neg]; try go_simp)); (first | rfl | exact ⟨rfl, rfl⟩ | (go_at_call 135; exact quiet_grow hq (c_I_Interval_plus _ _ _ _ _ )) | (go_at_call 125; exact quiet_grow hq (c_I_Interval_times _ _ _ _ _ )))); try go_simp) | (apply q_skip rfl; try go_simp))
    refine wpQuiet_nil ?_
    intro w1 hq
    have hr := Q.rules hq; have hc := hr.1; have hf := hr.2; clear hr; have hs := Q.le hq; try simp at hs)
  all_goals try go_wp2_with (first | (go_at_call 135; refine (c_I_Interval_plus _ _ _ _ _ ).mono ?_; rintro e w1 ⟨rfl, hq⟩; obtain ⟨hc, hf⟩ := hq.rules; have hs := hq.le; try simp at hs) | (go_at_call 125; refine (c_I_Interval_times _ _ _ _ _ ).mono ?_; rintro e w1 ⟨rfl, hq⟩; obtain ⟨hc, hf⟩ := hq.rules; have hs := hq.le; try simp at hs))
  all_goals
    refine bodyPost_ret (v := .agg #[.int .i64 ((I_Vector_dot (⟨(⟨v_X_Low, v_X_High⟩ : Interval), (⟨v_Y_Low, v_Y_High⟩ : Interval), (⟨v_Z_Low, v_Z_High⟩ : Interval)⟩ : Vector) (⟨(⟨w0_X_Low, w0_X_High⟩ : Interval), (⟨w0_Y_Low, w0_Y_High⟩ : Interval), (⟨w0_Z_Low, w0_Z_High⟩ : Interval)⟩ : Vector)).Low), .int .i64 ((I_Vector_dot (⟨(⟨v_X_Low, v_X_High⟩ : Interval), (⟨v_Y_Low, v_Y_High⟩ : Interval), (⟨v_Z_Low, v_Z_High⟩ : Interval)⟩ : Vector) (⟨(⟨w0_X_Low, w0_X_High⟩ : Interval), (⟨w0_Y_Low, w0_Y_High⟩ : Interval), (⟨w0_Z_Low, w0_Z_High⟩ : Interval)⟩ : Vector)).High)]) ?_ rfl ⟨rfl, ?_⟩
    · first | (simp [results, Try.results122, go_sem, I_Vector_dot, *]; done) | (simp [results, Try.results122, go_sem, *]; repeat (simp (disch := omega) only [if_pos, if_neg]; try simp [go_sem, I_Vector_dot, *]))
    · (repeat (first | (with_reducible exact Q.refl _) | (with_reducible assumption) | (with_reducible refine Q.setCell ?_ (by dsimp only; omega) _) | (with_reducible refine Q.alloc ?_ _) | (with_reducible refine Q.drew ?_) | (with_reducible refine Q.call ?_ (by with_reducible assumption))))

set_option maxHeartbeats 8000000 in
theorem c_I_Wall_parts (w0_Azimuth w0_Slope v_X_Low v_X_High v_Y_Low v_Y_High v_Z_Low v_Z_High : Int) (w : World) : Calls Try.prog 78 #[.agg #[.int .i64 w0_Azimuth, .int .i64 w0_Slope], .agg #[.int .i64 v_X_Low, .int .i64 v_X_High, .int .i64 v_Y_Low, .int .i64 v_Y_High, .int .i64 v_Z_Low, .int .i64 v_Z_High]] w fun e w' => ∃ g cap, e = .returned (.slice (some ⟨g, 0, none⟩) 3 cap) ∧ Q w w' ∧ w.heap.size ≤ g ∧ Row w' g [.int .i64 ((I_Vector_dot (⟨⟨v_X_Low, v_X_High⟩, ⟨v_Y_Low, v_Y_High⟩, ⟨v_Z_Low, v_Z_High⟩⟩ : Vector) (I_direction (wrap64 (w0_Azimuth - 324000)) 0))).Low, .int .i64 ((I_Vector_dot (⟨⟨v_X_Low, v_X_High⟩, ⟨v_Y_Low, v_Y_High⟩, ⟨v_Z_Low, v_Z_High⟩⟩ : Vector) (I_direction (wrap64 (w0_Azimuth - 324000)) 0))).High, .int .i64 ((I_Vector_dot (⟨⟨v_X_Low, v_X_High⟩, ⟨v_Y_Low, v_Y_High⟩, ⟨v_Z_Low, v_Z_High⟩⟩ : Vector) (I_direction w0_Azimuth (wrap64 (w0_Slope + 324000))))).Low, .int .i64 ((I_Vector_dot (⟨⟨v_X_Low, v_X_High⟩, ⟨v_Y_Low, v_Y_High⟩, ⟨v_Z_Low, v_Z_High⟩⟩ : Vector) (I_direction w0_Azimuth (wrap64 (w0_Slope + 324000))))).High, .int .i64 ((I_Vector_dot (⟨⟨v_X_Low, v_X_High⟩, ⟨v_Y_Low, v_Y_High⟩, ⟨v_Z_Low, v_Z_High⟩⟩ : Vector) (I_direction w0_Azimuth w0_Slope))).Low, .int .i64 ((I_Vector_dot (⟨⟨v_X_Low, v_X_High⟩, ⟨v_Y_Low, v_Y_High⟩, ⟨v_Z_Low, v_Z_High⟩⟩ : Vector) (I_direction w0_Azimuth w0_Slope))).High] := by
  have hset := setRule
  have hall := allocRule
  have halm := allocMark
  have hw64 := wrapRule
  have hwl1 : wrap64 1 = 1 := w64 (by omega)
  have hwl2 : wrap64 2 = 2 := w64 (by omega)
  have hwl3 : wrap64 3 = 3 := w64 (by omega)
  have hinfo : (Try.prog.info? 32).map (fun i => (i.zero, i.size, i.bytes)) = some (some (.agg #[.int .i64 0, .int .i64 0]), 2, 16) := by kernel_rfl
  obtain ⟨i0, hi, hz0, hz1, hz2⟩ := info_parts hinfo
  have hmade : (((w.alloc (.cells #[.int .i64 w0_Azimuth, .int .i64 w0_Slope] 30)).alloc (.cells #[.int .i64 v_X_Low, .int .i64 v_X_High, .int .i64 v_Y_Low, .int .i64 v_Y_High, .int .i64 v_Z_Low, .int .i64 v_Z_High] 34)).alloc (.cells #[] 32)).ownsRow (w.heap.size + 2) 32 2 (.slice (some ⟨w.heap.size + 2, 0, none⟩) 0 0) 0 [] := by
    have := World.ownsRow_made (base := w.heap.size + 2) (e := 32) (size := 2) ((w.alloc (.cells #[.int .i64 w0_Azimuth, .int .i64 w0_Slope] 30)).alloc (.cells #[.int .i64 v_X_Low, .int .i64 v_X_High, .int .i64 v_Y_Low, .int .i64 v_Y_High, .int .i64 v_Z_Low, .int .i64 v_Z_High] 34)) #[] 0 (by simp) (by simp [maxLen]) (by simp)
    simpa using this
  go_enter Try.func78, Try.ntmps78
  go_wp2_with (first | (go_at_call 81; refine (c_I_Wall_axes _ _ _).mono ?_; rintro e w1 ⟨gA, rfl, hq, hg0, hrow⟩; obtain ⟨hg1, hgc, hgf⟩ := id hrow; obtain ⟨hc, hf⟩ := hq.rules; have hs := hq.le; (try simp at hs); (try simp at hg0); have hva : (Value.slice (some ⟨w.heap.size + 2, 0, none⟩) 0 0).ownBlock ≠ some gA := (by simp [Value.ownBlock]; omega); have hvb : ∀ k, (Value.slice (some ⟨w.heap.size + 2, 0, none⟩) 0 0).ownBlock = some k → w.heap.size + 2 ≤ k := (by intro k hk; simp [Value.ownBlock] at hk; omega); have hvw : ∀ k, (Value.slice (some ⟨w.heap.size + 2, 0, none⟩) 0 0).ownBlock = some k → w.heap.size ≤ k := fun k hk => Nat.le_trans (by omega) (hvb k hk)) | (go_at_call 81; refine (c_I_Wall_axes _ _ _).mono ?_; rintro e w1 ⟨g, rfl, hq, hg0, hrow⟩; obtain ⟨hg1, hgc, hgf⟩ := id hrow; obtain ⟨hc, hf⟩ := hq.rules; have hs := hq.le; (try simp at hs)) | (go_at_call 122; refine (c_I_Vector_dot _ _ _ _ _ _ _ _ _ _ _ _ _ ).mono ?_; rintro e w1 ⟨rfl, hq⟩; obtain ⟨hc, hf⟩ := hq.rules; have hs := hq.le; try simp at hs) | (at_builtin; (first | (refine wpList_append_own_at _ rfl _ _ 37 rfl (w.heap.size + 2) 32 i0 (.agg #[.int .i64 0, .int .i64 0]) 2 16 Try.underlying37 hi hz0 hz1 hz2 rfl (by decide) _ _ _ (by rfl) (own_call (hown) (by repeat (first | (with_reducible exact Q.refl _) | (with_reducible assumption) | (with_reducible refine Q.setCell ?_ (by dsimp only; omega) _) | (with_reducible refine Q.alloc ?_ _) | (with_reducible refine Q.drew ?_) | (refine Q.grown ?_ (by with_reducible assumption) (by with_reducible assumption)) | (with_reducible refine Q.call ?_ (by with_reducible assumption))))) _ 1 1 _ rfl (by simp) (cells_at (by simp)) (by simp [Value.oneCell']) (by first | omega | (simp [maxLen]; done) | (simp [maxLen]; omega)) (by first | omega | (simp; done) | (simp; omega)) (by first | omega | (simp; done) | (simp; omega)) ?_) | (refine wpList_append_own_at _ rfl _ _ 37 rfl (w.heap.size + 2) 32 i0 (.agg #[.int .i64 0, .int .i64 0]) 2 16 Try.underlying37 hi hz0 hz1 hz2 rfl (by decide) _ _ _ (by rfl) (own_call (hmade) (by repeat (first | (with_reducible exact Q.refl _) | (with_reducible assumption) | (with_reducible refine Q.setCell ?_ (by dsimp only; omega) _) | (with_reducible refine Q.alloc ?_ _) | (with_reducible refine Q.drew ?_) | (refine Q.grown ?_ (by with_reducible assumption) (by with_reducible assumption)) | (with_reducible refine Q.call ?_ (by with_reducible assumption))))) _ 1 1 _ rfl (by simp) (cells_at (by simp)) (by simp [Value.oneCell']) (by first | omega | (simp [maxLen]; done) | (simp [maxLen]; omega)) (by first | omega | (simp; done) | (simp; omega)) (by first | omega | (simp; done) | (simp; omega)) ?_)); intro v2 w1 hown hgrow hnil hblk; have hgr := grown_rules (B := w.heap.size + 2) (g := gA) hgrow hvb hva (by first | omega | (simp; omega)) (by first | omega | (simp; omega)); have hva := apart_next hva (by first | omega | (simp; omega)) hblk; have hvb := own_block hown; have hvw : ∀ k, v2.ownBlock = some k → w.heap.size ≤ k := fun k hk => Nat.le_trans (by omega) (hvb k hk); obtain ⟨hc, hf, hs⟩ := hgr; (try simp at hs)))
  all_goals try (refine wp_loop_rounds 4 ?_; rw [rounds_succ])
  all_goals try (go_wp2_with (first | (go_at_call 81; refine (c_I_Wall_axes _ _ _).mono ?_; rintro e w1 ⟨gA, rfl, hq, hg0, hrow⟩; obtain ⟨hg1, hgc, hgf⟩ := id hrow; obtain ⟨hc, hf⟩ := hq.rules; have hs := hq.le; (try simp at hs); (try simp at hg0); have hva : (Value.slice (some ⟨w.heap.size + 2, 0, none⟩) 0 0).ownBlock ≠ some gA := (by simp [Value.ownBlock]; omega); have hvb : ∀ k, (Value.slice (some ⟨w.heap.size + 2, 0, none⟩) 0 0).ownBlock = some k → w.heap.size + 2 ≤ k := (by intro k hk; simp [Value.ownBlock] at hk; omega); have hvw : ∀ k, (Value.slice (some ⟨w.heap.size + 2, 0, none⟩) 0 0).ownBlock = some k → w.heap.size ≤ k := fun k hk => Nat.le_trans (by omega) (hvb k hk)) | (go_at_call 81; refine (c_I_Wall_axes _ _ _).mono ?_; rintro e w1 ⟨g, rfl, hq, hg0, hrow⟩; obtain ⟨hg1, hgc, hgf⟩ := id hrow; obtain ⟨hc, hf⟩ := hq.rules; have hs := hq.le; (try simp at hs)) | (go_at_call 122; refine (c_I_Vector_dot _ _ _ _ _ _ _ _ _ _ _ _ _ ).mono ?_; rintro e w1 ⟨rfl, hq⟩; obtain ⟨hc, hf⟩ := hq.rules; have hs := hq.le; try simp at hs) | (at_builtin; (first | (refine wpList_append_own_at _ rfl _ _ 37 rfl (w.heap.size + 2) 32 i0 (.agg #[.int .i64 0, .int .i64 0]) 2 16 Try.underlying37 hi hz0 hz1 hz2 rfl (by decide) _ _ _ (by rfl) (own_call (hown) (by repeat (first | (with_reducible exact Q.refl _) | (with_reducible assumption) | (with_reducible refine Q.setCell ?_ (by dsimp only; omega) _) | (with_reducible refine Q.alloc ?_ _) | (with_reducible refine Q.drew ?_) | (refine Q.grown ?_ (by with_reducible assumption) (by with_reducible assumption)) | (with_reducible refine Q.call ?_ (by with_reducible assumption))))) _ 1 1 _ rfl (by simp) (cells_at (by simp)) (by simp [Value.oneCell']) (by first | omega | (simp [maxLen]; done) | (simp [maxLen]; omega)) (by first | omega | (simp; done) | (simp; omega)) (by first | omega | (simp; done) | (simp; omega)) ?_) | (refine wpList_append_own_at _ rfl _ _ 37 rfl (w.heap.size + 2) 32 i0 (.agg #[.int .i64 0, .int .i64 0]) 2 16 Try.underlying37 hi hz0 hz1 hz2 rfl (by decide) _ _ _ (by rfl) (own_call (hmade) (by repeat (first | (with_reducible exact Q.refl _) | (with_reducible assumption) | (with_reducible refine Q.setCell ?_ (by dsimp only; omega) _) | (with_reducible refine Q.alloc ?_ _) | (with_reducible refine Q.drew ?_) | (refine Q.grown ?_ (by with_reducible assumption) (by with_reducible assumption)) | (with_reducible refine Q.call ?_ (by with_reducible assumption))))) _ 1 1 _ rfl (by simp) (cells_at (by simp)) (by simp [Value.oneCell']) (by first | omega | (simp [maxLen]; done) | (simp [maxLen]; omega)) (by first | omega | (simp; done) | (simp; omega)) (by first | omega | (simp; done) | (simp; omega)) ?_)); intro v2 w1 hown hgrow hnil hblk; have hgr := grown_rules (B := w.heap.size + 2) (g := gA) hgrow hvb hva (by first | omega | (simp; omega)) (by first | omega | (simp; omega)); have hva := apart_next hva (by first | omega | (simp; omega)) hblk; have hvb := own_block hown; have hvw : ∀ k, v2.ownBlock = some k → w.heap.size ≤ k := fun k hk => Nat.le_trans (by omega) (hvb k hk); obtain ⟨hc, hf, hs⟩ := hgr; (try simp at hs))))
  all_goals try (rw [rounds_succ])
  all_goals try (go_wp2_with (first | (go_at_call 81; refine (c_I_Wall_axes _ _ _).mono ?_; rintro e w1 ⟨gA, rfl, hq, hg0, hrow⟩; obtain ⟨hg1, hgc, hgf⟩ := id hrow; obtain ⟨hc, hf⟩ := hq.rules; have hs := hq.le; (try simp at hs); (try simp at hg0); have hva : (Value.slice (some ⟨w.heap.size + 2, 0, none⟩) 0 0).ownBlock ≠ some gA := (by simp [Value.ownBlock]; omega); have hvb : ∀ k, (Value.slice (some ⟨w.heap.size + 2, 0, none⟩) 0 0).ownBlock = some k → w.heap.size + 2 ≤ k := (by intro k hk; simp [Value.ownBlock] at hk; omega); have hvw : ∀ k, (Value.slice (some ⟨w.heap.size + 2, 0, none⟩) 0 0).ownBlock = some k → w.heap.size ≤ k := fun k hk => Nat.le_trans (by omega) (hvb k hk)) | (go_at_call 81; refine (c_I_Wall_axes _ _ _).mono ?_; rintro e w1 ⟨g, rfl, hq, hg0, hrow⟩; obtain ⟨hg1, hgc, hgf⟩ := id hrow; obtain ⟨hc, hf⟩ := hq.rules; have hs := hq.le; (try simp at hs)) | (go_at_call 122; refine (c_I_Vector_dot _ _ _ _ _ _ _ _ _ _ _ _ _ ).mono ?_; rintro e w1 ⟨rfl, hq⟩; obtain ⟨hc, hf⟩ := hq.rules; have hs := hq.le; try simp at hs) | (at_builtin; (first | (refine wpList_append_own_at _ rfl _ _ 37 rfl (w.heap.size + 2) 32 i0 (.agg #[.int .i64 0, .int .i64 0]) 2 16 Try.underlying37 hi hz0 hz1 hz2 rfl (by decide) _ _ _ (by rfl) (own_call (hown) (by repeat (first | (with_reducible exact Q.refl _) | (with_reducible assumption) | (with_reducible refine Q.setCell ?_ (by dsimp only; omega) _) | (with_reducible refine Q.alloc ?_ _) | (with_reducible refine Q.drew ?_) | (refine Q.grown ?_ (by with_reducible assumption) (by with_reducible assumption)) | (with_reducible refine Q.call ?_ (by with_reducible assumption))))) _ 1 1 _ rfl (by simp) (cells_at (by simp)) (by simp [Value.oneCell']) (by first | omega | (simp [maxLen]; done) | (simp [maxLen]; omega)) (by first | omega | (simp; done) | (simp; omega)) (by first | omega | (simp; done) | (simp; omega)) ?_) | (refine wpList_append_own_at _ rfl _ _ 37 rfl (w.heap.size + 2) 32 i0 (.agg #[.int .i64 0, .int .i64 0]) 2 16 Try.underlying37 hi hz0 hz1 hz2 rfl (by decide) _ _ _ (by rfl) (own_call (hmade) (by repeat (first | (with_reducible exact Q.refl _) | (with_reducible assumption) | (with_reducible refine Q.setCell ?_ (by dsimp only; omega) _) | (with_reducible refine Q.alloc ?_ _) | (with_reducible refine Q.drew ?_) | (refine Q.grown ?_ (by with_reducible assumption) (by with_reducible assumption)) | (with_reducible refine Q.call ?_ (by with_reducible assumption))))) _ 1 1 _ rfl (by simp) (cells_at (by simp)) (by simp [Value.oneCell']) (by first | omega | (simp [maxLen]; done) | (simp [maxLen]; omega)) (by first | omega | (simp; done) | (simp; omega)) (by first | omega | (simp; done) | (simp; omega)) ?_)); intro v2 w1 hown hgrow hnil hblk; have hgr := grown_rules (B := w.heap.size + 2) (g := gA) hgrow hvb hva (by first | omega | (simp; omega)) (by first | omega | (simp; omega)); have hva := apart_next hva (by first | omega | (simp; omega)) hblk; have hvb := own_block hown; have hvw : ∀ k, v2.ownBlock = some k → w.heap.size ≤ k := fun k hk => Nat.le_trans (by omega) (hvb k hk); obtain ⟨hc, hf, hs⟩ := hgr; (try simp at hs))))
  all_goals try (rw [rounds_succ])
  all_goals try (go_wp2_with (first | (go_at_call 81; refine (c_I_Wall_axes _ _ _).mono ?_; rintro e w1 ⟨gA, rfl, hq, hg0, hrow⟩; obtain ⟨hg1, hgc, hgf⟩ := id hrow; obtain ⟨hc, hf⟩ := hq.rules; have hs := hq.le; (try simp at hs); (try simp at hg0); have hva : (Value.slice (some ⟨w.heap.size + 2, 0, none⟩) 0 0).ownBlock ≠ some gA := (by simp [Value.ownBlock]; omega); have hvb : ∀ k, (Value.slice (some ⟨w.heap.size + 2, 0, none⟩) 0 0).ownBlock = some k → w.heap.size + 2 ≤ k := (by intro k hk; simp [Value.ownBlock] at hk; omega); have hvw : ∀ k, (Value.slice (some ⟨w.heap.size + 2, 0, none⟩) 0 0).ownBlock = some k → w.heap.size ≤ k := fun k hk => Nat.le_trans (by omega) (hvb k hk)) | (go_at_call 81; refine (c_I_Wall_axes _ _ _).mono ?_; rintro e w1 ⟨g, rfl, hq, hg0, hrow⟩; obtain ⟨hg1, hgc, hgf⟩ := id hrow; obtain ⟨hc, hf⟩ := hq.rules; have hs := hq.le; (try simp at hs)) | (go_at_call 122; refine (c_I_Vector_dot _ _ _ _ _ _ _ _ _ _ _ _ _ ).mono ?_; rintro e w1 ⟨rfl, hq⟩; obtain ⟨hc, hf⟩ := hq.rules; have hs := hq.le; try simp at hs) | (at_builtin; (first | (refine wpList_append_own_at _ rfl _ _ 37 rfl (w.heap.size + 2) 32 i0 (.agg #[.int .i64 0, .int .i64 0]) 2 16 Try.underlying37 hi hz0 hz1 hz2 rfl (by decide) _ _ _ (by rfl) (own_call (hown) (by repeat (first | (with_reducible exact Q.refl _) | (with_reducible assumption) | (with_reducible refine Q.setCell ?_ (by dsimp only; omega) _) | (with_reducible refine Q.alloc ?_ _) | (with_reducible refine Q.drew ?_) | (refine Q.grown ?_ (by with_reducible assumption) (by with_reducible assumption)) | (with_reducible refine Q.call ?_ (by with_reducible assumption))))) _ 1 1 _ rfl (by simp) (cells_at (by simp)) (by simp [Value.oneCell']) (by first | omega | (simp [maxLen]; done) | (simp [maxLen]; omega)) (by first | omega | (simp; done) | (simp; omega)) (by first | omega | (simp; done) | (simp; omega)) ?_) | (refine wpList_append_own_at _ rfl _ _ 37 rfl (w.heap.size + 2) 32 i0 (.agg #[.int .i64 0, .int .i64 0]) 2 16 Try.underlying37 hi hz0 hz1 hz2 rfl (by decide) _ _ _ (by rfl) (own_call (hmade) (by repeat (first | (with_reducible exact Q.refl _) | (with_reducible assumption) | (with_reducible refine Q.setCell ?_ (by dsimp only; omega) _) | (with_reducible refine Q.alloc ?_ _) | (with_reducible refine Q.drew ?_) | (refine Q.grown ?_ (by with_reducible assumption) (by with_reducible assumption)) | (with_reducible refine Q.call ?_ (by with_reducible assumption))))) _ 1 1 _ rfl (by simp) (cells_at (by simp)) (by simp [Value.oneCell']) (by first | omega | (simp [maxLen]; done) | (simp [maxLen]; omega)) (by first | omega | (simp; done) | (simp; omega)) (by first | omega | (simp; done) | (simp; omega)) ?_)); intro v2 w1 hown hgrow hnil hblk; have hgr := grown_rules (B := w.heap.size + 2) (g := gA) hgrow hvb hva (by first | omega | (simp; omega)) (by first | omega | (simp; omega)); have hva := apart_next hva (by first | omega | (simp; omega)) hblk; have hvb := own_block hown; have hvw : ∀ k, v2.ownBlock = some k → w.heap.size ≤ k := fun k hk => Nat.le_trans (by omega) (hvb k hk); obtain ⟨hc, hf, hs⟩ := hgr; (try simp at hs))))
  all_goals try (rw [rounds_succ])
  all_goals try (go_wp2_with (first | (go_at_call 81; refine (c_I_Wall_axes _ _ _).mono ?_; rintro e w1 ⟨gA, rfl, hq, hg0, hrow⟩; obtain ⟨hg1, hgc, hgf⟩ := id hrow; obtain ⟨hc, hf⟩ := hq.rules; have hs := hq.le; (try simp at hs); (try simp at hg0); have hva : (Value.slice (some ⟨w.heap.size + 2, 0, none⟩) 0 0).ownBlock ≠ some gA := (by simp [Value.ownBlock]; omega); have hvb : ∀ k, (Value.slice (some ⟨w.heap.size + 2, 0, none⟩) 0 0).ownBlock = some k → w.heap.size + 2 ≤ k := (by intro k hk; simp [Value.ownBlock] at hk; omega); have hvw : ∀ k, (Value.slice (some ⟨w.heap.size + 2, 0, none⟩) 0 0).ownBlock = some k → w.heap.size ≤ k := fun k hk => Nat.le_trans (by omega) (hvb k hk)) | (go_at_call 81; refine (c_I_Wall_axes _ _ _).mono ?_; rintro e w1 ⟨g, rfl, hq, hg0, hrow⟩; obtain ⟨hg1, hgc, hgf⟩ := id hrow; obtain ⟨hc, hf⟩ := hq.rules; have hs := hq.le; (try simp at hs)) | (go_at_call 122; refine (c_I_Vector_dot _ _ _ _ _ _ _ _ _ _ _ _ _ ).mono ?_; rintro e w1 ⟨rfl, hq⟩; obtain ⟨hc, hf⟩ := hq.rules; have hs := hq.le; try simp at hs) | (at_builtin; (first | (refine wpList_append_own_at _ rfl _ _ 37 rfl (w.heap.size + 2) 32 i0 (.agg #[.int .i64 0, .int .i64 0]) 2 16 Try.underlying37 hi hz0 hz1 hz2 rfl (by decide) _ _ _ (by rfl) (own_call (hown) (by repeat (first | (with_reducible exact Q.refl _) | (with_reducible assumption) | (with_reducible refine Q.setCell ?_ (by dsimp only; omega) _) | (with_reducible refine Q.alloc ?_ _) | (with_reducible refine Q.drew ?_) | (refine Q.grown ?_ (by with_reducible assumption) (by with_reducible assumption)) | (with_reducible refine Q.call ?_ (by with_reducible assumption))))) _ 1 1 _ rfl (by simp) (cells_at (by simp)) (by simp [Value.oneCell']) (by first | omega | (simp [maxLen]; done) | (simp [maxLen]; omega)) (by first | omega | (simp; done) | (simp; omega)) (by first | omega | (simp; done) | (simp; omega)) ?_) | (refine wpList_append_own_at _ rfl _ _ 37 rfl (w.heap.size + 2) 32 i0 (.agg #[.int .i64 0, .int .i64 0]) 2 16 Try.underlying37 hi hz0 hz1 hz2 rfl (by decide) _ _ _ (by rfl) (own_call (hmade) (by repeat (first | (with_reducible exact Q.refl _) | (with_reducible assumption) | (with_reducible refine Q.setCell ?_ (by dsimp only; omega) _) | (with_reducible refine Q.alloc ?_ _) | (with_reducible refine Q.drew ?_) | (refine Q.grown ?_ (by with_reducible assumption) (by with_reducible assumption)) | (with_reducible refine Q.call ?_ (by with_reducible assumption))))) _ 1 1 _ rfl (by simp) (cells_at (by simp)) (by simp [Value.oneCell']) (by first | omega | (simp [maxLen]; done) | (simp [maxLen]; omega)) (by first | omega | (simp; done) | (simp; omega)) (by first | omega | (simp; done) | (simp; omega)) ?_)); intro v2 w1 hown hgrow hnil hblk; have hgr := grown_rules (B := w.heap.size + 2) (g := gA) hgrow hvb hva (by first | omega | (simp; omega)) (by first | omega | (simp; omega)); have hva := apart_next hva (by first | omega | (simp; omega)) hblk; have hvb := own_block hown; have hvw : ∀ k, v2.ownBlock = some k → w.heap.size ≤ k := fun k hk => Nat.le_trans (by omega) (hvb k hk); obtain ⟨hc, hf, hs⟩ := hgr; (try simp at hs))))
  all_goals (obtain ⟨gR, capR, hvv, hgR, hrR⟩ := row_of_own hown (by omega); subst hvv)
  all_goals go_ret
  all_goals exact ⟨gR, capR, rfl, (by repeat (first | (with_reducible exact Q.refl _) | (with_reducible assumption) | (with_reducible refine Q.setCell ?_ (by dsimp only; omega) _) | (with_reducible refine Q.alloc ?_ _) | (with_reducible refine Q.drew ?_) | (refine Q.grown ?_ (by with_reducible assumption) (by with_reducible assumption)) | (with_reducible refine Q.call ?_ (by with_reducible assumption)))), by omega, by simpa using hrR⟩

set_option maxHeartbeats 4000000 in
theorem c_I_PartsOf3_bad0 (w0_Azimuth w0_Slope v_X_Low v_X_High v_Y_Low v_Y_High v_Z_Low v_Z_High : Int) (w : World) (h0 : I_IsWall (⟨w0_Azimuth, w0_Slope⟩ : Wall) = false) : Calls Try.prog 34 #[.agg #[.int .i64 w0_Azimuth, .int .i64 w0_Slope], .agg #[.int .i64 v_X_Low, .int .i64 v_X_High, .int .i64 v_Y_Low, .int .i64 v_Y_High, .int .i64 v_Z_Low, .int .i64 v_Z_High]] w fun e w' => e = .returned (.tuple #[.slice none 0 0, .int .i64 1]) ∧ Q w w' := by
  have hset := setRule
  have hall := allocRule
  have halm := allocMark
  have hw64 := wrapRule
  go_enter Try.func34, Try.ntmps34
  go_wp2_with (first | (go_at_call 76; refine (c_I_IsWall _ _ _ ).mono ?_; rintro e w1 ⟨rfl, hq⟩; obtain ⟨hc, hf⟩ := hq.rules; have hs := hq.le; try simp at hs) | (go_at_call 88; refine (c_I_IsVector _ _ _ _ _ _ _ ).mono ?_; rintro e w1 ⟨rfl, hq⟩; obtain ⟨hc, hf⟩ := hq.rules; have hs := hq.le; try simp at hs) | (go_at_call 78; refine (c_I_Wall_parts _ _ _ _ _ _ _ _ _).mono ?_; rintro e w1 ⟨g, cap, rfl, hq, hg0, hrow⟩; obtain ⟨hg1, hgc, hgf⟩ := id hrow; obtain ⟨hc, hf⟩ := hq.rules; have hs := hq.le; (try simp at hs)))
  all_goals go_ret2
  all_goals refine ⟨?_, (by repeat (first | (with_reducible exact Q.refl _) | (with_reducible assumption) | (with_reducible refine Q.setCell ?_ (by dsimp only; omega) _) | (with_reducible refine Q.alloc ?_ _) | (with_reducible refine Q.drew ?_) | (with_reducible refine Q.call ?_ (by with_reducible assumption))))⟩
  all_goals first | rfl | (simp [*]; done)
set_option maxHeartbeats 4000000 in
theorem c_I_PartsOf3_bad1 (w0_Azimuth w0_Slope v_X_Low v_X_High v_Y_Low v_Y_High v_Z_Low v_Z_High : Int) (w : World) (h0 : I_IsWall (⟨w0_Azimuth, w0_Slope⟩ : Wall) = true) (h1 : I_IsVector (⟨⟨v_X_Low, v_X_High⟩, ⟨v_Y_Low, v_Y_High⟩, ⟨v_Z_Low, v_Z_High⟩⟩ : Vector) = false) : Calls Try.prog 34 #[.agg #[.int .i64 w0_Azimuth, .int .i64 w0_Slope], .agg #[.int .i64 v_X_Low, .int .i64 v_X_High, .int .i64 v_Y_Low, .int .i64 v_Y_High, .int .i64 v_Z_Low, .int .i64 v_Z_High]] w fun e w' => e = .returned (.tuple #[.slice none 0 0, .int .i64 1]) ∧ Q w w' := by
  have hset := setRule
  have hall := allocRule
  have halm := allocMark
  have hw64 := wrapRule
  go_enter Try.func34, Try.ntmps34
  go_wp2_with (first | (go_at_call 76; refine (c_I_IsWall _ _ _ ).mono ?_; rintro e w1 ⟨rfl, hq⟩; obtain ⟨hc, hf⟩ := hq.rules; have hs := hq.le; try simp at hs) | (go_at_call 88; refine (c_I_IsVector _ _ _ _ _ _ _ ).mono ?_; rintro e w1 ⟨rfl, hq⟩; obtain ⟨hc, hf⟩ := hq.rules; have hs := hq.le; try simp at hs) | (go_at_call 78; refine (c_I_Wall_parts _ _ _ _ _ _ _ _ _).mono ?_; rintro e w1 ⟨g, cap, rfl, hq, hg0, hrow⟩; obtain ⟨hg1, hgc, hgf⟩ := id hrow; obtain ⟨hc, hf⟩ := hq.rules; have hs := hq.le; (try simp at hs)))
  all_goals go_ret2
  all_goals refine ⟨?_, (by repeat (first | (with_reducible exact Q.refl _) | (with_reducible assumption) | (with_reducible refine Q.setCell ?_ (by dsimp only; omega) _) | (with_reducible refine Q.alloc ?_ _) | (with_reducible refine Q.drew ?_) | (with_reducible refine Q.call ?_ (by with_reducible assumption))))⟩
  all_goals first | rfl | (simp [*]; done)
set_option maxHeartbeats 4000000 in
theorem c_I_PartsOf3_ok (w0_Azimuth w0_Slope v_X_Low v_X_High v_Y_Low v_Y_High v_Z_Low v_Z_High : Int) (w : World) (h0 : I_IsWall (⟨w0_Azimuth, w0_Slope⟩ : Wall) = true) (h1 : I_IsVector (⟨⟨v_X_Low, v_X_High⟩, ⟨v_Y_Low, v_Y_High⟩, ⟨v_Z_Low, v_Z_High⟩⟩ : Vector) = true) : Calls Try.prog 34 #[.agg #[.int .i64 w0_Azimuth, .int .i64 w0_Slope], .agg #[.int .i64 v_X_Low, .int .i64 v_X_High, .int .i64 v_Y_Low, .int .i64 v_Y_High, .int .i64 v_Z_Low, .int .i64 v_Z_High]] w fun e w' => ∃ g cap, e = .returned (.tuple #[.slice (some ⟨g, 0, none⟩) 3 cap, .int .i64 0]) ∧ Q w w' ∧ w.heap.size ≤ g ∧ Row w' g [.int .i64 ((I_Vector_dot (⟨⟨v_X_Low, v_X_High⟩, ⟨v_Y_Low, v_Y_High⟩, ⟨v_Z_Low, v_Z_High⟩⟩ : Vector) (I_direction (wrap64 (w0_Azimuth - 324000)) 0))).Low, .int .i64 ((I_Vector_dot (⟨⟨v_X_Low, v_X_High⟩, ⟨v_Y_Low, v_Y_High⟩, ⟨v_Z_Low, v_Z_High⟩⟩ : Vector) (I_direction (wrap64 (w0_Azimuth - 324000)) 0))).High, .int .i64 ((I_Vector_dot (⟨⟨v_X_Low, v_X_High⟩, ⟨v_Y_Low, v_Y_High⟩, ⟨v_Z_Low, v_Z_High⟩⟩ : Vector) (I_direction w0_Azimuth (wrap64 (w0_Slope + 324000))))).Low, .int .i64 ((I_Vector_dot (⟨⟨v_X_Low, v_X_High⟩, ⟨v_Y_Low, v_Y_High⟩, ⟨v_Z_Low, v_Z_High⟩⟩ : Vector) (I_direction w0_Azimuth (wrap64 (w0_Slope + 324000))))).High, .int .i64 ((I_Vector_dot (⟨⟨v_X_Low, v_X_High⟩, ⟨v_Y_Low, v_Y_High⟩, ⟨v_Z_Low, v_Z_High⟩⟩ : Vector) (I_direction w0_Azimuth w0_Slope))).Low, .int .i64 ((I_Vector_dot (⟨⟨v_X_Low, v_X_High⟩, ⟨v_Y_Low, v_Y_High⟩, ⟨v_Z_Low, v_Z_High⟩⟩ : Vector) (I_direction w0_Azimuth w0_Slope))).High] := by
  have hset := setRule
  have hall := allocRule
  have halm := allocMark
  have hw64 := wrapRule
  go_enter Try.func34, Try.ntmps34
  go_wp2_with (first | (go_at_call 76; refine (c_I_IsWall _ _ _ ).mono ?_; rintro e w1 ⟨rfl, hq⟩; obtain ⟨hc, hf⟩ := hq.rules; have hs := hq.le; try simp at hs) | (go_at_call 88; refine (c_I_IsVector _ _ _ _ _ _ _ ).mono ?_; rintro e w1 ⟨rfl, hq⟩; obtain ⟨hc, hf⟩ := hq.rules; have hs := hq.le; try simp at hs) | (go_at_call 78; refine (c_I_Wall_parts _ _ _ _ _ _ _ _ _).mono ?_; rintro e w1 ⟨g, cap, rfl, hq, hg0, hrow⟩; obtain ⟨hg1, hgc, hgf⟩ := id hrow; obtain ⟨hc, hf⟩ := hq.rules; have hs := hq.le; (try simp at hs)))
  all_goals go_ret2
  all_goals refine ⟨g, _, rfl, (by repeat (first | (with_reducible exact Q.refl _) | (with_reducible assumption) | (with_reducible refine Q.setCell ?_ (by dsimp only; omega) _) | (with_reducible refine Q.alloc ?_ _) | (with_reducible refine Q.drew ?_) | (with_reducible refine Q.call ?_ (by with_reducible assumption)))), by omega, hrow⟩

set_option maxHeartbeats 4000000 in
theorem c_I_IsLit (w0_Azimuth w0_Slope v_X_Low v_X_High v_Y_Low v_Y_High v_Z_Low v_Z_High : Int) (w : World) : Calls Try.prog 18 #[.agg #[.int .i64 w0_Azimuth, .int .i64 w0_Slope], .agg #[.int .i64 v_X_Low, .int .i64 v_X_High, .int .i64 v_Y_Low, .int .i64 v_Y_High, .int .i64 v_Z_Low, .int .i64 v_Z_High]] w fun e w' => e = .returned (.tuple #[.int .i64 (I_IsLit (⟨w0_Azimuth, w0_Slope⟩ : Wall) (⟨⟨v_X_Low, v_X_High⟩, ⟨v_Y_Low, v_Y_High⟩, ⟨v_Z_Low, v_Z_High⟩⟩ : Vector)).1, .int .i64 (I_IsLit (⟨w0_Azimuth, w0_Slope⟩ : Wall) (⟨⟨v_X_Low, v_X_High⟩, ⟨v_Y_Low, v_Y_High⟩, ⟨v_Z_Low, v_Z_High⟩⟩ : Vector)).2]) ∧ Q w w' := by
  have hset := setRule
  have hall := allocRule
  have halm := allocMark
  have hw64 := wrapRule
  have hwl1 : wrap64 1 = 1 := w64 (by omega)
  have hwl2 : wrap64 2 = 2 := w64 (by omega)
  have hwl3 : wrap64 3 = 3 := w64 (by omega)
  rcases Bool.eq_false_or_eq_true (I_IsWall (⟨w0_Azimuth, w0_Slope⟩ : Wall)) with h0 | h0
  · rcases Bool.eq_false_or_eq_true (I_IsVector (⟨⟨v_X_Low, v_X_High⟩, ⟨v_Y_Low, v_Y_High⟩, ⟨v_Z_Low, v_Z_High⟩⟩ : Vector)) with h1 | h1
    · skip
      by_cases hp : 0 < (I_Vector_dot (⟨⟨v_X_Low, v_X_High⟩, ⟨v_Y_Low, v_Y_High⟩, ⟨v_Z_Low, v_Z_High⟩⟩ : Vector) (I_direction w0_Azimuth w0_Slope)).Low
      · skip
        have hd : I_IsLit (⟨w0_Azimuth, w0_Slope⟩ : Wall) (⟨⟨v_X_Low, v_X_High⟩, ⟨v_Y_Low, v_Y_High⟩, ⟨v_Z_Low, v_Z_High⟩⟩ : Vector) = (1, 0) := by simp [I_IsLit, I_Wall_axes, h0, h1, hp]
        go_enter Try.func18, Try.ntmps18
        go_wp2_with (first | (go_at_call 34; refine (c_I_PartsOf3_ok _ _ _ _ _ _ _ _ _ h0 h1).mono ?_; rintro e w1 ⟨g, cap, rfl, hq, hg0, hrow⟩; obtain ⟨hg1, hgc, hgf⟩ := id hrow; obtain ⟨hc, hf⟩ := hq.rules; have hs := hq.le; (try simp at hs)))
        all_goals go_ret2
        all_goals refine ⟨?_, (by repeat (first | (with_reducible exact Q.refl _) | (with_reducible assumption) | (with_reducible refine Q.setCell ?_ (by dsimp only; omega) _) | (with_reducible refine Q.alloc ?_ _) | (with_reducible refine Q.drew ?_) | (with_reducible refine Q.call ?_ (by with_reducible assumption))))⟩
        all_goals first | (rw [hd]; rfl) | (simp [hd, *]; done)
      · have hp2 : (I_Vector_dot (⟨⟨v_X_Low, v_X_High⟩, ⟨v_Y_Low, v_Y_High⟩, ⟨v_Z_Low, v_Z_High⟩⟩ : Vector) (I_direction w0_Azimuth w0_Slope)).Low ≤ 0 := by omega
        by_cases hn : (I_Vector_dot (⟨⟨v_X_Low, v_X_High⟩, ⟨v_Y_Low, v_Y_High⟩, ⟨v_Z_Low, v_Z_High⟩⟩ : Vector) (I_direction w0_Azimuth w0_Slope)).High < 0
        · skip
          have hd : I_IsLit (⟨w0_Azimuth, w0_Slope⟩ : Wall) (⟨⟨v_X_Low, v_X_High⟩, ⟨v_Y_Low, v_Y_High⟩, ⟨v_Z_Low, v_Z_High⟩⟩ : Vector) = (-1, 0) := by simp [I_IsLit, I_Wall_axes, h0, h1, hp, hn]
          go_enter Try.func18, Try.ntmps18
          go_wp2_with (first | (go_at_call 34; refine (c_I_PartsOf3_ok _ _ _ _ _ _ _ _ _ h0 h1).mono ?_; rintro e w1 ⟨g, cap, rfl, hq, hg0, hrow⟩; obtain ⟨hg1, hgc, hgf⟩ := id hrow; obtain ⟨hc, hf⟩ := hq.rules; have hs := hq.le; (try simp at hs)))
          all_goals go_ret2
          all_goals refine ⟨?_, (by repeat (first | (with_reducible exact Q.refl _) | (with_reducible assumption) | (with_reducible refine Q.setCell ?_ (by dsimp only; omega) _) | (with_reducible refine Q.alloc ?_ _) | (with_reducible refine Q.drew ?_) | (with_reducible refine Q.call ?_ (by with_reducible assumption))))⟩
          all_goals first | (rw [hd]; rfl) | (simp [hd, *]; done)
        · have hn2 : 0 ≤ (I_Vector_dot (⟨⟨v_X_Low, v_X_High⟩, ⟨v_Y_Low, v_Y_High⟩, ⟨v_Z_Low, v_Z_High⟩⟩ : Vector) (I_direction w0_Azimuth w0_Slope)).High := by omega
          have hd : I_IsLit (⟨w0_Azimuth, w0_Slope⟩ : Wall) (⟨⟨v_X_Low, v_X_High⟩, ⟨v_Y_Low, v_Y_High⟩, ⟨v_Z_Low, v_Z_High⟩⟩ : Vector) = (0, 0) := by simp [I_IsLit, I_Wall_axes, h0, h1, hp, hn]
          go_enter Try.func18, Try.ntmps18
          go_wp2_with (first | (go_at_call 34; refine (c_I_PartsOf3_ok _ _ _ _ _ _ _ _ _ h0 h1).mono ?_; rintro e w1 ⟨g, cap, rfl, hq, hg0, hrow⟩; obtain ⟨hg1, hgc, hgf⟩ := id hrow; obtain ⟨hc, hf⟩ := hq.rules; have hs := hq.le; (try simp at hs)))
          all_goals go_ret2
          all_goals refine ⟨?_, (by repeat (first | (with_reducible exact Q.refl _) | (with_reducible assumption) | (with_reducible refine Q.setCell ?_ (by dsimp only; omega) _) | (with_reducible refine Q.alloc ?_ _) | (with_reducible refine Q.drew ?_) | (with_reducible refine Q.call ?_ (by with_reducible assumption))))⟩
          all_goals first | (rw [hd]; rfl) | (simp [hd, *]; done)
    · skip
      have hd : I_IsLit (⟨w0_Azimuth, w0_Slope⟩ : Wall) (⟨⟨v_X_Low, v_X_High⟩, ⟨v_Y_Low, v_Y_High⟩, ⟨v_Z_Low, v_Z_High⟩⟩ : Vector) = (0, 1) := by simp [I_IsLit, I_Wall_axes, h0, h1]
      go_enter Try.func18, Try.ntmps18
      go_wp2_with (first | (go_at_call 34; refine (c_I_PartsOf3_bad1 _ _ _ _ _ _ _ _ _ h0 h1).mono ?_; rintro e w1 ⟨rfl, hq⟩; obtain ⟨hc, hf⟩ := hq.rules; have hs := hq.le; (try simp at hs)))
      all_goals go_ret2
      all_goals refine ⟨?_, (by repeat (first | (with_reducible exact Q.refl _) | (with_reducible assumption) | (with_reducible refine Q.setCell ?_ (by dsimp only; omega) _) | (with_reducible refine Q.alloc ?_ _) | (with_reducible refine Q.drew ?_) | (with_reducible refine Q.call ?_ (by with_reducible assumption))))⟩
      all_goals first | (rw [hd]; rfl) | (simp [hd, *]; done)
  · skip
    have hd : I_IsLit (⟨w0_Azimuth, w0_Slope⟩ : Wall) (⟨⟨v_X_Low, v_X_High⟩, ⟨v_Y_Low, v_Y_High⟩, ⟨v_Z_Low, v_Z_High⟩⟩ : Vector) = (0, 1) := by simp [I_IsLit, I_Wall_axes, h0]
    go_enter Try.func18, Try.ntmps18
    go_wp2_with (first | (go_at_call 34; refine (c_I_PartsOf3_bad0 _ _ _ _ _ _ _ _ _ h0).mono ?_; rintro e w1 ⟨rfl, hq⟩; obtain ⟨hc, hf⟩ := hq.rules; have hs := hq.le; (try simp at hs)))
    all_goals go_ret2
    all_goals refine ⟨?_, (by repeat (first | (with_reducible exact Q.refl _) | (with_reducible assumption) | (with_reducible refine Q.setCell ?_ (by dsimp only; omega) _) | (with_reducible refine Q.alloc ?_ _) | (with_reducible refine Q.drew ?_) | (with_reducible refine Q.call ?_ (by with_reducible assumption))))⟩
    all_goals first | (rw [hd]; rfl) | (simp [hd, *]; done)

set_option maxHeartbeats 8000000 in
theorem c_S_l13Parts (x0 x1 x2 x3 x4 x5 x6 x7 x8 x9 x10 x11 x12 x13 x14 x15 x16 x17 v_X_Low v_X_High v_Y_Low v_Y_High v_Z_Low v_Z_High : Int) (gA capA : Nat) (w : World) (r : Row w gA [.int .i64 x0, .int .i64 x1, .int .i64 x2, .int .i64 x3, .int .i64 x4, .int .i64 x5, .int .i64 x6, .int .i64 x7, .int .i64 x8, .int .i64 x9, .int .i64 x10, .int .i64 x11, .int .i64 x12, .int .i64 x13, .int .i64 x14, .int .i64 x15, .int .i64 x16, .int .i64 x17]) : Calls Try.prog 74 #[.slice (some ⟨gA, 0, none⟩) 3 capA, .agg #[.int .i64 v_X_Low, .int .i64 v_X_High, .int .i64 v_Y_Low, .int .i64 v_Y_High, .int .i64 v_Z_Low, .int .i64 v_Z_High]] w fun e w' => ∃ g, e = .returned (.slice (some ⟨g, 0, none⟩) 3 3) ∧ Q w w' ∧ w.heap.size ≤ g ∧ Row w' g [.int .i64 ((S_l06Dot (⟨⟨x0, x1⟩, ⟨x2, x3⟩, ⟨x4, x5⟩⟩ : Vector) (⟨⟨v_X_Low, v_X_High⟩, ⟨v_Y_Low, v_Y_High⟩, ⟨v_Z_Low, v_Z_High⟩⟩ : Vector))).Low, .int .i64 ((S_l06Dot (⟨⟨x0, x1⟩, ⟨x2, x3⟩, ⟨x4, x5⟩⟩ : Vector) (⟨⟨v_X_Low, v_X_High⟩, ⟨v_Y_Low, v_Y_High⟩, ⟨v_Z_Low, v_Z_High⟩⟩ : Vector))).High, .int .i64 ((S_l06Dot (⟨⟨x6, x7⟩, ⟨x8, x9⟩, ⟨x10, x11⟩⟩ : Vector) (⟨⟨v_X_Low, v_X_High⟩, ⟨v_Y_Low, v_Y_High⟩, ⟨v_Z_Low, v_Z_High⟩⟩ : Vector))).Low, .int .i64 ((S_l06Dot (⟨⟨x6, x7⟩, ⟨x8, x9⟩, ⟨x10, x11⟩⟩ : Vector) (⟨⟨v_X_Low, v_X_High⟩, ⟨v_Y_Low, v_Y_High⟩, ⟨v_Z_Low, v_Z_High⟩⟩ : Vector))).High, .int .i64 ((S_l06Dot (⟨⟨x12, x13⟩, ⟨x14, x15⟩, ⟨x16, x17⟩⟩ : Vector) (⟨⟨v_X_Low, v_X_High⟩, ⟨v_Y_Low, v_Y_High⟩, ⟨v_Z_Low, v_Z_High⟩⟩ : Vector))).Low, .int .i64 ((S_l06Dot (⟨⟨x12, x13⟩, ⟨x14, x15⟩, ⟨x16, x17⟩⟩ : Vector) (⟨⟨v_X_Low, v_X_High⟩, ⟨v_Y_Low, v_Y_High⟩, ⟨v_Z_Low, v_Z_High⟩⟩ : Vector))).High] := by
  have hset := setRule
  have hall := allocRule
  have halm := allocMark
  have hw64 := wrapRule
  have hwl1 : wrap64 1 = 1 := w64 (by omega)
  have hwl2 : wrap64 2 = 2 := w64 (by omega)
  have hwl3 : wrap64 3 = 3 := w64 (by omega)
  obtain ⟨hg1, hgc, hgf⟩ := r
  go_enter Try.func74, Try.ntmps74
  go_wp2_with (first | (go_at_call 71; refine (c_S_l06Dot _ _ _ _ _ _ _ _ _ _ _ _ _ ).mono ?_; rintro e w1 ⟨rfl, hq⟩; obtain ⟨hc, hf⟩ := hq.rules; have hs := hq.le; try simp at hs))
  all_goals try (
    refine region_Q (id := 1) 15 (by kernel_rfl) (by kernel_rfl) ?_
    simp only [List.take_succ_cons, List.take_zero, List.drop_succ_cons, List.drop_zero]
    repeat (first | (apply q_step rfl; (intro wq hq; have hr := Q.rules hq; have hcq := hr.1; have hfq := hr.2; clear hr; have hsq := Q.le hq; (try simp at hsq); go_simp; (repeat (simp (disch := omega) only [if_pos, if_neg]; try go_simp)); (first | rfl | exact ⟨rfl, rfl⟩ | (go_at_call 71; exact quiet_grow hq (c_S_l06Dot _ _ _ _ _ _ _ _ _ _ _ _ _ )))); try go_simp) | (apply q_skip rfl; try go_simp))
    refine wpQuiet_nil ?_
    intro w1 hq
    have hr := Q.rules hq; have hc := hr.1; have hf := hr.2; clear hr; have hs := Q.le hq; try simp at hs)
  all_goals try go_wp2_with (first | (go_at_call 71; refine (c_S_l06Dot _ _ _ _ _ _ _ _ _ _ _ _ _ ).mono ?_; rintro e w1 ⟨rfl, hq⟩; obtain ⟨hc, hf⟩ := hq.rules; have hs := hq.le; try simp at hs))
  all_goals go_ret
  all_goals refine ⟨_, rfl, (by repeat (first | (with_reducible exact Q.refl _) | (with_reducible assumption) | (with_reducible refine Q.setCell ?_ (by dsimp only; omega) _) | (with_reducible refine Q.alloc ?_ _) | (with_reducible refine Q.drew ?_) | (with_reducible refine Q.call ?_ (by with_reducible assumption)))), ?_, Row.new _ _ _⟩
  all_goals first | omega | (simp; omega)

theorem c_I_isLatitude (a : Int) (w : World)  : Calls Try.prog 77 #[.int .i64 a] w fun e w' => e = .returned (.bool ((I_isLatitude a))) ∧ w = w' := by
  have hw64 := wrapRule
  go_enter Try.func77, Try.ntmps77
  go_wp2_with (first | (go_at_call 121; refine (c_I_in _ _ _ _ ).mono ?_; rintro e w1 ⟨rfl, rfl⟩))
  all_goals go_ret
  all_goals refine ⟨?_, rfl⟩
  all_goals first | (simp [I_isLatitude, *]; done) | (simp [I_isLatitude, *]; omega) | (simp [I_isLatitude, *]; simp (disch := omega) only [if_pos, if_neg]; done) | (simp_all [I_isLatitude]; done) | (simp_all [I_isLatitude]; omega)

theorem c_L_eqInterval (a_Low : Int) (a_High : Int) (b_Low : Int) (b_High : Int) (w : World)  : Calls Try.prog 80 #[.agg #[.int .i64 a_Low, .int .i64 a_High], .agg #[.int .i64 b_Low, .int .i64 b_High]] w fun e w' => e = .returned (.bool ((L_eqInterval (⟨a_Low, a_High⟩ : Interval) (⟨b_Low, b_High⟩ : Interval)))) ∧ Q w w' := by
  have hset := setRule
  have hall := allocRule
  have halm := allocMark
  have hw64 := wrapRule
  go_enter Try.func80, Try.ntmps80
  go_wp2
  all_goals go_ret
  all_goals refine ⟨?_, (by (repeat (first | (with_reducible exact Q.refl _) | (with_reducible assumption) | (with_reducible refine Q.setCell ?_ (by dsimp only; omega) _) | (with_reducible refine Q.alloc ?_ _) | (with_reducible refine Q.drew ?_) | (with_reducible refine Q.call ?_ (by with_reducible assumption)))))⟩
  all_goals first | (simp [L_eqInterval, *]; done) | (simp [L_eqInterval, *]; omega) | (simp [L_eqInterval, *]; simp (disch := omega) only [if_pos, if_neg]; done) | (simp_all [L_eqInterval]; done) | (simp_all [L_eqInterval]; omega)

set_option maxHeartbeats 8000000 in
theorem c_L_eqIntervalS3 (x0 x1 x2 x3 x4 x5 : Int) (g g2 cap cap2 : Nat) (w : World) (r : Row w g [.int .i64 x0, .int .i64 x1, .int .i64 x2, .int .i64 x3, .int .i64 x4, .int .i64 x5]) (r2 : Row w g2 [.int .i64 x0, .int .i64 x1, .int .i64 x2, .int .i64 x3, .int .i64 x4, .int .i64 x5]) : Calls Try.prog 21 #[.slice (some ⟨g, 0, none⟩) 3 cap, .slice (some ⟨g2, 0, none⟩) 3 cap2] w fun e w' => e = .returned (.bool true) ∧ Q w w' := by
  have hset := setRule
  have hall := allocRule
  have halm := allocMark
  have hw64 := wrapRule
  have hwl1 : wrap64 1 = 1 := w64 (by omega)
  have hwl2 : wrap64 2 = 2 := w64 (by omega)
  have hwl3 : wrap64 3 = 3 := w64 (by omega)
  have hve : ∀ a : Interval, L_eqInterval a a = true := by intro a; simp [L_eqInterval]
  obtain ⟨hg1, hgc, hgf⟩ := r
  obtain ⟨hk1, hkc, hkf⟩ := r2
  go_enter Try.func21, Try.ntmps21
  go_wp2_with (first | (go_at_call 80; refine (c_L_eqInterval _ _ _ _ _ ).mono ?_; rintro e w1 ⟨rfl, hq⟩; obtain ⟨hc, hf⟩ := hq.rules; have hs := hq.le; try simp at hs))
  all_goals try (refine wp_loop_rounds 4 ?_; rw [rounds_succ])
  all_goals try (go_wp2_with (first | (go_at_call 80; refine (c_L_eqInterval _ _ _ _ _ ).mono ?_; rintro e w1 ⟨rfl, hq⟩; obtain ⟨hc, hf⟩ := hq.rules; have hs := hq.le; try simp at hs)))
  all_goals try (
    refine region_Q_all (id := 6) (by kernel_rfl) (by kernel_rfl) ?_
    repeat (first | (apply q_step rfl; (intro wq hq; have hr := Q.rules hq; have hcq := hr.1; have hfq := hr.2; clear hr; have hsq := Q.le hq; (try simp at hsq); go_simp; (repeat (simp (disch := omega) only [if_pos, if_neg]; try go_simp)); (first | rfl | exact ⟨rfl, rfl⟩ | (go_at_call 80; exact quiet_grow hq (c_L_eqInterval _ _ _ _ _ )))); try go_simp) | (apply q_skip rfl; try go_simp))
    refine wpQuiet_nil ?_
    intro w1 hq
    have hr := Q.rules hq; have hc := hr.1; have hf := hr.2; clear hr; have hs := Q.le hq; try simp at hs)
  all_goals try go_wp2_with (first | (go_at_call 80; refine (c_L_eqInterval _ _ _ _ _ ).mono ?_; rintro e w1 ⟨rfl, hq⟩; obtain ⟨hc, hf⟩ := hq.rules; have hs := hq.le; try simp at hs))
  all_goals try (rw [rounds_succ])
  all_goals try (go_wp2_with (first | (go_at_call 80; refine (c_L_eqInterval _ _ _ _ _ ).mono ?_; rintro e w1 ⟨rfl, hq⟩; obtain ⟨hc, hf⟩ := hq.rules; have hs := hq.le; try simp at hs)))
  all_goals try (
    refine region_Q_all (id := 6) (by kernel_rfl) (by kernel_rfl) ?_
    repeat (first | (apply q_step rfl; (intro wq hq; have hr := Q.rules hq; have hcq := hr.1; have hfq := hr.2; clear hr; have hsq := Q.le hq; (try simp at hsq); go_simp; (repeat (simp (disch := omega) only [if_pos, if_neg]; try go_simp)); (first | rfl | exact ⟨rfl, rfl⟩ | (go_at_call 80; exact quiet_grow hq (c_L_eqInterval _ _ _ _ _ )))); try go_simp) | (apply q_skip rfl; try go_simp))
    refine wpQuiet_nil ?_
    intro w1 hq
    have hr := Q.rules hq; have hc := hr.1; have hf := hr.2; clear hr; have hs := Q.le hq; try simp at hs)
  all_goals try go_wp2_with (first | (go_at_call 80; refine (c_L_eqInterval _ _ _ _ _ ).mono ?_; rintro e w1 ⟨rfl, hq⟩; obtain ⟨hc, hf⟩ := hq.rules; have hs := hq.le; try simp at hs))
  all_goals try (rw [rounds_succ])
  all_goals try (go_wp2_with (first | (go_at_call 80; refine (c_L_eqInterval _ _ _ _ _ ).mono ?_; rintro e w1 ⟨rfl, hq⟩; obtain ⟨hc, hf⟩ := hq.rules; have hs := hq.le; try simp at hs)))
  all_goals try (
    refine region_Q_all (id := 6) (by kernel_rfl) (by kernel_rfl) ?_
    repeat (first | (apply q_step rfl; (intro wq hq; have hr := Q.rules hq; have hcq := hr.1; have hfq := hr.2; clear hr; have hsq := Q.le hq; (try simp at hsq); go_simp; (repeat (simp (disch := omega) only [if_pos, if_neg]; try go_simp)); (first | rfl | exact ⟨rfl, rfl⟩ | (go_at_call 80; exact quiet_grow hq (c_L_eqInterval _ _ _ _ _ )))); try go_simp) | (apply q_skip rfl; try go_simp))
    refine wpQuiet_nil ?_
    intro w1 hq
    have hr := Q.rules hq; have hc := hr.1; have hf := hr.2; clear hr; have hs := Q.le hq; try simp at hs)
  all_goals try go_wp2_with (first | (go_at_call 80; refine (c_L_eqInterval _ _ _ _ _ ).mono ?_; rintro e w1 ⟨rfl, hq⟩; obtain ⟨hc, hf⟩ := hq.rules; have hs := hq.le; try simp at hs))
  all_goals try (rw [rounds_succ])
  all_goals try (go_wp2_with (first | (go_at_call 80; refine (c_L_eqInterval _ _ _ _ _ ).mono ?_; rintro e w1 ⟨rfl, hq⟩; obtain ⟨hc, hf⟩ := hq.rules; have hs := hq.le; try simp at hs)))
  all_goals go_ret
  all_goals refine ⟨?_, (by repeat (first | (with_reducible exact Q.refl _) | (with_reducible assumption) | (with_reducible refine Q.setCell ?_ (by dsimp only; omega) _) | (with_reducible refine Q.alloc ?_ _) | (with_reducible refine Q.drew ?_) | (with_reducible refine Q.call ?_ (by with_reducible assumption))))⟩
  all_goals first | (simp [*]; done) | rfl | (simp_all; done)
theorem c_L_eqIntervalS0 (w : World) : Calls Try.prog 21 #[.slice none 0 0, .slice none 0 0] w fun e w' => e = .returned (.bool true) ∧ Q w w' := by
  have hset := setRule
  have hall := allocRule
  have halm := allocMark
  have hw64 := wrapRule
  go_enter Try.func21, Try.ntmps21
  go_wp2_with (first | (go_at_call 80; refine (c_L_eqInterval _ _ _ _ _ ).mono ?_; rintro e w1 ⟨rfl, hq⟩; obtain ⟨hc, hf⟩ := hq.rules; have hs := hq.le; try simp at hs))
  all_goals try (refine wp_loop_rounds 1 ?_; rw [rounds_succ])
  all_goals try (go_wp2_with (first | (go_at_call 80; refine (c_L_eqInterval _ _ _ _ _ ).mono ?_; rintro e w1 ⟨rfl, hq⟩; obtain ⟨hc, hf⟩ := hq.rules; have hs := hq.le; try simp at hs)))
  all_goals go_ret
  all_goals refine ⟨?_, (by repeat (first | (with_reducible exact Q.refl _) | (with_reducible assumption) | (with_reducible refine Q.setCell ?_ (by dsimp only; omega) _) | (with_reducible refine Q.alloc ?_ _) | (with_reducible refine Q.drew ?_) | (with_reducible refine Q.call ?_ (by with_reducible assumption))))⟩
  all_goals first | (simp [*]; done) | rfl | (simp_all; done)

set_option maxHeartbeats 8000000 in
theorem c_L_markIntervalS3 (x0 x1 x2 x3 x4 x5 : Int) (g cap : Nat) (w : World) (r : Row w g [.int .i64 x0, .int .i64 x1, .int .i64 x2, .int .i64 x3, .int .i64 x4, .int .i64 x5]) : Calls Try.prog 22 #[.slice (some ⟨g, 0, none⟩) 3 cap, .int .i64 1] w fun e w' => e = .returned (.int .i64 7) ∧ w' = markAll w g 1 6 := by
  have hset := setCell_at
  have hsm := setCell_mark
  have hall := allocRule
  have halm := allocMark
  have hw64 := wrapRule
  have hwl1 : wrap64 1 = 1 := w64 (by omega)
  have hwl2 : wrap64 2 = 2 := w64 (by omega)
  have hwl3 : wrap64 3 = 3 := w64 (by omega)
  have hwl4 : wrap64 4 = 4 := w64 (by omega)
  have hwl5 : wrap64 5 = 5 := w64 (by omega)
  have hwl6 : wrap64 6 = 6 := w64 (by omega)
  have hwl7 : wrap64 7 = 7 := w64 (by omega)
  obtain ⟨hg1, hgc, hgf⟩ := r
  go_enter Try.func22, Try.ntmps22
  go_wp2
  all_goals try (refine wp_loop_rounds 4 ?_; rw [rounds_succ])
  all_goals try (go_wp2)
  all_goals try (rw [rounds_succ])
  all_goals try (go_wp2)
  all_goals try (rw [rounds_succ])
  all_goals try (go_wp2)
  all_goals try (rw [rounds_succ])
  all_goals try (go_wp2)
  all_goals go_ret
  all_goals refine ⟨?_, ?_⟩
  all_goals first | (simp [*]; done) | (simp [markAll]; done) | rfl
theorem c_L_markIntervalS0 (w : World) : Calls Try.prog 22 #[.slice none 0 0, .int .i64 1] w fun e w' => e = .returned (.int .i64 1) ∧ Q w w' := by
  have hset := setRule
  have hall := allocRule
  have halm := allocMark
  have hw64 := wrapRule
  go_enter Try.func22, Try.ntmps22
  go_wp2
  all_goals try (refine wp_loop_rounds 1 ?_; rw [rounds_succ])
  all_goals try (go_wp2)
  all_goals go_ret
  all_goals refine ⟨?_, (by repeat (first | (with_reducible exact Q.refl _) | (with_reducible assumption) | (with_reducible refine Q.setCell ?_ (by dsimp only; omega) _) | (with_reducible refine Q.alloc ?_ _) | (with_reducible refine Q.drew ?_) | (with_reducible refine Q.call ?_ (by with_reducible assumption))))⟩
  all_goals first | (simp [*]; done) | rfl | (simp_all; done)

set_option maxHeartbeats 8000000 in
theorem c_L_heldIntervalS3 (g cap : Nat) (w : World) (r : Row w g (marks 1 6)) : Calls Try.prog 23 #[.slice (some ⟨g, 0, none⟩) 3 cap, .int .i64 1] w fun e w' => e = .returned (.int .i64 7) ∧ Q w w' := by
  have hset := setRule
  have hall := allocRule
  have halm := allocMark
  have hw64 := wrapRule
  have hwl1 : wrap64 1 = 1 := w64 (by omega)
  have hwl2 : wrap64 2 = 2 := w64 (by omega)
  have hwl3 : wrap64 3 = 3 := w64 (by omega)
  have hwl4 : wrap64 4 = 4 := w64 (by omega)
  have hwl5 : wrap64 5 = 5 := w64 (by omega)
  have hwl6 : wrap64 6 = 6 := w64 (by omega)
  have hwl7 : wrap64 7 = 7 := w64 (by omega)
  have hm : marks 1 6 = [.int .i64 1, .int .i64 2, .int .i64 3, .int .i64 4, .int .i64 5, .int .i64 6] := rfl
  rw [hm] at r
  obtain ⟨hg1, hgc, hgf⟩ := r
  go_enter Try.func23, Try.ntmps23
  go_wp2
  all_goals try (refine wp_loop_rounds 4 ?_; rw [rounds_succ])
  all_goals try (go_wp2)
  all_goals try (rw [rounds_succ])
  all_goals try (go_wp2)
  all_goals try (rw [rounds_succ])
  all_goals try (go_wp2)
  all_goals try (rw [rounds_succ])
  all_goals try (go_wp2)
  all_goals go_ret
  all_goals refine ⟨?_, (by repeat (first | (with_reducible exact Q.refl _) | (with_reducible assumption) | (with_reducible refine Q.setCell ?_ (by dsimp only; omega) _) | (with_reducible refine Q.alloc ?_ _) | (with_reducible refine Q.drew ?_) | (with_reducible refine Q.call ?_ (by with_reducible assumption))))⟩
  all_goals first | (simp [*]; done) | rfl | (simp_all; done)
theorem c_L_heldIntervalS0 (w : World) : Calls Try.prog 23 #[.slice none 0 0, .int .i64 1] w fun e w' => e = .returned (.int .i64 1) ∧ Q w w' := by
  have hset := setRule
  have hall := allocRule
  have halm := allocMark
  have hw64 := wrapRule
  go_enter Try.func23, Try.ntmps23
  go_wp2
  all_goals try (refine wp_loop_rounds 1 ?_; rw [rounds_succ])
  all_goals try (go_wp2)
  all_goals go_ret
  all_goals refine ⟨?_, (by repeat (first | (with_reducible exact Q.refl _) | (with_reducible assumption) | (with_reducible refine Q.setCell ?_ (by dsimp only; omega) _) | (with_reducible refine Q.alloc ?_ _) | (with_reducible refine Q.drew ?_) | (with_reducible refine Q.call ?_ (by with_reducible assumption))))⟩
  all_goals first | (simp [*]; done) | rfl | (simp_all; done)

theorem c_L_eqVector (a_X_Low : Int) (a_X_High : Int) (a_Y_Low : Int) (a_Y_High : Int) (a_Z_Low : Int) (a_Z_High : Int) (b_X_Low : Int) (b_X_High : Int) (b_Y_Low : Int) (b_Y_High : Int) (b_Z_Low : Int) (b_Z_High : Int) (w : World)  : Calls Try.prog 32 #[.agg #[.int .i64 a_X_Low, .int .i64 a_X_High, .int .i64 a_Y_Low, .int .i64 a_Y_High, .int .i64 a_Z_Low, .int .i64 a_Z_High], .agg #[.int .i64 b_X_Low, .int .i64 b_X_High, .int .i64 b_Y_Low, .int .i64 b_Y_High, .int .i64 b_Z_Low, .int .i64 b_Z_High]] w fun e w' => e = .returned (.bool ((L_eqVector (⟨(⟨a_X_Low, a_X_High⟩ : Interval), (⟨a_Y_Low, a_Y_High⟩ : Interval), (⟨a_Z_Low, a_Z_High⟩ : Interval)⟩ : Vector) (⟨(⟨b_X_Low, b_X_High⟩ : Interval), (⟨b_Y_Low, b_Y_High⟩ : Interval), (⟨b_Z_Low, b_Z_High⟩ : Interval)⟩ : Vector)))) ∧ Q w w' := by
  have hset := setRule
  have hall := allocRule
  have halm := allocMark
  have hw64 := wrapRule
  go_enter Try.func32, Try.ntmps32
  go_wp2_with (first | (go_at_call 80; refine (c_L_eqInterval _ _ _ _ _ ).mono ?_; rintro e w1 ⟨rfl, hq⟩; obtain ⟨hc, hf⟩ := hq.rules; have hs := hq.le; try simp at hs))
  all_goals go_ret
  all_goals refine ⟨?_, (by (repeat (first | (with_reducible exact Q.refl _) | (with_reducible assumption) | (with_reducible refine Q.setCell ?_ (by dsimp only; omega) _) | (with_reducible refine Q.alloc ?_ _) | (with_reducible refine Q.drew ?_) | (with_reducible refine Q.call ?_ (by with_reducible assumption)))))⟩
  all_goals first | (simp [L_eqVector, *]; done) | (simp [L_eqVector, *]; omega) | (simp [L_eqVector, *]; simp (disch := omega) only [if_pos, if_neg]; done) | (simp_all [L_eqVector]; done) | (simp_all [L_eqVector]; omega)

set_option maxHeartbeats 8000000 in
theorem c_L_eqVectorS3 (x0 x1 x2 x3 x4 x5 x6 x7 x8 x9 x10 x11 x12 x13 x14 x15 x16 x17 : Int) (g g2 cap cap2 : Nat) (w : World) (r : Row w g [.int .i64 x0, .int .i64 x1, .int .i64 x2, .int .i64 x3, .int .i64 x4, .int .i64 x5, .int .i64 x6, .int .i64 x7, .int .i64 x8, .int .i64 x9, .int .i64 x10, .int .i64 x11, .int .i64 x12, .int .i64 x13, .int .i64 x14, .int .i64 x15, .int .i64 x16, .int .i64 x17]) (r2 : Row w g2 [.int .i64 x0, .int .i64 x1, .int .i64 x2, .int .i64 x3, .int .i64 x4, .int .i64 x5, .int .i64 x6, .int .i64 x7, .int .i64 x8, .int .i64 x9, .int .i64 x10, .int .i64 x11, .int .i64 x12, .int .i64 x13, .int .i64 x14, .int .i64 x15, .int .i64 x16, .int .i64 x17]) : Calls Try.prog 26 #[.slice (some ⟨g, 0, none⟩) 3 cap, .slice (some ⟨g2, 0, none⟩) 3 cap2] w fun e w' => e = .returned (.bool true) ∧ Q w w' := by
  have hset := setRule
  have hall := allocRule
  have halm := allocMark
  have hw64 := wrapRule
  have hwl1 : wrap64 1 = 1 := w64 (by omega)
  have hwl2 : wrap64 2 = 2 := w64 (by omega)
  have hwl3 : wrap64 3 = 3 := w64 (by omega)
  have hve : ∀ a : Vector, L_eqVector a a = true := by intro a; simp [L_eqInterval, L_eqVector]
  obtain ⟨hg1, hgc, hgf⟩ := r
  obtain ⟨hk1, hkc, hkf⟩ := r2
  go_enter Try.func26, Try.ntmps26
  go_wp2_with (first | (go_at_call 32; refine (c_L_eqVector _ _ _ _ _ _ _ _ _ _ _ _ _ ).mono ?_; rintro e w1 ⟨rfl, hq⟩; obtain ⟨hc, hf⟩ := hq.rules; have hs := hq.le; try simp at hs))
  all_goals try (refine wp_loop_rounds 4 ?_; rw [rounds_succ])
  all_goals try (go_wp2_with (first | (go_at_call 32; refine (c_L_eqVector _ _ _ _ _ _ _ _ _ _ _ _ _ ).mono ?_; rintro e w1 ⟨rfl, hq⟩; obtain ⟨hc, hf⟩ := hq.rules; have hs := hq.le; try simp at hs)))
  all_goals try (
    refine region_Q_all (id := 6) (by kernel_rfl) (by kernel_rfl) ?_
    repeat (first | (apply q_step rfl; (intro wq hq; have hr := Q.rules hq; have hcq := hr.1; have hfq := hr.2; clear hr; have hsq := Q.le hq; (try simp at hsq); go_simp; (repeat (simp (disch := omega) only [if_pos, if_neg]; try go_simp)); (first | rfl | exact ⟨rfl, rfl⟩ | (go_at_call 32; exact quiet_grow hq (c_L_eqVector _ _ _ _ _ _ _ _ _ _ _ _ _ )))); try go_simp) | (apply q_skip rfl; try go_simp))
    refine wpQuiet_nil ?_
    intro w1 hq
    have hr := Q.rules hq; have hc := hr.1; have hf := hr.2; clear hr; have hs := Q.le hq; try simp at hs)
  all_goals try go_wp2_with (first | (go_at_call 32; refine (c_L_eqVector _ _ _ _ _ _ _ _ _ _ _ _ _ ).mono ?_; rintro e w1 ⟨rfl, hq⟩; obtain ⟨hc, hf⟩ := hq.rules; have hs := hq.le; try simp at hs))
  all_goals try (rw [rounds_succ])
  all_goals try (go_wp2_with (first | (go_at_call 32; refine (c_L_eqVector _ _ _ _ _ _ _ _ _ _ _ _ _ ).mono ?_; rintro e w1 ⟨rfl, hq⟩; obtain ⟨hc, hf⟩ := hq.rules; have hs := hq.le; try simp at hs)))
  all_goals try (
    refine region_Q_all (id := 6) (by kernel_rfl) (by kernel_rfl) ?_
    repeat (first | (apply q_step rfl; (intro wq hq; have hr := Q.rules hq; have hcq := hr.1; have hfq := hr.2; clear hr; have hsq := Q.le hq; (try simp at hsq); go_simp; (repeat (simp (disch := omega) only [if_pos, if_neg]; try go_simp)); (first | rfl | exact ⟨rfl, rfl⟩ | (go_at_call 32; exact quiet_grow hq (c_L_eqVector _ _ _ _ _ _ _ _ _ _ _ _ _ )))); try go_simp) | (apply q_skip rfl; try go_simp))
    refine wpQuiet_nil ?_
    intro w1 hq
    have hr := Q.rules hq; have hc := hr.1; have hf := hr.2; clear hr; have hs := Q.le hq; try simp at hs)
  all_goals try go_wp2_with (first | (go_at_call 32; refine (c_L_eqVector _ _ _ _ _ _ _ _ _ _ _ _ _ ).mono ?_; rintro e w1 ⟨rfl, hq⟩; obtain ⟨hc, hf⟩ := hq.rules; have hs := hq.le; try simp at hs))
  all_goals try (rw [rounds_succ])
  all_goals try (go_wp2_with (first | (go_at_call 32; refine (c_L_eqVector _ _ _ _ _ _ _ _ _ _ _ _ _ ).mono ?_; rintro e w1 ⟨rfl, hq⟩; obtain ⟨hc, hf⟩ := hq.rules; have hs := hq.le; try simp at hs)))
  all_goals try (
    refine region_Q_all (id := 6) (by kernel_rfl) (by kernel_rfl) ?_
    repeat (first | (apply q_step rfl; (intro wq hq; have hr := Q.rules hq; have hcq := hr.1; have hfq := hr.2; clear hr; have hsq := Q.le hq; (try simp at hsq); go_simp; (repeat (simp (disch := omega) only [if_pos, if_neg]; try go_simp)); (first | rfl | exact ⟨rfl, rfl⟩ | (go_at_call 32; exact quiet_grow hq (c_L_eqVector _ _ _ _ _ _ _ _ _ _ _ _ _ )))); try go_simp) | (apply q_skip rfl; try go_simp))
    refine wpQuiet_nil ?_
    intro w1 hq
    have hr := Q.rules hq; have hc := hr.1; have hf := hr.2; clear hr; have hs := Q.le hq; try simp at hs)
  all_goals try go_wp2_with (first | (go_at_call 32; refine (c_L_eqVector _ _ _ _ _ _ _ _ _ _ _ _ _ ).mono ?_; rintro e w1 ⟨rfl, hq⟩; obtain ⟨hc, hf⟩ := hq.rules; have hs := hq.le; try simp at hs))
  all_goals try (rw [rounds_succ])
  all_goals try (go_wp2_with (first | (go_at_call 32; refine (c_L_eqVector _ _ _ _ _ _ _ _ _ _ _ _ _ ).mono ?_; rintro e w1 ⟨rfl, hq⟩; obtain ⟨hc, hf⟩ := hq.rules; have hs := hq.le; try simp at hs)))
  all_goals go_ret
  all_goals refine ⟨?_, (by repeat (first | (with_reducible exact Q.refl _) | (with_reducible assumption) | (with_reducible refine Q.setCell ?_ (by dsimp only; omega) _) | (with_reducible refine Q.alloc ?_ _) | (with_reducible refine Q.drew ?_) | (with_reducible refine Q.call ?_ (by with_reducible assumption))))⟩
  all_goals first | (simp [*]; done) | rfl | (simp_all; done)
theorem c_L_eqVectorS0 (w : World) : Calls Try.prog 26 #[.slice none 0 0, .slice none 0 0] w fun e w' => e = .returned (.bool true) ∧ Q w w' := by
  have hset := setRule
  have hall := allocRule
  have halm := allocMark
  have hw64 := wrapRule
  go_enter Try.func26, Try.ntmps26
  go_wp2_with (first | (go_at_call 32; refine (c_L_eqVector _ _ _ _ _ _ _ _ _ _ _ _ _ ).mono ?_; rintro e w1 ⟨rfl, hq⟩; obtain ⟨hc, hf⟩ := hq.rules; have hs := hq.le; try simp at hs))
  all_goals try (refine wp_loop_rounds 1 ?_; rw [rounds_succ])
  all_goals try (go_wp2_with (first | (go_at_call 32; refine (c_L_eqVector _ _ _ _ _ _ _ _ _ _ _ _ _ ).mono ?_; rintro e w1 ⟨rfl, hq⟩; obtain ⟨hc, hf⟩ := hq.rules; have hs := hq.le; try simp at hs)))
  all_goals go_ret
  all_goals refine ⟨?_, (by repeat (first | (with_reducible exact Q.refl _) | (with_reducible assumption) | (with_reducible refine Q.setCell ?_ (by dsimp only; omega) _) | (with_reducible refine Q.alloc ?_ _) | (with_reducible refine Q.drew ?_) | (with_reducible refine Q.call ?_ (by with_reducible assumption))))⟩
  all_goals first | (simp [*]; done) | rfl | (simp_all; done)

set_option maxHeartbeats 8000000 in
theorem c_L_markVectorS3 (x0 x1 x2 x3 x4 x5 x6 x7 x8 x9 x10 x11 x12 x13 x14 x15 x16 x17 : Int) (g cap : Nat) (w : World) (r : Row w g [.int .i64 x0, .int .i64 x1, .int .i64 x2, .int .i64 x3, .int .i64 x4, .int .i64 x5, .int .i64 x6, .int .i64 x7, .int .i64 x8, .int .i64 x9, .int .i64 x10, .int .i64 x11, .int .i64 x12, .int .i64 x13, .int .i64 x14, .int .i64 x15, .int .i64 x16, .int .i64 x17]) : Calls Try.prog 27 #[.slice (some ⟨g, 0, none⟩) 3 cap, .int .i64 1] w fun e w' => e = .returned (.int .i64 19) ∧ w' = markAll w g 1 18 := by
  have hset := setCell_at
  have hsm := setCell_mark
  have hall := allocRule
  have halm := allocMark
  have hw64 := wrapRule
  have hwl1 : wrap64 1 = 1 := w64 (by omega)
  have hwl2 : wrap64 2 = 2 := w64 (by omega)
  have hwl3 : wrap64 3 = 3 := w64 (by omega)
  have hwl4 : wrap64 4 = 4 := w64 (by omega)
  have hwl5 : wrap64 5 = 5 := w64 (by omega)
  have hwl6 : wrap64 6 = 6 := w64 (by omega)
  have hwl7 : wrap64 7 = 7 := w64 (by omega)
  have hwl8 : wrap64 8 = 8 := w64 (by omega)
  have hwl9 : wrap64 9 = 9 := w64 (by omega)
  have hwl10 : wrap64 10 = 10 := w64 (by omega)
  have hwl11 : wrap64 11 = 11 := w64 (by omega)
  have hwl12 : wrap64 12 = 12 := w64 (by omega)
  have hwl13 : wrap64 13 = 13 := w64 (by omega)
  have hwl14 : wrap64 14 = 14 := w64 (by omega)
  have hwl15 : wrap64 15 = 15 := w64 (by omega)
  have hwl16 : wrap64 16 = 16 := w64 (by omega)
  have hwl17 : wrap64 17 = 17 := w64 (by omega)
  have hwl18 : wrap64 18 = 18 := w64 (by omega)
  have hwl19 : wrap64 19 = 19 := w64 (by omega)
  obtain ⟨hg1, hgc, hgf⟩ := r
  go_enter Try.func27, Try.ntmps27
  go_wp2
  all_goals try (refine wp_loop_rounds 4 ?_; rw [rounds_succ])
  all_goals try (go_wp2)
  all_goals try (rw [rounds_succ])
  all_goals try (go_wp2)
  all_goals try (rw [rounds_succ])
  all_goals try (go_wp2)
  all_goals try (rw [rounds_succ])
  all_goals try (go_wp2)
  all_goals go_ret
  all_goals refine ⟨?_, ?_⟩
  all_goals first | (simp [*]; done) | (simp [markAll]; done) | rfl
theorem c_L_markVectorS0 (w : World) : Calls Try.prog 27 #[.slice none 0 0, .int .i64 1] w fun e w' => e = .returned (.int .i64 1) ∧ Q w w' := by
  have hset := setRule
  have hall := allocRule
  have halm := allocMark
  have hw64 := wrapRule
  go_enter Try.func27, Try.ntmps27
  go_wp2
  all_goals try (refine wp_loop_rounds 1 ?_; rw [rounds_succ])
  all_goals try (go_wp2)
  all_goals go_ret
  all_goals refine ⟨?_, (by repeat (first | (with_reducible exact Q.refl _) | (with_reducible assumption) | (with_reducible refine Q.setCell ?_ (by dsimp only; omega) _) | (with_reducible refine Q.alloc ?_ _) | (with_reducible refine Q.drew ?_) | (with_reducible refine Q.call ?_ (by with_reducible assumption))))⟩
  all_goals first | (simp [*]; done) | rfl | (simp_all; done)

set_option maxHeartbeats 8000000 in
theorem c_L_heldVectorS3 (g cap : Nat) (w : World) (r : Row w g (marks 1 18)) : Calls Try.prog 28 #[.slice (some ⟨g, 0, none⟩) 3 cap, .int .i64 1] w fun e w' => e = .returned (.int .i64 19) ∧ Q w w' := by
  have hset := setRule
  have hall := allocRule
  have halm := allocMark
  have hw64 := wrapRule
  have hwl1 : wrap64 1 = 1 := w64 (by omega)
  have hwl2 : wrap64 2 = 2 := w64 (by omega)
  have hwl3 : wrap64 3 = 3 := w64 (by omega)
  have hwl4 : wrap64 4 = 4 := w64 (by omega)
  have hwl5 : wrap64 5 = 5 := w64 (by omega)
  have hwl6 : wrap64 6 = 6 := w64 (by omega)
  have hwl7 : wrap64 7 = 7 := w64 (by omega)
  have hwl8 : wrap64 8 = 8 := w64 (by omega)
  have hwl9 : wrap64 9 = 9 := w64 (by omega)
  have hwl10 : wrap64 10 = 10 := w64 (by omega)
  have hwl11 : wrap64 11 = 11 := w64 (by omega)
  have hwl12 : wrap64 12 = 12 := w64 (by omega)
  have hwl13 : wrap64 13 = 13 := w64 (by omega)
  have hwl14 : wrap64 14 = 14 := w64 (by omega)
  have hwl15 : wrap64 15 = 15 := w64 (by omega)
  have hwl16 : wrap64 16 = 16 := w64 (by omega)
  have hwl17 : wrap64 17 = 17 := w64 (by omega)
  have hwl18 : wrap64 18 = 18 := w64 (by omega)
  have hwl19 : wrap64 19 = 19 := w64 (by omega)
  have hm : marks 1 18 = [.int .i64 1, .int .i64 2, .int .i64 3, .int .i64 4, .int .i64 5, .int .i64 6, .int .i64 7, .int .i64 8, .int .i64 9, .int .i64 10, .int .i64 11, .int .i64 12, .int .i64 13, .int .i64 14, .int .i64 15, .int .i64 16, .int .i64 17, .int .i64 18] := rfl
  rw [hm] at r
  obtain ⟨hg1, hgc, hgf⟩ := r
  go_enter Try.func28, Try.ntmps28
  go_wp2
  all_goals try (refine wp_loop_rounds 4 ?_; rw [rounds_succ])
  all_goals try (go_wp2)
  all_goals try (rw [rounds_succ])
  all_goals try (go_wp2)
  all_goals try (rw [rounds_succ])
  all_goals try (go_wp2)
  all_goals try (rw [rounds_succ])
  all_goals try (go_wp2)
  all_goals go_ret
  all_goals refine ⟨?_, (by repeat (first | (with_reducible exact Q.refl _) | (with_reducible assumption) | (with_reducible refine Q.setCell ?_ (by dsimp only; omega) _) | (with_reducible refine Q.alloc ?_ _) | (with_reducible refine Q.drew ?_) | (with_reducible refine Q.call ?_ (by with_reducible assumption))))⟩
  all_goals first | (simp [*]; done) | rfl | (simp_all; done)
theorem c_L_heldVectorS0 (w : World) : Calls Try.prog 28 #[.slice none 0 0, .int .i64 1] w fun e w' => e = .returned (.int .i64 1) ∧ Q w w' := by
  have hset := setRule
  have hall := allocRule
  have halm := allocMark
  have hw64 := wrapRule
  go_enter Try.func28, Try.ntmps28
  go_wp2
  all_goals try (refine wp_loop_rounds 1 ?_; rw [rounds_succ])
  all_goals try (go_wp2)
  all_goals go_ret
  all_goals refine ⟨?_, (by repeat (first | (with_reducible exact Q.refl _) | (with_reducible assumption) | (with_reducible refine Q.setCell ?_ (by dsimp only; omega) _) | (with_reducible refine Q.alloc ?_ _) | (with_reducible refine Q.drew ?_) | (with_reducible refine Q.call ?_ (by with_reducible assumption))))⟩
  all_goals first | (simp [*]; done) | rfl | (simp_all; done)

end Go.Proofs.Ythooejkmccdfjaa
