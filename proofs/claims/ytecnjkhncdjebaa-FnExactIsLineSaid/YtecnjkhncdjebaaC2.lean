/- Contracts of Go functions of the plain fragment, with their walks; printed by a program of the author's own. -/
import Derived.Test.YtecnjkhncdjebaaRows
import Derived.Test.YtecnjkhncdjebaaDefs
import Derived.Test.YtecnjkhncdjebaaC1
import Derived.Test.YtecnjkhncdjebaaFresh
import Derived.Test.YtecnjkhncdjebaaM2
import Derived.WalkKit
import Derived.ProofKit
import Derived.OpenShut
import Derived.WalkLawsBesides
import Derived.BigQuiet
import Derived.Deep.QuietTactic
import Derived.Deep.LoopGhost
import Derived.LoopN
import Derived.Deep.RegionWith
import Derived.Test.YtecnjkhncdjebaaOwn
namespace Go.Proofs.Ytecnjkhncdjebaa
open Go.ChangeShapes Go.WideShapes Go.ChangeAt Go.RowKit
set_option linter.unusedVariables false
set_option linter.unusedSimpArgs false
theorem c_S_l14Middle (p_X_Low : Int) (p_X_High : Int) (p_Y_Low : Int) (p_Y_High : Int) (w : World)  : Calls Try.prog 58 #[.agg #[.int .i64 p_X_Low, .int .i64 p_X_High, .int .i64 p_Y_Low, .int .i64 p_Y_High]] w fun e w' => e = .returned (.tuple #[.int .i64 ((S_l14Middle (⟨(⟨p_X_Low, p_X_High⟩ : Interval), (⟨p_Y_Low, p_Y_High⟩ : Interval)⟩ : Place)).1), .int .i64 ((S_l14Middle (⟨(⟨p_X_Low, p_X_High⟩ : Interval), (⟨p_Y_Low, p_Y_High⟩ : Interval)⟩ : Place)).2)]) ∧ Q w w' := by
  have hset := setRule
  have hall := allocRule
  have halm := allocMark
  have hw64 := wrapRule
  go_enter Try.func58, Try.ntmps58
  go_wp2_with (first | (go_at_call 92; refine (c_S_l01Floor _ _ _ (by first | assumption | decide | omega | (unfold wrap64; omega))).mono ?_; rintro e w1 ⟨rfl, rfl⟩))
  all_goals try (
    refine region_Q_all (id := 1) (by kernel_rfl) (by kernel_rfl) ?_
    repeat (first | (apply q_step rfl; (intro wq hq; have hr := Q.rules hq; have hcq := hr.1; have hfq := hr.2; clear hr; have hsq := Q.le hq; (try simp at hsq); go_simp; (repeat (simp (disch := omega) only [if_pos, if_neg]; try go_simp)); (first | rfl | exact ⟨rfl, rfl⟩ | (go_at_call 92; exact quiet_same hq (c_S_l01Floor _ _ _ (by first | assumption | decide | omega | (unfold wrap64; omega)))))); try go_simp) | (apply q_skip rfl; try go_simp))
    refine wpQuiet_nil ?_
    intro w1 hq
    have hr := Q.rules hq; have hc := hr.1; have hf := hr.2; clear hr; have hs := Q.le hq; try simp at hs)
  all_goals try go_wp2_with (first | (go_at_call 92; refine (c_S_l01Floor _ _ _ (by first | assumption | decide | omega | (unfold wrap64; omega))).mono ?_; rintro e w1 ⟨rfl, rfl⟩))
  all_goals go_ret2
  all_goals refine ⟨?_, (by (repeat (first | (with_reducible exact Q.refl _) | (with_reducible assumption) | (with_reducible refine Q.setCell ?_ (by dsimp only; omega) _) | (with_reducible refine Q.alloc ?_ _) | (with_reducible refine Q.drew ?_) | (with_reducible refine Q.call ?_ (by with_reducible assumption)))))⟩
  all_goals first | (simp [S_l14Middle, *]; done) | (simp [S_l14Middle, *]; omega) | (simp [S_l14Middle, *]; simp (disch := omega) only [if_pos, if_neg]; done) | (simp_all [S_l14Middle]; done) | (simp_all [S_l14Middle]; omega)

theorem c_S_MiddleOf (p_X_Low : Int) (p_X_High : Int) (p_Y_Low : Int) (p_Y_High : Int) (w : World)  : Calls Try.prog 22 #[.agg #[.int .i64 p_X_Low, .int .i64 p_X_High, .int .i64 p_Y_Low, .int .i64 p_Y_High]] w fun e w' => e = .returned (.tuple #[.int .i64 ((S_MiddleOf (⟨(⟨p_X_Low, p_X_High⟩ : Interval), (⟨p_Y_Low, p_Y_High⟩ : Interval)⟩ : Place)).1), .int .i64 ((S_MiddleOf (⟨(⟨p_X_Low, p_X_High⟩ : Interval), (⟨p_Y_Low, p_Y_High⟩ : Interval)⟩ : Place)).2.1), .int .i64 ((S_MiddleOf (⟨(⟨p_X_Low, p_X_High⟩ : Interval), (⟨p_Y_Low, p_Y_High⟩ : Interval)⟩ : Place)).2.2)]) ∧ Q w w' := by
  have hset := setRule
  have hall := allocRule
  have halm := allocMark
  have hw64 := wrapRule
  go_enter Try.func22, Try.ntmps22
  go_wp2_with (first | (go_at_call 57; refine (c_S_IsPlace _ _ _ _ _ ).mono ?_; rintro e w1 ⟨rfl, hq⟩; obtain ⟨hc, hf⟩ := hq.rules; have hs := hq.le; try simp at hs) | (go_at_call 58; refine (c_S_l14Middle _ _ _ _ _ ).mono ?_; rintro e w1 ⟨rfl, hq⟩; obtain ⟨hc, hf⟩ := hq.rules; have hs := hq.le; try simp at hs))
  all_goals go_ret3
  all_goals refine ⟨?_, (by (repeat (first | (with_reducible exact Q.refl _) | (with_reducible assumption) | (with_reducible refine Q.setCell ?_ (by dsimp only; omega) _) | (with_reducible refine Q.alloc ?_ _) | (with_reducible refine Q.drew ?_) | (with_reducible refine Q.call ?_ (by with_reducible assumption)))))⟩
  all_goals first | (simp [S_MiddleOf, *]; done) | (simp [S_MiddleOf, *]; omega) | (simp [S_MiddleOf, *]; simp (disch := omega) only [if_pos, if_neg]; done) | (simp_all [S_MiddleOf]; done) | (simp_all [S_MiddleOf]; omega)

set_option maxHeartbeats 1000000 in
theorem c_L_toInterval (a_Low : Int) (a_High : Int) (w : World)  : Calls Try.prog 59 #[.agg #[.int .i64 a_Low, .int .i64 a_High]] w fun e w' => e = .returned (.agg #[.int .i64 ((L_toInterval (⟨a_Low, a_High⟩ : Interval)).Low), .int .i64 ((L_toInterval (⟨a_Low, a_High⟩ : Interval)).High)]) ∧ Q w w' := by
  have hset := setRule
  have hall := allocRule
  have halm := allocMark
  have hw64 := wrapRule
  go_enter Try.func59, Try.ntmps59
  go_wp2
  all_goals
    refine bodyPost_ret (v := .agg #[.int .i64 ((L_toInterval (⟨a_Low, a_High⟩ : Interval)).Low), .int .i64 ((L_toInterval (⟨a_Low, a_High⟩ : Interval)).High)]) ?_ rfl ⟨rfl, ?_⟩
    · first | (simp [results, Try.results59, go_sem, L_toInterval, *]; done) | (simp [results, Try.results59, go_sem, *]; repeat (simp (disch := omega) only [if_pos, if_neg]; try simp [go_sem, L_toInterval, *]))
    · (repeat (first | (with_reducible exact Q.refl _) | (with_reducible assumption) | (with_reducible refine Q.setCell ?_ (by dsimp only; omega) _) | (with_reducible refine Q.alloc ?_ _) | (with_reducible refine Q.drew ?_) | (with_reducible refine Q.call ?_ (by with_reducible assumption))))

set_option maxHeartbeats 1000000 in
theorem c_L_toPlace (a_X_Low : Int) (a_X_High : Int) (a_Y_Low : Int) (a_Y_High : Int) (w : World)  : Calls Try.prog 23 #[.agg #[.int .i64 a_X_Low, .int .i64 a_X_High, .int .i64 a_Y_Low, .int .i64 a_Y_High]] w fun e w' => e = .returned (.agg #[.int .i64 ((L_toPlace (⟨(⟨a_X_Low, a_X_High⟩ : Interval), (⟨a_Y_Low, a_Y_High⟩ : Interval)⟩ : Place)).X.Low), .int .i64 ((L_toPlace (⟨(⟨a_X_Low, a_X_High⟩ : Interval), (⟨a_Y_Low, a_Y_High⟩ : Interval)⟩ : Place)).X.High), .int .i64 ((L_toPlace (⟨(⟨a_X_Low, a_X_High⟩ : Interval), (⟨a_Y_Low, a_Y_High⟩ : Interval)⟩ : Place)).Y.Low), .int .i64 ((L_toPlace (⟨(⟨a_X_Low, a_X_High⟩ : Interval), (⟨a_Y_Low, a_Y_High⟩ : Interval)⟩ : Place)).Y.High)]) ∧ Q w w' := by
  have hset := setRule
  have hall := allocRule
  have halm := allocMark
  have hw64 := wrapRule
  go_enter Try.func23, Try.ntmps23
  go_wp2_with (first | (go_at_call 59; refine (c_L_toInterval _ _ _ ).mono ?_; rintro e w1 ⟨rfl, hq⟩; obtain ⟨hc, hf⟩ := hq.rules; have hs := hq.le; try simp at hs))
  all_goals
    refine bodyPost_ret (v := .agg #[.int .i64 ((L_toPlace (⟨(⟨a_X_Low, a_X_High⟩ : Interval), (⟨a_Y_Low, a_Y_High⟩ : Interval)⟩ : Place)).X.Low), .int .i64 ((L_toPlace (⟨(⟨a_X_Low, a_X_High⟩ : Interval), (⟨a_Y_Low, a_Y_High⟩ : Interval)⟩ : Place)).X.High), .int .i64 ((L_toPlace (⟨(⟨a_X_Low, a_X_High⟩ : Interval), (⟨a_Y_Low, a_Y_High⟩ : Interval)⟩ : Place)).Y.Low), .int .i64 ((L_toPlace (⟨(⟨a_X_Low, a_X_High⟩ : Interval), (⟨a_Y_Low, a_Y_High⟩ : Interval)⟩ : Place)).Y.High)]) ?_ rfl ⟨rfl, ?_⟩
    · first | (simp [results, Try.results23, go_sem, L_toPlace, *]; done) | (simp [results, Try.results23, go_sem, *]; repeat (simp (disch := omega) only [if_pos, if_neg]; try simp [go_sem, L_toPlace, *]))
    · (repeat (first | (with_reducible exact Q.refl _) | (with_reducible assumption) | (with_reducible refine Q.setCell ?_ (by dsimp only; omega) _) | (with_reducible refine Q.alloc ?_ _) | (with_reducible refine Q.drew ?_) | (with_reducible refine Q.call ?_ (by with_reducible assumption))))

theorem c_I_Interval_within (a_Low : Int) (a_High : Int) (most : Int) (w : World)  : Calls Try.prog 93 #[.agg #[.int .i64 a_Low, .int .i64 a_High], .int .i64 most] w fun e w' => e = .returned (.bool ((I_Interval_within (⟨a_Low, a_High⟩ : Interval) most))) ∧ Q w w' := by
  have hset := setRule
  have hall := allocRule
  have halm := allocMark
  have hw64 := wrapRule
  go_enter Try.func93, Try.ntmps93
  go_wp2_with (first | (go_at_call 67; refine (c_I_in _ _ _ _ ).mono ?_; rintro e w1 ⟨rfl, rfl⟩))
  all_goals go_ret
  all_goals refine ⟨?_, (by (repeat (first | (with_reducible exact Q.refl _) | (with_reducible assumption) | (with_reducible refine Q.setCell ?_ (by dsimp only; omega) _) | (with_reducible refine Q.alloc ?_ _) | (with_reducible refine Q.drew ?_) | (with_reducible refine Q.call ?_ (by with_reducible assumption)))))⟩
  all_goals first | (simp [I_Interval_within, *]; done) | (simp [I_Interval_within, *]; omega) | (simp [I_Interval_within, *]; simp (disch := omega) only [if_pos, if_neg]; done) | (simp_all [I_Interval_within]; done) | (simp_all [I_Interval_within]; omega)

theorem c_I_IsPlace (p_X_Low : Int) (p_X_High : Int) (p_Y_Low : Int) (p_Y_High : Int) (w : World)  : Calls Try.prog 60 #[.agg #[.int .i64 p_X_Low, .int .i64 p_X_High, .int .i64 p_Y_Low, .int .i64 p_Y_High]] w fun e w' => e = .returned (.bool ((I_IsPlace (⟨(⟨p_X_Low, p_X_High⟩ : Interval), (⟨p_Y_Low, p_Y_High⟩ : Interval)⟩ : Place)))) ∧ Q w w' := by
  have hset := setRule
  have hall := allocRule
  have halm := allocMark
  have hw64 := wrapRule
  go_enter Try.func60, Try.ntmps60
  go_wp2_with (first | (go_at_call 93; refine (c_I_Interval_within _ _ _ _ ).mono ?_; rintro e w1 ⟨rfl, hq⟩; obtain ⟨hc, hf⟩ := hq.rules; have hs := hq.le; try simp at hs))
  all_goals go_ret
  all_goals refine ⟨?_, (by (repeat (first | (with_reducible exact Q.refl _) | (with_reducible assumption) | (with_reducible refine Q.setCell ?_ (by dsimp only; omega) _) | (with_reducible refine Q.alloc ?_ _) | (with_reducible refine Q.drew ?_) | (with_reducible refine Q.call ?_ (by with_reducible assumption)))))⟩
  all_goals first | (simp [I_IsPlace, *]; done) | (simp [I_IsPlace, *]; omega) | (simp [I_IsPlace, *]; simp (disch := omega) only [if_pos, if_neg]; done) | (simp_all [I_IsPlace]; done) | (simp_all [I_IsPlace]; omega)

theorem c_I_floor (a : Int) (b : Int) (w : World) (hz0 : ¬ b = 0) : Calls Try.prog 94 #[.int .i64 a, .int .i64 b] w fun e w' => e = .returned (.int .i64 ((I_floor a b))) ∧ w = w' := by
  have hw64 := wrapRule
  go_enter Try.func94, Try.ntmps94
  go_wp2
  all_goals go_ret
  all_goals refine ⟨?_, rfl⟩
  all_goals first | (simp [I_floor, *]; done) | (simp [I_floor, *]; omega) | (simp [I_floor, *]; simp (disch := omega) only [if_pos, if_neg]; done) | (simp_all [I_floor]; done) | (simp_all [I_floor]; omega)

set_option maxHeartbeats 1000000 in
theorem c_I_Place_middle (p_X_Low : Int) (p_X_High : Int) (p_Y_Low : Int) (p_Y_High : Int) (w : World)  : Calls Try.prog 61 #[.agg #[.int .i64 p_X_Low, .int .i64 p_X_High, .int .i64 p_Y_Low, .int .i64 p_Y_High]] w fun e w' => e = .returned (.agg #[.int .i64 ((I_Place_middle (⟨(⟨p_X_Low, p_X_High⟩ : Interval), (⟨p_Y_Low, p_Y_High⟩ : Interval)⟩ : Place)).X), .int .i64 ((I_Place_middle (⟨(⟨p_X_Low, p_X_High⟩ : Interval), (⟨p_Y_Low, p_Y_High⟩ : Interval)⟩ : Place)).Y)]) ∧ Q w w' := by
  have hset := setRule
  have hall := allocRule
  have halm := allocMark
  have hw64 := wrapRule
  go_enter Try.func61, Try.ntmps61
  go_wp2_with (first | (go_at_call 94; refine (c_I_floor _ _ _ (by first | assumption | decide | omega | (unfold wrap64; omega))).mono ?_; rintro e w1 ⟨rfl, rfl⟩))
  all_goals try (
    refine region_Q (id := 1) 17 (by kernel_rfl) (by kernel_rfl) ?_
    simp only [List.take_succ_cons, List.take_zero, List.drop_succ_cons, List.drop_zero]
    repeat (first | (apply q_step rfl; (intro wq hq; have hr := Q.rules hq; have hcq := hr.1; have hfq := hr.2; clear hr; have hsq := Q.le hq; (try simp at hsq); go_simp; (repeat (simp (disch := omega) only [if_pos, if_neg]; try go_simp)); (first | rfl | exact ⟨rfl, rfl⟩ | (go_at_call 94; exact quiet_same hq (c_I_floor _ _ _ (by first | assumption | decide | omega | (unfold wrap64; omega)))))); try go_simp) | (apply q_skip rfl; try go_simp))
    refine wpQuiet_nil ?_
    intro w1 hq
    have hr := Q.rules hq; have hc := hr.1; have hf := hr.2; clear hr; have hs := Q.le hq; try simp at hs)
  all_goals try go_wp2_with (first | (go_at_call 94; refine (c_I_floor _ _ _ (by first | assumption | decide | omega | (unfold wrap64; omega))).mono ?_; rintro e w1 ⟨rfl, rfl⟩))
  all_goals
    refine bodyPost_ret (v := .agg #[.int .i64 ((I_Place_middle (⟨(⟨p_X_Low, p_X_High⟩ : Interval), (⟨p_Y_Low, p_Y_High⟩ : Interval)⟩ : Place)).X), .int .i64 ((I_Place_middle (⟨(⟨p_X_Low, p_X_High⟩ : Interval), (⟨p_Y_Low, p_Y_High⟩ : Interval)⟩ : Place)).Y)]) ?_ rfl ⟨rfl, ?_⟩
    · first | (simp [results, Try.results61, go_sem, I_Place_middle, *]; done) | (simp [results, Try.results61, go_sem, *]; repeat (simp (disch := omega) only [if_pos, if_neg]; try simp [go_sem, I_Place_middle, *]))
    · (repeat (first | (with_reducible exact Q.refl _) | (with_reducible assumption) | (with_reducible refine Q.setCell ?_ (by dsimp only; omega) _) | (with_reducible refine Q.alloc ?_ _) | (with_reducible refine Q.drew ?_) | (with_reducible refine Q.call ?_ (by with_reducible assumption))))

theorem c_I_MiddleOf (p_X_Low : Int) (p_X_High : Int) (p_Y_Low : Int) (p_Y_High : Int) (w : World)  : Calls Try.prog 24 #[.agg #[.int .i64 p_X_Low, .int .i64 p_X_High, .int .i64 p_Y_Low, .int .i64 p_Y_High]] w fun e w' => e = .returned (.tuple #[.int .i64 ((I_MiddleOf (⟨(⟨p_X_Low, p_X_High⟩ : Interval), (⟨p_Y_Low, p_Y_High⟩ : Interval)⟩ : Place)).1), .int .i64 ((I_MiddleOf (⟨(⟨p_X_Low, p_X_High⟩ : Interval), (⟨p_Y_Low, p_Y_High⟩ : Interval)⟩ : Place)).2.1), .int .i64 ((I_MiddleOf (⟨(⟨p_X_Low, p_X_High⟩ : Interval), (⟨p_Y_Low, p_Y_High⟩ : Interval)⟩ : Place)).2.2)]) ∧ Q w w' := by
  have hset := setRule
  have hall := allocRule
  have halm := allocMark
  have hw64 := wrapRule
  go_enter Try.func24, Try.ntmps24
  go_wp2_with (first | (go_at_call 60; refine (c_I_IsPlace _ _ _ _ _ ).mono ?_; rintro e w1 ⟨rfl, hq⟩; obtain ⟨hc, hf⟩ := hq.rules; have hs := hq.le; try simp at hs) | (go_at_call 61; refine (c_I_Place_middle _ _ _ _ _ ).mono ?_; rintro e w1 ⟨rfl, hq⟩; obtain ⟨hc, hf⟩ := hq.rules; have hs := hq.le; try simp at hs))
  all_goals try (
    refine region_Q_all (id := 4) (by kernel_rfl) (by kernel_rfl) ?_
    repeat (first | (apply q_step rfl; (intro wq hq; have hr := Q.rules hq; have hcq := hr.1; have hfq := hr.2; clear hr; have hsq := Q.le hq; (try simp at hsq); go_simp; (repeat (simp (disch := omega) only [if_pos, if_neg]; try go_simp)); (first | rfl | exact ⟨rfl, rfl⟩ | (go_at_call 60; exact quiet_grow hq (c_I_IsPlace _ _ _ _ _ )) | (go_at_call 61; exact quiet_grow hq (c_I_Place_middle _ _ _ _ _ )))); try go_simp) | (apply q_skip rfl; try go_simp))
    refine wpQuiet_nil ?_
    intro w1 hq
    have hr := Q.rules hq; have hc := hr.1; have hf := hr.2; clear hr; have hs := Q.le hq; try simp at hs)
  all_goals try go_wp2_with (first | (go_at_call 60; refine (c_I_IsPlace _ _ _ _ _ ).mono ?_; rintro e w1 ⟨rfl, hq⟩; obtain ⟨hc, hf⟩ := hq.rules; have hs := hq.le; try simp at hs) | (go_at_call 61; refine (c_I_Place_middle _ _ _ _ _ ).mono ?_; rintro e w1 ⟨rfl, hq⟩; obtain ⟨hc, hf⟩ := hq.rules; have hs := hq.le; try simp at hs))
  all_goals go_ret3
  all_goals refine ⟨?_, (by (repeat (first | (with_reducible exact Q.refl _) | (with_reducible assumption) | (with_reducible refine Q.setCell ?_ (by dsimp only; omega) _) | (with_reducible refine Q.alloc ?_ _) | (with_reducible refine Q.drew ?_) | (with_reducible refine Q.call ?_ (by with_reducible assumption)))))⟩
  all_goals first | (simp [I_MiddleOf, *]; done) | (simp [I_MiddleOf, *]; omega) | (simp [I_MiddleOf, *]; simp (disch := omega) only [if_pos, if_neg]; done) | (simp_all [I_MiddleOf]; done) | (simp_all [I_MiddleOf]; omega)

theorem c_S_l14Error (p_X_Low : Int) (p_X_High : Int) (p_Y_Low : Int) (p_Y_High : Int) (w : World)  : Calls Try.prog 62 #[.agg #[.int .i64 p_X_Low, .int .i64 p_X_High, .int .i64 p_Y_Low, .int .i64 p_Y_High]] w fun e w' => e = .returned (.int .i64 ((S_l14Error (⟨(⟨p_X_Low, p_X_High⟩ : Interval), (⟨p_Y_Low, p_Y_High⟩ : Interval)⟩ : Place)))) ∧ Q w w' := by
  have hset := setRule
  have hall := allocRule
  have halm := allocMark
  have hw64 := wrapRule
  have hmax := maxRule
  have hmin := minRule
  have hmax4 := @max4 Try.prog
  have hmin4 := @min4 Try.prog
  go_enter Try.func62, Try.ntmps62
  go_wp2_with (first | (go_at_call 58; refine (c_S_l14Middle _ _ _ _ _ ).mono ?_; rintro e w1 ⟨rfl, hq⟩; obtain ⟨hc, hf⟩ := hq.rules; have hs := hq.le; try simp at hs))
  all_goals go_ret
  all_goals refine ⟨?_, (by (repeat (first | (with_reducible exact Q.refl _) | (with_reducible assumption) | (with_reducible refine Q.setCell ?_ (by dsimp only; omega) _) | (with_reducible refine Q.alloc ?_ _) | (with_reducible refine Q.drew ?_) | (with_reducible refine Q.call ?_ (by with_reducible assumption)))))⟩
  all_goals first | (simp [S_l14Error, *]; done) | (simp [S_l14Error, *]; omega) | (simp [S_l14Error, *]; simp (disch := omega) only [if_pos, if_neg]; done) | (simp_all [S_l14Error]; done) | (simp_all [S_l14Error]; omega)

theorem c_S_PlaceError (p_X_Low : Int) (p_X_High : Int) (p_Y_Low : Int) (p_Y_High : Int) (w : World)  : Calls Try.prog 25 #[.agg #[.int .i64 p_X_Low, .int .i64 p_X_High, .int .i64 p_Y_Low, .int .i64 p_Y_High]] w fun e w' => e = .returned (.tuple #[.int .i64 ((S_PlaceError (⟨(⟨p_X_Low, p_X_High⟩ : Interval), (⟨p_Y_Low, p_Y_High⟩ : Interval)⟩ : Place)).1), .int .i64 ((S_PlaceError (⟨(⟨p_X_Low, p_X_High⟩ : Interval), (⟨p_Y_Low, p_Y_High⟩ : Interval)⟩ : Place)).2)]) ∧ Q w w' := by
  have hset := setRule
  have hall := allocRule
  have halm := allocMark
  have hw64 := wrapRule
  go_enter Try.func25, Try.ntmps25
  go_wp2_with (first | (go_at_call 57; refine (c_S_IsPlace _ _ _ _ _ ).mono ?_; rintro e w1 ⟨rfl, hq⟩; obtain ⟨hc, hf⟩ := hq.rules; have hs := hq.le; try simp at hs) | (go_at_call 62; refine (c_S_l14Error _ _ _ _ _ ).mono ?_; rintro e w1 ⟨rfl, hq⟩; obtain ⟨hc, hf⟩ := hq.rules; have hs := hq.le; try simp at hs))
  all_goals go_ret2
  all_goals refine ⟨?_, (by (repeat (first | (with_reducible exact Q.refl _) | (with_reducible assumption) | (with_reducible refine Q.setCell ?_ (by dsimp only; omega) _) | (with_reducible refine Q.alloc ?_ _) | (with_reducible refine Q.drew ?_) | (with_reducible refine Q.call ?_ (by with_reducible assumption)))))⟩
  all_goals first | (simp [S_PlaceError, *]; done) | (simp [S_PlaceError, *]; omega) | (simp [S_PlaceError, *]; simp (disch := omega) only [if_pos, if_neg]; done) | (simp_all [S_PlaceError]; done) | (simp_all [S_PlaceError]; omega)

theorem c_I_Place_err (p_X_Low : Int) (p_X_High : Int) (p_Y_Low : Int) (p_Y_High : Int) (w : World)  : Calls Try.prog 63 #[.agg #[.int .i64 p_X_Low, .int .i64 p_X_High, .int .i64 p_Y_Low, .int .i64 p_Y_High]] w fun e w' => e = .returned (.int .i64 ((I_Place_err (⟨(⟨p_X_Low, p_X_High⟩ : Interval), (⟨p_Y_Low, p_Y_High⟩ : Interval)⟩ : Place)))) ∧ Q w w' := by
  have hset := setRule
  have hall := allocRule
  have halm := allocMark
  have hw64 := wrapRule
  have hmax := maxRule
  have hmin := minRule
  have hmax4 := @max4 Try.prog
  have hmin4 := @min4 Try.prog
  go_enter Try.func63, Try.ntmps63
  go_wp2_with (first | (go_at_call 61; refine (c_I_Place_middle _ _ _ _ _ ).mono ?_; rintro e w1 ⟨rfl, hq⟩; obtain ⟨hc, hf⟩ := hq.rules; have hs := hq.le; try simp at hs))
  all_goals go_ret
  all_goals refine ⟨?_, (by (repeat (first | (with_reducible exact Q.refl _) | (with_reducible assumption) | (with_reducible refine Q.setCell ?_ (by dsimp only; omega) _) | (with_reducible refine Q.alloc ?_ _) | (with_reducible refine Q.drew ?_) | (with_reducible refine Q.call ?_ (by with_reducible assumption)))))⟩
  all_goals first | (simp [I_Place_err, *]; done) | (simp [I_Place_err, *]; omega) | (simp [I_Place_err, *]; simp (disch := omega) only [if_pos, if_neg]; done) | (simp_all [I_Place_err]; done) | (simp_all [I_Place_err]; omega)

theorem c_I_PlaceError (p_X_Low : Int) (p_X_High : Int) (p_Y_Low : Int) (p_Y_High : Int) (w : World)  : Calls Try.prog 26 #[.agg #[.int .i64 p_X_Low, .int .i64 p_X_High, .int .i64 p_Y_Low, .int .i64 p_Y_High]] w fun e w' => e = .returned (.tuple #[.int .i64 ((I_PlaceError (⟨(⟨p_X_Low, p_X_High⟩ : Interval), (⟨p_Y_Low, p_Y_High⟩ : Interval)⟩ : Place)).1), .int .i64 ((I_PlaceError (⟨(⟨p_X_Low, p_X_High⟩ : Interval), (⟨p_Y_Low, p_Y_High⟩ : Interval)⟩ : Place)).2)]) ∧ Q w w' := by
  have hset := setRule
  have hall := allocRule
  have halm := allocMark
  have hw64 := wrapRule
  go_enter Try.func26, Try.ntmps26
  go_wp2_with (first | (go_at_call 60; refine (c_I_IsPlace _ _ _ _ _ ).mono ?_; rintro e w1 ⟨rfl, hq⟩; obtain ⟨hc, hf⟩ := hq.rules; have hs := hq.le; try simp at hs) | (go_at_call 63; refine (c_I_Place_err _ _ _ _ _ ).mono ?_; rintro e w1 ⟨rfl, hq⟩; obtain ⟨hc, hf⟩ := hq.rules; have hs := hq.le; try simp at hs))
  all_goals go_ret2
  all_goals refine ⟨?_, (by (repeat (first | (with_reducible exact Q.refl _) | (with_reducible assumption) | (with_reducible refine Q.setCell ?_ (by dsimp only; omega) _) | (with_reducible refine Q.alloc ?_ _) | (with_reducible refine Q.drew ?_) | (with_reducible refine Q.call ?_ (by with_reducible assumption)))))⟩
  all_goals first | (simp [I_PlaceError, *]; done) | (simp [I_PlaceError, *]; omega) | (simp [I_PlaceError, *]; simp (disch := omega) only [if_pos, if_neg]; done) | (simp_all [I_PlaceError]; done) | (simp_all [I_PlaceError]; omega)

set_option maxHeartbeats 1000000 in
theorem c_S_l14Result (p_X_Low : Int) (p_X_High : Int) (p_Y_Low : Int) (p_Y_High : Int) (w : World)  : Calls Try.prog 65 #[.agg #[.int .i64 p_X_Low, .int .i64 p_X_High, .int .i64 p_Y_Low, .int .i64 p_Y_High]] w fun e w' => e = .returned (.tuple #[.agg #[.int .i64 ((S_l14Result (⟨(⟨p_X_Low, p_X_High⟩ : Interval), (⟨p_Y_Low, p_Y_High⟩ : Interval)⟩ : Place)).1.X.Low), .int .i64 ((S_l14Result (⟨(⟨p_X_Low, p_X_High⟩ : Interval), (⟨p_Y_Low, p_Y_High⟩ : Interval)⟩ : Place)).1.X.High), .int .i64 ((S_l14Result (⟨(⟨p_X_Low, p_X_High⟩ : Interval), (⟨p_Y_Low, p_Y_High⟩ : Interval)⟩ : Place)).1.Y.Low), .int .i64 ((S_l14Result (⟨(⟨p_X_Low, p_X_High⟩ : Interval), (⟨p_Y_Low, p_Y_High⟩ : Interval)⟩ : Place)).1.Y.High)], .int .i64 ((S_l14Result (⟨(⟨p_X_Low, p_X_High⟩ : Interval), (⟨p_Y_Low, p_Y_High⟩ : Interval)⟩ : Place)).2)]) ∧ Q w w' := by
  have hset := setRule
  have hall := allocRule
  have halm := allocMark
  have hw64 := wrapRule
  go_enter Try.func65, Try.ntmps65
  go_wp2_with (first | (go_at_call 57; refine (c_S_IsPlace _ _ _ _ _ ).mono ?_; rintro e w1 ⟨rfl, hq⟩; obtain ⟨hc, hf⟩ := hq.rules; have hs := hq.le; try simp at hs))
  all_goals
    refine bodyPost_ret (v := .tuple #[.agg #[.int .i64 ((S_l14Result (⟨(⟨p_X_Low, p_X_High⟩ : Interval), (⟨p_Y_Low, p_Y_High⟩ : Interval)⟩ : Place)).1.X.Low), .int .i64 ((S_l14Result (⟨(⟨p_X_Low, p_X_High⟩ : Interval), (⟨p_Y_Low, p_Y_High⟩ : Interval)⟩ : Place)).1.X.High), .int .i64 ((S_l14Result (⟨(⟨p_X_Low, p_X_High⟩ : Interval), (⟨p_Y_Low, p_Y_High⟩ : Interval)⟩ : Place)).1.Y.Low), .int .i64 ((S_l14Result (⟨(⟨p_X_Low, p_X_High⟩ : Interval), (⟨p_Y_Low, p_Y_High⟩ : Interval)⟩ : Place)).1.Y.High)], .int .i64 ((S_l14Result (⟨(⟨p_X_Low, p_X_High⟩ : Interval), (⟨p_Y_Low, p_Y_High⟩ : Interval)⟩ : Place)).2)]) ?_ rfl ⟨rfl, ?_⟩
    · first | (simp [results, Try.results65, go_sem, S_l14Result, *]; done) | (simp [results, Try.results65, go_sem, *]; repeat (simp (disch := omega) only [if_pos, if_neg]; try simp [go_sem, S_l14Result, *]))
    · (repeat (first | (with_reducible exact Q.refl _) | (with_reducible assumption) | (with_reducible refine Q.setCell ?_ (by dsimp only; omega) _) | (with_reducible refine Q.alloc ?_ _) | (with_reducible refine Q.drew ?_) | (with_reducible refine Q.call ?_ (by with_reducible assumption))))

set_option maxHeartbeats 1000000 in
theorem c_S_l14Widen (p_X_Low : Int) (p_X_High : Int) (p_Y_Low : Int) (p_Y_High : Int) (by_ : Int) (w : World)  : Calls Try.prog 66 #[.agg #[.int .i64 p_X_Low, .int .i64 p_X_High, .int .i64 p_Y_Low, .int .i64 p_Y_High], .int .i64 by_] w fun e w' => e = .returned (.agg #[.int .i64 ((S_l14Widen (⟨(⟨p_X_Low, p_X_High⟩ : Interval), (⟨p_Y_Low, p_Y_High⟩ : Interval)⟩ : Place) by_).X.Low), .int .i64 ((S_l14Widen (⟨(⟨p_X_Low, p_X_High⟩ : Interval), (⟨p_Y_Low, p_Y_High⟩ : Interval)⟩ : Place) by_).X.High), .int .i64 ((S_l14Widen (⟨(⟨p_X_Low, p_X_High⟩ : Interval), (⟨p_Y_Low, p_Y_High⟩ : Interval)⟩ : Place) by_).Y.Low), .int .i64 ((S_l14Widen (⟨(⟨p_X_Low, p_X_High⟩ : Interval), (⟨p_Y_Low, p_Y_High⟩ : Interval)⟩ : Place) by_).Y.High)]) ∧ Q w w' := by
  have hset := setRule
  have hall := allocRule
  have halm := allocMark
  have hw64 := wrapRule
  go_enter Try.func66, Try.ntmps66
  go_wp2
  all_goals
    refine bodyPost_ret (v := .agg #[.int .i64 ((S_l14Widen (⟨(⟨p_X_Low, p_X_High⟩ : Interval), (⟨p_Y_Low, p_Y_High⟩ : Interval)⟩ : Place) by_).X.Low), .int .i64 ((S_l14Widen (⟨(⟨p_X_Low, p_X_High⟩ : Interval), (⟨p_Y_Low, p_Y_High⟩ : Interval)⟩ : Place) by_).X.High), .int .i64 ((S_l14Widen (⟨(⟨p_X_Low, p_X_High⟩ : Interval), (⟨p_Y_Low, p_Y_High⟩ : Interval)⟩ : Place) by_).Y.Low), .int .i64 ((S_l14Widen (⟨(⟨p_X_Low, p_X_High⟩ : Interval), (⟨p_Y_Low, p_Y_High⟩ : Interval)⟩ : Place) by_).Y.High)]) ?_ rfl ⟨rfl, ?_⟩
    · first | (simp [results, Try.results66, go_sem, S_l14Widen, *]; done) | (simp [results, Try.results66, go_sem, *]; repeat (simp (disch := omega) only [if_pos, if_neg]; try simp [go_sem, S_l14Widen, *]))
    · (repeat (first | (with_reducible exact Q.refl _) | (with_reducible assumption) | (with_reducible refine Q.setCell ?_ (by dsimp only; omega) _) | (with_reducible refine Q.alloc ?_ _) | (with_reducible refine Q.drew ?_) | (with_reducible refine Q.call ?_ (by with_reducible assumption))))

set_option maxHeartbeats 1000000 in
theorem c_S_WidenPlace (p_X_Low : Int) (p_X_High : Int) (p_Y_Low : Int) (p_Y_High : Int) (by_ : Int) (w : World)  : Calls Try.prog 27 #[.agg #[.int .i64 p_X_Low, .int .i64 p_X_High, .int .i64 p_Y_Low, .int .i64 p_Y_High], .int .i64 by_] w fun e w' => e = .returned (.tuple #[.agg #[.int .i64 ((S_WidenPlace (⟨(⟨p_X_Low, p_X_High⟩ : Interval), (⟨p_Y_Low, p_Y_High⟩ : Interval)⟩ : Place) by_).1.X.Low), .int .i64 ((S_WidenPlace (⟨(⟨p_X_Low, p_X_High⟩ : Interval), (⟨p_Y_Low, p_Y_High⟩ : Interval)⟩ : Place) by_).1.X.High), .int .i64 ((S_WidenPlace (⟨(⟨p_X_Low, p_X_High⟩ : Interval), (⟨p_Y_Low, p_Y_High⟩ : Interval)⟩ : Place) by_).1.Y.Low), .int .i64 ((S_WidenPlace (⟨(⟨p_X_Low, p_X_High⟩ : Interval), (⟨p_Y_Low, p_Y_High⟩ : Interval)⟩ : Place) by_).1.Y.High)], .int .i64 ((S_WidenPlace (⟨(⟨p_X_Low, p_X_High⟩ : Interval), (⟨p_Y_Low, p_Y_High⟩ : Interval)⟩ : Place) by_).2)]) ∧ Q w w' := by
  have hset := setRule
  have hall := allocRule
  have halm := allocMark
  have hw64 := wrapRule
  go_enter Try.func27, Try.ntmps27
  go_wp2_with (first | (go_at_call 57; refine (c_S_IsPlace _ _ _ _ _ ).mono ?_; rintro e w1 ⟨rfl, hq⟩; obtain ⟨hc, hf⟩ := hq.rules; have hs := hq.le; try simp at hs) | (go_at_call 64; refine (c_S_l01In _ _ _ _ ).mono ?_; rintro e w1 ⟨rfl, rfl⟩) | (go_at_call 65; refine (c_S_l14Result _ _ _ _ _ ).mono ?_; rintro e w1 ⟨rfl, hq⟩; obtain ⟨hc, hf⟩ := hq.rules; have hs := hq.le; try simp at hs) | (go_at_call 66; refine (c_S_l14Widen _ _ _ _ _ _ ).mono ?_; rintro e w1 ⟨rfl, hq⟩; obtain ⟨hc, hf⟩ := hq.rules; have hs := hq.le; try simp at hs))
  all_goals
    refine bodyPost_ret (v := .tuple #[.agg #[.int .i64 ((S_WidenPlace (⟨(⟨p_X_Low, p_X_High⟩ : Interval), (⟨p_Y_Low, p_Y_High⟩ : Interval)⟩ : Place) by_).1.X.Low), .int .i64 ((S_WidenPlace (⟨(⟨p_X_Low, p_X_High⟩ : Interval), (⟨p_Y_Low, p_Y_High⟩ : Interval)⟩ : Place) by_).1.X.High), .int .i64 ((S_WidenPlace (⟨(⟨p_X_Low, p_X_High⟩ : Interval), (⟨p_Y_Low, p_Y_High⟩ : Interval)⟩ : Place) by_).1.Y.Low), .int .i64 ((S_WidenPlace (⟨(⟨p_X_Low, p_X_High⟩ : Interval), (⟨p_Y_Low, p_Y_High⟩ : Interval)⟩ : Place) by_).1.Y.High)], .int .i64 ((S_WidenPlace (⟨(⟨p_X_Low, p_X_High⟩ : Interval), (⟨p_Y_Low, p_Y_High⟩ : Interval)⟩ : Place) by_).2)]) ?_ rfl ⟨rfl, ?_⟩
    · first | (simp [results, Try.results27, go_sem, S_WidenPlace, *]; done) | (simp [results, Try.results27, go_sem, *]; repeat (simp (disch := omega) only [if_pos, if_neg]; try simp [go_sem, S_WidenPlace, *]))
    · (repeat (first | (with_reducible exact Q.refl _) | (with_reducible assumption) | (with_reducible refine Q.setCell ?_ (by dsimp only; omega) _) | (with_reducible refine Q.alloc ?_ _) | (with_reducible refine Q.drew ?_) | (with_reducible refine Q.call ?_ (by with_reducible assumption))))

set_option maxHeartbeats 1000000 in
theorem c_I_Place_wider (p_X_Low : Int) (p_X_High : Int) (p_Y_Low : Int) (p_Y_High : Int) (by_ : Int) (w : World)  : Calls Try.prog 68 #[.agg #[.int .i64 p_X_Low, .int .i64 p_X_High, .int .i64 p_Y_Low, .int .i64 p_Y_High], .int .i64 by_] w fun e w' => e = .returned (.agg #[.int .i64 ((I_Place_wider (⟨(⟨p_X_Low, p_X_High⟩ : Interval), (⟨p_Y_Low, p_Y_High⟩ : Interval)⟩ : Place) by_).X.Low), .int .i64 ((I_Place_wider (⟨(⟨p_X_Low, p_X_High⟩ : Interval), (⟨p_Y_Low, p_Y_High⟩ : Interval)⟩ : Place) by_).X.High), .int .i64 ((I_Place_wider (⟨(⟨p_X_Low, p_X_High⟩ : Interval), (⟨p_Y_Low, p_Y_High⟩ : Interval)⟩ : Place) by_).Y.Low), .int .i64 ((I_Place_wider (⟨(⟨p_X_Low, p_X_High⟩ : Interval), (⟨p_Y_Low, p_Y_High⟩ : Interval)⟩ : Place) by_).Y.High)]) ∧ Q w w' := by
  have hset := setRule
  have hall := allocRule
  have halm := allocMark
  have hw64 := wrapRule
  go_enter Try.func68, Try.ntmps68
  go_wp2
  all_goals
    refine bodyPost_ret (v := .agg #[.int .i64 ((I_Place_wider (⟨(⟨p_X_Low, p_X_High⟩ : Interval), (⟨p_Y_Low, p_Y_High⟩ : Interval)⟩ : Place) by_).X.Low), .int .i64 ((I_Place_wider (⟨(⟨p_X_Low, p_X_High⟩ : Interval), (⟨p_Y_Low, p_Y_High⟩ : Interval)⟩ : Place) by_).X.High), .int .i64 ((I_Place_wider (⟨(⟨p_X_Low, p_X_High⟩ : Interval), (⟨p_Y_Low, p_Y_High⟩ : Interval)⟩ : Place) by_).Y.Low), .int .i64 ((I_Place_wider (⟨(⟨p_X_Low, p_X_High⟩ : Interval), (⟨p_Y_Low, p_Y_High⟩ : Interval)⟩ : Place) by_).Y.High)]) ?_ rfl ⟨rfl, ?_⟩
    · first | (simp [results, Try.results68, go_sem, I_Place_wider, *]; done) | (simp [results, Try.results68, go_sem, *]; repeat (simp (disch := omega) only [if_pos, if_neg]; try simp [go_sem, I_Place_wider, *]))
    · (repeat (first | (with_reducible exact Q.refl _) | (with_reducible assumption) | (with_reducible refine Q.setCell ?_ (by dsimp only; omega) _) | (with_reducible refine Q.alloc ?_ _) | (with_reducible refine Q.drew ?_) | (with_reducible refine Q.call ?_ (by with_reducible assumption))))

set_option maxHeartbeats 1000000 in
theorem c_I_WidenPlace (p_X_Low : Int) (p_X_High : Int) (p_Y_Low : Int) (p_Y_High : Int) (by_ : Int) (w : World)  : Calls Try.prog 28 #[.agg #[.int .i64 p_X_Low, .int .i64 p_X_High, .int .i64 p_Y_Low, .int .i64 p_Y_High], .int .i64 by_] w fun e w' => e = .returned (.tuple #[.agg #[.int .i64 ((I_WidenPlace (⟨(⟨p_X_Low, p_X_High⟩ : Interval), (⟨p_Y_Low, p_Y_High⟩ : Interval)⟩ : Place) by_).1.X.Low), .int .i64 ((I_WidenPlace (⟨(⟨p_X_Low, p_X_High⟩ : Interval), (⟨p_Y_Low, p_Y_High⟩ : Interval)⟩ : Place) by_).1.X.High), .int .i64 ((I_WidenPlace (⟨(⟨p_X_Low, p_X_High⟩ : Interval), (⟨p_Y_Low, p_Y_High⟩ : Interval)⟩ : Place) by_).1.Y.Low), .int .i64 ((I_WidenPlace (⟨(⟨p_X_Low, p_X_High⟩ : Interval), (⟨p_Y_Low, p_Y_High⟩ : Interval)⟩ : Place) by_).1.Y.High)], .int .i64 ((I_WidenPlace (⟨(⟨p_X_Low, p_X_High⟩ : Interval), (⟨p_Y_Low, p_Y_High⟩ : Interval)⟩ : Place) by_).2)]) ∧ Q w w' := by
  have hset := setRule
  have hall := allocRule
  have halm := allocMark
  have hw64 := wrapRule
  go_enter Try.func28, Try.ntmps28
  go_wp2_with (first | (go_at_call 60; refine (c_I_IsPlace _ _ _ _ _ ).mono ?_; rintro e w1 ⟨rfl, hq⟩; obtain ⟨hc, hf⟩ := hq.rules; have hs := hq.le; try simp at hs) | (go_at_call 67; refine (c_I_in _ _ _ _ ).mono ?_; rintro e w1 ⟨rfl, rfl⟩) | (go_at_call 68; refine (c_I_Place_wider _ _ _ _ _ _ ).mono ?_; rintro e w1 ⟨rfl, hq⟩; obtain ⟨hc, hf⟩ := hq.rules; have hs := hq.le; try simp at hs))
  all_goals
    refine bodyPost_ret (v := .tuple #[.agg #[.int .i64 ((I_WidenPlace (⟨(⟨p_X_Low, p_X_High⟩ : Interval), (⟨p_Y_Low, p_Y_High⟩ : Interval)⟩ : Place) by_).1.X.Low), .int .i64 ((I_WidenPlace (⟨(⟨p_X_Low, p_X_High⟩ : Interval), (⟨p_Y_Low, p_Y_High⟩ : Interval)⟩ : Place) by_).1.X.High), .int .i64 ((I_WidenPlace (⟨(⟨p_X_Low, p_X_High⟩ : Interval), (⟨p_Y_Low, p_Y_High⟩ : Interval)⟩ : Place) by_).1.Y.Low), .int .i64 ((I_WidenPlace (⟨(⟨p_X_Low, p_X_High⟩ : Interval), (⟨p_Y_Low, p_Y_High⟩ : Interval)⟩ : Place) by_).1.Y.High)], .int .i64 ((I_WidenPlace (⟨(⟨p_X_Low, p_X_High⟩ : Interval), (⟨p_Y_Low, p_Y_High⟩ : Interval)⟩ : Place) by_).2)]) ?_ rfl ⟨rfl, ?_⟩
    · first | (simp [results, Try.results28, go_sem, I_WidenPlace, *]; done) | (simp [results, Try.results28, go_sem, *]; repeat (simp (disch := omega) only [if_pos, if_neg]; try simp [go_sem, I_WidenPlace, *]))
    · (repeat (first | (with_reducible exact Q.refl _) | (with_reducible assumption) | (with_reducible refine Q.setCell ?_ (by dsimp only; omega) _) | (with_reducible refine Q.alloc ?_ _) | (with_reducible refine Q.drew ?_) | (with_reducible refine Q.call ?_ (by with_reducible assumption))))

theorem c_L_eqInterval (a_Low : Int) (a_High : Int) (b_Low : Int) (b_High : Int) (w : World)  : Calls Try.prog 69 #[.agg #[.int .i64 a_Low, .int .i64 a_High], .agg #[.int .i64 b_Low, .int .i64 b_High]] w fun e w' => e = .returned (.bool ((L_eqInterval (⟨a_Low, a_High⟩ : Interval) (⟨b_Low, b_High⟩ : Interval)))) ∧ Q w w' := by
  have hset := setRule
  have hall := allocRule
  have halm := allocMark
  have hw64 := wrapRule
  go_enter Try.func69, Try.ntmps69
  go_wp2
  all_goals go_ret
  all_goals refine ⟨?_, (by (repeat (first | (with_reducible exact Q.refl _) | (with_reducible assumption) | (with_reducible refine Q.setCell ?_ (by dsimp only; omega) _) | (with_reducible refine Q.alloc ?_ _) | (with_reducible refine Q.drew ?_) | (with_reducible refine Q.call ?_ (by with_reducible assumption)))))⟩
  all_goals first | (simp [L_eqInterval, *]; done) | (simp [L_eqInterval, *]; omega) | (simp [L_eqInterval, *]; simp (disch := omega) only [if_pos, if_neg]; done) | (simp_all [L_eqInterval]; done) | (simp_all [L_eqInterval]; omega)

theorem c_L_eqPlace (a_X_Low : Int) (a_X_High : Int) (a_Y_Low : Int) (a_Y_High : Int) (b_X_Low : Int) (b_X_High : Int) (b_Y_Low : Int) (b_Y_High : Int) (w : World)  : Calls Try.prog 29 #[.agg #[.int .i64 a_X_Low, .int .i64 a_X_High, .int .i64 a_Y_Low, .int .i64 a_Y_High], .agg #[.int .i64 b_X_Low, .int .i64 b_X_High, .int .i64 b_Y_Low, .int .i64 b_Y_High]] w fun e w' => e = .returned (.bool ((L_eqPlace (⟨(⟨a_X_Low, a_X_High⟩ : Interval), (⟨a_Y_Low, a_Y_High⟩ : Interval)⟩ : Place) (⟨(⟨b_X_Low, b_X_High⟩ : Interval), (⟨b_Y_Low, b_Y_High⟩ : Interval)⟩ : Place)))) ∧ Q w w' := by
  have hset := setRule
  have hall := allocRule
  have halm := allocMark
  have hw64 := wrapRule
  go_enter Try.func29, Try.ntmps29
  go_wp2_with (first | (go_at_call 69; refine (c_L_eqInterval _ _ _ _ _ ).mono ?_; rintro e w1 ⟨rfl, hq⟩; obtain ⟨hc, hf⟩ := hq.rules; have hs := hq.le; try simp at hs))
  all_goals go_ret
  all_goals refine ⟨?_, (by (repeat (first | (with_reducible exact Q.refl _) | (with_reducible assumption) | (with_reducible refine Q.setCell ?_ (by dsimp only; omega) _) | (with_reducible refine Q.alloc ?_ _) | (with_reducible refine Q.drew ?_) | (with_reducible refine Q.call ?_ (by with_reducible assumption)))))⟩
  all_goals first | (simp [L_eqPlace, *]; done) | (simp [L_eqPlace, *]; omega) | (simp [L_eqPlace, *]; simp (disch := omega) only [if_pos, if_neg]; done) | (simp_all [L_eqPlace]; done) | (simp_all [L_eqPlace]; omega)

end Go.Proofs.Ytecnjkhncdjebaa
