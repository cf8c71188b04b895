/- Contracts of Go functions of the plain fragment, with their walks; printed by a program of the author's own. -/
import Derived.Test.YthooejkmccdfjaaRows
import Derived.Test.YthooejkmccdfjaaDefs
import Derived.Test.YthooejkmccdfjaaC4
import Derived.Test.YthooejkmccdfjaaFresh
import Derived.Test.YthooejkmccdfjaaM2
import Derived.WalkKit
import Derived.ProofKit
import Derived.OpenShut
import Derived.WalkLawsBesides
import Derived.BigQuiet
import Derived.Deep.QuietTactic
import Derived.Deep.LoopGhost
import Derived.LoopN
import Derived.Deep.RegionWith
import Derived.Test.YthooejkmccdfjaaOwn
namespace Go.Proofs.Ythooejkmccdfjaa
open Go.ChangeShapes Go.WideShapes Go.ChangeAt Go.RowKit
set_option linter.unusedVariables false
set_option linter.unusedSimpArgs false
theorem c_S_l12System (system : Int) (w : World)  : Calls Try.prog 95 #[.int .i64 system] w fun e w' => e = .returned (.bool ((S_l12System system))) ∧ w = w' := by
  have hw64 := wrapRule
  go_enter Try.func95, Try.ntmps95
  go_wp2_with (first | (go_at_call 115; refine (c_S_l01In _ _ _ _ ).mono ?_; rintro e w1 ⟨rfl, rfl⟩))
  all_goals go_ret
  all_goals refine ⟨?_, rfl⟩
  all_goals first | (simp [S_l12System, *]; done) | (simp [S_l12System, *]; omega) | (simp [S_l12System, *]; simp (disch := omega) only [if_pos, if_neg]; done) | (simp_all [S_l12System]; done) | (simp_all [S_l12System]; omega)

theorem c_S_l12Code (d_Rise : Int) (d_Set : Int) (system : Int) (number : Int) (w : World)  : Calls Try.prog 89 #[.agg #[.int .i64 d_Rise, .int .i64 d_Set], .int .i64 system, .int .i64 number] w fun e w' => e = .returned (.int .i64 ((S_l12Code (⟨d_Rise, d_Set⟩ : Day) system number))) ∧ Q w w' := by
  have hset := setRule
  have hall := allocRule
  have halm := allocMark
  have hw64 := wrapRule
  go_enter Try.func89, Try.ntmps89
  go_wp2_with (first | (go_at_call 50; refine (c_S_IsDay _ _ _ ).mono ?_; rintro e w1 ⟨rfl, hq⟩; obtain ⟨hc, hf⟩ := hq.rules; have hs := hq.le; try simp at hs) | (go_at_call 95; refine (c_S_l12System _ _ ).mono ?_; rintro e w1 ⟨rfl, rfl⟩) | (go_at_call 83; refine (c_S_l09Minute _ _ ).mono ?_; rintro e w1 ⟨rfl, rfl⟩))
  all_goals go_ret
  all_goals refine ⟨?_, (by (repeat (first | (with_reducible exact Q.refl _) | (with_reducible assumption) | (with_reducible refine Q.setCell ?_ (by dsimp only; omega) _) | (with_reducible refine Q.alloc ?_ _) | (with_reducible refine Q.drew ?_) | (with_reducible refine Q.call ?_ (by with_reducible assumption)))))⟩
  all_goals first | (simp [S_l12Code, *]; done) | (simp [S_l12Code, *]; omega) | (simp [S_l12Code, *]; simp (disch := omega) only [if_pos, if_neg]; done) | (simp_all [S_l12Code]; done) | (simp_all [S_l12Code]; omega)

theorem c_S_l12Number (d_Rise : Int) (d_Set : Int) (system : Int) (minute : Int) (w : World) (hp0 : 0 ≤ d_Rise) (hp1 : d_Rise < d_Set) (hp2 : d_Set ≤ 1439) : Calls Try.prog 90 #[.agg #[.int .i64 d_Rise, .int .i64 d_Set], .int .i64 system, .int .i64 minute] w fun e w' => e = .returned (.int .i64 ((S_l12Number (⟨d_Rise, d_Set⟩ : Day) system minute))) ∧ Q w w' := by
  have hset := setRule
  have hall := allocRule
  have halm := allocMark
  have hw64 := wrapRule
  have hx1 : wrap64 (d_Set - d_Rise) = d_Set - d_Rise := w64 (by omega)
  have hx2 : wrap64 (1440 - d_Set) = 1440 - d_Set := w64 (by omega)
  have hx3 : wrap64 (1440 - d_Set + d_Rise) = 1440 - d_Set + d_Rise := w64 (by omega)
  have hx4 : (d_Set - d_Rise = 0) = False := eq_false (by omega)
  have hx5 : (1440 - d_Set + d_Rise = 0) = False := eq_false (by omega)
  have hmax := maxRule
  have hmin := minRule
  go_enter Try.func90, Try.ntmps90
  go_wp2_with (first | (go_at_call 137; refine (c_S_l01Mod _ _ _ (by first | assumption | decide | omega | (unfold wrap64; omega))).mono ?_; rintro e w1 ⟨rfl, rfl⟩))
  all_goals try (
    refine region_Q_all (id := 10) (by kernel_rfl) (by kernel_rfl) ?_
    repeat (first | (apply q_step rfl; (intro wq hq; have hr := Q.rules hq; have hcq := hr.1; have hfq := hr.2; clear hr; have hsq := Q.le hq; (try simp at hsq); go_simp; (repeat (simp (disch := omega) only [if_pos, if_neg]; try go_simp)); (first | rfl | exact ⟨rfl, rfl⟩ | (go_at_call 137; exact quiet_same hq (c_S_l01Mod _ _ _ (by first | assumption | decide | omega | (unfold wrap64; omega)))))); try go_simp) | (apply q_skip rfl; try go_simp))
    refine wpQuiet_nil ?_
    intro w1 hq
    have hr := Q.rules hq; have hc := hr.1; have hf := hr.2; clear hr; have hs := Q.le hq; try simp at hs)
  all_goals try go_wp2_with (first | (go_at_call 137; refine (c_S_l01Mod _ _ _ (by first | assumption | decide | omega | (unfold wrap64; omega))).mono ?_; rintro e w1 ⟨rfl, rfl⟩))
  all_goals go_ret
  all_goals refine ⟨?_, (by (repeat (first | (with_reducible exact Q.refl _) | (with_reducible assumption) | (with_reducible refine Q.setCell ?_ (by dsimp only; omega) _) | (with_reducible refine Q.alloc ?_ _) | (with_reducible refine Q.drew ?_) | (with_reducible refine Q.call ?_ (by with_reducible assumption)))))⟩
  all_goals first | (simp [S_l12Number, *]; done) | (simp [S_l12Number, *]; omega) | (simp [S_l12Number, *]; simp (disch := omega) only [if_pos, if_neg]; done) | (simp_all [S_l12Number]; done) | (simp_all [S_l12Number]; omega)

theorem c_S_HourNumber (d_Rise : Int) (d_Set : Int) (system : Int) (minute : Int) (w : World)  : Calls Try.prog 35 #[.agg #[.int .i64 d_Rise, .int .i64 d_Set], .int .i64 system, .int .i64 minute] w fun e w' => e = .returned (.tuple #[.int .i64 ((S_HourNumber (⟨d_Rise, d_Set⟩ : Day) system minute).1), .int .i64 ((S_HourNumber (⟨d_Rise, d_Set⟩ : Day) system minute).2)]) ∧ Q w w' := by
  have hset := setRule
  have hall := allocRule
  have halm := allocMark
  have hw64 := wrapRule
  have hmax := maxRule
  have hmin := minRule
  go_enter Try.func35, Try.ntmps35
  go_wp2_with (first | (go_at_call 89; refine (c_S_l12Code _ _ _ _ _ ).mono ?_; rintro e w1 ⟨rfl, hq⟩; obtain ⟨hc, hf⟩ := hq.rules; have hs := hq.le; try simp at hs) | (go_at_call 90; refine (c_S_l12Number _ _ _ _ _ (by first | assumption | decide | omega | (unfold wrap64; omega) | exact (pre_month (by assumption)).1 | exact (pre_month (by assumption)).2.1 | exact (pre_month (by assumption)).2.2 | exact (pre_day (by assumption)).1 | exact (pre_day (by assumption)).2.1 | exact (pre_day (by assumption)).2.2 | exact (pre_dayI (by assumption)).1 | exact (pre_dayI (by assumption)).2.1 | exact (pre_dayI (by assumption)).2.2 | exact (pre_moment (by assumption)).1 | exact (pre_moment (by assumption)).2.1 | exact (pre_moment (by assumption)).2.2 | exact (pre_moment0 (by assumption)).1 | exact (pre_moment0 (by assumption)).2.1 | exact (pre_moment0 (by assumption)).2.2 | exact (pre_zone (by assumption)).1 | exact (pre_zone (by assumption)).2 | exact pre_date (by assumption) | exact nthWeekday_month (by assumption) | exact shift_month _ _ _ | exact later_month _ _) (by first | assumption | decide | omega | (unfold wrap64; omega) | exact (pre_month (by assumption)).1 | exact (pre_month (by assumption)).2.1 | exact (pre_month (by assumption)).2.2 | exact (pre_day (by assumption)).1 | exact (pre_day (by assumption)).2.1 | exact (pre_day (by assumption)).2.2 | exact (pre_dayI (by assumption)).1 | exact (pre_dayI (by assumption)).2.1 | exact (pre_dayI (by assumption)).2.2 | exact (pre_moment (by assumption)).1 | exact (pre_moment (by assumption)).2.1 | exact (pre_moment (by assumption)).2.2 | exact (pre_moment0 (by assumption)).1 | exact (pre_moment0 (by assumption)).2.1 | exact (pre_moment0 (by assumption)).2.2 | exact (pre_zone (by assumption)).1 | exact (pre_zone (by assumption)).2 | exact pre_date (by assumption) | exact nthWeekday_month (by assumption) | exact shift_month _ _ _ | exact later_month _ _) (by first | assumption | decide | omega | (unfold wrap64; omega) | exact (pre_month (by assumption)).1 | exact (pre_month (by assumption)).2.1 | exact (pre_month (by assumption)).2.2 | exact (pre_day (by assumption)).1 | exact (pre_day (by assumption)).2.1 | exact (pre_day (by assumption)).2.2 | exact (pre_dayI (by assumption)).1 | exact (pre_dayI (by assumption)).2.1 | exact (pre_dayI (by assumption)).2.2 | exact (pre_moment (by assumption)).1 | exact (pre_moment (by assumption)).2.1 | exact (pre_moment (by assumption)).2.2 | exact (pre_moment0 (by assumption)).1 | exact (pre_moment0 (by assumption)).2.1 | exact (pre_moment0 (by assumption)).2.2 | exact (pre_zone (by assumption)).1 | exact (pre_zone (by assumption)).2 | exact pre_date (by assumption) | exact nthWeekday_month (by assumption) | exact shift_month _ _ _ | exact later_month _ _)).mono ?_; rintro e w1 ⟨rfl, hq⟩; obtain ⟨hc, hf⟩ := hq.rules; have hs := hq.le; try simp at hs))
  all_goals go_ret2
  all_goals refine ⟨?_, (by (repeat (first | (with_reducible exact Q.refl _) | (with_reducible assumption) | (with_reducible refine Q.setCell ?_ (by dsimp only; omega) _) | (with_reducible refine Q.alloc ?_ _) | (with_reducible refine Q.drew ?_) | (with_reducible refine Q.call ?_ (by with_reducible assumption)))))⟩
  all_goals first | (simp [S_HourNumber, *]; done) | (simp [S_HourNumber, *]; omega) | (simp [S_HourNumber, *]; simp (disch := omega) only [if_pos, if_neg]; done) | (simp_all [S_HourNumber]; done) | (simp_all [S_HourNumber]; omega)

set_option maxHeartbeats 1000000 in
theorem c_L_toDay (a_Rise : Int) (a_Set : Int) (w : World)  : Calls Try.prog 36 #[.agg #[.int .i64 a_Rise, .int .i64 a_Set]] w fun e w' => e = .returned (.agg #[.int .i64 ((L_toDay (⟨a_Rise, a_Set⟩ : Day)).Rise), .int .i64 ((L_toDay (⟨a_Rise, a_Set⟩ : Day)).Set)]) ∧ Q w w' := by
  have hset := setRule
  have hall := allocRule
  have halm := allocMark
  have hw64 := wrapRule
  go_enter Try.func36, Try.ntmps36
  go_wp2
  all_goals
    refine bodyPost_ret (v := .agg #[.int .i64 ((L_toDay (⟨a_Rise, a_Set⟩ : Day)).Rise), .int .i64 ((L_toDay (⟨a_Rise, a_Set⟩ : Day)).Set)]) ?_ rfl ⟨rfl, ?_⟩
    · first | (simp [results, Try.results36, go_sem, L_toDay, *]; done) | (simp [results, Try.results36, go_sem, *]; repeat (simp (disch := omega) only [if_pos, if_neg]; try simp [go_sem, L_toDay, *]))
    · (repeat (first | (with_reducible exact Q.refl _) | (with_reducible assumption) | (with_reducible refine Q.setCell ?_ (by dsimp only; omega) _) | (with_reducible refine Q.alloc ?_ _) | (with_reducible refine Q.drew ?_) | (with_reducible refine Q.call ?_ (by with_reducible assumption))))

theorem c_I_IsDay (d_Rise : Int) (d_Set : Int) (w : World)  : Calls Try.prog 49 #[.agg #[.int .i64 d_Rise, .int .i64 d_Set]] w fun e w' => e = .returned (.bool ((I_IsDay (⟨d_Rise, d_Set⟩ : Day)))) ∧ Q w w' := by
  have hset := setRule
  have hall := allocRule
  have halm := allocMark
  have hw64 := wrapRule
  go_enter Try.func49, Try.ntmps49
  go_wp2
  all_goals go_ret
  all_goals refine ⟨?_, (by (repeat (first | (with_reducible exact Q.refl _) | (with_reducible assumption) | (with_reducible refine Q.setCell ?_ (by dsimp only; omega) _) | (with_reducible refine Q.alloc ?_ _) | (with_reducible refine Q.drew ?_) | (with_reducible refine Q.call ?_ (by with_reducible assumption)))))⟩
  all_goals first | (simp [I_IsDay, *]; done) | (simp [I_IsDay, *]; omega) | (simp [I_IsDay, *]; simp (disch := omega) only [if_pos, if_neg]; done) | (simp_all [I_IsDay]; done) | (simp_all [I_IsDay]; omega)

set_option maxHeartbeats 1000000 in
theorem c_I_counted1 (d_Rise d_Set minute s1 : Int) (b : Nat) (w : World) (hb : b < w.heap.size) (h0 : w.cell? ⟨b, 0, none⟩ = some (.int .i64 s1)) : Calls Try.prog 91 #[.agg #[.int .i64 d_Rise, .int .i64 d_Set], .int .i64 minute, .slice (some ⟨b, 0, none⟩) 1 1] w fun e w' => e = .returned (.int .i64 (I_counted ⟨d_Rise, d_Set⟩ minute [s1])) ∧ Q w w' := by
  have hset := setRule
  have hall := allocRule
  have halm := allocMark
  have hw64 := wrapRule
  have hwa : wrap64 1 = 1 := w64 (by omega)
  have hwb : wrap64 2 = 2 := w64 (by omega)
  rcases Bool.eq_false_or_eq_true (I_IsDay ⟨d_Rise, d_Set⟩) with g0 | g0
  · skip
    rcases Bool.eq_false_or_eq_true (I_in s1 0 3) with g1 | g1
    · skip
      rcases Bool.eq_false_or_eq_true (I_isMinute minute) with g9 | g9
      · skip
        go_enter Try.func91, Try.ntmps91
        go_wp2_with (first | (go_at_call 49; refine (c_I_IsDay _ _ _ ).mono ?_; rintro e w1 ⟨rfl, hq⟩; obtain ⟨hc, hf⟩ := hq.rules; have hs := hq.le; try simp at hs) | (go_at_call 121; refine (c_I_in _ _ _ _ ).mono ?_; rintro e w1 ⟨rfl, rfl⟩) | (go_at_call 86; refine (c_I_isMinute _ _ ).mono ?_; rintro e w1 ⟨rfl, rfl⟩))
        all_goals try (refine wp_loop_rounds 2 ?_; rw [rounds_succ])
        all_goals try go_wp2_with (first | (go_at_call 49; refine (c_I_IsDay _ _ _ ).mono ?_; rintro e w1 ⟨rfl, hq⟩; obtain ⟨hc, hf⟩ := hq.rules; have hs := hq.le; try simp at hs) | (go_at_call 121; refine (c_I_in _ _ _ _ ).mono ?_; rintro e w1 ⟨rfl, rfl⟩) | (go_at_call 86; refine (c_I_isMinute _ _ ).mono ?_; rintro e w1 ⟨rfl, rfl⟩))
        all_goals try (rw [rounds_succ])
        all_goals try go_wp2_with (first | (go_at_call 49; refine (c_I_IsDay _ _ _ ).mono ?_; rintro e w1 ⟨rfl, hq⟩; obtain ⟨hc, hf⟩ := hq.rules; have hs := hq.le; try simp at hs) | (go_at_call 121; refine (c_I_in _ _ _ _ ).mono ?_; rintro e w1 ⟨rfl, rfl⟩) | (go_at_call 86; refine (c_I_isMinute _ _ ).mono ?_; rintro e w1 ⟨rfl, rfl⟩))
        all_goals go_ret
        all_goals refine ⟨?_, (by repeat (first | (with_reducible exact Q.refl _) | (with_reducible assumption) | (with_reducible refine Q.setCell ?_ (by dsimp only; omega) _) | (with_reducible refine Q.alloc ?_ _) | (with_reducible refine Q.drew ?_) | (with_reducible refine Q.call ?_ (by with_reducible assumption))))⟩
        all_goals first | (simp [I_counted, *]; done) | (simp_all [I_counted]; done)
      · skip
        go_enter Try.func91, Try.ntmps91
        go_wp2_with (first | (go_at_call 49; refine (c_I_IsDay _ _ _ ).mono ?_; rintro e w1 ⟨rfl, hq⟩; obtain ⟨hc, hf⟩ := hq.rules; have hs := hq.le; try simp at hs) | (go_at_call 121; refine (c_I_in _ _ _ _ ).mono ?_; rintro e w1 ⟨rfl, rfl⟩) | (go_at_call 86; refine (c_I_isMinute _ _ ).mono ?_; rintro e w1 ⟨rfl, rfl⟩))
        all_goals try (refine wp_loop_rounds 2 ?_; rw [rounds_succ])
        all_goals try go_wp2_with (first | (go_at_call 49; refine (c_I_IsDay _ _ _ ).mono ?_; rintro e w1 ⟨rfl, hq⟩; obtain ⟨hc, hf⟩ := hq.rules; have hs := hq.le; try simp at hs) | (go_at_call 121; refine (c_I_in _ _ _ _ ).mono ?_; rintro e w1 ⟨rfl, rfl⟩) | (go_at_call 86; refine (c_I_isMinute _ _ ).mono ?_; rintro e w1 ⟨rfl, rfl⟩))
        all_goals try (rw [rounds_succ])
        all_goals try go_wp2_with (first | (go_at_call 49; refine (c_I_IsDay _ _ _ ).mono ?_; rintro e w1 ⟨rfl, hq⟩; obtain ⟨hc, hf⟩ := hq.rules; have hs := hq.le; try simp at hs) | (go_at_call 121; refine (c_I_in _ _ _ _ ).mono ?_; rintro e w1 ⟨rfl, rfl⟩) | (go_at_call 86; refine (c_I_isMinute _ _ ).mono ?_; rintro e w1 ⟨rfl, rfl⟩))
        all_goals go_ret
        all_goals refine ⟨?_, (by repeat (first | (with_reducible exact Q.refl _) | (with_reducible assumption) | (with_reducible refine Q.setCell ?_ (by dsimp only; omega) _) | (with_reducible refine Q.alloc ?_ _) | (with_reducible refine Q.drew ?_) | (with_reducible refine Q.call ?_ (by with_reducible assumption))))⟩
        all_goals first | (simp [I_counted, *]; done) | (simp_all [I_counted]; done)
    · skip
      go_enter Try.func91, Try.ntmps91
      go_wp2_with (first | (go_at_call 49; refine (c_I_IsDay _ _ _ ).mono ?_; rintro e w1 ⟨rfl, hq⟩; obtain ⟨hc, hf⟩ := hq.rules; have hs := hq.le; try simp at hs) | (go_at_call 121; refine (c_I_in _ _ _ _ ).mono ?_; rintro e w1 ⟨rfl, rfl⟩) | (go_at_call 86; refine (c_I_isMinute _ _ ).mono ?_; rintro e w1 ⟨rfl, rfl⟩))
      all_goals try (refine wp_loop_rounds 2 ?_; rw [rounds_succ])
      all_goals try go_wp2_with (first | (go_at_call 49; refine (c_I_IsDay _ _ _ ).mono ?_; rintro e w1 ⟨rfl, hq⟩; obtain ⟨hc, hf⟩ := hq.rules; have hs := hq.le; try simp at hs) | (go_at_call 121; refine (c_I_in _ _ _ _ ).mono ?_; rintro e w1 ⟨rfl, rfl⟩) | (go_at_call 86; refine (c_I_isMinute _ _ ).mono ?_; rintro e w1 ⟨rfl, rfl⟩))
      all_goals try (rw [rounds_succ])
      all_goals try go_wp2_with (first | (go_at_call 49; refine (c_I_IsDay _ _ _ ).mono ?_; rintro e w1 ⟨rfl, hq⟩; obtain ⟨hc, hf⟩ := hq.rules; have hs := hq.le; try simp at hs) | (go_at_call 121; refine (c_I_in _ _ _ _ ).mono ?_; rintro e w1 ⟨rfl, rfl⟩) | (go_at_call 86; refine (c_I_isMinute _ _ ).mono ?_; rintro e w1 ⟨rfl, rfl⟩))
      all_goals go_ret
      all_goals refine ⟨?_, (by repeat (first | (with_reducible exact Q.refl _) | (with_reducible assumption) | (with_reducible refine Q.setCell ?_ (by dsimp only; omega) _) | (with_reducible refine Q.alloc ?_ _) | (with_reducible refine Q.drew ?_) | (with_reducible refine Q.call ?_ (by with_reducible assumption))))⟩
      all_goals first | (simp [I_counted, *]; done) | (simp_all [I_counted]; done)
  · skip
    go_enter Try.func91, Try.ntmps91
    go_wp2_with (first | (go_at_call 49; refine (c_I_IsDay _ _ _ ).mono ?_; rintro e w1 ⟨rfl, hq⟩; obtain ⟨hc, hf⟩ := hq.rules; have hs := hq.le; try simp at hs) | (go_at_call 121; refine (c_I_in _ _ _ _ ).mono ?_; rintro e w1 ⟨rfl, rfl⟩) | (go_at_call 86; refine (c_I_isMinute _ _ ).mono ?_; rintro e w1 ⟨rfl, rfl⟩))
    all_goals try (refine wp_loop_rounds 2 ?_; rw [rounds_succ])
    all_goals try go_wp2_with (first | (go_at_call 49; refine (c_I_IsDay _ _ _ ).mono ?_; rintro e w1 ⟨rfl, hq⟩; obtain ⟨hc, hf⟩ := hq.rules; have hs := hq.le; try simp at hs) | (go_at_call 121; refine (c_I_in _ _ _ _ ).mono ?_; rintro e w1 ⟨rfl, rfl⟩) | (go_at_call 86; refine (c_I_isMinute _ _ ).mono ?_; rintro e w1 ⟨rfl, rfl⟩))
    all_goals try (rw [rounds_succ])
    all_goals try go_wp2_with (first | (go_at_call 49; refine (c_I_IsDay _ _ _ ).mono ?_; rintro e w1 ⟨rfl, hq⟩; obtain ⟨hc, hf⟩ := hq.rules; have hs := hq.le; try simp at hs) | (go_at_call 121; refine (c_I_in _ _ _ _ ).mono ?_; rintro e w1 ⟨rfl, rfl⟩) | (go_at_call 86; refine (c_I_isMinute _ _ ).mono ?_; rintro e w1 ⟨rfl, rfl⟩))
    all_goals go_ret
    all_goals refine ⟨?_, (by repeat (first | (with_reducible exact Q.refl _) | (with_reducible assumption) | (with_reducible refine Q.setCell ?_ (by dsimp only; omega) _) | (with_reducible refine Q.alloc ?_ _) | (with_reducible refine Q.drew ?_) | (with_reducible refine Q.call ?_ (by with_reducible assumption))))⟩
    all_goals first | (simp [I_counted, *]; done) | (simp_all [I_counted]; done)
set_option maxHeartbeats 1000000 in
theorem c_I_counted2 (d_Rise d_Set minute s1 s2 : Int) (b : Nat) (w : World) (hb : b < w.heap.size) (h0 : w.cell? ⟨b, 0, none⟩ = some (.int .i64 s1)) (h1 : w.cell? ⟨b, 1, none⟩ = some (.int .i64 s2)) : Calls Try.prog 91 #[.agg #[.int .i64 d_Rise, .int .i64 d_Set], .int .i64 minute, .slice (some ⟨b, 0, none⟩) 2 2] w fun e w' => e = .returned (.int .i64 (I_counted ⟨d_Rise, d_Set⟩ minute [s1, s2])) ∧ Q w w' := by
  have hset := setRule
  have hall := allocRule
  have halm := allocMark
  have hw64 := wrapRule
  have hwa : wrap64 1 = 1 := w64 (by omega)
  have hwb : wrap64 2 = 2 := w64 (by omega)
  rcases Bool.eq_false_or_eq_true (I_IsDay ⟨d_Rise, d_Set⟩) with g0 | g0
  · skip
    rcases Bool.eq_false_or_eq_true (I_in s1 0 3) with g1 | g1
    · skip
      rcases Bool.eq_false_or_eq_true (I_in s2 0 3) with g2 | g2
      · skip
        rcases Bool.eq_false_or_eq_true (I_isMinute minute) with g9 | g9
        · skip
          go_enter Try.func91, Try.ntmps91
          go_wp2_with (first | (go_at_call 49; refine (c_I_IsDay _ _ _ ).mono ?_; rintro e w1 ⟨rfl, hq⟩; obtain ⟨hc, hf⟩ := hq.rules; have hs := hq.le; try simp at hs) | (go_at_call 121; refine (c_I_in _ _ _ _ ).mono ?_; rintro e w1 ⟨rfl, rfl⟩) | (go_at_call 86; refine (c_I_isMinute _ _ ).mono ?_; rintro e w1 ⟨rfl, rfl⟩))
          all_goals try (refine wp_loop_rounds 3 ?_; rw [rounds_succ])
          all_goals try go_wp2_with (first | (go_at_call 49; refine (c_I_IsDay _ _ _ ).mono ?_; rintro e w1 ⟨rfl, hq⟩; obtain ⟨hc, hf⟩ := hq.rules; have hs := hq.le; try simp at hs) | (go_at_call 121; refine (c_I_in _ _ _ _ ).mono ?_; rintro e w1 ⟨rfl, rfl⟩) | (go_at_call 86; refine (c_I_isMinute _ _ ).mono ?_; rintro e w1 ⟨rfl, rfl⟩))
          all_goals try (rw [rounds_succ])
          all_goals try go_wp2_with (first | (go_at_call 49; refine (c_I_IsDay _ _ _ ).mono ?_; rintro e w1 ⟨rfl, hq⟩; obtain ⟨hc, hf⟩ := hq.rules; have hs := hq.le; try simp at hs) | (go_at_call 121; refine (c_I_in _ _ _ _ ).mono ?_; rintro e w1 ⟨rfl, rfl⟩) | (go_at_call 86; refine (c_I_isMinute _ _ ).mono ?_; rintro e w1 ⟨rfl, rfl⟩))
          all_goals try (rw [rounds_succ])
          all_goals try go_wp2_with (first | (go_at_call 49; refine (c_I_IsDay _ _ _ ).mono ?_; rintro e w1 ⟨rfl, hq⟩; obtain ⟨hc, hf⟩ := hq.rules; have hs := hq.le; try simp at hs) | (go_at_call 121; refine (c_I_in _ _ _ _ ).mono ?_; rintro e w1 ⟨rfl, rfl⟩) | (go_at_call 86; refine (c_I_isMinute _ _ ).mono ?_; rintro e w1 ⟨rfl, rfl⟩))
          all_goals go_ret
          all_goals refine ⟨?_, (by repeat (first | (with_reducible exact Q.refl _) | (with_reducible assumption) | (with_reducible refine Q.setCell ?_ (by dsimp only; omega) _) | (with_reducible refine Q.alloc ?_ _) | (with_reducible refine Q.drew ?_) | (with_reducible refine Q.call ?_ (by with_reducible assumption))))⟩
          all_goals first | (simp [I_counted, *]; done) | (simp_all [I_counted]; done)
        · skip
          go_enter Try.func91, Try.ntmps91
          go_wp2_with (first | (go_at_call 49; refine (c_I_IsDay _ _ _ ).mono ?_; rintro e w1 ⟨rfl, hq⟩; obtain ⟨hc, hf⟩ := hq.rules; have hs := hq.le; try simp at hs) | (go_at_call 121; refine (c_I_in _ _ _ _ ).mono ?_; rintro e w1 ⟨rfl, rfl⟩) | (go_at_call 86; refine (c_I_isMinute _ _ ).mono ?_; rintro e w1 ⟨rfl, rfl⟩))
          all_goals try (refine wp_loop_rounds 3 ?_; rw [rounds_succ])
          all_goals try go_wp2_with (first | (go_at_call 49; refine (c_I_IsDay _ _ _ ).mono ?_; rintro e w1 ⟨rfl, hq⟩; obtain ⟨hc, hf⟩ := hq.rules; have hs := hq.le; try simp at hs) | (go_at_call 121; refine (c_I_in _ _ _ _ ).mono ?_; rintro e w1 ⟨rfl, rfl⟩) | (go_at_call 86; refine (c_I_isMinute _ _ ).mono ?_; rintro e w1 ⟨rfl, rfl⟩))
          all_goals try (rw [rounds_succ])
          all_goals try go_wp2_with (first | (go_at_call 49; refine (c_I_IsDay _ _ _ ).mono ?_; rintro e w1 ⟨rfl, hq⟩; obtain ⟨hc, hf⟩ := hq.rules; have hs := hq.le; try simp at hs) | (go_at_call 121; refine (c_I_in _ _ _ _ ).mono ?_; rintro e w1 ⟨rfl, rfl⟩) | (go_at_call 86; refine (c_I_isMinute _ _ ).mono ?_; rintro e w1 ⟨rfl, rfl⟩))
          all_goals try (rw [rounds_succ])
          all_goals try go_wp2_with (first | (go_at_call 49; refine (c_I_IsDay _ _ _ ).mono ?_; rintro e w1 ⟨rfl, hq⟩; obtain ⟨hc, hf⟩ := hq.rules; have hs := hq.le; try simp at hs) | (go_at_call 121; refine (c_I_in _ _ _ _ ).mono ?_; rintro e w1 ⟨rfl, rfl⟩) | (go_at_call 86; refine (c_I_isMinute _ _ ).mono ?_; rintro e w1 ⟨rfl, rfl⟩))
          all_goals go_ret
          all_goals refine ⟨?_, (by repeat (first | (with_reducible exact Q.refl _) | (with_reducible assumption) | (with_reducible refine Q.setCell ?_ (by dsimp only; omega) _) | (with_reducible refine Q.alloc ?_ _) | (with_reducible refine Q.drew ?_) | (with_reducible refine Q.call ?_ (by with_reducible assumption))))⟩
          all_goals first | (simp [I_counted, *]; done) | (simp_all [I_counted]; done)
      · skip
        go_enter Try.func91, Try.ntmps91
        go_wp2_with (first | (go_at_call 49; refine (c_I_IsDay _ _ _ ).mono ?_; rintro e w1 ⟨rfl, hq⟩; obtain ⟨hc, hf⟩ := hq.rules; have hs := hq.le; try simp at hs) | (go_at_call 121; refine (c_I_in _ _ _ _ ).mono ?_; rintro e w1 ⟨rfl, rfl⟩) | (go_at_call 86; refine (c_I_isMinute _ _ ).mono ?_; rintro e w1 ⟨rfl, rfl⟩))
        all_goals try (refine wp_loop_rounds 3 ?_; rw [rounds_succ])
        all_goals try go_wp2_with (first | (go_at_call 49; refine (c_I_IsDay _ _ _ ).mono ?_; rintro e w1 ⟨rfl, hq⟩; obtain ⟨hc, hf⟩ := hq.rules; have hs := hq.le; try simp at hs) | (go_at_call 121; refine (c_I_in _ _ _ _ ).mono ?_; rintro e w1 ⟨rfl, rfl⟩) | (go_at_call 86; refine (c_I_isMinute _ _ ).mono ?_; rintro e w1 ⟨rfl, rfl⟩))
        all_goals try (rw [rounds_succ])
        all_goals try go_wp2_with (first | (go_at_call 49; refine (c_I_IsDay _ _ _ ).mono ?_; rintro e w1 ⟨rfl, hq⟩; obtain ⟨hc, hf⟩ := hq.rules; have hs := hq.le; try simp at hs) | (go_at_call 121; refine (c_I_in _ _ _ _ ).mono ?_; rintro e w1 ⟨rfl, rfl⟩) | (go_at_call 86; refine (c_I_isMinute _ _ ).mono ?_; rintro e w1 ⟨rfl, rfl⟩))
        all_goals try (rw [rounds_succ])
        all_goals try go_wp2_with (first | (go_at_call 49; refine (c_I_IsDay _ _ _ ).mono ?_; rintro e w1 ⟨rfl, hq⟩; obtain ⟨hc, hf⟩ := hq.rules; have hs := hq.le; try simp at hs) | (go_at_call 121; refine (c_I_in _ _ _ _ ).mono ?_; rintro e w1 ⟨rfl, rfl⟩) | (go_at_call 86; refine (c_I_isMinute _ _ ).mono ?_; rintro e w1 ⟨rfl, rfl⟩))
        all_goals go_ret
        all_goals refine ⟨?_, (by repeat (first | (with_reducible exact Q.refl _) | (with_reducible assumption) | (with_reducible refine Q.setCell ?_ (by dsimp only; omega) _) | (with_reducible refine Q.alloc ?_ _) | (with_reducible refine Q.drew ?_) | (with_reducible refine Q.call ?_ (by with_reducible assumption))))⟩
        all_goals first | (simp [I_counted, *]; done) | (simp_all [I_counted]; done)
    · skip
      go_enter Try.func91, Try.ntmps91
      go_wp2_with (first | (go_at_call 49; refine (c_I_IsDay _ _ _ ).mono ?_; rintro e w1 ⟨rfl, hq⟩; obtain ⟨hc, hf⟩ := hq.rules; have hs := hq.le; try simp at hs) | (go_at_call 121; refine (c_I_in _ _ _ _ ).mono ?_; rintro e w1 ⟨rfl, rfl⟩) | (go_at_call 86; refine (c_I_isMinute _ _ ).mono ?_; rintro e w1 ⟨rfl, rfl⟩))
      all_goals try (refine wp_loop_rounds 3 ?_; rw [rounds_succ])
      all_goals try go_wp2_with (first | (go_at_call 49; refine (c_I_IsDay _ _ _ ).mono ?_; rintro e w1 ⟨rfl, hq⟩; obtain ⟨hc, hf⟩ := hq.rules; have hs := hq.le; try simp at hs) | (go_at_call 121; refine (c_I_in _ _ _ _ ).mono ?_; rintro e w1 ⟨rfl, rfl⟩) | (go_at_call 86; refine (c_I_isMinute _ _ ).mono ?_; rintro e w1 ⟨rfl, rfl⟩))
      all_goals try (rw [rounds_succ])
      all_goals try go_wp2_with (first | (go_at_call 49; refine (c_I_IsDay _ _ _ ).mono ?_; rintro e w1 ⟨rfl, hq⟩; obtain ⟨hc, hf⟩ := hq.rules; have hs := hq.le; try simp at hs) | (go_at_call 121; refine (c_I_in _ _ _ _ ).mono ?_; rintro e w1 ⟨rfl, rfl⟩) | (go_at_call 86; refine (c_I_isMinute _ _ ).mono ?_; rintro e w1 ⟨rfl, rfl⟩))
      all_goals try (rw [rounds_succ])
      all_goals try go_wp2_with (first | (go_at_call 49; refine (c_I_IsDay _ _ _ ).mono ?_; rintro e w1 ⟨rfl, hq⟩; obtain ⟨hc, hf⟩ := hq.rules; have hs := hq.le; try simp at hs) | (go_at_call 121; refine (c_I_in _ _ _ _ ).mono ?_; rintro e w1 ⟨rfl, rfl⟩) | (go_at_call 86; refine (c_I_isMinute _ _ ).mono ?_; rintro e w1 ⟨rfl, rfl⟩))
      all_goals go_ret
      all_goals refine ⟨?_, (by repeat (first | (with_reducible exact Q.refl _) | (with_reducible assumption) | (with_reducible refine Q.setCell ?_ (by dsimp only; omega) _) | (with_reducible refine Q.alloc ?_ _) | (with_reducible refine Q.drew ?_) | (with_reducible refine Q.call ?_ (by with_reducible assumption))))⟩
      all_goals first | (simp [I_counted, *]; done) | (simp_all [I_counted]; done)
  · skip
    go_enter Try.func91, Try.ntmps91
    go_wp2_with (first | (go_at_call 49; refine (c_I_IsDay _ _ _ ).mono ?_; rintro e w1 ⟨rfl, hq⟩; obtain ⟨hc, hf⟩ := hq.rules; have hs := hq.le; try simp at hs) | (go_at_call 121; refine (c_I_in _ _ _ _ ).mono ?_; rintro e w1 ⟨rfl, rfl⟩) | (go_at_call 86; refine (c_I_isMinute _ _ ).mono ?_; rintro e w1 ⟨rfl, rfl⟩))
    all_goals try (refine wp_loop_rounds 3 ?_; rw [rounds_succ])
    all_goals try go_wp2_with (first | (go_at_call 49; refine (c_I_IsDay _ _ _ ).mono ?_; rintro e w1 ⟨rfl, hq⟩; obtain ⟨hc, hf⟩ := hq.rules; have hs := hq.le; try simp at hs) | (go_at_call 121; refine (c_I_in _ _ _ _ ).mono ?_; rintro e w1 ⟨rfl, rfl⟩) | (go_at_call 86; refine (c_I_isMinute _ _ ).mono ?_; rintro e w1 ⟨rfl, rfl⟩))
    all_goals try (rw [rounds_succ])
    all_goals try go_wp2_with (first | (go_at_call 49; refine (c_I_IsDay _ _ _ ).mono ?_; rintro e w1 ⟨rfl, hq⟩; obtain ⟨hc, hf⟩ := hq.rules; have hs := hq.le; try simp at hs) | (go_at_call 121; refine (c_I_in _ _ _ _ ).mono ?_; rintro e w1 ⟨rfl, rfl⟩) | (go_at_call 86; refine (c_I_isMinute _ _ ).mono ?_; rintro e w1 ⟨rfl, rfl⟩))
    all_goals try (rw [rounds_succ])
    all_goals try go_wp2_with (first | (go_at_call 49; refine (c_I_IsDay _ _ _ ).mono ?_; rintro e w1 ⟨rfl, hq⟩; obtain ⟨hc, hf⟩ := hq.rules; have hs := hq.le; try simp at hs) | (go_at_call 121; refine (c_I_in _ _ _ _ ).mono ?_; rintro e w1 ⟨rfl, rfl⟩) | (go_at_call 86; refine (c_I_isMinute _ _ ).mono ?_; rintro e w1 ⟨rfl, rfl⟩))
    all_goals go_ret
    all_goals refine ⟨?_, (by repeat (first | (with_reducible exact Q.refl _) | (with_reducible assumption) | (with_reducible refine Q.setCell ?_ (by dsimp only; omega) _) | (with_reducible refine Q.alloc ?_ _) | (with_reducible refine Q.drew ?_) | (with_reducible refine Q.call ?_ (by with_reducible assumption))))⟩
    all_goals first | (simp [I_counted, *]; done) | (simp_all [I_counted]; done)

theorem c_I_Day_number (d_Rise : Int) (d_Set : Int) (system : Int) (minute : Int) (w : World) (hp0 : 0 ≤ d_Rise) (hp1 : d_Rise < d_Set) (hp2 : d_Set ≤ 1439) : Calls Try.prog 92 #[.agg #[.int .i64 d_Rise, .int .i64 d_Set], .int .i64 system, .int .i64 minute] w fun e w' => e = .returned (.int .i64 ((I_Day_number (⟨d_Rise, d_Set⟩ : Day) system minute))) ∧ Q w w' := by
  have hset := setRule
  have hall := allocRule
  have halm := allocMark
  have hw64 := wrapRule
  have hx1 : wrap64 (d_Set - d_Rise) = d_Set - d_Rise := w64 (by omega)
  have hx2 : wrap64 (1440 - d_Set) = 1440 - d_Set := w64 (by omega)
  have hx3 : wrap64 (1440 - d_Set + d_Rise) = 1440 - d_Set + d_Rise := w64 (by omega)
  have hx4 : (d_Set - d_Rise = 0) = False := eq_false (by omega)
  have hx5 : (1440 - d_Set + d_Rise = 0) = False := eq_false (by omega)
  have hmax := maxRule
  have hmin := minRule
  go_enter Try.func92, Try.ntmps92
  go_wp2_with (first | (go_at_call 138; refine (c_I_mod _ _ _ (by first | assumption | decide | omega | (unfold wrap64; omega))).mono ?_; rintro e w1 ⟨rfl, rfl⟩))
  all_goals go_ret
  all_goals refine ⟨?_, (by (repeat (first | (with_reducible exact Q.refl _) | (with_reducible assumption) | (with_reducible refine Q.setCell ?_ (by dsimp only; omega) _) | (with_reducible refine Q.alloc ?_ _) | (with_reducible refine Q.drew ?_) | (with_reducible refine Q.call ?_ (by with_reducible assumption)))))⟩
  all_goals first | (simp [I_Day_number, *]; done) | (simp [I_Day_number, *]; omega) | (simp [I_Day_number, *]; simp (disch := omega) only [if_pos, if_neg]; done) | (simp_all [I_Day_number]; done) | (simp_all [I_Day_number]; omega)

theorem c_I_HourNumber (d_Rise : Int) (d_Set : Int) (system : Int) (minute : Int) (w : World)  : Calls Try.prog 37 #[.agg #[.int .i64 d_Rise, .int .i64 d_Set], .int .i64 system, .int .i64 minute] w fun e w' => e = .returned (.tuple #[.int .i64 ((I_HourNumber (⟨d_Rise, d_Set⟩ : Day) system minute).1), .int .i64 ((I_HourNumber (⟨d_Rise, d_Set⟩ : Day) system minute).2)]) ∧ Q w w' := by
  have hset := setRule
  have hall := allocRule
  have halm := allocMark
  have hw64 := wrapRule
  have hmax := maxRule
  have hmin := minRule
  go_enter Try.func37, Try.ntmps37
  go_wp2_with (first | (go_at_call 91; refine (c_I_counted1 _ _ _ _ _ _ (by first | omega | (go_simp; done) | (go_simp; omega) | (simp; omega)) (by (try go_simp); (repeat (simp (disch := omega) only [if_pos, if_neg]; try go_simp)); first | done | rfl | (intro hx; exfalso; omega) | (simp [*]; done))).mono ?_; rintro e w1 ⟨rfl, hq⟩; obtain ⟨hc, hf⟩ := hq.rules; have hs := hq.le; try simp at hs) | (go_at_call 92; refine (c_I_Day_number _ _ _ _ _ (by first | assumption | decide | omega | (unfold wrap64; omega) | exact (pre_month (by assumption)).1 | exact (pre_month (by assumption)).2.1 | exact (pre_month (by assumption)).2.2 | exact (pre_day (by assumption)).1 | exact (pre_day (by assumption)).2.1 | exact (pre_day (by assumption)).2.2 | exact (pre_dayI (by assumption)).1 | exact (pre_dayI (by assumption)).2.1 | exact (pre_dayI (by assumption)).2.2 | exact (pre_moment (by assumption)).1 | exact (pre_moment (by assumption)).2.1 | exact (pre_moment (by assumption)).2.2 | exact (pre_moment0 (by assumption)).1 | exact (pre_moment0 (by assumption)).2.1 | exact (pre_moment0 (by assumption)).2.2 | exact (pre_zone (by assumption)).1 | exact (pre_zone (by assumption)).2 | exact pre_date (by assumption) | exact nthWeekday_month (by assumption) | exact shift_month _ _ _ | exact later_month _ _) (by first | assumption | decide | omega | (unfold wrap64; omega) | exact (pre_month (by assumption)).1 | exact (pre_month (by assumption)).2.1 | exact (pre_month (by assumption)).2.2 | exact (pre_day (by assumption)).1 | exact (pre_day (by assumption)).2.1 | exact (pre_day (by assumption)).2.2 | exact (pre_dayI (by assumption)).1 | exact (pre_dayI (by assumption)).2.1 | exact (pre_dayI (by assumption)).2.2 | exact (pre_moment (by assumption)).1 | exact (pre_moment (by assumption)).2.1 | exact (pre_moment (by assumption)).2.2 | exact (pre_moment0 (by assumption)).1 | exact (pre_moment0 (by assumption)).2.1 | exact (pre_moment0 (by assumption)).2.2 | exact (pre_zone (by assumption)).1 | exact (pre_zone (by assumption)).2 | exact pre_date (by assumption) | exact nthWeekday_month (by assumption) | exact shift_month _ _ _ | exact later_month _ _) (by first | assumption | decide | omega | (unfold wrap64; omega) | exact (pre_month (by assumption)).1 | exact (pre_month (by assumption)).2.1 | exact (pre_month (by assumption)).2.2 | exact (pre_day (by assumption)).1 | exact (pre_day (by assumption)).2.1 | exact (pre_day (by assumption)).2.2 | exact (pre_dayI (by assumption)).1 | exact (pre_dayI (by assumption)).2.1 | exact (pre_dayI (by assumption)).2.2 | exact (pre_moment (by assumption)).1 | exact (pre_moment (by assumption)).2.1 | exact (pre_moment (by assumption)).2.2 | exact (pre_moment0 (by assumption)).1 | exact (pre_moment0 (by assumption)).2.1 | exact (pre_moment0 (by assumption)).2.2 | exact (pre_zone (by assumption)).1 | exact (pre_zone (by assumption)).2 | exact pre_date (by assumption) | exact nthWeekday_month (by assumption) | exact shift_month _ _ _ | exact later_month _ _)).mono ?_; rintro e w1 ⟨rfl, hq⟩; obtain ⟨hc, hf⟩ := hq.rules; have hs := hq.le; try simp at hs))
  all_goals go_ret2
  all_goals refine ⟨?_, (by (repeat (first | (with_reducible exact Q.refl _) | (with_reducible assumption) | (with_reducible refine Q.setCell ?_ (by dsimp only; omega) _) | (with_reducible refine Q.alloc ?_ _) | (with_reducible refine Q.drew ?_) | (with_reducible refine Q.call ?_ (by with_reducible assumption)))))⟩
  all_goals first | (simp [I_HourNumber, *]; done) | (simp [I_HourNumber, *]; omega) | (simp [I_HourNumber, *]; simp (disch := omega) only [if_pos, if_neg]; done) | (simp_all [I_HourNumber]; done) | (simp_all [I_HourNumber]; omega)

set_option maxRecDepth 100000 in
set_option maxHeartbeats 4000000 in
theorem c_S_l12With (d_Rise d_Set system number : Int) (w : World) (hp0 : 0 ≤ d_Rise) (hp1 : d_Rise < d_Set) (hp2 : d_Set ≤ 1439) : Calls Try.prog 93 #[.agg #[.int .i64 d_Rise, .int .i64 d_Set], .int .i64 system, .int .i64 number] w fun e w' => ∃ g cap, e = .returned (.slice (some ⟨g, 0, none⟩) (S_l12With ⟨d_Rise, d_Set⟩ system number).length cap) ∧ Q w w' ∧ w.heap.size ≤ g ∧ Row w' g (ints (S_l12With ⟨d_Rise, d_Set⟩ system number)) := by
  have hset := setRule
  have hall := allocRule
  have halm := allocMark
  have hw64 := wrapRule
  have hinfo : (Try.prog.info? 2).map (fun i => (i.zero, i.size, i.bytes)) = some (some (.int .i64 0), 1, 8) := by kernel_rfl
  obtain ⟨i0, hi, hz0, hz1, hz2⟩ := info_parts hinfo
  have hmade : ((w.alloc (.cells #[.int .i64 d_Rise, .int .i64 d_Set] 58)).alloc (.cells #[] 2)).ownsRow (w.heap.size + 1) 2 1 (.slice (some ⟨w.heap.size + 1, 0, none⟩) 0 0) 0 [] := by
    have := World.ownsRow_made (base := w.heap.size + 1) (e := 2) (size := 1) (w.alloc (.cells #[.int .i64 d_Rise, .int .i64 d_Set] 58)) #[] 0 (by simp) (by simp [maxLen]) (by simp)
    simpa using this
  go_enter Try.func93, Try.ntmps93
  go_wp2_with (first | (go_at_call 90; refine (c_S_l12Number _ _ _ _ _ (by first | assumption | decide | omega | (unfold wrap64; omega) | exact (pre_month (by assumption)).1 | exact (pre_month (by assumption)).2.1 | exact (pre_month (by assumption)).2.2 | exact (pre_day (by assumption)).1 | exact (pre_day (by assumption)).2.1 | exact (pre_day (by assumption)).2.2 | exact (pre_dayI (by assumption)).1 | exact (pre_dayI (by assumption)).2.1 | exact (pre_dayI (by assumption)).2.2 | exact (pre_moment (by assumption)).1 | exact (pre_moment (by assumption)).2.1 | exact (pre_moment (by assumption)).2.2 | exact (pre_moment0 (by assumption)).1 | exact (pre_moment0 (by assumption)).2.1 | exact (pre_moment0 (by assumption)).2.2 | exact (pre_zone (by assumption)).1 | exact (pre_zone (by assumption)).2 | exact pre_date (by assumption) | exact nthWeekday_month (by assumption) | exact shift_month _ _ _ | exact later_month _ _) (by first | assumption | decide | omega | (unfold wrap64; omega) | exact (pre_month (by assumption)).1 | exact (pre_month (by assumption)).2.1 | exact (pre_month (by assumption)).2.2 | exact (pre_day (by assumption)).1 | exact (pre_day (by assumption)).2.1 | exact (pre_day (by assumption)).2.2 | exact (pre_dayI (by assumption)).1 | exact (pre_dayI (by assumption)).2.1 | exact (pre_dayI (by assumption)).2.2 | exact (pre_moment (by assumption)).1 | exact (pre_moment (by assumption)).2.1 | exact (pre_moment (by assumption)).2.2 | exact (pre_moment0 (by assumption)).1 | exact (pre_moment0 (by assumption)).2.1 | exact (pre_moment0 (by assumption)).2.2 | exact (pre_zone (by assumption)).1 | exact (pre_zone (by assumption)).2 | exact pre_date (by assumption) | exact nthWeekday_month (by assumption) | exact shift_month _ _ _ | exact later_month _ _) (by first | assumption | decide | omega | (unfold wrap64; omega) | exact (pre_month (by assumption)).1 | exact (pre_month (by assumption)).2.1 | exact (pre_month (by assumption)).2.2 | exact (pre_day (by assumption)).1 | exact (pre_day (by assumption)).2.1 | exact (pre_day (by assumption)).2.2 | exact (pre_dayI (by assumption)).1 | exact (pre_dayI (by assumption)).2.1 | exact (pre_dayI (by assumption)).2.2 | exact (pre_moment (by assumption)).1 | exact (pre_moment (by assumption)).2.1 | exact (pre_moment (by assumption)).2.2 | exact (pre_moment0 (by assumption)).1 | exact (pre_moment0 (by assumption)).2.1 | exact (pre_moment0 (by assumption)).2.2 | exact (pre_zone (by assumption)).1 | exact (pre_zone (by assumption)).2 | exact pre_date (by assumption) | exact nthWeekday_month (by assumption) | exact shift_month _ _ _ | exact later_month _ _)).mono ?_; rintro e w1 ⟨rfl, hq⟩; obtain ⟨hc, hf⟩ := hq.rules; have hs := hq.le; try simp at hs))
  go_loopg [7, 8] 1440 (fun k v mm wr => Q (w.alloc (.cells #[.int .i64 d_Rise, .int .i64 d_Set] 58)) wr ∧ ∃ j : Nat, j + k = 1440 ∧ mm = .int .i64 (j : Int) ∧ wr.ownsRow (w.heap.size + 1) 2 1 v (withUp (fun m => decide (S_l12Number ⟨d_Rise, d_Set⟩ system m = number)) j).length (ints (withUp (fun m => decide (S_l12Number ⟨d_Rise, d_Set⟩ system m = number)) j)) ∧ v ≠ .slice none 0 0)
  case atStart => exact ⟨(by repeat (first | (with_reducible exact Q.refl _) | (with_reducible assumption) | (with_reducible refine Q.setCell ?_ (by dsimp only; omega) _) | (with_reducible refine Q.alloc ?_ _) | (with_reducible refine Q.drew ?_) | (with_reducible refine Q.call ?_ (by with_reducible assumption)))), 0, by omega, rfl, hmade, by simp⟩
  case round =>
    obtain ⟨hq, j, hjk, rfl, hown, hnn⟩ := hrel
    have hr := Q.rules hq; have hc := hr.1; have hf := hr.2; clear hr; have hs := Q.le hq; try simp at hs
    have hvb := own_block hown
    have hva : u7.ownBlock ≠ some w.heap.size := fun e => by have := hvb _ e; omega
    have hvw : ∀ k, u7.ownBlock = some k → w.heap.size ≤ k := fun k hk => by have := hvb k hk; omega
    have hv0 : ∀ k, u7.ownBlock = some k → (w.alloc (.cells #[.int .i64 d_Rise, .int .i64 d_Set] 58)).heap.size ≤ k := fun k hk => by have := hvb k hk; simp; omega
    have hw1 : wrap64 ((j : Int) + 1) = (j : Int) + 1 := w64 (by omega)
    have hlen := withUp_length (fun m => decide (S_l12Number ⟨d_Rise, d_Set⟩ system m = number)) j
    by_cases hj : j < 1440
    · have hjI : (j : Int) < 1440 := by omega
      have hjg : ¬ (1440 : Int) ≤ (j : Int) := by omega
      by_cases hf2 : S_l12Number ⟨d_Rise, d_Set⟩ system (j : Int) = number
      · have hup : withUp (fun m => decide (S_l12Number ⟨d_Rise, d_Set⟩ system m = number)) (j + 1) = withUp (fun m => decide (S_l12Number ⟨d_Rise, d_Set⟩ system m = number)) j ++ [(j : Int)] := withUp_take (by simpa using hf2)
        have hup2 : Hid (withUp (fun m => decide (S_l12Number ⟨d_Rise, d_Set⟩ system m = number)) (j + 1) = withUp (fun m => decide (S_l12Number ⟨d_Rise, d_Set⟩ system m = number)) j ++ [(j : Int)]) := hup
        clear hup
        go_wp2_with (first | (go_at_call 90; refine (c_S_l12Number _ _ _ _ _ (by first | assumption | decide | omega | (unfold wrap64; omega) | exact (pre_month (by assumption)).1 | exact (pre_month (by assumption)).2.1 | exact (pre_month (by assumption)).2.2 | exact (pre_day (by assumption)).1 | exact (pre_day (by assumption)).2.1 | exact (pre_day (by assumption)).2.2 | exact (pre_dayI (by assumption)).1 | exact (pre_dayI (by assumption)).2.1 | exact (pre_dayI (by assumption)).2.2 | exact (pre_moment (by assumption)).1 | exact (pre_moment (by assumption)).2.1 | exact (pre_moment (by assumption)).2.2 | exact (pre_moment0 (by assumption)).1 | exact (pre_moment0 (by assumption)).2.1 | exact (pre_moment0 (by assumption)).2.2 | exact (pre_zone (by assumption)).1 | exact (pre_zone (by assumption)).2 | exact pre_date (by assumption) | exact nthWeekday_month (by assumption) | exact shift_month _ _ _ | exact later_month _ _) (by first | assumption | decide | omega | (unfold wrap64; omega) | exact (pre_month (by assumption)).1 | exact (pre_month (by assumption)).2.1 | exact (pre_month (by assumption)).2.2 | exact (pre_day (by assumption)).1 | exact (pre_day (by assumption)).2.1 | exact (pre_day (by assumption)).2.2 | exact (pre_dayI (by assumption)).1 | exact (pre_dayI (by assumption)).2.1 | exact (pre_dayI (by assumption)).2.2 | exact (pre_moment (by assumption)).1 | exact (pre_moment (by assumption)).2.1 | exact (pre_moment (by assumption)).2.2 | exact (pre_moment0 (by assumption)).1 | exact (pre_moment0 (by assumption)).2.1 | exact (pre_moment0 (by assumption)).2.2 | exact (pre_zone (by assumption)).1 | exact (pre_zone (by assumption)).2 | exact pre_date (by assumption) | exact nthWeekday_month (by assumption) | exact shift_month _ _ _ | exact later_month _ _) (by first | assumption | decide | omega | (unfold wrap64; omega) | exact (pre_month (by assumption)).1 | exact (pre_month (by assumption)).2.1 | exact (pre_month (by assumption)).2.2 | exact (pre_day (by assumption)).1 | exact (pre_day (by assumption)).2.1 | exact (pre_day (by assumption)).2.2 | exact (pre_dayI (by assumption)).1 | exact (pre_dayI (by assumption)).2.1 | exact (pre_dayI (by assumption)).2.2 | exact (pre_moment (by assumption)).1 | exact (pre_moment (by assumption)).2.1 | exact (pre_moment (by assumption)).2.2 | exact (pre_moment0 (by assumption)).1 | exact (pre_moment0 (by assumption)).2.1 | exact (pre_moment0 (by assumption)).2.2 | exact (pre_zone (by assumption)).1 | exact (pre_zone (by assumption)).2 | exact pre_date (by assumption) | exact nthWeekday_month (by assumption) | exact shift_month _ _ _ | exact later_month _ _)).mono ?_; rintro e w1 ⟨rfl, hq⟩; obtain ⟨hc, hf⟩ := hq.rules; have hs := hq.le; try simp at hs) | (at_builtin; (first | (refine wpList_append_own_at _ rfl _ _ 61 rfl (w.heap.size + 1) 2 i0 (.int .i64 0) 1 8 Try.underlying61 hi hz0 hz1 hz2 rfl (by decide) _ _ _ (by rfl) (own_call (hown) (by repeat (first | (with_reducible exact Q.refl _) | (with_reducible assumption) | (with_reducible refine Q.setCell ?_ (by dsimp only; omega) _) | (with_reducible refine Q.alloc ?_ _) | (with_reducible refine Q.drew ?_) | (refine Q.grown ?_ (by with_reducible assumption) (by with_reducible assumption)) | (with_reducible refine Q.call ?_ (by with_reducible assumption))))) _ 1 1 _ rfl (by simp) (cells_at (by simp)) (by simp [Value.oneCell']) (by first | omega | (simp [maxLen]; done) | (simp [maxLen]; omega)) (by first | omega | (simp; done) | (simp; omega)) (by first | omega | (simp; done) | (simp; omega)) ?_) | (refine wpList_append_own_at _ rfl _ _ 61 rfl (w.heap.size + 1) 2 i0 (.int .i64 0) 1 8 Try.underlying61 hi hz0 hz1 hz2 rfl (by decide) _ _ _ (by rfl) (own_call (hown) (by repeat (first | (with_reducible exact Q.refl _) | (with_reducible assumption) | (with_reducible refine Q.setCell ?_ (by dsimp only; omega) _) | (with_reducible refine Q.alloc ?_ _) | (with_reducible refine Q.drew ?_) | (refine Q.grown ?_ (by with_reducible assumption) (by with_reducible assumption)) | (with_reducible refine Q.call ?_ (by with_reducible assumption))))) _ 1 1 _ rfl (by simp) (cells_at (by simp)) (by simp [Value.oneCell']) (by first | omega | (simp [maxLen]; done) | (simp [maxLen]; omega)) (by first | omega | (simp; done) | (simp; omega)) (by first | omega | (simp; done) | (simp; omega)) ?_)); intro v2 w1 hown hgrow hnil hblk; have hgr := grown_rules (B := w.heap.size + 1) (g := w.heap.size) hgrow hvb hva (by first | omega | (simp; omega)) (by first | omega | (simp; omega)); have hva := apart_next hva (by first | omega | (simp; omega)) hblk; have hvb := own_block hown; have hvw : ∀ k, v2.ownBlock = some k → w.heap.size ≤ k := fun k hk => Nat.le_trans (by omega) (hvb k hk); obtain ⟨hc, hf, hs⟩ := hgr; (try simp at hs)))
        go_roundg (gk - 1)
        case measure => omega
        case rel =>
          refine ⟨(by repeat (first | (with_reducible exact Q.refl _) | (with_reducible assumption) | (with_reducible refine Q.setCell ?_ (by dsimp only; omega) _) | (with_reducible refine Q.alloc ?_ _) | (with_reducible refine Q.drew ?_) | (refine Q.grown ?_ (by with_reducible assumption) (by with_reducible assumption)) | (with_reducible refine Q.call ?_ (by with_reducible assumption)))), j + 1, by omega, by (first | rfl | simp), ?_, fun e => by have := (hnil.1 e).2; omega⟩
          rw [show withUp (fun m => decide (S_l12Number ⟨d_Rise, d_Set⟩ system m = number)) (j + 1) = withUp (fun m => decide (S_l12Number ⟨d_Rise, d_Set⟩ system m = number)) j ++ [(j : Int)] from hup2]
          simpa [ints] using hown
      · have hup : Hid (withUp (fun m => decide (S_l12Number ⟨d_Rise, d_Set⟩ system m = number)) (j + 1) = withUp (fun m => decide (S_l12Number ⟨d_Rise, d_Set⟩ system m = number)) j) := withUp_drop (by simpa using hf2)
        go_wp2_with (first | (go_at_call 90; refine (c_S_l12Number _ _ _ _ _ (by first | assumption | decide | omega | (unfold wrap64; omega) | exact (pre_month (by assumption)).1 | exact (pre_month (by assumption)).2.1 | exact (pre_month (by assumption)).2.2 | exact (pre_day (by assumption)).1 | exact (pre_day (by assumption)).2.1 | exact (pre_day (by assumption)).2.2 | exact (pre_dayI (by assumption)).1 | exact (pre_dayI (by assumption)).2.1 | exact (pre_dayI (by assumption)).2.2 | exact (pre_moment (by assumption)).1 | exact (pre_moment (by assumption)).2.1 | exact (pre_moment (by assumption)).2.2 | exact (pre_moment0 (by assumption)).1 | exact (pre_moment0 (by assumption)).2.1 | exact (pre_moment0 (by assumption)).2.2 | exact (pre_zone (by assumption)).1 | exact (pre_zone (by assumption)).2 | exact pre_date (by assumption) | exact nthWeekday_month (by assumption) | exact shift_month _ _ _ | exact later_month _ _) (by first | assumption | decide | omega | (unfold wrap64; omega) | exact (pre_month (by assumption)).1 | exact (pre_month (by assumption)).2.1 | exact (pre_month (by assumption)).2.2 | exact (pre_day (by assumption)).1 | exact (pre_day (by assumption)).2.1 | exact (pre_day (by assumption)).2.2 | exact (pre_dayI (by assumption)).1 | exact (pre_dayI (by assumption)).2.1 | exact (pre_dayI (by assumption)).2.2 | exact (pre_moment (by assumption)).1 | exact (pre_moment (by assumption)).2.1 | exact (pre_moment (by assumption)).2.2 | exact (pre_moment0 (by assumption)).1 | exact (pre_moment0 (by assumption)).2.1 | exact (pre_moment0 (by assumption)).2.2 | exact (pre_zone (by assumption)).1 | exact (pre_zone (by assumption)).2 | exact pre_date (by assumption) | exact nthWeekday_month (by assumption) | exact shift_month _ _ _ | exact later_month _ _) (by first | assumption | decide | omega | (unfold wrap64; omega) | exact (pre_month (by assumption)).1 | exact (pre_month (by assumption)).2.1 | exact (pre_month (by assumption)).2.2 | exact (pre_day (by assumption)).1 | exact (pre_day (by assumption)).2.1 | exact (pre_day (by assumption)).2.2 | exact (pre_dayI (by assumption)).1 | exact (pre_dayI (by assumption)).2.1 | exact (pre_dayI (by assumption)).2.2 | exact (pre_moment (by assumption)).1 | exact (pre_moment (by assumption)).2.1 | exact (pre_moment (by assumption)).2.2 | exact (pre_moment0 (by assumption)).1 | exact (pre_moment0 (by assumption)).2.1 | exact (pre_moment0 (by assumption)).2.2 | exact (pre_zone (by assumption)).1 | exact (pre_zone (by assumption)).2 | exact pre_date (by assumption) | exact nthWeekday_month (by assumption) | exact shift_month _ _ _ | exact later_month _ _)).mono ?_; rintro e w1 ⟨rfl, hq⟩; obtain ⟨hc, hf⟩ := hq.rules; have hs := hq.le; try simp at hs))
        go_roundg (gk - 1)
        case measure => omega
        case rel =>
          refine ⟨(by repeat (first | (with_reducible exact Q.refl _) | (with_reducible assumption) | (with_reducible refine Q.setCell ?_ (by dsimp only; omega) _) | (with_reducible refine Q.alloc ?_ _) | (with_reducible refine Q.drew ?_) | (with_reducible refine Q.call ?_ (by with_reducible assumption)))), j + 1, by omega, by (first | rfl | simp), ?_, hnn⟩
          rw [show withUp (fun m => decide (S_l12Number ⟨d_Rise, d_Set⟩ system m = number)) (j + 1) = withUp (fun m => decide (S_l12Number ⟨d_Rise, d_Set⟩ system m = number)) j from hup]
          exact own_call hown (by repeat (first | (with_reducible exact Q.refl _) | (with_reducible assumption) | (with_reducible refine Q.setCell ?_ (by dsimp only; omega) _) | (with_reducible refine Q.alloc ?_ _) | (with_reducible refine Q.drew ?_) | (with_reducible refine Q.call ?_ (by with_reducible assumption))))
    · have hjI : ¬ (j : Int) < 1440 := by omega
      have hjg : (1440 : Int) ≤ (j : Int) := by omega
      have hje : j = 1440 := by omega
      subst hje
      obtain ⟨gR, capR, hvv, hgR, hrR⟩ := own_slice hown hnn
      clear hva hvw hv0 hvb hlen hnn hown
      change u7 = .slice (some ⟨gR, 0, none⟩) (S_l12With ⟨d_Rise, d_Set⟩ system number).length capR at hvv
      change Row wr gR (ints (S_l12With ⟨d_Rise, d_Set⟩ system number)) at hrR
      subst hvv
      have hgR2 : w.heap.size ≤ gR := by omega
      go_wp2_with (first | (go_at_call 90; refine (c_S_l12Number _ _ _ _ _ (by first | assumption | decide | omega | (unfold wrap64; omega) | exact (pre_month (by assumption)).1 | exact (pre_month (by assumption)).2.1 | exact (pre_month (by assumption)).2.2 | exact (pre_day (by assumption)).1 | exact (pre_day (by assumption)).2.1 | exact (pre_day (by assumption)).2.2 | exact (pre_dayI (by assumption)).1 | exact (pre_dayI (by assumption)).2.1 | exact (pre_dayI (by assumption)).2.2 | exact (pre_moment (by assumption)).1 | exact (pre_moment (by assumption)).2.1 | exact (pre_moment (by assumption)).2.2 | exact (pre_moment0 (by assumption)).1 | exact (pre_moment0 (by assumption)).2.1 | exact (pre_moment0 (by assumption)).2.2 | exact (pre_zone (by assumption)).1 | exact (pre_zone (by assumption)).2 | exact pre_date (by assumption) | exact nthWeekday_month (by assumption) | exact shift_month _ _ _ | exact later_month _ _) (by first | assumption | decide | omega | (unfold wrap64; omega) | exact (pre_month (by assumption)).1 | exact (pre_month (by assumption)).2.1 | exact (pre_month (by assumption)).2.2 | exact (pre_day (by assumption)).1 | exact (pre_day (by assumption)).2.1 | exact (pre_day (by assumption)).2.2 | exact (pre_dayI (by assumption)).1 | exact (pre_dayI (by assumption)).2.1 | exact (pre_dayI (by assumption)).2.2 | exact (pre_moment (by assumption)).1 | exact (pre_moment (by assumption)).2.1 | exact (pre_moment (by assumption)).2.2 | exact (pre_moment0 (by assumption)).1 | exact (pre_moment0 (by assumption)).2.1 | exact (pre_moment0 (by assumption)).2.2 | exact (pre_zone (by assumption)).1 | exact (pre_zone (by assumption)).2 | exact pre_date (by assumption) | exact nthWeekday_month (by assumption) | exact shift_month _ _ _ | exact later_month _ _) (by first | assumption | decide | omega | (unfold wrap64; omega) | exact (pre_month (by assumption)).1 | exact (pre_month (by assumption)).2.1 | exact (pre_month (by assumption)).2.2 | exact (pre_day (by assumption)).1 | exact (pre_day (by assumption)).2.1 | exact (pre_day (by assumption)).2.2 | exact (pre_dayI (by assumption)).1 | exact (pre_dayI (by assumption)).2.1 | exact (pre_dayI (by assumption)).2.2 | exact (pre_moment (by assumption)).1 | exact (pre_moment (by assumption)).2.1 | exact (pre_moment (by assumption)).2.2 | exact (pre_moment0 (by assumption)).1 | exact (pre_moment0 (by assumption)).2.1 | exact (pre_moment0 (by assumption)).2.2 | exact (pre_zone (by assumption)).1 | exact (pre_zone (by assumption)).2 | exact pre_date (by assumption) | exact nthWeekday_month (by assumption) | exact shift_month _ _ _ | exact later_month _ _)).mono ?_; rintro e w1 ⟨rfl, hq⟩; obtain ⟨hc, hf⟩ := hq.rules; have hs := hq.le; try simp at hs))
      go_ret
      first | exact ⟨gR, capR, rfl, (by repeat (first | (with_reducible exact Q.refl _) | (with_reducible assumption) | (with_reducible refine Q.setCell ?_ (by dsimp only; omega) _) | (with_reducible refine Q.alloc ?_ _) | (with_reducible refine Q.drew ?_) | (with_reducible refine Q.call ?_ (by with_reducible assumption)))), hgR2, hrR⟩ | exact ⟨gR, ⟨capR, rfl⟩, (by repeat (first | (with_reducible exact Q.refl _) | (with_reducible assumption) | (with_reducible refine Q.setCell ?_ (by dsimp only; omega) _) | (with_reducible refine Q.alloc ?_ _) | (with_reducible refine Q.drew ?_) | (with_reducible refine Q.call ?_ (by with_reducible assumption)))), hgR2, hrR⟩ | exact ⟨⟨gR, capR, rfl⟩, (by repeat (first | (with_reducible exact Q.refl _) | (with_reducible assumption) | (with_reducible refine Q.setCell ?_ (by dsimp only; omega) _) | (with_reducible refine Q.alloc ?_ _) | (with_reducible refine Q.drew ?_) | (with_reducible refine Q.call ?_ (by with_reducible assumption)))), hgR2, hrR⟩

set_option maxRecDepth 100000 in
set_option maxHeartbeats 4000000 in
theorem c_I_Day_minutesWith (d_Rise d_Set system number : Int) (w : World) (hp0 : 0 ≤ d_Rise) (hp1 : d_Rise < d_Set) (hp2 : d_Set ≤ 1439) : Calls Try.prog 94 #[.agg #[.int .i64 d_Rise, .int .i64 d_Set], .int .i64 system, .int .i64 number] w fun e w' => ∃ g cap, e = .returned (.slice (some ⟨g, 0, none⟩) (I_Day_minutesWith ⟨d_Rise, d_Set⟩ system number).length cap) ∧ Q w w' ∧ w.heap.size ≤ g ∧ Row w' g (ints (I_Day_minutesWith ⟨d_Rise, d_Set⟩ system number)) := by
  have hset := setRule
  have hall := allocRule
  have halm := allocMark
  have hw64 := wrapRule
  have hinfo : (Try.prog.info? 2).map (fun i => (i.zero, i.size, i.bytes)) = some (some (.int .i64 0), 1, 8) := by kernel_rfl
  obtain ⟨i0, hi, hz0, hz1, hz2⟩ := info_parts hinfo
  have hmade : ((w.alloc (.cells #[.int .i64 d_Rise, .int .i64 d_Set] 58)).alloc (.cells #[] 2)).ownsRow (w.heap.size + 1) 2 1 (.slice (some ⟨w.heap.size + 1, 0, none⟩) 0 0) 0 [] := by
    have := World.ownsRow_made (base := w.heap.size + 1) (e := 2) (size := 1) (w.alloc (.cells #[.int .i64 d_Rise, .int .i64 d_Set] 58)) #[] 0 (by simp) (by simp [maxLen]) (by simp)
    simpa using this
  go_enter Try.func94, Try.ntmps94
  go_wp2_with (first | (go_at_call 92; refine (c_I_Day_number _ _ _ _ _ (by first | assumption | decide | omega | (unfold wrap64; omega) | exact (pre_month (by assumption)).1 | exact (pre_month (by assumption)).2.1 | exact (pre_month (by assumption)).2.2 | exact (pre_day (by assumption)).1 | exact (pre_day (by assumption)).2.1 | exact (pre_day (by assumption)).2.2 | exact (pre_dayI (by assumption)).1 | exact (pre_dayI (by assumption)).2.1 | exact (pre_dayI (by assumption)).2.2 | exact (pre_moment (by assumption)).1 | exact (pre_moment (by assumption)).2.1 | exact (pre_moment (by assumption)).2.2 | exact (pre_moment0 (by assumption)).1 | exact (pre_moment0 (by assumption)).2.1 | exact (pre_moment0 (by assumption)).2.2 | exact (pre_zone (by assumption)).1 | exact (pre_zone (by assumption)).2 | exact pre_date (by assumption) | exact nthWeekday_month (by assumption) | exact shift_month _ _ _ | exact later_month _ _) (by first | assumption | decide | omega | (unfold wrap64; omega) | exact (pre_month (by assumption)).1 | exact (pre_month (by assumption)).2.1 | exact (pre_month (by assumption)).2.2 | exact (pre_day (by assumption)).1 | exact (pre_day (by assumption)).2.1 | exact (pre_day (by assumption)).2.2 | exact (pre_dayI (by assumption)).1 | exact (pre_dayI (by assumption)).2.1 | exact (pre_dayI (by assumption)).2.2 | exact (pre_moment (by assumption)).1 | exact (pre_moment (by assumption)).2.1 | exact (pre_moment (by assumption)).2.2 | exact (pre_moment0 (by assumption)).1 | exact (pre_moment0 (by assumption)).2.1 | exact (pre_moment0 (by assumption)).2.2 | exact (pre_zone (by assumption)).1 | exact (pre_zone (by assumption)).2 | exact pre_date (by assumption) | exact nthWeekday_month (by assumption) | exact shift_month _ _ _ | exact later_month _ _) (by first | assumption | decide | omega | (unfold wrap64; omega) | exact (pre_month (by assumption)).1 | exact (pre_month (by assumption)).2.1 | exact (pre_month (by assumption)).2.2 | exact (pre_day (by assumption)).1 | exact (pre_day (by assumption)).2.1 | exact (pre_day (by assumption)).2.2 | exact (pre_dayI (by assumption)).1 | exact (pre_dayI (by assumption)).2.1 | exact (pre_dayI (by assumption)).2.2 | exact (pre_moment (by assumption)).1 | exact (pre_moment (by assumption)).2.1 | exact (pre_moment (by assumption)).2.2 | exact (pre_moment0 (by assumption)).1 | exact (pre_moment0 (by assumption)).2.1 | exact (pre_moment0 (by assumption)).2.2 | exact (pre_zone (by assumption)).1 | exact (pre_zone (by assumption)).2 | exact pre_date (by assumption) | exact nthWeekday_month (by assumption) | exact shift_month _ _ _ | exact later_month _ _)).mono ?_; rintro e w1 ⟨rfl, hq⟩; obtain ⟨hc, hf⟩ := hq.rules; have hs := hq.le; try simp at hs))
  go_loopg [7, 10] 1440 (fun k v mm wr => Q (w.alloc (.cells #[.int .i64 d_Rise, .int .i64 d_Set] 58)) wr ∧ ∃ j : Nat, j + k = 1440 ∧ mm = .int .i64 (j : Int) ∧ wr.ownsRow (w.heap.size + 1) 2 1 v (withUp (fun m => decide (I_Day_number ⟨d_Rise, d_Set⟩ system m = number)) j).length (ints (withUp (fun m => decide (I_Day_number ⟨d_Rise, d_Set⟩ system m = number)) j)) ∧ v ≠ .slice none 0 0)
  case atStart => exact ⟨(by repeat (first | (with_reducible exact Q.refl _) | (with_reducible assumption) | (with_reducible refine Q.setCell ?_ (by dsimp only; omega) _) | (with_reducible refine Q.alloc ?_ _) | (with_reducible refine Q.drew ?_) | (with_reducible refine Q.call ?_ (by with_reducible assumption)))), 0, by omega, rfl, hmade, by simp⟩
  case round =>
    obtain ⟨hq, j, hjk, rfl, hown, hnn⟩ := hrel
    have hr := Q.rules hq; have hc := hr.1; have hf := hr.2; clear hr; have hs := Q.le hq; try simp at hs
    have hvb := own_block hown
    have hva : u7.ownBlock ≠ some w.heap.size := fun e => by have := hvb _ e; omega
    have hvw : ∀ k, u7.ownBlock = some k → w.heap.size ≤ k := fun k hk => by have := hvb k hk; omega
    have hv0 : ∀ k, u7.ownBlock = some k → (w.alloc (.cells #[.int .i64 d_Rise, .int .i64 d_Set] 58)).heap.size ≤ k := fun k hk => by have := hvb k hk; simp; omega
    have hw1 : wrap64 ((j : Int) + 1) = (j : Int) + 1 := w64 (by omega)
    have hlen := withUp_length (fun m => decide (I_Day_number ⟨d_Rise, d_Set⟩ system m = number)) j
    by_cases hj : j < 1440
    · have hjI : (j : Int) < 1440 := by omega
      have hjg : ¬ (1440 : Int) ≤ (j : Int) := by omega
      by_cases hf2 : I_Day_number ⟨d_Rise, d_Set⟩ system (j : Int) = number
      · have hup : withUp (fun m => decide (I_Day_number ⟨d_Rise, d_Set⟩ system m = number)) (j + 1) = withUp (fun m => decide (I_Day_number ⟨d_Rise, d_Set⟩ system m = number)) j ++ [(j : Int)] := withUp_take (by simpa using hf2)
        have hup2 : Hid (withUp (fun m => decide (I_Day_number ⟨d_Rise, d_Set⟩ system m = number)) (j + 1) = withUp (fun m => decide (I_Day_number ⟨d_Rise, d_Set⟩ system m = number)) j ++ [(j : Int)]) := hup
        clear hup
        go_wp2_with (first | (go_at_call 92; refine (c_I_Day_number _ _ _ _ _ (by first | assumption | decide | omega | (unfold wrap64; omega) | exact (pre_month (by assumption)).1 | exact (pre_month (by assumption)).2.1 | exact (pre_month (by assumption)).2.2 | exact (pre_day (by assumption)).1 | exact (pre_day (by assumption)).2.1 | exact (pre_day (by assumption)).2.2 | exact (pre_dayI (by assumption)).1 | exact (pre_dayI (by assumption)).2.1 | exact (pre_dayI (by assumption)).2.2 | exact (pre_moment (by assumption)).1 | exact (pre_moment (by assumption)).2.1 | exact (pre_moment (by assumption)).2.2 | exact (pre_moment0 (by assumption)).1 | exact (pre_moment0 (by assumption)).2.1 | exact (pre_moment0 (by assumption)).2.2 | exact (pre_zone (by assumption)).1 | exact (pre_zone (by assumption)).2 | exact pre_date (by assumption) | exact nthWeekday_month (by assumption) | exact shift_month _ _ _ | exact later_month _ _) (by first | assumption | decide | omega | (unfold wrap64; omega) | exact (pre_month (by assumption)).1 | exact (pre_month (by assumption)).2.1 | exact (pre_month (by assumption)).2.2 | exact (pre_day (by assumption)).1 | exact (pre_day (by assumption)).2.1 | exact (pre_day (by assumption)).2.2 | exact (pre_dayI (by assumption)).1 | exact (pre_dayI (by assumption)).2.1 | exact (pre_dayI (by assumption)).2.2 | exact (pre_moment (by assumption)).1 | exact (pre_moment (by assumption)).2.1 | exact (pre_moment (by assumption)).2.2 | exact (pre_moment0 (by assumption)).1 | exact (pre_moment0 (by assumption)).2.1 | exact (pre_moment0 (by assumption)).2.2 | exact (pre_zone (by assumption)).1 | exact (pre_zone (by assumption)).2 | exact pre_date (by assumption) | exact nthWeekday_month (by assumption) | exact shift_month _ _ _ | exact later_month _ _) (by first | assumption | decide | omega | (unfold wrap64; omega) | exact (pre_month (by assumption)).1 | exact (pre_month (by assumption)).2.1 | exact (pre_month (by assumption)).2.2 | exact (pre_day (by assumption)).1 | exact (pre_day (by assumption)).2.1 | exact (pre_day (by assumption)).2.2 | exact (pre_dayI (by assumption)).1 | exact (pre_dayI (by assumption)).2.1 | exact (pre_dayI (by assumption)).2.2 | exact (pre_moment (by assumption)).1 | exact (pre_moment (by assumption)).2.1 | exact (pre_moment (by assumption)).2.2 | exact (pre_moment0 (by assumption)).1 | exact (pre_moment0 (by assumption)).2.1 | exact (pre_moment0 (by assumption)).2.2 | exact (pre_zone (by assumption)).1 | exact (pre_zone (by assumption)).2 | exact pre_date (by assumption) | exact nthWeekday_month (by assumption) | exact shift_month _ _ _ | exact later_month _ _)).mono ?_; rintro e w1 ⟨rfl, hq⟩; obtain ⟨hc, hf⟩ := hq.rules; have hs := hq.le; try simp at hs) | (at_builtin; (first | (refine wpList_append_own_at _ rfl _ _ 61 rfl (w.heap.size + 1) 2 i0 (.int .i64 0) 1 8 Try.underlying61 hi hz0 hz1 hz2 rfl (by decide) _ _ _ (by rfl) (own_call (hown) (by repeat (first | (with_reducible exact Q.refl _) | (with_reducible assumption) | (with_reducible refine Q.setCell ?_ (by dsimp only; omega) _) | (with_reducible refine Q.alloc ?_ _) | (with_reducible refine Q.drew ?_) | (refine Q.grown ?_ (by with_reducible assumption) (by with_reducible assumption)) | (with_reducible refine Q.call ?_ (by with_reducible assumption))))) _ 1 1 _ rfl (by simp) (cells_at (by simp)) (by simp [Value.oneCell']) (by first | omega | (simp [maxLen]; done) | (simp [maxLen]; omega)) (by first | omega | (simp; done) | (simp; omega)) (by first | omega | (simp; done) | (simp; omega)) ?_) | (refine wpList_append_own_at _ rfl _ _ 61 rfl (w.heap.size + 1) 2 i0 (.int .i64 0) 1 8 Try.underlying61 hi hz0 hz1 hz2 rfl (by decide) _ _ _ (by rfl) (own_call (hown) (by repeat (first | (with_reducible exact Q.refl _) | (with_reducible assumption) | (with_reducible refine Q.setCell ?_ (by dsimp only; omega) _) | (with_reducible refine Q.alloc ?_ _) | (with_reducible refine Q.drew ?_) | (refine Q.grown ?_ (by with_reducible assumption) (by with_reducible assumption)) | (with_reducible refine Q.call ?_ (by with_reducible assumption))))) _ 1 1 _ rfl (by simp) (cells_at (by simp)) (by simp [Value.oneCell']) (by first | omega | (simp [maxLen]; done) | (simp [maxLen]; omega)) (by first | omega | (simp; done) | (simp; omega)) (by first | omega | (simp; done) | (simp; omega)) ?_)); intro v2 w1 hown hgrow hnil hblk; have hgr := grown_rules (B := w.heap.size + 1) (g := w.heap.size) hgrow hvb hva (by first | omega | (simp; omega)) (by first | omega | (simp; omega)); have hva := apart_next hva (by first | omega | (simp; omega)) hblk; have hvb := own_block hown; have hvw : ∀ k, v2.ownBlock = some k → w.heap.size ≤ k := fun k hk => Nat.le_trans (by omega) (hvb k hk); obtain ⟨hc, hf, hs⟩ := hgr; (try simp at hs)))
        go_roundg (gk - 1)
        case measure => omega
        case rel =>
          refine ⟨(by repeat (first | (with_reducible exact Q.refl _) | (with_reducible assumption) | (with_reducible refine Q.setCell ?_ (by dsimp only; omega) _) | (with_reducible refine Q.alloc ?_ _) | (with_reducible refine Q.drew ?_) | (refine Q.grown ?_ (by with_reducible assumption) (by with_reducible assumption)) | (with_reducible refine Q.call ?_ (by with_reducible assumption)))), j + 1, by omega, by (first | rfl | simp), ?_, fun e => by have := (hnil.1 e).2; omega⟩
          rw [show withUp (fun m => decide (I_Day_number ⟨d_Rise, d_Set⟩ system m = number)) (j + 1) = withUp (fun m => decide (I_Day_number ⟨d_Rise, d_Set⟩ system m = number)) j ++ [(j : Int)] from hup2]
          simpa [ints] using hown
      · have hup : Hid (withUp (fun m => decide (I_Day_number ⟨d_Rise, d_Set⟩ system m = number)) (j + 1) = withUp (fun m => decide (I_Day_number ⟨d_Rise, d_Set⟩ system m = number)) j) := withUp_drop (by simpa using hf2)
        go_wp2_with (first | (go_at_call 92; refine (c_I_Day_number _ _ _ _ _ (by first | assumption | decide | omega | (unfold wrap64; omega) | exact (pre_month (by assumption)).1 | exact (pre_month (by assumption)).2.1 | exact (pre_month (by assumption)).2.2 | exact (pre_day (by assumption)).1 | exact (pre_day (by assumption)).2.1 | exact (pre_day (by assumption)).2.2 | exact (pre_dayI (by assumption)).1 | exact (pre_dayI (by assumption)).2.1 | exact (pre_dayI (by assumption)).2.2 | exact (pre_moment (by assumption)).1 | exact (pre_moment (by assumption)).2.1 | exact (pre_moment (by assumption)).2.2 | exact (pre_moment0 (by assumption)).1 | exact (pre_moment0 (by assumption)).2.1 | exact (pre_moment0 (by assumption)).2.2 | exact (pre_zone (by assumption)).1 | exact (pre_zone (by assumption)).2 | exact pre_date (by assumption) | exact nthWeekday_month (by assumption) | exact shift_month _ _ _ | exact later_month _ _) (by first | assumption | decide | omega | (unfold wrap64; omega) | exact (pre_month (by assumption)).1 | exact (pre_month (by assumption)).2.1 | exact (pre_month (by assumption)).2.2 | exact (pre_day (by assumption)).1 | exact (pre_day (by assumption)).2.1 | exact (pre_day (by assumption)).2.2 | exact (pre_dayI (by assumption)).1 | exact (pre_dayI (by assumption)).2.1 | exact (pre_dayI (by assumption)).2.2 | exact (pre_moment (by assumption)).1 | exact (pre_moment (by assumption)).2.1 | exact (pre_moment (by assumption)).2.2 | exact (pre_moment0 (by assumption)).1 | exact (pre_moment0 (by assumption)).2.1 | exact (pre_moment0 (by assumption)).2.2 | exact (pre_zone (by assumption)).1 | exact (pre_zone (by assumption)).2 | exact pre_date (by assumption) | exact nthWeekday_month (by assumption) | exact shift_month _ _ _ | exact later_month _ _) (by first | assumption | decide | omega | (unfold wrap64; omega) | exact (pre_month (by assumption)).1 | exact (pre_month (by assumption)).2.1 | exact (pre_month (by assumption)).2.2 | exact (pre_day (by assumption)).1 | exact (pre_day (by assumption)).2.1 | exact (pre_day (by assumption)).2.2 | exact (pre_dayI (by assumption)).1 | exact (pre_dayI (by assumption)).2.1 | exact (pre_dayI (by assumption)).2.2 | exact (pre_moment (by assumption)).1 | exact (pre_moment (by assumption)).2.1 | exact (pre_moment (by assumption)).2.2 | exact (pre_moment0 (by assumption)).1 | exact (pre_moment0 (by assumption)).2.1 | exact (pre_moment0 (by assumption)).2.2 | exact (pre_zone (by assumption)).1 | exact (pre_zone (by assumption)).2 | exact pre_date (by assumption) | exact nthWeekday_month (by assumption) | exact shift_month _ _ _ | exact later_month _ _)).mono ?_; rintro e w1 ⟨rfl, hq⟩; obtain ⟨hc, hf⟩ := hq.rules; have hs := hq.le; try simp at hs))
        go_roundg (gk - 1)
        case measure => omega
        case rel =>
          refine ⟨(by repeat (first | (with_reducible exact Q.refl _) | (with_reducible assumption) | (with_reducible refine Q.setCell ?_ (by dsimp only; omega) _) | (with_reducible refine Q.alloc ?_ _) | (with_reducible refine Q.drew ?_) | (with_reducible refine Q.call ?_ (by with_reducible assumption)))), j + 1, by omega, by (first | rfl | simp), ?_, hnn⟩
          rw [show withUp (fun m => decide (I_Day_number ⟨d_Rise, d_Set⟩ system m = number)) (j + 1) = withUp (fun m => decide (I_Day_number ⟨d_Rise, d_Set⟩ system m = number)) j from hup]
          exact own_call hown (by repeat (first | (with_reducible exact Q.refl _) | (with_reducible assumption) | (with_reducible refine Q.setCell ?_ (by dsimp only; omega) _) | (with_reducible refine Q.alloc ?_ _) | (with_reducible refine Q.drew ?_) | (with_reducible refine Q.call ?_ (by with_reducible assumption))))
    · have hjI : ¬ (j : Int) < 1440 := by omega
      have hjg : (1440 : Int) ≤ (j : Int) := by omega
      have hje : j = 1440 := by omega
      subst hje
      obtain ⟨gR, capR, hvv, hgR, hrR⟩ := own_slice hown hnn
      clear hva hvw hv0 hvb hlen hnn hown
      change u7 = .slice (some ⟨gR, 0, none⟩) (I_Day_minutesWith ⟨d_Rise, d_Set⟩ system number).length capR at hvv
      change Row wr gR (ints (I_Day_minutesWith ⟨d_Rise, d_Set⟩ system number)) at hrR
      subst hvv
      have hgR2 : w.heap.size ≤ gR := by omega
      go_wp2_with (first | (go_at_call 92; refine (c_I_Day_number _ _ _ _ _ (by first | assumption | decide | omega | (unfold wrap64; omega) | exact (pre_month (by assumption)).1 | exact (pre_month (by assumption)).2.1 | exact (pre_month (by assumption)).2.2 | exact (pre_day (by assumption)).1 | exact (pre_day (by assumption)).2.1 | exact (pre_day (by assumption)).2.2 | exact (pre_dayI (by assumption)).1 | exact (pre_dayI (by assumption)).2.1 | exact (pre_dayI (by assumption)).2.2 | exact (pre_moment (by assumption)).1 | exact (pre_moment (by assumption)).2.1 | exact (pre_moment (by assumption)).2.2 | exact (pre_moment0 (by assumption)).1 | exact (pre_moment0 (by assumption)).2.1 | exact (pre_moment0 (by assumption)).2.2 | exact (pre_zone (by assumption)).1 | exact (pre_zone (by assumption)).2 | exact pre_date (by assumption) | exact nthWeekday_month (by assumption) | exact shift_month _ _ _ | exact later_month _ _) (by first | assumption | decide | omega | (unfold wrap64; omega) | exact (pre_month (by assumption)).1 | exact (pre_month (by assumption)).2.1 | exact (pre_month (by assumption)).2.2 | exact (pre_day (by assumption)).1 | exact (pre_day (by assumption)).2.1 | exact (pre_day (by assumption)).2.2 | exact (pre_dayI (by assumption)).1 | exact (pre_dayI (by assumption)).2.1 | exact (pre_dayI (by assumption)).2.2 | exact (pre_moment (by assumption)).1 | exact (pre_moment (by assumption)).2.1 | exact (pre_moment (by assumption)).2.2 | exact (pre_moment0 (by assumption)).1 | exact (pre_moment0 (by assumption)).2.1 | exact (pre_moment0 (by assumption)).2.2 | exact (pre_zone (by assumption)).1 | exact (pre_zone (by assumption)).2 | exact pre_date (by assumption) | exact nthWeekday_month (by assumption) | exact shift_month _ _ _ | exact later_month _ _) (by first | assumption | decide | omega | (unfold wrap64; omega) | exact (pre_month (by assumption)).1 | exact (pre_month (by assumption)).2.1 | exact (pre_month (by assumption)).2.2 | exact (pre_day (by assumption)).1 | exact (pre_day (by assumption)).2.1 | exact (pre_day (by assumption)).2.2 | exact (pre_dayI (by assumption)).1 | exact (pre_dayI (by assumption)).2.1 | exact (pre_dayI (by assumption)).2.2 | exact (pre_moment (by assumption)).1 | exact (pre_moment (by assumption)).2.1 | exact (pre_moment (by assumption)).2.2 | exact (pre_moment0 (by assumption)).1 | exact (pre_moment0 (by assumption)).2.1 | exact (pre_moment0 (by assumption)).2.2 | exact (pre_zone (by assumption)).1 | exact (pre_zone (by assumption)).2 | exact pre_date (by assumption) | exact nthWeekday_month (by assumption) | exact shift_month _ _ _ | exact later_month _ _)).mono ?_; rintro e w1 ⟨rfl, hq⟩; obtain ⟨hc, hf⟩ := hq.rules; have hs := hq.le; try simp at hs))
      go_ret
      first | exact ⟨gR, capR, rfl, (by repeat (first | (with_reducible exact Q.refl _) | (with_reducible assumption) | (with_reducible refine Q.setCell ?_ (by dsimp only; omega) _) | (with_reducible refine Q.alloc ?_ _) | (with_reducible refine Q.drew ?_) | (with_reducible refine Q.call ?_ (by with_reducible assumption)))), hgR2, hrR⟩ | exact ⟨gR, ⟨capR, rfl⟩, (by repeat (first | (with_reducible exact Q.refl _) | (with_reducible assumption) | (with_reducible refine Q.setCell ?_ (by dsimp only; omega) _) | (with_reducible refine Q.alloc ?_ _) | (with_reducible refine Q.drew ?_) | (with_reducible refine Q.call ?_ (by with_reducible assumption)))), hgR2, hrR⟩ | exact ⟨⟨gR, capR, rfl⟩, (by repeat (first | (with_reducible exact Q.refl _) | (with_reducible assumption) | (with_reducible refine Q.setCell ?_ (by dsimp only; omega) _) | (with_reducible refine Q.alloc ?_ _) | (with_reducible refine Q.drew ?_) | (with_reducible refine Q.call ?_ (by with_reducible assumption)))), hgR2, hrR⟩

set_option maxHeartbeats 1000000 in
theorem c_L_eqInt64S_same (zs : List Int) (g g2 cap cap2 : Nat) (w : World) (hl : zs.length ≤ 100000) (r : Row w g (ints zs)) (r2 : Row w g2 (ints zs)) : Calls Try.prog 40 #[.slice (some ⟨g, 0, none⟩) zs.length cap, .slice (some ⟨g2, 0, none⟩) zs.length cap2] w fun e w' => e = .returned (.bool true) ∧ Q w w' := by
  have hset := setRule
  have hall := allocRule
  have halm := allocMark
  have hw64 := wrapRule
  have hg1 := r.1
  have hk1 := r2.1
  go_enter Try.func40, Try.ntmps40
  go_wp2
  go_loopg [5] zs.length (fun k i wr => Q w wr ∧ ∃ j : Nat, j + k = zs.length ∧ i = .int .i64 (j : Int))
  case atStart => exact ⟨(by repeat (first | (with_reducible exact Q.refl _) | (with_reducible assumption) | (with_reducible refine Q.setCell ?_ (by dsimp only; omega) _) | (with_reducible refine Q.alloc ?_ _) | (with_reducible refine Q.drew ?_) | (with_reducible refine Q.call ?_ (by with_reducible assumption)))), 0, by omega, rfl⟩
  case round =>
    obtain ⟨hq, j, hjk, rfl⟩ := hrel
    have hr := Q.rules hq; have hc := hr.1; have hf := hr.2; clear hr; have hs := Q.le hq; try simp at hs
    have hw1 : wrap64 ((j : Int) + 1) = (j : Int) + 1 := w64 (by omega)
    by_cases hj : j < zs.length
    · have hjI : (j : Int) < (zs.length : Int) := by omega
      have hjg : ¬ (zs.length : Int) ≤ (j : Int) := by omega
      have hx1 := r.at hj
      have hx2 := r2.at hj
      go_wp2
      all_goals try (
        refine region_Q_all (id := 6) (by kernel_rfl) (by kernel_rfl) ?_
        repeat (first | (apply q_step rfl; (intro wq hq; have hr := Q.rules hq; have hcq := hr.1; have hfq := hr.2; clear hr; have hsq := Q.le hq; (try simp at hsq); go_simp; (repeat (simp (disch := omega) only [if_pos, if_neg]; try go_simp)); (first | rfl | exact ⟨rfl, rfl⟩)); try go_simp) | (apply q_skip rfl; try go_simp))
        refine wpQuiet_nil ?_
        intro w1 hq
        have hr := Q.rules hq; have hc := hr.1; have hf := hr.2; clear hr; have hs := Q.le hq; try simp at hs)
      all_goals try go_wp2
      go_roundg (gk - 1)
      case measure => omega
      case rel => exact ⟨(by repeat (first | (with_reducible exact Q.refl _) | (with_reducible assumption) | (with_reducible refine Q.setCell ?_ (by dsimp only; omega) _) | (with_reducible refine Q.alloc ?_ _) | (with_reducible refine Q.drew ?_) | (with_reducible refine Q.call ?_ (by with_reducible assumption)))), j + 1, by omega, by (first | rfl | simp)⟩
    · have hjI : ¬ (j : Int) < (zs.length : Int) := by omega
      have hjg : (zs.length : Int) ≤ (j : Int) := by omega
      have hje : j = zs.length := by omega
      go_wp2
      go_ret
      refine ⟨?_, (by repeat (first | (with_reducible exact Q.refl _) | (with_reducible assumption) | (with_reducible refine Q.setCell ?_ (by dsimp only; omega) _) | (with_reducible refine Q.alloc ?_ _) | (with_reducible refine Q.drew ?_) | (with_reducible refine Q.call ?_ (by with_reducible assumption))))⟩
      first | rfl | (simp [*]; done) | (simp_all; done)
theorem c_L_eqInt64S0 (w : World) : Calls Try.prog 40 #[.slice none 0 0, .slice none 0 0] w fun e w' => e = .returned (.bool true) ∧ Q w w' := by
  have hset := setRule
  have hall := allocRule
  have halm := allocMark
  have hw64 := wrapRule
  go_enter Try.func40, Try.ntmps40
  go_wp2
  all_goals try (refine wp_loop_rounds 1 ?_; rw [rounds_succ])
  all_goals try (go_wp2)
  all_goals go_ret
  all_goals refine ⟨?_, (by repeat (first | (with_reducible exact Q.refl _) | (with_reducible assumption) | (with_reducible refine Q.setCell ?_ (by dsimp only; omega) _) | (with_reducible refine Q.alloc ?_ _) | (with_reducible refine Q.drew ?_) | (with_reducible refine Q.call ?_ (by with_reducible assumption))))⟩
  all_goals first | (simp [*]; done) | rfl

set_option maxHeartbeats 1000000 in
theorem c_L_markInt64S_n (zs : List Int) (g cap : Nat) (w : World) (hl : zs.length ≤ 100000) (r : Row w g (ints zs)) : Calls Try.prog 41 #[.slice (some ⟨g, 0, none⟩) zs.length cap, .int .i64 1] w fun e w' => e = .returned (.int .i64 (1 + (zs.length : Int))) ∧ w' = markAll w g 1 zs.length := by
  have hset := setCell_at
  have hsm := setCell_mark
  have hall := allocRule
  have halm := allocMark
  have hw64 := wrapRule
  have hg1 := r.1
  go_enter Try.func41, Try.ntmps41
  go_wp2
  go_loopg [1, 5] zs.length (fun k m i wr => ∃ j : Nat, j + k = zs.length ∧ i = .int .i64 (j : Int) ∧ m = .int .i64 (1 + (j : Int)) ∧ wr = markAll w g 1 j)
  case atStart => exact ⟨0, by omega, rfl, rfl, rfl⟩
  case round =>
    obtain ⟨j, hjk, rfl, rfl, rfl⟩ := hrel
    have hw1 : wrap64 ((j : Int) + 1) = (j : Int) + 1 := w64 (by omega)
    have hw2 : wrap64 (1 + (j : Int) + 1) = 1 + (j : Int) + 1 := w64 (by omega)
    by_cases hj : j < zs.length
    · have hjI : (j : Int) < (zs.length : Int) := by omega
      have hjg : ¬ (zs.length : Int) ≤ (j : Int) := by omega
      have hx1 := mark_at r 1 hj
      have hx2 := mark_free r 1 j
      go_wp2
      go_roundg (gk - 1)
      case measure => omega
      case rel => exact ⟨j + 1, by omega, by (first | rfl | simp), by (first | rfl | (simp; omega)), rfl⟩
    · have hjI : ¬ (j : Int) < (zs.length : Int) := by omega
      have hjg : (zs.length : Int) ≤ (j : Int) := by omega
      have hje : j = zs.length := by omega
      go_wp2
      go_ret
      subst hje
      exact ⟨by first | rfl | (simp [*]; done), rfl⟩
theorem c_L_markInt64S0 (w : World) : Calls Try.prog 41 #[.slice none 0 0, .int .i64 1] w fun e w' => e = .returned (.int .i64 1) ∧ Q w w' := by
  have hset := setRule
  have hall := allocRule
  have halm := allocMark
  have hw64 := wrapRule
  go_enter Try.func41, Try.ntmps41
  go_wp2
  all_goals try (refine wp_loop_rounds 1 ?_; rw [rounds_succ])
  all_goals try (go_wp2)
  all_goals go_ret
  all_goals refine ⟨?_, (by repeat (first | (with_reducible exact Q.refl _) | (with_reducible assumption) | (with_reducible refine Q.setCell ?_ (by dsimp only; omega) _) | (with_reducible refine Q.alloc ?_ _) | (with_reducible refine Q.drew ?_) | (with_reducible refine Q.call ?_ (by with_reducible assumption))))⟩
  all_goals first | (simp [*]; done) | rfl

set_option maxHeartbeats 1000000 in
theorem c_L_heldInt64S_n (n g cap : Nat) (w : World) (hl : n ≤ 100000) (r : Row w g (marks 1 n)) : Calls Try.prog 42 #[.slice (some ⟨g, 0, none⟩) n cap, .int .i64 1] w fun e w' => e = .returned (.int .i64 (1 + (n : Int))) ∧ Q w w' := by
  have hset := setRule
  have hall := allocRule
  have halm := allocMark
  have hw64 := wrapRule
  have hg1 := r.1
  go_enter Try.func42, Try.ntmps42
  go_wp2
  go_loopg [1, 5] n (fun k m i wr => Q w wr ∧ ∃ j : Nat, j + k = n ∧ i = .int .i64 (j : Int) ∧ m = .int .i64 (1 + (j : Int)))
  case atStart => exact ⟨(by repeat (first | (with_reducible exact Q.refl _) | (with_reducible assumption) | (with_reducible refine Q.setCell ?_ (by dsimp only; omega) _) | (with_reducible refine Q.alloc ?_ _) | (with_reducible refine Q.drew ?_) | (with_reducible refine Q.call ?_ (by with_reducible assumption)))), 0, by omega, rfl, rfl⟩
  case round =>
    obtain ⟨hq, j, hjk, rfl, rfl⟩ := hrel
    have hr := Q.rules hq; have hc := hr.1; have hf := hr.2; clear hr; have hs := Q.le hq; try simp at hs
    have hw1 : wrap64 ((j : Int) + 1) = (j : Int) + 1 := w64 (by omega)
    have hw2 : wrap64 (1 + (j : Int) + 1) = 1 + (j : Int) + 1 := w64 (by omega)
    by_cases hj : j < n
    · have hjI : (j : Int) < (n : Int) := by omega
      have hjg : ¬ (n : Int) ≤ (j : Int) := by omega
      have hx1 := marks_at r hj
      go_wp2
      go_roundg (gk - 1)
      case measure => omega
      case rel => exact ⟨(by repeat (first | (with_reducible exact Q.refl _) | (with_reducible assumption) | (with_reducible refine Q.setCell ?_ (by dsimp only; omega) _) | (with_reducible refine Q.alloc ?_ _) | (with_reducible refine Q.drew ?_) | (with_reducible refine Q.call ?_ (by with_reducible assumption)))), j + 1, by omega, by (first | rfl | simp), by (first | rfl | (simp; omega))⟩
    · have hjI : ¬ (j : Int) < (n : Int) := by omega
      have hjg : (n : Int) ≤ (j : Int) := by omega
      have hje : j = n := by omega
      go_wp2
      subst hje
      go_ret
      refine ⟨?_, (by repeat (first | (with_reducible exact Q.refl _) | (with_reducible assumption) | (with_reducible refine Q.setCell ?_ (by dsimp only; omega) _) | (with_reducible refine Q.alloc ?_ _) | (with_reducible refine Q.drew ?_) | (with_reducible refine Q.call ?_ (by with_reducible assumption))))⟩
      first | rfl | (simp [*]; done) | (simp_all; done)
theorem c_L_heldInt64S0 (w : World) : Calls Try.prog 42 #[.slice none 0 0, .int .i64 1] w fun e w' => e = .returned (.int .i64 1) ∧ Q w w' := by
  have hset := setRule
  have hall := allocRule
  have halm := allocMark
  have hw64 := wrapRule
  go_enter Try.func42, Try.ntmps42
  go_wp2
  all_goals try (refine wp_loop_rounds 1 ?_; rw [rounds_succ])
  all_goals try (go_wp2)
  all_goals go_ret
  all_goals refine ⟨?_, (by repeat (first | (with_reducible exact Q.refl _) | (with_reducible assumption) | (with_reducible refine Q.setCell ?_ (by dsimp only; omega) _) | (with_reducible refine Q.alloc ?_ _) | (with_reducible refine Q.drew ?_) | (with_reducible refine Q.call ?_ (by with_reducible assumption))))⟩
  all_goals first | (simp [*]; done) | rfl

theorem c_I_TemporalLength (d_Rise : Int) (d_Set : Int) (night : Bool) (w : World)  : Calls Try.prog 54 #[.agg #[.int .i64 d_Rise, .int .i64 d_Set], .bool night] w fun e w' => e = .returned (.tuple #[.int .i64 ((I_TemporalLength (⟨d_Rise, d_Set⟩ : Day) night).1), .int .i64 ((I_TemporalLength (⟨d_Rise, d_Set⟩ : Day) night).2)]) ∧ Q w w' := by
  have hset := setRule
  have hall := allocRule
  have halm := allocMark
  have hw64 := wrapRule
  have hmax := maxRule
  have hmin := minRule
  go_enter Try.func54, Try.ntmps54
  go_wp2_with (first | (go_at_call 49; refine (c_I_IsDay _ _ _ ).mono ?_; rintro e w1 ⟨rfl, hq⟩; obtain ⟨hc, hf⟩ := hq.rules; have hs := hq.le; try simp at hs))
  all_goals go_ret2
  all_goals refine ⟨?_, (by (repeat (first | (with_reducible exact Q.refl _) | (with_reducible assumption) | (with_reducible refine Q.setCell ?_ (by dsimp only; omega) _) | (with_reducible refine Q.alloc ?_ _) | (with_reducible refine Q.drew ?_) | (with_reducible refine Q.call ?_ (by with_reducible assumption)))))⟩
  all_goals first | (simp [I_TemporalLength, *]; done) | (simp [I_TemporalLength, *]; omega) | (simp [I_TemporalLength, *]; simp (disch := omega) only [if_pos, if_neg]; done) | (simp_all [I_TemporalLength]; done) | (simp_all [I_TemporalLength]; omega)

theorem c_S_TemporalLength (d_Rise : Int) (d_Set : Int) (night : Bool) (w : World)  : Calls Try.prog 55 #[.agg #[.int .i64 d_Rise, .int .i64 d_Set], .bool night] w fun e w' => e = .returned (.tuple #[.int .i64 ((S_TemporalLength (⟨d_Rise, d_Set⟩ : Day) night).1), .int .i64 ((S_TemporalLength (⟨d_Rise, d_Set⟩ : Day) night).2)]) ∧ Q w w' := by
  have hset := setRule
  have hall := allocRule
  have halm := allocMark
  have hw64 := wrapRule
  go_enter Try.func55, Try.ntmps55
  go_wp2_with (first | (go_at_call 50; refine (c_S_IsDay _ _ _ ).mono ?_; rintro e w1 ⟨rfl, hq⟩; obtain ⟨hc, hf⟩ := hq.rules; have hs := hq.le; try simp at hs))
  all_goals go_ret2
  all_goals refine ⟨?_, (by (repeat (first | (with_reducible exact Q.refl _) | (with_reducible assumption) | (with_reducible refine Q.setCell ?_ (by dsimp only; omega) _) | (with_reducible refine Q.alloc ?_ _) | (with_reducible refine Q.drew ?_) | (with_reducible refine Q.call ?_ (by with_reducible assumption)))))⟩
  all_goals first | (simp [S_TemporalLength, *]; done) | (simp [S_TemporalLength, *]; omega) | (simp [S_TemporalLength, *]; simp (disch := omega) only [if_pos, if_neg]; done) | (simp_all [S_TemporalLength]; done) | (simp_all [S_TemporalLength]; omega)

theorem c_I_MiddleOfDay (d_Rise : Int) (d_Set : Int) (w : World)  : Calls Try.prog 57 #[.agg #[.int .i64 d_Rise, .int .i64 d_Set]] w fun e w' => e = .returned (.tuple #[.int .i64 ((I_MiddleOfDay (⟨d_Rise, d_Set⟩ : Day)).1), .int .i64 ((I_MiddleOfDay (⟨d_Rise, d_Set⟩ : Day)).2)]) ∧ Q w w' := by
  have hset := setRule
  have hall := allocRule
  have halm := allocMark
  have hw64 := wrapRule
  go_enter Try.func57, Try.ntmps57
  go_wp2_with (first | (go_at_call 49; refine (c_I_IsDay _ _ _ ).mono ?_; rintro e w1 ⟨rfl, hq⟩; obtain ⟨hc, hf⟩ := hq.rules; have hs := hq.le; try simp at hs))
  all_goals go_ret2
  all_goals refine ⟨?_, (by (repeat (first | (with_reducible exact Q.refl _) | (with_reducible assumption) | (with_reducible refine Q.setCell ?_ (by dsimp only; omega) _) | (with_reducible refine Q.alloc ?_ _) | (with_reducible refine Q.drew ?_) | (with_reducible refine Q.call ?_ (by with_reducible assumption)))))⟩
  all_goals first | (simp [I_MiddleOfDay, *]; done) | (simp [I_MiddleOfDay, *]; omega) | (simp [I_MiddleOfDay, *]; simp (disch := omega) only [if_pos, if_neg]; done) | (simp_all [I_MiddleOfDay]; done) | (simp_all [I_MiddleOfDay]; omega)

theorem c_S_MiddleOfDay (d_Rise : Int) (d_Set : Int) (w : World)  : Calls Try.prog 58 #[.agg #[.int .i64 d_Rise, .int .i64 d_Set]] w fun e w' => e = .returned (.tuple #[.int .i64 ((S_MiddleOfDay (⟨d_Rise, d_Set⟩ : Day)).1), .int .i64 ((S_MiddleOfDay (⟨d_Rise, d_Set⟩ : Day)).2)]) ∧ Q w w' := by
  have hset := setRule
  have hall := allocRule
  have halm := allocMark
  have hw64 := wrapRule
  go_enter Try.func58, Try.ntmps58
  go_wp2_with (first | (go_at_call 50; refine (c_S_IsDay _ _ _ ).mono ?_; rintro e w1 ⟨rfl, hq⟩; obtain ⟨hc, hf⟩ := hq.rules; have hs := hq.le; try simp at hs))
  all_goals go_ret2
  all_goals refine ⟨?_, (by (repeat (first | (with_reducible exact Q.refl _) | (with_reducible assumption) | (with_reducible refine Q.setCell ?_ (by dsimp only; omega) _) | (with_reducible refine Q.alloc ?_ _) | (with_reducible refine Q.drew ?_) | (with_reducible refine Q.call ?_ (by with_reducible assumption)))))⟩
  all_goals first | (simp [S_MiddleOfDay, *]; done) | (simp [S_MiddleOfDay, *]; omega) | (simp [S_MiddleOfDay, *]; simp (disch := omega) only [if_pos, if_neg]; done) | (simp_all [S_MiddleOfDay]; done) | (simp_all [S_MiddleOfDay]; omega)

theorem c_S_l14Point (x : Int) (y : Int) (w : World)  : Calls Try.prog 142 #[.int .i64 x, .int .i64 y] w fun e w' => e = .returned (.bool ((S_l14Point x y))) ∧ w = w' := by
  have hw64 := wrapRule
  go_enter Try.func142, Try.ntmps142
  go_wp2_with (first | (go_at_call 115; refine (c_S_l01In _ _ _ _ ).mono ?_; rintro e w1 ⟨rfl, rfl⟩))
  all_goals go_ret
  all_goals refine ⟨?_, rfl⟩
  all_goals first | (simp [S_l14Point, *]; done) | (simp [S_l14Point, *]; omega) | (simp [S_l14Point, *]; simp (disch := omega) only [if_pos, if_neg]; done) | (simp_all [S_l14Point]; done) | (simp_all [S_l14Point]; omega)

theorem c_S_l16Square (a_X : Int) (a_Y : Int) (b_X : Int) (b_Y : Int) (w : World)  : Calls Try.prog 107 #[.agg #[.int .i64 a_X, .int .i64 a_Y], .agg #[.int .i64 b_X, .int .i64 b_Y]] w fun e w' => e = .returned (.int .i64 ((S_l16Square (⟨a_X, a_Y⟩ : Point) (⟨b_X, b_Y⟩ : Point)))) ∧ Q w w' := by
  have hset := setRule
  have hall := allocRule
  have halm := allocMark
  have hw64 := wrapRule
  go_enter Try.func107, Try.ntmps107
  go_wp2
  all_goals go_ret
  all_goals refine ⟨?_, (by (repeat (first | (with_reducible exact Q.refl _) | (with_reducible assumption) | (with_reducible refine Q.setCell ?_ (by dsimp only; omega) _) | (with_reducible refine Q.alloc ?_ _) | (with_reducible refine Q.drew ?_) | (with_reducible refine Q.call ?_ (by with_reducible assumption)))))⟩
  all_goals first | (simp [S_l16Square, *]; done) | (simp [S_l16Square, *]; omega) | (simp [S_l16Square, *]; simp (disch := omega) only [if_pos, if_neg]; done) | (simp_all [S_l16Square]; done) | (simp_all [S_l16Square]; omega)

end Go.Proofs.Ythooejkmccdfjaa
