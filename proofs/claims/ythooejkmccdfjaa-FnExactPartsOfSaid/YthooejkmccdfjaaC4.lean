/- Contracts of Go functions of the plain fragment, with their walks; printed by a program of the author's own. -/
import Derived.Test.YthooejkmccdfjaaRows
import Derived.Test.YthooejkmccdfjaaDefs
import Derived.Test.YthooejkmccdfjaaC3
import Derived.Test.YthooejkmccdfjaaFresh
import Derived.Test.YthooejkmccdfjaaM2
import Derived.WalkKit
import Derived.ProofKit
import Derived.OpenShut
import Derived.WalkLawsBesides
import Derived.BigQuiet
import Derived.Deep.QuietTactic
import Derived.Deep.LoopGhost
import Derived.LoopN
import Derived.Deep.RegionWith
import Derived.Test.YthooejkmccdfjaaOwn
namespace Go.Proofs.Ythooejkmccdfjaa
open Go.ChangeShapes Go.WideShapes Go.ChangeAt Go.RowKit
set_option linter.unusedVariables false
set_option linter.unusedSimpArgs false
theorem c_S_l01Is (n : Int) (w : World)  : Calls Try.prog 159 #[.int .i64 n] w fun e w' => e = .returned (.bool ((S_l01Is n))) ∧ w = w' := by
  have hw64 := wrapRule
  go_enter Try.func159, Try.ntmps159
  go_wp2_with (first | (go_at_call 115; refine (c_S_l01In _ _ _ _ ).mono ?_; rintro e w1 ⟨rfl, rfl⟩))
  all_goals go_ret
  all_goals refine ⟨?_, rfl⟩
  all_goals first | (simp [S_l01Is, *]; done) | (simp [S_l01Is, *]; omega) | (simp [S_l01Is, *]; simp (disch := omega) only [if_pos, if_neg]; done) | (simp_all [S_l01Is]; done) | (simp_all [S_l01Is]; omega)

theorem c_S_IsInterval (a_Low : Int) (a_High : Int) (w : World)  : Calls Try.prog 126 #[.agg #[.int .i64 a_Low, .int .i64 a_High]] w fun e w' => e = .returned (.bool ((S_IsInterval (⟨a_Low, a_High⟩ : Interval)))) ∧ Q w w' := by
  have hset := setRule
  have hall := allocRule
  have halm := allocMark
  have hw64 := wrapRule
  go_enter Try.func126, Try.ntmps126
  go_wp2_with (first | (go_at_call 159; refine (c_S_l01Is _ _ ).mono ?_; rintro e w1 ⟨rfl, rfl⟩))
  all_goals go_ret
  all_goals refine ⟨?_, (by (repeat (first | (with_reducible exact Q.refl _) | (with_reducible assumption) | (with_reducible refine Q.setCell ?_ (by dsimp only; omega) _) | (with_reducible refine Q.alloc ?_ _) | (with_reducible refine Q.drew ?_) | (with_reducible refine Q.call ?_ (by with_reducible assumption)))))⟩
  all_goals first | (simp [S_IsInterval, *]; done) | (simp [S_IsInterval, *]; omega) | (simp [S_IsInterval, *]; simp (disch := omega) only [if_pos, if_neg]; done) | (simp_all [S_IsInterval]; done) | (simp_all [S_IsInterval]; omega)

theorem c_S_l09Declination (d_Low : Int) (d_High : Int) (w : World)  : Calls Try.prog 82 #[.agg #[.int .i64 d_Low, .int .i64 d_High]] w fun e w' => e = .returned (.bool ((S_l09Declination (⟨d_Low, d_High⟩ : Interval)))) ∧ Q w w' := by
  have hset := setRule
  have hall := allocRule
  have halm := allocMark
  have hw64 := wrapRule
  go_enter Try.func82, Try.ntmps82
  go_wp2_with (first | (go_at_call 126; refine (c_S_IsInterval _ _ _ ).mono ?_; rintro e w1 ⟨rfl, hq⟩; obtain ⟨hc, hf⟩ := hq.rules; have hs := hq.le; try simp at hs) | (go_at_call 73; refine (c_S_l09Latitude _ _ ).mono ?_; rintro e w1 ⟨rfl, rfl⟩))
  all_goals go_ret
  all_goals refine ⟨?_, (by (repeat (first | (with_reducible exact Q.refl _) | (with_reducible assumption) | (with_reducible refine Q.setCell ?_ (by dsimp only; omega) _) | (with_reducible refine Q.alloc ?_ _) | (with_reducible refine Q.drew ?_) | (with_reducible refine Q.call ?_ (by with_reducible assumption)))))⟩
  all_goals first | (simp [S_l09Declination, *]; done) | (simp [S_l09Declination, *]; omega) | (simp [S_l09Declination, *]; simp (disch := omega) only [if_pos, if_neg]; done) | (simp_all [S_l09Declination]; done) | (simp_all [S_l09Declination]; omega)

theorem c_S_l09Minute (m : Int) (w : World)  : Calls Try.prog 83 #[.int .i64 m] w fun e w' => e = .returned (.bool ((S_l09Minute m))) ∧ w = w' := by
  have hw64 := wrapRule
  go_enter Try.func83, Try.ntmps83
  go_wp2_with (first | (go_at_call 115; refine (c_S_l01In _ _ _ _ ).mono ?_; rintro e w1 ⟨rfl, rfl⟩))
  all_goals go_ret
  all_goals refine ⟨?_, rfl⟩
  all_goals first | (simp [S_l09Minute, *]; done) | (simp [S_l09Minute, *]; omega) | (simp [S_l09Minute, *]; simp (disch := omega) only [if_pos, if_neg]; done) | (simp_all [S_l09Minute]; done) | (simp_all [S_l09Minute]; omega)

set_option maxHeartbeats 1000000 in
theorem c_S_l02Hull (a_Low : Int) (a_High : Int) (b_Low : Int) (b_High : Int) (w : World)  : Calls Try.prog 149 #[.agg #[.int .i64 a_Low, .int .i64 a_High], .agg #[.int .i64 b_Low, .int .i64 b_High]] w fun e w' => e = .returned (.agg #[.int .i64 ((S_l02Hull (⟨a_Low, a_High⟩ : Interval) (⟨b_Low, b_High⟩ : Interval)).Low), .int .i64 ((S_l02Hull (⟨a_Low, a_High⟩ : Interval) (⟨b_Low, b_High⟩ : Interval)).High)]) ∧ Q w w' := by
  have hset := setRule
  have hall := allocRule
  have halm := allocMark
  have hw64 := wrapRule
  have hmax := maxRule
  have hmin := minRule
  go_enter Try.func149, Try.ntmps149
  go_wp2
  all_goals
    refine bodyPost_ret (v := .agg #[.int .i64 ((S_l02Hull (⟨a_Low, a_High⟩ : Interval) (⟨b_Low, b_High⟩ : Interval)).Low), .int .i64 ((S_l02Hull (⟨a_Low, a_High⟩ : Interval) (⟨b_Low, b_High⟩ : Interval)).High)]) ?_ rfl ⟨rfl, ?_⟩
    · first | (simp [results, Try.results149, go_sem, S_l02Hull, *]; done) | (simp [results, Try.results149, go_sem, *]; repeat (simp (disch := omega) only [if_pos, if_neg]; try simp [go_sem, S_l02Hull, *]))
    · (repeat (first | (with_reducible exact Q.refl _) | (with_reducible assumption) | (with_reducible refine Q.setCell ?_ (by dsimp only; omega) _) | (with_reducible refine Q.alloc ?_ _) | (with_reducible refine Q.drew ?_) | (with_reducible refine Q.call ?_ (by with_reducible assumption))))

set_option maxHeartbeats 1000000 in
theorem c_S_l04Range (a_Low : Int) (a_High : Int) (w : World)  : Calls Try.prog 127 #[.agg #[.int .i64 a_Low, .int .i64 a_High]] w fun e w' => e = .returned (.agg #[.int .i64 ((S_l04Range (⟨a_Low, a_High⟩ : Interval)).Low), .int .i64 ((S_l04Range (⟨a_Low, a_High⟩ : Interval)).High)]) ∧ Q w w' := by
  have hset := setRule
  have hall := allocRule
  have halm := allocMark
  have hw64 := wrapRule
  go_enter Try.func127, Try.ntmps127
  go_wp2_with (first | (go_at_call 149; refine (c_S_l02Hull _ _ _ _ _ ).mono ?_; rintro e w1 ⟨rfl, hq⟩; obtain ⟨hc, hf⟩ := hq.rules; have hs := hq.le; try simp at hs) | (go_at_call 120; refine (c_S_l04Sin _ _ ).mono ?_; rintro e w1 ⟨rfl, hq⟩; obtain ⟨hc, hf⟩ := hq.rules; have hs := hq.le; try simp at hs) | (go_at_call 160; refine (c_S_l03Plain _ _ ).mono ?_; rintro e w1 ⟨rfl, rfl⟩))
  all_goals try (
    refine region_new1 (id := 1) 7 (.cells #[.int .i64 0, .int .i64 0] 32) 3 (by kernel_rfl) (by kernel_rfl) (fun d _ _ _ _ h => by cases d <;> exact h) rfl (by intro i o h1 h2 ho; obtain rfl : i = 7 := (by omega); obtain rfl := Option.some.inj (show some _ = some o from ho); exact ⟨fun _ => rfl, fun a w => by simp [go_sem, ptr]⟩) ?_
    simp only [List.take_succ_cons, List.take_zero, List.drop_succ_cons, List.drop_zero]
    first | (apply f_step rfl (by kernel_rfl); (intro x wq hx; have hr := Q.rules hx.q; have hcq := hr.1; have hfq := hr.2; clear hr; have hsq := Q.le hx.q; (try simp at hsq); go_simp; (repeat (simp (disch := omega) only [if_pos, if_neg]; try go_simp)); (first | rfl | exact ⟨rfl, rfl⟩ | (go_at_call 149; exact fam_grow hx (c_S_l02Hull _ _ _ _ _ )) | (go_at_call 120; exact fam_grow hx (c_S_l04Sin _ _ )) | (go_at_call 160; exact fam_same hx (c_S_l03Plain _ _ )))); try go_simp) | (apply f_skip rfl; try go_simp)
    first | (apply f_step rfl (by kernel_rfl); (intro x wq hx; have hr := Q.rules hx.q; have hcq := hr.1; have hfq := hr.2; clear hr; have hsq := Q.le hx.q; (try simp at hsq); go_simp; (repeat (simp (disch := omega) only [if_pos, if_neg]; try go_simp)); (first | rfl | exact ⟨rfl, rfl⟩ | (go_at_call 149; exact fam_grow hx (c_S_l02Hull _ _ _ _ _ )) | (go_at_call 120; exact fam_grow hx (c_S_l04Sin _ _ )) | (go_at_call 160; exact fam_same hx (c_S_l03Plain _ _ )))); try go_simp) | (apply f_skip rfl; try go_simp)
    first | (apply f_step rfl (by kernel_rfl); (intro x wq hx; have hr := Q.rules hx.q; have hcq := hr.1; have hfq := hr.2; clear hr; have hsq := Q.le hx.q; (try simp at hsq); go_simp; (repeat (simp (disch := omega) only [if_pos, if_neg]; try go_simp)); (first | rfl | exact ⟨rfl, rfl⟩ | (go_at_call 149; exact fam_grow hx (c_S_l02Hull _ _ _ _ _ )) | (go_at_call 120; exact fam_grow hx (c_S_l04Sin _ _ )) | (go_at_call 160; exact fam_same hx (c_S_l03Plain _ _ )))); try go_simp) | (apply f_skip rfl; try go_simp)
    first | (apply f_step rfl (by kernel_rfl); (intro x wq hx; have hr := Q.rules hx.q; have hcq := hr.1; have hfq := hr.2; clear hr; have hsq := Q.le hx.q; (try simp at hsq); go_simp; (repeat (simp (disch := omega) only [if_pos, if_neg]; try go_simp)); (first | rfl | exact ⟨rfl, rfl⟩ | (go_at_call 149; exact fam_grow hx (c_S_l02Hull _ _ _ _ _ )) | (go_at_call 120; exact fam_grow hx (c_S_l04Sin _ _ )) | (go_at_call 160; exact fam_same hx (c_S_l03Plain _ _ )))); try go_simp) | (apply f_skip rfl; try go_simp)
    first | (apply f_step rfl (by kernel_rfl); (intro x wq hx; have hr := Q.rules hx.q; have hcq := hr.1; have hfq := hr.2; clear hr; have hsq := Q.le hx.q; (try simp at hsq); go_simp; (repeat (simp (disch := omega) only [if_pos, if_neg]; try go_simp)); (first | rfl | exact ⟨rfl, rfl⟩ | (go_at_call 149; exact fam_grow hx (c_S_l02Hull _ _ _ _ _ )) | (go_at_call 120; exact fam_grow hx (c_S_l04Sin _ _ )) | (go_at_call 160; exact fam_same hx (c_S_l03Plain _ _ )))); try go_simp) | (apply f_skip rfl; try go_simp)
    first | (apply f_step rfl (by kernel_rfl); (intro x wq hx; have hr := Q.rules hx.q; have hcq := hr.1; have hfq := hr.2; clear hr; have hsq := Q.le hx.q; (try simp at hsq); go_simp; (repeat (simp (disch := omega) only [if_pos, if_neg]; try go_simp)); (first | rfl | exact ⟨rfl, rfl⟩ | (go_at_call 149; exact fam_grow hx (c_S_l02Hull _ _ _ _ _ )) | (go_at_call 120; exact fam_grow hx (c_S_l04Sin _ _ )) | (go_at_call 160; exact fam_same hx (c_S_l03Plain _ _ )))); try go_simp) | (apply f_skip rfl; try go_simp)
    first | (apply f_step rfl (by kernel_rfl); (intro x wq hx; have hr := Q.rules hx.q; have hcq := hr.1; have hfq := hr.2; clear hr; have hsq := Q.le hx.q; (try simp at hsq); go_simp; (repeat (simp (disch := omega) only [if_pos, if_neg]; try go_simp)); (first | rfl | exact ⟨rfl, rfl⟩ | (go_at_call 149; exact fam_grow hx (c_S_l02Hull _ _ _ _ _ )) | (go_at_call 120; exact fam_grow hx (c_S_l04Sin _ _ )) | (go_at_call 160; exact fam_same hx (c_S_l03Plain _ _ )))); try go_simp) | (apply f_skip rfl; try go_simp)
    refine f_nil ?_
    intro b w1 hx
    have hq := hx.q; have hn1 := hx.cells; have hn2 := hx.newCells; obtain ⟨hb1, hb2, hb3, hb4⟩ := hn1; obtain ⟨hb5, hb6⟩ := hn2; clear hx; try simp at hb1
    have hr := Q.rules hq; have hc := hr.1; have hf := hr.2; clear hr; have hs := Q.le hq; try simp at hs
    try go_simp)
  all_goals try go_wp2_with (first | (go_at_call 149; refine (c_S_l02Hull _ _ _ _ _ ).mono ?_; rintro e w1 ⟨rfl, hq⟩; obtain ⟨hc, hf⟩ := hq.rules; have hs := hq.le; try simp at hs) | (go_at_call 120; refine (c_S_l04Sin _ _ ).mono ?_; rintro e w1 ⟨rfl, hq⟩; obtain ⟨hc, hf⟩ := hq.rules; have hs := hq.le; try simp at hs) | (go_at_call 160; refine (c_S_l03Plain _ _ ).mono ?_; rintro e w1 ⟨rfl, rfl⟩))
  all_goals try (
    refine region_Q_all (id := 2) (by kernel_rfl) (by kernel_rfl) ?_
    repeat (first | (apply q_step rfl; (intro wq hq; have hr := Q.rules hq; have hcq := hr.1; have hfq := hr.2; clear hr; have hsq := Q.le hq; (try simp at hsq); go_simp; (repeat (simp (disch := omega) only [if_pos, if_neg]; try go_simp)); (first | rfl | exact ⟨rfl, rfl⟩ | (go_at_call 149; exact quiet_grow hq (c_S_l02Hull _ _ _ _ _ )) | (go_at_call 120; exact quiet_grow hq (c_S_l04Sin _ _ )) | (go_at_call 160; exact quiet_same hq (c_S_l03Plain _ _ )))); try go_simp) | (apply q_skip rfl; try go_simp))
    refine wpQuiet_nil ?_
    intro w1 hq
    have hr := Q.rules hq; have hc := hr.1; have hf := hr.2; clear hr; have hs := Q.le hq; try simp at hs)
  all_goals try go_wp2_with (first | (go_at_call 149; refine (c_S_l02Hull _ _ _ _ _ ).mono ?_; rintro e w1 ⟨rfl, hq⟩; obtain ⟨hc, hf⟩ := hq.rules; have hs := hq.le; try simp at hs) | (go_at_call 120; refine (c_S_l04Sin _ _ ).mono ?_; rintro e w1 ⟨rfl, hq⟩; obtain ⟨hc, hf⟩ := hq.rules; have hs := hq.le; try simp at hs) | (go_at_call 160; refine (c_S_l03Plain _ _ ).mono ?_; rintro e w1 ⟨rfl, rfl⟩))
  all_goals try (
    refine region_Q_all (id := 4) (by kernel_rfl) (by kernel_rfl) ?_
    repeat (first | (apply q_step rfl; (intro wq hq; have hr := Q.rules hq; have hcq := hr.1; have hfq := hr.2; clear hr; have hsq := Q.le hq; (try simp at hsq); go_simp; (repeat (simp (disch := omega) only [if_pos, if_neg]; try go_simp)); (first | rfl | exact ⟨rfl, rfl⟩ | (go_at_call 149; exact quiet_grow hq (c_S_l02Hull _ _ _ _ _ )) | (go_at_call 120; exact quiet_grow hq (c_S_l04Sin _ _ )) | (go_at_call 160; exact quiet_same hq (c_S_l03Plain _ _ )))); try go_simp) | (apply q_skip rfl; try go_simp))
    refine wpQuiet_nil ?_
    intro w1 hq
    have hr := Q.rules hq; have hc := hr.1; have hf := hr.2; clear hr; have hs := Q.le hq; try simp at hs)
  all_goals try go_wp2_with (first | (go_at_call 149; refine (c_S_l02Hull _ _ _ _ _ ).mono ?_; rintro e w1 ⟨rfl, hq⟩; obtain ⟨hc, hf⟩ := hq.rules; have hs := hq.le; try simp at hs) | (go_at_call 120; refine (c_S_l04Sin _ _ ).mono ?_; rintro e w1 ⟨rfl, hq⟩; obtain ⟨hc, hf⟩ := hq.rules; have hs := hq.le; try simp at hs) | (go_at_call 160; refine (c_S_l03Plain _ _ ).mono ?_; rintro e w1 ⟨rfl, rfl⟩))
  all_goals
    refine bodyPost_ret (v := .agg #[.int .i64 ((S_l04Range (⟨a_Low, a_High⟩ : Interval)).Low), .int .i64 ((S_l04Range (⟨a_Low, a_High⟩ : Interval)).High)]) ?_ rfl ⟨rfl, ?_⟩
    · first | (simp [results, Try.results127, go_sem, S_l04Range, *]; done) | (simp [results, Try.results127, go_sem, *]; repeat (simp (disch := omega) only [if_pos, if_neg]; try simp [go_sem, S_l04Range, *]))
    · (repeat (first | (with_reducible exact Q.refl _) | (with_reducible assumption) | (with_reducible refine Q.setCell ?_ (by dsimp only; omega) _) | (with_reducible refine Q.alloc ?_ _) | (with_reducible refine Q.drew ?_) | (with_reducible refine Q.call ?_ (by with_reducible assumption))))

theorem c_S_l09Hour (m : Int) (w : World)  : Calls Try.prog 128 #[.int .i64 m] w fun e w' => e = .returned (.int .i64 ((S_l09Hour m))) ∧ w = w' := by
  have hw64 := wrapRule
  go_enter Try.func128, Try.ntmps128
  go_wp2
  all_goals go_ret
  all_goals refine ⟨?_, rfl⟩
  all_goals first | (simp [S_l09Hour, *]; done) | (simp [S_l09Hour, *]; omega) | (simp [S_l09Hour, *]; simp (disch := omega) only [if_pos, if_neg]; done) | (simp_all [S_l09Hour]; done) | (simp_all [S_l09Hour]; omega)

set_option maxHeartbeats 1000000 in
theorem c_S_l02Sub (a_Low : Int) (a_High : Int) (b_Low : Int) (b_High : Int) (w : World)  : Calls Try.prog 129 #[.agg #[.int .i64 a_Low, .int .i64 a_High], .agg #[.int .i64 b_Low, .int .i64 b_High]] w fun e w' => e = .returned (.agg #[.int .i64 ((S_l02Sub (⟨a_Low, a_High⟩ : Interval) (⟨b_Low, b_High⟩ : Interval)).Low), .int .i64 ((S_l02Sub (⟨a_Low, a_High⟩ : Interval) (⟨b_Low, b_High⟩ : Interval)).High)]) ∧ Q w w' := by
  have hset := setRule
  have hall := allocRule
  have halm := allocMark
  have hw64 := wrapRule
  go_enter Try.func129, Try.ntmps129
  go_wp2
  all_goals
    refine bodyPost_ret (v := .agg #[.int .i64 ((S_l02Sub (⟨a_Low, a_High⟩ : Interval) (⟨b_Low, b_High⟩ : Interval)).Low), .int .i64 ((S_l02Sub (⟨a_Low, a_High⟩ : Interval) (⟨b_Low, b_High⟩ : Interval)).High)]) ?_ rfl ⟨rfl, ?_⟩
    · first | (simp [results, Try.results129, go_sem, S_l02Sub, *]; done) | (simp [results, Try.results129, go_sem, *]; repeat (simp (disch := omega) only [if_pos, if_neg]; try simp [go_sem, S_l02Sub, *]))
    · (repeat (first | (with_reducible exact Q.refl _) | (with_reducible assumption) | (with_reducible refine Q.setCell ?_ (by dsimp only; omega) _) | (with_reducible refine Q.alloc ?_ _) | (with_reducible refine Q.drew ?_) | (with_reducible refine Q.call ?_ (by with_reducible assumption))))

set_option maxHeartbeats 1000000 in
theorem c_S_l09Sun (latitude : Int) (declination_Low : Int) (declination_High : Int) (minute : Int) (w : World)  : Calls Try.prog 84 #[.int .i64 latitude, .agg #[.int .i64 declination_Low, .int .i64 declination_High], .int .i64 minute] w fun e w' => e = .returned (.agg #[.int .i64 ((S_l09Sun latitude (⟨declination_Low, declination_High⟩ : Interval) minute).X.Low), .int .i64 ((S_l09Sun latitude (⟨declination_Low, declination_High⟩ : Interval) minute).X.High), .int .i64 ((S_l09Sun latitude (⟨declination_Low, declination_High⟩ : Interval) minute).Y.Low), .int .i64 ((S_l09Sun latitude (⟨declination_Low, declination_High⟩ : Interval) minute).Y.High), .int .i64 ((S_l09Sun latitude (⟨declination_Low, declination_High⟩ : Interval) minute).Z.Low), .int .i64 ((S_l09Sun latitude (⟨declination_Low, declination_High⟩ : Interval) minute).Z.High)]) ∧ Q w w' := by
  have hset := setRule
  have hall := allocRule
  have halm := allocMark
  have hw64 := wrapRule
  have hmax := maxRule
  have hmin := minRule
  go_enter Try.func84, Try.ntmps84
  go_wp2_with (first | (go_at_call 127; refine (c_S_l04Range _ _ _ ).mono ?_; rintro e w1 ⟨rfl, hq⟩; obtain ⟨hc, hf⟩ := hq.rules; have hs := hq.le; try simp at hs) | (go_at_call 120; refine (c_S_l04Sin _ _ ).mono ?_; rintro e w1 ⟨rfl, hq⟩; obtain ⟨hc, hf⟩ := hq.rules; have hs := hq.le; try simp at hs) | (go_at_call 128; refine (c_S_l09Hour _ _ ).mono ?_; rintro e w1 ⟨rfl, rfl⟩) | (go_at_call 119; refine (c_S_l04Cos _ _ ).mono ?_; rintro e w1 ⟨rfl, hq⟩; obtain ⟨hc, hf⟩ := hq.rules; have hs := hq.le; try simp at hs) | (go_at_call 118; refine (c_S_l02Mul _ _ _ _ _ ).mono ?_; rintro e w1 ⟨rfl, hq⟩; obtain ⟨hc, hf⟩ := hq.rules; have hs := hq.le; try simp at hs) | (go_at_call 129; refine (c_S_l02Sub _ _ _ _ _ ).mono ?_; rintro e w1 ⟨rfl, hq⟩; obtain ⟨hc, hf⟩ := hq.rules; have hs := hq.le; try simp at hs) | (go_at_call 117; refine (c_S_l02Add _ _ _ _ _ ).mono ?_; rintro e w1 ⟨rfl, hq⟩; obtain ⟨hc, hf⟩ := hq.rules; have hs := hq.le; try simp at hs))
  all_goals try (
    refine region_Q (id := 6) 20 (by kernel_rfl) (by kernel_rfl) ?_
    simp only [List.take_succ_cons, List.take_zero, List.drop_succ_cons, List.drop_zero]
    repeat (first | (apply q_step rfl; (intro wq hq; have hr := Q.rules hq; have hcq := hr.1; have hfq := hr.2; clear hr; have hsq := Q.le hq; (try simp at hsq); go_simp; (repeat (simp (disch := omega) only [if_pos, if_neg]; try go_simp)); (first | rfl | exact ⟨rfl, rfl⟩ | (go_at_call 127; exact quiet_grow hq (c_S_l04Range _ _ _ )) | (go_at_call 120; exact quiet_grow hq (c_S_l04Sin _ _ )) | (go_at_call 128; exact quiet_same hq (c_S_l09Hour _ _ )) | (go_at_call 119; exact quiet_grow hq (c_S_l04Cos _ _ )) | (go_at_call 118; exact quiet_grow hq (c_S_l02Mul _ _ _ _ _ )) | (go_at_call 129; exact quiet_grow hq (c_S_l02Sub _ _ _ _ _ )) | (go_at_call 117; exact quiet_grow hq (c_S_l02Add _ _ _ _ _ )))); try go_simp) | (apply q_skip rfl; try go_simp))
    refine wpQuiet_nil ?_
    intro w1 hq
    have hr := Q.rules hq; have hc := hr.1; have hf := hr.2; clear hr; have hs := Q.le hq; try simp at hs)
  all_goals try go_wp2_with (first | (go_at_call 127; refine (c_S_l04Range _ _ _ ).mono ?_; rintro e w1 ⟨rfl, hq⟩; obtain ⟨hc, hf⟩ := hq.rules; have hs := hq.le; try simp at hs) | (go_at_call 120; refine (c_S_l04Sin _ _ ).mono ?_; rintro e w1 ⟨rfl, hq⟩; obtain ⟨hc, hf⟩ := hq.rules; have hs := hq.le; try simp at hs) | (go_at_call 128; refine (c_S_l09Hour _ _ ).mono ?_; rintro e w1 ⟨rfl, rfl⟩) | (go_at_call 119; refine (c_S_l04Cos _ _ ).mono ?_; rintro e w1 ⟨rfl, hq⟩; obtain ⟨hc, hf⟩ := hq.rules; have hs := hq.le; try simp at hs) | (go_at_call 118; refine (c_S_l02Mul _ _ _ _ _ ).mono ?_; rintro e w1 ⟨rfl, hq⟩; obtain ⟨hc, hf⟩ := hq.rules; have hs := hq.le; try simp at hs) | (go_at_call 129; refine (c_S_l02Sub _ _ _ _ _ ).mono ?_; rintro e w1 ⟨rfl, hq⟩; obtain ⟨hc, hf⟩ := hq.rules; have hs := hq.le; try simp at hs) | (go_at_call 117; refine (c_S_l02Add _ _ _ _ _ ).mono ?_; rintro e w1 ⟨rfl, hq⟩; obtain ⟨hc, hf⟩ := hq.rules; have hs := hq.le; try simp at hs))
  all_goals
    refine bodyPost_ret (v := .agg #[.int .i64 ((S_l09Sun latitude (⟨declination_Low, declination_High⟩ : Interval) minute).X.Low), .int .i64 ((S_l09Sun latitude (⟨declination_Low, declination_High⟩ : Interval) minute).X.High), .int .i64 ((S_l09Sun latitude (⟨declination_Low, declination_High⟩ : Interval) minute).Y.Low), .int .i64 ((S_l09Sun latitude (⟨declination_Low, declination_High⟩ : Interval) minute).Y.High), .int .i64 ((S_l09Sun latitude (⟨declination_Low, declination_High⟩ : Interval) minute).Z.Low), .int .i64 ((S_l09Sun latitude (⟨declination_Low, declination_High⟩ : Interval) minute).Z.High)]) ?_ rfl ⟨rfl, ?_⟩
    · first | (simp [results, Try.results84, go_sem, S_l09Sun, *]; done) | (simp [results, Try.results84, go_sem, *]; repeat (simp (disch := omega) only [if_pos, if_neg]; try simp [go_sem, S_l09Sun, *]))
    · (repeat (first | (with_reducible exact Q.refl _) | (with_reducible assumption) | (with_reducible refine Q.setCell ?_ (by dsimp only; omega) _) | (with_reducible refine Q.alloc ?_ _) | (with_reducible refine Q.drew ?_) | (with_reducible refine Q.call ?_ (by with_reducible assumption))))

set_option maxHeartbeats 1000000 in
theorem c_S_SunDirection (latitude : Int) (declination_Low : Int) (declination_High : Int) (minute : Int) (w : World)  : Calls Try.prog 29 #[.int .i64 latitude, .agg #[.int .i64 declination_Low, .int .i64 declination_High], .int .i64 minute] w fun e w' => e = .returned (.tuple #[.agg #[.int .i64 ((S_SunDirection latitude (⟨declination_Low, declination_High⟩ : Interval) minute).1.X.Low), .int .i64 ((S_SunDirection latitude (⟨declination_Low, declination_High⟩ : Interval) minute).1.X.High), .int .i64 ((S_SunDirection latitude (⟨declination_Low, declination_High⟩ : Interval) minute).1.Y.Low), .int .i64 ((S_SunDirection latitude (⟨declination_Low, declination_High⟩ : Interval) minute).1.Y.High), .int .i64 ((S_SunDirection latitude (⟨declination_Low, declination_High⟩ : Interval) minute).1.Z.Low), .int .i64 ((S_SunDirection latitude (⟨declination_Low, declination_High⟩ : Interval) minute).1.Z.High)], .int .i64 ((S_SunDirection latitude (⟨declination_Low, declination_High⟩ : Interval) minute).2)]) ∧ Q w w' := by
  have hset := setRule
  have hall := allocRule
  have halm := allocMark
  have hw64 := wrapRule
  have hmax := maxRule
  have hmin := minRule
  go_enter Try.func29, Try.ntmps29
  go_wp2_with (first | (go_at_call 82; refine (c_S_l09Declination _ _ _ ).mono ?_; rintro e w1 ⟨rfl, hq⟩; obtain ⟨hc, hf⟩ := hq.rules; have hs := hq.le; try simp at hs) | (go_at_call 73; refine (c_S_l09Latitude _ _ ).mono ?_; rintro e w1 ⟨rfl, rfl⟩) | (go_at_call 83; refine (c_S_l09Minute _ _ ).mono ?_; rintro e w1 ⟨rfl, rfl⟩) | (go_at_call 84; refine (c_S_l09Sun _ _ _ _ _ ).mono ?_; rintro e w1 ⟨rfl, hq⟩; obtain ⟨hc, hf⟩ := hq.rules; have hs := hq.le; try simp at hs))
  all_goals
    refine bodyPost_ret (v := .tuple #[.agg #[.int .i64 ((S_SunDirection latitude (⟨declination_Low, declination_High⟩ : Interval) minute).1.X.Low), .int .i64 ((S_SunDirection latitude (⟨declination_Low, declination_High⟩ : Interval) minute).1.X.High), .int .i64 ((S_SunDirection latitude (⟨declination_Low, declination_High⟩ : Interval) minute).1.Y.Low), .int .i64 ((S_SunDirection latitude (⟨declination_Low, declination_High⟩ : Interval) minute).1.Y.High), .int .i64 ((S_SunDirection latitude (⟨declination_Low, declination_High⟩ : Interval) minute).1.Z.Low), .int .i64 ((S_SunDirection latitude (⟨declination_Low, declination_High⟩ : Interval) minute).1.Z.High)], .int .i64 ((S_SunDirection latitude (⟨declination_Low, declination_High⟩ : Interval) minute).2)]) ?_ rfl ⟨rfl, ?_⟩
    · first | (simp [results, Try.results29, go_sem, S_SunDirection, *]; done) | (simp [results, Try.results29, go_sem, *]; repeat (simp (disch := omega) only [if_pos, if_neg]; try simp [go_sem, S_SunDirection, *]))
    · (repeat (first | (with_reducible exact Q.refl _) | (with_reducible assumption) | (with_reducible refine Q.setCell ?_ (by dsimp only; omega) _) | (with_reducible refine Q.alloc ?_ _) | (with_reducible refine Q.drew ?_) | (with_reducible refine Q.call ?_ (by with_reducible assumption))))

theorem c_I_isDeclination (d_Low : Int) (d_High : Int) (w : World)  : Calls Try.prog 85 #[.agg #[.int .i64 d_Low, .int .i64 d_High]] w fun e w' => e = .returned (.bool ((I_isDeclination (⟨d_Low, d_High⟩ : Interval)))) ∧ Q w w' := by
  have hset := setRule
  have hall := allocRule
  have halm := allocMark
  have hw64 := wrapRule
  go_enter Try.func85, Try.ntmps85
  go_wp2_with (first | (go_at_call 130; refine (c_I_IsInterval _ _ _ ).mono ?_; rintro e w1 ⟨rfl, hq⟩; obtain ⟨hc, hf⟩ := hq.rules; have hs := hq.le; try simp at hs) | (go_at_call 131; refine (c_I_Interval_within _ _ _ _ ).mono ?_; rintro e w1 ⟨rfl, hq⟩; obtain ⟨hc, hf⟩ := hq.rules; have hs := hq.le; try simp at hs))
  all_goals go_ret
  all_goals refine ⟨?_, (by (repeat (first | (with_reducible exact Q.refl _) | (with_reducible assumption) | (with_reducible refine Q.setCell ?_ (by dsimp only; omega) _) | (with_reducible refine Q.alloc ?_ _) | (with_reducible refine Q.drew ?_) | (with_reducible refine Q.call ?_ (by with_reducible assumption)))))⟩
  all_goals first | (simp [I_isDeclination, *]; done) | (simp [I_isDeclination, *]; omega) | (simp [I_isDeclination, *]; simp (disch := omega) only [if_pos, if_neg]; done) | (simp_all [I_isDeclination]; done) | (simp_all [I_isDeclination]; omega)

theorem c_I_isMinute (m : Int) (w : World)  : Calls Try.prog 86 #[.int .i64 m] w fun e w' => e = .returned (.bool ((I_isMinute m))) ∧ w = w' := by
  have hw64 := wrapRule
  go_enter Try.func86, Try.ntmps86
  go_wp2_with (first | (go_at_call 121; refine (c_I_in _ _ _ _ ).mono ?_; rintro e w1 ⟨rfl, rfl⟩))
  all_goals go_ret
  all_goals refine ⟨?_, rfl⟩
  all_goals first | (simp [I_isMinute, *]; done) | (simp [I_isMinute, *]; omega) | (simp [I_isMinute, *]; simp (disch := omega) only [if_pos, if_neg]; done) | (simp_all [I_isMinute]; done) | (simp_all [I_isMinute]; omega)

set_option maxHeartbeats 1000000 in
theorem c_I_Interval_hull (a_Low : Int) (a_High : Int) (b_Low : Int) (b_High : Int) (w : World)  : Calls Try.prog 150 #[.agg #[.int .i64 a_Low, .int .i64 a_High], .agg #[.int .i64 b_Low, .int .i64 b_High]] w fun e w' => e = .returned (.agg #[.int .i64 ((I_Interval_hull (⟨a_Low, a_High⟩ : Interval) (⟨b_Low, b_High⟩ : Interval)).Low), .int .i64 ((I_Interval_hull (⟨a_Low, a_High⟩ : Interval) (⟨b_Low, b_High⟩ : Interval)).High)]) ∧ Q w w' := by
  have hset := setRule
  have hall := allocRule
  have halm := allocMark
  have hw64 := wrapRule
  have hmax := maxRule
  have hmin := minRule
  go_enter Try.func150, Try.ntmps150
  go_wp2
  all_goals
    refine bodyPost_ret (v := .agg #[.int .i64 ((I_Interval_hull (⟨a_Low, a_High⟩ : Interval) (⟨b_Low, b_High⟩ : Interval)).Low), .int .i64 ((I_Interval_hull (⟨a_Low, a_High⟩ : Interval) (⟨b_Low, b_High⟩ : Interval)).High)]) ?_ rfl ⟨rfl, ?_⟩
    · first | (simp [results, Try.results150, go_sem, I_Interval_hull, *]; done) | (simp [results, Try.results150, go_sem, *]; repeat (simp (disch := omega) only [if_pos, if_neg]; try simp [go_sem, I_Interval_hull, *]))
    · (repeat (first | (with_reducible exact Q.refl _) | (with_reducible assumption) | (with_reducible refine Q.setCell ?_ (by dsimp only; omega) _) | (with_reducible refine Q.alloc ?_ _) | (with_reducible refine Q.drew ?_) | (with_reducible refine Q.call ?_ (by with_reducible assumption))))

theorem c_I_sineRange_lit1 (b lo : Int) (k : Nat) (w : World) (hk : k < w.heap.size) (h : w.cell? ⟨k, 0, none⟩ = some (.int .i64 lo)) : Calls Try.prog 162 #[.int .i64 b, .pointer (some ⟨k, 0, none⟩)] w fun e w' => e = .returned (.int .i64 (wrap64 (lo + I_plain (wrap64 (b - lo))))) ∧ Q w w' := by
  have hset := setRule
  have hall := allocRule
  have halm := allocMark
  have hw64 := wrapRule
  go_enter Try.func162, Try.ntmps162
  go_wp2_with (first | (go_at_call 163; refine (c_I_plain _ _ ).mono ?_; rintro e w1 ⟨rfl, rfl⟩))
  all_goals try (
    refine region_Q_all (id := 1) (by kernel_rfl) (by kernel_rfl) ?_
    repeat (first | (apply q_step rfl; (intro wq hq; have hr := Q.rules hq; have hcq := hr.1; have hfq := hr.2; clear hr; have hsq := Q.le hq; (try simp at hsq); go_simp; (repeat (simp (disch := omega) only [if_pos, if_neg]; try go_simp)); (first | rfl | exact ⟨rfl, rfl⟩ | (go_at_call 163; exact quiet_same hq (c_I_plain _ _ )))); try go_simp) | (apply q_skip rfl; try go_simp))
    refine wpQuiet_nil ?_
    intro w1 hq
    have hr := Q.rules hq; have hc := hr.1; have hf := hr.2; clear hr; have hs := Q.le hq; try simp at hs)
  all_goals try go_wp2_with (first | (go_at_call 163; refine (c_I_plain _ _ ).mono ?_; rintro e w1 ⟨rfl, rfl⟩))
  all_goals go_ret
  all_goals refine ⟨?_, (by repeat (first | (with_reducible exact Q.refl _) | (with_reducible assumption) | (with_reducible refine Q.setCell ?_ (by dsimp only; omega) _) | (with_reducible refine Q.alloc ?_ _) | (with_reducible refine Q.drew ?_) | (with_reducible refine Q.call ?_ (by with_reducible assumption))))⟩
  all_goals first | (simp [*]; done) | (simp_all; done)
set_option maxHeartbeats 1000000 in
theorem c_I_sineRange (a_Low : Int) (a_High : Int) (w : World)  : Calls Try.prog 132 #[.agg #[.int .i64 a_Low, .int .i64 a_High]] w fun e w' => e = .returned (.agg #[.int .i64 ((I_sineRange (⟨a_Low, a_High⟩ : Interval)).Low), .int .i64 ((I_sineRange (⟨a_Low, a_High⟩ : Interval)).High)]) ∧ Q w w' := by
  have hset := setRule
  have hall := allocRule
  have halm := allocMark
  have hw64 := wrapRule
  go_enter Try.func132, Try.ntmps132
  go_wp2_with (first | (go_at_call 150; refine (c_I_Interval_hull _ _ _ _ _ ).mono ?_; rintro e w1 ⟨rfl, hq⟩; obtain ⟨hc, hf⟩ := hq.rules; have hs := hq.le; try simp at hs) | (go_at_call 124; refine (c_I_sine _ _ ).mono ?_; rintro e w1 ⟨rfl, hq⟩; obtain ⟨hc, hf⟩ := hq.rules; have hs := hq.le; try simp at hs) | (go_at_call 162; refine (c_I_sineRange_lit1 _ a_Low _ _ (by first | omega | (go_simp; omega)) (by (try go_simp); (repeat (simp (disch := omega) only [if_pos, if_neg]; try go_simp)); first | done | rfl | (intro hx; omega) | (simp [*]; done))).mono ?_; rintro e w1 ⟨rfl, hq⟩; obtain ⟨hc, hf⟩ := hq.rules; have hs := hq.le; try simp at hs))
  all_goals try (
    refine region_new1 (id := 1) 7 (.cells #[.int .i64 0, .int .i64 0] 32) 3 (by kernel_rfl) (by kernel_rfl) (fun d _ _ _ _ h => by cases d <;> exact h) rfl (by intro i o h1 h2 ho; obtain rfl : i = 7 := (by omega); obtain rfl := Option.some.inj (show some _ = some o from ho); exact ⟨fun _ => rfl, fun a w => by simp [go_sem, ptr]⟩) ?_
    simp only [List.take_succ_cons, List.take_zero, List.drop_succ_cons, List.drop_zero]
    first | (apply f_step rfl (by kernel_rfl); (intro x wq hx; have hr := Q.rules hx.q; have hcq := hr.1; have hfq := hr.2; clear hr; have hsq := Q.le hx.q; (try simp at hsq); go_simp; (repeat (simp (disch := omega) only [if_pos, if_neg]; try go_simp)); (first | rfl | exact ⟨rfl, rfl⟩ | (go_at_call 150; exact fam_grow hx (c_I_Interval_hull _ _ _ _ _ )) | (go_at_call 124; exact fam_grow hx (c_I_sine _ _ )))); try go_simp) | (apply f_skip rfl; try go_simp)
    first | (apply f_step rfl (by kernel_rfl); (intro x wq hx; have hr := Q.rules hx.q; have hcq := hr.1; have hfq := hr.2; clear hr; have hsq := Q.le hx.q; (try simp at hsq); go_simp; (repeat (simp (disch := omega) only [if_pos, if_neg]; try go_simp)); (first | rfl | exact ⟨rfl, rfl⟩ | (go_at_call 150; exact fam_grow hx (c_I_Interval_hull _ _ _ _ _ )) | (go_at_call 124; exact fam_grow hx (c_I_sine _ _ )))); try go_simp) | (apply f_skip rfl; try go_simp)
    first | (apply f_step rfl (by kernel_rfl); (intro x wq hx; have hr := Q.rules hx.q; have hcq := hr.1; have hfq := hr.2; clear hr; have hsq := Q.le hx.q; (try simp at hsq); go_simp; (repeat (simp (disch := omega) only [if_pos, if_neg]; try go_simp)); (first | rfl | exact ⟨rfl, rfl⟩ | (go_at_call 150; exact fam_grow hx (c_I_Interval_hull _ _ _ _ _ )) | (go_at_call 124; exact fam_grow hx (c_I_sine _ _ )))); try go_simp) | (apply f_skip rfl; try go_simp)
    first | (apply f_step rfl (by kernel_rfl); (intro x wq hx; have hr := Q.rules hx.q; have hcq := hr.1; have hfq := hr.2; clear hr; have hsq := Q.le hx.q; (try simp at hsq); go_simp; (repeat (simp (disch := omega) only [if_pos, if_neg]; try go_simp)); (first | rfl | exact ⟨rfl, rfl⟩ | (go_at_call 150; exact fam_grow hx (c_I_Interval_hull _ _ _ _ _ )) | (go_at_call 124; exact fam_grow hx (c_I_sine _ _ )))); try go_simp) | (apply f_skip rfl; try go_simp)
    first | (apply f_step rfl (by kernel_rfl); (intro x wq hx; have hr := Q.rules hx.q; have hcq := hr.1; have hfq := hr.2; clear hr; have hsq := Q.le hx.q; (try simp at hsq); go_simp; (repeat (simp (disch := omega) only [if_pos, if_neg]; try go_simp)); (first | rfl | exact ⟨rfl, rfl⟩ | (go_at_call 150; exact fam_grow hx (c_I_Interval_hull _ _ _ _ _ )) | (go_at_call 124; exact fam_grow hx (c_I_sine _ _ )))); try go_simp) | (apply f_skip rfl; try go_simp)
    first | (apply f_step rfl (by kernel_rfl); (intro x wq hx; have hr := Q.rules hx.q; have hcq := hr.1; have hfq := hr.2; clear hr; have hsq := Q.le hx.q; (try simp at hsq); go_simp; (repeat (simp (disch := omega) only [if_pos, if_neg]; try go_simp)); (first | rfl | exact ⟨rfl, rfl⟩ | (go_at_call 150; exact fam_grow hx (c_I_Interval_hull _ _ _ _ _ )) | (go_at_call 124; exact fam_grow hx (c_I_sine _ _ )))); try go_simp) | (apply f_skip rfl; try go_simp)
    first | (apply f_step rfl (by kernel_rfl); (intro x wq hx; have hr := Q.rules hx.q; have hcq := hr.1; have hfq := hr.2; clear hr; have hsq := Q.le hx.q; (try simp at hsq); go_simp; (repeat (simp (disch := omega) only [if_pos, if_neg]; try go_simp)); (first | rfl | exact ⟨rfl, rfl⟩ | (go_at_call 150; exact fam_grow hx (c_I_Interval_hull _ _ _ _ _ )) | (go_at_call 124; exact fam_grow hx (c_I_sine _ _ )))); try go_simp) | (apply f_skip rfl; try go_simp)
    refine f_nil ?_
    intro b w1 hx
    have hq := hx.q; have hn1 := hx.cells; have hn2 := hx.newCells; obtain ⟨hb1, hb2, hb3, hb4⟩ := hn1; obtain ⟨hb5, hb6⟩ := hn2; clear hx; try simp at hb1
    have hr := Q.rules hq; have hc := hr.1; have hf := hr.2; clear hr; have hs := Q.le hq; try simp at hs
    try go_simp)
  all_goals try go_wp2_with (first | (go_at_call 150; refine (c_I_Interval_hull _ _ _ _ _ ).mono ?_; rintro e w1 ⟨rfl, hq⟩; obtain ⟨hc, hf⟩ := hq.rules; have hs := hq.le; try simp at hs) | (go_at_call 124; refine (c_I_sine _ _ ).mono ?_; rintro e w1 ⟨rfl, hq⟩; obtain ⟨hc, hf⟩ := hq.rules; have hs := hq.le; try simp at hs) | (go_at_call 162; refine (c_I_sineRange_lit1 _ a_Low _ _ (by first | omega | (go_simp; omega)) (by (try go_simp); (repeat (simp (disch := omega) only [if_pos, if_neg]; try go_simp)); first | done | rfl | (intro hx; omega) | (simp [*]; done))).mono ?_; rintro e w1 ⟨rfl, hq⟩; obtain ⟨hc, hf⟩ := hq.rules; have hs := hq.le; try simp at hs))
  all_goals try (
    refine region_Q_all (id := 3) (by kernel_rfl) (by kernel_rfl) ?_
    repeat (first | (apply q_step rfl; (intro wq hq; have hr := Q.rules hq; have hcq := hr.1; have hfq := hr.2; clear hr; have hsq := Q.le hq; (try simp at hsq); go_simp; (repeat (simp (disch := omega) only [if_pos, if_neg]; try go_simp)); (first | rfl | exact ⟨rfl, rfl⟩ | (go_at_call 162; exact quiet_grow hq (c_I_sineRange_lit1 _ a_Low _ _ (by first | omega | (go_simp; omega)) (by (try go_simp); (repeat (simp (disch := omega) only [if_pos, if_neg]; try go_simp)); first | done | rfl | (intro hx; omega) | (simp [*]; done)))) | (go_at_call 150; exact quiet_grow hq (c_I_Interval_hull _ _ _ _ _ )) | (go_at_call 124; exact quiet_grow hq (c_I_sine _ _ )))); try go_simp) | (apply q_skip rfl; try go_simp))
    refine wpQuiet_nil ?_
    intro w1 hq
    have hr := Q.rules hq; have hc := hr.1; have hf := hr.2; clear hr; have hs := Q.le hq; try simp at hs)
  all_goals try go_wp2_with (first | (go_at_call 150; refine (c_I_Interval_hull _ _ _ _ _ ).mono ?_; rintro e w1 ⟨rfl, hq⟩; obtain ⟨hc, hf⟩ := hq.rules; have hs := hq.le; try simp at hs) | (go_at_call 124; refine (c_I_sine _ _ ).mono ?_; rintro e w1 ⟨rfl, hq⟩; obtain ⟨hc, hf⟩ := hq.rules; have hs := hq.le; try simp at hs) | (go_at_call 162; refine (c_I_sineRange_lit1 _ a_Low _ _ (by first | omega | (go_simp; omega)) (by (try go_simp); (repeat (simp (disch := omega) only [if_pos, if_neg]; try go_simp)); first | done | rfl | (intro hx; omega) | (simp [*]; done))).mono ?_; rintro e w1 ⟨rfl, hq⟩; obtain ⟨hc, hf⟩ := hq.rules; have hs := hq.le; try simp at hs))
  all_goals try (
    refine region_Q_all (id := 5) (by kernel_rfl) (by kernel_rfl) ?_
    repeat (first | (apply q_step rfl; (intro wq hq; have hr := Q.rules hq; have hcq := hr.1; have hfq := hr.2; clear hr; have hsq := Q.le hq; (try simp at hsq); go_simp; (repeat (simp (disch := omega) only [if_pos, if_neg]; try go_simp)); (first | rfl | exact ⟨rfl, rfl⟩ | (go_at_call 162; exact quiet_grow hq (c_I_sineRange_lit1 _ a_Low _ _ (by first | omega | (go_simp; omega)) (by (try go_simp); (repeat (simp (disch := omega) only [if_pos, if_neg]; try go_simp)); first | done | rfl | (intro hx; omega) | (simp [*]; done)))) | (go_at_call 150; exact quiet_grow hq (c_I_Interval_hull _ _ _ _ _ )) | (go_at_call 124; exact quiet_grow hq (c_I_sine _ _ )))); try go_simp) | (apply q_skip rfl; try go_simp))
    refine wpQuiet_nil ?_
    intro w1 hq
    have hr := Q.rules hq; have hc := hr.1; have hf := hr.2; clear hr; have hs := Q.le hq; try simp at hs)
  all_goals try go_wp2_with (first | (go_at_call 150; refine (c_I_Interval_hull _ _ _ _ _ ).mono ?_; rintro e w1 ⟨rfl, hq⟩; obtain ⟨hc, hf⟩ := hq.rules; have hs := hq.le; try simp at hs) | (go_at_call 124; refine (c_I_sine _ _ ).mono ?_; rintro e w1 ⟨rfl, hq⟩; obtain ⟨hc, hf⟩ := hq.rules; have hs := hq.le; try simp at hs) | (go_at_call 162; refine (c_I_sineRange_lit1 _ a_Low _ _ (by first | omega | (go_simp; omega)) (by (try go_simp); (repeat (simp (disch := omega) only [if_pos, if_neg]; try go_simp)); first | done | rfl | (intro hx; omega) | (simp [*]; done))).mono ?_; rintro e w1 ⟨rfl, hq⟩; obtain ⟨hc, hf⟩ := hq.rules; have hs := hq.le; try simp at hs))
  all_goals
    refine bodyPost_ret (v := .agg #[.int .i64 ((I_sineRange (⟨a_Low, a_High⟩ : Interval)).Low), .int .i64 ((I_sineRange (⟨a_Low, a_High⟩ : Interval)).High)]) ?_ rfl ⟨rfl, ?_⟩
    · first | (simp [results, Try.results132, go_sem, I_sineRange, *]; done) | (simp [results, Try.results132, go_sem, *]; repeat (simp (disch := omega) only [if_pos, if_neg]; try simp [go_sem, I_sineRange, *]))
    · exact (by repeat (first | (with_reducible exact Q.refl _) | (with_reducible assumption) | (with_reducible refine Q.setCell ?_ (by dsimp only; omega) _) | (with_reducible refine Q.alloc ?_ _) | (with_reducible refine Q.drew ?_) | (with_reducible refine Q.call ?_ (by with_reducible assumption))))


set_option maxHeartbeats 1000000 in
theorem c_I_Interval_shifted (a_Low : Int) (a_High : Int) (by_ : Int) (w : World)  : Calls Try.prog 164 #[.agg #[.int .i64 a_Low, .int .i64 a_High], .int .i64 by_] w fun e w' => e = .returned (.agg #[.int .i64 ((I_Interval_shifted (⟨a_Low, a_High⟩ : Interval) by_).Low), .int .i64 ((I_Interval_shifted (⟨a_Low, a_High⟩ : Interval) by_).High)]) ∧ Q w w' := by
  have hset := setRule
  have hall := allocRule
  have halm := allocMark
  have hw64 := wrapRule
  go_enter Try.func164, Try.ntmps164
  go_wp2
  all_goals
    refine bodyPost_ret (v := .agg #[.int .i64 ((I_Interval_shifted (⟨a_Low, a_High⟩ : Interval) by_).Low), .int .i64 ((I_Interval_shifted (⟨a_Low, a_High⟩ : Interval) by_).High)]) ?_ rfl ⟨rfl, ?_⟩
    · first | (simp [results, Try.results164, go_sem, I_Interval_shifted, *]; done) | (simp [results, Try.results164, go_sem, *]; repeat (simp (disch := omega) only [if_pos, if_neg]; try simp [go_sem, I_Interval_shifted, *]))
    · (repeat (first | (with_reducible exact Q.refl _) | (with_reducible assumption) | (with_reducible refine Q.setCell ?_ (by dsimp only; omega) _) | (with_reducible refine Q.alloc ?_ _) | (with_reducible refine Q.drew ?_) | (with_reducible refine Q.call ?_ (by with_reducible assumption))))

set_option maxHeartbeats 1000000 in
theorem c_I_cosineRange (a_Low : Int) (a_High : Int) (w : World)  : Calls Try.prog 133 #[.agg #[.int .i64 a_Low, .int .i64 a_High]] w fun e w' => e = .returned (.agg #[.int .i64 ((I_cosineRange (⟨a_Low, a_High⟩ : Interval)).Low), .int .i64 ((I_cosineRange (⟨a_Low, a_High⟩ : Interval)).High)]) ∧ Q w w' := by
  have hset := setRule
  have hall := allocRule
  have halm := allocMark
  have hw64 := wrapRule
  go_enter Try.func133, Try.ntmps133
  go_wp2_with (first | (go_at_call 132; refine (c_I_sineRange _ _ _ ).mono ?_; rintro e w1 ⟨rfl, hq⟩; obtain ⟨hc, hf⟩ := hq.rules; have hs := hq.le; try simp at hs) | (go_at_call 164; refine (c_I_Interval_shifted _ _ _ _ ).mono ?_; rintro e w1 ⟨rfl, hq⟩; obtain ⟨hc, hf⟩ := hq.rules; have hs := hq.le; try simp at hs))
  all_goals
    refine bodyPost_ret (v := .agg #[.int .i64 ((I_cosineRange (⟨a_Low, a_High⟩ : Interval)).Low), .int .i64 ((I_cosineRange (⟨a_Low, a_High⟩ : Interval)).High)]) ?_ rfl ⟨rfl, ?_⟩
    · first | (simp [results, Try.results133, go_sem, I_cosineRange, *]; done) | (simp [results, Try.results133, go_sem, *]; repeat (simp (disch := omega) only [if_pos, if_neg]; try simp [go_sem, I_cosineRange, *]))
    · (repeat (first | (with_reducible exact Q.refl _) | (with_reducible assumption) | (with_reducible refine Q.setCell ?_ (by dsimp only; omega) _) | (with_reducible refine Q.alloc ?_ _) | (with_reducible refine Q.drew ?_) | (with_reducible refine Q.call ?_ (by with_reducible assumption))))

set_option maxHeartbeats 1000000 in
theorem c_I_Interval_minus (a_Low : Int) (a_High : Int) (b_Low : Int) (b_High : Int) (w : World)  : Calls Try.prog 134 #[.agg #[.int .i64 a_Low, .int .i64 a_High], .agg #[.int .i64 b_Low, .int .i64 b_High]] w fun e w' => e = .returned (.agg #[.int .i64 ((I_Interval_minus (⟨a_Low, a_High⟩ : Interval) (⟨b_Low, b_High⟩ : Interval)).Low), .int .i64 ((I_Interval_minus (⟨a_Low, a_High⟩ : Interval) (⟨b_Low, b_High⟩ : Interval)).High)]) ∧ Q w w' := by
  have hset := setRule
  have hall := allocRule
  have halm := allocMark
  have hw64 := wrapRule
  go_enter Try.func134, Try.ntmps134
  go_wp2
  all_goals
    refine bodyPost_ret (v := .agg #[.int .i64 ((I_Interval_minus (⟨a_Low, a_High⟩ : Interval) (⟨b_Low, b_High⟩ : Interval)).Low), .int .i64 ((I_Interval_minus (⟨a_Low, a_High⟩ : Interval) (⟨b_Low, b_High⟩ : Interval)).High)]) ?_ rfl ⟨rfl, ?_⟩
    · first | (simp [results, Try.results134, go_sem, I_Interval_minus, *]; done) | (simp [results, Try.results134, go_sem, *]; repeat (simp (disch := omega) only [if_pos, if_neg]; try simp [go_sem, I_Interval_minus, *]))
    · (repeat (first | (with_reducible exact Q.refl _) | (with_reducible assumption) | (with_reducible refine Q.setCell ?_ (by dsimp only; omega) _) | (with_reducible refine Q.alloc ?_ _) | (with_reducible refine Q.drew ?_) | (with_reducible refine Q.call ?_ (by with_reducible assumption))))

set_option maxHeartbeats 1000000 in
theorem c_I_sunAt (latitude : Int) (d_Low : Int) (d_High : Int) (minute : Int) (w : World)  : Calls Try.prog 87 #[.int .i64 latitude, .agg #[.int .i64 d_Low, .int .i64 d_High], .int .i64 minute] w fun e w' => e = .returned (.agg #[.int .i64 ((I_sunAt latitude (⟨d_Low, d_High⟩ : Interval) minute).X.Low), .int .i64 ((I_sunAt latitude (⟨d_Low, d_High⟩ : Interval) minute).X.High), .int .i64 ((I_sunAt latitude (⟨d_Low, d_High⟩ : Interval) minute).Y.Low), .int .i64 ((I_sunAt latitude (⟨d_Low, d_High⟩ : Interval) minute).Y.High), .int .i64 ((I_sunAt latitude (⟨d_Low, d_High⟩ : Interval) minute).Z.Low), .int .i64 ((I_sunAt latitude (⟨d_Low, d_High⟩ : Interval) minute).Z.High)]) ∧ Q w w' := by
  have hset := setRule
  have hall := allocRule
  have halm := allocMark
  have hw64 := wrapRule
  have hmax := maxRule
  have hmin := minRule
  go_enter Try.func87, Try.ntmps87
  go_wp2_with (first | (go_at_call 132; refine (c_I_sineRange _ _ _ ).mono ?_; rintro e w1 ⟨rfl, hq⟩; obtain ⟨hc, hf⟩ := hq.rules; have hs := hq.le; try simp at hs) | (go_at_call 133; refine (c_I_cosineRange _ _ _ ).mono ?_; rintro e w1 ⟨rfl, hq⟩; obtain ⟨hc, hf⟩ := hq.rules; have hs := hq.le; try simp at hs) | (go_at_call 124; refine (c_I_sine _ _ ).mono ?_; rintro e w1 ⟨rfl, hq⟩; obtain ⟨hc, hf⟩ := hq.rules; have hs := hq.le; try simp at hs) | (go_at_call 123; refine (c_I_cosine _ _ ).mono ?_; rintro e w1 ⟨rfl, hq⟩; obtain ⟨hc, hf⟩ := hq.rules; have hs := hq.le; try simp at hs) | (go_at_call 125; refine (c_I_Interval_times _ _ _ _ _ ).mono ?_; rintro e w1 ⟨rfl, hq⟩; obtain ⟨hc, hf⟩ := hq.rules; have hs := hq.le; try simp at hs) | (go_at_call 134; refine (c_I_Interval_minus _ _ _ _ _ ).mono ?_; rintro e w1 ⟨rfl, hq⟩; obtain ⟨hc, hf⟩ := hq.rules; have hs := hq.le; try simp at hs) | (go_at_call 135; refine (c_I_Interval_plus _ _ _ _ _ ).mono ?_; rintro e w1 ⟨rfl, hq⟩; obtain ⟨hc, hf⟩ := hq.rules; have hs := hq.le; try simp at hs))
  all_goals try (
    refine region_new2 (id := 2) 4 (.cells #[.int .i64 0, .int .i64 0] 32) (.cells #[.int .i64 0, .int .i64 0] 32) 8 9 (by kernel_rfl) (by kernel_rfl) (fun d _ _ _ _ h => by cases d <;> exact h) rfl rfl (by intro i o h1 h2 ho; obtain rfl : i = 4 := (by omega); obtain rfl := Option.some.inj (show some _ = some o from ho); exact ⟨fun _ => rfl, fun a w => by simp [go_sem, ptr]⟩) (by intro i o h1 h2 ho; obtain rfl : i = 5 := (by omega); obtain rfl := Option.some.inj (show some _ = some o from ho); exact ⟨fun _ => rfl, fun a w => by simp [go_sem, ptr]⟩) ?_
    simp only [List.take_succ_cons, List.take_zero, List.drop_succ_cons, List.drop_zero]
    first | (apply f_step rfl (by kernel_rfl); (intro x wq hx; have hr := Q.rules hx.q; have hcq := hr.1; have hfq := hr.2; clear hr; have hsq := Q.le hx.q; (try simp at hsq); go_simp; (repeat (simp (disch := omega) only [if_pos, if_neg]; try go_simp)); (first | rfl | exact ⟨rfl, rfl⟩ | (go_at_call 132; exact fam_grow hx (c_I_sineRange _ _ _ )) | (go_at_call 133; exact fam_grow hx (c_I_cosineRange _ _ _ )) | (go_at_call 124; exact fam_grow hx (c_I_sine _ _ )) | (go_at_call 123; exact fam_grow hx (c_I_cosine _ _ )) | (go_at_call 125; exact fam_grow hx (c_I_Interval_times _ _ _ _ _ )) | (go_at_call 134; exact fam_grow hx (c_I_Interval_minus _ _ _ _ _ )) | (go_at_call 135; exact fam_grow hx (c_I_Interval_plus _ _ _ _ _ )))); try go_simp) | (apply f_skip rfl; try go_simp)
    first | (apply f_step rfl (by kernel_rfl); (intro x wq hx; have hr := Q.rules hx.q; have hcq := hr.1; have hfq := hr.2; clear hr; have hsq := Q.le hx.q; (try simp at hsq); go_simp; (repeat (simp (disch := omega) only [if_pos, if_neg]; try go_simp)); (first | rfl | exact ⟨rfl, rfl⟩ | (go_at_call 132; exact fam_grow hx (c_I_sineRange _ _ _ )) | (go_at_call 133; exact fam_grow hx (c_I_cosineRange _ _ _ )) | (go_at_call 124; exact fam_grow hx (c_I_sine _ _ )) | (go_at_call 123; exact fam_grow hx (c_I_cosine _ _ )) | (go_at_call 125; exact fam_grow hx (c_I_Interval_times _ _ _ _ _ )) | (go_at_call 134; exact fam_grow hx (c_I_Interval_minus _ _ _ _ _ )) | (go_at_call 135; exact fam_grow hx (c_I_Interval_plus _ _ _ _ _ )))); try go_simp) | (apply f_skip rfl; try go_simp)
    first | (apply f_step rfl (by kernel_rfl); (intro x wq hx; have hr := Q.rules hx.q; have hcq := hr.1; have hfq := hr.2; clear hr; have hsq := Q.le hx.q; (try simp at hsq); go_simp; (repeat (simp (disch := omega) only [if_pos, if_neg]; try go_simp)); (first | rfl | exact ⟨rfl, rfl⟩ | (go_at_call 132; exact fam_grow hx (c_I_sineRange _ _ _ )) | (go_at_call 133; exact fam_grow hx (c_I_cosineRange _ _ _ )) | (go_at_call 124; exact fam_grow hx (c_I_sine _ _ )) | (go_at_call 123; exact fam_grow hx (c_I_cosine _ _ )) | (go_at_call 125; exact fam_grow hx (c_I_Interval_times _ _ _ _ _ )) | (go_at_call 134; exact fam_grow hx (c_I_Interval_minus _ _ _ _ _ )) | (go_at_call 135; exact fam_grow hx (c_I_Interval_plus _ _ _ _ _ )))); try go_simp) | (apply f_skip rfl; try go_simp)
    first | (apply f_step rfl (by kernel_rfl); (intro x wq hx; have hr := Q.rules hx.q; have hcq := hr.1; have hfq := hr.2; clear hr; have hsq := Q.le hx.q; (try simp at hsq); go_simp; (repeat (simp (disch := omega) only [if_pos, if_neg]; try go_simp)); (first | rfl | exact ⟨rfl, rfl⟩ | (go_at_call 132; exact fam_grow hx (c_I_sineRange _ _ _ )) | (go_at_call 133; exact fam_grow hx (c_I_cosineRange _ _ _ )) | (go_at_call 124; exact fam_grow hx (c_I_sine _ _ )) | (go_at_call 123; exact fam_grow hx (c_I_cosine _ _ )) | (go_at_call 125; exact fam_grow hx (c_I_Interval_times _ _ _ _ _ )) | (go_at_call 134; exact fam_grow hx (c_I_Interval_minus _ _ _ _ _ )) | (go_at_call 135; exact fam_grow hx (c_I_Interval_plus _ _ _ _ _ )))); try go_simp) | (apply f_skip rfl; try go_simp)
    refine f_nil ?_
    intro b c w1 hbc hx hy
    have hq := hx.q; have hn1 := hx.cells; have hn2 := hx.newCells; obtain ⟨hb1, hb2, hb3, hb4⟩ := hn1; obtain ⟨hb5, hb6⟩ := hn2; have hn3 := hy.cells; have hn4 := hy.newCells; obtain ⟨hd1, hd2, hd3, hd4⟩ := hn3; obtain ⟨hd5, hd6⟩ := hn4; clear hx hy; (try simp at hb1); (try simp at hd1); have hbd : b < c ∨ c < b := by omega
    have hr := Q.rules hq; have hc := hr.1; have hf := hr.2; clear hr; have hs := Q.le hq; try simp at hs
    try go_simp)
  all_goals try go_wp2_with (first | (go_at_call 132; refine (c_I_sineRange _ _ _ ).mono ?_; rintro e w1 ⟨rfl, hq⟩; obtain ⟨hc, hf⟩ := hq.rules; have hs := hq.le; try simp at hs) | (go_at_call 133; refine (c_I_cosineRange _ _ _ ).mono ?_; rintro e w1 ⟨rfl, hq⟩; obtain ⟨hc, hf⟩ := hq.rules; have hs := hq.le; try simp at hs) | (go_at_call 124; refine (c_I_sine _ _ ).mono ?_; rintro e w1 ⟨rfl, hq⟩; obtain ⟨hc, hf⟩ := hq.rules; have hs := hq.le; try simp at hs) | (go_at_call 123; refine (c_I_cosine _ _ ).mono ?_; rintro e w1 ⟨rfl, hq⟩; obtain ⟨hc, hf⟩ := hq.rules; have hs := hq.le; try simp at hs) | (go_at_call 125; refine (c_I_Interval_times _ _ _ _ _ ).mono ?_; rintro e w1 ⟨rfl, hq⟩; obtain ⟨hc, hf⟩ := hq.rules; have hs := hq.le; try simp at hs) | (go_at_call 134; refine (c_I_Interval_minus _ _ _ _ _ ).mono ?_; rintro e w1 ⟨rfl, hq⟩; obtain ⟨hc, hf⟩ := hq.rules; have hs := hq.le; try simp at hs) | (go_at_call 135; refine (c_I_Interval_plus _ _ _ _ _ ).mono ?_; rintro e w1 ⟨rfl, hq⟩; obtain ⟨hc, hf⟩ := hq.rules; have hs := hq.le; try simp at hs))
  all_goals try (
    refine region_new1 (id := 4) 4 (.cells #[.int .i64 0, .int .i64 0] 32) 12 (by kernel_rfl) (by kernel_rfl) (fun d _ _ _ _ h => by cases d <;> exact h) rfl (by intro i o h1 h2 ho; obtain rfl : i = 4 := (by omega); obtain rfl := Option.some.inj (show some _ = some o from ho); exact ⟨fun _ => rfl, fun a w => by simp [go_sem, ptr]⟩) ?_
    simp only [List.take_succ_cons, List.take_zero, List.drop_succ_cons, List.drop_zero]
    first | (apply f_step rfl (by kernel_rfl); (intro x wq hx; have hr := Q.rules hx.q; have hcq := hr.1; have hfq := hr.2; clear hr; have hsq := Q.le hx.q; (try simp at hsq); go_simp; (repeat (simp (disch := omega) only [if_pos, if_neg]; try go_simp)); (first | rfl | exact ⟨rfl, rfl⟩ | (go_at_call 132; exact fam_grow hx (c_I_sineRange _ _ _ )) | (go_at_call 133; exact fam_grow hx (c_I_cosineRange _ _ _ )) | (go_at_call 124; exact fam_grow hx (c_I_sine _ _ )) | (go_at_call 123; exact fam_grow hx (c_I_cosine _ _ )) | (go_at_call 125; exact fam_grow hx (c_I_Interval_times _ _ _ _ _ )) | (go_at_call 134; exact fam_grow hx (c_I_Interval_minus _ _ _ _ _ )) | (go_at_call 135; exact fam_grow hx (c_I_Interval_plus _ _ _ _ _ )))); try go_simp) | (apply f_skip rfl; try go_simp)
    first | (apply f_step rfl (by kernel_rfl); (intro x wq hx; have hr := Q.rules hx.q; have hcq := hr.1; have hfq := hr.2; clear hr; have hsq := Q.le hx.q; (try simp at hsq); go_simp; (repeat (simp (disch := omega) only [if_pos, if_neg]; try go_simp)); (first | rfl | exact ⟨rfl, rfl⟩ | (go_at_call 132; exact fam_grow hx (c_I_sineRange _ _ _ )) | (go_at_call 133; exact fam_grow hx (c_I_cosineRange _ _ _ )) | (go_at_call 124; exact fam_grow hx (c_I_sine _ _ )) | (go_at_call 123; exact fam_grow hx (c_I_cosine _ _ )) | (go_at_call 125; exact fam_grow hx (c_I_Interval_times _ _ _ _ _ )) | (go_at_call 134; exact fam_grow hx (c_I_Interval_minus _ _ _ _ _ )) | (go_at_call 135; exact fam_grow hx (c_I_Interval_plus _ _ _ _ _ )))); try go_simp) | (apply f_skip rfl; try go_simp)
    first | (apply f_step rfl (by kernel_rfl); (intro x wq hx; have hr := Q.rules hx.q; have hcq := hr.1; have hfq := hr.2; clear hr; have hsq := Q.le hx.q; (try simp at hsq); go_simp; (repeat (simp (disch := omega) only [if_pos, if_neg]; try go_simp)); (first | rfl | exact ⟨rfl, rfl⟩ | (go_at_call 132; exact fam_grow hx (c_I_sineRange _ _ _ )) | (go_at_call 133; exact fam_grow hx (c_I_cosineRange _ _ _ )) | (go_at_call 124; exact fam_grow hx (c_I_sine _ _ )) | (go_at_call 123; exact fam_grow hx (c_I_cosine _ _ )) | (go_at_call 125; exact fam_grow hx (c_I_Interval_times _ _ _ _ _ )) | (go_at_call 134; exact fam_grow hx (c_I_Interval_minus _ _ _ _ _ )) | (go_at_call 135; exact fam_grow hx (c_I_Interval_plus _ _ _ _ _ )))); try go_simp) | (apply f_skip rfl; try go_simp)
    first | (apply f_step rfl (by kernel_rfl); (intro x wq hx; have hr := Q.rules hx.q; have hcq := hr.1; have hfq := hr.2; clear hr; have hsq := Q.le hx.q; (try simp at hsq); go_simp; (repeat (simp (disch := omega) only [if_pos, if_neg]; try go_simp)); (first | rfl | exact ⟨rfl, rfl⟩ | (go_at_call 132; exact fam_grow hx (c_I_sineRange _ _ _ )) | (go_at_call 133; exact fam_grow hx (c_I_cosineRange _ _ _ )) | (go_at_call 124; exact fam_grow hx (c_I_sine _ _ )) | (go_at_call 123; exact fam_grow hx (c_I_cosine _ _ )) | (go_at_call 125; exact fam_grow hx (c_I_Interval_times _ _ _ _ _ )) | (go_at_call 134; exact fam_grow hx (c_I_Interval_minus _ _ _ _ _ )) | (go_at_call 135; exact fam_grow hx (c_I_Interval_plus _ _ _ _ _ )))); try go_simp) | (apply f_skip rfl; try go_simp)
    refine f_nil ?_
    intro b w1 hx
    have hq := hx.q; have hn1 := hx.cells; have hn2 := hx.newCells; obtain ⟨hb1, hb2, hb3, hb4⟩ := hn1; obtain ⟨hb5, hb6⟩ := hn2; clear hx; try simp at hb1
    have hr := Q.rules hq; have hc := hr.1; have hf := hr.2; clear hr; have hs := Q.le hq; try simp at hs
    try go_simp)
  all_goals try go_wp2_with (first | (go_at_call 132; refine (c_I_sineRange _ _ _ ).mono ?_; rintro e w1 ⟨rfl, hq⟩; obtain ⟨hc, hf⟩ := hq.rules; have hs := hq.le; try simp at hs) | (go_at_call 133; refine (c_I_cosineRange _ _ _ ).mono ?_; rintro e w1 ⟨rfl, hq⟩; obtain ⟨hc, hf⟩ := hq.rules; have hs := hq.le; try simp at hs) | (go_at_call 124; refine (c_I_sine _ _ ).mono ?_; rintro e w1 ⟨rfl, hq⟩; obtain ⟨hc, hf⟩ := hq.rules; have hs := hq.le; try simp at hs) | (go_at_call 123; refine (c_I_cosine _ _ ).mono ?_; rintro e w1 ⟨rfl, hq⟩; obtain ⟨hc, hf⟩ := hq.rules; have hs := hq.le; try simp at hs) | (go_at_call 125; refine (c_I_Interval_times _ _ _ _ _ ).mono ?_; rintro e w1 ⟨rfl, hq⟩; obtain ⟨hc, hf⟩ := hq.rules; have hs := hq.le; try simp at hs) | (go_at_call 134; refine (c_I_Interval_minus _ _ _ _ _ ).mono ?_; rintro e w1 ⟨rfl, hq⟩; obtain ⟨hc, hf⟩ := hq.rules; have hs := hq.le; try simp at hs) | (go_at_call 135; refine (c_I_Interval_plus _ _ _ _ _ ).mono ?_; rintro e w1 ⟨rfl, hq⟩; obtain ⟨hc, hf⟩ := hq.rules; have hs := hq.le; try simp at hs))
  all_goals try (
    refine region_Q (id := 5) 21 (by kernel_rfl) (by kernel_rfl) ?_
    simp only [List.take_succ_cons, List.take_zero, List.drop_succ_cons, List.drop_zero]
    repeat (first | (apply q_step rfl; (intro wq hq; have hr := Q.rules hq; have hcq := hr.1; have hfq := hr.2; clear hr; have hsq := Q.le hq; (try simp at hsq); go_simp; (repeat (simp (disch := omega) only [if_pos, if_neg]; try go_simp)); (first | rfl | exact ⟨rfl, rfl⟩ | (go_at_call 132; exact quiet_grow hq (c_I_sineRange _ _ _ )) | (go_at_call 133; exact quiet_grow hq (c_I_cosineRange _ _ _ )) | (go_at_call 124; exact quiet_grow hq (c_I_sine _ _ )) | (go_at_call 123; exact quiet_grow hq (c_I_cosine _ _ )) | (go_at_call 125; exact quiet_grow hq (c_I_Interval_times _ _ _ _ _ )) | (go_at_call 134; exact quiet_grow hq (c_I_Interval_minus _ _ _ _ _ )) | (go_at_call 135; exact quiet_grow hq (c_I_Interval_plus _ _ _ _ _ )))); try go_simp) | (apply q_skip rfl; try go_simp))
    refine wpQuiet_nil ?_
    intro w1 hq
    have hr := Q.rules hq; have hc := hr.1; have hf := hr.2; clear hr; have hs := Q.le hq; try simp at hs)
  all_goals try go_wp2_with (first | (go_at_call 132; refine (c_I_sineRange _ _ _ ).mono ?_; rintro e w1 ⟨rfl, hq⟩; obtain ⟨hc, hf⟩ := hq.rules; have hs := hq.le; try simp at hs) | (go_at_call 133; refine (c_I_cosineRange _ _ _ ).mono ?_; rintro e w1 ⟨rfl, hq⟩; obtain ⟨hc, hf⟩ := hq.rules; have hs := hq.le; try simp at hs) | (go_at_call 124; refine (c_I_sine _ _ ).mono ?_; rintro e w1 ⟨rfl, hq⟩; obtain ⟨hc, hf⟩ := hq.rules; have hs := hq.le; try simp at hs) | (go_at_call 123; refine (c_I_cosine _ _ ).mono ?_; rintro e w1 ⟨rfl, hq⟩; obtain ⟨hc, hf⟩ := hq.rules; have hs := hq.le; try simp at hs) | (go_at_call 125; refine (c_I_Interval_times _ _ _ _ _ ).mono ?_; rintro e w1 ⟨rfl, hq⟩; obtain ⟨hc, hf⟩ := hq.rules; have hs := hq.le; try simp at hs) | (go_at_call 134; refine (c_I_Interval_minus _ _ _ _ _ ).mono ?_; rintro e w1 ⟨rfl, hq⟩; obtain ⟨hc, hf⟩ := hq.rules; have hs := hq.le; try simp at hs) | (go_at_call 135; refine (c_I_Interval_plus _ _ _ _ _ ).mono ?_; rintro e w1 ⟨rfl, hq⟩; obtain ⟨hc, hf⟩ := hq.rules; have hs := hq.le; try simp at hs))
  all_goals
    refine bodyPost_ret (v := .agg #[.int .i64 ((I_sunAt latitude (⟨d_Low, d_High⟩ : Interval) minute).X.Low), .int .i64 ((I_sunAt latitude (⟨d_Low, d_High⟩ : Interval) minute).X.High), .int .i64 ((I_sunAt latitude (⟨d_Low, d_High⟩ : Interval) minute).Y.Low), .int .i64 ((I_sunAt latitude (⟨d_Low, d_High⟩ : Interval) minute).Y.High), .int .i64 ((I_sunAt latitude (⟨d_Low, d_High⟩ : Interval) minute).Z.Low), .int .i64 ((I_sunAt latitude (⟨d_Low, d_High⟩ : Interval) minute).Z.High)]) ?_ rfl ⟨rfl, ?_⟩
    · first | (simp [results, Try.results87, go_sem, I_sunAt, *]; done) | (simp [results, Try.results87, go_sem, *]; repeat (simp (disch := omega) only [if_pos, if_neg]; try simp [go_sem, I_sunAt, *]))
    · (repeat (first | (with_reducible exact Q.refl _) | (with_reducible assumption) | (with_reducible refine Q.setCell ?_ (by dsimp only; omega) _) | (with_reducible refine Q.alloc ?_ _) | (with_reducible refine Q.drew ?_) | (with_reducible refine Q.call ?_ (by with_reducible assumption))))

set_option maxHeartbeats 1000000 in
theorem c_I_SunDirection (latitude : Int) (declination_Low : Int) (declination_High : Int) (minute : Int) (w : World)  : Calls Try.prog 31 #[.int .i64 latitude, .agg #[.int .i64 declination_Low, .int .i64 declination_High], .int .i64 minute] w fun e w' => e = .returned (.tuple #[.agg #[.int .i64 ((I_SunDirection latitude (⟨declination_Low, declination_High⟩ : Interval) minute).1.X.Low), .int .i64 ((I_SunDirection latitude (⟨declination_Low, declination_High⟩ : Interval) minute).1.X.High), .int .i64 ((I_SunDirection latitude (⟨declination_Low, declination_High⟩ : Interval) minute).1.Y.Low), .int .i64 ((I_SunDirection latitude (⟨declination_Low, declination_High⟩ : Interval) minute).1.Y.High), .int .i64 ((I_SunDirection latitude (⟨declination_Low, declination_High⟩ : Interval) minute).1.Z.Low), .int .i64 ((I_SunDirection latitude (⟨declination_Low, declination_High⟩ : Interval) minute).1.Z.High)], .int .i64 ((I_SunDirection latitude (⟨declination_Low, declination_High⟩ : Interval) minute).2)]) ∧ Q w w' := by
  have hset := setRule
  have hall := allocRule
  have halm := allocMark
  have hw64 := wrapRule
  have hmax := maxRule
  have hmin := minRule
  go_enter Try.func31, Try.ntmps31
  go_wp2_with (first | (go_at_call 85; refine (c_I_isDeclination _ _ _ ).mono ?_; rintro e w1 ⟨rfl, hq⟩; obtain ⟨hc, hf⟩ := hq.rules; have hs := hq.le; try simp at hs) | (go_at_call 77; refine (c_I_isLatitude _ _ ).mono ?_; rintro e w1 ⟨rfl, rfl⟩) | (go_at_call 86; refine (c_I_isMinute _ _ ).mono ?_; rintro e w1 ⟨rfl, rfl⟩) | (go_at_call 87; refine (c_I_sunAt _ _ _ _ _ ).mono ?_; rintro e w1 ⟨rfl, hq⟩; obtain ⟨hc, hf⟩ := hq.rules; have hs := hq.le; try simp at hs))
  all_goals
    refine bodyPost_ret (v := .tuple #[.agg #[.int .i64 ((I_SunDirection latitude (⟨declination_Low, declination_High⟩ : Interval) minute).1.X.Low), .int .i64 ((I_SunDirection latitude (⟨declination_Low, declination_High⟩ : Interval) minute).1.X.High), .int .i64 ((I_SunDirection latitude (⟨declination_Low, declination_High⟩ : Interval) minute).1.Y.Low), .int .i64 ((I_SunDirection latitude (⟨declination_Low, declination_High⟩ : Interval) minute).1.Y.High), .int .i64 ((I_SunDirection latitude (⟨declination_Low, declination_High⟩ : Interval) minute).1.Z.Low), .int .i64 ((I_SunDirection latitude (⟨declination_Low, declination_High⟩ : Interval) minute).1.Z.High)], .int .i64 ((I_SunDirection latitude (⟨declination_Low, declination_High⟩ : Interval) minute).2)]) ?_ rfl ⟨rfl, ?_⟩
    · first | (simp [results, Try.results31, go_sem, I_SunDirection, *]; done) | (simp [results, Try.results31, go_sem, *]; repeat (simp (disch := omega) only [if_pos, if_neg]; try simp [go_sem, I_SunDirection, *]))
    · (repeat (first | (with_reducible exact Q.refl _) | (with_reducible assumption) | (with_reducible refine Q.setCell ?_ (by dsimp only; omega) _) | (with_reducible refine Q.alloc ?_ _) | (with_reducible refine Q.drew ?_) | (with_reducible refine Q.call ?_ (by with_reducible assumption))))

theorem c_S_IsDay (d_Rise : Int) (d_Set : Int) (w : World)  : Calls Try.prog 50 #[.agg #[.int .i64 d_Rise, .int .i64 d_Set]] w fun e w' => e = .returned (.bool ((S_IsDay (⟨d_Rise, d_Set⟩ : Day)))) ∧ Q w w' := by
  have hset := setRule
  have hall := allocRule
  have halm := allocMark
  have hw64 := wrapRule
  go_enter Try.func50, Try.ntmps50
  go_wp2
  all_goals go_ret
  all_goals refine ⟨?_, (by (repeat (first | (with_reducible exact Q.refl _) | (with_reducible assumption) | (with_reducible refine Q.setCell ?_ (by dsimp only; omega) _) | (with_reducible refine Q.alloc ?_ _) | (with_reducible refine Q.drew ?_) | (with_reducible refine Q.call ?_ (by with_reducible assumption)))))⟩
  all_goals first | (simp [S_IsDay, *]; done) | (simp [S_IsDay, *]; omega) | (simp [S_IsDay, *]; simp (disch := omega) only [if_pos, if_neg]; done) | (simp_all [S_IsDay]; done) | (simp_all [S_IsDay]; omega)

end Go.Proofs.Ythooejkmccdfjaa
