/- Contracts of Go functions of the plain fragment, with their walks; printed by a program of the author's own. -/
import Derived.Test.YtlckpdagejbchaaRows
import Derived.Test.YtlckpdagejbchaaDefs
import Derived.Test.YtlckpdagejbchaaC1
import Derived.Test.YtlckpdagejbchaaFresh
import Derived.Test.YtlckpdagejbchaaM1
import Derived.WalkKit
import Derived.ProofKit
import Derived.OpenShut
import Derived.WalkLawsBesides
import Derived.BigQuiet
import Derived.Deep.QuietTactic
namespace Go.Proofs.Ytlckpdagejbchaa
open Go.ChangeShapes Go.WideShapes Go.ChangeAt Go.RowKit
set_option linter.unusedVariables false
set_option linter.unusedSimpArgs false
theorem c_I_mod (a : Int) (b : Int) (w : World) (hz0 : ¬ b = 0) : Calls Try.prog 106 #[.int .i64 a, .int .i64 b] w fun e w' => e = .returned (.int .i64 ((I_mod a b))) ∧ w = w' := by
  have hw64 := wrapRule
  go_enter Try.func106, Try.ntmps106
  go_wp2_with (first | (go_at_call 96; refine (c_I_floor _ _ _ (by first | assumption | decide | omega | (unfold wrap64; omega))).mono ?_; rintro e w1 ⟨rfl, rfl⟩))
  all_goals go_ret
  all_goals refine ⟨?_, rfl⟩
  all_goals first | (simp [I_mod, *]; done) | (simp [I_mod, *]; omega) | (simp [I_mod, *]; simp (disch := omega) only [if_pos, if_neg]; done) | (simp_all [I_mod]; done) | (simp_all [I_mod]; omega)

theorem c_I_plain (a : Int) (w : World)  : Calls Try.prog 95 #[.int .i64 a] w fun e w' => e = .returned (.int .i64 ((I_plain a))) ∧ w = w' := by
  have hw64 := wrapRule
  go_enter Try.func95, Try.ntmps95
  go_wp2_with (first | (go_at_call 106; refine (c_I_mod _ _ _ (by first | assumption | decide | omega | (unfold wrap64; omega))).mono ?_; rintro e w1 ⟨rfl, rfl⟩))
  all_goals go_ret
  all_goals refine ⟨?_, rfl⟩
  all_goals first | (simp [I_plain, *]; done) | (simp [I_plain, *]; omega) | (simp [I_plain, *]; simp (disch := omega) only [if_pos, if_neg]; done) | (simp_all [I_plain]; done) | (simp_all [I_plain]; omega)

theorem c_I_meanLongitude (n : Int) (w : World)  : Calls Try.prog 97 #[.int .i64 n] w fun e w' => e = .returned (.int .i64 ((I_meanLongitude n))) ∧ w = w' := by
  have hw64 := wrapRule
  go_enter Try.func97, Try.ntmps97
  go_wp2_with (first | (go_at_call 95; refine (c_I_plain _ _ ).mono ?_; rintro e w1 ⟨rfl, rfl⟩) | (go_at_call 96; refine (c_I_floor _ _ _ (by first | assumption | decide | omega | (unfold wrap64; omega))).mono ?_; rintro e w1 ⟨rfl, rfl⟩))
  all_goals go_ret
  all_goals refine ⟨?_, rfl⟩
  all_goals first | (simp [I_meanLongitude, *]; done) | (simp [I_meanLongitude, *]; omega) | (simp [I_meanLongitude, *]; simp (disch := omega) only [if_pos, if_neg]; done) | (simp_all [I_meanLongitude]; done) | (simp_all [I_meanLongitude]; omega)

theorem c_I_nearest (a : Int) (b : Int) (w : World) (hz0 : 0 < b) : Calls Try.prog 98 #[.int .i64 a, .int .i64 b] w fun e w' => e = .returned (.int .i64 ((I_nearest a b))) ∧ w = w' := by
  have hw64 := wrapRule
  have hbf : (b < 0) = False := eq_false (by omega)
  have hbz : (b = 0) = False := eq_false (by omega)
  go_enter Try.func98, Try.ntmps98
  go_wp2_with (first | (go_at_call 96; refine (c_I_floor _ _ _ (by first | assumption | decide | omega | (unfold wrap64; omega))).mono ?_; rintro e w1 ⟨rfl, rfl⟩))
  all_goals go_ret
  all_goals refine ⟨?_, rfl⟩
  all_goals first | (simp [I_nearest, *]; done) | (simp [I_nearest, *]; omega) | (simp [I_nearest, *]; simp (disch := omega) only [if_pos, if_neg]; done) | (simp_all [I_nearest]; done) | (simp_all [I_nearest]; omega)

theorem c_I_polynomials (r : Int) (w : World)  : Calls Try.prog 122 #[.int .i64 r] w fun e w' => e = .returned (.tuple #[.int .i64 ((I_polynomials r).1), .int .i64 ((I_polynomials r).2)]) ∧ w = w' := by
  have hw64 := wrapRule
  go_enter Try.func122, Try.ntmps122
  go_wp2
  all_goals go_ret2
  all_goals refine ⟨?_, rfl⟩
  all_goals first | (simp [I_polynomials, *]; done) | (simp [I_polynomials, *]; omega) | (simp [I_polynomials, *]; simp (disch := omega) only [if_pos, if_neg]; done) | (simp_all [I_polynomials]; done) | (simp_all [I_polynomials]; omega)

theorem c_I_nanoSine (a : Int) (w : World)  : Calls Try.prog 99 #[.int .i64 a] w fun e w' => e = .returned (.int .i64 ((I_nanoSine a))) ∧ w = w' := by
  have hw64 := wrapRule
  go_enter Try.func99, Try.ntmps99
  go_wp2_with (first | (go_at_call 95; refine (c_I_plain _ _ ).mono ?_; rintro e w1 ⟨rfl, rfl⟩) | (go_at_call 122; refine (c_I_polynomials _ _ ).mono ?_; rintro e w1 ⟨rfl, rfl⟩))
  all_goals go_ret
  all_goals refine ⟨?_, rfl⟩
  all_goals first | (simp [I_nanoSine, *]; done) | (simp [I_nanoSine, *]; omega) | (simp [I_nanoSine, *]; simp (disch := omega) only [if_pos, if_neg]; done) | (simp_all [I_nanoSine]; done) | (simp_all [I_nanoSine]; omega)

theorem c_I_sunLongitude (n : Int) (w : World)  : Calls Try.prog 56 #[.int .i64 n] w fun e w' => e = .returned (.int .i64 ((I_sunLongitude n))) ∧ w = w' := by
  have hw64 := wrapRule
  go_enter Try.func56, Try.ntmps56
  go_wp2_with (first | (go_at_call 95; refine (c_I_plain _ _ ).mono ?_; rintro e w1 ⟨rfl, rfl⟩) | (go_at_call 96; refine (c_I_floor _ _ _ (by first | assumption | decide | omega | (unfold wrap64; omega))).mono ?_; rintro e w1 ⟨rfl, rfl⟩) | (go_at_call 97; refine (c_I_meanLongitude _ _ ).mono ?_; rintro e w1 ⟨rfl, rfl⟩) | (go_at_call 98; refine (c_I_nearest _ _ _ (by first | assumption | decide | omega | (unfold wrap64; omega))).mono ?_; rintro e w1 ⟨rfl, rfl⟩) | (go_at_call 99; refine (c_I_nanoSine _ _ ).mono ?_; rintro e w1 ⟨rfl, rfl⟩))
  all_goals go_ret
  all_goals refine ⟨?_, rfl⟩
  all_goals first | (simp [I_sunLongitude, *]; done) | (simp [I_sunLongitude, *]; omega) | (simp [I_sunLongitude, *]; simp (disch := omega) only [if_pos, if_neg]; done) | (simp_all [I_sunLongitude]; done) | (simp_all [I_sunLongitude]; omega)

theorem c_I_SunLongitude (n : Int) (w : World)  : Calls Try.prog 16 #[.int .i64 n] w fun e w' => e = .returned (.tuple #[.int .i64 ((I_SunLongitude n).1), .int .i64 ((I_SunLongitude n).2)]) ∧ Q w w' := by
  have hset := setRule
  have hall := allocRule
  have halm := allocMark
  have hw64 := wrapRule
  go_enter Try.func16, Try.ntmps16
  go_wp2_with (first | (go_at_call 55; refine (c_I_isDayNumber _ _ ).mono ?_; rintro e w1 ⟨rfl, hq⟩; obtain ⟨hc, hf⟩ := hq.rules; have hs := hq.le; try simp at hs) | (go_at_call 56; refine (c_I_sunLongitude _ _ ).mono ?_; rintro e w1 ⟨rfl, rfl⟩))
  all_goals go_ret2
  all_goals refine ⟨?_, (by (repeat (first | (with_reducible exact Q.refl _) | (with_reducible assumption) | (with_reducible refine Q.setCell ?_ (by dsimp only; omega) _) | (with_reducible refine Q.alloc ?_ _) | (with_reducible refine Q.drew ?_) | (with_reducible refine Q.call ?_ (by with_reducible assumption)))))⟩
  all_goals first | (simp [I_SunLongitude, *]; done) | (simp [I_SunLongitude, *]; omega) | (simp [I_SunLongitude, *]; simp (disch := omega) only [if_pos, if_neg]; done) | (simp_all [I_SunLongitude]; done) | (simp_all [I_SunLongitude]; omega)

theorem c_I_liesOnWay (a : Int) (from_ : Int) (to : Int) (w : World)  : Calls Try.prog 84 #[.int .i64 a, .int .i64 from_, .int .i64 to] w fun e w' => e = .returned (.bool ((I_liesOnWay a from_ to))) ∧ w = w' := by
  have hw64 := wrapRule
  go_enter Try.func84, Try.ntmps84
  go_wp2_with (first | (go_at_call 95; refine (c_I_plain _ _ ).mono ?_; rintro e w1 ⟨rfl, rfl⟩))
  all_goals go_ret
  all_goals refine ⟨?_, rfl⟩
  all_goals first | (simp [I_liesOnWay, *]; done) | (simp [I_liesOnWay, *]; omega) | (simp [I_liesOnWay, *]; simp (disch := omega) only [if_pos, if_neg]; done) | (simp_all [I_liesOnWay]; done) | (simp_all [I_liesOnWay]; omega)

theorem c_S_IsZone (z_Offset : Int) (z_StartMonth : Int) (z_StartWeek : Int) (z_EndMonth : Int) (z_EndWeek : Int) (w : World)  : Calls Try.prog 50 #[.agg #[.int .i64 z_Offset, .int .i64 z_StartMonth, .int .i64 z_StartWeek, .int .i64 z_EndMonth, .int .i64 z_EndWeek]] w fun e w' => e = .returned (.bool ((S_IsZone (⟨z_Offset, z_StartMonth, z_StartWeek, z_EndMonth, z_EndWeek⟩ : Zone)))) ∧ Q w w' := by
  have hset := setRule
  have hall := allocRule
  have halm := allocMark
  have hw64 := wrapRule
  go_enter Try.func50, Try.ntmps50
  go_wp2_with (first | (go_at_call 57; refine (c_S_l01In _ _ _ _ ).mono ?_; rintro e w1 ⟨rfl, rfl⟩))
  all_goals go_ret
  all_goals refine ⟨?_, (by (repeat (first | (with_reducible exact Q.refl _) | (with_reducible assumption) | (with_reducible refine Q.setCell ?_ (by dsimp only; omega) _) | (with_reducible refine Q.alloc ?_ _) | (with_reducible refine Q.drew ?_) | (with_reducible refine Q.call ?_ (by with_reducible assumption)))))⟩
  all_goals first | (simp [S_IsZone, *]; done) | (simp [S_IsZone, *]; omega) | (simp [S_IsZone, *]; simp (disch := omega) only [if_pos, if_neg]; done) | (simp_all [S_IsZone]; done) | (simp_all [S_IsZone]; omega)

theorem c_S_l07Month (year : Int) (month : Int) (w : World)  : Calls Try.prog 101 #[.int .i64 year, .int .i64 month] w fun e w' => e = .returned (.bool ((S_l07Month year month))) ∧ w = w' := by
  have hw64 := wrapRule
  go_enter Try.func101, Try.ntmps101
  go_wp2_with (first | (go_at_call 57; refine (c_S_l01In _ _ _ _ ).mono ?_; rintro e w1 ⟨rfl, rfl⟩))
  all_goals go_ret
  all_goals refine ⟨?_, rfl⟩
  all_goals first | (simp [S_l07Month, *]; done) | (simp [S_l07Month, *]; omega) | (simp [S_l07Month, *]; simp (disch := omega) only [if_pos, if_neg]; done) | (simp_all [S_l07Month]; done) | (simp_all [S_l07Month]; omega)

theorem c_S_l07Days (year : Int) (month : Int) (w : World)  : Calls Try.prog 102 #[.int .i64 year, .int .i64 month] w fun e w' => e = .returned (.int .i64 ((S_l07Days year month))) ∧ w = w' := by
  have hw64 := wrapRule
  go_enter Try.func102, Try.ntmps102
  go_wp2
  all_goals go_ret
  all_goals refine ⟨?_, rfl⟩
  all_goals first | (simp [S_l07Days, *]; done) | (simp [S_l07Days, *]; omega) | (simp [S_l07Days, *]; simp (disch := omega) only [if_pos, if_neg]; done) | (simp_all [S_l07Days]; done) | (simp_all [S_l07Days]; omega)

set_option maxHeartbeats 1000000 in
theorem c_S_IsDate (d_Year : Int) (d_Month : Int) (d_Day : Int) (w : World)  : Calls Try.prog 61 #[.agg #[.int .i64 d_Year, .int .i64 d_Month, .int .i64 d_Day]] w fun e w' => e = .returned (.bool ((S_IsDate (⟨d_Year, d_Month, d_Day⟩ : Date)))) ∧ Q w w' := by
  have hset := setRule
  have hall := allocRule
  have halm := allocMark
  have hw64 := wrapRule
  rcases Bool.eq_false_or_eq_true ((S_l07Month (⟨d_Year, d_Month, d_Day⟩ : Date).Year (⟨d_Year, d_Month, d_Day⟩ : Date).Month)) with hg | hg
  · try dsimp only at hg
    go_enter Try.func61, Try.ntmps61
    go_wp2_with (first | (go_at_call 101; refine (c_S_l07Month _ _ _ ).mono ?_; rintro e w1 ⟨rfl, rfl⟩) | (go_at_call 57; refine (c_S_l01In _ _ _ _ ).mono ?_; rintro e w1 ⟨rfl, rfl⟩) | (go_at_call 102; refine (c_S_l07Days _ _ _ ).mono ?_; rintro e w1 ⟨rfl, rfl⟩))
    all_goals try (
      refine region_Q_all (id := 1) (by kernel_rfl) (by kernel_rfl) ?_
      repeat (first | (apply q_step rfl; (intro wq hq; have hr := Q.rules hq; have hcq := hr.1; have hfq := hr.2; clear hr; have hsq := Q.le hq; (try simp at hsq); go_simp; (repeat (simp (disch := omega) only [if_pos, if_neg]; try go_simp)); (first | rfl | exact ⟨rfl, rfl⟩ | (go_at_call 101; exact quiet_same hq (c_S_l07Month _ _ _ )) | (go_at_call 57; exact quiet_same hq (c_S_l01In _ _ _ _ )) | (go_at_call 102; exact quiet_same hq (c_S_l07Days _ _ _ )))); try go_simp) | (apply q_skip rfl; try go_simp))
      refine wpQuiet_nil ?_
      intro w1 hq
      have hr := Q.rules hq; have hc := hr.1; have hf := hr.2; clear hr; have hs := Q.le hq; try simp at hs)
    all_goals try go_wp2_with (first | (go_at_call 101; refine (c_S_l07Month _ _ _ ).mono ?_; rintro e w1 ⟨rfl, rfl⟩) | (go_at_call 57; refine (c_S_l01In _ _ _ _ ).mono ?_; rintro e w1 ⟨rfl, rfl⟩) | (go_at_call 102; refine (c_S_l07Days _ _ _ ).mono ?_; rintro e w1 ⟨rfl, rfl⟩))
    all_goals go_ret
    all_goals refine ⟨?_, (by (repeat (first | (with_reducible exact Q.refl _) | (with_reducible assumption) | (with_reducible refine Q.setCell ?_ (by dsimp only; omega) _) | (with_reducible refine Q.alloc ?_ _) | (with_reducible refine Q.drew ?_) | (with_reducible refine Q.call ?_ (by with_reducible assumption)))))⟩
    all_goals first | (simp [S_IsDate, *]; done) | (simp [S_IsDate, *]; omega) | (simp [S_IsDate, *]; simp (disch := omega) only [if_pos, if_neg]; done) | (simp_all [S_IsDate]; done) | (simp_all [S_IsDate]; omega)
  · try dsimp only at hg
    go_enter Try.func61, Try.ntmps61
    go_wp2_with (first | (go_at_call 101; refine (c_S_l07Month _ _ _ ).mono ?_; rintro e w1 ⟨rfl, rfl⟩) | (go_at_call 57; refine (c_S_l01In _ _ _ _ ).mono ?_; rintro e w1 ⟨rfl, rfl⟩) | (go_at_call 102; refine (c_S_l07Days _ _ _ ).mono ?_; rintro e w1 ⟨rfl, rfl⟩))
    all_goals try (
      refine region_Q_all (id := 1) (by kernel_rfl) (by kernel_rfl) ?_
      repeat (first | (apply q_step rfl; (intro wq hq; have hr := Q.rules hq; have hcq := hr.1; have hfq := hr.2; clear hr; have hsq := Q.le hq; (try simp at hsq); go_simp; (repeat (simp (disch := omega) only [if_pos, if_neg]; try go_simp)); (first | rfl | exact ⟨rfl, rfl⟩ | (go_at_call 101; exact quiet_same hq (c_S_l07Month _ _ _ )) | (go_at_call 57; exact quiet_same hq (c_S_l01In _ _ _ _ )) | (go_at_call 102; exact quiet_same hq (c_S_l07Days _ _ _ )))); try go_simp) | (apply q_skip rfl; try go_simp))
      refine wpQuiet_nil ?_
      intro w1 hq
      have hr := Q.rules hq; have hc := hr.1; have hf := hr.2; clear hr; have hs := Q.le hq; try simp at hs)
    all_goals try go_wp2_with (first | (go_at_call 101; refine (c_S_l07Month _ _ _ ).mono ?_; rintro e w1 ⟨rfl, rfl⟩) | (go_at_call 57; refine (c_S_l01In _ _ _ _ ).mono ?_; rintro e w1 ⟨rfl, rfl⟩) | (go_at_call 102; refine (c_S_l07Days _ _ _ ).mono ?_; rintro e w1 ⟨rfl, rfl⟩))
    all_goals go_ret
    all_goals refine ⟨?_, (by (repeat (first | (with_reducible exact Q.refl _) | (with_reducible assumption) | (with_reducible refine Q.setCell ?_ (by dsimp only; omega) _) | (with_reducible refine Q.alloc ?_ _) | (with_reducible refine Q.drew ?_) | (with_reducible refine Q.call ?_ (by with_reducible assumption)))))⟩
    all_goals first | (simp [S_IsDate, *]; done) | (simp [S_IsDate, *]; omega) | (simp [S_IsDate, *]; simp (disch := omega) only [if_pos, if_neg]; done) | (simp_all [S_IsDate]; done) | (simp_all [S_IsDate]; omega)

theorem c_S_l07Number (d_Year : Int) (d_Month : Int) (d_Day : Int) (w : World) (hm : d_Month ≤ 9223372036854775807) : Calls Try.prog 103 #[.agg #[.int .i64 d_Year, .int .i64 d_Month, .int .i64 d_Day]] w fun e w' => e = .returned (.int .i64 (S_l07Number ⟨d_Year, d_Month, d_Day⟩)) ∧ Q w w' := by
  have hset := setRule
  have hall := allocRule
  have halm := allocMark
  have hw64 := wrapRule
  go_enter Try.func103, Try.ntmps103
  go_wp2_with (first | (go_at_call 77; refine (c_S_l07Year _ _ ).mono ?_; rintro e w1 ⟨rfl, rfl⟩) | (go_at_call 102; refine (c_S_l07Days _ _ _ ).mono ?_; rintro e w1 ⟨rfl, rfl⟩))
  all_goals try (
    refine region_Q_all (id := 1) (by kernel_rfl) (by kernel_rfl) ?_
    repeat (first | (apply q_step rfl; (intro wq hq; have hr := Q.rules hq; have hcq := hr.1; have hfq := hr.2; clear hr; have hsq := Q.le hq; (try simp at hsq); go_simp; (repeat (simp (disch := omega) only [if_pos, if_neg]; try go_simp)); (first | rfl | exact ⟨rfl, rfl⟩ | (go_at_call 77; exact quiet_same hq (c_S_l07Year _ _ )) | (go_at_call 102; exact quiet_same hq (c_S_l07Days _ _ _ )))); try go_simp) | (apply q_skip rfl; try go_simp))
    refine wpQuiet_nil ?_
    intro w1 hq
    have hr := Q.rules hq; have hc := hr.1; have hf := hr.2; clear hr; have hs := Q.le hq; try simp at hs)
  all_goals try go_wp2_with (first | (go_at_call 77; refine (c_S_l07Year _ _ ).mono ?_; rintro e w1 ⟨rfl, rfl⟩) | (go_at_call 102; refine (c_S_l07Days _ _ _ ).mono ?_; rintro e w1 ⟨rfl, rfl⟩))
  go_loop [3, 4] (fun n m => ∃ k : Nat, ((k : Int) < d_Month ∨ k = 0) ∧ m = .int .i64 ((k : Int) + 1) ∧ n = .int .i64 (daysAfter (S_l07Days d_Year) (wrap64 (wrap64 (S_l07Year d_Year + d_Day) - 1)) k)) (fun _ m => (d_Month - intOf m).toNat)
  case atStart => exact ⟨0, .inr rfl, rfl, rfl⟩
  case round =>
    obtain ⟨k, hk, rfl, rfl⟩ := hrel
    by_cases hlt : (k : Int) + 1 < d_Month
    · have hw2 : wrap64 ((k : Int) + 1 + 1) = (k : Int) + 1 + 1 := w64 ⟨by omega, by omega⟩
      go_wp2_with (first | (go_at_call 77; refine (c_S_l07Year _ _ ).mono ?_; rintro e w1 ⟨rfl, rfl⟩) | (go_at_call 102; refine (c_S_l07Days _ _ _ ).mono ?_; rintro e w1 ⟨rfl, rfl⟩))
      go_round
      case rel => exact ⟨k + 1, .inl (by omega), rfl, rfl⟩
      case measure => simp [intOf]; omega
    · go_wp2_with (first | (go_at_call 77; refine (c_S_l07Year _ _ ).mono ?_; rintro e w1 ⟨rfl, rfl⟩) | (go_at_call 102; refine (c_S_l07Days _ _ _ ).mono ?_; rintro e w1 ⟨rfl, rfl⟩))
      go_ret
      refine ⟨?_, (by repeat (first | (with_reducible exact Q.refl _) | (with_reducible assumption) | (with_reducible refine Q.setCell ?_ (by dsimp only; omega) _) | (with_reducible refine Q.alloc ?_ _) | (with_reducible refine Q.drew ?_) | (with_reducible refine Q.call ?_ (by with_reducible assumption))))⟩
      have e : (d_Month - 1).toNat = k := by omega
      simp [S_l07Number, e]


theorem c_S_l07Weekday (number : Int) (w : World)  : Calls Try.prog 123 #[.int .i64 number] w fun e w' => e = .returned (.int .i64 ((S_l07Weekday number))) ∧ w = w' := by
  have hw64 := wrapRule
  go_enter Try.func123, Try.ntmps123
  go_wp2_with (first | (go_at_call 100; refine (c_S_l01Mod _ _ _ (by first | assumption | decide | omega | (unfold wrap64; omega))).mono ?_; rintro e w1 ⟨rfl, rfl⟩))
  all_goals go_ret
  all_goals refine ⟨?_, rfl⟩
  all_goals first | (simp [S_l07Weekday, *]; done) | (simp [S_l07Weekday, *]; omega) | (simp [S_l07Weekday, *]; simp (disch := omega) only [if_pos, if_neg]; done) | (simp_all [S_l07Weekday]; done) | (simp_all [S_l07Weekday]; omega)

set_option maxHeartbeats 1000000 in
theorem c_L_toZone (a_Offset : Int) (a_StartMonth : Int) (a_StartWeek : Int) (a_EndMonth : Int) (a_EndWeek : Int) (w : World)  : Calls Try.prog 20 #[.agg #[.int .i64 a_Offset, .int .i64 a_StartMonth, .int .i64 a_StartWeek, .int .i64 a_EndMonth, .int .i64 a_EndWeek]] w fun e w' => e = .returned (.agg #[.int .i64 ((L_toZone (⟨a_Offset, a_StartMonth, a_StartWeek, a_EndMonth, a_EndWeek⟩ : Zone)).Offset), .int .i64 ((L_toZone (⟨a_Offset, a_StartMonth, a_StartWeek, a_EndMonth, a_EndWeek⟩ : Zone)).StartMonth), .int .i64 ((L_toZone (⟨a_Offset, a_StartMonth, a_StartWeek, a_EndMonth, a_EndWeek⟩ : Zone)).StartWeek), .int .i64 ((L_toZone (⟨a_Offset, a_StartMonth, a_StartWeek, a_EndMonth, a_EndWeek⟩ : Zone)).EndMonth), .int .i64 ((L_toZone (⟨a_Offset, a_StartMonth, a_StartWeek, a_EndMonth, a_EndWeek⟩ : Zone)).EndWeek)]) ∧ Q w w' := by
  have hset := setRule
  have hall := allocRule
  have halm := allocMark
  have hw64 := wrapRule
  go_enter Try.func20, Try.ntmps20
  go_wp2
  all_goals
    refine bodyPost_ret (v := .agg #[.int .i64 ((L_toZone (⟨a_Offset, a_StartMonth, a_StartWeek, a_EndMonth, a_EndWeek⟩ : Zone)).Offset), .int .i64 ((L_toZone (⟨a_Offset, a_StartMonth, a_StartWeek, a_EndMonth, a_EndWeek⟩ : Zone)).StartMonth), .int .i64 ((L_toZone (⟨a_Offset, a_StartMonth, a_StartWeek, a_EndMonth, a_EndWeek⟩ : Zone)).StartWeek), .int .i64 ((L_toZone (⟨a_Offset, a_StartMonth, a_StartWeek, a_EndMonth, a_EndWeek⟩ : Zone)).EndMonth), .int .i64 ((L_toZone (⟨a_Offset, a_StartMonth, a_StartWeek, a_EndMonth, a_EndWeek⟩ : Zone)).EndWeek)]) ?_ rfl ⟨rfl, ?_⟩
    · first | (simp [results, Try.results20, go_sem, L_toZone, *]; done) | (simp [results, Try.results20, go_sem, *]; repeat (simp (disch := omega) only [if_pos, if_neg]; try simp [go_sem, L_toZone, *]))
    · (repeat (first | (with_reducible exact Q.refl _) | (with_reducible assumption) | (with_reducible refine Q.setCell ?_ (by dsimp only; omega) _) | (with_reducible refine Q.alloc ?_ _) | (with_reducible refine Q.drew ?_) | (with_reducible refine Q.call ?_ (by with_reducible assumption))))

set_option maxHeartbeats 1000000 in
theorem c_L_toDate (a_Year : Int) (a_Month : Int) (a_Day : Int) (w : World)  : Calls Try.prog 21 #[.agg #[.int .i64 a_Year, .int .i64 a_Month, .int .i64 a_Day]] w fun e w' => e = .returned (.agg #[.int .i64 ((L_toDate (⟨a_Year, a_Month, a_Day⟩ : Date)).Year), .int .i64 ((L_toDate (⟨a_Year, a_Month, a_Day⟩ : Date)).Month), .int .i64 ((L_toDate (⟨a_Year, a_Month, a_Day⟩ : Date)).Day)]) ∧ Q w w' := by
  have hset := setRule
  have hall := allocRule
  have halm := allocMark
  have hw64 := wrapRule
  go_enter Try.func21, Try.ntmps21
  go_wp2
  all_goals
    refine bodyPost_ret (v := .agg #[.int .i64 ((L_toDate (⟨a_Year, a_Month, a_Day⟩ : Date)).Year), .int .i64 ((L_toDate (⟨a_Year, a_Month, a_Day⟩ : Date)).Month), .int .i64 ((L_toDate (⟨a_Year, a_Month, a_Day⟩ : Date)).Day)]) ?_ rfl ⟨rfl, ?_⟩
    · first | (simp [results, Try.results21, go_sem, L_toDate, *]; done) | (simp [results, Try.results21, go_sem, *]; repeat (simp (disch := omega) only [if_pos, if_neg]; try simp [go_sem, L_toDate, *]))
    · (repeat (first | (with_reducible exact Q.refl _) | (with_reducible assumption) | (with_reducible refine Q.setCell ?_ (by dsimp only; omega) _) | (with_reducible refine Q.alloc ?_ _) | (with_reducible refine Q.drew ?_) | (with_reducible refine Q.call ?_ (by with_reducible assumption))))

theorem c_I_IsZone (z_Offset : Int) (z_StartMonth : Int) (z_StartWeek : Int) (z_EndMonth : Int) (z_EndWeek : Int) (w : World)  : Calls Try.prog 49 #[.agg #[.int .i64 z_Offset, .int .i64 z_StartMonth, .int .i64 z_StartWeek, .int .i64 z_EndMonth, .int .i64 z_EndWeek]] w fun e w' => e = .returned (.bool ((I_IsZone (⟨z_Offset, z_StartMonth, z_StartWeek, z_EndMonth, z_EndWeek⟩ : Zone)))) ∧ Q w w' := by
  have hset := setRule
  have hall := allocRule
  have halm := allocMark
  have hw64 := wrapRule
  go_enter Try.func49, Try.ntmps49
  go_wp2_with (first | (go_at_call 59; refine (c_I_in _ _ _ _ ).mono ?_; rintro e w1 ⟨rfl, rfl⟩))
  all_goals go_ret
  all_goals refine ⟨?_, (by (repeat (first | (with_reducible exact Q.refl _) | (with_reducible assumption) | (with_reducible refine Q.setCell ?_ (by dsimp only; omega) _) | (with_reducible refine Q.alloc ?_ _) | (with_reducible refine Q.drew ?_) | (with_reducible refine Q.call ?_ (by with_reducible assumption)))))⟩
  all_goals first | (simp [I_IsZone, *]; done) | (simp [I_IsZone, *]; omega) | (simp [I_IsZone, *]; simp (disch := omega) only [if_pos, if_neg]; done) | (simp_all [I_IsZone]; done) | (simp_all [I_IsZone]; omega)

theorem c_I_isMonth (year : Int) (month : Int) (w : World)  : Calls Try.prog 119 #[.int .i64 year, .int .i64 month] w fun e w' => e = .returned (.bool ((I_isMonth year month))) ∧ w = w' := by
  have hw64 := wrapRule
  go_enter Try.func119, Try.ntmps119
  go_wp2_with (first | (go_at_call 59; refine (c_I_in _ _ _ _ ).mono ?_; rintro e w1 ⟨rfl, rfl⟩))
  all_goals go_ret
  all_goals refine ⟨?_, rfl⟩
  all_goals first | (simp [I_isMonth, *]; done) | (simp [I_isMonth, *]; omega) | (simp [I_isMonth, *]; simp (disch := omega) only [if_pos, if_neg]; done) | (simp_all [I_isMonth]; done) | (simp_all [I_isMonth]; omega)

set_option maxHeartbeats 1000000 in
theorem c_I_IsDate (d_Year : Int) (d_Month : Int) (d_Day : Int) (w : World)  : Calls Try.prog 89 #[.agg #[.int .i64 d_Year, .int .i64 d_Month, .int .i64 d_Day]] w fun e w' => e = .returned (.bool ((I_IsDate (⟨d_Year, d_Month, d_Day⟩ : Date)))) ∧ Q w w' := by
  have hset := setRule
  have hall := allocRule
  have halm := allocMark
  have hw64 := wrapRule
  rcases Bool.eq_false_or_eq_true ((I_isMonth (⟨d_Year, d_Month, d_Day⟩ : Date).Year (⟨d_Year, d_Month, d_Day⟩ : Date).Month)) with hg | hg
  · try dsimp only at hg
    go_enter Try.func89, Try.ntmps89
    go_wp2_with (first | (go_at_call 119; refine (c_I_isMonth _ _ _ ).mono ?_; rintro e w1 ⟨rfl, rfl⟩) | (go_at_call 59; refine (c_I_in _ _ _ _ ).mono ?_; rintro e w1 ⟨rfl, rfl⟩) | (go_at_call 117; refine (c_I_daysInMonth _ _ _ ).mono ?_; rintro e w1 ⟨rfl, rfl⟩))
    all_goals try (
      refine region_Q_all (id := 1) (by kernel_rfl) (by kernel_rfl) ?_
      repeat (first | (apply q_step rfl; (intro wq hq; have hr := Q.rules hq; have hcq := hr.1; have hfq := hr.2; clear hr; have hsq := Q.le hq; (try simp at hsq); go_simp; (repeat (simp (disch := omega) only [if_pos, if_neg]; try go_simp)); (first | rfl | exact ⟨rfl, rfl⟩ | (go_at_call 119; exact quiet_same hq (c_I_isMonth _ _ _ )) | (go_at_call 59; exact quiet_same hq (c_I_in _ _ _ _ )) | (go_at_call 117; exact quiet_same hq (c_I_daysInMonth _ _ _ )))); try go_simp) | (apply q_skip rfl; try go_simp))
      refine wpQuiet_nil ?_
      intro w1 hq
      have hr := Q.rules hq; have hc := hr.1; have hf := hr.2; clear hr; have hs := Q.le hq; try simp at hs)
    all_goals try go_wp2_with (first | (go_at_call 119; refine (c_I_isMonth _ _ _ ).mono ?_; rintro e w1 ⟨rfl, rfl⟩) | (go_at_call 59; refine (c_I_in _ _ _ _ ).mono ?_; rintro e w1 ⟨rfl, rfl⟩) | (go_at_call 117; refine (c_I_daysInMonth _ _ _ ).mono ?_; rintro e w1 ⟨rfl, rfl⟩))
    all_goals go_ret
    all_goals refine ⟨?_, (by (repeat (first | (with_reducible exact Q.refl _) | (with_reducible assumption) | (with_reducible refine Q.setCell ?_ (by dsimp only; omega) _) | (with_reducible refine Q.alloc ?_ _) | (with_reducible refine Q.drew ?_) | (with_reducible refine Q.call ?_ (by with_reducible assumption)))))⟩
    all_goals first | (simp [I_IsDate, *]; done) | (simp [I_IsDate, *]; omega) | (simp [I_IsDate, *]; simp (disch := omega) only [if_pos, if_neg]; done) | (simp_all [I_IsDate]; done) | (simp_all [I_IsDate]; omega)
  · try dsimp only at hg
    go_enter Try.func89, Try.ntmps89
    go_wp2_with (first | (go_at_call 119; refine (c_I_isMonth _ _ _ ).mono ?_; rintro e w1 ⟨rfl, rfl⟩) | (go_at_call 59; refine (c_I_in _ _ _ _ ).mono ?_; rintro e w1 ⟨rfl, rfl⟩) | (go_at_call 117; refine (c_I_daysInMonth _ _ _ ).mono ?_; rintro e w1 ⟨rfl, rfl⟩))
    all_goals try (
      refine region_Q_all (id := 1) (by kernel_rfl) (by kernel_rfl) ?_
      repeat (first | (apply q_step rfl; (intro wq hq; have hr := Q.rules hq; have hcq := hr.1; have hfq := hr.2; clear hr; have hsq := Q.le hq; (try simp at hsq); go_simp; (repeat (simp (disch := omega) only [if_pos, if_neg]; try go_simp)); (first | rfl | exact ⟨rfl, rfl⟩ | (go_at_call 119; exact quiet_same hq (c_I_isMonth _ _ _ )) | (go_at_call 59; exact quiet_same hq (c_I_in _ _ _ _ )) | (go_at_call 117; exact quiet_same hq (c_I_daysInMonth _ _ _ )))); try go_simp) | (apply q_skip rfl; try go_simp))
      refine wpQuiet_nil ?_
      intro w1 hq
      have hr := Q.rules hq; have hc := hr.1; have hf := hr.2; clear hr; have hs := Q.le hq; try simp at hs)
    all_goals try go_wp2_with (first | (go_at_call 119; refine (c_I_isMonth _ _ _ ).mono ?_; rintro e w1 ⟨rfl, rfl⟩) | (go_at_call 59; refine (c_I_in _ _ _ _ ).mono ?_; rintro e w1 ⟨rfl, rfl⟩) | (go_at_call 117; refine (c_I_daysInMonth _ _ _ ).mono ?_; rintro e w1 ⟨rfl, rfl⟩))
    all_goals go_ret
    all_goals refine ⟨?_, (by (repeat (first | (with_reducible exact Q.refl _) | (with_reducible assumption) | (with_reducible refine Q.setCell ?_ (by dsimp only; omega) _) | (with_reducible refine Q.alloc ?_ _) | (with_reducible refine Q.drew ?_) | (with_reducible refine Q.call ?_ (by with_reducible assumption)))))⟩
    all_goals first | (simp [I_IsDate, *]; done) | (simp [I_IsDate, *]; omega) | (simp [I_IsDate, *]; simp (disch := omega) only [if_pos, if_neg]; done) | (simp_all [I_IsDate]; done) | (simp_all [I_IsDate]; omega)

end Go.Proofs.Ytlckpdagejbchaa
