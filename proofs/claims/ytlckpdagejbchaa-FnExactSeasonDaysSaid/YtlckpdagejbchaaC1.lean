/- Contracts of Go functions of the plain fragment, with their walks; printed by a program of the author's own. -/
import Derived.Test.YtlckpdagejbchaaRows
import Derived.Test.YtlckpdagejbchaaDefs
import Derived.Test.YtlckpdagejbchaaQ
import Derived.Test.YtlckpdagejbchaaFresh
import Derived.Test.YtlckpdagejbchaaM2
import Derived.WalkKit
import Derived.ProofKit
import Derived.OpenShut
import Derived.WalkLawsBesides
import Derived.BigQuiet
import Derived.Deep.QuietTactic
import Derived.Deep.LoopGhost
import Derived.LoopN
namespace Go.Proofs.Ytlckpdagejbchaa
open Go.ChangeShapes Go.WideShapes Go.ChangeAt Go.RowKit
set_option linter.unusedVariables false
set_option linter.unusedSimpArgs false
theorem c_S_l01In (n : Int) (low : Int) (high : Int) (w : World)  : Calls Try.prog 57 #[.int .i64 n, .int .i64 low, .int .i64 high] w fun e w' => e = .returned (.bool ((S_l01In n low high))) ∧ w = w' := by
  have hw64 := wrapRule
  go_enter Try.func57, Try.ntmps57
  go_wp2
  all_goals go_ret
  all_goals refine ⟨?_, rfl⟩
  all_goals first | (simp [S_l01In, *]; done) | (simp [S_l01In, *]; omega) | (simp [S_l01In, *]; simp (disch := omega) only [if_pos, if_neg]; done) | (simp_all [S_l01In]; done) | (simp_all [S_l01In]; omega)

theorem c_S_l01Floor (a : Int) (b : Int) (w : World) (hz0 : 0 < b) : Calls Try.prog 91 #[.int .i64 a, .int .i64 b] w fun e w' => e = .returned (.int .i64 ((S_l01Floor a b))) ∧ w = w' := by
  have hw64 := wrapRule
  have hbf : (b < 0) = False := eq_false (by omega)
  have hbz : (b = 0) = False := eq_false (by omega)
  go_enter Try.func91, Try.ntmps91
  go_wp2
  all_goals go_ret
  all_goals refine ⟨?_, rfl⟩
  all_goals first | (simp [S_l01Floor, *]; done) | (simp [S_l01Floor, *]; omega) | (simp [S_l01Floor, *]; simp (disch := omega) only [if_pos, if_neg]; done) | (simp_all [S_l01Floor]; done) | (simp_all [S_l01Floor]; omega)

theorem c_S_l01Ceil (a : Int) (b : Int) (w : World) (hz0 : 0 < b) : Calls Try.prog 108 #[.int .i64 a, .int .i64 b] w fun e w' => e = .returned (.int .i64 ((S_l01Ceil a b))) ∧ w = w' := by
  have hw64 := wrapRule
  have hbf : (b < 0) = False := eq_false (by omega)
  have hbz : (b = 0) = False := eq_false (by omega)
  go_enter Try.func108, Try.ntmps108
  go_wp2_with (first | (go_at_call 91; refine (c_S_l01Floor _ _ _ (by first | assumption | decide | omega | (unfold wrap64; omega))).mono ?_; rintro e w1 ⟨rfl, rfl⟩))
  all_goals go_ret
  all_goals refine ⟨?_, rfl⟩
  all_goals first | (simp [S_l01Ceil, *]; done) | (simp [S_l01Ceil, *]; omega) | (simp [S_l01Ceil, *]; simp (disch := omega) only [if_pos, if_neg]; done) | (simp_all [S_l01Ceil]; done) | (simp_all [S_l01Ceil]; omega)

theorem c_S_l07Year (year : Int) (w : World)  : Calls Try.prog 77 #[.int .i64 year] w fun e w' => e = .returned (.int .i64 ((S_l07Year year))) ∧ w = w' := by
  have hw64 := wrapRule
  go_enter Try.func77, Try.ntmps77
  go_wp2_with (first | (go_at_call 108; refine (c_S_l01Ceil _ _ _ (by first | assumption | decide | omega | (unfold wrap64; omega))).mono ?_; rintro e w1 ⟨rfl, rfl⟩))
  all_goals go_ret
  all_goals refine ⟨?_, rfl⟩
  all_goals first | (simp [S_l07Year, *]; done) | (simp [S_l07Year, *]; omega) | (simp [S_l07Year, *]; simp (disch := omega) only [if_pos, if_neg]; done) | (simp_all [S_l07Year]; done) | (simp_all [S_l07Year]; omega)

theorem c_S_l07Has (number : Int) (w : World)  : Calls Try.prog 53 #[.int .i64 number] w fun e w' => e = .returned (.bool ((S_l07Has number))) ∧ w = w' := by
  have hw64 := wrapRule
  go_enter Try.func53, Try.ntmps53
  go_wp2_with (first | (go_at_call 57; refine (c_S_l01In _ _ _ _ ).mono ?_; rintro e w1 ⟨rfl, rfl⟩) | (go_at_call 77; refine (c_S_l07Year _ _ ).mono ?_; rintro e w1 ⟨rfl, rfl⟩))
  all_goals go_ret
  all_goals refine ⟨?_, rfl⟩
  all_goals first | (simp [S_l07Has, *]; done) | (simp [S_l07Has, *]; omega) | (simp [S_l07Has, *]; simp (disch := omega) only [if_pos, if_neg]; done) | (simp_all [S_l07Has]; done) | (simp_all [S_l07Has]; omega)

theorem c_S_l01Mod (a : Int) (m : Int) (w : World) (hz0 : ¬ m = 0) : Calls Try.prog 100 #[.int .i64 a, .int .i64 m] w fun e w' => e = .returned (.int .i64 ((S_l01Mod a m))) ∧ w = w' := by
  have hw64 := wrapRule
  go_enter Try.func100, Try.ntmps100
  go_wp2
  all_goals go_ret
  all_goals refine ⟨?_, rfl⟩
  all_goals first | (simp [S_l01Mod, *]; done) | (simp [S_l01Mod, *]; omega) | (simp [S_l01Mod, *]; simp (disch := omega) only [if_pos, if_neg]; done) | (simp_all [S_l01Mod]; done) | (simp_all [S_l01Mod]; omega)

theorem c_S_l03Plain (a : Int) (w : World)  : Calls Try.prog 58 #[.int .i64 a] w fun e w' => e = .returned (.int .i64 ((S_l03Plain a))) ∧ w = w' := by
  have hw64 := wrapRule
  go_enter Try.func58, Try.ntmps58
  go_wp2_with (first | (go_at_call 100; refine (c_S_l01Mod _ _ _ (by first | assumption | decide | omega | (unfold wrap64; omega))).mono ?_; rintro e w1 ⟨rfl, rfl⟩))
  all_goals go_ret
  all_goals refine ⟨?_, rfl⟩
  all_goals first | (simp [S_l03Plain, *]; done) | (simp [S_l03Plain, *]; omega) | (simp [S_l03Plain, *]; simp (disch := omega) only [if_pos, if_neg]; done) | (simp_all [S_l03Plain]; done) | (simp_all [S_l03Plain]; omega)

theorem c_S_l08Mean (n : Int) (w : World)  : Calls Try.prog 92 #[.int .i64 n] w fun e w' => e = .returned (.int .i64 ((S_l08Mean n))) ∧ w = w' := by
  have hw64 := wrapRule
  go_enter Try.func92, Try.ntmps92
  go_wp2_with (first | (go_at_call 58; refine (c_S_l03Plain _ _ ).mono ?_; rintro e w1 ⟨rfl, rfl⟩) | (go_at_call 91; refine (c_S_l01Floor _ _ _ (by first | assumption | decide | omega | (unfold wrap64; omega))).mono ?_; rintro e w1 ⟨rfl, rfl⟩))
  all_goals go_ret
  all_goals refine ⟨?_, rfl⟩
  all_goals first | (simp [S_l08Mean, *]; done) | (simp [S_l08Mean, *]; omega) | (simp [S_l08Mean, *]; simp (disch := omega) only [if_pos, if_neg]; done) | (simp_all [S_l08Mean]; done) | (simp_all [S_l08Mean]; omega)

theorem c_S_l01Nearest (a : Int) (b : Int) (w : World) (hz0 : 0 < b) (hz1 : b ≤ 4611686018427387903) : Calls Try.prog 93 #[.int .i64 a, .int .i64 b] w fun e w' => e = .returned (.int .i64 ((S_l01Nearest a b))) ∧ w = w' := by
  have hw64 := wrapRule
  have hbf : (b < 0) = False := eq_false (by omega)
  have hbz : (b = 0) = False := eq_false (by omega)
  go_enter Try.func93, Try.ntmps93
  go_wp2_with (first | (go_at_call 91; refine (c_S_l01Floor _ _ _ (by first | assumption | decide | omega | (unfold wrap64; omega))).mono ?_; rintro e w1 ⟨rfl, rfl⟩))
  all_goals go_ret
  all_goals refine ⟨?_, rfl⟩
  all_goals first | (simp [S_l01Nearest, *]; done) | (simp [S_l01Nearest, *]; omega) | (simp [S_l01Nearest, *]; simp (disch := omega) only [if_pos, if_neg]; done) | (simp_all [S_l01Nearest]; done) | (simp_all [S_l01Nearest]; omega)

theorem c_S_l04Arc (r : Int) (w : World)  : Calls Try.prog 128 #[.int .i64 r] w fun e w' => e = .returned (.tuple #[.int .i64 ((S_l04Arc r).1), .int .i64 ((S_l04Arc r).2)]) ∧ w = w' := by
  have hw64 := wrapRule
  go_enter Try.func128, Try.ntmps128
  go_wp2
  all_goals go_ret2
  all_goals refine ⟨?_, rfl⟩
  all_goals first | (simp [S_l04Arc, *]; done) | (simp [S_l04Arc, *]; omega) | (simp [S_l04Arc, *]; simp (disch := omega) only [if_pos, if_neg]; done) | (simp_all [S_l04Arc]; done) | (simp_all [S_l04Arc]; omega)

theorem c_S_l04P (r : Int) (w : World)  : Calls Try.prog 120 #[.int .i64 r] w fun e w' => e = .returned (.int .i64 ((S_l04P r))) ∧ w = w' := by
  have hw64 := wrapRule
  go_enter Try.func120, Try.ntmps120
  go_wp2_with (first | (go_at_call 128; refine (c_S_l04Arc _ _ ).mono ?_; rintro e w1 ⟨rfl, rfl⟩))
  all_goals go_ret
  all_goals refine ⟨?_, rfl⟩
  all_goals first | (simp [S_l04P, *]; done) | (simp [S_l04P, *]; omega) | (simp [S_l04P, *]; simp (disch := omega) only [if_pos, if_neg]; done) | (simp_all [S_l04P]; done) | (simp_all [S_l04P]; omega)

theorem c_S_l04Q (r : Int) (w : World)  : Calls Try.prog 121 #[.int .i64 r] w fun e w' => e = .returned (.int .i64 ((S_l04Q r))) ∧ w = w' := by
  have hw64 := wrapRule
  go_enter Try.func121, Try.ntmps121
  go_wp2_with (first | (go_at_call 128; refine (c_S_l04Arc _ _ ).mono ?_; rintro e w1 ⟨rfl, rfl⟩))
  all_goals go_ret
  all_goals refine ⟨?_, rfl⟩
  all_goals first | (simp [S_l04Q, *]; done) | (simp [S_l04Q, *]; omega) | (simp [S_l04Q, *]; simp (disch := omega) only [if_pos, if_neg]; done) | (simp_all [S_l04Q]; done) | (simp_all [S_l04Q]; omega)

theorem c_S_l04Sine (a : Int) (w : World)  : Calls Try.prog 94 #[.int .i64 a] w fun e w' => e = .returned (.int .i64 ((S_l04Sine a))) ∧ w = w' := by
  have hw64 := wrapRule
  go_enter Try.func94, Try.ntmps94
  go_wp2_with (first | (go_at_call 58; refine (c_S_l03Plain _ _ ).mono ?_; rintro e w1 ⟨rfl, rfl⟩) | (go_at_call 120; refine (c_S_l04P _ _ ).mono ?_; rintro e w1 ⟨rfl, rfl⟩) | (go_at_call 121; refine (c_S_l04Q _ _ ).mono ?_; rintro e w1 ⟨rfl, rfl⟩))
  all_goals go_ret
  all_goals refine ⟨?_, rfl⟩
  all_goals first | (simp [S_l04Sine, *]; done) | (simp [S_l04Sine, *]; omega) | (simp [S_l04Sine, *]; simp (disch := omega) only [if_pos, if_neg]; done) | (simp_all [S_l04Sine]; done) | (simp_all [S_l04Sine]; omega)

theorem c_S_l08Longitude (n : Int) (w : World)  : Calls Try.prog 54 #[.int .i64 n] w fun e w' => e = .returned (.int .i64 ((S_l08Longitude n))) ∧ w = w' := by
  have hw64 := wrapRule
  go_enter Try.func54, Try.ntmps54
  go_wp2_with (first | (go_at_call 58; refine (c_S_l03Plain _ _ ).mono ?_; rintro e w1 ⟨rfl, rfl⟩) | (go_at_call 91; refine (c_S_l01Floor _ _ _ (by first | assumption | decide | omega | (unfold wrap64; omega))).mono ?_; rintro e w1 ⟨rfl, rfl⟩) | (go_at_call 92; refine (c_S_l08Mean _ _ ).mono ?_; rintro e w1 ⟨rfl, rfl⟩) | (go_at_call 93; refine (c_S_l01Nearest _ _ _ (by first | assumption | decide | omega | (unfold wrap64; omega)) (by first | assumption | decide | omega | (unfold wrap64; omega))).mono ?_; rintro e w1 ⟨rfl, rfl⟩) | (go_at_call 94; refine (c_S_l04Sine _ _ ).mono ?_; rintro e w1 ⟨rfl, rfl⟩))
  all_goals go_ret
  all_goals refine ⟨?_, rfl⟩
  all_goals first | (simp [S_l08Longitude, *]; done) | (simp [S_l08Longitude, *]; omega) | (simp [S_l08Longitude, *]; simp (disch := omega) only [if_pos, if_neg]; done) | (simp_all [S_l08Longitude]; done) | (simp_all [S_l08Longitude]; omega)

theorem c_S_SunLongitude (n : Int) (w : World)  : Calls Try.prog 15 #[.int .i64 n] w fun e w' => e = .returned (.tuple #[.int .i64 ((S_SunLongitude n).1), .int .i64 ((S_SunLongitude n).2)]) ∧ w = w' := by
  have hw64 := wrapRule
  go_enter Try.func15, Try.ntmps15
  go_wp2_with (first | (go_at_call 53; refine (c_S_l07Has _ _ ).mono ?_; rintro e w1 ⟨rfl, rfl⟩) | (go_at_call 54; refine (c_S_l08Longitude _ _ ).mono ?_; rintro e w1 ⟨rfl, rfl⟩))
  all_goals go_ret2
  all_goals refine ⟨?_, rfl⟩
  all_goals first | (simp [S_SunLongitude, *]; done) | (simp [S_SunLongitude, *]; omega) | (simp [S_SunLongitude, *]; simp (disch := omega) only [if_pos, if_neg]; done) | (simp_all [S_SunLongitude]; done) | (simp_all [S_SunLongitude]; omega)

theorem c_I_in (n : Int) (low : Int) (high : Int) (w : World)  : Calls Try.prog 59 #[.int .i64 n, .int .i64 low, .int .i64 high] w fun e w' => e = .returned (.bool ((I_in n low high))) ∧ w = w' := by
  have hw64 := wrapRule
  go_enter Try.func59, Try.ntmps59
  go_wp2
  all_goals go_ret
  all_goals refine ⟨?_, rfl⟩
  all_goals first | (simp [I_in, *]; done) | (simp [I_in, *]; omega) | (simp [I_in, *]; simp (disch := omega) only [if_pos, if_neg]; done) | (simp_all [I_in]; done) | (simp_all [I_in]; omega)

theorem c_I_daysInMonth (year : Int) (month : Int) (w : World)  : Calls Try.prog 117 #[.int .i64 year, .int .i64 month] w fun e w' => e = .returned (.int .i64 ((I_daysInMonth year month))) ∧ w = w' := by
  have hw64 := wrapRule
  go_enter Try.func117, Try.ntmps117
  go_wp2
  all_goals go_ret
  all_goals refine ⟨?_, rfl⟩
  all_goals first | (simp [I_daysInMonth, *]; done) | (simp [I_daysInMonth, *]; omega) | (simp [I_daysInMonth, *]; simp (disch := omega) only [if_pos, if_neg]; done) | (simp_all [I_daysInMonth]; done) | (simp_all [I_daysInMonth]; omega)

theorem c_I_dayNumber (d_Year : Int) (d_Month : Int) (d_Day : Int) (w : World) (hm : d_Month ≤ 9223372036854775807) : Calls Try.prog 78 #[.agg #[.int .i64 d_Year, .int .i64 d_Month, .int .i64 d_Day]] w fun e w' => e = .returned (.int .i64 (I_dayNumber ⟨d_Year, d_Month, d_Day⟩)) ∧ Q w w' := by
  have hset := setRule
  have hall := allocRule
  have halm := allocMark
  have hw64 := wrapRule
  go_enter Try.func78, Try.ntmps78
  go_wp2_with (first | (go_at_call 117; refine (c_I_daysInMonth _ _ _ ).mono ?_; rintro e w1 ⟨rfl, rfl⟩))
  go_loop [4, 5] (fun n m => ∃ k : Nat, ((k : Int) < d_Month ∨ k = 0) ∧ m = .int .i64 ((k : Int) + 1) ∧ n = .int .i64 (daysAfter (I_daysInMonth d_Year) (wrap64 (wrap64 (wrap64 (wrap64 (-36159 + wrap64 (365 * wrap64 (d_Year - 1901))) + wrap64 (Int.tdiv (wrap64 (d_Year - 1901)) 4)) + d_Day) - 1)) k)) (fun _ m => (d_Month - intOf m).toNat)
  case atStart => exact ⟨0, .inr rfl, rfl, rfl⟩
  case round =>
    obtain ⟨k, hk, rfl, rfl⟩ := hrel
    by_cases hlt : (k : Int) + 1 < d_Month
    · have hw2 : wrap64 ((k : Int) + 1 + 1) = (k : Int) + 1 + 1 := w64 ⟨by omega, by omega⟩
      go_wp2_with (first | (go_at_call 117; refine (c_I_daysInMonth _ _ _ ).mono ?_; rintro e w1 ⟨rfl, rfl⟩))
      go_round
      case rel => exact ⟨k + 1, .inl (by omega), rfl, rfl⟩
      case measure => simp [intOf]; omega
    · go_wp2_with (first | (go_at_call 117; refine (c_I_daysInMonth _ _ _ ).mono ?_; rintro e w1 ⟨rfl, rfl⟩))
      go_ret
      refine ⟨?_, (by repeat (first | (with_reducible exact Q.refl _) | (with_reducible assumption) | (with_reducible refine Q.setCell ?_ (by dsimp only; omega) _) | (with_reducible refine Q.alloc ?_ _) | (with_reducible refine Q.drew ?_) | (with_reducible refine Q.call ?_ (by with_reducible assumption))))⟩
      have e : (d_Month - 1).toNat = k := by omega
      simp [I_dayNumber, e]


theorem c_I_isDayNumber (n : Int) (w : World)  : Calls Try.prog 55 #[.int .i64 n] w fun e w' => e = .returned (.bool ((I_isDayNumber n))) ∧ Q w w' := by
  have hset := setRule
  have hall := allocRule
  have halm := allocMark
  have hw64 := wrapRule
  go_enter Try.func55, Try.ntmps55
  go_wp2_with (first | (go_at_call 59; refine (c_I_in _ _ _ _ ).mono ?_; rintro e w1 ⟨rfl, rfl⟩) | (go_at_call 78; refine (c_I_dayNumber _ _ _ _ (by first | assumption | decide | omega | (unfold wrap64; omega) | exact (pre_month (by assumption)).1 | exact (pre_month (by assumption)).2.1 | exact (pre_month (by assumption)).2.2 | exact (pre_day (by assumption)).1 | exact (pre_day (by assumption)).2.1 | exact (pre_day (by assumption)).2.2 | exact (pre_dayI (by assumption)).1 | exact (pre_dayI (by assumption)).2.1 | exact (pre_dayI (by assumption)).2.2 | exact (pre_moment (by assumption)).1 | exact (pre_moment (by assumption)).2.1 | exact (pre_moment (by assumption)).2.2 | exact (pre_moment0 (by assumption)).1 | exact (pre_moment0 (by assumption)).2.1 | exact (pre_moment0 (by assumption)).2.2 | exact (pre_zone (by assumption)).1 | exact (pre_zone (by assumption)).2 | exact pre_date (by assumption) | exact nthWeekday_month (by assumption) | exact shift_month _ _ _ | exact later_month _ _)).mono ?_; rintro e w1 ⟨rfl, hq⟩; obtain ⟨hc, hf⟩ := hq.rules; have hs := hq.le; try simp at hs))
  all_goals go_ret
  all_goals refine ⟨?_, (by (repeat (first | (with_reducible exact Q.refl _) | (with_reducible assumption) | (with_reducible refine Q.setCell ?_ (by dsimp only; omega) _) | (with_reducible refine Q.alloc ?_ _) | (with_reducible refine Q.drew ?_) | (with_reducible refine Q.call ?_ (by with_reducible assumption)))))⟩
  all_goals first | (simp [I_isDayNumber, *]; done) | (simp [I_isDayNumber, *]; omega) | (simp [I_isDayNumber, *]; simp (disch := omega) only [if_pos, if_neg]; done) | (simp_all [I_isDayNumber]; done) | (simp_all [I_isDayNumber]; omega)

theorem c_I_floor (a : Int) (b : Int) (w : World) (hz0 : ¬ b = 0) : Calls Try.prog 96 #[.int .i64 a, .int .i64 b] w fun e w' => e = .returned (.int .i64 ((I_floor a b))) ∧ w = w' := by
  have hw64 := wrapRule
  go_enter Try.func96, Try.ntmps96
  go_wp2
  all_goals go_ret
  all_goals refine ⟨?_, rfl⟩
  all_goals first | (simp [I_floor, *]; done) | (simp [I_floor, *]; omega) | (simp [I_floor, *]; simp (disch := omega) only [if_pos, if_neg]; done) | (simp_all [I_floor]; done) | (simp_all [I_floor]; omega)

end Go.Proofs.Ytlckpdagejbchaa
