/- The statement Rows.FnExactMinutesWithSaid is proved: for every argument the law returns true and its arguments read as before. No conditions. -/
import Derived.Test.YthooejkmccdfjaaRows
import Derived.Test.YthooejkmccdfjaaLaw
import Derived.Test.YthooejkmccdfjaaC1
import Derived.Test.YthooejkmccdfjaaC2
import Derived.Test.YthooejkmccdfjaaC3
import Derived.Test.YthooejkmccdfjaaC4
import Derived.Test.YthooejkmccdfjaaC5
import Derived.Test.YthooejkmccdfjaaC6
import Derived.Test.YthooejkmccdfjaaE1
import Derived.Test.YthooejkmccdfjaaE2
import Derived.Test.YthooejkmccdfjaaE3
import Derived.Test.YthooejkmccdfjaaE6
import Derived.WalkKit
import Derived.ProofKit
import Derived.OpenShut
import Derived.WalkLawsBesides
import Derived.BigQuiet
import Derived.Deep.QuietTactic
import Derived.Deep.LoopGhost
import Derived.LoopN
import Derived.Deep.RegionWith
import Derived.Deep.CutRange
import Derived.Test.YthooejkmccdfjaaOwn
namespace Go.Proofs.Ythooejkmccdfjaa
open Go.ChangeShapes Go.WideShapes Go.ChangeAt Go.RowKit
set_option linter.unusedVariables false
set_option linter.unusedSimpArgs false
theorem Row.mfrozen {w : World} {g : Nat} {xs : List Value} (hr : Row w g xs) (k : Int) (n : Nat) : ∀ b o, (markAll w g k n).frozen? ⟨b, o, none⟩ = w.frozen? ⟨b, o, none⟩ := markAll_frozen w g k n
theorem Row.msize {w : World} {g : Nat} {xs : List Value} (hr : Row w g xs) (k : Int) (n : Nat) : (markAll w g k n).heap.size = w.heap.size := markAll_size w g k n
set_option maxHeartbeats 4000000 in
theorem c_S_MinutesWith_bad0 (d_Rise : Int) (d_Set : Int) (system : Int) (number : Int) (w : World) (h0 : (S_l12Code (⟨d_Rise, d_Set⟩ : Day) system number == 0) = false) : Calls Try.prog 38 #[.agg #[.int .i64 d_Rise, .int .i64 d_Set], .int .i64 system, .int .i64 number] w fun e w' => e = .returned (.tuple #[.slice none 0 0, .int .i64 (S_l12Code (⟨d_Rise, d_Set⟩ : Day) system number)]) ∧ Q w w' := by
  have hset := setRule
  have hall := allocRule
  have halm := allocMark
  have hw64 := wrapRule
  have hn0 : ((S_l12Code (⟨d_Rise, d_Set⟩ : Day) system number) != 0) = true := by simpa using h0
  go_enter Try.func38, Try.ntmps38
  go_wp2_with (first | (go_at_call 89; refine (c_S_l12Code _ _ _ _ _ ).mono ?_; rintro e w1 ⟨rfl, hq⟩; obtain ⟨hc, hf⟩ := hq.rules; have hs := hq.le; try simp at hs) | (go_at_call 93; refine (c_S_l12With _ _ _ _ _ (by first | assumption | decide | omega | (unfold wrap64; omega) | exact (pre_month (by assumption)).1 | exact (pre_month (by assumption)).2.1 | exact (pre_month (by assumption)).2.2 | exact (pre_day (by assumption)).1 | exact (pre_day (by assumption)).2.1 | exact (pre_day (by assumption)).2.2 | exact (pre_dayI (by assumption)).1 | exact (pre_dayI (by assumption)).2.1 | exact (pre_dayI (by assumption)).2.2 | exact (pre_moment (by assumption)).1 | exact (pre_moment (by assumption)).2.1 | exact (pre_moment (by assumption)).2.2 | exact (pre_moment0 (by assumption)).1 | exact (pre_moment0 (by assumption)).2.1 | exact (pre_moment0 (by assumption)).2.2 | exact (pre_zone (by assumption)).1 | exact (pre_zone (by assumption)).2 | exact pre_date (by assumption) | exact nthWeekday_month (by assumption) | exact shift_month _ _ _ | exact later_month _ _) (by first | assumption | decide | omega | (unfold wrap64; omega) | exact (pre_month (by assumption)).1 | exact (pre_month (by assumption)).2.1 | exact (pre_month (by assumption)).2.2 | exact (pre_day (by assumption)).1 | exact (pre_day (by assumption)).2.1 | exact (pre_day (by assumption)).2.2 | exact (pre_dayI (by assumption)).1 | exact (pre_dayI (by assumption)).2.1 | exact (pre_dayI (by assumption)).2.2 | exact (pre_moment (by assumption)).1 | exact (pre_moment (by assumption)).2.1 | exact (pre_moment (by assumption)).2.2 | exact (pre_moment0 (by assumption)).1 | exact (pre_moment0 (by assumption)).2.1 | exact (pre_moment0 (by assumption)).2.2 | exact (pre_zone (by assumption)).1 | exact (pre_zone (by assumption)).2 | exact pre_date (by assumption) | exact nthWeekday_month (by assumption) | exact shift_month _ _ _ | exact later_month _ _) (by first | assumption | decide | omega | (unfold wrap64; omega) | exact (pre_month (by assumption)).1 | exact (pre_month (by assumption)).2.1 | exact (pre_month (by assumption)).2.2 | exact (pre_day (by assumption)).1 | exact (pre_day (by assumption)).2.1 | exact (pre_day (by assumption)).2.2 | exact (pre_dayI (by assumption)).1 | exact (pre_dayI (by assumption)).2.1 | exact (pre_dayI (by assumption)).2.2 | exact (pre_moment (by assumption)).1 | exact (pre_moment (by assumption)).2.1 | exact (pre_moment (by assumption)).2.2 | exact (pre_moment0 (by assumption)).1 | exact (pre_moment0 (by assumption)).2.1 | exact (pre_moment0 (by assumption)).2.2 | exact (pre_zone (by assumption)).1 | exact (pre_zone (by assumption)).2 | exact pre_date (by assumption) | exact nthWeekday_month (by assumption) | exact shift_month _ _ _ | exact later_month _ _)).mono ?_; rintro e w1 ⟨g, cap, rfl, hq, hg0, hrow⟩; obtain ⟨hc, hf⟩ := hq.rules; have hs := hq.le; (try simp at hs)))
  all_goals go_ret2
  all_goals refine ⟨?_, (by repeat (first | (with_reducible exact Q.refl _) | (with_reducible assumption) | (with_reducible refine Q.setCell ?_ (by dsimp only; omega) _) | (with_reducible refine Q.alloc ?_ _) | (with_reducible refine Q.drew ?_) | (with_reducible refine Q.call ?_ (by with_reducible assumption))))⟩
  all_goals first | rfl | (simp [*]; done)
set_option maxHeartbeats 4000000 in
theorem c_S_MinutesWith_ok (d_Rise : Int) (d_Set : Int) (system : Int) (number : Int) (w : World) (h0 : (S_l12Code (⟨d_Rise, d_Set⟩ : Day) system number == 0) = true) : Calls Try.prog 38 #[.agg #[.int .i64 d_Rise, .int .i64 d_Set], .int .i64 system, .int .i64 number] w fun e w' => ∃ g cap, e = .returned (.tuple #[.slice (some ⟨g, 0, none⟩) (S_l12With (⟨d_Rise, d_Set⟩ : Day) system number).length cap, .int .i64 0]) ∧ Q w w' ∧ w.heap.size ≤ g ∧ Row w' g (ints (S_l12With (⟨d_Rise, d_Set⟩ : Day) system number)) := by
  have hset := setRule
  have hall := allocRule
  have halm := allocMark
  have hw64 := wrapRule
  have hn0 : ((S_l12Code (⟨d_Rise, d_Set⟩ : Day) system number) != 0) = false := by simpa using h0
  have hz0 : S_l12Code (⟨d_Rise, d_Set⟩ : Day) system number = 0 := by simpa using h0
  go_enter Try.func38, Try.ntmps38
  go_wp2_with (first | (go_at_call 89; refine (c_S_l12Code _ _ _ _ _ ).mono ?_; rintro e w1 ⟨rfl, hq⟩; obtain ⟨hc, hf⟩ := hq.rules; have hs := hq.le; try simp at hs) | (go_at_call 93; refine (c_S_l12With _ _ _ _ _ (by first | assumption | decide | omega | (unfold wrap64; omega) | exact (pre_month (by assumption)).1 | exact (pre_month (by assumption)).2.1 | exact (pre_month (by assumption)).2.2 | exact (pre_day (by assumption)).1 | exact (pre_day (by assumption)).2.1 | exact (pre_day (by assumption)).2.2 | exact (pre_dayI (by assumption)).1 | exact (pre_dayI (by assumption)).2.1 | exact (pre_dayI (by assumption)).2.2 | exact (pre_moment (by assumption)).1 | exact (pre_moment (by assumption)).2.1 | exact (pre_moment (by assumption)).2.2 | exact (pre_moment0 (by assumption)).1 | exact (pre_moment0 (by assumption)).2.1 | exact (pre_moment0 (by assumption)).2.2 | exact (pre_zone (by assumption)).1 | exact (pre_zone (by assumption)).2 | exact pre_date (by assumption) | exact nthWeekday_month (by assumption) | exact shift_month _ _ _ | exact later_month _ _) (by first | assumption | decide | omega | (unfold wrap64; omega) | exact (pre_month (by assumption)).1 | exact (pre_month (by assumption)).2.1 | exact (pre_month (by assumption)).2.2 | exact (pre_day (by assumption)).1 | exact (pre_day (by assumption)).2.1 | exact (pre_day (by assumption)).2.2 | exact (pre_dayI (by assumption)).1 | exact (pre_dayI (by assumption)).2.1 | exact (pre_dayI (by assumption)).2.2 | exact (pre_moment (by assumption)).1 | exact (pre_moment (by assumption)).2.1 | exact (pre_moment (by assumption)).2.2 | exact (pre_moment0 (by assumption)).1 | exact (pre_moment0 (by assumption)).2.1 | exact (pre_moment0 (by assumption)).2.2 | exact (pre_zone (by assumption)).1 | exact (pre_zone (by assumption)).2 | exact pre_date (by assumption) | exact nthWeekday_month (by assumption) | exact shift_month _ _ _ | exact later_month _ _) (by first | assumption | decide | omega | (unfold wrap64; omega) | exact (pre_month (by assumption)).1 | exact (pre_month (by assumption)).2.1 | exact (pre_month (by assumption)).2.2 | exact (pre_day (by assumption)).1 | exact (pre_day (by assumption)).2.1 | exact (pre_day (by assumption)).2.2 | exact (pre_dayI (by assumption)).1 | exact (pre_dayI (by assumption)).2.1 | exact (pre_dayI (by assumption)).2.2 | exact (pre_moment (by assumption)).1 | exact (pre_moment (by assumption)).2.1 | exact (pre_moment (by assumption)).2.2 | exact (pre_moment0 (by assumption)).1 | exact (pre_moment0 (by assumption)).2.1 | exact (pre_moment0 (by assumption)).2.2 | exact (pre_zone (by assumption)).1 | exact (pre_zone (by assumption)).2 | exact pre_date (by assumption) | exact nthWeekday_month (by assumption) | exact shift_month _ _ _ | exact later_month _ _)).mono ?_; rintro e w1 ⟨g, cap, rfl, hq, hg0, hrow⟩; obtain ⟨hc, hf⟩ := hq.rules; have hs := hq.le; (try simp at hs)))
  all_goals go_ret2
  all_goals refine ⟨g, _, rfl, (by repeat (first | (with_reducible exact Q.refl _) | (with_reducible assumption) | (with_reducible refine Q.setCell ?_ (by dsimp only; omega) _) | (with_reducible refine Q.alloc ?_ _) | (with_reducible refine Q.drew ?_) | (with_reducible refine Q.call ?_ (by with_reducible assumption)))), by omega, hrow⟩
set_option maxHeartbeats 4000000 in
theorem c_I_MinutesWith_bad0 (d_Rise : Int) (d_Set : Int) (system : Int) (number : Int) (w : World) (h0 : (I_counted (⟨d_Rise, d_Set⟩ : Day) number [system] == 0) = false) : Calls Try.prog 39 #[.agg #[.int .i64 d_Rise, .int .i64 d_Set], .int .i64 system, .int .i64 number] w fun e w' => e = .returned (.tuple #[.slice none 0 0, .int .i64 (I_counted (⟨d_Rise, d_Set⟩ : Day) number [system])]) ∧ Q w w' := by
  have hset := setRule
  have hall := allocRule
  have halm := allocMark
  have hw64 := wrapRule
  have hn0 : ((I_counted (⟨d_Rise, d_Set⟩ : Day) number [system]) != 0) = true := by simpa using h0
  go_enter Try.func39, Try.ntmps39
  go_wp2_with (first | (go_at_call 91; refine (c_I_counted1 _ _ _ _ _ _ (by first | omega | (go_simp; done) | (go_simp; omega) | (simp; omega)) (by (try go_simp); (repeat (simp (disch := omega) only [if_pos, if_neg]; try go_simp)); first | done | rfl | (intro hx; exfalso; omega) | (simp [*]; done))).mono ?_; rintro e w1 ⟨rfl, hq⟩; obtain ⟨hc, hf⟩ := hq.rules; have hs := hq.le; try simp at hs) | (go_at_call 94; refine (c_I_Day_minutesWith _ _ _ _ _ (by first | assumption | decide | omega | (unfold wrap64; omega) | exact (pre_month (by assumption)).1 | exact (pre_month (by assumption)).2.1 | exact (pre_month (by assumption)).2.2 | exact (pre_day (by assumption)).1 | exact (pre_day (by assumption)).2.1 | exact (pre_day (by assumption)).2.2 | exact (pre_dayI (by assumption)).1 | exact (pre_dayI (by assumption)).2.1 | exact (pre_dayI (by assumption)).2.2 | exact (pre_moment (by assumption)).1 | exact (pre_moment (by assumption)).2.1 | exact (pre_moment (by assumption)).2.2 | exact (pre_moment0 (by assumption)).1 | exact (pre_moment0 (by assumption)).2.1 | exact (pre_moment0 (by assumption)).2.2 | exact (pre_zone (by assumption)).1 | exact (pre_zone (by assumption)).2 | exact pre_date (by assumption) | exact nthWeekday_month (by assumption) | exact shift_month _ _ _ | exact later_month _ _) (by first | assumption | decide | omega | (unfold wrap64; omega) | exact (pre_month (by assumption)).1 | exact (pre_month (by assumption)).2.1 | exact (pre_month (by assumption)).2.2 | exact (pre_day (by assumption)).1 | exact (pre_day (by assumption)).2.1 | exact (pre_day (by assumption)).2.2 | exact (pre_dayI (by assumption)).1 | exact (pre_dayI (by assumption)).2.1 | exact (pre_dayI (by assumption)).2.2 | exact (pre_moment (by assumption)).1 | exact (pre_moment (by assumption)).2.1 | exact (pre_moment (by assumption)).2.2 | exact (pre_moment0 (by assumption)).1 | exact (pre_moment0 (by assumption)).2.1 | exact (pre_moment0 (by assumption)).2.2 | exact (pre_zone (by assumption)).1 | exact (pre_zone (by assumption)).2 | exact pre_date (by assumption) | exact nthWeekday_month (by assumption) | exact shift_month _ _ _ | exact later_month _ _) (by first | assumption | decide | omega | (unfold wrap64; omega) | exact (pre_month (by assumption)).1 | exact (pre_month (by assumption)).2.1 | exact (pre_month (by assumption)).2.2 | exact (pre_day (by assumption)).1 | exact (pre_day (by assumption)).2.1 | exact (pre_day (by assumption)).2.2 | exact (pre_dayI (by assumption)).1 | exact (pre_dayI (by assumption)).2.1 | exact (pre_dayI (by assumption)).2.2 | exact (pre_moment (by assumption)).1 | exact (pre_moment (by assumption)).2.1 | exact (pre_moment (by assumption)).2.2 | exact (pre_moment0 (by assumption)).1 | exact (pre_moment0 (by assumption)).2.1 | exact (pre_moment0 (by assumption)).2.2 | exact (pre_zone (by assumption)).1 | exact (pre_zone (by assumption)).2 | exact pre_date (by assumption) | exact nthWeekday_month (by assumption) | exact shift_month _ _ _ | exact later_month _ _)).mono ?_; rintro e w1 ⟨g, cap, rfl, hq, hg0, hrow⟩; obtain ⟨hc, hf⟩ := hq.rules; have hs := hq.le; (try simp at hs)))
  all_goals go_ret2
  all_goals refine ⟨?_, (by repeat (first | (with_reducible exact Q.refl _) | (with_reducible assumption) | (with_reducible refine Q.setCell ?_ (by dsimp only; omega) _) | (with_reducible refine Q.alloc ?_ _) | (with_reducible refine Q.drew ?_) | (with_reducible refine Q.call ?_ (by with_reducible assumption))))⟩
  all_goals first | rfl | (simp [*]; done)
theorem c_I_MinutesWith_asbad0 (d_Rise : Int) (d_Set : Int) (system : Int) (number : Int) (w : World) (h0 : (I_counted (⟨d_Rise, d_Set⟩ : Day) number [system] == 0) = false) : Calls Try.prog 39 #[.agg #[.int .i64 d_Rise, .int .i64 d_Set], .int .i64 system, .int .i64 number] w fun e w' => e = .returned (.tuple #[.slice none 0 0, .int .i64 (S_l12Code (⟨d_Rise, d_Set⟩ : Day) system number)]) ∧ Q w w' := by
  have hr : I_counted (⟨d_Rise, d_Set⟩ : Day) number [system] = S_l12Code (⟨d_Rise, d_Set⟩ : Day) system number := eq_counted _ _ _
  rw [← hr]
  exact c_I_MinutesWith_bad0 d_Rise d_Set system number w h0
set_option maxHeartbeats 4000000 in
theorem c_I_MinutesWith_ok (d_Rise : Int) (d_Set : Int) (system : Int) (number : Int) (w : World) (h0 : (I_counted (⟨d_Rise, d_Set⟩ : Day) number [system] == 0) = true) : Calls Try.prog 39 #[.agg #[.int .i64 d_Rise, .int .i64 d_Set], .int .i64 system, .int .i64 number] w fun e w' => ∃ g cap, e = .returned (.tuple #[.slice (some ⟨g, 0, none⟩) (I_Day_minutesWith (⟨d_Rise, d_Set⟩ : Day) system number).length cap, .int .i64 0]) ∧ Q w w' ∧ w.heap.size ≤ g ∧ Row w' g (ints (I_Day_minutesWith (⟨d_Rise, d_Set⟩ : Day) system number)) := by
  have hset := setRule
  have hall := allocRule
  have halm := allocMark
  have hw64 := wrapRule
  have hn0 : ((I_counted (⟨d_Rise, d_Set⟩ : Day) number [system]) != 0) = false := by simpa using h0
  have hz0 : I_counted (⟨d_Rise, d_Set⟩ : Day) number [system] = 0 := by simpa using h0
  go_enter Try.func39, Try.ntmps39
  go_wp2_with (first | (go_at_call 91; refine (c_I_counted1 _ _ _ _ _ _ (by first | omega | (go_simp; done) | (go_simp; omega) | (simp; omega)) (by (try go_simp); (repeat (simp (disch := omega) only [if_pos, if_neg]; try go_simp)); first | done | rfl | (intro hx; exfalso; omega) | (simp [*]; done))).mono ?_; rintro e w1 ⟨rfl, hq⟩; obtain ⟨hc, hf⟩ := hq.rules; have hs := hq.le; try simp at hs) | (go_at_call 94; refine (c_I_Day_minutesWith _ _ _ _ _ (by first | assumption | decide | omega | (unfold wrap64; omega) | exact (pre_month (by assumption)).1 | exact (pre_month (by assumption)).2.1 | exact (pre_month (by assumption)).2.2 | exact (pre_day (by assumption)).1 | exact (pre_day (by assumption)).2.1 | exact (pre_day (by assumption)).2.2 | exact (pre_dayI (by assumption)).1 | exact (pre_dayI (by assumption)).2.1 | exact (pre_dayI (by assumption)).2.2 | exact (pre_moment (by assumption)).1 | exact (pre_moment (by assumption)).2.1 | exact (pre_moment (by assumption)).2.2 | exact (pre_moment0 (by assumption)).1 | exact (pre_moment0 (by assumption)).2.1 | exact (pre_moment0 (by assumption)).2.2 | exact (pre_zone (by assumption)).1 | exact (pre_zone (by assumption)).2 | exact pre_date (by assumption) | exact nthWeekday_month (by assumption) | exact shift_month _ _ _ | exact later_month _ _) (by first | assumption | decide | omega | (unfold wrap64; omega) | exact (pre_month (by assumption)).1 | exact (pre_month (by assumption)).2.1 | exact (pre_month (by assumption)).2.2 | exact (pre_day (by assumption)).1 | exact (pre_day (by assumption)).2.1 | exact (pre_day (by assumption)).2.2 | exact (pre_dayI (by assumption)).1 | exact (pre_dayI (by assumption)).2.1 | exact (pre_dayI (by assumption)).2.2 | exact (pre_moment (by assumption)).1 | exact (pre_moment (by assumption)).2.1 | exact (pre_moment (by assumption)).2.2 | exact (pre_moment0 (by assumption)).1 | exact (pre_moment0 (by assumption)).2.1 | exact (pre_moment0 (by assumption)).2.2 | exact (pre_zone (by assumption)).1 | exact (pre_zone (by assumption)).2 | exact pre_date (by assumption) | exact nthWeekday_month (by assumption) | exact shift_month _ _ _ | exact later_month _ _) (by first | assumption | decide | omega | (unfold wrap64; omega) | exact (pre_month (by assumption)).1 | exact (pre_month (by assumption)).2.1 | exact (pre_month (by assumption)).2.2 | exact (pre_day (by assumption)).1 | exact (pre_day (by assumption)).2.1 | exact (pre_day (by assumption)).2.2 | exact (pre_dayI (by assumption)).1 | exact (pre_dayI (by assumption)).2.1 | exact (pre_dayI (by assumption)).2.2 | exact (pre_moment (by assumption)).1 | exact (pre_moment (by assumption)).2.1 | exact (pre_moment (by assumption)).2.2 | exact (pre_moment0 (by assumption)).1 | exact (pre_moment0 (by assumption)).2.1 | exact (pre_moment0 (by assumption)).2.2 | exact (pre_zone (by assumption)).1 | exact (pre_zone (by assumption)).2 | exact pre_date (by assumption) | exact nthWeekday_month (by assumption) | exact shift_month _ _ _ | exact later_month _ _)).mono ?_; rintro e w1 ⟨g, cap, rfl, hq, hg0, hrow⟩; obtain ⟨hc, hf⟩ := hq.rules; have hs := hq.le; (try simp at hs)))
  all_goals go_ret2
  all_goals refine ⟨g, _, rfl, (by repeat (first | (with_reducible exact Q.refl _) | (with_reducible assumption) | (with_reducible refine Q.setCell ?_ (by dsimp only; omega) _) | (with_reducible refine Q.alloc ?_ _) | (with_reducible refine Q.drew ?_) | (with_reducible refine Q.call ?_ (by with_reducible assumption)))), by omega, hrow⟩
theorem c_I_MinutesWith_as (d_Rise : Int) (d_Set : Int) (system : Int) (number : Int) (w : World) (h0 : (S_l12Code (⟨d_Rise, d_Set⟩ : Day) system number == 0) = true) : Calls Try.prog 39 #[.agg #[.int .i64 d_Rise, .int .i64 d_Set], .int .i64 system, .int .i64 number] w fun e w' => ∃ g cap, e = .returned (.tuple #[.slice (some ⟨g, 0, none⟩) (S_l12With (⟨d_Rise, d_Set⟩ : Day) system number).length cap, .int .i64 0]) ∧ Q w w' ∧ w.heap.size ≤ g ∧ Row w' g (ints (S_l12With (⟨d_Rise, d_Set⟩ : Day) system number)) := by
  have g0 : (I_counted (⟨d_Rise, d_Set⟩ : Day) number [system] == 0) = true := (by rw [eq_counted]; exact h0)
  have hr : I_Day_minutesWith (⟨d_Rise, d_Set⟩ : Day) system number = S_l12With (⟨d_Rise, d_Set⟩ : Day) system number := by
    have hc : S_l12Code (⟨d_Rise, d_Set⟩ : Day) system number = 0 := by simpa using h0
    exact eq_with hc
  rw [← hr]
  exact c_I_MinutesWith_ok d_Rise d_Set system number w g0
set_option maxHeartbeats 8000000 in
theorem walk_FnExactMinutesWith (aD_Rise : Int) (aD_Set : Int) (aSystem : Int) (aNumber : Int) (w : World) : Calls Try.prog 9 #[.agg #[.int .i64 aD_Rise, .int .i64 aD_Set], .int .i64 aSystem, .int .i64 aNumber] w fun e w' => e = .returned (.bool true) ∧ Q w w' := by
  have hset := setRule
  have hall := allocRule
  have halm := allocMark
  have hw64 := wrapRule
  have hlen : (S_l12With (⟨aD_Rise, aD_Set⟩ : Day) aSystem aNumber).length ≤ 100000 := with_length _ _ _
  have hneg : ((1 : Int) + ((S_l12With (⟨aD_Rise, aD_Set⟩ : Day) aSystem aNumber).length : Int) < 0) = False := eq_false (by omega)
  have hto_L_toDay := L_toDay_rule
  rcases Bool.eq_false_or_eq_true ((S_l12Code (⟨aD_Rise, aD_Set⟩ : Day) aSystem aNumber == 0)) with h0 | h0
  · skip
    go_enter Try.func9, Try.ntmps9
    go_wp2_with (first | (go_at_call 36; refine (c_L_toDay _ _ _ ).mono ?_; rintro e w1 ⟨rfl, hq⟩; obtain ⟨hc, hf⟩ := hq.rules; have hs := hq.le; (try simp only [markAll_size] at hs); (try simp at hs); (try have rS := rS.call hq); (try have rI := rI.call hq); (try have rM := rM.call hq); (try have rH := rH.call hq)) | (go_at_call 38; refine (c_S_MinutesWith_ok _ _ _ _ _ h0).mono ?_; rintro e w1 ⟨gS, capS, rfl, hq, hgS, hrow⟩; obtain ⟨hc, hf⟩ := hq.rules; have hs := hq.le; (try simp only [markAll_size] at hs); (try simp at hs); (try have rS := rS.call hq); (try have rI := rI.call hq); (try have rM := rM.call hq); (try have rH := rH.call hq); have rS := hrow; have hltS := hrow.1) | (go_at_call 39; have hdone := rM; refine (c_I_MinutesWith_as _ _ _ _ _ h0).mono ?_; rintro e w1 ⟨gH, capH, rfl, hq, hgH, hrow⟩; obtain ⟨hc, hf⟩ := hq.rules; have hs := hq.le; (try simp only [markAll_size] at hs); (try simp at hs); (try have rS := rS.call hq); (try have rI := rI.call hq); (try have rM := rM.call hq); (try have rH := rH.call hq); have rH := hrow; have hltH := hrow.1) | (go_at_call 39; refine (c_I_MinutesWith_as _ _ _ _ _ h0).mono ?_; rintro e w1 ⟨gI, capI, rfl, hq, hgI, hrow⟩; obtain ⟨hc, hf⟩ := hq.rules; have hs := hq.le; (try simp only [markAll_size] at hs); (try simp at hs); (try have rS := rS.call hq); (try have rI := rI.call hq); (try have rM := rM.call hq); (try have rH := rH.call hq); have rI := hrow; have hltI := hrow.1; have hne : gS ≠ gI := by omega) | (go_at_call 40; refine (c_L_eqInt64S_same _ _ _ _ _ _ hlen rH rS).mono ?_; rintro e w1 ⟨rfl, hq⟩; obtain ⟨hc, hf⟩ := hq.rules; have hs := hq.le; (try simp only [markAll_size] at hs); (try simp at hs); (try have rS := rS.call hq); (try have rI := rI.call hq); (try have rM := rM.call hq); (try have rH := rH.call hq)) | (go_at_call 40; refine (c_L_eqInt64S_same _ _ _ _ _ _ hlen rI rS).mono ?_; rintro e w1 ⟨rfl, hq⟩; obtain ⟨hc, hf⟩ := hq.rules; have hs := hq.le; (try simp only [markAll_size] at hs); (try simp at hs); (try have rS := rS.call hq); (try have rI := rI.call hq); (try have rM := rM.call hq); (try have rH := rH.call hq)) | (go_at_call 41; refine (c_L_markInt64S_n _ _ _ _ hlen rI).mono ?_; rintro e w1 ⟨rfl, rfl⟩; have hmc := markAll_cell rI 1 (S_l12With (⟨aD_Rise, aD_Set⟩ : Day) aSystem aNumber).length (by rw [ints_length]; exact Nat.le_refl _); have hmf := rI.mfrozen 1 (S_l12With (⟨aD_Rise, aD_Set⟩ : Day) aSystem aNumber).length; have hms := rI.msize 1 (S_l12With (⟨aD_Rise, aD_Set⟩ : Day) aSystem aNumber).length; have rS := Row.mark_other rI rS hne 1; have rM := Row.mark rI 1; (repeat clear rI); simp only [ints_length] at rS rM) | (go_at_call 42; refine (c_L_heldInt64S_n _ _ _ _ hlen rM).mono ?_; rintro e w1 ⟨rfl, hq⟩; obtain ⟨hc, hf⟩ := hq.rules; have hs := hq.le; (try simp only [markAll_size] at hs); (try simp at hs); (try have rS := rS.call hq); (try have rI := rI.call hq); (try have rM := rM.call hq); (try have rH := rH.call hq)))
    all_goals go_ret
    all_goals refine ⟨?_, (by repeat (first | (with_reducible exact Q.refl _) | (with_reducible assumption) | (with_reducible refine Q.setCell ?_ (by dsimp only; omega) _) | (with_reducible refine Q.alloc ?_ _) | (with_reducible refine Q.drew ?_) | (with_reducible refine Q.mark ?_ (by omega) _ _) | (with_reducible refine Q.call ?_ (by with_reducible assumption))))⟩
    all_goals first | rfl | (simp [*]; done)
  · skip
    go_enter Try.func9, Try.ntmps9
    go_wp2_with (first | (go_at_call 36; refine (c_L_toDay _ _ _ ).mono ?_; rintro e w1 ⟨rfl, hq⟩; obtain ⟨hc, hf⟩ := hq.rules; have hs := hq.le; (try simp only [markAll_size] at hs); (try simp at hs); (try have rS := rS.call hq); (try have rI := rI.call hq); (try have rM := rM.call hq); (try have rH := rH.call hq)) | (go_at_call 38; refine (c_S_MinutesWith_bad0 _ _ _ _ _ h0).mono ?_; rintro e w1 ⟨rfl, hq⟩; obtain ⟨hc, hf⟩ := hq.rules; have hs := hq.le; (try simp only [markAll_size] at hs); (try simp at hs); (try have rS := rS.call hq); (try have rI := rI.call hq); (try have rM := rM.call hq); (try have rH := rH.call hq)) | (go_at_call 39; refine (c_I_MinutesWith_asbad0 _ _ _ _ _ ((by rw [eq_counted]; exact h0))).mono ?_; rintro e w1 ⟨rfl, hq⟩; obtain ⟨hc, hf⟩ := hq.rules; have hs := hq.le; (try simp only [markAll_size] at hs); (try simp at hs); (try have rS := rS.call hq); (try have rI := rI.call hq); (try have rM := rM.call hq); (try have rH := rH.call hq)) | (go_at_call 40; refine (c_L_eqInt64S0 _).mono ?_; rintro e w1 ⟨rfl, hq⟩; obtain ⟨hc, hf⟩ := hq.rules; have hs := hq.le; (try simp only [markAll_size] at hs); (try simp at hs); (try have rS := rS.call hq); (try have rI := rI.call hq); (try have rM := rM.call hq); (try have rH := rH.call hq)) | (go_at_call 41; refine (c_L_markInt64S0 _).mono ?_; rintro e w1 ⟨rfl, hq⟩; obtain ⟨hc, hf⟩ := hq.rules; have hs := hq.le; (try simp only [markAll_size] at hs); (try simp at hs); (try have rS := rS.call hq); (try have rI := rI.call hq); (try have rM := rM.call hq); (try have rH := rH.call hq)) | (go_at_call 42; refine (c_L_heldInt64S0 _).mono ?_; rintro e w1 ⟨rfl, hq⟩; obtain ⟨hc, hf⟩ := hq.rules; have hs := hq.le; (try simp only [markAll_size] at hs); (try simp at hs); (try have rS := rS.call hq); (try have rI := rI.call hq); (try have rM := rM.call hq); (try have rH := rH.call hq)))
    all_goals go_ret
    all_goals refine ⟨?_, (by repeat (first | (with_reducible exact Q.refl _) | (with_reducible assumption) | (with_reducible refine Q.setCell ?_ (by dsimp only; omega) _) | (with_reducible refine Q.alloc ?_ _) | (with_reducible refine Q.drew ?_) | (with_reducible refine Q.mark ?_ (by omega) _ _) | (with_reducible refine Q.call ?_ (by with_reducible assumption))))⟩
    all_goals first | rfl | (simp [*]; done)
namespace lawFnExactMinutesWith
set_option maxRecDepth 100000 in
theorem lifted (os : Os) (started : os.Started) (H : Type) (enc : TypeId × Value → H) :
    ReturnsInHanded {} Try.checked os 9 .any (Rows.fnExactMinutesWithSpec.pre6 enc Try.prog Try.f9 Rows.fnExactMinutesWithRow.domain false) (Rows.fnExactMinutesWithSpec.post enc Try.prog Try.f9 false true false false) := by
  refine returnsInHanded_of_change (C := Try.checked) own started (by kernel_rfl) Try.func9
    (ChangeSpec.witness6 (enc := enc) (C := Try.checked) false ⟨#[], #[.agg #[.int .i64 0, .int .i64 0], .int .i64 0, .int .i64 0], []⟩ 8 (by kernel_rfl) (by kernel_rfl) (by kernel_rfl) (by kernel_rfl)) ?_
  intro W base args ds gs before hval0 hW hcnd _
  have hval : ∀ (j : Nat) t v, Try.f9.params[j]? = some t → args[j]? = some v → Value.okWide Try.prog W .any base t v := hval0
  have hW' := hW
  obtain ⟨p, q, hA0, hV, rfl, hfz, hnd⟩ := hW
  have hA : DataW.TrodAll enc Try.prog W 0 (fun _ => true) true Try.f9.params.toList args.toList ds p := hA0
  rw [Try.params9] at hA hval
  obtain ⟨v0, vs0, d0, ds0, p0, q0, hargs, rfl, rfl, h0, r0⟩ := trodAll_cons hA
  obtain ⟨v1, vs1, d1, ds1, p1, q1, rfl, rfl, rfl, h1, r1⟩ := trodAll_cons r0
  obtain ⟨v2, vs2, d2, ds2, p2, q2, rfl, rfl, rfl, h2, r2⟩ := trodAll_cons r1
  obtain ⟨rfl, rfl, rfl⟩ := trodAll_nil r2
  obtain rfl : args = #[v0, v1, v2] := by cases args; simp_all
  obtain ⟨rfl, rfl⟩ := trodVars_none hV
  obtain ⟨zs0, hz0, rfl⟩ := open_cells (m := 2) (u := 2) Try.underlying56 (by kernel_rfl) Try.underlying2 (by kernel_rfl) (hval 0 56 v0 rfl rfl)
  obtain ⟨aD_Rise, aD_Set, rfl⟩ := list2 hz0
  obtain ⟨aSystem, rfl, _, _, _⟩ := open_int Try.underlying2 (hval 1 2 v1 rfl rfl) h1
  obtain ⟨aNumber, rfl, _, _, _⟩ := open_int Try.underlying2 (hval 2 2 v2 rfl rfl) h2
  refine (walk_FnExactMinutesWith aD_Rise aD_Set aSystem aNumber W).mono fun e W' ⟨he, hq⟩ => ?_
  subst he
  exact ⟨_, rfl, _, _, _, [], _, [], hW', trodAll_cons_mk (shut_bool Try.underlying4 _) trodAll_mk0,
    all_stay laidOut hq (by rw [Try.params9]; intro t ht; simp only [Array.toList, List.mem_cons, List.not_mem_nil, or_false] at ht; rcases ht with rfl | rfl | rfl <;> exact ⟨by kernel_rfl, of_decide_eq_true (by kernel_rfl)⟩) hA0,
    rfl, Below.frame hq _, fun h => by cases h⟩
theorem over : Rows.fnExactMinutesWithRow.holds Try.pinned (OpenSpec.ofChange Rows.fnExactMinutesWithSpec) :=
  OpenClaim.holds_of_wide 9 Try.f9 rfl rfl rfl rfl rfl rfl rfl ⟨rfl, rfl, rfl, rfl, rfl⟩ rfl rfl rfl rfl rfl (by kernel_rfl) Try.func9 (by kernel_rfl)
    (of_decide_eq_true (by kernel_rfl)) (by unfold Func.isWrapper; first | (rw [if_pos (by decide +kernel)]; kernel_rfl) | (rw [if_neg (by decide +kernel)]; exact ⟨rfl, rfl⟩))
    (fun os started H enc _ => lifted os started H enc)
theorem proved : Rows.FnExactMinutesWithSaid :=
  over
#print axioms proved
end lawFnExactMinutesWith
end Go.Proofs.Ythooejkmccdfjaa
