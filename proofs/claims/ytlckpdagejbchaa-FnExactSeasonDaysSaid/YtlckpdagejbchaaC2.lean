/- Contracts of Go functions of the plain fragment, with their walks; printed by a program of the author's own. -/
import Derived.Test.YtlckpdagejbchaaRows
import Derived.Test.YtlckpdagejbchaaDefs
import Derived.Test.YtlckpdagejbchaaC1
import Derived.Test.YtlckpdagejbchaaFresh
import Derived.Test.YtlckpdagejbchaaM2
import Derived.WalkKit
import Derived.ProofKit
import Derived.OpenShut
import Derived.WalkLawsBesides
import Derived.BigQuiet
import Derived.Deep.QuietTactic
import Derived.Deep.LoopGhost
import Derived.LoopN
namespace Go.Proofs.Ytlckpdagejbchaa
open Go.ChangeShapes Go.WideShapes Go.ChangeAt Go.RowKit
set_option linter.unusedVariables false
set_option linter.unusedSimpArgs false
theorem c_I_mod (a : Int) (b : Int) (w : World) (hz0 : ¬ b = 0) : Calls Try.prog 106 #[.int .i64 a, .int .i64 b] w fun e w' => e = .returned (.int .i64 ((I_mod a b))) ∧ w = w' := by
  have hw64 := wrapRule
  go_enter Try.func106, Try.ntmps106
  go_wp2_with (first | (go_at_call 96; refine (c_I_floor _ _ _ (by first | assumption | decide | omega | (unfold wrap64; omega))).mono ?_; rintro e w1 ⟨rfl, rfl⟩))
  all_goals go_ret
  all_goals refine ⟨?_, rfl⟩
  all_goals first | (simp [I_mod, *]; done) | (simp [I_mod, *]; omega) | (simp [I_mod, *]; simp (disch := omega) only [if_pos, if_neg]; done) | (simp_all [I_mod]; done) | (simp_all [I_mod]; omega)

theorem c_I_plain (a : Int) (w : World)  : Calls Try.prog 95 #[.int .i64 a] w fun e w' => e = .returned (.int .i64 ((I_plain a))) ∧ w = w' := by
  have hw64 := wrapRule
  go_enter Try.func95, Try.ntmps95
  go_wp2_with (first | (go_at_call 106; refine (c_I_mod _ _ _ (by first | assumption | decide | omega | (unfold wrap64; omega))).mono ?_; rintro e w1 ⟨rfl, rfl⟩))
  all_goals go_ret
  all_goals refine ⟨?_, rfl⟩
  all_goals first | (simp [I_plain, *]; done) | (simp [I_plain, *]; omega) | (simp [I_plain, *]; simp (disch := omega) only [if_pos, if_neg]; done) | (simp_all [I_plain]; done) | (simp_all [I_plain]; omega)

theorem c_I_meanLongitude (n : Int) (w : World)  : Calls Try.prog 97 #[.int .i64 n] w fun e w' => e = .returned (.int .i64 ((I_meanLongitude n))) ∧ w = w' := by
  have hw64 := wrapRule
  go_enter Try.func97, Try.ntmps97
  go_wp2_with (first | (go_at_call 95; refine (c_I_plain _ _ ).mono ?_; rintro e w1 ⟨rfl, rfl⟩) | (go_at_call 96; refine (c_I_floor _ _ _ (by first | assumption | decide | omega | (unfold wrap64; omega))).mono ?_; rintro e w1 ⟨rfl, rfl⟩))
  all_goals go_ret
  all_goals refine ⟨?_, rfl⟩
  all_goals first | (simp [I_meanLongitude, *]; done) | (simp [I_meanLongitude, *]; omega) | (simp [I_meanLongitude, *]; simp (disch := omega) only [if_pos, if_neg]; done) | (simp_all [I_meanLongitude]; done) | (simp_all [I_meanLongitude]; omega)

theorem c_I_nearest (a : Int) (b : Int) (w : World) (hz0 : 0 < b) : Calls Try.prog 98 #[.int .i64 a, .int .i64 b] w fun e w' => e = .returned (.int .i64 ((I_nearest a b))) ∧ w = w' := by
  have hw64 := wrapRule
  have hbf : (b < 0) = False := eq_false (by omega)
  have hbz : (b = 0) = False := eq_false (by omega)
  go_enter Try.func98, Try.ntmps98
  go_wp2_with (first | (go_at_call 96; refine (c_I_floor _ _ _ (by first | assumption | decide | omega | (unfold wrap64; omega))).mono ?_; rintro e w1 ⟨rfl, rfl⟩))
  all_goals go_ret
  all_goals refine ⟨?_, rfl⟩
  all_goals first | (simp [I_nearest, *]; done) | (simp [I_nearest, *]; omega) | (simp [I_nearest, *]; simp (disch := omega) only [if_pos, if_neg]; done) | (simp_all [I_nearest]; done) | (simp_all [I_nearest]; omega)

theorem c_I_polynomials (r : Int) (w : World)  : Calls Try.prog 122 #[.int .i64 r] w fun e w' => e = .returned (.tuple #[.int .i64 ((I_polynomials r).1), .int .i64 ((I_polynomials r).2)]) ∧ w = w' := by
  have hw64 := wrapRule
  go_enter Try.func122, Try.ntmps122
  go_wp2
  all_goals go_ret2
  all_goals refine ⟨?_, rfl⟩
  all_goals first | (simp [I_polynomials, *]; done) | (simp [I_polynomials, *]; omega) | (simp [I_polynomials, *]; simp (disch := omega) only [if_pos, if_neg]; done) | (simp_all [I_polynomials]; done) | (simp_all [I_polynomials]; omega)

theorem c_I_nanoSine (a : Int) (w : World)  : Calls Try.prog 99 #[.int .i64 a] w fun e w' => e = .returned (.int .i64 ((I_nanoSine a))) ∧ w = w' := by
  have hw64 := wrapRule
  go_enter Try.func99, Try.ntmps99
  go_wp2_with (first | (go_at_call 95; refine (c_I_plain _ _ ).mono ?_; rintro e w1 ⟨rfl, rfl⟩) | (go_at_call 122; refine (c_I_polynomials _ _ ).mono ?_; rintro e w1 ⟨rfl, rfl⟩))
  all_goals go_ret
  all_goals refine ⟨?_, rfl⟩
  all_goals first | (simp [I_nanoSine, *]; done) | (simp [I_nanoSine, *]; omega) | (simp [I_nanoSine, *]; simp (disch := omega) only [if_pos, if_neg]; done) | (simp_all [I_nanoSine]; done) | (simp_all [I_nanoSine]; omega)

theorem c_I_sunLongitude (n : Int) (w : World)  : Calls Try.prog 56 #[.int .i64 n] w fun e w' => e = .returned (.int .i64 ((I_sunLongitude n))) ∧ w = w' := by
  have hw64 := wrapRule
  go_enter Try.func56, Try.ntmps56
  go_wp2_with (first | (go_at_call 95; refine (c_I_plain _ _ ).mono ?_; rintro e w1 ⟨rfl, rfl⟩) | (go_at_call 96; refine (c_I_floor _ _ _ (by first | assumption | decide | omega | (unfold wrap64; omega))).mono ?_; rintro e w1 ⟨rfl, rfl⟩) | (go_at_call 97; refine (c_I_meanLongitude _ _ ).mono ?_; rintro e w1 ⟨rfl, rfl⟩) | (go_at_call 98; refine (c_I_nearest _ _ _ (by first | assumption | decide | omega | (unfold wrap64; omega))).mono ?_; rintro e w1 ⟨rfl, rfl⟩) | (go_at_call 99; refine (c_I_nanoSine _ _ ).mono ?_; rintro e w1 ⟨rfl, rfl⟩))
  all_goals go_ret
  all_goals refine ⟨?_, rfl⟩
  all_goals first | (simp [I_sunLongitude, *]; done) | (simp [I_sunLongitude, *]; omega) | (simp [I_sunLongitude, *]; simp (disch := omega) only [if_pos, if_neg]; done) | (simp_all [I_sunLongitude]; done) | (simp_all [I_sunLongitude]; omega)

theorem c_I_SunLongitude (n : Int) (w : World)  : Calls Try.prog 16 #[.int .i64 n] w fun e w' => e = .returned (.tuple #[.int .i64 ((I_SunLongitude n).1), .int .i64 ((I_SunLongitude n).2)]) ∧ Q w w' := by
  have hset := setRule
  have hall := allocRule
  have halm := allocMark
  have hw64 := wrapRule
  go_enter Try.func16, Try.ntmps16
  go_wp2_with (first | (go_at_call 55; refine (c_I_isDayNumber _ _ ).mono ?_; rintro e w1 ⟨rfl, hq⟩; obtain ⟨hc, hf⟩ := hq.rules; have hs := hq.le; try simp at hs) | (go_at_call 56; refine (c_I_sunLongitude _ _ ).mono ?_; rintro e w1 ⟨rfl, rfl⟩))
  all_goals go_ret2
  all_goals refine ⟨?_, (by (repeat (first | (with_reducible exact Q.refl _) | (with_reducible assumption) | (with_reducible refine Q.setCell ?_ (by dsimp only; omega) _) | (with_reducible refine Q.alloc ?_ _) | (with_reducible refine Q.drew ?_) | (with_reducible refine Q.call ?_ (by with_reducible assumption)))))⟩
  all_goals first | (simp [I_SunLongitude, *]; done) | (simp [I_SunLongitude, *]; omega) | (simp [I_SunLongitude, *]; simp (disch := omega) only [if_pos, if_neg]; done) | (simp_all [I_SunLongitude]; done) | (simp_all [I_SunLongitude]; omega)

set_option maxHeartbeats 1000000 in
theorem c_S_NextLongitude (n longitude : Int) (w : World) : Calls Try.prog 17 #[.int .i64 n, .int .i64 longitude] w fun e w' => e = .returned (.tuple #[.int .i64 (S_NextLongitude n longitude).1, .int .i64 (S_NextLongitude n longitude).2]) ∧ Q w w' := by
  have hset := setRule
  have hall := allocRule
  have halm := allocMark
  have hw64 := wrapRule
  by_cases hn1 : S_l07Has n = true
  · by_cases hl1 : S_l01In longitude 0 1295999 = true
    · have hn := (has_iff n).1 hn1
      go_enter Try.func17, Try.ntmps17
      go_wp2_with (first | (go_at_call 53; refine (c_S_l07Has _ _ ).mono ?_; rintro e w1 ⟨rfl, rfl⟩) | (go_at_call 57; refine (c_S_l01In _ _ _ _ ).mono ?_; rintro e w1 ⟨rfl, rfl⟩) | (go_at_call 54; refine (c_S_l08Longitude _ _ ).mono ?_; rintro e w1 ⟨rfl, rfl⟩) | (go_at_call 58; refine (c_S_l03Plain _ _ ).mono ?_; rintro e w1 ⟨rfl, rfl⟩))
      go_loopg [6] 72700 (fun k d wr => Q w wr ∧ ∃ di : Int, d = .int .i64 di ∧ (-36159 ≤ di ∧ di ≤ 36524) ∧ 36524 - di ≤ k ∧ nextUpS longitude 72700 n = nextUpS longitude k di)
      case atStart => exact ⟨(by repeat (first | (with_reducible exact Q.refl _) | (with_reducible assumption) | (with_reducible refine Q.setCell ?_ (by dsimp only; omega) _) | (with_reducible refine Q.alloc ?_ _) | (with_reducible refine Q.drew ?_) | (with_reducible refine Q.call ?_ (by with_reducible assumption)))), n, rfl, hn, by omega, rfl⟩
      case round =>
        obtain ⟨hq, di, rfl, hdi, hk, hm⟩ := hrel
        have hr := Q.rules hq; have hc := hr.1; have hf := hr.2; clear hr; have hs := Q.le hq; try simp at hs
        have hw1 : wrap64 (di + 1) = di + 1 := w64 (by omega)
        by_cases hh : S_l07Has (di + 1) = true
        · have hb := (has_iff _).1 hh
          have e : gk = (gk - 1) + 1 := by omega
          by_cases hl : S_l03Plain (wrap64 (longitude - S_l08Longitude di)) ≤ S_l03Plain (wrap64 (S_l08Longitude (di + 1) - S_l08Longitude di))
          · have hM : S_NextLongitude n longitude = (di, 0) := by
              unfold S_NextLongitude; rw [hn1, hl1, hm, e]; exact (if_pos hh).trans (if_pos hl)
            clear hm e
            go_wp2_with (first | (go_at_call 53; refine (c_S_l07Has _ _ ).mono ?_; rintro e w1 ⟨rfl, rfl⟩) | (go_at_call 57; refine (c_S_l01In _ _ _ _ ).mono ?_; rintro e w1 ⟨rfl, rfl⟩) | (go_at_call 54; refine (c_S_l08Longitude _ _ ).mono ?_; rintro e w1 ⟨rfl, rfl⟩) | (go_at_call 58; refine (c_S_l03Plain _ _ ).mono ?_; rintro e w1 ⟨rfl, rfl⟩))
            go_ret2
            refine ⟨?_, (by repeat (first | (with_reducible exact Q.refl _) | (with_reducible assumption) | (with_reducible refine Q.setCell ?_ (by dsimp only; omega) _) | (with_reducible refine Q.alloc ?_ _) | (with_reducible refine Q.drew ?_) | (with_reducible refine Q.call ?_ (by with_reducible assumption))))⟩
            simp [hM]
          · have hM : nextUpS longitude 72700 n = nextUpS longitude (gk - 1) (di + 1) := by
              rw [hm]; conv => lhs; rw [e]
              exact (if_pos hh).trans (if_neg hl)
            clear hm e
            go_wp2_with (first | (go_at_call 53; refine (c_S_l07Has _ _ ).mono ?_; rintro e w1 ⟨rfl, rfl⟩) | (go_at_call 57; refine (c_S_l01In _ _ _ _ ).mono ?_; rintro e w1 ⟨rfl, rfl⟩) | (go_at_call 54; refine (c_S_l08Longitude _ _ ).mono ?_; rintro e w1 ⟨rfl, rfl⟩) | (go_at_call 58; refine (c_S_l03Plain _ _ ).mono ?_; rintro e w1 ⟨rfl, rfl⟩))
            go_roundg (gk - 1)
            case measure => omega
            case rel => exact ⟨(by repeat (first | (with_reducible exact Q.refl _) | (with_reducible assumption) | (with_reducible refine Q.setCell ?_ (by dsimp only; omega) _) | (with_reducible refine Q.alloc ?_ _) | (with_reducible refine Q.drew ?_) | (with_reducible refine Q.call ?_ (by with_reducible assumption)))), di + 1, rfl, ⟨by omega, by omega⟩, by omega, hM⟩
        · have hM : S_NextLongitude n longitude = (0, 4) := by
            unfold S_NextLongitude; rw [hn1, hl1, hm]
            cases gk with
            | zero => rfl
            | succ j => exact if_neg hh
          clear hm
          go_wp2_with (first | (go_at_call 53; refine (c_S_l07Has _ _ ).mono ?_; rintro e w1 ⟨rfl, rfl⟩) | (go_at_call 57; refine (c_S_l01In _ _ _ _ ).mono ?_; rintro e w1 ⟨rfl, rfl⟩) | (go_at_call 54; refine (c_S_l08Longitude _ _ ).mono ?_; rintro e w1 ⟨rfl, rfl⟩) | (go_at_call 58; refine (c_S_l03Plain _ _ ).mono ?_; rintro e w1 ⟨rfl, rfl⟩))
          go_ret2
          refine ⟨?_, (by repeat (first | (with_reducible exact Q.refl _) | (with_reducible assumption) | (with_reducible refine Q.setCell ?_ (by dsimp only; omega) _) | (with_reducible refine Q.alloc ?_ _) | (with_reducible refine Q.drew ?_) | (with_reducible refine Q.call ?_ (by with_reducible assumption))))⟩
          simp [hM]
    · go_enter Try.func17, Try.ntmps17
      go_wp2_with (first | (go_at_call 53; refine (c_S_l07Has _ _ ).mono ?_; rintro e w1 ⟨rfl, rfl⟩) | (go_at_call 57; refine (c_S_l01In _ _ _ _ ).mono ?_; rintro e w1 ⟨rfl, rfl⟩) | (go_at_call 54; refine (c_S_l08Longitude _ _ ).mono ?_; rintro e w1 ⟨rfl, rfl⟩) | (go_at_call 58; refine (c_S_l03Plain _ _ ).mono ?_; rintro e w1 ⟨rfl, rfl⟩))
      go_ret2
      refine ⟨?_, (by repeat (first | (with_reducible exact Q.refl _) | (with_reducible assumption) | (with_reducible refine Q.setCell ?_ (by dsimp only; omega) _) | (with_reducible refine Q.alloc ?_ _) | (with_reducible refine Q.drew ?_) | (with_reducible refine Q.call ?_ (by with_reducible assumption))))⟩
      simp [S_NextLongitude, hn1, hl1]
  · go_enter Try.func17, Try.ntmps17
    go_wp2_with (first | (go_at_call 53; refine (c_S_l07Has _ _ ).mono ?_; rintro e w1 ⟨rfl, rfl⟩) | (go_at_call 57; refine (c_S_l01In _ _ _ _ ).mono ?_; rintro e w1 ⟨rfl, rfl⟩) | (go_at_call 54; refine (c_S_l08Longitude _ _ ).mono ?_; rintro e w1 ⟨rfl, rfl⟩) | (go_at_call 58; refine (c_S_l03Plain _ _ ).mono ?_; rintro e w1 ⟨rfl, rfl⟩))
    go_ret2
    refine ⟨?_, (by repeat (first | (with_reducible exact Q.refl _) | (with_reducible assumption) | (with_reducible refine Q.setCell ?_ (by dsimp only; omega) _) | (with_reducible refine Q.alloc ?_ _) | (with_reducible refine Q.drew ?_) | (with_reducible refine Q.call ?_ (by with_reducible assumption))))⟩
    simp [S_NextLongitude, hn1]

theorem c_I_liesOnWay (a : Int) (from_ : Int) (to : Int) (w : World)  : Calls Try.prog 84 #[.int .i64 a, .int .i64 from_, .int .i64 to] w fun e w' => e = .returned (.bool ((I_liesOnWay a from_ to))) ∧ w = w' := by
  have hw64 := wrapRule
  go_enter Try.func84, Try.ntmps84
  go_wp2_with (first | (go_at_call 95; refine (c_I_plain _ _ ).mono ?_; rintro e w1 ⟨rfl, rfl⟩))
  all_goals go_ret
  all_goals refine ⟨?_, rfl⟩
  all_goals first | (simp [I_liesOnWay, *]; done) | (simp [I_liesOnWay, *]; omega) | (simp [I_liesOnWay, *]; simp (disch := omega) only [if_pos, if_neg]; done) | (simp_all [I_liesOnWay]; done) | (simp_all [I_liesOnWay]; omega)

set_option maxHeartbeats 1000000 in
theorem c_I_nextLongitude (n longitude : Int) (w : World) (hn : -36159 ≤ n ∧ n ≤ 36524) : Calls Try.prog 60 #[.int .i64 n, .int .i64 longitude] w fun e w' => e = .returned (.tuple #[.int .i64 (I_nextLongitude n longitude).1, .int .i64 (I_nextLongitude n longitude).2]) ∧ Q w w' := by
  have hset := setRule
  have hall := allocRule
  have halm := allocMark
  have hw64 := wrapRule
  go_enter Try.func60, Try.ntmps60
  go_wp2_with (first | (go_at_call 56; refine (c_I_sunLongitude _ _ ).mono ?_; rintro e w1 ⟨rfl, rfl⟩) | (go_at_call 55; refine (c_I_isDayNumber _ _ ).mono ?_; rintro e w1 ⟨rfl, hq⟩; obtain ⟨hc, hf⟩ := hq.rules; have hs := hq.le; try simp at hs) | (go_at_call 84; refine (c_I_liesOnWay _ _ _ _ ).mono ?_; rintro e w1 ⟨rfl, rfl⟩))
  go_loopg [6, 7] 72700 (fun k here d wr => Q w wr ∧ ∃ di : Int, d = .int .i64 di ∧ here = .int .i64 (I_sunLongitude di) ∧ (-36159 ≤ di ∧ di ≤ 36524) ∧ 36524 - di ≤ k ∧ nextUpI longitude 72700 n (I_sunLongitude n) = nextUpI longitude k di (I_sunLongitude di))
  case atStart => exact ⟨(by repeat (first | (with_reducible exact Q.refl _) | (with_reducible assumption) | (with_reducible refine Q.setCell ?_ (by dsimp only; omega) _) | (with_reducible refine Q.alloc ?_ _) | (with_reducible refine Q.drew ?_) | (with_reducible refine Q.call ?_ (by with_reducible assumption)))), n, rfl, rfl, hn, by omega, rfl⟩
  case round =>
    obtain ⟨hq, di, rfl, rfl, hdi, hk, hm⟩ := hrel
    have hr := Q.rules hq; have hc := hr.1; have hf := hr.2; clear hr; have hs := Q.le hq; try simp at hs
    have hw1 : wrap64 (di + 1) = di + 1 := w64 (by omega)
    by_cases hh : I_isDayNumber (di + 1) = true
    · have hb := (isDayNumber_iff _).1 hh
      have e : gk = (gk - 1) + 1 := by omega
      by_cases hl : I_liesOnWay longitude (I_sunLongitude di) (I_sunLongitude (di + 1)) = true
      · have hM : I_nextLongitude n longitude = (di, 0) := by
          unfold I_nextLongitude; rw [hm, e]; exact (if_pos hh).trans (if_pos hl)
        clear hm e
        go_wp2_with (first | (go_at_call 56; refine (c_I_sunLongitude _ _ ).mono ?_; rintro e w1 ⟨rfl, rfl⟩) | (go_at_call 55; refine (c_I_isDayNumber _ _ ).mono ?_; rintro e w1 ⟨rfl, hq⟩; obtain ⟨hc, hf⟩ := hq.rules; have hs := hq.le; try simp at hs) | (go_at_call 84; refine (c_I_liesOnWay _ _ _ _ ).mono ?_; rintro e w1 ⟨rfl, rfl⟩))
        go_ret2
        refine ⟨?_, (by repeat (first | (with_reducible exact Q.refl _) | (with_reducible assumption) | (with_reducible refine Q.setCell ?_ (by dsimp only; omega) _) | (with_reducible refine Q.alloc ?_ _) | (with_reducible refine Q.drew ?_) | (with_reducible refine Q.call ?_ (by with_reducible assumption))))⟩
        simp [hM]
      · have hM : nextUpI longitude 72700 n (I_sunLongitude n) = nextUpI longitude (gk - 1) (di + 1) (I_sunLongitude (di + 1)) := by
          rw [hm]; conv => lhs; rw [e]
          exact (if_pos hh).trans (if_neg hl)
        clear hm e
        go_wp2_with (first | (go_at_call 56; refine (c_I_sunLongitude _ _ ).mono ?_; rintro e w1 ⟨rfl, rfl⟩) | (go_at_call 55; refine (c_I_isDayNumber _ _ ).mono ?_; rintro e w1 ⟨rfl, hq⟩; obtain ⟨hc, hf⟩ := hq.rules; have hs := hq.le; try simp at hs) | (go_at_call 84; refine (c_I_liesOnWay _ _ _ _ ).mono ?_; rintro e w1 ⟨rfl, rfl⟩))
        go_roundg (gk - 1)
        case measure => omega
        case rel => exact ⟨(by repeat (first | (with_reducible exact Q.refl _) | (with_reducible assumption) | (with_reducible refine Q.setCell ?_ (by dsimp only; omega) _) | (with_reducible refine Q.alloc ?_ _) | (with_reducible refine Q.drew ?_) | (with_reducible refine Q.call ?_ (by with_reducible assumption)))), di + 1, rfl, rfl, ⟨by omega, by omega⟩, by omega, hM⟩
    · have hM : I_nextLongitude n longitude = (0, 4) := by
        unfold I_nextLongitude; rw [hm]
        cases gk with
        | zero => rfl
        | succ j => exact if_neg hh
      clear hm
      go_wp2_with (first | (go_at_call 56; refine (c_I_sunLongitude _ _ ).mono ?_; rintro e w1 ⟨rfl, rfl⟩) | (go_at_call 55; refine (c_I_isDayNumber _ _ ).mono ?_; rintro e w1 ⟨rfl, hq⟩; obtain ⟨hc, hf⟩ := hq.rules; have hs := hq.le; try simp at hs) | (go_at_call 84; refine (c_I_liesOnWay _ _ _ _ ).mono ?_; rintro e w1 ⟨rfl, rfl⟩))
      go_ret2
      refine ⟨?_, (by repeat (first | (with_reducible exact Q.refl _) | (with_reducible assumption) | (with_reducible refine Q.setCell ?_ (by dsimp only; omega) _) | (with_reducible refine Q.alloc ?_ _) | (with_reducible refine Q.drew ?_) | (with_reducible refine Q.call ?_ (by with_reducible assumption))))⟩
      simp [hM]

theorem c_I_NextLongitude (n : Int) (longitude : Int) (w : World)  : Calls Try.prog 18 #[.int .i64 n, .int .i64 longitude] w fun e w' => e = .returned (.tuple #[.int .i64 ((I_NextLongitude n longitude).1), .int .i64 ((I_NextLongitude n longitude).2)]) ∧ Q w w' := by
  have hset := setRule
  have hall := allocRule
  have halm := allocMark
  have hw64 := wrapRule
  go_enter Try.func18, Try.ntmps18
  go_wp2_with (first | (go_at_call 55; refine (c_I_isDayNumber _ _ ).mono ?_; rintro e w1 ⟨rfl, hq⟩; obtain ⟨hc, hf⟩ := hq.rules; have hs := hq.le; try simp at hs) | (go_at_call 59; refine (c_I_in _ _ _ _ ).mono ?_; rintro e w1 ⟨rfl, rfl⟩) | (go_at_call 60; refine (c_I_nextLongitude _ _ _ (by first | assumption | exact (isDayNumber_iff _).1 (by assumption) | (apply (isDayNumber_iff _).1; simp_all))).mono ?_; rintro e w1 ⟨rfl, hq⟩; obtain ⟨hc, hf⟩ := hq.rules; have hs := hq.le; try simp at hs))
  all_goals go_ret2
  all_goals refine ⟨?_, (by (repeat (first | (with_reducible exact Q.refl _) | (with_reducible assumption) | (with_reducible refine Q.setCell ?_ (by dsimp only; omega) _) | (with_reducible refine Q.alloc ?_ _) | (with_reducible refine Q.drew ?_) | (with_reducible refine Q.call ?_ (by with_reducible assumption)))))⟩
  all_goals first | (simp [I_NextLongitude, *]; done) | (simp [I_NextLongitude, *]; omega) | (simp [I_NextLongitude, *]; simp (disch := omega) only [if_pos, if_neg]; done) | (simp_all [I_NextLongitude]; done) | (simp_all [I_NextLongitude]; omega)

theorem c_S_IsZone (z_Offset : Int) (z_StartMonth : Int) (z_StartWeek : Int) (z_EndMonth : Int) (z_EndWeek : Int) (w : World)  : Calls Try.prog 50 #[.agg #[.int .i64 z_Offset, .int .i64 z_StartMonth, .int .i64 z_StartWeek, .int .i64 z_EndMonth, .int .i64 z_EndWeek]] w fun e w' => e = .returned (.bool ((S_IsZone (⟨z_Offset, z_StartMonth, z_StartWeek, z_EndMonth, z_EndWeek⟩ : Zone)))) ∧ Q w w' := by
  have hset := setRule
  have hall := allocRule
  have halm := allocMark
  have hw64 := wrapRule
  go_enter Try.func50, Try.ntmps50
  go_wp2_with (first | (go_at_call 57; refine (c_S_l01In _ _ _ _ ).mono ?_; rintro e w1 ⟨rfl, rfl⟩))
  all_goals go_ret
  all_goals refine ⟨?_, (by (repeat (first | (with_reducible exact Q.refl _) | (with_reducible assumption) | (with_reducible refine Q.setCell ?_ (by dsimp only; omega) _) | (with_reducible refine Q.alloc ?_ _) | (with_reducible refine Q.drew ?_) | (with_reducible refine Q.call ?_ (by with_reducible assumption)))))⟩
  all_goals first | (simp [S_IsZone, *]; done) | (simp [S_IsZone, *]; omega) | (simp [S_IsZone, *]; simp (disch := omega) only [if_pos, if_neg]; done) | (simp_all [S_IsZone]; done) | (simp_all [S_IsZone]; omega)

theorem c_S_l07Month (year : Int) (month : Int) (w : World)  : Calls Try.prog 101 #[.int .i64 year, .int .i64 month] w fun e w' => e = .returned (.bool ((S_l07Month year month))) ∧ w = w' := by
  have hw64 := wrapRule
  go_enter Try.func101, Try.ntmps101
  go_wp2_with (first | (go_at_call 57; refine (c_S_l01In _ _ _ _ ).mono ?_; rintro e w1 ⟨rfl, rfl⟩))
  all_goals go_ret
  all_goals refine ⟨?_, rfl⟩
  all_goals first | (simp [S_l07Month, *]; done) | (simp [S_l07Month, *]; omega) | (simp [S_l07Month, *]; simp (disch := omega) only [if_pos, if_neg]; done) | (simp_all [S_l07Month]; done) | (simp_all [S_l07Month]; omega)

theorem c_S_l07Days (year : Int) (month : Int) (w : World)  : Calls Try.prog 102 #[.int .i64 year, .int .i64 month] w fun e w' => e = .returned (.int .i64 ((S_l07Days year month))) ∧ w = w' := by
  have hw64 := wrapRule
  go_enter Try.func102, Try.ntmps102
  go_wp2
  all_goals go_ret
  all_goals refine ⟨?_, rfl⟩
  all_goals first | (simp [S_l07Days, *]; done) | (simp [S_l07Days, *]; omega) | (simp [S_l07Days, *]; simp (disch := omega) only [if_pos, if_neg]; done) | (simp_all [S_l07Days]; done) | (simp_all [S_l07Days]; omega)

set_option maxHeartbeats 1000000 in
theorem c_S_IsDate (d_Year : Int) (d_Month : Int) (d_Day : Int) (w : World)  : Calls Try.prog 61 #[.agg #[.int .i64 d_Year, .int .i64 d_Month, .int .i64 d_Day]] w fun e w' => e = .returned (.bool ((S_IsDate (⟨d_Year, d_Month, d_Day⟩ : Date)))) ∧ Q w w' := by
  have hset := setRule
  have hall := allocRule
  have halm := allocMark
  have hw64 := wrapRule
  rcases Bool.eq_false_or_eq_true ((S_l07Month (⟨d_Year, d_Month, d_Day⟩ : Date).Year (⟨d_Year, d_Month, d_Day⟩ : Date).Month)) with hg | hg
  · try dsimp only at hg
    go_enter Try.func61, Try.ntmps61
    go_wp2_with (first | (go_at_call 101; refine (c_S_l07Month _ _ _ ).mono ?_; rintro e w1 ⟨rfl, rfl⟩) | (go_at_call 57; refine (c_S_l01In _ _ _ _ ).mono ?_; rintro e w1 ⟨rfl, rfl⟩) | (go_at_call 102; refine (c_S_l07Days _ _ _ ).mono ?_; rintro e w1 ⟨rfl, rfl⟩))
    all_goals try (
      refine region_Q_all (id := 1) (by kernel_rfl) (by kernel_rfl) ?_
      repeat (first | (apply q_step rfl; (intro wq hq; have hr := Q.rules hq; have hcq := hr.1; have hfq := hr.2; clear hr; have hsq := Q.le hq; (try simp at hsq); go_simp; (repeat (simp (disch := omega) only [if_pos, if_neg]; try go_simp)); (first | rfl | exact ⟨rfl, rfl⟩ | (go_at_call 101; exact quiet_same hq (c_S_l07Month _ _ _ )) | (go_at_call 57; exact quiet_same hq (c_S_l01In _ _ _ _ )) | (go_at_call 102; exact quiet_same hq (c_S_l07Days _ _ _ )))); try go_simp) | (apply q_skip rfl; try go_simp))
      refine wpQuiet_nil ?_
      intro w1 hq
      have hr := Q.rules hq; have hc := hr.1; have hf := hr.2; clear hr; have hs := Q.le hq; try simp at hs)
    all_goals try go_wp2_with (first | (go_at_call 101; refine (c_S_l07Month _ _ _ ).mono ?_; rintro e w1 ⟨rfl, rfl⟩) | (go_at_call 57; refine (c_S_l01In _ _ _ _ ).mono ?_; rintro e w1 ⟨rfl, rfl⟩) | (go_at_call 102; refine (c_S_l07Days _ _ _ ).mono ?_; rintro e w1 ⟨rfl, rfl⟩))
    all_goals go_ret
    all_goals refine ⟨?_, (by (repeat (first | (with_reducible exact Q.refl _) | (with_reducible assumption) | (with_reducible refine Q.setCell ?_ (by dsimp only; omega) _) | (with_reducible refine Q.alloc ?_ _) | (with_reducible refine Q.drew ?_) | (with_reducible refine Q.call ?_ (by with_reducible assumption)))))⟩
    all_goals first | (simp [S_IsDate, *]; done) | (simp [S_IsDate, *]; omega) | (simp [S_IsDate, *]; simp (disch := omega) only [if_pos, if_neg]; done) | (simp_all [S_IsDate]; done) | (simp_all [S_IsDate]; omega)
  · try dsimp only at hg
    go_enter Try.func61, Try.ntmps61
    go_wp2_with (first | (go_at_call 101; refine (c_S_l07Month _ _ _ ).mono ?_; rintro e w1 ⟨rfl, rfl⟩) | (go_at_call 57; refine (c_S_l01In _ _ _ _ ).mono ?_; rintro e w1 ⟨rfl, rfl⟩) | (go_at_call 102; refine (c_S_l07Days _ _ _ ).mono ?_; rintro e w1 ⟨rfl, rfl⟩))
    all_goals try (
      refine region_Q_all (id := 1) (by kernel_rfl) (by kernel_rfl) ?_
      repeat (first | (apply q_skip rfl; try go_simp) | (apply q_step rfl; (intro wq hq; have hr := Q.rules hq; have hcq := hr.1; have hfq := hr.2; clear hr; have hsq := Q.le hq; (try simp at hsq); go_simp; (repeat (simp (disch := omega) only [if_pos, if_neg]; try go_simp)); (first | rfl | exact ⟨rfl, rfl⟩ | (go_at_call 101; exact quiet_same hq (c_S_l07Month _ _ _ )) | (go_at_call 57; exact quiet_same hq (c_S_l01In _ _ _ _ )) | (go_at_call 102; exact quiet_same hq (c_S_l07Days _ _ _ )))); try go_simp) | (apply q_skip rfl; try go_simp))
      refine wpQuiet_nil ?_
      intro w1 hq
      have hr := Q.rules hq; have hc := hr.1; have hf := hr.2; clear hr; have hs := Q.le hq; try simp at hs)
    all_goals try go_wp2_with (first | (go_at_call 101; refine (c_S_l07Month _ _ _ ).mono ?_; rintro e w1 ⟨rfl, rfl⟩) | (go_at_call 57; refine (c_S_l01In _ _ _ _ ).mono ?_; rintro e w1 ⟨rfl, rfl⟩) | (go_at_call 102; refine (c_S_l07Days _ _ _ ).mono ?_; rintro e w1 ⟨rfl, rfl⟩))
    all_goals go_ret
    all_goals refine ⟨?_, (by (repeat (first | (with_reducible exact Q.refl _) | (with_reducible assumption) | (with_reducible refine Q.setCell ?_ (by dsimp only; omega) _) | (with_reducible refine Q.alloc ?_ _) | (with_reducible refine Q.drew ?_) | (with_reducible refine Q.call ?_ (by with_reducible assumption)))))⟩
    all_goals first | (simp [S_IsDate, *]; done) | (simp [S_IsDate, *]; omega) | (simp [S_IsDate, *]; simp (disch := omega) only [if_pos, if_neg]; done) | (simp_all [S_IsDate]; done) | (simp_all [S_IsDate]; omega)

theorem c_S_l07Number (d_Year : Int) (d_Month : Int) (d_Day : Int) (w : World) (hm : d_Month ≤ 9223372036854775807) : Calls Try.prog 103 #[.agg #[.int .i64 d_Year, .int .i64 d_Month, .int .i64 d_Day]] w fun e w' => e = .returned (.int .i64 (S_l07Number ⟨d_Year, d_Month, d_Day⟩)) ∧ Q w w' := by
  have hset := setRule
  have hall := allocRule
  have halm := allocMark
  have hw64 := wrapRule
  go_enter Try.func103, Try.ntmps103
  go_wp2_with (first | (go_at_call 77; refine (c_S_l07Year _ _ ).mono ?_; rintro e w1 ⟨rfl, rfl⟩) | (go_at_call 102; refine (c_S_l07Days _ _ _ ).mono ?_; rintro e w1 ⟨rfl, rfl⟩))
  all_goals try (
    refine region_Q_all (id := 1) (by kernel_rfl) (by kernel_rfl) ?_
    repeat (first | (apply q_step rfl; (intro wq hq; have hr := Q.rules hq; have hcq := hr.1; have hfq := hr.2; clear hr; have hsq := Q.le hq; (try simp at hsq); go_simp; (repeat (simp (disch := omega) only [if_pos, if_neg]; try go_simp)); (first | rfl | exact ⟨rfl, rfl⟩ | (go_at_call 77; exact quiet_same hq (c_S_l07Year _ _ )) | (go_at_call 102; exact quiet_same hq (c_S_l07Days _ _ _ )))); try go_simp) | (apply q_skip rfl; try go_simp))
    refine wpQuiet_nil ?_
    intro w1 hq
    have hr := Q.rules hq; have hc := hr.1; have hf := hr.2; clear hr; have hs := Q.le hq; try simp at hs)
  all_goals try go_wp2_with (first | (go_at_call 77; refine (c_S_l07Year _ _ ).mono ?_; rintro e w1 ⟨rfl, rfl⟩) | (go_at_call 102; refine (c_S_l07Days _ _ _ ).mono ?_; rintro e w1 ⟨rfl, rfl⟩))
  go_loop [3, 4] (fun n m => ∃ k : Nat, ((k : Int) < d_Month ∨ k = 0) ∧ m = .int .i64 ((k : Int) + 1) ∧ n = .int .i64 (daysAfter (S_l07Days d_Year) (wrap64 (wrap64 (S_l07Year d_Year + d_Day) - 1)) k)) (fun _ m => (d_Month - intOf m).toNat)
  case atStart => exact ⟨0, .inr rfl, rfl, rfl⟩
  case round =>
    obtain ⟨k, hk, rfl, rfl⟩ := hrel
    by_cases hlt : (k : Int) + 1 < d_Month
    · have hw2 : wrap64 ((k : Int) + 1 + 1) = (k : Int) + 1 + 1 := w64 ⟨by omega, by omega⟩
      go_wp2_with (first | (go_at_call 77; refine (c_S_l07Year _ _ ).mono ?_; rintro e w1 ⟨rfl, rfl⟩) | (go_at_call 102; refine (c_S_l07Days _ _ _ ).mono ?_; rintro e w1 ⟨rfl, rfl⟩))
      go_round
      case rel => exact ⟨k + 1, .inl (by omega), rfl, rfl⟩
      case measure => simp [intOf]; omega
    · go_wp2_with (first | (go_at_call 77; refine (c_S_l07Year _ _ ).mono ?_; rintro e w1 ⟨rfl, rfl⟩) | (go_at_call 102; refine (c_S_l07Days _ _ _ ).mono ?_; rintro e w1 ⟨rfl, rfl⟩))
      go_ret
      refine ⟨?_, (by repeat (first | (with_reducible exact Q.refl _) | (with_reducible assumption) | (with_reducible refine Q.setCell ?_ (by dsimp only; omega) _) | (with_reducible refine Q.alloc ?_ _) | (with_reducible refine Q.drew ?_) | (with_reducible refine Q.call ?_ (by with_reducible assumption))))⟩
      have e : (d_Month - 1).toNat = k := by omega
      simp [S_l07Number, e]


theorem c_S_l07Weekday (number : Int) (w : World)  : Calls Try.prog 123 #[.int .i64 number] w fun e w' => e = .returned (.int .i64 ((S_l07Weekday number))) ∧ w = w' := by
  have hw64 := wrapRule
  go_enter Try.func123, Try.ntmps123
  go_wp2_with (first | (go_at_call 100; refine (c_S_l01Mod _ _ _ (by first | assumption | decide | omega | (unfold wrap64; omega))).mono ?_; rintro e w1 ⟨rfl, rfl⟩))
  all_goals go_ret
  all_goals refine ⟨?_, rfl⟩
  all_goals first | (simp [S_l07Weekday, *]; done) | (simp [S_l07Weekday, *]; omega) | (simp [S_l07Weekday, *]; simp (disch := omega) only [if_pos, if_neg]; done) | (simp_all [S_l07Weekday]; done) | (simp_all [S_l07Weekday]; omega)

set_option maxHeartbeats 4000000 in
theorem c_S_l07Nth (year month weekday n : Int) (w : World) (hp0 : month ≤ 9223372036854775807) : Calls Try.prog 104 #[.int .i64 year, .int .i64 month, .int .i64 weekday, .int .i64 n] w fun e w' => e = .returned (.agg #[.int .i64 (S_l07Nth year month weekday n).Year, .int .i64 (S_l07Nth year month weekday n).Month, .int .i64 (S_l07Nth year month weekday n).Day]) ∧ Q w w' := by
  have hset := setRule
  have hall := allocRule
  have halm := allocMark
  have hw64 := wrapRule
  go_enter Try.func104, Try.ntmps104
  go_wp2_with (first | (go_at_call 102; refine (c_S_l07Days _ _ _ ).mono ?_; rintro e w1 ⟨rfl, rfl⟩) | (go_at_call 123; refine (c_S_l07Weekday _ _ ).mono ?_; rintro e w1 ⟨rfl, rfl⟩) | (go_at_call 103; refine (c_S_l07Number _ _ _ _ (by first | assumption | decide | omega | (unfold wrap64; omega) | exact (pre_month (by assumption)).1 | exact (pre_month (by assumption)).2.1 | exact (pre_month (by assumption)).2.2 | exact (pre_day (by assumption)).1 | exact (pre_day (by assumption)).2.1 | exact (pre_day (by assumption)).2.2 | exact (pre_dayI (by assumption)).1 | exact (pre_dayI (by assumption)).2.1 | exact (pre_dayI (by assumption)).2.2 | exact (pre_moment (by assumption)).1 | exact (pre_moment (by assumption)).2.1 | exact (pre_moment (by assumption)).2.2 | exact (pre_moment0 (by assumption)).1 | exact (pre_moment0 (by assumption)).2.1 | exact (pre_moment0 (by assumption)).2.2 | exact (pre_zone (by assumption)).1 | exact (pre_zone (by assumption)).2 | exact pre_date (by assumption) | exact nthWeekday_month (by assumption) | exact shift_month _ _ _ | exact later_month _ _)).mono ?_; rintro e w1 ⟨rfl, hq⟩; obtain ⟨hc, hf⟩ := hq.rules; have hs := hq.le; try simp at hs))
  have hL := days_bd year month
  go_loopg [10, 11] (S_l07Days year month).toNat (fun k cnt day wr => Q w wr ∧ ∃ (j : Nat) (o c : Int), nthUp (fun d => decide (S_l07Weekday (S_l07Number ⟨year, month, d⟩) = weekday)) n j = (o, c) ∧ cnt = .int .i64 c ∧ day = .int .i64 ((j : Int) + 1) ∧ j + k = (S_l07Days year month).toNat ∧ 0 ≤ c ∧ c ≤ j ∧ w.heap.size + 2 ≤ wr.heap.size ∧ wr.cell? ⟨w.heap.size, 0, none⟩ = some (.int .i64 0) ∧ wr.cell? ⟨w.heap.size, 1, none⟩ = some (.int .i64 0) ∧ wr.cell? ⟨w.heap.size, 2, none⟩ = some (.int .i64 0) ∧ wr.frozen? ⟨w.heap.size, 0, none⟩ = false ∧ wr.frozen? ⟨w.heap.size, 1, none⟩ = false ∧ wr.frozen? ⟨w.heap.size, 2, none⟩ = false ∧ wr.cell? ⟨w.heap.size + 1, 0, none⟩ = some (.int .i64 year) ∧ wr.cell? ⟨w.heap.size + 1, 1, none⟩ = some (.int .i64 month) ∧ wr.cell? ⟨w.heap.size + 1, 2, none⟩ = some (.int .i64 o) ∧ wr.frozen? ⟨w.heap.size + 1, 0, none⟩ = false ∧ wr.frozen? ⟨w.heap.size + 1, 1, none⟩ = false ∧ wr.frozen? ⟨w.heap.size + 1, 2, none⟩ = false)
  case atStart => exact ⟨(by repeat (first | (with_reducible exact Q.refl _) | (with_reducible assumption) | (with_reducible refine Q.setCell ?_ (by dsimp only; omega) _) | (with_reducible refine Q.alloc ?_ _) | (with_reducible refine Q.drew ?_) | (with_reducible refine Q.call ?_ (by with_reducible assumption)))), 0, 0, 0, rfl, rfl, rfl, by omega, by omega, by omega, by simp, (by (try go_simp); (repeat (simp (disch := omega) only [if_pos, if_neg]; try go_simp)); first | done | rfl | (intro hx; exfalso; omega) | (simp [*]; done)), (by (try go_simp); (repeat (simp (disch := omega) only [if_pos, if_neg]; try go_simp)); first | done | rfl | (intro hx; exfalso; omega) | (simp [*]; done)), (by (try go_simp); (repeat (simp (disch := omega) only [if_pos, if_neg]; try go_simp)); first | done | rfl | (intro hx; exfalso; omega) | (simp [*]; done)), (by (try go_simp); (repeat (simp (disch := omega) only [if_pos, if_neg]; try go_simp)); first | done | rfl | (intro hx; exfalso; omega) | (simp [*]; done)), (by (try go_simp); (repeat (simp (disch := omega) only [if_pos, if_neg]; try go_simp)); first | done | rfl | (intro hx; exfalso; omega) | (simp [*]; done)), (by (try go_simp); (repeat (simp (disch := omega) only [if_pos, if_neg]; try go_simp)); first | done | rfl | (intro hx; exfalso; omega) | (simp [*]; done)), (by (try go_simp); (repeat (simp (disch := omega) only [if_pos, if_neg]; try go_simp)); first | done | rfl | (intro hx; exfalso; omega) | (simp [*]; done)), (by (try go_simp); (repeat (simp (disch := omega) only [if_pos, if_neg]; try go_simp)); first | done | rfl | (intro hx; exfalso; omega) | (simp [*]; done)), (by (try go_simp); (repeat (simp (disch := omega) only [if_pos, if_neg]; try go_simp)); first | done | rfl | (intro hx; exfalso; omega) | (simp [*]; done)), (by (try go_simp); (repeat (simp (disch := omega) only [if_pos, if_neg]; try go_simp)); first | done | rfl | (intro hx; exfalso; omega) | (simp [*]; done)), (by (try go_simp); (repeat (simp (disch := omega) only [if_pos, if_neg]; try go_simp)); first | done | rfl | (intro hx; exfalso; omega) | (simp [*]; done)), (by (try go_simp); (repeat (simp (disch := omega) only [if_pos, if_neg]; try go_simp)); first | done | rfl | (intro hx; exfalso; omega) | (simp [*]; done))⟩
  case round =>
    obtain ⟨hq, j, o, c, hst, rfl, rfl, hjk, hc0, hc1, hsz, r0, r1, r2, r3, r4, r5, o0, o1, o2, o3, o4, o5⟩ := hrel
    have hr := Q.rules hq; have hc := hr.1; have hf := hr.2; clear hr; have hs := Q.le hq; try simp at hs
    have hw1 : wrap64 ((j : Int) + 1 + 1) = (j : Int) + 1 + 1 := w64 (by omega)
    have hw2 : wrap64 (c + 1) = c + 1 := w64 (by omega)
    by_cases hd : (j : Int) + 1 ≤ S_l07Days year month
    · have hd' : ¬ S_l07Days year month < (j : Int) + 1 := by omega
      by_cases hf : S_l07Weekday (S_l07Number ⟨year, month, (j : Int) + 1⟩) = weekday
      · by_cases hn0 : (n == 0) = true
        · have hst2 : nthUp (fun d => decide (S_l07Weekday (S_l07Number ⟨year, month, d⟩) = weekday)) n (j + 1) = ((j : Int) + 1, c + 1) := by
            have hn00 : n = 0 := by simpa using hn0
            unfold nthUp; rw [hst]; simp [hf, hn00]
          clear hst
          go_wp2_with (first | (go_at_call 102; refine (c_S_l07Days _ _ _ ).mono ?_; rintro e w1 ⟨rfl, rfl⟩) | (go_at_call 123; refine (c_S_l07Weekday _ _ ).mono ?_; rintro e w1 ⟨rfl, rfl⟩) | (go_at_call 103; refine (c_S_l07Number _ _ _ _ (by first | assumption | decide | omega | (unfold wrap64; omega) | exact (pre_month (by assumption)).1 | exact (pre_month (by assumption)).2.1 | exact (pre_month (by assumption)).2.2 | exact (pre_day (by assumption)).1 | exact (pre_day (by assumption)).2.1 | exact (pre_day (by assumption)).2.2 | exact (pre_dayI (by assumption)).1 | exact (pre_dayI (by assumption)).2.1 | exact (pre_dayI (by assumption)).2.2 | exact (pre_moment (by assumption)).1 | exact (pre_moment (by assumption)).2.1 | exact (pre_moment (by assumption)).2.2 | exact (pre_moment0 (by assumption)).1 | exact (pre_moment0 (by assumption)).2.1 | exact (pre_moment0 (by assumption)).2.2 | exact (pre_zone (by assumption)).1 | exact (pre_zone (by assumption)).2 | exact pre_date (by assumption) | exact nthWeekday_month (by assumption) | exact shift_month _ _ _ | exact later_month _ _)).mono ?_; rintro e w1 ⟨rfl, hq⟩; obtain ⟨hc, hf⟩ := hq.rules; have hs := hq.le; try simp at hs))
          go_roundg (gk - 1)
          case measure => omega
          case rel => exact ⟨(by repeat (first | (with_reducible exact Q.refl _) | (with_reducible assumption) | (with_reducible refine Q.setCell ?_ (by dsimp only; omega) _) | (with_reducible refine Q.alloc ?_ _) | (with_reducible refine Q.drew ?_) | (with_reducible refine Q.call ?_ (by with_reducible assumption)))), j + 1, (j : Int) + 1, c + 1, hst2, by (first | rfl | simp | simp [*]), by (first | rfl | simp | simp [*]), by omega, by omega, by omega, by (try simp at hs); (try simp); omega, (by (try go_simp); (repeat (simp (disch := omega) only [if_pos, if_neg]; try go_simp)); first | done | rfl | (intro hx; exfalso; omega) | (simp [*]; done)), (by (try go_simp); (repeat (simp (disch := omega) only [if_pos, if_neg]; try go_simp)); first | done | rfl | (intro hx; exfalso; omega) | (simp [*]; done)), (by (try go_simp); (repeat (simp (disch := omega) only [if_pos, if_neg]; try go_simp)); first | done | rfl | (intro hx; exfalso; omega) | (simp [*]; done)), (by (try go_simp); (repeat (simp (disch := omega) only [if_pos, if_neg]; try go_simp)); first | done | rfl | (intro hx; exfalso; omega) | (simp [*]; done)), (by (try go_simp); (repeat (simp (disch := omega) only [if_pos, if_neg]; try go_simp)); first | done | rfl | (intro hx; exfalso; omega) | (simp [*]; done)), (by (try go_simp); (repeat (simp (disch := omega) only [if_pos, if_neg]; try go_simp)); first | done | rfl | (intro hx; exfalso; omega) | (simp [*]; done)), (by (try go_simp); (repeat (simp (disch := omega) only [if_pos, if_neg]; try go_simp)); first | done | rfl | (intro hx; exfalso; omega) | (simp [*]; done)), (by (try go_simp); (repeat (simp (disch := omega) only [if_pos, if_neg]; try go_simp)); first | done | rfl | (intro hx; exfalso; omega) | (simp [*]; done)), (by (try go_simp); (repeat (simp (disch := omega) only [if_pos, if_neg]; try go_simp)); first | done | rfl | (intro hx; exfalso; omega) | (simp [*]; done)), (by (try go_simp); (repeat (simp (disch := omega) only [if_pos, if_neg]; try go_simp)); first | done | rfl | (intro hx; exfalso; omega) | (simp [*]; done)), (by (try go_simp); (repeat (simp (disch := omega) only [if_pos, if_neg]; try go_simp)); first | done | rfl | (intro hx; exfalso; omega) | (simp [*]; done)), (by (try go_simp); (repeat (simp (disch := omega) only [if_pos, if_neg]; try go_simp)); first | done | rfl | (intro hx; exfalso; omega) | (simp [*]; done))⟩

        · have hn01 : ¬ n = 0 := by simpa using hn0
          by_cases hn1 : (c + 1 == n) = true
          · have hst2 : nthUp (fun d => decide (S_l07Weekday (S_l07Number ⟨year, month, d⟩) = weekday)) n (j + 1) = ((j : Int) + 1, c + 1) := by
              have hn11 : c + 1 = n := by simpa using hn1
              unfold nthUp; rw [hst]; simp [hf, hn01, hn11]
            clear hst
            go_wp2_with (first | (go_at_call 102; refine (c_S_l07Days _ _ _ ).mono ?_; rintro e w1 ⟨rfl, rfl⟩) | (go_at_call 123; refine (c_S_l07Weekday _ _ ).mono ?_; rintro e w1 ⟨rfl, rfl⟩) | (go_at_call 103; refine (c_S_l07Number _ _ _ _ (by first | assumption | decide | omega | (unfold wrap64; omega) | exact (pre_month (by assumption)).1 | exact (pre_month (by assumption)).2.1 | exact (pre_month (by assumption)).2.2 | exact (pre_day (by assumption)).1 | exact (pre_day (by assumption)).2.1 | exact (pre_day (by assumption)).2.2 | exact (pre_dayI (by assumption)).1 | exact (pre_dayI (by assumption)).2.1 | exact (pre_dayI (by assumption)).2.2 | exact (pre_moment (by assumption)).1 | exact (pre_moment (by assumption)).2.1 | exact (pre_moment (by assumption)).2.2 | exact (pre_moment0 (by assumption)).1 | exact (pre_moment0 (by assumption)).2.1 | exact (pre_moment0 (by assumption)).2.2 | exact (pre_zone (by assumption)).1 | exact (pre_zone (by assumption)).2 | exact pre_date (by assumption) | exact nthWeekday_month (by assumption) | exact shift_month _ _ _ | exact later_month _ _)).mono ?_; rintro e w1 ⟨rfl, hq⟩; obtain ⟨hc, hf⟩ := hq.rules; have hs := hq.le; try simp at hs))
            go_roundg (gk - 1)
            case measure => omega
            case rel => exact ⟨(by repeat (first | (with_reducible exact Q.refl _) | (with_reducible assumption) | (with_reducible refine Q.setCell ?_ (by dsimp only; omega) _) | (with_reducible refine Q.alloc ?_ _) | (with_reducible refine Q.drew ?_) | (with_reducible refine Q.call ?_ (by with_reducible assumption)))), j + 1, (j : Int) + 1, c + 1, hst2, by (first | rfl | simp | simp [*]), by (first | rfl | simp | simp [*]), by omega, by omega, by omega, by (try simp at hs); (try simp); omega, (by (try go_simp); (repeat (simp (disch := omega) only [if_pos, if_neg]; try go_simp)); first | done | rfl | (intro hx; exfalso; omega) | (simp [*]; done)), (by (try go_simp); (repeat (simp (disch := omega) only [if_pos, if_neg]; try go_simp)); first | done | rfl | (intro hx; exfalso; omega) | (simp [*]; done)), (by (try go_simp); (repeat (simp (disch := omega) only [if_pos, if_neg]; try go_simp)); first | done | rfl | (intro hx; exfalso; omega) | (simp [*]; done)), (by (try go_simp); (repeat (simp (disch := omega) only [if_pos, if_neg]; try go_simp)); first | done | rfl | (intro hx; exfalso; omega) | (simp [*]; done)), (by (try go_simp); (repeat (simp (disch := omega) only [if_pos, if_neg]; try go_simp)); first | done | rfl | (intro hx; exfalso; omega) | (simp [*]; done)), (by (try go_simp); (repeat (simp (disch := omega) only [if_pos, if_neg]; try go_simp)); first | done | rfl | (intro hx; exfalso; omega) | (simp [*]; done)), (by (try go_simp); (repeat (simp (disch := omega) only [if_pos, if_neg]; try go_simp)); first | done | rfl | (intro hx; exfalso; omega) | (simp [*]; done)), (by (try go_simp); (repeat (simp (disch := omega) only [if_pos, if_neg]; try go_simp)); first | done | rfl | (intro hx; exfalso; omega) | (simp [*]; done)), (by (try go_simp); (repeat (simp (disch := omega) only [if_pos, if_neg]; try go_simp)); first | done | rfl | (intro hx; exfalso; omega) | (simp [*]; done)), (by (try go_simp); (repeat (simp (disch := omega) only [if_pos, if_neg]; try go_simp)); first | done | rfl | (intro hx; exfalso; omega) | (simp [*]; done)), (by (try go_simp); (repeat (simp (disch := omega) only [if_pos, if_neg]; try go_simp)); first | done | rfl | (intro hx; exfalso; omega) | (simp [*]; done)), (by (try go_simp); (repeat (simp (disch := omega) only [if_pos, if_neg]; try go_simp)); first | done | rfl | (intro hx; exfalso; omega) | (simp [*]; done))⟩

          · have hn11 : ¬ c + 1 = n := by simpa using hn1
            have hst2 : nthUp (fun d => decide (S_l07Weekday (S_l07Number ⟨year, month, d⟩) = weekday)) n (j + 1) = (o, c + 1) := by unfold nthUp; rw [hst]; simp [hf, hn01, hn11]
            clear hst
            go_wp2_with (first | (go_at_call 102; refine (c_S_l07Days _ _ _ ).mono ?_; rintro e w1 ⟨rfl, rfl⟩) | (go_at_call 123; refine (c_S_l07Weekday _ _ ).mono ?_; rintro e w1 ⟨rfl, rfl⟩) | (go_at_call 103; refine (c_S_l07Number _ _ _ _ (by first | assumption | decide | omega | (unfold wrap64; omega) | exact (pre_month (by assumption)).1 | exact (pre_month (by assumption)).2.1 | exact (pre_month (by assumption)).2.2 | exact (pre_day (by assumption)).1 | exact (pre_day (by assumption)).2.1 | exact (pre_day (by assumption)).2.2 | exact (pre_dayI (by assumption)).1 | exact (pre_dayI (by assumption)).2.1 | exact (pre_dayI (by assumption)).2.2 | exact (pre_moment (by assumption)).1 | exact (pre_moment (by assumption)).2.1 | exact (pre_moment (by assumption)).2.2 | exact (pre_moment0 (by assumption)).1 | exact (pre_moment0 (by assumption)).2.1 | exact (pre_moment0 (by assumption)).2.2 | exact (pre_zone (by assumption)).1 | exact (pre_zone (by assumption)).2 | exact pre_date (by assumption) | exact nthWeekday_month (by assumption) | exact shift_month _ _ _ | exact later_month _ _)).mono ?_; rintro e w1 ⟨rfl, hq⟩; obtain ⟨hc, hf⟩ := hq.rules; have hs := hq.le; try simp at hs))
            go_roundg (gk - 1)
            case measure => omega
            case rel => exact ⟨(by repeat (first | (with_reducible exact Q.refl _) | (with_reducible assumption) | (with_reducible refine Q.setCell ?_ (by dsimp only; omega) _) | (with_reducible refine Q.alloc ?_ _) | (with_reducible refine Q.drew ?_) | (with_reducible refine Q.call ?_ (by with_reducible assumption)))), j + 1, o, c + 1, hst2, by (first | rfl | simp | simp [*]), by (first | rfl | simp | simp [*]), by omega, by omega, by omega, by (try simp at hs); (try simp); omega, (by (try go_simp); (repeat (simp (disch := omega) only [if_pos, if_neg]; try go_simp)); first | done | rfl | (intro hx; exfalso; omega) | (simp [*]; done)), (by (try go_simp); (repeat (simp (disch := omega) only [if_pos, if_neg]; try go_simp)); first | done | rfl | (intro hx; exfalso; omega) | (simp [*]; done)), (by (try go_simp); (repeat (simp (disch := omega) only [if_pos, if_neg]; try go_simp)); first | done | rfl | (intro hx; exfalso; omega) | (simp [*]; done)), (by (try go_simp); (repeat (simp (disch := omega) only [if_pos, if_neg]; try go_simp)); first | done | rfl | (intro hx; exfalso; omega) | (simp [*]; done)), (by (try go_simp); (repeat (simp (disch := omega) only [if_pos, if_neg]; try go_simp)); first | done | rfl | (intro hx; exfalso; omega) | (simp [*]; done)), (by (try go_simp); (repeat (simp (disch := omega) only [if_pos, if_neg]; try go_simp)); first | done | rfl | (intro hx; exfalso; omega) | (simp [*]; done)), (by (try go_simp); (repeat (simp (disch := omega) only [if_pos, if_neg]; try go_simp)); first | done | rfl | (intro hx; exfalso; omega) | (simp [*]; done)), (by (try go_simp); (repeat (simp (disch := omega) only [if_pos, if_neg]; try go_simp)); first | done | rfl | (intro hx; exfalso; omega) | (simp [*]; done)), (by (try go_simp); (repeat (simp (disch := omega) only [if_pos, if_neg]; try go_simp)); first | done | rfl | (intro hx; exfalso; omega) | (simp [*]; done)), (by (try go_simp); (repeat (simp (disch := omega) only [if_pos, if_neg]; try go_simp)); first | done | rfl | (intro hx; exfalso; omega) | (simp [*]; done)), (by (try go_simp); (repeat (simp (disch := omega) only [if_pos, if_neg]; try go_simp)); first | done | rfl | (intro hx; exfalso; omega) | (simp [*]; done)), (by (try go_simp); (repeat (simp (disch := omega) only [if_pos, if_neg]; try go_simp)); first | done | rfl | (intro hx; exfalso; omega) | (simp [*]; done))⟩

      · have hst2 : nthUp (fun d => decide (S_l07Weekday (S_l07Number ⟨year, month, d⟩) = weekday)) n (j + 1) = (o, c) := by unfold nthUp; rw [hst]; simp [hf]
        clear hst
        go_wp2_with (first | (go_at_call 102; refine (c_S_l07Days _ _ _ ).mono ?_; rintro e w1 ⟨rfl, rfl⟩) | (go_at_call 123; refine (c_S_l07Weekday _ _ ).mono ?_; rintro e w1 ⟨rfl, rfl⟩) | (go_at_call 103; refine (c_S_l07Number _ _ _ _ (by first | assumption | decide | omega | (unfold wrap64; omega) | exact (pre_month (by assumption)).1 | exact (pre_month (by assumption)).2.1 | exact (pre_month (by assumption)).2.2 | exact (pre_day (by assumption)).1 | exact (pre_day (by assumption)).2.1 | exact (pre_day (by assumption)).2.2 | exact (pre_dayI (by assumption)).1 | exact (pre_dayI (by assumption)).2.1 | exact (pre_dayI (by assumption)).2.2 | exact (pre_moment (by assumption)).1 | exact (pre_moment (by assumption)).2.1 | exact (pre_moment (by assumption)).2.2 | exact (pre_moment0 (by assumption)).1 | exact (pre_moment0 (by assumption)).2.1 | exact (pre_moment0 (by assumption)).2.2 | exact (pre_zone (by assumption)).1 | exact (pre_zone (by assumption)).2 | exact pre_date (by assumption) | exact nthWeekday_month (by assumption) | exact shift_month _ _ _ | exact later_month _ _)).mono ?_; rintro e w1 ⟨rfl, hq⟩; obtain ⟨hc, hf⟩ := hq.rules; have hs := hq.le; try simp at hs))
        go_roundg (gk - 1)
        case measure => omega
        case rel => exact ⟨(by repeat (first | (with_reducible exact Q.refl _) | (with_reducible assumption) | (with_reducible refine Q.setCell ?_ (by dsimp only; omega) _) | (with_reducible refine Q.alloc ?_ _) | (with_reducible refine Q.drew ?_) | (with_reducible refine Q.call ?_ (by with_reducible assumption)))), j + 1, o, c, hst2, by (first | rfl | simp | simp [*]), by (first | rfl | simp | simp [*]), by omega, by omega, by omega, by (try simp at hs); (try simp); omega, (by (try go_simp); (repeat (simp (disch := omega) only [if_pos, if_neg]; try go_simp)); first | done | rfl | (intro hx; exfalso; omega) | (simp [*]; done)), (by (try go_simp); (repeat (simp (disch := omega) only [if_pos, if_neg]; try go_simp)); first | done | rfl | (intro hx; exfalso; omega) | (simp [*]; done)), (by (try go_simp); (repeat (simp (disch := omega) only [if_pos, if_neg]; try go_simp)); first | done | rfl | (intro hx; exfalso; omega) | (simp [*]; done)), (by (try go_simp); (repeat (simp (disch := omega) only [if_pos, if_neg]; try go_simp)); first | done | rfl | (intro hx; exfalso; omega) | (simp [*]; done)), (by (try go_simp); (repeat (simp (disch := omega) only [if_pos, if_neg]; try go_simp)); first | done | rfl | (intro hx; exfalso; omega) | (simp [*]; done)), (by (try go_simp); (repeat (simp (disch := omega) only [if_pos, if_neg]; try go_simp)); first | done | rfl | (intro hx; exfalso; omega) | (simp [*]; done)), (by (try go_simp); (repeat (simp (disch := omega) only [if_pos, if_neg]; try go_simp)); first | done | rfl | (intro hx; exfalso; omega) | (simp [*]; done)), (by (try go_simp); (repeat (simp (disch := omega) only [if_pos, if_neg]; try go_simp)); first | done | rfl | (intro hx; exfalso; omega) | (simp [*]; done)), (by (try go_simp); (repeat (simp (disch := omega) only [if_pos, if_neg]; try go_simp)); first | done | rfl | (intro hx; exfalso; omega) | (simp [*]; done)), (by (try go_simp); (repeat (simp (disch := omega) only [if_pos, if_neg]; try go_simp)); first | done | rfl | (intro hx; exfalso; omega) | (simp [*]; done)), (by (try go_simp); (repeat (simp (disch := omega) only [if_pos, if_neg]; try go_simp)); first | done | rfl | (intro hx; exfalso; omega) | (simp [*]; done)), (by (try go_simp); (repeat (simp (disch := omega) only [if_pos, if_neg]; try go_simp)); first | done | rfl | (intro hx; exfalso; omega) | (simp [*]; done))⟩

    · have hj : j = (S_l07Days year month).toNat := by omega
      have hd' : S_l07Days year month < (j : Int) + 1 := by omega
      have hM : S_l07Nth year month weekday n = ⟨year, month, o⟩ := by unfold S_l07Nth; rw [← hj, hst]
      clear hst hj
      go_wp2_with (first | (go_at_call 102; refine (c_S_l07Days _ _ _ ).mono ?_; rintro e w1 ⟨rfl, rfl⟩) | (go_at_call 123; refine (c_S_l07Weekday _ _ ).mono ?_; rintro e w1 ⟨rfl, rfl⟩) | (go_at_call 103; refine (c_S_l07Number _ _ _ _ (by first | assumption | decide | omega | (unfold wrap64; omega) | exact (pre_month (by assumption)).1 | exact (pre_month (by assumption)).2.1 | exact (pre_month (by assumption)).2.2 | exact (pre_day (by assumption)).1 | exact (pre_day (by assumption)).2.1 | exact (pre_day (by assumption)).2.2 | exact (pre_dayI (by assumption)).1 | exact (pre_dayI (by assumption)).2.1 | exact (pre_dayI (by assumption)).2.2 | exact (pre_moment (by assumption)).1 | exact (pre_moment (by assumption)).2.1 | exact (pre_moment (by assumption)).2.2 | exact (pre_moment0 (by assumption)).1 | exact (pre_moment0 (by assumption)).2.1 | exact (pre_moment0 (by assumption)).2.2 | exact (pre_zone (by assumption)).1 | exact (pre_zone (by assumption)).2 | exact pre_date (by assumption) | exact nthWeekday_month (by assumption) | exact shift_month _ _ _ | exact later_month _ _)).mono ?_; rintro e w1 ⟨rfl, hq⟩; obtain ⟨hc, hf⟩ := hq.rules; have hs := hq.le; try simp at hs))
      refine bodyPost_ret (v := .agg #[.int .i64 (S_l07Nth year month weekday n).Year, .int .i64 (S_l07Nth year month weekday n).Month, .int .i64 (S_l07Nth year month weekday n).Day]) ?_ rfl ⟨rfl, ?_⟩
      · rw [hM]; first | (simp [results, Try.results104, go_sem, *]; done) | (simp [results, Try.results104, go_sem, *]; repeat (simp (disch := omega) only [if_pos, if_neg]; try simp [go_sem, *]))
      · exact (by repeat (first | (with_reducible exact Q.refl _) | (with_reducible assumption) | (with_reducible refine Q.setCell ?_ (by dsimp only; omega) _) | (with_reducible refine Q.alloc ?_ _) | (with_reducible refine Q.drew ?_) | (with_reducible refine Q.call ?_ (by with_reducible assumption))))


set_option maxHeartbeats 4000000 in
theorem c_S_l11Summer (z_Offset : Int) (z_StartMonth : Int) (z_StartWeek : Int) (z_EndMonth : Int) (z_EndWeek : Int) (d_Year : Int) (d_Month : Int) (d_Day : Int) (w : World) (hp0 : z_StartMonth ≤ 9223372036854775807) (hp1 : z_EndMonth ≤ 9223372036854775807) (hp2 : d_Month ≤ 9223372036854775807) : Calls Try.prog 62 #[.agg #[.int .i64 z_Offset, .int .i64 z_StartMonth, .int .i64 z_StartWeek, .int .i64 z_EndMonth, .int .i64 z_EndWeek], .agg #[.int .i64 d_Year, .int .i64 d_Month, .int .i64 d_Day]] w fun e w' => e = .returned (.bool ((S_l11Summer (⟨z_Offset, z_StartMonth, z_StartWeek, z_EndMonth, z_EndWeek⟩ : Zone) (⟨d_Year, d_Month, d_Day⟩ : Date)))) ∧ Q w w' := by
  have hset := setRule
  have hall := allocRule
  have halm := allocMark
  have hw64 := wrapRule
  go_enter Try.func62, Try.ntmps62
  go_wp2_with (first | (go_at_call 103; refine (c_S_l07Number _ _ _ _ (by first | assumption | decide | omega | (unfold wrap64; omega) | exact (pre_month (by assumption)).1 | exact (pre_month (by assumption)).2.1 | exact (pre_month (by assumption)).2.2 | exact (pre_day (by assumption)).1 | exact (pre_day (by assumption)).2.1 | exact (pre_day (by assumption)).2.2 | exact (pre_dayI (by assumption)).1 | exact (pre_dayI (by assumption)).2.1 | exact (pre_dayI (by assumption)).2.2 | exact (pre_moment (by assumption)).1 | exact (pre_moment (by assumption)).2.1 | exact (pre_moment (by assumption)).2.2 | exact (pre_moment0 (by assumption)).1 | exact (pre_moment0 (by assumption)).2.1 | exact (pre_moment0 (by assumption)).2.2 | exact (pre_zone (by assumption)).1 | exact (pre_zone (by assumption)).2 | exact pre_date (by assumption) | exact nthWeekday_month (by assumption) | exact shift_month _ _ _ | exact later_month _ _)).mono ?_; rintro e w1 ⟨rfl, hq⟩; obtain ⟨hc, hf⟩ := hq.rules; have hs := hq.le; try simp at hs) | (go_at_call 104; refine (c_S_l07Nth _ _ _ _ _ (by first | assumption | decide | omega | (unfold wrap64; omega))).mono ?_; rintro e w1 ⟨rfl, hq⟩; obtain ⟨hc, hf⟩ := hq.rules; have hs := hq.le; try simp at hs))
  all_goals go_ret
  all_goals refine ⟨?_, (by (repeat (first | (with_reducible exact Q.refl _) | (with_reducible assumption) | (with_reducible refine Q.setCell ?_ (by dsimp only; omega) _) | (with_reducible refine Q.alloc ?_ _) | (with_reducible refine Q.drew ?_) | (with_reducible refine Q.call ?_ (by with_reducible assumption)))))⟩
  all_goals first | (simp [S_l11Summer, *]; done) | (simp [S_l11Summer, *]; omega) | (simp [S_l11Summer, *]; simp (disch := omega) only [if_pos, if_neg]; done) | (simp_all [S_l11Summer]; done) | (simp_all [S_l11Summer]; omega)

end Go.Proofs.Ytlckpdagejbchaa
