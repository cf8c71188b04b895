/- The statement Rows.FnExactSeasonDaysSaid is proved: for every argument the law returns true and its arguments read as before. No conditions. -/
import Derived.Test.YtlckpdagejbchaaRows
import Derived.Test.YtlckpdagejbchaaLaw
import Derived.Test.YtlckpdagejbchaaC1
import Derived.Test.YtlckpdagejbchaaC2
import Derived.Test.YtlckpdagejbchaaC3
import Derived.Test.YtlckpdagejbchaaC4
import Derived.Test.YtlckpdagejbchaaC5
import Derived.Test.YtlckpdagejbchaaE1
import Derived.Test.YtlckpdagejbchaaE2
import Derived.Test.YtlckpdagejbchaaE3
import Derived.Test.YtlckpdagejbchaaE4
import Derived.Test.YtlckpdagejbchaaE5
import Derived.Test.YtlckpdagejbchaaE7
import Derived.WalkKit
import Derived.ProofKit
import Derived.OpenShut
import Derived.WalkLawsBesides
import Derived.BigQuiet
import Derived.Deep.QuietTactic
import Derived.Deep.LoopGhost
import Derived.LoopN
import Derived.Deep.RegionWith
import Derived.Deep.CutRange
import Derived.Test.YtlckpdagejbchaaOwn
namespace Go.Proofs.Ytlckpdagejbchaa
open Go.ChangeShapes Go.WideShapes Go.ChangeAt Go.RowKit
set_option linter.unusedVariables false
set_option linter.unusedSimpArgs false
theorem Row.mfrozen {w : World} {g : Nat} {xs : List Value} (hr : Row w g xs) (k : Int) (n : Nat) : ∀ b o, (markAll w g k n).frozen? ⟨b, o, none⟩ = w.frozen? ⟨b, o, none⟩ := markAll_frozen w g k n
theorem Row.msize {w : World} {g : Nat} {xs : List Value} (hr : Row w g xs) (k : Int) (n : Nat) : (markAll w g k n).heap.size = w.heap.size := markAll_size w g k n
set_option maxHeartbeats 1000000 in
theorem c_L_eqInt64S_same (zs : List Int) (g g2 cap cap2 : Nat) (w : World) (hl : zs.length ≤ 100000) (r : Row w g (ints zs)) (r2 : Row w g2 (ints zs)) : Calls Try.prog 39 #[.slice (some ⟨g, 0, none⟩) zs.length cap, .slice (some ⟨g2, 0, none⟩) zs.length cap2] w fun e w' => e = .returned (.bool true) ∧ Q w w' := by
  have hset := setRule
  have hall := allocRule
  have halm := allocMark
  have hw64 := wrapRule
  have hg1 := r.1
  have hk1 := r2.1
  go_enter Try.func39, Try.ntmps39
  go_wp2
  go_loopg [5] zs.length (fun k i wr => Q w wr ∧ ∃ j : Nat, j + k = zs.length ∧ i = .int .i64 (j : Int))
  case atStart => exact ⟨(by repeat (first | (with_reducible exact Q.refl _) | (with_reducible assumption) | (with_reducible refine Q.setCell ?_ (by dsimp only; omega) _) | (with_reducible refine Q.alloc ?_ _) | (with_reducible refine Q.drew ?_) | (with_reducible refine Q.call ?_ (by with_reducible assumption)))), 0, by omega, rfl⟩
  case round =>
    obtain ⟨hq, j, hjk, rfl⟩ := hrel
    have hr := Q.rules hq; have hc := hr.1; have hf := hr.2; clear hr; have hs := Q.le hq; try simp at hs
    have hw1 : wrap64 ((j : Int) + 1) = (j : Int) + 1 := w64 (by omega)
    by_cases hj : j < zs.length
    · have hjI : (j : Int) < (zs.length : Int) := by omega
      have hjg : ¬ (zs.length : Int) ≤ (j : Int) := by omega
      have hx1 := r.at hj
      have hx2 := r2.at hj
      go_wp2
      all_goals try (
        refine region_Q_all (id := 6) (by kernel_rfl) (by kernel_rfl) ?_
        repeat (first | (apply q_step rfl; (intro wq hq; have hr := Q.rules hq; have hcq := hr.1; have hfq := hr.2; clear hr; have hsq := Q.le hq; (try simp at hsq); go_simp; (repeat (simp (disch := omega) only [if_pos, if_neg]; try go_simp)); (first | rfl | exact ⟨rfl, rfl⟩)); try go_simp) | (apply q_skip rfl; try go_simp))
        refine wpQuiet_nil ?_
        intro w1 hq
        have hr := Q.rules hq; have hc := hr.1; have hf := hr.2; clear hr; have hs := Q.le hq; try simp at hs)
      all_goals try go_wp2
      go_roundg (gk - 1)
      case measure => omega
      case rel => exact ⟨(by repeat (first | (with_reducible exact Q.refl _) | (with_reducible assumption) | (with_reducible refine Q.setCell ?_ (by dsimp only; omega) _) | (with_reducible refine Q.alloc ?_ _) | (with_reducible refine Q.drew ?_) | (with_reducible refine Q.call ?_ (by with_reducible assumption)))), j + 1, by omega, by (first | rfl | simp)⟩
    · have hjI : ¬ (j : Int) < (zs.length : Int) := by omega
      have hjg : (zs.length : Int) ≤ (j : Int) := by omega
      have hje : j = zs.length := by omega
      go_wp2
      go_ret
      refine ⟨?_, (by repeat (first | (with_reducible exact Q.refl _) | (with_reducible assumption) | (with_reducible refine Q.setCell ?_ (by dsimp only; omega) _) | (with_reducible refine Q.alloc ?_ _) | (with_reducible refine Q.drew ?_) | (with_reducible refine Q.call ?_ (by with_reducible assumption))))⟩
      first | rfl | (simp [*]; done) | (simp_all; done)
theorem c_L_eqInt64S0 (w : World) : Calls Try.prog 39 #[.slice none 0 0, .slice none 0 0] w fun e w' => e = .returned (.bool true) ∧ Q w w' := by
  have hset := setRule
  have hall := allocRule
  have halm := allocMark
  have hw64 := wrapRule
  go_enter Try.func39, Try.ntmps39
  go_wp2
  all_goals try (refine wp_loop_rounds 1 ?_; rw [rounds_succ])
  all_goals try (go_wp2)
  all_goals go_ret
  all_goals refine ⟨?_, (by repeat (first | (with_reducible exact Q.refl _) | (with_reducible assumption) | (with_reducible refine Q.setCell ?_ (by dsimp only; omega) _) | (with_reducible refine Q.alloc ?_ _) | (with_reducible refine Q.drew ?_) | (with_reducible refine Q.call ?_ (by with_reducible assumption))))⟩
  all_goals first | (simp [*]; done) | rfl

set_option maxHeartbeats 1000000 in
theorem c_L_markInt64S_n (zs : List Int) (g cap : Nat) (w : World) (hl : zs.length ≤ 100000) (r : Row w g (ints zs)) : Calls Try.prog 40 #[.slice (some ⟨g, 0, none⟩) zs.length cap, .int .i64 1] w fun e w' => e = .returned (.int .i64 (1 + (zs.length : Int))) ∧ w' = markAll w g 1 zs.length := by
  have hset := setCell_at
  have hsm := setCell_mark
  have hall := allocRule
  have halm := allocMark
  have hw64 := wrapRule
  have hg1 := r.1
  go_enter Try.func40, Try.ntmps40
  go_wp2
  go_loopg [1, 5] zs.length (fun k m i wr => ∃ j : Nat, j + k = zs.length ∧ i = .int .i64 (j : Int) ∧ m = .int .i64 (1 + (j : Int)) ∧ wr = markAll w g 1 j)
  case atStart => exact ⟨0, by omega, rfl, rfl, rfl⟩
  case round =>
    obtain ⟨j, hjk, rfl, rfl, rfl⟩ := hrel
    have hw1 : wrap64 ((j : Int) + 1) = (j : Int) + 1 := w64 (by omega)
    have hw2 : wrap64 (1 + (j : Int) + 1) = 1 + (j : Int) + 1 := w64 (by omega)
    by_cases hj : j < zs.length
    · have hjI : (j : Int) < (zs.length : Int) := by omega
      have hjg : ¬ (zs.length : Int) ≤ (j : Int) := by omega
      have hx1 := mark_at r 1 hj
      have hx2 := mark_free r 1 j
      go_wp2
      go_roundg (gk - 1)
      case measure => omega
      case rel => exact ⟨j + 1, by omega, by (first | rfl | simp), by (first | rfl | (simp; omega)), rfl⟩
    · have hjI : ¬ (j : Int) < (zs.length : Int) := by omega
      have hjg : (zs.length : Int) ≤ (j : Int) := by omega
      have hje : j = zs.length := by omega
      go_wp2
      go_ret
      subst hje
      exact ⟨by first | rfl | (simp [*]; done), rfl⟩
theorem c_L_markInt64S0 (w : World) : Calls Try.prog 40 #[.slice none 0 0, .int .i64 1] w fun e w' => e = .returned (.int .i64 1) ∧ Q w w' := by
  have hset := setRule
  have hall := allocRule
  have halm := allocMark
  have hw64 := wrapRule
  go_enter Try.func40, Try.ntmps40
  go_wp2
  all_goals try (refine wp_loop_rounds 1 ?_; rw [rounds_succ])
  all_goals try (go_wp2)
  all_goals go_ret
  all_goals refine ⟨?_, (by repeat (first | (with_reducible exact Q.refl _) | (with_reducible assumption) | (with_reducible refine Q.setCell ?_ (by dsimp only; omega) _) | (with_reducible refine Q.alloc ?_ _) | (with_reducible refine Q.drew ?_) | (with_reducible refine Q.call ?_ (by with_reducible assumption))))⟩
  all_goals first | (simp [*]; done) | rfl

set_option maxHeartbeats 1000000 in
theorem c_L_heldInt64S_n (n g cap : Nat) (w : World) (hl : n ≤ 100000) (r : Row w g (marks 1 n)) : Calls Try.prog 41 #[.slice (some ⟨g, 0, none⟩) n cap, .int .i64 1] w fun e w' => e = .returned (.int .i64 (1 + (n : Int))) ∧ Q w w' := by
  have hset := setRule
  have hall := allocRule
  have halm := allocMark
  have hw64 := wrapRule
  have hg1 := r.1
  go_enter Try.func41, Try.ntmps41
  go_wp2
  go_loopg [1, 5] n (fun k m i wr => Q w wr ∧ ∃ j : Nat, j + k = n ∧ i = .int .i64 (j : Int) ∧ m = .int .i64 (1 + (j : Int)))
  case atStart => exact ⟨(by repeat (first | (with_reducible exact Q.refl _) | (with_reducible assumption) | (with_reducible refine Q.setCell ?_ (by dsimp only; omega) _) | (with_reducible refine Q.alloc ?_ _) | (with_reducible refine Q.drew ?_) | (with_reducible refine Q.call ?_ (by with_reducible assumption)))), 0, by omega, rfl, rfl⟩
  case round =>
    obtain ⟨hq, j, hjk, rfl, rfl⟩ := hrel
    have hr := Q.rules hq; have hc := hr.1; have hf := hr.2; clear hr; have hs := Q.le hq; try simp at hs
    have hw1 : wrap64 ((j : Int) + 1) = (j : Int) + 1 := w64 (by omega)
    have hw2 : wrap64 (1 + (j : Int) + 1) = 1 + (j : Int) + 1 := w64 (by omega)
    by_cases hj : j < n
    · have hjI : (j : Int) < (n : Int) := by omega
      have hjg : ¬ (n : Int) ≤ (j : Int) := by omega
      have hx1 := marks_at r hj
      go_wp2
      go_roundg (gk - 1)
      case measure => omega
      case rel => exact ⟨(by repeat (first | (with_reducible exact Q.refl _) | (with_reducible assumption) | (with_reducible refine Q.setCell ?_ (by dsimp only; omega) _) | (with_reducible refine Q.alloc ?_ _) | (with_reducible refine Q.drew ?_) | (with_reducible refine Q.call ?_ (by with_reducible assumption)))), j + 1, by omega, by (first | rfl | simp), by (first | rfl | (simp; omega))⟩
    · have hjI : ¬ (j : Int) < (n : Int) := by omega
      have hjg : (n : Int) ≤ (j : Int) := by omega
      have hje : j = n := by omega
      go_wp2
      subst hje
      go_ret
      refine ⟨?_, (by repeat (first | (with_reducible exact Q.refl _) | (with_reducible assumption) | (with_reducible refine Q.setCell ?_ (by dsimp only; omega) _) | (with_reducible refine Q.alloc ?_ _) | (with_reducible refine Q.drew ?_) | (with_reducible refine Q.call ?_ (by with_reducible assumption))))⟩
      first | rfl | (simp [*]; done) | (simp_all; done)
theorem c_L_heldInt64S0 (w : World) : Calls Try.prog 41 #[.slice none 0 0, .int .i64 1] w fun e w' => e = .returned (.int .i64 1) ∧ Q w w' := by
  have hset := setRule
  have hall := allocRule
  have halm := allocMark
  have hw64 := wrapRule
  go_enter Try.func41, Try.ntmps41
  go_wp2
  all_goals try (refine wp_loop_rounds 1 ?_; rw [rounds_succ])
  all_goals try (go_wp2)
  all_goals go_ret
  all_goals refine ⟨?_, (by repeat (first | (with_reducible exact Q.refl _) | (with_reducible assumption) | (with_reducible refine Q.setCell ?_ (by dsimp only; omega) _) | (with_reducible refine Q.alloc ?_ _) | (with_reducible refine Q.drew ?_) | (with_reducible refine Q.call ?_ (by with_reducible assumption))))⟩
  all_goals first | (simp [*]; done) | rfl

set_option maxRecDepth 100000 in
set_option maxHeartbeats 8000000 in
theorem c_S_SeasonDays_ok (year : Int) (w : World) (h0 : S_l01In year 1901 2099 = true) : Calls Try.prog 37 #[.int .i64 year] w fun e w' => ∃ g cap, e = .returned (.tuple #[.slice (some ⟨g, 0, none⟩) (S_Seasons year).length cap, .int .i64 0]) ∧ Q w w' ∧ w.heap.size ≤ g ∧ Row w' g (ints (S_Seasons year)) := by
  have hset := setRule
  have hall := allocRule
  have halm := allocMark
  have hw64 := wrapRule
  have hwl1 : wrap64 1 = 1 := w64 (by omega)
  have hwl2 : wrap64 2 = 2 := w64 (by omega)
  have hwl3 : wrap64 3 = 3 := w64 (by omega)
  have hwl4 : wrap64 4 = 4 := w64 (by omega)
  have hwq0 : wrap64 0 = 0 := w64 (by omega)
  have hwq1 : wrap64 324000 = 324000 := w64 (by omega)
  have hwq2 : wrap64 648000 = 648000 := w64 (by omega)
  have hwq3 : wrap64 972000 = 972000 := w64 (by omega)
  have hfd := first_day (year := year) ((in_iff _ _ _).1 h0)
  have hn := hfd.2
  clear hfd
  have hinfo : (Try.prog.info? 2).map (fun i => (i.zero, i.size, i.bytes)) = some (some (.int .i64 0), 1, 8) := by kernel_rfl
  obtain ⟨i0, hi, hz0, hz1, hz2⟩ := info_parts hinfo
  have hmade : (w.alloc (.cells #[] 2)).ownsRow w.heap.size 2 1 (.slice (some ⟨w.heap.size, 0, none⟩) 0 0) 0 [] := by
    have := World.ownsRow_made (base := w.heap.size) (e := 2) (size := 1) w #[] 0 (by simp) (by simp [maxLen]) (by simp)
    simpa using this
  have hvb : ∀ k, (Value.slice (some ⟨w.heap.size, 0, none⟩) 0 0).ownBlock = some k → w.heap.size ≤ k := by intro k hk; simp [Value.ownBlock] at hk; omega
  have hvw := hvb
  go_enter Try.func37, Try.ntmps37
  go_wp2_with (first | (go_at_call 57; refine (c_S_l01In _ _ _ _ ).mono ?_; rintro e w1 ⟨rfl, rfl⟩) | (go_at_call 17; refine (c_S_NextLongitude _ _ _ ).mono ?_; rintro e w1 ⟨rfl, hq⟩; obtain ⟨hc, hf⟩ := hq.rules; have hs := hq.le; try simp at hs) | (go_at_call 77; refine (c_S_l07Year _ _ ).mono ?_; rintro e w1 ⟨rfl, rfl⟩) | (at_builtin; (first | (refine wpList_append_own_at _ rfl _ _ 52 rfl (w.heap.size) 2 i0 (.int .i64 0) 1 8 Try.underlying52 hi hz0 hz1 hz2 rfl (by decide) _ _ _ (by rfl) (own_call (hown) (by repeat (first | (with_reducible exact Q.refl _) | (with_reducible assumption) | (with_reducible refine Q.setCell ?_ (by dsimp only; omega) _) | (with_reducible refine Q.alloc ?_ _) | (with_reducible refine Q.drew ?_) | (refine Q.grown ?_ (by with_reducible assumption) (by with_reducible assumption)) | (with_reducible refine Q.call ?_ (by with_reducible assumption))))) _ 1 1 _ rfl (by simp) (cells_at (by simp)) (by simp [Value.oneCell']) (by first | omega | (simp [maxLen]; done) | (simp [maxLen]; omega)) (by first | omega | (simp; done) | (simp; omega)) (by first | omega | (simp; done) | (simp; omega)) ?_) | (refine wpList_append_own_at _ rfl _ _ 52 rfl (w.heap.size) 2 i0 (.int .i64 0) 1 8 Try.underlying52 hi hz0 hz1 hz2 rfl (by decide) _ _ _ (by rfl) (own_call (hmade) (by repeat (first | (with_reducible exact Q.refl _) | (with_reducible assumption) | (with_reducible refine Q.setCell ?_ (by dsimp only; omega) _) | (with_reducible refine Q.alloc ?_ _) | (with_reducible refine Q.drew ?_) | (refine Q.grown ?_ (by with_reducible assumption) (by with_reducible assumption)) | (with_reducible refine Q.call ?_ (by with_reducible assumption))))) _ 1 1 _ rfl (by simp) (cells_at (by simp)) (by simp [Value.oneCell']) (by first | omega | (simp [maxLen]; done) | (simp [maxLen]; omega)) (by first | omega | (simp; done) | (simp; omega)) (by first | omega | (simp; done) | (simp; omega)) ?_)); intro v2 w1 hown hgrow hnil hblk; have hgr := grown_rules0 (B := w.heap.size) hgrow hvb (by first | omega | (simp; omega)); have hvb := own_block hown; have hvw : ∀ k, v2.ownBlock = some k → w.heap.size ≤ k := fun k hk => Nat.le_trans (by omega) (hvb k hk); obtain ⟨hc, hf, hs⟩ := hgr; (try simp at hs)))
  all_goals try (refine wp_loop_rounds 5 ?_; rw [rounds_succ])
  all_goals try (go_wp2_with (first | (go_at_call 57; refine (c_S_l01In _ _ _ _ ).mono ?_; rintro e w1 ⟨rfl, rfl⟩) | (go_at_call 17; refine (c_S_NextLongitude _ _ _ ).mono ?_; rintro e w1 ⟨rfl, hq⟩; obtain ⟨hc, hf⟩ := hq.rules; have hs := hq.le; try simp at hs) | (go_at_call 77; refine (c_S_l07Year _ _ ).mono ?_; rintro e w1 ⟨rfl, rfl⟩) | (at_builtin; (first | (refine wpList_append_own_at _ rfl _ _ 52 rfl (w.heap.size) 2 i0 (.int .i64 0) 1 8 Try.underlying52 hi hz0 hz1 hz2 rfl (by decide) _ _ _ (by rfl) (own_call (hown) (by repeat (first | (with_reducible exact Q.refl _) | (with_reducible assumption) | (with_reducible refine Q.setCell ?_ (by dsimp only; omega) _) | (with_reducible refine Q.alloc ?_ _) | (with_reducible refine Q.drew ?_) | (refine Q.grown ?_ (by with_reducible assumption) (by with_reducible assumption)) | (with_reducible refine Q.call ?_ (by with_reducible assumption))))) _ 1 1 _ rfl (by simp) (cells_at (by simp)) (by simp [Value.oneCell']) (by first | omega | (simp [maxLen]; done) | (simp [maxLen]; omega)) (by first | omega | (simp; done) | (simp; omega)) (by first | omega | (simp; done) | (simp; omega)) ?_) | (refine wpList_append_own_at _ rfl _ _ 52 rfl (w.heap.size) 2 i0 (.int .i64 0) 1 8 Try.underlying52 hi hz0 hz1 hz2 rfl (by decide) _ _ _ (by rfl) (own_call (hmade) (by repeat (first | (with_reducible exact Q.refl _) | (with_reducible assumption) | (with_reducible refine Q.setCell ?_ (by dsimp only; omega) _) | (with_reducible refine Q.alloc ?_ _) | (with_reducible refine Q.drew ?_) | (refine Q.grown ?_ (by with_reducible assumption) (by with_reducible assumption)) | (with_reducible refine Q.call ?_ (by with_reducible assumption))))) _ 1 1 _ rfl (by simp) (cells_at (by simp)) (by simp [Value.oneCell']) (by first | omega | (simp [maxLen]; done) | (simp [maxLen]; omega)) (by first | omega | (simp; done) | (simp; omega)) (by first | omega | (simp; done) | (simp; omega)) ?_)); intro v2 w1 hown hgrow hnil hblk; have hgr := grown_rules0 (B := w.heap.size) hgrow hvb (by first | omega | (simp; omega)); have hvb := own_block hown; have hvw : ∀ k, v2.ownBlock = some k → w.heap.size ≤ k := fun k hk => Nat.le_trans (by omega) (hvb k hk); obtain ⟨hc, hf, hs⟩ := hgr; (try simp at hs))))
  all_goals try (rw [rounds_succ])
  all_goals try (go_wp2_with (first | (go_at_call 57; refine (c_S_l01In _ _ _ _ ).mono ?_; rintro e w1 ⟨rfl, rfl⟩) | (go_at_call 17; refine (c_S_NextLongitude _ _ _ ).mono ?_; rintro e w1 ⟨rfl, hq⟩; obtain ⟨hc, hf⟩ := hq.rules; have hs := hq.le; try simp at hs) | (go_at_call 77; refine (c_S_l07Year _ _ ).mono ?_; rintro e w1 ⟨rfl, rfl⟩) | (at_builtin; (first | (refine wpList_append_own_at _ rfl _ _ 52 rfl (w.heap.size) 2 i0 (.int .i64 0) 1 8 Try.underlying52 hi hz0 hz1 hz2 rfl (by decide) _ _ _ (by rfl) (own_call (hown) (by repeat (first | (with_reducible exact Q.refl _) | (with_reducible assumption) | (with_reducible refine Q.setCell ?_ (by dsimp only; omega) _) | (with_reducible refine Q.alloc ?_ _) | (with_reducible refine Q.drew ?_) | (refine Q.grown ?_ (by with_reducible assumption) (by with_reducible assumption)) | (with_reducible refine Q.call ?_ (by with_reducible assumption))))) _ 1 1 _ rfl (by simp) (cells_at (by simp)) (by simp [Value.oneCell']) (by first | omega | (simp [maxLen]; done) | (simp [maxLen]; omega)) (by first | omega | (simp; done) | (simp; omega)) (by first | omega | (simp; done) | (simp; omega)) ?_) | (refine wpList_append_own_at _ rfl _ _ 52 rfl (w.heap.size) 2 i0 (.int .i64 0) 1 8 Try.underlying52 hi hz0 hz1 hz2 rfl (by decide) _ _ _ (by rfl) (own_call (hmade) (by repeat (first | (with_reducible exact Q.refl _) | (with_reducible assumption) | (with_reducible refine Q.setCell ?_ (by dsimp only; omega) _) | (with_reducible refine Q.alloc ?_ _) | (with_reducible refine Q.drew ?_) | (refine Q.grown ?_ (by with_reducible assumption) (by with_reducible assumption)) | (with_reducible refine Q.call ?_ (by with_reducible assumption))))) _ 1 1 _ rfl (by simp) (cells_at (by simp)) (by simp [Value.oneCell']) (by first | omega | (simp [maxLen]; done) | (simp [maxLen]; omega)) (by first | omega | (simp; done) | (simp; omega)) (by first | omega | (simp; done) | (simp; omega)) ?_)); intro v2 w1 hown hgrow hnil hblk; have hgr := grown_rules0 (B := w.heap.size) hgrow hvb (by first | omega | (simp; omega)); have hvb := own_block hown; have hvw : ∀ k, v2.ownBlock = some k → w.heap.size ≤ k := fun k hk => Nat.le_trans (by omega) (hvb k hk); obtain ⟨hc, hf, hs⟩ := hgr; (try simp at hs))))
  all_goals try (rw [rounds_succ])
  all_goals try (go_wp2_with (first | (go_at_call 57; refine (c_S_l01In _ _ _ _ ).mono ?_; rintro e w1 ⟨rfl, rfl⟩) | (go_at_call 17; refine (c_S_NextLongitude _ _ _ ).mono ?_; rintro e w1 ⟨rfl, hq⟩; obtain ⟨hc, hf⟩ := hq.rules; have hs := hq.le; try simp at hs) | (go_at_call 77; refine (c_S_l07Year _ _ ).mono ?_; rintro e w1 ⟨rfl, rfl⟩) | (at_builtin; (first | (refine wpList_append_own_at _ rfl _ _ 52 rfl (w.heap.size) 2 i0 (.int .i64 0) 1 8 Try.underlying52 hi hz0 hz1 hz2 rfl (by decide) _ _ _ (by rfl) (own_call (hown) (by repeat (first | (with_reducible exact Q.refl _) | (with_reducible assumption) | (with_reducible refine Q.setCell ?_ (by dsimp only; omega) _) | (with_reducible refine Q.alloc ?_ _) | (with_reducible refine Q.drew ?_) | (refine Q.grown ?_ (by with_reducible assumption) (by with_reducible assumption)) | (with_reducible refine Q.call ?_ (by with_reducible assumption))))) _ 1 1 _ rfl (by simp) (cells_at (by simp)) (by simp [Value.oneCell']) (by first | omega | (simp [maxLen]; done) | (simp [maxLen]; omega)) (by first | omega | (simp; done) | (simp; omega)) (by first | omega | (simp; done) | (simp; omega)) ?_) | (refine wpList_append_own_at _ rfl _ _ 52 rfl (w.heap.size) 2 i0 (.int .i64 0) 1 8 Try.underlying52 hi hz0 hz1 hz2 rfl (by decide) _ _ _ (by rfl) (own_call (hmade) (by repeat (first | (with_reducible exact Q.refl _) | (with_reducible assumption) | (with_reducible refine Q.setCell ?_ (by dsimp only; omega) _) | (with_reducible refine Q.alloc ?_ _) | (with_reducible refine Q.drew ?_) | (refine Q.grown ?_ (by with_reducible assumption) (by with_reducible assumption)) | (with_reducible refine Q.call ?_ (by with_reducible assumption))))) _ 1 1 _ rfl (by simp) (cells_at (by simp)) (by simp [Value.oneCell']) (by first | omega | (simp [maxLen]; done) | (simp [maxLen]; omega)) (by first | omega | (simp; done) | (simp; omega)) (by first | omega | (simp; done) | (simp; omega)) ?_)); intro v2 w1 hown hgrow hnil hblk; have hgr := grown_rules0 (B := w.heap.size) hgrow hvb (by first | omega | (simp; omega)); have hvb := own_block hown; have hvw : ∀ k, v2.ownBlock = some k → w.heap.size ≤ k := fun k hk => Nat.le_trans (by omega) (hvb k hk); obtain ⟨hc, hf, hs⟩ := hgr; (try simp at hs))))
  all_goals try (rw [rounds_succ])
  all_goals try (go_wp2_with (first | (go_at_call 57; refine (c_S_l01In _ _ _ _ ).mono ?_; rintro e w1 ⟨rfl, rfl⟩) | (go_at_call 17; refine (c_S_NextLongitude _ _ _ ).mono ?_; rintro e w1 ⟨rfl, hq⟩; obtain ⟨hc, hf⟩ := hq.rules; have hs := hq.le; try simp at hs) | (go_at_call 77; refine (c_S_l07Year _ _ ).mono ?_; rintro e w1 ⟨rfl, rfl⟩) | (at_builtin; (first | (refine wpList_append_own_at _ rfl _ _ 52 rfl (w.heap.size) 2 i0 (.int .i64 0) 1 8 Try.underlying52 hi hz0 hz1 hz2 rfl (by decide) _ _ _ (by rfl) (own_call (hown) (by repeat (first | (with_reducible exact Q.refl _) | (with_reducible assumption) | (with_reducible refine Q.setCell ?_ (by dsimp only; omega) _) | (with_reducible refine Q.alloc ?_ _) | (with_reducible refine Q.drew ?_) | (refine Q.grown ?_ (by with_reducible assumption) (by with_reducible assumption)) | (with_reducible refine Q.call ?_ (by with_reducible assumption))))) _ 1 1 _ rfl (by simp) (cells_at (by simp)) (by simp [Value.oneCell']) (by first | omega | (simp [maxLen]; done) | (simp [maxLen]; omega)) (by first | omega | (simp; done) | (simp; omega)) (by first | omega | (simp; done) | (simp; omega)) ?_) | (refine wpList_append_own_at _ rfl _ _ 52 rfl (w.heap.size) 2 i0 (.int .i64 0) 1 8 Try.underlying52 hi hz0 hz1 hz2 rfl (by decide) _ _ _ (by rfl) (own_call (hmade) (by repeat (first | (with_reducible exact Q.refl _) | (with_reducible assumption) | (with_reducible refine Q.setCell ?_ (by dsimp only; omega) _) | (with_reducible refine Q.alloc ?_ _) | (with_reducible refine Q.drew ?_) | (refine Q.grown ?_ (by with_reducible assumption) (by with_reducible assumption)) | (with_reducible refine Q.call ?_ (by with_reducible assumption))))) _ 1 1 _ rfl (by simp) (cells_at (by simp)) (by simp [Value.oneCell']) (by first | omega | (simp [maxLen]; done) | (simp [maxLen]; omega)) (by first | omega | (simp; done) | (simp; omega)) (by first | omega | (simp; done) | (simp; omega)) ?_)); intro v2 w1 hown hgrow hnil hblk; have hgr := grown_rules0 (B := w.heap.size) hgrow hvb (by first | omega | (simp; omega)); have hvb := own_block hown; have hvw : ∀ k, v2.ownBlock = some k → w.heap.size ≤ k := fun k hk => Nat.le_trans (by omega) (hvb k hk); obtain ⟨hc, hf, hs⟩ := hgr; (try simp at hs))))
  all_goals try (rw [rounds_succ])
  all_goals try (go_wp2_with (first | (go_at_call 57; refine (c_S_l01In _ _ _ _ ).mono ?_; rintro e w1 ⟨rfl, rfl⟩) | (go_at_call 17; refine (c_S_NextLongitude _ _ _ ).mono ?_; rintro e w1 ⟨rfl, hq⟩; obtain ⟨hc, hf⟩ := hq.rules; have hs := hq.le; try simp at hs) | (go_at_call 77; refine (c_S_l07Year _ _ ).mono ?_; rintro e w1 ⟨rfl, rfl⟩) | (at_builtin; (first | (refine wpList_append_own_at _ rfl _ _ 52 rfl (w.heap.size) 2 i0 (.int .i64 0) 1 8 Try.underlying52 hi hz0 hz1 hz2 rfl (by decide) _ _ _ (by rfl) (own_call (hown) (by repeat (first | (with_reducible exact Q.refl _) | (with_reducible assumption) | (with_reducible refine Q.setCell ?_ (by dsimp only; omega) _) | (with_reducible refine Q.alloc ?_ _) | (with_reducible refine Q.drew ?_) | (refine Q.grown ?_ (by with_reducible assumption) (by with_reducible assumption)) | (with_reducible refine Q.call ?_ (by with_reducible assumption))))) _ 1 1 _ rfl (by simp) (cells_at (by simp)) (by simp [Value.oneCell']) (by first | omega | (simp [maxLen]; done) | (simp [maxLen]; omega)) (by first | omega | (simp; done) | (simp; omega)) (by first | omega | (simp; done) | (simp; omega)) ?_) | (refine wpList_append_own_at _ rfl _ _ 52 rfl (w.heap.size) 2 i0 (.int .i64 0) 1 8 Try.underlying52 hi hz0 hz1 hz2 rfl (by decide) _ _ _ (by rfl) (own_call (hmade) (by repeat (first | (with_reducible exact Q.refl _) | (with_reducible assumption) | (with_reducible refine Q.setCell ?_ (by dsimp only; omega) _) | (with_reducible refine Q.alloc ?_ _) | (with_reducible refine Q.drew ?_) | (refine Q.grown ?_ (by with_reducible assumption) (by with_reducible assumption)) | (with_reducible refine Q.call ?_ (by with_reducible assumption))))) _ 1 1 _ rfl (by simp) (cells_at (by simp)) (by simp [Value.oneCell']) (by first | omega | (simp [maxLen]; done) | (simp [maxLen]; omega)) (by first | omega | (simp; done) | (simp; omega)) (by first | omega | (simp; done) | (simp; omega)) ?_)); intro v2 w1 hown hgrow hnil hblk; have hgr := grown_rules0 (B := w.heap.size) hgrow hvb (by first | omega | (simp; omega)); have hvb := own_block hown; have hvw : ∀ k, v2.ownBlock = some k → w.heap.size ≤ k := fun k hk => Nat.le_trans (by omega) (hvb k hk); obtain ⟨hc, hf, hs⟩ := hgr; (try simp at hs))))
  all_goals (obtain ⟨gR, capR, hvv, hgR, hrR⟩ := row_of_own hown (by omega); subst hvv)
  all_goals go_ret2
  all_goals exact ⟨gR, capR, rfl, (by repeat (first | (with_reducible exact Q.refl _) | (with_reducible assumption) | (with_reducible refine Q.setCell ?_ (by dsimp only; omega) _) | (with_reducible refine Q.alloc ?_ _) | (with_reducible refine Q.drew ?_) | (refine Q.grown ?_ (by with_reducible assumption) (by with_reducible assumption)) | (with_reducible refine Q.call ?_ (by with_reducible assumption)))), by omega, by simpa [ints, S_Seasons] using hrR⟩
set_option maxRecDepth 100000 in
set_option maxHeartbeats 8000000 in
theorem c_S_SeasonDays_bad0 (year : Int) (w : World) (h0 : S_l01In year 1901 2099 = false) : Calls Try.prog 37 #[.int .i64 year] w fun e w' => e = .returned (.tuple #[.slice none 0 0, .int .i64 2]) ∧ Q w w' := by
  have hset := setRule
  have hall := allocRule
  have halm := allocMark
  have hw64 := wrapRule
  go_enter Try.func37, Try.ntmps37
  go_wp2_with (first | (go_at_call 57; refine (c_S_l01In _ _ _ _ ).mono ?_; rintro e w1 ⟨rfl, rfl⟩) | (go_at_call 17; refine (c_S_NextLongitude _ _ _ ).mono ?_; rintro e w1 ⟨rfl, hq⟩; obtain ⟨hc, hf⟩ := hq.rules; have hs := hq.le; try simp at hs) | (go_at_call 77; refine (c_S_l07Year _ _ ).mono ?_; rintro e w1 ⟨rfl, rfl⟩))
  all_goals go_ret2
  all_goals refine ⟨?_, (by repeat (first | (with_reducible exact Q.refl _) | (with_reducible assumption) | (with_reducible refine Q.setCell ?_ (by dsimp only; omega) _) | (with_reducible refine Q.alloc ?_ _) | (with_reducible refine Q.drew ?_) | (with_reducible refine Q.call ?_ (by with_reducible assumption))))⟩
  all_goals first | rfl | (simp [*]; done)
set_option maxRecDepth 100000 in
set_option maxHeartbeats 8000000 in
theorem c_I_SeasonDays_ok (year : Int) (w : World) (h0 : I_in year 1901 2099 = true) : Calls Try.prog 38 #[.int .i64 year] w fun e w' => ∃ g cap, e = .returned (.tuple #[.slice (some ⟨g, 0, none⟩) (I_Seasons year).length cap, .int .i64 0]) ∧ Q w w' ∧ w.heap.size ≤ g ∧ Row w' g (ints (I_Seasons year)) := by
  have hset := setRule
  have hall := allocRule
  have halm := allocMark
  have hw64 := wrapRule
  have hwl1 : wrap64 1 = 1 := w64 (by omega)
  have hwl2 : wrap64 2 = 2 := w64 (by omega)
  have hwl3 : wrap64 3 = 3 := w64 (by omega)
  have hwl4 : wrap64 4 = 4 := w64 (by omega)
  have hwq0 : wrap64 0 = 0 := w64 (by omega)
  have hwq1 : wrap64 324000 = 324000 := w64 (by omega)
  have hwq2 : wrap64 648000 = 648000 := w64 (by omega)
  have hwq3 : wrap64 972000 = 972000 := w64 (by omega)
  have hfd := first_day (year := year) ((in_iff _ _ _).1 h0)
  have hn := hfd.2
  clear hfd
  have hinfo : (Try.prog.info? 2).map (fun i => (i.zero, i.size, i.bytes)) = some (some (.int .i64 0), 1, 8) := by kernel_rfl
  obtain ⟨i0, hi, hz0, hz1, hz2⟩ := info_parts hinfo
  have hmade : (w.alloc (.cells #[] 2)).ownsRow w.heap.size 2 1 (.slice (some ⟨w.heap.size, 0, none⟩) 0 0) 0 [] := by
    have := World.ownsRow_made (base := w.heap.size) (e := 2) (size := 1) w #[] 0 (by simp) (by simp [maxLen]) (by simp)
    simpa using this
  have hvb : ∀ k, (Value.slice (some ⟨w.heap.size, 0, none⟩) 0 0).ownBlock = some k → w.heap.size ≤ k := by intro k hk; simp [Value.ownBlock] at hk; omega
  have hvw := hvb
  go_enter Try.func38, Try.ntmps38
  go_wp2_with (first | (go_at_call 59; refine (c_I_in _ _ _ _ ).mono ?_; rintro e w1 ⟨rfl, rfl⟩) | (go_at_call 60; refine (c_I_nextLongitude _ _ _ (by first | assumption | exact (isDayNumber_iff _).1 (by assumption) | (apply (isDayNumber_iff _).1; simp_all))).mono ?_; rintro e w1 ⟨rfl, hq⟩; obtain ⟨hc, hf⟩ := hq.rules; have hs := hq.le; try simp at hs) | (go_at_call 78; refine (c_I_dayNumber _ _ _ _ (by first | assumption | decide | omega | (unfold wrap64; omega) | exact (pre_month (by assumption)).1 | exact (pre_month (by assumption)).2.1 | exact (pre_month (by assumption)).2.2 | exact (pre_day (by assumption)).1 | exact (pre_day (by assumption)).2.1 | exact (pre_day (by assumption)).2.2 | exact (pre_dayI (by assumption)).1 | exact (pre_dayI (by assumption)).2.1 | exact (pre_dayI (by assumption)).2.2 | exact (pre_moment (by assumption)).1 | exact (pre_moment (by assumption)).2.1 | exact (pre_moment (by assumption)).2.2 | exact (pre_moment0 (by assumption)).1 | exact (pre_moment0 (by assumption)).2.1 | exact (pre_moment0 (by assumption)).2.2 | exact (pre_zone (by assumption)).1 | exact (pre_zone (by assumption)).2 | exact pre_date (by assumption) | exact nthWeekday_month (by assumption) | exact shift_month _ _ _ | exact later_month _ _)).mono ?_; rintro e w1 ⟨rfl, hq⟩; obtain ⟨hc, hf⟩ := hq.rules; have hs := hq.le; try simp at hs) | (at_builtin; (first | (refine wpList_append_own_at _ rfl _ _ 52 rfl (w.heap.size) 2 i0 (.int .i64 0) 1 8 Try.underlying52 hi hz0 hz1 hz2 rfl (by decide) _ _ _ (by rfl) (own_call (hown) (by repeat (first | (with_reducible exact Q.refl _) | (with_reducible assumption) | (with_reducible refine Q.setCell ?_ (by dsimp only; omega) _) | (with_reducible refine Q.alloc ?_ _) | (with_reducible refine Q.drew ?_) | (refine Q.grown ?_ (by with_reducible assumption) (by with_reducible assumption)) | (with_reducible refine Q.call ?_ (by with_reducible assumption))))) _ 1 1 _ rfl (by simp) (cells_at (by simp)) (by simp [Value.oneCell']) (by first | omega | (simp [maxLen]; done) | (simp [maxLen]; omega)) (by first | omega | (simp; done) | (simp; omega)) (by first | omega | (simp; done) | (simp; omega)) ?_) | (refine wpList_append_own_at _ rfl _ _ 52 rfl (w.heap.size) 2 i0 (.int .i64 0) 1 8 Try.underlying52 hi hz0 hz1 hz2 rfl (by decide) _ _ _ (by rfl) (own_call (hmade) (by repeat (first | (with_reducible exact Q.refl _) | (with_reducible assumption) | (with_reducible refine Q.setCell ?_ (by dsimp only; omega) _) | (with_reducible refine Q.alloc ?_ _) | (with_reducible refine Q.drew ?_) | (refine Q.grown ?_ (by with_reducible assumption) (by with_reducible assumption)) | (with_reducible refine Q.call ?_ (by with_reducible assumption))))) _ 1 1 _ rfl (by simp) (cells_at (by simp)) (by simp [Value.oneCell']) (by first | omega | (simp [maxLen]; done) | (simp [maxLen]; omega)) (by first | omega | (simp; done) | (simp; omega)) (by first | omega | (simp; done) | (simp; omega)) ?_)); intro v2 w1 hown hgrow hnil hblk; have hgr := grown_rules0 (B := w.heap.size) hgrow hvb (by first | omega | (simp; omega)); have hvb := own_block hown; have hvw : ∀ k, v2.ownBlock = some k → w.heap.size ≤ k := fun k hk => Nat.le_trans (by omega) (hvb k hk); obtain ⟨hc, hf, hs⟩ := hgr; (try simp at hs)))
  all_goals try (refine wp_loop_rounds 5 ?_; rw [rounds_succ])
  all_goals try (go_wp2_with (first | (go_at_call 59; refine (c_I_in _ _ _ _ ).mono ?_; rintro e w1 ⟨rfl, rfl⟩) | (go_at_call 60; refine (c_I_nextLongitude _ _ _ (by first | assumption | exact (isDayNumber_iff _).1 (by assumption) | (apply (isDayNumber_iff _).1; simp_all))).mono ?_; rintro e w1 ⟨rfl, hq⟩; obtain ⟨hc, hf⟩ := hq.rules; have hs := hq.le; try simp at hs) | (go_at_call 78; refine (c_I_dayNumber _ _ _ _ (by first | assumption | decide | omega | (unfold wrap64; omega) | exact (pre_month (by assumption)).1 | exact (pre_month (by assumption)).2.1 | exact (pre_month (by assumption)).2.2 | exact (pre_day (by assumption)).1 | exact (pre_day (by assumption)).2.1 | exact (pre_day (by assumption)).2.2 | exact (pre_dayI (by assumption)).1 | exact (pre_dayI (by assumption)).2.1 | exact (pre_dayI (by assumption)).2.2 | exact (pre_moment (by assumption)).1 | exact (pre_moment (by assumption)).2.1 | exact (pre_moment (by assumption)).2.2 | exact (pre_moment0 (by assumption)).1 | exact (pre_moment0 (by assumption)).2.1 | exact (pre_moment0 (by assumption)).2.2 | exact (pre_zone (by assumption)).1 | exact (pre_zone (by assumption)).2 | exact pre_date (by assumption) | exact nthWeekday_month (by assumption) | exact shift_month _ _ _ | exact later_month _ _)).mono ?_; rintro e w1 ⟨rfl, hq⟩; obtain ⟨hc, hf⟩ := hq.rules; have hs := hq.le; try simp at hs) | (at_builtin; (first | (refine wpList_append_own_at _ rfl _ _ 52 rfl (w.heap.size) 2 i0 (.int .i64 0) 1 8 Try.underlying52 hi hz0 hz1 hz2 rfl (by decide) _ _ _ (by rfl) (own_call (hown) (by repeat (first | (with_reducible exact Q.refl _) | (with_reducible assumption) | (with_reducible refine Q.setCell ?_ (by dsimp only; omega) _) | (with_reducible refine Q.alloc ?_ _) | (with_reducible refine Q.drew ?_) | (refine Q.grown ?_ (by with_reducible assumption) (by with_reducible assumption)) | (with_reducible refine Q.call ?_ (by with_reducible assumption))))) _ 1 1 _ rfl (by simp) (cells_at (by simp)) (by simp [Value.oneCell']) (by first | omega | (simp [maxLen]; done) | (simp [maxLen]; omega)) (by first | omega | (simp; done) | (simp; omega)) (by first | omega | (simp; done) | (simp; omega)) ?_) | (refine wpList_append_own_at _ rfl _ _ 52 rfl (w.heap.size) 2 i0 (.int .i64 0) 1 8 Try.underlying52 hi hz0 hz1 hz2 rfl (by decide) _ _ _ (by rfl) (own_call (hmade) (by repeat (first | (with_reducible exact Q.refl _) | (with_reducible assumption) | (with_reducible refine Q.setCell ?_ (by dsimp only; omega) _) | (with_reducible refine Q.alloc ?_ _) | (with_reducible refine Q.drew ?_) | (refine Q.grown ?_ (by with_reducible assumption) (by with_reducible assumption)) | (with_reducible refine Q.call ?_ (by with_reducible assumption))))) _ 1 1 _ rfl (by simp) (cells_at (by simp)) (by simp [Value.oneCell']) (by first | omega | (simp [maxLen]; done) | (simp [maxLen]; omega)) (by first | omega | (simp; done) | (simp; omega)) (by first | omega | (simp; done) | (simp; omega)) ?_)); intro v2 w1 hown hgrow hnil hblk; have hgr := grown_rules0 (B := w.heap.size) hgrow hvb (by first | omega | (simp; omega)); have hvb := own_block hown; have hvw : ∀ k, v2.ownBlock = some k → w.heap.size ≤ k := fun k hk => Nat.le_trans (by omega) (hvb k hk); obtain ⟨hc, hf, hs⟩ := hgr; (try simp at hs))))
  all_goals try (rw [rounds_succ])
  all_goals try (go_wp2_with (first | (go_at_call 59; refine (c_I_in _ _ _ _ ).mono ?_; rintro e w1 ⟨rfl, rfl⟩) | (go_at_call 60; refine (c_I_nextLongitude _ _ _ (by first | assumption | exact (isDayNumber_iff _).1 (by assumption) | (apply (isDayNumber_iff _).1; simp_all))).mono ?_; rintro e w1 ⟨rfl, hq⟩; obtain ⟨hc, hf⟩ := hq.rules; have hs := hq.le; try simp at hs) | (go_at_call 78; refine (c_I_dayNumber _ _ _ _ (by first | assumption | decide | omega | (unfold wrap64; omega) | exact (pre_month (by assumption)).1 | exact (pre_month (by assumption)).2.1 | exact (pre_month (by assumption)).2.2 | exact (pre_day (by assumption)).1 | exact (pre_day (by assumption)).2.1 | exact (pre_day (by assumption)).2.2 | exact (pre_dayI (by assumption)).1 | exact (pre_dayI (by assumption)).2.1 | exact (pre_dayI (by assumption)).2.2 | exact (pre_moment (by assumption)).1 | exact (pre_moment (by assumption)).2.1 | exact (pre_moment (by assumption)).2.2 | exact (pre_moment0 (by assumption)).1 | exact (pre_moment0 (by assumption)).2.1 | exact (pre_moment0 (by assumption)).2.2 | exact (pre_zone (by assumption)).1 | exact (pre_zone (by assumption)).2 | exact pre_date (by assumption) | exact nthWeekday_month (by assumption) | exact shift_month _ _ _ | exact later_month _ _)).mono ?_; rintro e w1 ⟨rfl, hq⟩; obtain ⟨hc, hf⟩ := hq.rules; have hs := hq.le; try simp at hs) | (at_builtin; (first | (refine wpList_append_own_at _ rfl _ _ 52 rfl (w.heap.size) 2 i0 (.int .i64 0) 1 8 Try.underlying52 hi hz0 hz1 hz2 rfl (by decide) _ _ _ (by rfl) (own_call (hown) (by repeat (first | (with_reducible exact Q.refl _) | (with_reducible assumption) | (with_reducible refine Q.setCell ?_ (by dsimp only; omega) _) | (with_reducible refine Q.alloc ?_ _) | (with_reducible refine Q.drew ?_) | (refine Q.grown ?_ (by with_reducible assumption) (by with_reducible assumption)) | (with_reducible refine Q.call ?_ (by with_reducible assumption))))) _ 1 1 _ rfl (by simp) (cells_at (by simp)) (by simp [Value.oneCell']) (by first | omega | (simp [maxLen]; done) | (simp [maxLen]; omega)) (by first | omega | (simp; done) | (simp; omega)) (by first | omega | (simp; done) | (simp; omega)) ?_) | (refine wpList_append_own_at _ rfl _ _ 52 rfl (w.heap.size) 2 i0 (.int .i64 0) 1 8 Try.underlying52 hi hz0 hz1 hz2 rfl (by decide) _ _ _ (by rfl) (own_call (hmade) (by repeat (first | (with_reducible exact Q.refl _) | (with_reducible assumption) | (with_reducible refine Q.setCell ?_ (by dsimp only; omega) _) | (with_reducible refine Q.alloc ?_ _) | (with_reducible refine Q.drew ?_) | (refine Q.grown ?_ (by with_reducible assumption) (by with_reducible assumption)) | (with_reducible refine Q.call ?_ (by with_reducible assumption))))) _ 1 1 _ rfl (by simp) (cells_at (by simp)) (by simp [Value.oneCell']) (by first | omega | (simp [maxLen]; done) | (simp [maxLen]; omega)) (by first | omega | (simp; done) | (simp; omega)) (by first | omega | (simp; done) | (simp; omega)) ?_)); intro v2 w1 hown hgrow hnil hblk; have hgr := grown_rules0 (B := w.heap.size) hgrow hvb (by first | omega | (simp; omega)); have hvb := own_block hown; have hvw : ∀ k, v2.ownBlock = some k → w.heap.size ≤ k := fun k hk => Nat.le_trans (by omega) (hvb k hk); obtain ⟨hc, hf, hs⟩ := hgr; (try simp at hs))))
  all_goals try (rw [rounds_succ])
  all_goals try (go_wp2_with (first | (go_at_call 59; refine (c_I_in _ _ _ _ ).mono ?_; rintro e w1 ⟨rfl, rfl⟩) | (go_at_call 60; refine (c_I_nextLongitude _ _ _ (by first | assumption | exact (isDayNumber_iff _).1 (by assumption) | (apply (isDayNumber_iff _).1; simp_all))).mono ?_; rintro e w1 ⟨rfl, hq⟩; obtain ⟨hc, hf⟩ := hq.rules; have hs := hq.le; try simp at hs) | (go_at_call 78; refine (c_I_dayNumber _ _ _ _ (by first | assumption | decide | omega | (unfold wrap64; omega) | exact (pre_month (by assumption)).1 | exact (pre_month (by assumption)).2.1 | exact (pre_month (by assumption)).2.2 | exact (pre_day (by assumption)).1 | exact (pre_day (by assumption)).2.1 | exact (pre_day (by assumption)).2.2 | exact (pre_dayI (by assumption)).1 | exact (pre_dayI (by assumption)).2.1 | exact (pre_dayI (by assumption)).2.2 | exact (pre_moment (by assumption)).1 | exact (pre_moment (by assumption)).2.1 | exact (pre_moment (by assumption)).2.2 | exact (pre_moment0 (by assumption)).1 | exact (pre_moment0 (by assumption)).2.1 | exact (pre_moment0 (by assumption)).2.2 | exact (pre_zone (by assumption)).1 | exact (pre_zone (by assumption)).2 | exact pre_date (by assumption) | exact nthWeekday_month (by assumption) | exact shift_month _ _ _ | exact later_month _ _)).mono ?_; rintro e w1 ⟨rfl, hq⟩; obtain ⟨hc, hf⟩ := hq.rules; have hs := hq.le; try simp at hs) | (at_builtin; (first | (refine wpList_append_own_at _ rfl _ _ 52 rfl (w.heap.size) 2 i0 (.int .i64 0) 1 8 Try.underlying52 hi hz0 hz1 hz2 rfl (by decide) _ _ _ (by rfl) (own_call (hown) (by repeat (first | (with_reducible exact Q.refl _) | (with_reducible assumption) | (with_reducible refine Q.setCell ?_ (by dsimp only; omega) _) | (with_reducible refine Q.alloc ?_ _) | (with_reducible refine Q.drew ?_) | (refine Q.grown ?_ (by with_reducible assumption) (by with_reducible assumption)) | (with_reducible refine Q.call ?_ (by with_reducible assumption))))) _ 1 1 _ rfl (by simp) (cells_at (by simp)) (by simp [Value.oneCell']) (by first | omega | (simp [maxLen]; done) | (simp [maxLen]; omega)) (by first | omega | (simp; done) | (simp; omega)) (by first | omega | (simp; done) | (simp; omega)) ?_) | (refine wpList_append_own_at _ rfl _ _ 52 rfl (w.heap.size) 2 i0 (.int .i64 0) 1 8 Try.underlying52 hi hz0 hz1 hz2 rfl (by decide) _ _ _ (by rfl) (own_call (hmade) (by repeat (first | (with_reducible exact Q.refl _) | (with_reducible assumption) | (with_reducible refine Q.setCell ?_ (by dsimp only; omega) _) | (with_reducible refine Q.alloc ?_ _) | (with_reducible refine Q.drew ?_) | (refine Q.grown ?_ (by with_reducible assumption) (by with_reducible assumption)) | (with_reducible refine Q.call ?_ (by with_reducible assumption))))) _ 1 1 _ rfl (by simp) (cells_at (by simp)) (by simp [Value.oneCell']) (by first | omega | (simp [maxLen]; done) | (simp [maxLen]; omega)) (by first | omega | (simp; done) | (simp; omega)) (by first | omega | (simp; done) | (simp; omega)) ?_)); intro v2 w1 hown hgrow hnil hblk; have hgr := grown_rules0 (B := w.heap.size) hgrow hvb (by first | omega | (simp; omega)); have hvb := own_block hown; have hvw : ∀ k, v2.ownBlock = some k → w.heap.size ≤ k := fun k hk => Nat.le_trans (by omega) (hvb k hk); obtain ⟨hc, hf, hs⟩ := hgr; (try simp at hs))))
  all_goals try (rw [rounds_succ])
  all_goals try (go_wp2_with (first | (go_at_call 59; refine (c_I_in _ _ _ _ ).mono ?_; rintro e w1 ⟨rfl, rfl⟩) | (go_at_call 60; refine (c_I_nextLongitude _ _ _ (by first | assumption | exact (isDayNumber_iff _).1 (by assumption) | (apply (isDayNumber_iff _).1; simp_all))).mono ?_; rintro e w1 ⟨rfl, hq⟩; obtain ⟨hc, hf⟩ := hq.rules; have hs := hq.le; try simp at hs) | (go_at_call 78; refine (c_I_dayNumber _ _ _ _ (by first | assumption | decide | omega | (unfold wrap64; omega) | exact (pre_month (by assumption)).1 | exact (pre_month (by assumption)).2.1 | exact (pre_month (by assumption)).2.2 | exact (pre_day (by assumption)).1 | exact (pre_day (by assumption)).2.1 | exact (pre_day (by assumption)).2.2 | exact (pre_dayI (by assumption)).1 | exact (pre_dayI (by assumption)).2.1 | exact (pre_dayI (by assumption)).2.2 | exact (pre_moment (by assumption)).1 | exact (pre_moment (by assumption)).2.1 | exact (pre_moment (by assumption)).2.2 | exact (pre_moment0 (by assumption)).1 | exact (pre_moment0 (by assumption)).2.1 | exact (pre_moment0 (by assumption)).2.2 | exact (pre_zone (by assumption)).1 | exact (pre_zone (by assumption)).2 | exact pre_date (by assumption) | exact nthWeekday_month (by assumption) | exact shift_month _ _ _ | exact later_month _ _)).mono ?_; rintro e w1 ⟨rfl, hq⟩; obtain ⟨hc, hf⟩ := hq.rules; have hs := hq.le; try simp at hs) | (at_builtin; (first | (refine wpList_append_own_at _ rfl _ _ 52 rfl (w.heap.size) 2 i0 (.int .i64 0) 1 8 Try.underlying52 hi hz0 hz1 hz2 rfl (by decide) _ _ _ (by rfl) (own_call (hown) (by repeat (first | (with_reducible exact Q.refl _) | (with_reducible assumption) | (with_reducible refine Q.setCell ?_ (by dsimp only; omega) _) | (with_reducible refine Q.alloc ?_ _) | (with_reducible refine Q.drew ?_) | (refine Q.grown ?_ (by with_reducible assumption) (by with_reducible assumption)) | (with_reducible refine Q.call ?_ (by with_reducible assumption))))) _ 1 1 _ rfl (by simp) (cells_at (by simp)) (by simp [Value.oneCell']) (by first | omega | (simp [maxLen]; done) | (simp [maxLen]; omega)) (by first | omega | (simp; done) | (simp; omega)) (by first | omega | (simp; done) | (simp; omega)) ?_) | (refine wpList_append_own_at _ rfl _ _ 52 rfl (w.heap.size) 2 i0 (.int .i64 0) 1 8 Try.underlying52 hi hz0 hz1 hz2 rfl (by decide) _ _ _ (by rfl) (own_call (hmade) (by repeat (first | (with_reducible exact Q.refl _) | (with_reducible assumption) | (with_reducible refine Q.setCell ?_ (by dsimp only; omega) _) | (with_reducible refine Q.alloc ?_ _) | (with_reducible refine Q.drew ?_) | (refine Q.grown ?_ (by with_reducible assumption) (by with_reducible assumption)) | (with_reducible refine Q.call ?_ (by with_reducible assumption))))) _ 1 1 _ rfl (by simp) (cells_at (by simp)) (by simp [Value.oneCell']) (by first | omega | (simp [maxLen]; done) | (simp [maxLen]; omega)) (by first | omega | (simp; done) | (simp; omega)) (by first | omega | (simp; done) | (simp; omega)) ?_)); intro v2 w1 hown hgrow hnil hblk; have hgr := grown_rules0 (B := w.heap.size) hgrow hvb (by first | omega | (simp; omega)); have hvb := own_block hown; have hvw : ∀ k, v2.ownBlock = some k → w.heap.size ≤ k := fun k hk => Nat.le_trans (by omega) (hvb k hk); obtain ⟨hc, hf, hs⟩ := hgr; (try simp at hs))))
  all_goals try (rw [rounds_succ])
  all_goals try (go_wp2_with (first | (go_at_call 59; refine (c_I_in _ _ _ _ ).mono ?_; rintro e w1 ⟨rfl, rfl⟩) | (go_at_call 60; refine (c_I_nextLongitude _ _ _ (by first | assumption | exact (isDayNumber_iff _).1 (by assumption) | (apply (isDayNumber_iff _).1; simp_all))).mono ?_; rintro e w1 ⟨rfl, hq⟩; obtain ⟨hc, hf⟩ := hq.rules; have hs := hq.le; try simp at hs) | (go_at_call 78; refine (c_I_dayNumber _ _ _ _ (by first | assumption | decide | omega | (unfold wrap64; omega) | exact (pre_month (by assumption)).1 | exact (pre_month (by assumption)).2.1 | exact (pre_month (by assumption)).2.2 | exact (pre_day (by assumption)).1 | exact (pre_day (by assumption)).2.1 | exact (pre_day (by assumption)).2.2 | exact (pre_dayI (by assumption)).1 | exact (pre_dayI (by assumption)).2.1 | exact (pre_dayI (by assumption)).2.2 | exact (pre_moment (by assumption)).1 | exact (pre_moment (by assumption)).2.1 | exact (pre_moment (by assumption)).2.2 | exact (pre_moment0 (by assumption)).1 | exact (pre_moment0 (by assumption)).2.1 | exact (pre_moment0 (by assumption)).2.2 | exact (pre_zone (by assumption)).1 | exact (pre_zone (by assumption)).2 | exact pre_date (by assumption) | exact nthWeekday_month (by assumption) | exact shift_month _ _ _ | exact later_month _ _)).mono ?_; rintro e w1 ⟨rfl, hq⟩; obtain ⟨hc, hf⟩ := hq.rules; have hs := hq.le; try simp at hs) | (at_builtin; (first | (refine wpList_append_own_at _ rfl _ _ 52 rfl (w.heap.size) 2 i0 (.int .i64 0) 1 8 Try.underlying52 hi hz0 hz1 hz2 rfl (by decide) _ _ _ (by rfl) (own_call (hown) (by repeat (first | (with_reducible exact Q.refl _) | (with_reducible assumption) | (with_reducible refine Q.setCell ?_ (by dsimp only; omega) _) | (with_reducible refine Q.alloc ?_ _) | (with_reducible refine Q.drew ?_) | (refine Q.grown ?_ (by with_reducible assumption) (by with_reducible assumption)) | (with_reducible refine Q.call ?_ (by with_reducible assumption))))) _ 1 1 _ rfl (by simp) (cells_at (by simp)) (by simp [Value.oneCell']) (by first | omega | (simp [maxLen]; done) | (simp [maxLen]; omega)) (by first | omega | (simp; done) | (simp; omega)) (by first | omega | (simp; done) | (simp; omega)) ?_) | (refine wpList_append_own_at _ rfl _ _ 52 rfl (w.heap.size) 2 i0 (.int .i64 0) 1 8 Try.underlying52 hi hz0 hz1 hz2 rfl (by decide) _ _ _ (by rfl) (own_call (hmade) (by repeat (first | (with_reducible exact Q.refl _) | (with_reducible assumption) | (with_reducible refine Q.setCell ?_ (by dsimp only; omega) _) | (with_reducible refine Q.alloc ?_ _) | (with_reducible refine Q.drew ?_) | (refine Q.grown ?_ (by with_reducible assumption) (by with_reducible assumption)) | (with_reducible refine Q.call ?_ (by with_reducible assumption))))) _ 1 1 _ rfl (by simp) (cells_at (by simp)) (by simp [Value.oneCell']) (by first | omega | (simp [maxLen]; done) | (simp [maxLen]; omega)) (by first | omega | (simp; done) | (simp; omega)) (by first | omega | (simp; done) | (simp; omega)) ?_)); intro v2 w1 hown hgrow hnil hblk; have hgr := grown_rules0 (B := w.heap.size) hgrow hvb (by first | omega | (simp; omega)); have hvb := own_block hown; have hvw : ∀ k, v2.ownBlock = some k → w.heap.size ≤ k := fun k hk => Nat.le_trans (by omega) (hvb k hk); obtain ⟨hc, hf, hs⟩ := hgr; (try simp at hs))))
  all_goals (obtain ⟨gR, capR, hvv, hgR, hrR⟩ := row_of_own hown (by omega); subst hvv)
  all_goals go_ret2
  all_goals exact ⟨gR, capR, rfl, (by repeat (first | (with_reducible exact Q.refl _) | (with_reducible assumption) | (with_reducible refine Q.setCell ?_ (by dsimp only; omega) _) | (with_reducible refine Q.alloc ?_ _) | (with_reducible refine Q.drew ?_) | (refine Q.grown ?_ (by with_reducible assumption) (by with_reducible assumption)) | (with_reducible refine Q.call ?_ (by with_reducible assumption)))), by omega, by simpa [ints, I_Seasons] using hrR⟩
set_option maxRecDepth 100000 in
set_option maxHeartbeats 8000000 in
theorem c_I_SeasonDays_bad0 (year : Int) (w : World) (h0 : I_in year 1901 2099 = false) : Calls Try.prog 38 #[.int .i64 year] w fun e w' => e = .returned (.tuple #[.slice none 0 0, .int .i64 2]) ∧ Q w w' := by
  have hset := setRule
  have hall := allocRule
  have halm := allocMark
  have hw64 := wrapRule
  go_enter Try.func38, Try.ntmps38
  go_wp2_with (first | (go_at_call 59; refine (c_I_in _ _ _ _ ).mono ?_; rintro e w1 ⟨rfl, rfl⟩) | (go_at_call 60; refine (c_I_nextLongitude _ _ _ (by first | assumption | exact (isDayNumber_iff _).1 (by assumption) | (apply (isDayNumber_iff _).1; simp_all))).mono ?_; rintro e w1 ⟨rfl, hq⟩; obtain ⟨hc, hf⟩ := hq.rules; have hs := hq.le; try simp at hs) | (go_at_call 78; refine (c_I_dayNumber _ _ _ _ (by first | assumption | decide | omega | (unfold wrap64; omega) | exact (pre_month (by assumption)).1 | exact (pre_month (by assumption)).2.1 | exact (pre_month (by assumption)).2.2 | exact (pre_day (by assumption)).1 | exact (pre_day (by assumption)).2.1 | exact (pre_day (by assumption)).2.2 | exact (pre_dayI (by assumption)).1 | exact (pre_dayI (by assumption)).2.1 | exact (pre_dayI (by assumption)).2.2 | exact (pre_moment (by assumption)).1 | exact (pre_moment (by assumption)).2.1 | exact (pre_moment (by assumption)).2.2 | exact (pre_moment0 (by assumption)).1 | exact (pre_moment0 (by assumption)).2.1 | exact (pre_moment0 (by assumption)).2.2 | exact (pre_zone (by assumption)).1 | exact (pre_zone (by assumption)).2 | exact pre_date (by assumption) | exact nthWeekday_month (by assumption) | exact shift_month _ _ _ | exact later_month _ _)).mono ?_; rintro e w1 ⟨rfl, hq⟩; obtain ⟨hc, hf⟩ := hq.rules; have hs := hq.le; try simp at hs))
  all_goals go_ret2
  all_goals refine ⟨?_, (by repeat (first | (with_reducible exact Q.refl _) | (with_reducible assumption) | (with_reducible refine Q.setCell ?_ (by dsimp only; omega) _) | (with_reducible refine Q.alloc ?_ _) | (with_reducible refine Q.drew ?_) | (with_reducible refine Q.call ?_ (by with_reducible assumption))))⟩
  all_goals first | rfl | (simp [*]; done)
theorem c_I_SeasonDays_as (year : Int) (w : World) (h0 : S_l01In year 1901 2099 = true) : Calls Try.prog 38 #[.int .i64 year] w fun e w' => ∃ g cap, e = .returned (.tuple #[.slice (some ⟨g, 0, none⟩) (S_Seasons year).length cap, .int .i64 0]) ∧ Q w w' ∧ w.heap.size ≤ g ∧ Row w' g (ints (S_Seasons year)) := by
  have hr : I_Seasons year = S_Seasons year := eq_Seasons h0
  rw [← hr]
  exact c_I_SeasonDays_ok year w h0
set_option maxHeartbeats 8000000 in
theorem walk_FnExactSeasonDays (aYear : Int) (w : World) : Calls Try.prog 12 #[.int .i64 aYear] w fun e w' => e = .returned (.bool true) ∧ Q w w' := by
  have hset := setRule
  have hall := allocRule
  have halm := allocMark
  have hw64 := wrapRule
  have hlen : (S_Seasons aYear).length ≤ 100000 := by simp [S_Seasons]
  have hneg : ((1 : Int) + ((S_Seasons aYear).length : Int) < 0) = False := eq_false (by omega)
  rcases Bool.eq_false_or_eq_true (S_l01In aYear 1901 2099) with h0 | h0
  · skip
    go_enter Try.func12, Try.ntmps12
    go_wp2_with (first | (go_at_call 37; refine (c_S_SeasonDays_ok _ _ h0).mono ?_; rintro e w1 ⟨gS, capS, rfl, hq, hgS, hrow⟩; obtain ⟨hc, hf⟩ := hq.rules; have hs := hq.le; (try simp only [markAll_size] at hs); (try simp at hs); (try have rS := rS.call hq); (try have rI := rI.call hq); (try have rM := rM.call hq); (try have rH := rH.call hq); have rS := hrow; have hltS := hrow.1) | (go_at_call 38; have hdone := rM; refine (c_I_SeasonDays_as _ _ h0).mono ?_; rintro e w1 ⟨gH, capH, rfl, hq, hgH, hrow⟩; obtain ⟨hc, hf⟩ := hq.rules; have hs := hq.le; (try simp only [markAll_size] at hs); (try simp at hs); (try have rS := rS.call hq); (try have rI := rI.call hq); (try have rM := rM.call hq); (try have rH := rH.call hq); have rH := hrow; have hltH := hrow.1) | (go_at_call 38; refine (c_I_SeasonDays_as _ _ h0).mono ?_; rintro e w1 ⟨gI, capI, rfl, hq, hgI, hrow⟩; obtain ⟨hc, hf⟩ := hq.rules; have hs := hq.le; (try simp only [markAll_size] at hs); (try simp at hs); (try have rS := rS.call hq); (try have rI := rI.call hq); (try have rM := rM.call hq); (try have rH := rH.call hq); have rI := hrow; have hltI := hrow.1; have hne : gS ≠ gI := by omega) | (go_at_call 39; refine (c_L_eqInt64S_same _ _ _ _ _ _ hlen rH rS).mono ?_; rintro e w1 ⟨rfl, hq⟩; obtain ⟨hc, hf⟩ := hq.rules; have hs := hq.le; (try simp only [markAll_size] at hs); (try simp at hs); (try have rS := rS.call hq); (try have rI := rI.call hq); (try have rM := rM.call hq); (try have rH := rH.call hq)) | (go_at_call 39; refine (c_L_eqInt64S_same _ _ _ _ _ _ hlen rI rS).mono ?_; rintro e w1 ⟨rfl, hq⟩; obtain ⟨hc, hf⟩ := hq.rules; have hs := hq.le; (try simp only [markAll_size] at hs); (try simp at hs); (try have rS := rS.call hq); (try have rI := rI.call hq); (try have rM := rM.call hq); (try have rH := rH.call hq)) | (go_at_call 40; refine (c_L_markInt64S_n _ _ _ _ hlen rI).mono ?_; rintro e w1 ⟨rfl, rfl⟩; have hmc := markAll_cell rI 1 (S_Seasons aYear).length (by rw [ints_length]; exact Nat.le_refl _); have hmf := rI.mfrozen 1 (S_Seasons aYear).length; have hms := rI.msize 1 (S_Seasons aYear).length; have rS := Row.mark_other rI rS hne 1; have rM := Row.mark rI 1; (repeat clear rI); simp only [ints_length] at rS rM) | (go_at_call 41; refine (c_L_heldInt64S_n _ _ _ _ hlen rM).mono ?_; rintro e w1 ⟨rfl, hq⟩; obtain ⟨hc, hf⟩ := hq.rules; have hs := hq.le; (try simp only [markAll_size] at hs); (try simp at hs); (try have rS := rS.call hq); (try have rI := rI.call hq); (try have rM := rM.call hq); (try have rH := rH.call hq)))
    all_goals go_ret
    all_goals refine ⟨?_, (by repeat (first | (with_reducible exact Q.refl _) | (with_reducible assumption) | (with_reducible refine Q.setCell ?_ (by dsimp only; omega) _) | (with_reducible refine Q.alloc ?_ _) | (with_reducible refine Q.drew ?_) | (with_reducible refine Q.mark ?_ (by omega) _ _) | (with_reducible refine Q.call ?_ (by with_reducible assumption))))⟩
    all_goals first | rfl | (simp [*]; done)
  · skip
    go_enter Try.func12, Try.ntmps12
    go_wp2_with (first | (go_at_call 37; refine (c_S_SeasonDays_bad0 _ _ h0).mono ?_; rintro e w1 ⟨rfl, hq⟩; obtain ⟨hc, hf⟩ := hq.rules; have hs := hq.le; (try simp only [markAll_size] at hs); (try simp at hs); (try have rS := rS.call hq); (try have rI := rI.call hq); (try have rM := rM.call hq); (try have rH := rH.call hq)) | (go_at_call 38; refine (c_I_SeasonDays_bad0 _ _ (h0)).mono ?_; rintro e w1 ⟨rfl, hq⟩; obtain ⟨hc, hf⟩ := hq.rules; have hs := hq.le; (try simp only [markAll_size] at hs); (try simp at hs); (try have rS := rS.call hq); (try have rI := rI.call hq); (try have rM := rM.call hq); (try have rH := rH.call hq)) | (go_at_call 39; refine (c_L_eqInt64S0 _).mono ?_; rintro e w1 ⟨rfl, hq⟩; obtain ⟨hc, hf⟩ := hq.rules; have hs := hq.le; (try simp only [markAll_size] at hs); (try simp at hs); (try have rS := rS.call hq); (try have rI := rI.call hq); (try have rM := rM.call hq); (try have rH := rH.call hq)) | (go_at_call 40; refine (c_L_markInt64S0 _).mono ?_; rintro e w1 ⟨rfl, hq⟩; obtain ⟨hc, hf⟩ := hq.rules; have hs := hq.le; (try simp only [markAll_size] at hs); (try simp at hs); (try have rS := rS.call hq); (try have rI := rI.call hq); (try have rM := rM.call hq); (try have rH := rH.call hq)) | (go_at_call 41; refine (c_L_heldInt64S0 _).mono ?_; rintro e w1 ⟨rfl, hq⟩; obtain ⟨hc, hf⟩ := hq.rules; have hs := hq.le; (try simp only [markAll_size] at hs); (try simp at hs); (try have rS := rS.call hq); (try have rI := rI.call hq); (try have rM := rM.call hq); (try have rH := rH.call hq)))
    all_goals go_ret
    all_goals refine ⟨?_, (by repeat (first | (with_reducible exact Q.refl _) | (with_reducible assumption) | (with_reducible refine Q.setCell ?_ (by dsimp only; omega) _) | (with_reducible refine Q.alloc ?_ _) | (with_reducible refine Q.drew ?_) | (with_reducible refine Q.mark ?_ (by omega) _ _) | (with_reducible refine Q.call ?_ (by with_reducible assumption))))⟩
    all_goals first | rfl | (simp [*]; done)
namespace lawFnExactSeasonDays
set_option maxRecDepth 100000 in
theorem lifted (os : Os) (started : os.Started) (H : Type) (enc : TypeId × Value → H) :
    ReturnsInHanded {} Try.checked os 12 .any (Rows.fnExactSeasonDaysSpec.pre6 enc Try.prog Try.f12 Rows.fnExactSeasonDaysRow.domain false) (Rows.fnExactSeasonDaysSpec.post enc Try.prog Try.f12 false true false false) := by
  refine returnsInHanded_of_change (C := Try.checked) own started (by kernel_rfl) Try.func12
    (ChangeSpec.witness6 (enc := enc) (C := Try.checked) false ⟨#[], #[.int .i64 0], []⟩ 8 (by kernel_rfl) (by kernel_rfl) (by kernel_rfl) (by kernel_rfl)) ?_
  intro W base args ds gs before hval0 hW hcnd _
  have hval : ∀ (j : Nat) t v, Try.f12.params[j]? = some t → args[j]? = some v → Value.okWide Try.prog W .any base t v := hval0
  have hW' := hW
  obtain ⟨p, q, hA0, hV, rfl, hfz, hnd⟩ := hW
  have hA : DataW.TrodAll enc Try.prog W 0 (fun _ => true) true Try.f12.params.toList args.toList ds p := hA0
  rw [Try.params12] at hA hval
  obtain ⟨v0, vs0, d0, ds0, p0, q0, hargs, rfl, rfl, h0, r0⟩ := trodAll_cons hA
  obtain ⟨rfl, rfl, rfl⟩ := trodAll_nil r0
  obtain rfl : args = #[v0] := by cases args; simp_all
  obtain ⟨rfl, rfl⟩ := trodVars_none hV
  obtain ⟨aYear, rfl, _, _, _⟩ := open_int Try.underlying2 (hval 0 2 v0 rfl rfl) h0
  refine (walk_FnExactSeasonDays aYear W).mono fun e W' ⟨he, hq⟩ => ?_
  subst he
  exact ⟨_, rfl, _, _, _, [], _, [], hW', trodAll_cons_mk (shut_bool Try.underlying4 _) trodAll_mk0,
    all_stay laidOut hq (by rw [Try.params12]; intro t ht; simp only [Array.toList, List.mem_cons, List.not_mem_nil, or_false] at ht; rcases ht with rfl <;> exact ⟨by kernel_rfl, of_decide_eq_true (by kernel_rfl)⟩) hA0,
    rfl, Below.frame hq _, fun h => by cases h⟩
theorem over : Rows.fnExactSeasonDaysRow.holds Try.pinned (OpenSpec.ofChange Rows.fnExactSeasonDaysSpec) :=
  OpenClaim.holds_of_wide 12 Try.f12 rfl rfl rfl rfl rfl rfl rfl ⟨rfl, rfl, rfl, rfl, rfl⟩ rfl rfl rfl rfl rfl (by kernel_rfl) Try.func12 (by kernel_rfl)
    (of_decide_eq_true (by kernel_rfl)) (by unfold Func.isWrapper; first | (rw [if_pos (by decide +kernel)]; kernel_rfl) | (rw [if_neg (by decide +kernel)]; exact ⟨rfl, rfl⟩))
    (fun os started H enc _ => lifted os started H enc)
theorem proved : Rows.FnExactSeasonDaysSaid :=
  over
#print axioms proved
end lawFnExactSeasonDays
end Go.Proofs.Ytlckpdagejbchaa
