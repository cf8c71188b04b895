/- The statement Rows.FnExactPolePartsSaid is proved: for every argument the law returns true and its arguments read as before. No conditions. -/
import Derived.Test.YthooejkmccdfjaaRows
import Derived.Test.YthooejkmccdfjaaLaw
import Derived.Test.YthooejkmccdfjaaC1
import Derived.Test.YthooejkmccdfjaaC2
import Derived.Test.YthooejkmccdfjaaC3
import Derived.Test.YthooejkmccdfjaaC4
import Derived.Test.YthooejkmccdfjaaC5
import Derived.Test.YthooejkmccdfjaaE1
import Derived.Test.YthooejkmccdfjaaE2
import Derived.Test.YthooejkmccdfjaaE3
import Derived.Test.YthooejkmccdfjaaE6
import Derived.WalkKit
import Derived.ProofKit
import Derived.OpenShut
import Derived.WalkLawsBesides
import Derived.BigQuiet
import Derived.Deep.QuietTactic
import Derived.Deep.LoopGhost
import Derived.LoopN
import Derived.Deep.RegionWith
import Derived.Test.YthooejkmccdfjaaOwn
namespace Go.Proofs.Ythooejkmccdfjaa
open Go.ChangeShapes Go.WideShapes Go.ChangeAt Go.RowKit
set_option linter.unusedVariables false
set_option linter.unusedSimpArgs false
theorem Row.mfrozen {w : World} {g : Nat} {xs : List Value} (hr : Row w g xs) (k : Int) (n : Nat) : ∀ b o, (markAll w g k n).frozen? ⟨b, o, none⟩ = w.frozen? ⟨b, o, none⟩ := markAll_frozen w g k n
theorem Row.msize {w : World} {g : Nat} {xs : List Value} (hr : Row w g xs) (k : Int) (n : Nat) : (markAll w g k n).heap.size = w.heap.size := markAll_size w g k n
set_option maxHeartbeats 4000000 in
theorem c_S_PoleParts_bad0 (w0_Azimuth : Int) (w0_Slope : Int) (latitude : Int) (w : World) (h0 : S_IsWall (⟨w0_Azimuth, w0_Slope⟩ : Wall) = false) : Calls Try.prog 19 #[.agg #[.int .i64 w0_Azimuth, .int .i64 w0_Slope], .int .i64 latitude] w fun e w' => e = .returned (.tuple #[.slice none 0 0, .int .i64 1]) ∧ Q w w' := by
  have hset := setRule
  have hall := allocRule
  have halm := allocMark
  have hw64 := wrapRule
  go_enter Try.func19, Try.ntmps19
  go_wp2_with (first | (go_at_call 68; refine (c_S_IsWall _ _ _ ).mono ?_; rintro e w1 ⟨rfl, hq⟩; obtain ⟨hc, hf⟩ := hq.rules; have hs := hq.le; try simp at hs) | (go_at_call 73; refine (c_S_l09Latitude _ _ ).mono ?_; rintro e w1 ⟨rfl, rfl⟩) | (go_at_call 74; refine (c_S_l13Parts _ _ _ _ _ _ _ _ _ _ _ _ _ _ _ _ _ _ _ _ _ _ _ _ _ _ _ (by first | (with_reducible exact hrow) | exact Row.call hrow (by with_reducible assumption))).mono ?_; rintro e w1 ⟨g, rfl, hq, hg0, hrow⟩; obtain ⟨hg1, hgc, hgf⟩ := id hrow; obtain ⟨hc, hf⟩ := hq.rules; have hs := hq.le; (try simp at hs)) | (go_at_call 72; refine (c_S_l13Axes _ _ _).mono ?_; rintro e w1 ⟨g, rfl, hq, hg0, hrow⟩; obtain ⟨hg1, hgc, hgf⟩ := id hrow; obtain ⟨hc, hf⟩ := hq.rules; have hs := hq.le; (try simp at hs)) | (go_at_call 75; refine (c_S_l06To _ _ _ ).mono ?_; rintro e w1 ⟨rfl, hq⟩; obtain ⟨hc, hf⟩ := hq.rules; have hs := hq.le; try simp at hs))
  all_goals go_ret2
  all_goals refine ⟨?_, (by repeat (first | (with_reducible exact Q.refl _) | (with_reducible assumption) | (with_reducible refine Q.setCell ?_ (by dsimp only; omega) _) | (with_reducible refine Q.alloc ?_ _) | (with_reducible refine Q.drew ?_) | (with_reducible refine Q.call ?_ (by with_reducible assumption))))⟩
  all_goals first | rfl | (simp [*]; done)
set_option maxHeartbeats 4000000 in
theorem c_S_PoleParts_bad1 (w0_Azimuth : Int) (w0_Slope : Int) (latitude : Int) (w : World) (h0 : S_IsWall (⟨w0_Azimuth, w0_Slope⟩ : Wall) = true) (h1 : S_l09Latitude latitude = false) : Calls Try.prog 19 #[.agg #[.int .i64 w0_Azimuth, .int .i64 w0_Slope], .int .i64 latitude] w fun e w' => e = .returned (.tuple #[.slice none 0 0, .int .i64 2]) ∧ Q w w' := by
  have hset := setRule
  have hall := allocRule
  have halm := allocMark
  have hw64 := wrapRule
  go_enter Try.func19, Try.ntmps19
  go_wp2_with (first | (go_at_call 68; refine (c_S_IsWall _ _ _ ).mono ?_; rintro e w1 ⟨rfl, hq⟩; obtain ⟨hc, hf⟩ := hq.rules; have hs := hq.le; try simp at hs) | (go_at_call 73; refine (c_S_l09Latitude _ _ ).mono ?_; rintro e w1 ⟨rfl, rfl⟩) | (go_at_call 74; refine (c_S_l13Parts _ _ _ _ _ _ _ _ _ _ _ _ _ _ _ _ _ _ _ _ _ _ _ _ _ _ _ (by first | (with_reducible exact hrow) | exact Row.call hrow (by with_reducible assumption))).mono ?_; rintro e w1 ⟨g, rfl, hq, hg0, hrow⟩; obtain ⟨hg1, hgc, hgf⟩ := id hrow; obtain ⟨hc, hf⟩ := hq.rules; have hs := hq.le; (try simp at hs)) | (go_at_call 72; refine (c_S_l13Axes _ _ _).mono ?_; rintro e w1 ⟨g, rfl, hq, hg0, hrow⟩; obtain ⟨hg1, hgc, hgf⟩ := id hrow; obtain ⟨hc, hf⟩ := hq.rules; have hs := hq.le; (try simp at hs)) | (go_at_call 75; refine (c_S_l06To _ _ _ ).mono ?_; rintro e w1 ⟨rfl, hq⟩; obtain ⟨hc, hf⟩ := hq.rules; have hs := hq.le; try simp at hs))
  all_goals go_ret2
  all_goals refine ⟨?_, (by repeat (first | (with_reducible exact Q.refl _) | (with_reducible assumption) | (with_reducible refine Q.setCell ?_ (by dsimp only; omega) _) | (with_reducible refine Q.alloc ?_ _) | (with_reducible refine Q.drew ?_) | (with_reducible refine Q.call ?_ (by with_reducible assumption))))⟩
  all_goals first | rfl | (simp [*]; done)
set_option maxHeartbeats 4000000 in
theorem c_S_PoleParts_ok (w0_Azimuth : Int) (w0_Slope : Int) (latitude : Int) (w : World) (h0 : S_IsWall (⟨w0_Azimuth, w0_Slope⟩ : Wall) = true) (h1 : S_l09Latitude latitude = true) : Calls Try.prog 19 #[.agg #[.int .i64 w0_Azimuth, .int .i64 w0_Slope], .int .i64 latitude] w fun e w' => ∃ g, e = .returned (.tuple #[.slice (some ⟨g, 0, none⟩) 3 3, .int .i64 0]) ∧ Q w w' ∧ w.heap.size ≤ g ∧ Row w' g [.int .i64 ((S_l06Dot (S_l06To (wrap64 (w0_Azimuth - 324000)) 0) (S_l06To 0 latitude))).Low, .int .i64 ((S_l06Dot (S_l06To (wrap64 (w0_Azimuth - 324000)) 0) (S_l06To 0 latitude))).High, .int .i64 ((S_l06Dot (S_l06To w0_Azimuth (wrap64 (w0_Slope + 324000))) (S_l06To 0 latitude))).Low, .int .i64 ((S_l06Dot (S_l06To w0_Azimuth (wrap64 (w0_Slope + 324000))) (S_l06To 0 latitude))).High, .int .i64 ((S_l06Dot (S_l06To w0_Azimuth w0_Slope) (S_l06To 0 latitude))).Low, .int .i64 ((S_l06Dot (S_l06To w0_Azimuth w0_Slope) (S_l06To 0 latitude))).High] := by
  have hset := setRule
  have hall := allocRule
  have halm := allocMark
  have hw64 := wrapRule
  go_enter Try.func19, Try.ntmps19
  go_wp2_with (first | (go_at_call 68; refine (c_S_IsWall _ _ _ ).mono ?_; rintro e w1 ⟨rfl, hq⟩; obtain ⟨hc, hf⟩ := hq.rules; have hs := hq.le; try simp at hs) | (go_at_call 73; refine (c_S_l09Latitude _ _ ).mono ?_; rintro e w1 ⟨rfl, rfl⟩) | (go_at_call 74; refine (c_S_l13Parts _ _ _ _ _ _ _ _ _ _ _ _ _ _ _ _ _ _ _ _ _ _ _ _ _ _ _ (by first | (with_reducible exact hrow) | exact Row.call hrow (by with_reducible assumption))).mono ?_; rintro e w1 ⟨g, rfl, hq, hg0, hrow⟩; obtain ⟨hg1, hgc, hgf⟩ := id hrow; obtain ⟨hc, hf⟩ := hq.rules; have hs := hq.le; (try simp at hs)) | (go_at_call 72; refine (c_S_l13Axes _ _ _).mono ?_; rintro e w1 ⟨g, rfl, hq, hg0, hrow⟩; obtain ⟨hg1, hgc, hgf⟩ := id hrow; obtain ⟨hc, hf⟩ := hq.rules; have hs := hq.le; (try simp at hs)) | (go_at_call 75; refine (c_S_l06To _ _ _ ).mono ?_; rintro e w1 ⟨rfl, hq⟩; obtain ⟨hc, hf⟩ := hq.rules; have hs := hq.le; try simp at hs))
  all_goals go_ret2
  all_goals refine ⟨g, rfl, (by repeat (first | (with_reducible exact Q.refl _) | (with_reducible assumption) | (with_reducible refine Q.setCell ?_ (by dsimp only; omega) _) | (with_reducible refine Q.alloc ?_ _) | (with_reducible refine Q.drew ?_) | (with_reducible refine Q.call ?_ (by with_reducible assumption)))), by omega, hrow⟩
set_option maxHeartbeats 4000000 in
theorem c_I_PoleParts_bad0 (w0_Azimuth : Int) (w0_Slope : Int) (latitude : Int) (w : World) (h0 : I_IsWall (⟨w0_Azimuth, w0_Slope⟩ : Wall) = false) : Calls Try.prog 20 #[.agg #[.int .i64 w0_Azimuth, .int .i64 w0_Slope], .int .i64 latitude] w fun e w' => e = .returned (.tuple #[.slice none 0 0, .int .i64 1]) ∧ Q w w' := by
  have hset := setRule
  have hall := allocRule
  have halm := allocMark
  have hw64 := wrapRule
  go_enter Try.func20, Try.ntmps20
  go_wp2_with (first | (go_at_call 76; refine (c_I_IsWall _ _ _ ).mono ?_; rintro e w1 ⟨rfl, hq⟩; obtain ⟨hc, hf⟩ := hq.rules; have hs := hq.le; try simp at hs) | (go_at_call 77; refine (c_I_isLatitude _ _ ).mono ?_; rintro e w1 ⟨rfl, rfl⟩) | (go_at_call 78; refine (c_I_Wall_parts _ _ _ _ _ _ _ _ _).mono ?_; rintro e w1 ⟨g, cap, rfl, hq, hg0, hrow⟩; obtain ⟨hg1, hgc, hgf⟩ := id hrow; obtain ⟨hc, hf⟩ := hq.rules; have hs := hq.le; (try simp at hs)) | (go_at_call 79; refine (c_I_direction _ _ _ ).mono ?_; rintro e w1 ⟨rfl, hq⟩; obtain ⟨hc, hf⟩ := hq.rules; have hs := hq.le; try simp at hs))
  all_goals try (go_region_with (first | (go_at_call 76; refine (c_I_IsWall _ _ _ ).mono ?_; rintro e w1 ⟨rfl, hq⟩; obtain ⟨hc, hf⟩ := hq.rules; have hs := hq.le; try simp at hs) | (go_at_call 77; refine (c_I_isLatitude _ _ ).mono ?_; rintro e w1 ⟨rfl, rfl⟩) | (go_at_call 78; refine (c_I_Wall_parts _ _ _ _ _ _ _ _ _).mono ?_; rintro e w1 ⟨g, cap, rfl, hq, hg0, hrow⟩; obtain ⟨hg1, hgc, hgf⟩ := id hrow; obtain ⟨hc, hf⟩ := hq.rules; have hs := hq.le; (try simp at hs)) | (go_at_call 79; refine (c_I_direction _ _ _ ).mono ?_; rintro e w1 ⟨rfl, hq⟩; obtain ⟨hc, hf⟩ := hq.rules; have hs := hq.le; try simp at hs)))
  all_goals try (go_wp2_with (first | (go_at_call 76; refine (c_I_IsWall _ _ _ ).mono ?_; rintro e w1 ⟨rfl, hq⟩; obtain ⟨hc, hf⟩ := hq.rules; have hs := hq.le; try simp at hs) | (go_at_call 77; refine (c_I_isLatitude _ _ ).mono ?_; rintro e w1 ⟨rfl, rfl⟩) | (go_at_call 78; refine (c_I_Wall_parts _ _ _ _ _ _ _ _ _).mono ?_; rintro e w1 ⟨g, cap, rfl, hq, hg0, hrow⟩; obtain ⟨hg1, hgc, hgf⟩ := id hrow; obtain ⟨hc, hf⟩ := hq.rules; have hs := hq.le; (try simp at hs)) | (go_at_call 79; refine (c_I_direction _ _ _ ).mono ?_; rintro e w1 ⟨rfl, hq⟩; obtain ⟨hc, hf⟩ := hq.rules; have hs := hq.le; try simp at hs)))
  all_goals go_ret2
  all_goals refine ⟨?_, (by repeat (first | (with_reducible exact Q.refl _) | (with_reducible assumption) | (with_reducible refine Q.setCell ?_ (by dsimp only; omega) _) | (with_reducible refine Q.alloc ?_ _) | (with_reducible refine Q.drew ?_) | (with_reducible refine Q.call ?_ (by with_reducible assumption))))⟩
  all_goals first | rfl | (simp [*]; done)
set_option maxHeartbeats 4000000 in
theorem c_I_PoleParts_bad1 (w0_Azimuth : Int) (w0_Slope : Int) (latitude : Int) (w : World) (h0 : I_IsWall (⟨w0_Azimuth, w0_Slope⟩ : Wall) = true) (h1 : I_isLatitude latitude = false) : Calls Try.prog 20 #[.agg #[.int .i64 w0_Azimuth, .int .i64 w0_Slope], .int .i64 latitude] w fun e w' => e = .returned (.tuple #[.slice none 0 0, .int .i64 2]) ∧ Q w w' := by
  have hset := setRule
  have hall := allocRule
  have halm := allocMark
  have hw64 := wrapRule
  go_enter Try.func20, Try.ntmps20
  go_wp2_with (first | (go_at_call 76; refine (c_I_IsWall _ _ _ ).mono ?_; rintro e w1 ⟨rfl, hq⟩; obtain ⟨hc, hf⟩ := hq.rules; have hs := hq.le; try simp at hs) | (go_at_call 77; refine (c_I_isLatitude _ _ ).mono ?_; rintro e w1 ⟨rfl, rfl⟩) | (go_at_call 78; refine (c_I_Wall_parts _ _ _ _ _ _ _ _ _).mono ?_; rintro e w1 ⟨g, cap, rfl, hq, hg0, hrow⟩; obtain ⟨hg1, hgc, hgf⟩ := id hrow; obtain ⟨hc, hf⟩ := hq.rules; have hs := hq.le; (try simp at hs)) | (go_at_call 79; refine (c_I_direction _ _ _ ).mono ?_; rintro e w1 ⟨rfl, hq⟩; obtain ⟨hc, hf⟩ := hq.rules; have hs := hq.le; try simp at hs))
  all_goals try (go_region_with (first | (go_at_call 76; refine (c_I_IsWall _ _ _ ).mono ?_; rintro e w1 ⟨rfl, hq⟩; obtain ⟨hc, hf⟩ := hq.rules; have hs := hq.le; try simp at hs) | (go_at_call 77; refine (c_I_isLatitude _ _ ).mono ?_; rintro e w1 ⟨rfl, rfl⟩) | (go_at_call 78; refine (c_I_Wall_parts _ _ _ _ _ _ _ _ _).mono ?_; rintro e w1 ⟨g, cap, rfl, hq, hg0, hrow⟩; obtain ⟨hg1, hgc, hgf⟩ := id hrow; obtain ⟨hc, hf⟩ := hq.rules; have hs := hq.le; (try simp at hs)) | (go_at_call 79; refine (c_I_direction _ _ _ ).mono ?_; rintro e w1 ⟨rfl, hq⟩; obtain ⟨hc, hf⟩ := hq.rules; have hs := hq.le; try simp at hs)))
  all_goals try (go_wp2_with (first | (go_at_call 76; refine (c_I_IsWall _ _ _ ).mono ?_; rintro e w1 ⟨rfl, hq⟩; obtain ⟨hc, hf⟩ := hq.rules; have hs := hq.le; try simp at hs) | (go_at_call 77; refine (c_I_isLatitude _ _ ).mono ?_; rintro e w1 ⟨rfl, rfl⟩) | (go_at_call 78; refine (c_I_Wall_parts _ _ _ _ _ _ _ _ _).mono ?_; rintro e w1 ⟨g, cap, rfl, hq, hg0, hrow⟩; obtain ⟨hg1, hgc, hgf⟩ := id hrow; obtain ⟨hc, hf⟩ := hq.rules; have hs := hq.le; (try simp at hs)) | (go_at_call 79; refine (c_I_direction _ _ _ ).mono ?_; rintro e w1 ⟨rfl, hq⟩; obtain ⟨hc, hf⟩ := hq.rules; have hs := hq.le; try simp at hs)))
  all_goals go_ret2
  all_goals refine ⟨?_, (by repeat (first | (with_reducible exact Q.refl _) | (with_reducible assumption) | (with_reducible refine Q.setCell ?_ (by dsimp only; omega) _) | (with_reducible refine Q.alloc ?_ _) | (with_reducible refine Q.drew ?_) | (with_reducible refine Q.call ?_ (by with_reducible assumption))))⟩
  all_goals first | rfl | (simp [*]; done)
set_option maxHeartbeats 4000000 in
theorem c_I_PoleParts_ok (w0_Azimuth : Int) (w0_Slope : Int) (latitude : Int) (w : World) (h0 : I_IsWall (⟨w0_Azimuth, w0_Slope⟩ : Wall) = true) (h1 : I_isLatitude latitude = true) : Calls Try.prog 20 #[.agg #[.int .i64 w0_Azimuth, .int .i64 w0_Slope], .int .i64 latitude] w fun e w' => ∃ g cap, e = .returned (.tuple #[.slice (some ⟨g, 0, none⟩) 3 cap, .int .i64 0]) ∧ Q w w' ∧ w.heap.size ≤ g ∧ Row w' g [.int .i64 ((I_Vector_dot (I_direction 0 latitude) (I_direction (wrap64 (w0_Azimuth - 324000)) 0))).Low, .int .i64 ((I_Vector_dot (I_direction 0 latitude) (I_direction (wrap64 (w0_Azimuth - 324000)) 0))).High, .int .i64 ((I_Vector_dot (I_direction 0 latitude) (I_direction w0_Azimuth (wrap64 (w0_Slope + 324000))))).Low, .int .i64 ((I_Vector_dot (I_direction 0 latitude) (I_direction w0_Azimuth (wrap64 (w0_Slope + 324000))))).High, .int .i64 ((I_Vector_dot (I_direction 0 latitude) (I_direction w0_Azimuth w0_Slope))).Low, .int .i64 ((I_Vector_dot (I_direction 0 latitude) (I_direction w0_Azimuth w0_Slope))).High] := by
  have hset := setRule
  have hall := allocRule
  have halm := allocMark
  have hw64 := wrapRule
  go_enter Try.func20, Try.ntmps20
  go_wp2_with (first | (go_at_call 76; refine (c_I_IsWall _ _ _ ).mono ?_; rintro e w1 ⟨rfl, hq⟩; obtain ⟨hc, hf⟩ := hq.rules; have hs := hq.le; try simp at hs) | (go_at_call 77; refine (c_I_isLatitude _ _ ).mono ?_; rintro e w1 ⟨rfl, rfl⟩) | (go_at_call 78; refine (c_I_Wall_parts _ _ _ _ _ _ _ _ _).mono ?_; rintro e w1 ⟨g, cap, rfl, hq, hg0, hrow⟩; obtain ⟨hg1, hgc, hgf⟩ := id hrow; obtain ⟨hc, hf⟩ := hq.rules; have hs := hq.le; (try simp at hs)) | (go_at_call 79; refine (c_I_direction _ _ _ ).mono ?_; rintro e w1 ⟨rfl, hq⟩; obtain ⟨hc, hf⟩ := hq.rules; have hs := hq.le; try simp at hs))
  all_goals try (go_region_with (first | (go_at_call 76; refine (c_I_IsWall _ _ _ ).mono ?_; rintro e w1 ⟨rfl, hq⟩; obtain ⟨hc, hf⟩ := hq.rules; have hs := hq.le; try simp at hs) | (go_at_call 77; refine (c_I_isLatitude _ _ ).mono ?_; rintro e w1 ⟨rfl, rfl⟩) | (go_at_call 78; refine (c_I_Wall_parts _ _ _ _ _ _ _ _ _).mono ?_; rintro e w1 ⟨g, cap, rfl, hq, hg0, hrow⟩; obtain ⟨hg1, hgc, hgf⟩ := id hrow; obtain ⟨hc, hf⟩ := hq.rules; have hs := hq.le; (try simp at hs)) | (go_at_call 79; refine (c_I_direction _ _ _ ).mono ?_; rintro e w1 ⟨rfl, hq⟩; obtain ⟨hc, hf⟩ := hq.rules; have hs := hq.le; try simp at hs)))
  all_goals try (go_wp2_with (first | (go_at_call 76; refine (c_I_IsWall _ _ _ ).mono ?_; rintro e w1 ⟨rfl, hq⟩; obtain ⟨hc, hf⟩ := hq.rules; have hs := hq.le; try simp at hs) | (go_at_call 77; refine (c_I_isLatitude _ _ ).mono ?_; rintro e w1 ⟨rfl, rfl⟩) | (go_at_call 78; refine (c_I_Wall_parts _ _ _ _ _ _ _ _ _).mono ?_; rintro e w1 ⟨g, cap, rfl, hq, hg0, hrow⟩; obtain ⟨hg1, hgc, hgf⟩ := id hrow; obtain ⟨hc, hf⟩ := hq.rules; have hs := hq.le; (try simp at hs)) | (go_at_call 79; refine (c_I_direction _ _ _ ).mono ?_; rintro e w1 ⟨rfl, hq⟩; obtain ⟨hc, hf⟩ := hq.rules; have hs := hq.le; try simp at hs)))
  all_goals go_ret2
  all_goals refine ⟨g, _, rfl, (by repeat (first | (with_reducible exact Q.refl _) | (with_reducible assumption) | (with_reducible refine Q.setCell ?_ (by dsimp only; omega) _) | (with_reducible refine Q.alloc ?_ _) | (with_reducible refine Q.drew ?_) | (with_reducible refine Q.call ?_ (by with_reducible assumption)))), by omega, hrow⟩
theorem c_I_PoleParts_as (w0_Azimuth : Int) (w0_Slope : Int) (latitude : Int) (w : World) (h0 : S_IsWall (⟨w0_Azimuth, w0_Slope⟩ : Wall) = true) (h1 : S_l09Latitude latitude = true) : Calls Try.prog 20 #[.agg #[.int .i64 w0_Azimuth, .int .i64 w0_Slope], .int .i64 latitude] w fun e w' => ∃ g cap, e = .returned (.tuple #[.slice (some ⟨g, 0, none⟩) 3 cap, .int .i64 0]) ∧ Q w w' ∧ w.heap.size ≤ g ∧ Row w' g [.int .i64 ((S_l06Dot (S_l06To (wrap64 (w0_Azimuth - 324000)) 0) (S_l06To 0 latitude))).Low, .int .i64 ((S_l06Dot (S_l06To (wrap64 (w0_Azimuth - 324000)) 0) (S_l06To 0 latitude))).High, .int .i64 ((S_l06Dot (S_l06To w0_Azimuth (wrap64 (w0_Slope + 324000))) (S_l06To 0 latitude))).Low, .int .i64 ((S_l06Dot (S_l06To w0_Azimuth (wrap64 (w0_Slope + 324000))) (S_l06To 0 latitude))).High, .int .i64 ((S_l06Dot (S_l06To w0_Azimuth w0_Slope) (S_l06To 0 latitude))).Low, .int .i64 ((S_l06Dot (S_l06To w0_Azimuth w0_Slope) (S_l06To 0 latitude))).High] := by
  have g0 : I_IsWall (⟨w0_Azimuth, w0_Slope⟩ : Wall) = true := (eq_IsWall _).trans h0
  have g1 : I_isLatitude latitude = true := h1
  have hr : ([.int .i64 ((I_Vector_dot (I_direction 0 latitude) (I_direction (wrap64 (w0_Azimuth - 324000)) 0))).Low, .int .i64 ((I_Vector_dot (I_direction 0 latitude) (I_direction (wrap64 (w0_Azimuth - 324000)) 0))).High, .int .i64 ((I_Vector_dot (I_direction 0 latitude) (I_direction w0_Azimuth (wrap64 (w0_Slope + 324000))))).Low, .int .i64 ((I_Vector_dot (I_direction 0 latitude) (I_direction w0_Azimuth (wrap64 (w0_Slope + 324000))))).High, .int .i64 ((I_Vector_dot (I_direction 0 latitude) (I_direction w0_Azimuth w0_Slope))).Low, .int .i64 ((I_Vector_dot (I_direction 0 latitude) (I_direction w0_Azimuth w0_Slope))).High] : List Value) = [.int .i64 ((S_l06Dot (S_l06To (wrap64 (w0_Azimuth - 324000)) 0) (S_l06To 0 latitude))).Low, .int .i64 ((S_l06Dot (S_l06To (wrap64 (w0_Azimuth - 324000)) 0) (S_l06To 0 latitude))).High, .int .i64 ((S_l06Dot (S_l06To w0_Azimuth (wrap64 (w0_Slope + 324000))) (S_l06To 0 latitude))).Low, .int .i64 ((S_l06Dot (S_l06To w0_Azimuth (wrap64 (w0_Slope + 324000))) (S_l06To 0 latitude))).High, .int .i64 ((S_l06Dot (S_l06To w0_Azimuth w0_Slope) (S_l06To 0 latitude))).Low, .int .i64 ((S_l06Dot (S_l06To w0_Azimuth w0_Slope) (S_l06To 0 latitude))).High] := by
    have hl := (in_iff _ _ _).1 h1
    have e0 := eq_direction (a := 0) (b := latitude) (by omega) (by omega)
    have e := eq_axes (w := (⟨w0_Azimuth, w0_Slope⟩ : Wall)) h0
    unfold I_Wall_axes S_l13Axes at e
    simp only [Prod.mk.injEq] at e
    obtain ⟨e1, e2, e3⟩ := e
    have hv := to_within 0 latitude
    have d0 := eq_dot (m := 0) (n := 0) (v := (S_l06To 0 latitude)) (a := (S_l06To (wrap64 (w0_Azimuth - 324000)) 0)) hv (to_within _ _)
    have d1 := eq_dot (m := 0) (n := 0) (v := (S_l06To 0 latitude)) (a := (S_l06To w0_Azimuth (wrap64 (w0_Slope + 324000)))) hv (to_within _ _)
    have d2 := eq_dot (m := 0) (n := 0) (v := (S_l06To 0 latitude)) (a := (S_l06To w0_Azimuth w0_Slope)) hv (to_within _ _)
    rw [e0, e1, e2, e3, d0, d1, d2]
  rw [← hr]
  exact c_I_PoleParts_ok w0_Azimuth w0_Slope latitude w g0 g1
set_option maxHeartbeats 8000000 in
theorem walk_FnExactPoleParts (aW_Azimuth : Int) (aW_Slope : Int) (aLatitude : Int) (w : World) : Calls Try.prog 4 #[.agg #[.int .i64 aW_Azimuth, .int .i64 aW_Slope], .int .i64 aLatitude] w fun e w' => e = .returned (.bool true) ∧ Q w w' := by
  have hset := setRule
  have hall := allocRule
  have halm := allocMark
  have hw64 := wrapRule
  have hto_L_toWall := L_toWall_rule
  rcases Bool.eq_false_or_eq_true (S_IsWall (⟨aW_Azimuth, aW_Slope⟩ : Wall)) with h0 | h0
  · skip
    rcases Bool.eq_false_or_eq_true (S_l09Latitude aLatitude) with h1 | h1
    · skip
      go_enter Try.func4, Try.ntmps4
      go_wp2_with (first | (go_at_call 16; refine (c_L_toWall _ _ _ ).mono ?_; rintro e w1 ⟨rfl, hq⟩; obtain ⟨hc, hf⟩ := hq.rules; have hs := hq.le; (try simp only [markAll_size] at hs); (try simp at hs); (try have rS := rS.call hq); (try have rI := rI.call hq); (try have rM := rM.call hq); (try have rH := rH.call hq)) | (go_at_call 19; refine (c_S_PoleParts_ok _ _ _ _ h0 h1).mono ?_; rintro e w1 ⟨gS, rfl, hq, hgS, hrow⟩; obtain ⟨hc, hf⟩ := hq.rules; have hs := hq.le; (try simp only [markAll_size] at hs); (try simp at hs); (try have rS := rS.call hq); (try have rI := rI.call hq); (try have rM := rM.call hq); (try have rH := rH.call hq); have rS := hrow; have hltS := hrow.1) | (go_at_call 20; have hdone := rM; refine (c_I_PoleParts_as _ _ _ _ h0 h1).mono ?_; rintro e w1 ⟨gH, capH, rfl, hq, hgH, hrow⟩; obtain ⟨hc, hf⟩ := hq.rules; have hs := hq.le; (try simp only [markAll_size] at hs); (try simp at hs); (try have rS := rS.call hq); (try have rI := rI.call hq); (try have rM := rM.call hq); (try have rH := rH.call hq); have rH := hrow; have hltH := hrow.1) | (go_at_call 20; refine (c_I_PoleParts_as _ _ _ _ h0 h1).mono ?_; rintro e w1 ⟨gI, capI, rfl, hq, hgI, hrow⟩; obtain ⟨hc, hf⟩ := hq.rules; have hs := hq.le; (try simp only [markAll_size] at hs); (try simp at hs); (try have rS := rS.call hq); (try have rI := rI.call hq); (try have rM := rM.call hq); (try have rH := rH.call hq); have rI := hrow; have hltI := hrow.1; have hne : gS ≠ gI := by omega) | (go_at_call 21; refine (c_L_eqIntervalS3 _ _ _ _ _ _ _ _ _ _ _ rH rS).mono ?_; rintro e w1 ⟨rfl, hq⟩; obtain ⟨hc, hf⟩ := hq.rules; have hs := hq.le; (try simp only [markAll_size] at hs); (try simp at hs); (try have rS := rS.call hq); (try have rI := rI.call hq); (try have rM := rM.call hq); (try have rH := rH.call hq)) | (go_at_call 21; refine (c_L_eqIntervalS3 _ _ _ _ _ _ _ _ _ _ _ rI rS).mono ?_; rintro e w1 ⟨rfl, hq⟩; obtain ⟨hc, hf⟩ := hq.rules; have hs := hq.le; (try simp only [markAll_size] at hs); (try simp at hs); (try have rS := rS.call hq); (try have rI := rI.call hq); (try have rM := rM.call hq); (try have rH := rH.call hq)) | (go_at_call 22; refine (c_L_markIntervalS3 _ _ _ _ _ _ _ _ _ rI).mono ?_; rintro e w1 ⟨rfl, rfl⟩; have hmc := markAll_cell rI 1 6 (by simp); have hmf := rI.mfrozen 1 6; have hms := rI.msize 1 6; have rS := Row.mark_other rI rS hne 1; have rM := Row.mark rI 1; (repeat clear rI); simp only [List.length_cons, List.length_nil, Nat.reduceAdd] at rS rM) | (go_at_call 23; refine (c_L_heldIntervalS3 _ _ _ rM).mono ?_; rintro e w1 ⟨rfl, hq⟩; obtain ⟨hc, hf⟩ := hq.rules; have hs := hq.le; (try simp only [markAll_size] at hs); (try simp at hs); (try have rS := rS.call hq); (try have rI := rI.call hq); (try have rM := rM.call hq); (try have rH := rH.call hq)))
      all_goals go_ret
      all_goals refine ⟨?_, (by repeat (first | (with_reducible exact Q.refl _) | (with_reducible assumption) | (with_reducible refine Q.setCell ?_ (by dsimp only; omega) _) | (with_reducible refine Q.alloc ?_ _) | (with_reducible refine Q.drew ?_) | (with_reducible refine Q.mark ?_ (by omega) _ _) | (with_reducible refine Q.call ?_ (by with_reducible assumption))))⟩
      all_goals first | rfl | (simp [*]; done)
    · skip
      go_enter Try.func4, Try.ntmps4
      go_wp2_with (first | (go_at_call 16; refine (c_L_toWall _ _ _ ).mono ?_; rintro e w1 ⟨rfl, hq⟩; obtain ⟨hc, hf⟩ := hq.rules; have hs := hq.le; (try simp only [markAll_size] at hs); (try simp at hs); (try have rS := rS.call hq); (try have rI := rI.call hq); (try have rM := rM.call hq); (try have rH := rH.call hq)) | (go_at_call 19; refine (c_S_PoleParts_bad1 _ _ _ _ h0 h1).mono ?_; rintro e w1 ⟨rfl, hq⟩; obtain ⟨hc, hf⟩ := hq.rules; have hs := hq.le; (try simp only [markAll_size] at hs); (try simp at hs); (try have rS := rS.call hq); (try have rI := rI.call hq); (try have rM := rM.call hq); (try have rH := rH.call hq)) | (go_at_call 20; refine (c_I_PoleParts_bad1 _ _ _ _ ((eq_IsWall _).trans h0) (h1)).mono ?_; rintro e w1 ⟨rfl, hq⟩; obtain ⟨hc, hf⟩ := hq.rules; have hs := hq.le; (try simp only [markAll_size] at hs); (try simp at hs); (try have rS := rS.call hq); (try have rI := rI.call hq); (try have rM := rM.call hq); (try have rH := rH.call hq)) | (go_at_call 21; refine (c_L_eqIntervalS0 _).mono ?_; rintro e w1 ⟨rfl, hq⟩; obtain ⟨hc, hf⟩ := hq.rules; have hs := hq.le; (try simp only [markAll_size] at hs); (try simp at hs); (try have rS := rS.call hq); (try have rI := rI.call hq); (try have rM := rM.call hq); (try have rH := rH.call hq)) | (go_at_call 22; refine (c_L_markIntervalS0 _).mono ?_; rintro e w1 ⟨rfl, hq⟩; obtain ⟨hc, hf⟩ := hq.rules; have hs := hq.le; (try simp only [markAll_size] at hs); (try simp at hs); (try have rS := rS.call hq); (try have rI := rI.call hq); (try have rM := rM.call hq); (try have rH := rH.call hq)) | (go_at_call 23; refine (c_L_heldIntervalS0 _).mono ?_; rintro e w1 ⟨rfl, hq⟩; obtain ⟨hc, hf⟩ := hq.rules; have hs := hq.le; (try simp only [markAll_size] at hs); (try simp at hs); (try have rS := rS.call hq); (try have rI := rI.call hq); (try have rM := rM.call hq); (try have rH := rH.call hq)))
      all_goals go_ret
      all_goals refine ⟨?_, (by repeat (first | (with_reducible exact Q.refl _) | (with_reducible assumption) | (with_reducible refine Q.setCell ?_ (by dsimp only; omega) _) | (with_reducible refine Q.alloc ?_ _) | (with_reducible refine Q.drew ?_) | (with_reducible refine Q.mark ?_ (by omega) _ _) | (with_reducible refine Q.call ?_ (by with_reducible assumption))))⟩
      all_goals first | rfl | (simp [*]; done)
  · skip
    go_enter Try.func4, Try.ntmps4
    go_wp2_with (first | (go_at_call 16; refine (c_L_toWall _ _ _ ).mono ?_; rintro e w1 ⟨rfl, hq⟩; obtain ⟨hc, hf⟩ := hq.rules; have hs := hq.le; (try simp only [markAll_size] at hs); (try simp at hs); (try have rS := rS.call hq); (try have rI := rI.call hq); (try have rM := rM.call hq); (try have rH := rH.call hq)) | (go_at_call 19; refine (c_S_PoleParts_bad0 _ _ _ _ h0).mono ?_; rintro e w1 ⟨rfl, hq⟩; obtain ⟨hc, hf⟩ := hq.rules; have hs := hq.le; (try simp only [markAll_size] at hs); (try simp at hs); (try have rS := rS.call hq); (try have rI := rI.call hq); (try have rM := rM.call hq); (try have rH := rH.call hq)) | (go_at_call 20; refine (c_I_PoleParts_bad0 _ _ _ _ ((eq_IsWall _).trans h0)).mono ?_; rintro e w1 ⟨rfl, hq⟩; obtain ⟨hc, hf⟩ := hq.rules; have hs := hq.le; (try simp only [markAll_size] at hs); (try simp at hs); (try have rS := rS.call hq); (try have rI := rI.call hq); (try have rM := rM.call hq); (try have rH := rH.call hq)) | (go_at_call 21; refine (c_L_eqIntervalS0 _).mono ?_; rintro e w1 ⟨rfl, hq⟩; obtain ⟨hc, hf⟩ := hq.rules; have hs := hq.le; (try simp only [markAll_size] at hs); (try simp at hs); (try have rS := rS.call hq); (try have rI := rI.call hq); (try have rM := rM.call hq); (try have rH := rH.call hq)) | (go_at_call 22; refine (c_L_markIntervalS0 _).mono ?_; rintro e w1 ⟨rfl, hq⟩; obtain ⟨hc, hf⟩ := hq.rules; have hs := hq.le; (try simp only [markAll_size] at hs); (try simp at hs); (try have rS := rS.call hq); (try have rI := rI.call hq); (try have rM := rM.call hq); (try have rH := rH.call hq)) | (go_at_call 23; refine (c_L_heldIntervalS0 _).mono ?_; rintro e w1 ⟨rfl, hq⟩; obtain ⟨hc, hf⟩ := hq.rules; have hs := hq.le; (try simp only [markAll_size] at hs); (try simp at hs); (try have rS := rS.call hq); (try have rI := rI.call hq); (try have rM := rM.call hq); (try have rH := rH.call hq)))
    all_goals go_ret
    all_goals refine ⟨?_, (by repeat (first | (with_reducible exact Q.refl _) | (with_reducible assumption) | (with_reducible refine Q.setCell ?_ (by dsimp only; omega) _) | (with_reducible refine Q.alloc ?_ _) | (with_reducible refine Q.drew ?_) | (with_reducible refine Q.mark ?_ (by omega) _ _) | (with_reducible refine Q.call ?_ (by with_reducible assumption))))⟩
    all_goals first | rfl | (simp [*]; done)
namespace lawFnExactPoleParts
set_option maxRecDepth 100000 in
theorem lifted (os : Os) (started : os.Started) (H : Type) (enc : TypeId × Value → H) :
    ReturnsInHanded {} Try.checked os 4 .any (Rows.fnExactPolePartsSpec.pre6 enc Try.prog Try.f4 Rows.fnExactPolePartsRow.domain false) (Rows.fnExactPolePartsSpec.post enc Try.prog Try.f4 false true false false) := by
  refine returnsInHanded_of_change (C := Try.checked) own started (by kernel_rfl) Try.func4
    (ChangeSpec.witness6 (enc := enc) (C := Try.checked) false ⟨#[], #[.agg #[.int .i64 0, .int .i64 0], .int .i64 0], []⟩ 8 (by kernel_rfl) (by kernel_rfl) (by kernel_rfl) (by kernel_rfl)) ?_
  intro W base args ds gs before hval0 hW hcnd _
  have hval : ∀ (j : Nat) t v, Try.f4.params[j]? = some t → args[j]? = some v → Value.okWide Try.prog W .any base t v := hval0
  have hW' := hW
  obtain ⟨p, q, hA0, hV, rfl, hfz, hnd⟩ := hW
  have hA : DataW.TrodAll enc Try.prog W 0 (fun _ => true) true Try.f4.params.toList args.toList ds p := hA0
  rw [Try.params4] at hA hval
  obtain ⟨v0, vs0, d0, ds0, p0, q0, hargs, rfl, rfl, h0, r0⟩ := trodAll_cons hA
  obtain ⟨v1, vs1, d1, ds1, p1, q1, rfl, rfl, rfl, h1, r1⟩ := trodAll_cons r0
  obtain ⟨rfl, rfl, rfl⟩ := trodAll_nil r1
  obtain rfl : args = #[v0, v1] := by cases args; simp_all
  obtain ⟨rfl, rfl⟩ := trodVars_none hV
  obtain ⟨zs0, hz0, rfl⟩ := open_cells (m := 2) (u := 2) Try.underlying23 (by kernel_rfl) Try.underlying2 (by kernel_rfl) (hval 0 23 v0 rfl rfl)
  obtain ⟨aW_Azimuth, aW_Slope, rfl⟩ := list2 hz0
  obtain ⟨aLatitude, rfl, _, _, _⟩ := open_int Try.underlying2 (hval 1 2 v1 rfl rfl) h1
  refine (walk_FnExactPoleParts aW_Azimuth aW_Slope aLatitude W).mono fun e W' ⟨he, hq⟩ => ?_
  subst he
  exact ⟨_, rfl, _, _, _, [], _, [], hW', trodAll_cons_mk (shut_bool Try.underlying4 _) trodAll_mk0,
    all_stay laidOut hq (by rw [Try.params4]; intro t ht; simp only [Array.toList, List.mem_cons, List.not_mem_nil, or_false] at ht; rcases ht with rfl | rfl <;> exact ⟨by kernel_rfl, of_decide_eq_true (by kernel_rfl)⟩) hA0,
    rfl, Below.frame hq _, fun h => by cases h⟩
theorem over : Rows.fnExactPolePartsRow.holds Try.pinned (OpenSpec.ofChange Rows.fnExactPolePartsSpec) :=
  OpenClaim.holds_of_wide 4 Try.f4 rfl rfl rfl rfl rfl rfl rfl ⟨rfl, rfl, rfl, rfl, rfl⟩ rfl rfl rfl rfl rfl (by kernel_rfl) Try.func4 (by kernel_rfl)
    (of_decide_eq_true (by kernel_rfl)) (by unfold Func.isWrapper; first | (rw [if_pos (by decide +kernel)]; kernel_rfl) | (rw [if_neg (by decide +kernel)]; exact ⟨rfl, rfl⟩))
    (fun os started H enc _ => lifted os started H enc)
theorem proved : Rows.FnExactPolePartsSaid :=
  over
#print axioms proved
end lawFnExactPoleParts
end Go.Proofs.Ythooejkmccdfjaa
