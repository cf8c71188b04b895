/- Contracts of Go functions of the plain fragment, with their walks; printed by a program of the author's own. -/
import Derived.Test.YthooejkmccdfjaaRows
import Derived.Test.YthooejkmccdfjaaDefs
import Derived.Test.YthooejkmccdfjaaC1
import Derived.Test.YthooejkmccdfjaaFresh
import Derived.Test.YthooejkmccdfjaaM2
import Derived.WalkKit
import Derived.ProofKit
import Derived.OpenShut
import Derived.WalkLawsBesides
import Derived.BigQuiet
import Derived.Deep.QuietTactic
import Derived.Deep.LoopGhost
import Derived.LoopN
import Derived.Deep.RegionWith
import Derived.Test.YthooejkmccdfjaaOwn
namespace Go.Proofs.Ythooejkmccdfjaa
open Go.ChangeShapes Go.WideShapes Go.ChangeAt Go.RowKit
set_option linter.unusedVariables false
set_option linter.unusedSimpArgs false
set_option maxHeartbeats 1000000 in
theorem c_S_l04Sin (a : Int) (w : World)  : Calls Try.prog 120 #[.int .i64 a] w fun e w' => e = .returned (.agg #[.int .i64 ((S_l04Sin a).Low), .int .i64 ((S_l04Sin a).High)]) ∧ Q w w' := by
  have hset := setRule
  have hall := allocRule
  have halm := allocMark
  have hw64 := wrapRule
  go_enter Try.func120, Try.ntmps120
  go_wp2_with (first | (go_at_call 153; refine (c_S_l04Interval _ _ ).mono ?_; rintro e w1 ⟨rfl, hq⟩; obtain ⟨hc, hf⟩ := hq.rules; have hs := hq.le; try simp at hs) | (go_at_call 155; refine (c_S_l04Sine _ _ ).mono ?_; rintro e w1 ⟨rfl, rfl⟩))
  all_goals
    refine bodyPost_ret (v := .agg #[.int .i64 ((S_l04Sin a).Low), .int .i64 ((S_l04Sin a).High)]) ?_ rfl ⟨rfl, ?_⟩
    · first | (simp [results, Try.results120, go_sem, S_l04Sin, *]; done) | (simp [results, Try.results120, go_sem, *]; repeat (simp (disch := omega) only [if_pos, if_neg]; try simp [go_sem, S_l04Sin, *]))
    · (repeat (first | (with_reducible exact Q.refl _) | (with_reducible assumption) | (with_reducible refine Q.setCell ?_ (by dsimp only; omega) _) | (with_reducible refine Q.alloc ?_ _) | (with_reducible refine Q.drew ?_) | (with_reducible refine Q.call ?_ (by with_reducible assumption))))

set_option maxHeartbeats 1000000 in
theorem c_S_l06To (azimuth : Int) (altitude : Int) (w : World)  : Calls Try.prog 75 #[.int .i64 azimuth, .int .i64 altitude] w fun e w' => e = .returned (.agg #[.int .i64 ((S_l06To azimuth altitude).X.Low), .int .i64 ((S_l06To azimuth altitude).X.High), .int .i64 ((S_l06To azimuth altitude).Y.Low), .int .i64 ((S_l06To azimuth altitude).Y.High), .int .i64 ((S_l06To azimuth altitude).Z.Low), .int .i64 ((S_l06To azimuth altitude).Z.High)]) ∧ Q w w' := by
  have hset := setRule
  have hall := allocRule
  have halm := allocMark
  have hw64 := wrapRule
  go_enter Try.func75, Try.ntmps75
  go_wp2_with (first | (go_at_call 119; refine (c_S_l04Cos _ _ ).mono ?_; rintro e w1 ⟨rfl, hq⟩; obtain ⟨hc, hf⟩ := hq.rules; have hs := hq.le; try simp at hs) | (go_at_call 118; refine (c_S_l02Mul _ _ _ _ _ ).mono ?_; rintro e w1 ⟨rfl, hq⟩; obtain ⟨hc, hf⟩ := hq.rules; have hs := hq.le; try simp at hs) | (go_at_call 120; refine (c_S_l04Sin _ _ ).mono ?_; rintro e w1 ⟨rfl, hq⟩; obtain ⟨hc, hf⟩ := hq.rules; have hs := hq.le; try simp at hs))
  all_goals try (
    refine region_Q (id := 2) 11 (by kernel_rfl) (by kernel_rfl) ?_
    simp only [List.take_succ_cons, List.take_zero, List.drop_succ_cons, List.drop_zero]
    repeat (first | (apply q_step rfl; (intro wq hq; have hr := Q.rules hq; have hcq := hr.1; have hfq := hr.2; clear hr; have hsq := Q.le hq; (try simp at hsq); go_simp; (repeat (simp (disch := omega) only [if_pos, if_neg]; try go_simp)); (first | rfl | exact ⟨rfl, rfl⟩ | (go_at_call 119; exact quiet_grow hq (c_S_l04Cos _ _ )) | (go_at_call 118; exact quiet_grow hq (c_S_l02Mul _ _ _ _ _ )) | (go_at_call 120; exact quiet_grow hq (c_S_l04Sin _ _ )))); try go_simp) | (apply q_skip rfl; try go_simp))
    refine wpQuiet_nil ?_
    intro w1 hq
    have hr := Q.rules hq; have hc := hr.1; have hf := hr.2; clear hr; have hs := Q.le hq; try simp at hs)
  all_goals try go_wp2_with (first | (go_at_call 119; refine (c_S_l04Cos _ _ ).mono ?_; rintro e w1 ⟨rfl, hq⟩; obtain ⟨hc, hf⟩ := hq.rules; have hs := hq.le; try simp at hs) | (go_at_call 118; refine (c_S_l02Mul _ _ _ _ _ ).mono ?_; rintro e w1 ⟨rfl, hq⟩; obtain ⟨hc, hf⟩ := hq.rules; have hs := hq.le; try simp at hs) | (go_at_call 120; refine (c_S_l04Sin _ _ ).mono ?_; rintro e w1 ⟨rfl, hq⟩; obtain ⟨hc, hf⟩ := hq.rules; have hs := hq.le; try simp at hs))
  all_goals
    refine bodyPost_ret (v := .agg #[.int .i64 ((S_l06To azimuth altitude).X.Low), .int .i64 ((S_l06To azimuth altitude).X.High), .int .i64 ((S_l06To azimuth altitude).Y.Low), .int .i64 ((S_l06To azimuth altitude).Y.High), .int .i64 ((S_l06To azimuth altitude).Z.Low), .int .i64 ((S_l06To azimuth altitude).Z.High)]) ?_ rfl ⟨rfl, ?_⟩
    · first | (simp [results, Try.results75, go_sem, S_l06To, *]; done) | (simp [results, Try.results75, go_sem, *]; repeat (simp (disch := omega) only [if_pos, if_neg]; try simp [go_sem, S_l06To, *]))
    · (repeat (first | (with_reducible exact Q.refl _) | (with_reducible assumption) | (with_reducible refine Q.setCell ?_ (by dsimp only; omega) _) | (with_reducible refine Q.alloc ?_ _) | (with_reducible refine Q.drew ?_) | (with_reducible refine Q.call ?_ (by with_reducible assumption))))

set_option maxHeartbeats 4000000 in
theorem c_S_l13Axes (w_Azimuth w_Slope : Int) (w : World) : Calls Try.prog 72 #[.agg #[.int .i64 w_Azimuth, .int .i64 w_Slope]] w fun e w' => ∃ g, e = .returned (.slice (some ⟨g, 0, none⟩) 3 3) ∧ Q w w' ∧ w.heap.size ≤ g ∧ Row w' g [.int .i64 (((S_l06To (wrap64 (w_Azimuth - 324000)) 0)).X).Low, .int .i64 (((S_l06To (wrap64 (w_Azimuth - 324000)) 0)).X).High, .int .i64 (((S_l06To (wrap64 (w_Azimuth - 324000)) 0)).Y).Low, .int .i64 (((S_l06To (wrap64 (w_Azimuth - 324000)) 0)).Y).High, .int .i64 (((S_l06To (wrap64 (w_Azimuth - 324000)) 0)).Z).Low, .int .i64 (((S_l06To (wrap64 (w_Azimuth - 324000)) 0)).Z).High, .int .i64 (((S_l06To w_Azimuth (wrap64 (w_Slope + 324000)))).X).Low, .int .i64 (((S_l06To w_Azimuth (wrap64 (w_Slope + 324000)))).X).High, .int .i64 (((S_l06To w_Azimuth (wrap64 (w_Slope + 324000)))).Y).Low, .int .i64 (((S_l06To w_Azimuth (wrap64 (w_Slope + 324000)))).Y).High, .int .i64 (((S_l06To w_Azimuth (wrap64 (w_Slope + 324000)))).Z).Low, .int .i64 (((S_l06To w_Azimuth (wrap64 (w_Slope + 324000)))).Z).High, .int .i64 (((S_l06To w_Azimuth w_Slope)).X).Low, .int .i64 (((S_l06To w_Azimuth w_Slope)).X).High, .int .i64 (((S_l06To w_Azimuth w_Slope)).Y).Low, .int .i64 (((S_l06To w_Azimuth w_Slope)).Y).High, .int .i64 (((S_l06To w_Azimuth w_Slope)).Z).Low, .int .i64 (((S_l06To w_Azimuth w_Slope)).Z).High] := by
  have hset := setRule
  have hall := allocRule
  have halm := allocMark
  have hw64 := wrapRule
  go_enter Try.func72, Try.ntmps72
  go_wp2_with (first | (go_at_call 75; refine (c_S_l06To _ _ _ ).mono ?_; rintro e w1 ⟨rfl, hq⟩; obtain ⟨hc, hf⟩ := hq.rules; have hs := hq.le; try simp at hs))
  all_goals try (
    refine region_Q (id := 1) 15 (by kernel_rfl) (by kernel_rfl) ?_
    simp only [List.take_succ_cons, List.take_zero, List.drop_succ_cons, List.drop_zero]
    repeat (first | (apply q_step rfl; (intro wq hq; have hr := Q.rules hq; have hcq := hr.1; have hfq := hr.2; clear hr; have hsq := Q.le hq; (try simp at hsq); go_simp; (repeat (simp (disch := omega) only [if_pos, if_neg]; try go_simp)); (first | rfl | exact ⟨rfl, rfl⟩ | (go_at_call 75; exact quiet_grow hq (c_S_l06To _ _ _ )))); try go_simp) | (apply q_skip rfl; try go_simp))
    refine wpQuiet_nil ?_
    intro w1 hq
    have hr := Q.rules hq; have hc := hr.1; have hf := hr.2; clear hr; have hs := Q.le hq; try simp at hs)
  all_goals try go_wp2_with (first | (go_at_call 75; refine (c_S_l06To _ _ _ ).mono ?_; rintro e w1 ⟨rfl, hq⟩; obtain ⟨hc, hf⟩ := hq.rules; have hs := hq.le; try simp at hs))
  all_goals go_ret
  all_goals refine ⟨_, rfl, (by repeat (first | (with_reducible exact Q.refl _) | (with_reducible assumption) | (with_reducible refine Q.setCell ?_ (by dsimp only; omega) _) | (with_reducible refine Q.alloc ?_ _) | (with_reducible refine Q.drew ?_) | (with_reducible refine Q.call ?_ (by with_reducible assumption)))), ?_, Row.new _ _ _⟩
  all_goals first | omega | (simp; omega)

set_option maxHeartbeats 4000000 in
theorem c_S_IsLit (w0_Azimuth w0_Slope v_X_Low v_X_High v_Y_Low v_Y_High v_Z_Low v_Z_High : Int) (w : World) : Calls Try.prog 15 #[.agg #[.int .i64 w0_Azimuth, .int .i64 w0_Slope], .agg #[.int .i64 v_X_Low, .int .i64 v_X_High, .int .i64 v_Y_Low, .int .i64 v_Y_High, .int .i64 v_Z_Low, .int .i64 v_Z_High]] w fun e w' => e = .returned (.tuple #[.int .i64 (S_IsLit (⟨w0_Azimuth, w0_Slope⟩ : Wall) (⟨⟨v_X_Low, v_X_High⟩, ⟨v_Y_Low, v_Y_High⟩, ⟨v_Z_Low, v_Z_High⟩⟩ : Vector)).1, .int .i64 (S_IsLit (⟨w0_Azimuth, w0_Slope⟩ : Wall) (⟨⟨v_X_Low, v_X_High⟩, ⟨v_Y_Low, v_Y_High⟩, ⟨v_Z_Low, v_Z_High⟩⟩ : Vector)).2]) ∧ Q w w' := by
  have hset := setRule
  have hall := allocRule
  have halm := allocMark
  have hw64 := wrapRule
  have hwl1 : wrap64 1 = 1 := w64 (by omega)
  have hwl2 : wrap64 2 = 2 := w64 (by omega)
  have hwl3 : wrap64 3 = 3 := w64 (by omega)
  rcases Bool.eq_false_or_eq_true (S_IsWall (⟨w0_Azimuth, w0_Slope⟩ : Wall)) with h0 | h0
  · rcases Bool.eq_false_or_eq_true (S_IsVector (⟨⟨v_X_Low, v_X_High⟩, ⟨v_Y_Low, v_Y_High⟩, ⟨v_Z_Low, v_Z_High⟩⟩ : Vector)) with h1 | h1
    · skip
      have hd : S_IsLit (⟨w0_Azimuth, w0_Slope⟩ : Wall) (⟨⟨v_X_Low, v_X_High⟩, ⟨v_Y_Low, v_Y_High⟩, ⟨v_Z_Low, v_Z_High⟩⟩ : Vector) = (S_l09Sign (S_l06Dot (S_l06To w0_Azimuth w0_Slope) (⟨⟨v_X_Low, v_X_High⟩, ⟨v_Y_Low, v_Y_High⟩, ⟨v_Z_Low, v_Z_High⟩⟩ : Vector)), 0) := by simp [S_IsLit, S_l13Axes, h0, h1]
      go_enter Try.func15, Try.ntmps15
      go_wp2_with (first | (go_at_call 68; refine (c_S_IsWall _ _ _ ).mono ?_; rintro e w1 ⟨rfl, hq⟩; obtain ⟨hc, hf⟩ := hq.rules; have hs := hq.le; try simp at hs) | (go_at_call 69; refine (c_S_IsVector _ _ _ _ _ _ _ ).mono ?_; rintro e w1 ⟨rfl, hq⟩; obtain ⟨hc, hf⟩ := hq.rules; have hs := hq.le; try simp at hs) | (go_at_call 70; refine (c_S_l09Sign _ _ _ ).mono ?_; rintro e w1 ⟨rfl, hq⟩; obtain ⟨hc, hf⟩ := hq.rules; have hs := hq.le; try simp at hs) | (go_at_call 71; refine (c_S_l06Dot _ _ _ _ _ _ _ _ _ _ _ _ _ ).mono ?_; rintro e w1 ⟨rfl, hq⟩; obtain ⟨hc, hf⟩ := hq.rules; have hs := hq.le; try simp at hs) | (go_at_call 72; refine (c_S_l13Axes _ _ _).mono ?_; rintro e w1 ⟨g, rfl, hq, hg0, hrow⟩; obtain ⟨hg1, hgc, hgf⟩ := id hrow; obtain ⟨hc, hf⟩ := hq.rules; have hs := hq.le; (try simp at hs)))
      all_goals try (go_region_with (first | (go_at_call 68; refine (c_S_IsWall _ _ _ ).mono ?_; rintro e w1 ⟨rfl, hq⟩; obtain ⟨hc, hf⟩ := hq.rules; have hs := hq.le; try simp at hs) | (go_at_call 69; refine (c_S_IsVector _ _ _ _ _ _ _ ).mono ?_; rintro e w1 ⟨rfl, hq⟩; obtain ⟨hc, hf⟩ := hq.rules; have hs := hq.le; try simp at hs) | (go_at_call 70; refine (c_S_l09Sign _ _ _ ).mono ?_; rintro e w1 ⟨rfl, hq⟩; obtain ⟨hc, hf⟩ := hq.rules; have hs := hq.le; try simp at hs) | (go_at_call 71; refine (c_S_l06Dot _ _ _ _ _ _ _ _ _ _ _ _ _ ).mono ?_; rintro e w1 ⟨rfl, hq⟩; obtain ⟨hc, hf⟩ := hq.rules; have hs := hq.le; try simp at hs) | (go_at_call 72; refine (c_S_l13Axes _ _ _).mono ?_; rintro e w1 ⟨g, rfl, hq, hg0, hrow⟩; obtain ⟨hg1, hgc, hgf⟩ := id hrow; obtain ⟨hc, hf⟩ := hq.rules; have hs := hq.le; (try simp at hs))))
      all_goals try (go_wp2_with (first | (go_at_call 68; refine (c_S_IsWall _ _ _ ).mono ?_; rintro e w1 ⟨rfl, hq⟩; obtain ⟨hc, hf⟩ := hq.rules; have hs := hq.le; try simp at hs) | (go_at_call 69; refine (c_S_IsVector _ _ _ _ _ _ _ ).mono ?_; rintro e w1 ⟨rfl, hq⟩; obtain ⟨hc, hf⟩ := hq.rules; have hs := hq.le; try simp at hs) | (go_at_call 70; refine (c_S_l09Sign _ _ _ ).mono ?_; rintro e w1 ⟨rfl, hq⟩; obtain ⟨hc, hf⟩ := hq.rules; have hs := hq.le; try simp at hs) | (go_at_call 71; refine (c_S_l06Dot _ _ _ _ _ _ _ _ _ _ _ _ _ ).mono ?_; rintro e w1 ⟨rfl, hq⟩; obtain ⟨hc, hf⟩ := hq.rules; have hs := hq.le; try simp at hs) | (go_at_call 72; refine (c_S_l13Axes _ _ _).mono ?_; rintro e w1 ⟨g, rfl, hq, hg0, hrow⟩; obtain ⟨hg1, hgc, hgf⟩ := id hrow; obtain ⟨hc, hf⟩ := hq.rules; have hs := hq.le; (try simp at hs))))
      all_goals go_ret2
      all_goals refine ⟨?_, (by repeat (first | (with_reducible exact Q.refl _) | (with_reducible assumption) | (with_reducible refine Q.setCell ?_ (by dsimp only; omega) _) | (with_reducible refine Q.alloc ?_ _) | (with_reducible refine Q.drew ?_) | (with_reducible refine Q.call ?_ (by with_reducible assumption))))⟩
      all_goals first | (rw [hd]; rfl) | (simp [hd, *]; done)
    · skip
      have hd : S_IsLit (⟨w0_Azimuth, w0_Slope⟩ : Wall) (⟨⟨v_X_Low, v_X_High⟩, ⟨v_Y_Low, v_Y_High⟩, ⟨v_Z_Low, v_Z_High⟩⟩ : Vector) = (0, 1) := by simp [S_IsLit, S_l13Axes, h0, h1]
      go_enter Try.func15, Try.ntmps15
      go_wp2_with (first | (go_at_call 68; refine (c_S_IsWall _ _ _ ).mono ?_; rintro e w1 ⟨rfl, hq⟩; obtain ⟨hc, hf⟩ := hq.rules; have hs := hq.le; try simp at hs) | (go_at_call 69; refine (c_S_IsVector _ _ _ _ _ _ _ ).mono ?_; rintro e w1 ⟨rfl, hq⟩; obtain ⟨hc, hf⟩ := hq.rules; have hs := hq.le; try simp at hs) | (go_at_call 70; refine (c_S_l09Sign _ _ _ ).mono ?_; rintro e w1 ⟨rfl, hq⟩; obtain ⟨hc, hf⟩ := hq.rules; have hs := hq.le; try simp at hs) | (go_at_call 71; refine (c_S_l06Dot _ _ _ _ _ _ _ _ _ _ _ _ _ ).mono ?_; rintro e w1 ⟨rfl, hq⟩; obtain ⟨hc, hf⟩ := hq.rules; have hs := hq.le; try simp at hs) | (go_at_call 72; refine (c_S_l13Axes _ _ _).mono ?_; rintro e w1 ⟨g, rfl, hq, hg0, hrow⟩; obtain ⟨hg1, hgc, hgf⟩ := id hrow; obtain ⟨hc, hf⟩ := hq.rules; have hs := hq.le; (try simp at hs)))
      all_goals try (go_region_with (first | (go_at_call 68; refine (c_S_IsWall _ _ _ ).mono ?_; rintro e w1 ⟨rfl, hq⟩; obtain ⟨hc, hf⟩ := hq.rules; have hs := hq.le; try simp at hs) | (go_at_call 69; refine (c_S_IsVector _ _ _ _ _ _ _ ).mono ?_; rintro e w1 ⟨rfl, hq⟩; obtain ⟨hc, hf⟩ := hq.rules; have hs := hq.le; try simp at hs) | (go_at_call 70; refine (c_S_l09Sign _ _ _ ).mono ?_; rintro e w1 ⟨rfl, hq⟩; obtain ⟨hc, hf⟩ := hq.rules; have hs := hq.le; try simp at hs) | (go_at_call 71; refine (c_S_l06Dot _ _ _ _ _ _ _ _ _ _ _ _ _ ).mono ?_; rintro e w1 ⟨rfl, hq⟩; obtain ⟨hc, hf⟩ := hq.rules; have hs := hq.le; try simp at hs) | (go_at_call 72; refine (c_S_l13Axes _ _ _).mono ?_; rintro e w1 ⟨g, rfl, hq, hg0, hrow⟩; obtain ⟨hg1, hgc, hgf⟩ := id hrow; obtain ⟨hc, hf⟩ := hq.rules; have hs := hq.le; (try simp at hs))))
      all_goals try (go_wp2_with (first | (go_at_call 68; refine (c_S_IsWall _ _ _ ).mono ?_; rintro e w1 ⟨rfl, hq⟩; obtain ⟨hc, hf⟩ := hq.rules; have hs := hq.le; try simp at hs) | (go_at_call 69; refine (c_S_IsVector _ _ _ _ _ _ _ ).mono ?_; rintro e w1 ⟨rfl, hq⟩; obtain ⟨hc, hf⟩ := hq.rules; have hs := hq.le; try simp at hs) | (go_at_call 70; refine (c_S_l09Sign _ _ _ ).mono ?_; rintro e w1 ⟨rfl, hq⟩; obtain ⟨hc, hf⟩ := hq.rules; have hs := hq.le; try simp at hs) | (go_at_call 71; refine (c_S_l06Dot _ _ _ _ _ _ _ _ _ _ _ _ _ ).mono ?_; rintro e w1 ⟨rfl, hq⟩; obtain ⟨hc, hf⟩ := hq.rules; have hs := hq.le; try simp at hs) | (go_at_call 72; refine (c_S_l13Axes _ _ _).mono ?_; rintro e w1 ⟨g, rfl, hq, hg0, hrow⟩; obtain ⟨hg1, hgc, hgf⟩ := id hrow; obtain ⟨hc, hf⟩ := hq.rules; have hs := hq.le; (try simp at hs))))
      all_goals go_ret2
      all_goals refine ⟨?_, (by repeat (first | (with_reducible exact Q.refl _) | (with_reducible assumption) | (with_reducible refine Q.setCell ?_ (by dsimp only; omega) _) | (with_reducible refine Q.alloc ?_ _) | (with_reducible refine Q.drew ?_) | (with_reducible refine Q.call ?_ (by with_reducible assumption))))⟩
      all_goals first | (rw [hd]; rfl) | (simp [hd, *]; done)
  · skip
    have hd : S_IsLit (⟨w0_Azimuth, w0_Slope⟩ : Wall) (⟨⟨v_X_Low, v_X_High⟩, ⟨v_Y_Low, v_Y_High⟩, ⟨v_Z_Low, v_Z_High⟩⟩ : Vector) = (0, 1) := by simp [S_IsLit, S_l13Axes, h0]
    go_enter Try.func15, Try.ntmps15
    go_wp2_with (first | (go_at_call 68; refine (c_S_IsWall _ _ _ ).mono ?_; rintro e w1 ⟨rfl, hq⟩; obtain ⟨hc, hf⟩ := hq.rules; have hs := hq.le; try simp at hs) | (go_at_call 69; refine (c_S_IsVector _ _ _ _ _ _ _ ).mono ?_; rintro e w1 ⟨rfl, hq⟩; obtain ⟨hc, hf⟩ := hq.rules; have hs := hq.le; try simp at hs) | (go_at_call 70; refine (c_S_l09Sign _ _ _ ).mono ?_; rintro e w1 ⟨rfl, hq⟩; obtain ⟨hc, hf⟩ := hq.rules; have hs := hq.le; try simp at hs) | (go_at_call 71; refine (c_S_l06Dot _ _ _ _ _ _ _ _ _ _ _ _ _ ).mono ?_; rintro e w1 ⟨rfl, hq⟩; obtain ⟨hc, hf⟩ := hq.rules; have hs := hq.le; try simp at hs) | (go_at_call 72; refine (c_S_l13Axes _ _ _).mono ?_; rintro e w1 ⟨g, rfl, hq, hg0, hrow⟩; obtain ⟨hg1, hgc, hgf⟩ := id hrow; obtain ⟨hc, hf⟩ := hq.rules; have hs := hq.le; (try simp at hs)))
    all_goals try (go_region_with (first | (go_at_call 68; refine (c_S_IsWall _ _ _ ).mono ?_; rintro e w1 ⟨rfl, hq⟩; obtain ⟨hc, hf⟩ := hq.rules; have hs := hq.le; try simp at hs) | (go_at_call 69; refine (c_S_IsVector _ _ _ _ _ _ _ ).mono ?_; rintro e w1 ⟨rfl, hq⟩; obtain ⟨hc, hf⟩ := hq.rules; have hs := hq.le; try simp at hs) | (go_at_call 70; refine (c_S_l09Sign _ _ _ ).mono ?_; rintro e w1 ⟨rfl, hq⟩; obtain ⟨hc, hf⟩ := hq.rules; have hs := hq.le; try simp at hs) | (go_at_call 71; refine (c_S_l06Dot _ _ _ _ _ _ _ _ _ _ _ _ _ ).mono ?_; rintro e w1 ⟨rfl, hq⟩; obtain ⟨hc, hf⟩ := hq.rules; have hs := hq.le; try simp at hs) | (go_at_call 72; refine (c_S_l13Axes _ _ _).mono ?_; rintro e w1 ⟨g, rfl, hq, hg0, hrow⟩; obtain ⟨hg1, hgc, hgf⟩ := id hrow; obtain ⟨hc, hf⟩ := hq.rules; have hs := hq.le; (try simp at hs))))
    all_goals try (go_wp2_with (first | (go_at_call 68; refine (c_S_IsWall _ _ _ ).mono ?_; rintro e w1 ⟨rfl, hq⟩; obtain ⟨hc, hf⟩ := hq.rules; have hs := hq.le; try simp at hs) | (go_at_call 69; refine (c_S_IsVector _ _ _ _ _ _ _ ).mono ?_; rintro e w1 ⟨rfl, hq⟩; obtain ⟨hc, hf⟩ := hq.rules; have hs := hq.le; try simp at hs) | (go_at_call 70; refine (c_S_l09Sign _ _ _ ).mono ?_; rintro e w1 ⟨rfl, hq⟩; obtain ⟨hc, hf⟩ := hq.rules; have hs := hq.le; try simp at hs) | (go_at_call 71; refine (c_S_l06Dot _ _ _ _ _ _ _ _ _ _ _ _ _ ).mono ?_; rintro e w1 ⟨rfl, hq⟩; obtain ⟨hc, hf⟩ := hq.rules; have hs := hq.le; try simp at hs) | (go_at_call 72; refine (c_S_l13Axes _ _ _).mono ?_; rintro e w1 ⟨g, rfl, hq, hg0, hrow⟩; obtain ⟨hg1, hgc, hgf⟩ := id hrow; obtain ⟨hc, hf⟩ := hq.rules; have hs := hq.le; (try simp at hs))))
    all_goals go_ret2
    all_goals refine ⟨?_, (by repeat (first | (with_reducible exact Q.refl _) | (with_reducible assumption) | (with_reducible refine Q.setCell ?_ (by dsimp only; omega) _) | (with_reducible refine Q.alloc ?_ _) | (with_reducible refine Q.drew ?_) | (with_reducible refine Q.call ?_ (by with_reducible assumption))))⟩
    all_goals first | (rw [hd]; rfl) | (simp [hd, *]; done)

set_option maxHeartbeats 1000000 in
theorem c_L_toWall (a_Azimuth : Int) (a_Slope : Int) (w : World)  : Calls Try.prog 16 #[.agg #[.int .i64 a_Azimuth, .int .i64 a_Slope]] w fun e w' => e = .returned (.agg #[.int .i64 ((L_toWall (⟨a_Azimuth, a_Slope⟩ : Wall)).Azimuth), .int .i64 ((L_toWall (⟨a_Azimuth, a_Slope⟩ : Wall)).Slope)]) ∧ Q w w' := by
  have hset := setRule
  have hall := allocRule
  have halm := allocMark
  have hw64 := wrapRule
  go_enter Try.func16, Try.ntmps16
  go_wp2
  all_goals
    refine bodyPost_ret (v := .agg #[.int .i64 ((L_toWall (⟨a_Azimuth, a_Slope⟩ : Wall)).Azimuth), .int .i64 ((L_toWall (⟨a_Azimuth, a_Slope⟩ : Wall)).Slope)]) ?_ rfl ⟨rfl, ?_⟩
    · first | (simp [results, Try.results16, go_sem, L_toWall, *]; done) | (simp [results, Try.results16, go_sem, *]; repeat (simp (disch := omega) only [if_pos, if_neg]; try simp [go_sem, L_toWall, *]))
    · (repeat (first | (with_reducible exact Q.refl _) | (with_reducible assumption) | (with_reducible refine Q.setCell ?_ (by dsimp only; omega) _) | (with_reducible refine Q.alloc ?_ _) | (with_reducible refine Q.drew ?_) | (with_reducible refine Q.call ?_ (by with_reducible assumption))))

set_option maxHeartbeats 1000000 in
theorem c_L_toInterval (a_Low : Int) (a_High : Int) (w : World)  : Calls Try.prog 30 #[.agg #[.int .i64 a_Low, .int .i64 a_High]] w fun e w' => e = .returned (.agg #[.int .i64 ((L_toInterval (⟨a_Low, a_High⟩ : Interval)).Low), .int .i64 ((L_toInterval (⟨a_Low, a_High⟩ : Interval)).High)]) ∧ Q w w' := by
  have hset := setRule
  have hall := allocRule
  have halm := allocMark
  have hw64 := wrapRule
  go_enter Try.func30, Try.ntmps30
  go_wp2
  all_goals
    refine bodyPost_ret (v := .agg #[.int .i64 ((L_toInterval (⟨a_Low, a_High⟩ : Interval)).Low), .int .i64 ((L_toInterval (⟨a_Low, a_High⟩ : Interval)).High)]) ?_ rfl ⟨rfl, ?_⟩
    · first | (simp [results, Try.results30, go_sem, L_toInterval, *]; done) | (simp [results, Try.results30, go_sem, *]; repeat (simp (disch := omega) only [if_pos, if_neg]; try simp [go_sem, L_toInterval, *]))
    · (repeat (first | (with_reducible exact Q.refl _) | (with_reducible assumption) | (with_reducible refine Q.setCell ?_ (by dsimp only; omega) _) | (with_reducible refine Q.alloc ?_ _) | (with_reducible refine Q.drew ?_) | (with_reducible refine Q.call ?_ (by with_reducible assumption))))

set_option maxHeartbeats 1000000 in
theorem c_L_toVector (a_X_Low : Int) (a_X_High : Int) (a_Y_Low : Int) (a_Y_High : Int) (a_Z_Low : Int) (a_Z_High : Int) (w : World)  : Calls Try.prog 17 #[.agg #[.int .i64 a_X_Low, .int .i64 a_X_High, .int .i64 a_Y_Low, .int .i64 a_Y_High, .int .i64 a_Z_Low, .int .i64 a_Z_High]] w fun e w' => e = .returned (.agg #[.int .i64 ((L_toVector (⟨(⟨a_X_Low, a_X_High⟩ : Interval), (⟨a_Y_Low, a_Y_High⟩ : Interval), (⟨a_Z_Low, a_Z_High⟩ : Interval)⟩ : Vector)).X.Low), .int .i64 ((L_toVector (⟨(⟨a_X_Low, a_X_High⟩ : Interval), (⟨a_Y_Low, a_Y_High⟩ : Interval), (⟨a_Z_Low, a_Z_High⟩ : Interval)⟩ : Vector)).X.High), .int .i64 ((L_toVector (⟨(⟨a_X_Low, a_X_High⟩ : Interval), (⟨a_Y_Low, a_Y_High⟩ : Interval), (⟨a_Z_Low, a_Z_High⟩ : Interval)⟩ : Vector)).Y.Low), .int .i64 ((L_toVector (⟨(⟨a_X_Low, a_X_High⟩ : Interval), (⟨a_Y_Low, a_Y_High⟩ : Interval), (⟨a_Z_Low, a_Z_High⟩ : Interval)⟩ : Vector)).Y.High), .int .i64 ((L_toVector (⟨(⟨a_X_Low, a_X_High⟩ : Interval), (⟨a_Y_Low, a_Y_High⟩ : Interval), (⟨a_Z_Low, a_Z_High⟩ : Interval)⟩ : Vector)).Z.Low), .int .i64 ((L_toVector (⟨(⟨a_X_Low, a_X_High⟩ : Interval), (⟨a_Y_Low, a_Y_High⟩ : Interval), (⟨a_Z_Low, a_Z_High⟩ : Interval)⟩ : Vector)).Z.High)]) ∧ Q w w' := by
  have hset := setRule
  have hall := allocRule
  have halm := allocMark
  have hw64 := wrapRule
  go_enter Try.func17, Try.ntmps17
  go_wp2_with (first | (go_at_call 30; refine (c_L_toInterval _ _ _ ).mono ?_; rintro e w1 ⟨rfl, hq⟩; obtain ⟨hc, hf⟩ := hq.rules; have hs := hq.le; try simp at hs))
  all_goals
    refine bodyPost_ret (v := .agg #[.int .i64 ((L_toVector (⟨(⟨a_X_Low, a_X_High⟩ : Interval), (⟨a_Y_Low, a_Y_High⟩ : Interval), (⟨a_Z_Low, a_Z_High⟩ : Interval)⟩ : Vector)).X.Low), .int .i64 ((L_toVector (⟨(⟨a_X_Low, a_X_High⟩ : Interval), (⟨a_Y_Low, a_Y_High⟩ : Interval), (⟨a_Z_Low, a_Z_High⟩ : Interval)⟩ : Vector)).X.High), .int .i64 ((L_toVector (⟨(⟨a_X_Low, a_X_High⟩ : Interval), (⟨a_Y_Low, a_Y_High⟩ : Interval), (⟨a_Z_Low, a_Z_High⟩ : Interval)⟩ : Vector)).Y.Low), .int .i64 ((L_toVector (⟨(⟨a_X_Low, a_X_High⟩ : Interval), (⟨a_Y_Low, a_Y_High⟩ : Interval), (⟨a_Z_Low, a_Z_High⟩ : Interval)⟩ : Vector)).Y.High), .int .i64 ((L_toVector (⟨(⟨a_X_Low, a_X_High⟩ : Interval), (⟨a_Y_Low, a_Y_High⟩ : Interval), (⟨a_Z_Low, a_Z_High⟩ : Interval)⟩ : Vector)).Z.Low), .int .i64 ((L_toVector (⟨(⟨a_X_Low, a_X_High⟩ : Interval), (⟨a_Y_Low, a_Y_High⟩ : Interval), (⟨a_Z_Low, a_Z_High⟩ : Interval)⟩ : Vector)).Z.High)]) ?_ rfl ⟨rfl, ?_⟩
    · first | (simp [results, Try.results17, go_sem, L_toVector, *]; done) | (simp [results, Try.results17, go_sem, *]; repeat (simp (disch := omega) only [if_pos, if_neg]; try simp [go_sem, L_toVector, *]))
    · (repeat (first | (with_reducible exact Q.refl _) | (with_reducible assumption) | (with_reducible refine Q.setCell ?_ (by dsimp only; omega) _) | (with_reducible refine Q.alloc ?_ _) | (with_reducible refine Q.drew ?_) | (with_reducible refine Q.call ?_ (by with_reducible assumption))))

theorem c_I_in (n : Int) (low : Int) (high : Int) (w : World)  : Calls Try.prog 121 #[.int .i64 n, .int .i64 low, .int .i64 high] w fun e w' => e = .returned (.bool ((I_in n low high))) ∧ w = w' := by
  have hw64 := wrapRule
  go_enter Try.func121, Try.ntmps121
  go_wp2
  all_goals go_ret
  all_goals refine ⟨?_, rfl⟩
  all_goals first | (simp [I_in, *]; done) | (simp [I_in, *]; omega) | (simp [I_in, *]; simp (disch := omega) only [if_pos, if_neg]; done) | (simp_all [I_in]; done) | (simp_all [I_in]; omega)

theorem c_I_IsWall (w0_Azimuth : Int) (w0_Slope : Int) (w : World)  : Calls Try.prog 76 #[.agg #[.int .i64 w0_Azimuth, .int .i64 w0_Slope]] w fun e w' => e = .returned (.bool ((I_IsWall (⟨w0_Azimuth, w0_Slope⟩ : Wall)))) ∧ Q w w' := by
  have hset := setRule
  have hall := allocRule
  have halm := allocMark
  have hw64 := wrapRule
  go_enter Try.func76, Try.ntmps76
  go_wp2_with (first | (go_at_call 121; refine (c_I_in _ _ _ _ ).mono ?_; rintro e w1 ⟨rfl, rfl⟩))
  all_goals go_ret
  all_goals refine ⟨?_, (by (repeat (first | (with_reducible exact Q.refl _) | (with_reducible assumption) | (with_reducible refine Q.setCell ?_ (by dsimp only; omega) _) | (with_reducible refine Q.alloc ?_ _) | (with_reducible refine Q.drew ?_) | (with_reducible refine Q.call ?_ (by with_reducible assumption)))))⟩
  all_goals first | (simp [I_IsWall, *]; done) | (simp [I_IsWall, *]; omega) | (simp [I_IsWall, *]; simp (disch := omega) only [if_pos, if_neg]; done) | (simp_all [I_IsWall]; done) | (simp_all [I_IsWall]; omega)

theorem c_I_isValue (n : Int) (w : World)  : Calls Try.prog 161 #[.int .i64 n] w fun e w' => e = .returned (.bool ((I_isValue n))) ∧ w = w' := by
  have hw64 := wrapRule
  go_enter Try.func161, Try.ntmps161
  go_wp2_with (first | (go_at_call 121; refine (c_I_in _ _ _ _ ).mono ?_; rintro e w1 ⟨rfl, rfl⟩))
  all_goals go_ret
  all_goals refine ⟨?_, rfl⟩
  all_goals first | (simp [I_isValue, *]; done) | (simp [I_isValue, *]; omega) | (simp [I_isValue, *]; simp (disch := omega) only [if_pos, if_neg]; done) | (simp_all [I_isValue]; done) | (simp_all [I_isValue]; omega)

theorem c_I_IsInterval (a_Low : Int) (a_High : Int) (w : World)  : Calls Try.prog 130 #[.agg #[.int .i64 a_Low, .int .i64 a_High]] w fun e w' => e = .returned (.bool ((I_IsInterval (⟨a_Low, a_High⟩ : Interval)))) ∧ Q w w' := by
  have hset := setRule
  have hall := allocRule
  have halm := allocMark
  have hw64 := wrapRule
  go_enter Try.func130, Try.ntmps130
  go_wp2_with (first | (go_at_call 161; refine (c_I_isValue _ _ ).mono ?_; rintro e w1 ⟨rfl, rfl⟩))
  all_goals go_ret
  all_goals refine ⟨?_, (by (repeat (first | (with_reducible exact Q.refl _) | (with_reducible assumption) | (with_reducible refine Q.setCell ?_ (by dsimp only; omega) _) | (with_reducible refine Q.alloc ?_ _) | (with_reducible refine Q.drew ?_) | (with_reducible refine Q.call ?_ (by with_reducible assumption)))))⟩
  all_goals first | (simp [I_IsInterval, *]; done) | (simp [I_IsInterval, *]; omega) | (simp [I_IsInterval, *]; simp (disch := omega) only [if_pos, if_neg]; done) | (simp_all [I_IsInterval]; done) | (simp_all [I_IsInterval]; omega)

theorem c_I_Interval_within (a_Low : Int) (a_High : Int) (most : Int) (w : World)  : Calls Try.prog 131 #[.agg #[.int .i64 a_Low, .int .i64 a_High], .int .i64 most] w fun e w' => e = .returned (.bool ((I_Interval_within (⟨a_Low, a_High⟩ : Interval) most))) ∧ Q w w' := by
  have hset := setRule
  have hall := allocRule
  have halm := allocMark
  have hw64 := wrapRule
  go_enter Try.func131, Try.ntmps131
  go_wp2_with (first | (go_at_call 121; refine (c_I_in _ _ _ _ ).mono ?_; rintro e w1 ⟨rfl, rfl⟩))
  all_goals go_ret
  all_goals refine ⟨?_, (by (repeat (first | (with_reducible exact Q.refl _) | (with_reducible assumption) | (with_reducible refine Q.setCell ?_ (by dsimp only; omega) _) | (with_reducible refine Q.alloc ?_ _) | (with_reducible refine Q.drew ?_) | (with_reducible refine Q.call ?_ (by with_reducible assumption)))))⟩
  all_goals first | (simp [I_Interval_within, *]; done) | (simp [I_Interval_within, *]; omega) | (simp [I_Interval_within, *]; simp (disch := omega) only [if_pos, if_neg]; done) | (simp_all [I_Interval_within]; done) | (simp_all [I_Interval_within]; omega)

theorem c_I_isPart (a_Low : Int) (a_High : Int) (w : World)  : Calls Try.prog 136 #[.agg #[.int .i64 a_Low, .int .i64 a_High]] w fun e w' => e = .returned (.bool ((I_isPart (⟨a_Low, a_High⟩ : Interval)))) ∧ Q w w' := by
  have hset := setRule
  have hall := allocRule
  have halm := allocMark
  have hw64 := wrapRule
  go_enter Try.func136, Try.ntmps136
  go_wp2_with (first | (go_at_call 130; refine (c_I_IsInterval _ _ _ ).mono ?_; rintro e w1 ⟨rfl, hq⟩; obtain ⟨hc, hf⟩ := hq.rules; have hs := hq.le; try simp at hs) | (go_at_call 131; refine (c_I_Interval_within _ _ _ _ ).mono ?_; rintro e w1 ⟨rfl, hq⟩; obtain ⟨hc, hf⟩ := hq.rules; have hs := hq.le; try simp at hs))
  all_goals go_ret
  all_goals refine ⟨?_, (by (repeat (first | (with_reducible exact Q.refl _) | (with_reducible assumption) | (with_reducible refine Q.setCell ?_ (by dsimp only; omega) _) | (with_reducible refine Q.alloc ?_ _) | (with_reducible refine Q.drew ?_) | (with_reducible refine Q.call ?_ (by with_reducible assumption)))))⟩
  all_goals first | (simp [I_isPart, *]; done) | (simp [I_isPart, *]; omega) | (simp [I_isPart, *]; simp (disch := omega) only [if_pos, if_neg]; done) | (simp_all [I_isPart]; done) | (simp_all [I_isPart]; omega)

theorem c_I_IsVector (v_X_Low : Int) (v_X_High : Int) (v_Y_Low : Int) (v_Y_High : Int) (v_Z_Low : Int) (v_Z_High : Int) (w : World)  : Calls Try.prog 88 #[.agg #[.int .i64 v_X_Low, .int .i64 v_X_High, .int .i64 v_Y_Low, .int .i64 v_Y_High, .int .i64 v_Z_Low, .int .i64 v_Z_High]] w fun e w' => e = .returned (.bool ((I_IsVector (⟨(⟨v_X_Low, v_X_High⟩ : Interval), (⟨v_Y_Low, v_Y_High⟩ : Interval), (⟨v_Z_Low, v_Z_High⟩ : Interval)⟩ : Vector)))) ∧ Q w w' := by
  have hset := setRule
  have hall := allocRule
  have halm := allocMark
  have hw64 := wrapRule
  go_enter Try.func88, Try.ntmps88
  go_wp2_with (first | (go_at_call 136; refine (c_I_isPart _ _ _ ).mono ?_; rintro e w1 ⟨rfl, hq⟩; obtain ⟨hc, hf⟩ := hq.rules; have hs := hq.le; try simp at hs))
  all_goals go_ret
  all_goals refine ⟨?_, (by (repeat (first | (with_reducible exact Q.refl _) | (with_reducible assumption) | (with_reducible refine Q.setCell ?_ (by dsimp only; omega) _) | (with_reducible refine Q.alloc ?_ _) | (with_reducible refine Q.drew ?_) | (with_reducible refine Q.call ?_ (by with_reducible assumption)))))⟩
  all_goals first | (simp [I_IsVector, *]; done) | (simp [I_IsVector, *]; omega) | (simp [I_IsVector, *]; simp (disch := omega) only [if_pos, if_neg]; done) | (simp_all [I_IsVector]; done) | (simp_all [I_IsVector]; omega)

theorem c_I_floor (a : Int) (b : Int) (w : World) (hz0 : ¬ b = 0) : Calls Try.prog 157 #[.int .i64 a, .int .i64 b] w fun e w' => e = .returned (.int .i64 ((I_floor a b))) ∧ w = w' := by
  have hw64 := wrapRule
  go_enter Try.func157, Try.ntmps157
  go_wp2
  all_goals go_ret
  all_goals refine ⟨?_, rfl⟩
  all_goals first | (simp [I_floor, *]; done) | (simp [I_floor, *]; omega) | (simp [I_floor, *]; simp (disch := omega) only [if_pos, if_neg]; done) | (simp_all [I_floor]; done) | (simp_all [I_floor]; omega)

theorem c_I_mod (a : Int) (b : Int) (w : World) (hz0 : ¬ b = 0) : Calls Try.prog 138 #[.int .i64 a, .int .i64 b] w fun e w' => e = .returned (.int .i64 ((I_mod a b))) ∧ w = w' := by
  have hw64 := wrapRule
  go_enter Try.func138, Try.ntmps138
  go_wp2_with (first | (go_at_call 157; refine (c_I_floor _ _ _ (by first | assumption | decide | omega | (unfold wrap64; omega))).mono ?_; rintro e w1 ⟨rfl, rfl⟩))
  all_goals go_ret
  all_goals refine ⟨?_, rfl⟩
  all_goals first | (simp [I_mod, *]; done) | (simp [I_mod, *]; omega) | (simp [I_mod, *]; simp (disch := omega) only [if_pos, if_neg]; done) | (simp_all [I_mod]; done) | (simp_all [I_mod]; omega)

theorem c_I_plain (a : Int) (w : World)  : Calls Try.prog 163 #[.int .i64 a] w fun e w' => e = .returned (.int .i64 ((I_plain a))) ∧ w = w' := by
  have hw64 := wrapRule
  go_enter Try.func163, Try.ntmps163
  go_wp2_with (first | (go_at_call 138; refine (c_I_mod _ _ _ (by first | assumption | decide | omega | (unfold wrap64; omega))).mono ?_; rintro e w1 ⟨rfl, rfl⟩))
  all_goals go_ret
  all_goals refine ⟨?_, rfl⟩
  all_goals first | (simp [I_plain, *]; done) | (simp [I_plain, *]; omega) | (simp [I_plain, *]; simp (disch := omega) only [if_pos, if_neg]; done) | (simp_all [I_plain]; done) | (simp_all [I_plain]; omega)

theorem c_I_polynomials (r : Int) (w : World)  : Calls Try.prog 171 #[.int .i64 r] w fun e w' => e = .returned (.tuple #[.int .i64 ((I_polynomials r).1), .int .i64 ((I_polynomials r).2)]) ∧ w = w' := by
  have hw64 := wrapRule
  go_enter Try.func171, Try.ntmps171
  go_wp2
  all_goals go_ret2
  all_goals refine ⟨?_, rfl⟩
  all_goals first | (simp [I_polynomials, *]; done) | (simp [I_polynomials, *]; omega) | (simp [I_polynomials, *]; simp (disch := omega) only [if_pos, if_neg]; done) | (simp_all [I_polynomials]; done) | (simp_all [I_polynomials]; omega)

theorem c_I_nanoSine (a : Int) (w : World)  : Calls Try.prog 156 #[.int .i64 a] w fun e w' => e = .returned (.int .i64 ((I_nanoSine a))) ∧ w = w' := by
  have hw64 := wrapRule
  go_enter Try.func156, Try.ntmps156
  go_wp2_with (first | (go_at_call 163; refine (c_I_plain _ _ ).mono ?_; rintro e w1 ⟨rfl, rfl⟩) | (go_at_call 171; refine (c_I_polynomials _ _ ).mono ?_; rintro e w1 ⟨rfl, rfl⟩))
  all_goals go_ret
  all_goals refine ⟨?_, rfl⟩
  all_goals first | (simp [I_nanoSine, *]; done) | (simp [I_nanoSine, *]; omega) | (simp [I_nanoSine, *]; simp (disch := omega) only [if_pos, if_neg]; done) | (simp_all [I_nanoSine]; done) | (simp_all [I_nanoSine]; omega)

theorem c_I_ceil (a : Int) (b : Int) (w : World) (hz0 : ¬ b = 0) : Calls Try.prog 158 #[.int .i64 a, .int .i64 b] w fun e w' => e = .returned (.int .i64 ((I_ceil a b))) ∧ w = w' := by
  have hw64 := wrapRule
  go_enter Try.func158, Try.ntmps158
  go_wp2_with (first | (go_at_call 157; refine (c_I_floor _ _ _ (by first | assumption | decide | omega | (unfold wrap64; omega))).mono ?_; rintro e w1 ⟨rfl, rfl⟩))
  all_goals go_ret
  all_goals refine ⟨?_, rfl⟩
  all_goals first | (simp [I_ceil, *]; done) | (simp [I_ceil, *]; omega) | (simp [I_ceil, *]; simp (disch := omega) only [if_pos, if_neg]; done) | (simp_all [I_ceil]; done) | (simp_all [I_ceil]; omega)

end Go.Proofs.Ythooejkmccdfjaa
