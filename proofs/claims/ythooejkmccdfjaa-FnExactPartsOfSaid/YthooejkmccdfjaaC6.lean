/- Contracts of Go functions of the plain fragment, with their walks; printed by a program of the author's own. -/
import Derived.Test.YthooejkmccdfjaaRows
import Derived.Test.YthooejkmccdfjaaDefs
import Derived.Test.YthooejkmccdfjaaC5
import Derived.Test.YthooejkmccdfjaaFresh
import Derived.Test.YthooejkmccdfjaaM2
import Derived.WalkKit
import Derived.ProofKit
import Derived.OpenShut
import Derived.WalkLawsBesides
import Derived.BigQuiet
import Derived.Deep.QuietTactic
import Derived.Deep.LoopGhost
import Derived.LoopN
import Derived.Deep.RegionWith
import Derived.Test.YthooejkmccdfjaaOwn
namespace Go.Proofs.Ythooejkmccdfjaa
open Go.ChangeShapes Go.WideShapes Go.ChangeAt Go.RowKit
set_option linter.unusedVariables false
set_option linter.unusedSimpArgs false
set_option maxHeartbeats 1000000 in
theorem c_L_toPoint (a_X : Int) (a_Y : Int) (w : World)  : Calls Try.prog 62 #[.agg #[.int .i64 a_X, .int .i64 a_Y]] w fun e w' => e = .returned (.agg #[.int .i64 ((L_toPoint (⟨a_X, a_Y⟩ : Point)).X), .int .i64 ((L_toPoint (⟨a_X, a_Y⟩ : Point)).Y)]) ∧ Q w w' := by
  have hset := setRule
  have hall := allocRule
  have halm := allocMark
  have hw64 := wrapRule
  go_enter Try.func62, Try.ntmps62
  go_wp2
  all_goals
    refine bodyPost_ret (v := .agg #[.int .i64 ((L_toPoint (⟨a_X, a_Y⟩ : Point)).X), .int .i64 ((L_toPoint (⟨a_X, a_Y⟩ : Point)).Y)]) ?_ rfl ⟨rfl, ?_⟩
    · first | (simp [results, Try.results62, go_sem, L_toPoint, *]; done) | (simp [results, Try.results62, go_sem, *]; repeat (simp (disch := omega) only [if_pos, if_neg]; try simp [go_sem, L_toPoint, *]))
    · (repeat (first | (with_reducible exact Q.refl _) | (with_reducible assumption) | (with_reducible refine Q.setCell ?_ (by dsimp only; omega) _) | (with_reducible refine Q.alloc ?_ _) | (with_reducible refine Q.drew ?_) | (with_reducible refine Q.call ?_ (by with_reducible assumption))))

theorem c_I_isSpot (x : Int) (w : World)  : Calls Try.prog 147 #[.int .i64 x] w fun e w' => e = .returned (.bool ((I_isSpot x))) ∧ w = w' := by
  have hw64 := wrapRule
  go_enter Try.func147, Try.ntmps147
  go_wp2_with (first | (go_at_call 121; refine (c_I_in _ _ _ _ ).mono ?_; rintro e w1 ⟨rfl, rfl⟩))
  all_goals go_ret
  all_goals refine ⟨?_, rfl⟩
  all_goals first | (simp [I_isSpot, *]; done) | (simp [I_isSpot, *]; omega) | (simp [I_isSpot, *]; simp (disch := omega) only [if_pos, if_neg]; done) | (simp_all [I_isSpot]; done) | (simp_all [I_isSpot]; omega)

theorem c_I_isPoint (p_X : Int) (p_Y : Int) (w : World)  : Calls Try.prog 110 #[.agg #[.int .i64 p_X, .int .i64 p_Y]] w fun e w' => e = .returned (.bool ((I_isPoint (⟨p_X, p_Y⟩ : Point)))) ∧ Q w w' := by
  have hset := setRule
  have hall := allocRule
  have halm := allocMark
  have hw64 := wrapRule
  go_enter Try.func110, Try.ntmps110
  go_wp2_with (first | (go_at_call 147; refine (c_I_isSpot _ _ ).mono ?_; rintro e w1 ⟨rfl, rfl⟩))
  all_goals go_ret
  all_goals refine ⟨?_, (by (repeat (first | (with_reducible exact Q.refl _) | (with_reducible assumption) | (with_reducible refine Q.setCell ?_ (by dsimp only; omega) _) | (with_reducible refine Q.alloc ?_ _) | (with_reducible refine Q.drew ?_) | (with_reducible refine Q.call ?_ (by with_reducible assumption)))))⟩
  all_goals first | (simp [I_isPoint, *]; done) | (simp [I_isPoint, *]; omega) | (simp [I_isPoint, *]; simp (disch := omega) only [if_pos, if_neg]; done) | (simp_all [I_isPoint]; done) | (simp_all [I_isPoint]; omega)

theorem c_I_Point_square (p_X : Int) (p_Y : Int) (q_X : Int) (q_Y : Int) (w : World)  : Calls Try.prog 111 #[.agg #[.int .i64 p_X, .int .i64 p_Y], .agg #[.int .i64 q_X, .int .i64 q_Y]] w fun e w' => e = .returned (.int .i64 ((I_Point_square (⟨p_X, p_Y⟩ : Point) (⟨q_X, q_Y⟩ : Point)))) ∧ Q w w' := by
  have hset := setRule
  have hall := allocRule
  have halm := allocMark
  have hw64 := wrapRule
  go_enter Try.func111, Try.ntmps111
  go_wp2
  all_goals go_ret
  all_goals refine ⟨?_, (by (repeat (first | (with_reducible exact Q.refl _) | (with_reducible assumption) | (with_reducible refine Q.setCell ?_ (by dsimp only; omega) _) | (with_reducible refine Q.alloc ?_ _) | (with_reducible refine Q.drew ?_) | (with_reducible refine Q.call ?_ (by with_reducible assumption)))))⟩
  all_goals first | (simp [I_Point_square, *]; done) | (simp [I_Point_square, *]; omega) | (simp [I_Point_square, *]; simp (disch := omega) only [if_pos, if_neg]; done) | (simp_all [I_Point_square]; done) | (simp_all [I_Point_square]; omega)

theorem c_L_eqPoint (a_X : Int) (a_Y : Int) (b_X : Int) (b_Y : Int) (w : World)  : Calls Try.prog 168 #[.agg #[.int .i64 a_X, .int .i64 a_Y], .agg #[.int .i64 b_X, .int .i64 b_Y]] w fun e w' => e = .returned (.bool ((L_eqPoint (⟨a_X, a_Y⟩ : Point) (⟨b_X, b_Y⟩ : Point)))) ∧ Q w w' := by
  have hset := setRule
  have hall := allocRule
  have halm := allocMark
  have hw64 := wrapRule
  go_enter Try.func168, Try.ntmps168
  go_wp2
  all_goals go_ret
  all_goals refine ⟨?_, (by (repeat (first | (with_reducible exact Q.refl _) | (with_reducible assumption) | (with_reducible refine Q.setCell ?_ (by dsimp only; omega) _) | (with_reducible refine Q.alloc ?_ _) | (with_reducible refine Q.drew ?_) | (with_reducible refine Q.call ?_ (by with_reducible assumption)))))⟩
  all_goals first | (simp [L_eqPoint, *]; done) | (simp [L_eqPoint, *]; omega) | (simp [L_eqPoint, *]; simp (disch := omega) only [if_pos, if_neg]; done) | (simp_all [L_eqPoint]; done) | (simp_all [L_eqPoint]; omega)

theorem c_L_eqPlace (a_X_Low : Int) (a_X_High : Int) (a_Y_Low : Int) (a_Y_High : Int) (b_X_Low : Int) (b_X_High : Int) (b_Y_Low : Int) (b_Y_High : Int) (w : World)  : Calls Try.prog 67 #[.agg #[.int .i64 a_X_Low, .int .i64 a_X_High, .int .i64 a_Y_Low, .int .i64 a_Y_High], .agg #[.int .i64 b_X_Low, .int .i64 b_X_High, .int .i64 b_Y_Low, .int .i64 b_Y_High]] w fun e w' => e = .returned (.bool ((L_eqPlace (⟨(⟨a_X_Low, a_X_High⟩ : Interval), (⟨a_Y_Low, a_Y_High⟩ : Interval)⟩ : Place) (⟨(⟨b_X_Low, b_X_High⟩ : Interval), (⟨b_Y_Low, b_Y_High⟩ : Interval)⟩ : Place)))) ∧ Q w w' := by
  have hset := setRule
  have hall := allocRule
  have halm := allocMark
  have hw64 := wrapRule
  go_enter Try.func67, Try.ntmps67
  go_wp2_with (first | (go_at_call 80; refine (c_L_eqInterval _ _ _ _ _ ).mono ?_; rintro e w1 ⟨rfl, hq⟩; obtain ⟨hc, hf⟩ := hq.rules; have hs := hq.le; try simp at hs))
  all_goals go_ret
  all_goals refine ⟨?_, (by (repeat (first | (with_reducible exact Q.refl _) | (with_reducible assumption) | (with_reducible refine Q.setCell ?_ (by dsimp only; omega) _) | (with_reducible refine Q.alloc ?_ _) | (with_reducible refine Q.drew ?_) | (with_reducible refine Q.call ?_ (by with_reducible assumption)))))⟩
  all_goals first | (simp [L_eqPlace, *]; done) | (simp [L_eqPlace, *]; omega) | (simp [L_eqPlace, *]; simp (disch := omega) only [if_pos, if_neg]; done) | (simp_all [L_eqPlace]; done) | (simp_all [L_eqPlace]; omega)

end Go.Proofs.Ythooejkmccdfjaa
