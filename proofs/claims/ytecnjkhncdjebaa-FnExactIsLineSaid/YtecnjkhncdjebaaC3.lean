/- Contracts of Go functions of the plain fragment, with their walks; printed by a program of the author's own. -/
import Derived.Test.YtecnjkhncdjebaaRows
import Derived.Test.YtecnjkhncdjebaaDefs
import Derived.Test.YtecnjkhncdjebaaC2
import Derived.Test.YtecnjkhncdjebaaFresh
import Derived.Test.YtecnjkhncdjebaaM2
import Derived.WalkKit
import Derived.ProofKit
import Derived.OpenShut
import Derived.WalkLawsBesides
import Derived.BigQuiet
import Derived.Deep.QuietTactic
import Derived.Deep.LoopGhost
import Derived.LoopN
import Derived.Deep.RegionWith
import Derived.Test.YtecnjkhncdjebaaOwn
namespace Go.Proofs.Ytecnjkhncdjebaa
open Go.ChangeShapes Go.WideShapes Go.ChangeAt Go.RowKit
set_option linter.unusedVariables false
set_option linter.unusedSimpArgs false
theorem c_L_eqPoint (a_X : Int) (a_Y : Int) (b_X : Int) (b_Y : Int) (w : World)  : Calls Try.prog 74 #[.agg #[.int .i64 a_X, .int .i64 a_Y], .agg #[.int .i64 b_X, .int .i64 b_Y]] w fun e w' => e = .returned (.bool ((L_eqPoint (⟨a_X, a_Y⟩ : Point) (⟨b_X, b_Y⟩ : Point)))) ∧ Q w w' := by
  have hset := setRule
  have hall := allocRule
  have halm := allocMark
  have hw64 := wrapRule
  go_enter Try.func74, Try.ntmps74
  go_wp2
  all_goals go_ret
  all_goals refine ⟨?_, (by (repeat (first | (with_reducible exact Q.refl _) | (with_reducible assumption) | (with_reducible refine Q.setCell ?_ (by dsimp only; omega) _) | (with_reducible refine Q.alloc ?_ _) | (with_reducible refine Q.drew ?_) | (with_reducible refine Q.call ?_ (by with_reducible assumption)))))⟩
  all_goals first | (simp [L_eqPoint, *]; done) | (simp [L_eqPoint, *]; omega) | (simp [L_eqPoint, *]; simp (disch := omega) only [if_pos, if_neg]; done) | (simp_all [L_eqPoint]; done) | (simp_all [L_eqPoint]; omega)

theorem c_S_l16Square (a_X : Int) (a_Y : Int) (b_X : Int) (b_Y : Int) (w : World)  : Calls Try.prog 79 #[.agg #[.int .i64 a_X, .int .i64 a_Y], .agg #[.int .i64 b_X, .int .i64 b_Y]] w fun e w' => e = .returned (.int .i64 ((S_l16Square (⟨a_X, a_Y⟩ : Point) (⟨b_X, b_Y⟩ : Point)))) ∧ Q w w' := by
  have hset := setRule
  have hall := allocRule
  have halm := allocMark
  have hw64 := wrapRule
  go_enter Try.func79, Try.ntmps79
  go_wp2
  all_goals go_ret
  all_goals refine ⟨?_, (by (repeat (first | (with_reducible exact Q.refl _) | (with_reducible assumption) | (with_reducible refine Q.setCell ?_ (by dsimp only; omega) _) | (with_reducible refine Q.alloc ?_ _) | (with_reducible refine Q.drew ?_) | (with_reducible refine Q.call ?_ (by with_reducible assumption)))))⟩
  all_goals first | (simp [S_l16Square, *]; done) | (simp [S_l16Square, *]; omega) | (simp [S_l16Square, *]; simp (disch := omega) only [if_pos, if_neg]; done) | (simp_all [S_l16Square]; done) | (simp_all [S_l16Square]; omega)

theorem c_S_l01Abs (n : Int) (w : World)  : Calls Try.prog 96 #[.int .i64 n] w fun e w' => e = .returned (.int .i64 ((S_l01Abs n))) ∧ w = w' := by
  have hw64 := wrapRule
  have hmax := maxRule
  have hmin := minRule
  go_enter Try.func96, Try.ntmps96
  go_wp2
  all_goals go_ret
  all_goals refine ⟨?_, rfl⟩
  all_goals first | (simp [S_l01Abs, *]; done) | (simp [S_l01Abs, *]; omega) | (simp [S_l01Abs, *]; simp (disch := omega) only [if_pos, if_neg]; done) | (simp_all [S_l01Abs]; done) | (simp_all [S_l01Abs]; omega)

theorem c_I_Point_square (p_X : Int) (p_Y : Int) (q_X : Int) (q_Y : Int) (w : World)  : Calls Try.prog 98 #[.agg #[.int .i64 p_X, .int .i64 p_Y], .agg #[.int .i64 q_X, .int .i64 q_Y]] w fun e w' => e = .returned (.int .i64 ((I_Point_square (⟨p_X, p_Y⟩ : Point) (⟨q_X, q_Y⟩ : Point)))) ∧ Q w w' := by
  have hset := setRule
  have hall := allocRule
  have halm := allocMark
  have hw64 := wrapRule
  go_enter Try.func98, Try.ntmps98
  go_wp2
  all_goals go_ret
  all_goals refine ⟨?_, (by (repeat (first | (with_reducible exact Q.refl _) | (with_reducible assumption) | (with_reducible refine Q.setCell ?_ (by dsimp only; omega) _) | (with_reducible refine Q.alloc ?_ _) | (with_reducible refine Q.drew ?_) | (with_reducible refine Q.call ?_ (by with_reducible assumption)))))⟩
  all_goals first | (simp [I_Point_square, *]; done) | (simp [I_Point_square, *]; omega) | (simp [I_Point_square, *]; simp (disch := omega) only [if_pos, if_neg]; done) | (simp_all [I_Point_square]; done) | (simp_all [I_Point_square]; omega)

theorem c_I_abs (n : Int) (w : World)  : Calls Try.prog 99 #[.int .i64 n] w fun e w' => e = .returned (.int .i64 ((I_abs n))) ∧ w = w' := by
  have hw64 := wrapRule
  have hmax := maxRule
  have hmin := minRule
  go_enter Try.func99, Try.ntmps99
  go_wp2
  all_goals go_ret
  all_goals refine ⟨?_, rfl⟩
  all_goals first | (simp [I_abs, *]; done) | (simp [I_abs, *]; omega) | (simp [I_abs, *]; simp (disch := omega) only [if_pos, if_neg]; done) | (simp_all [I_abs]; done) | (simp_all [I_abs]; omega)

set_option maxHeartbeats 1000000 in
theorem c_S_l02Hull (a_Low : Int) (a_High : Int) (b_Low : Int) (b_High : Int) (w : World)  : Calls Try.prog 102 #[.agg #[.int .i64 a_Low, .int .i64 a_High], .agg #[.int .i64 b_Low, .int .i64 b_High]] w fun e w' => e = .returned (.agg #[.int .i64 ((S_l02Hull (⟨a_Low, a_High⟩ : Interval) (⟨b_Low, b_High⟩ : Interval)).Low), .int .i64 ((S_l02Hull (⟨a_Low, a_High⟩ : Interval) (⟨b_Low, b_High⟩ : Interval)).High)]) ∧ Q w w' := by
  have hset := setRule
  have hall := allocRule
  have halm := allocMark
  have hw64 := wrapRule
  have hmax := maxRule
  have hmin := minRule
  go_enter Try.func102, Try.ntmps102
  go_wp2
  all_goals
    refine bodyPost_ret (v := .agg #[.int .i64 ((S_l02Hull (⟨a_Low, a_High⟩ : Interval) (⟨b_Low, b_High⟩ : Interval)).Low), .int .i64 ((S_l02Hull (⟨a_Low, a_High⟩ : Interval) (⟨b_Low, b_High⟩ : Interval)).High)]) ?_ rfl ⟨rfl, ?_⟩
    · first | (simp [results, Try.results102, go_sem, S_l02Hull, *]; done) | (simp [results, Try.results102, go_sem, *]; repeat (simp (disch := omega) only [if_pos, if_neg]; try simp [go_sem, S_l02Hull, *]))
    · (repeat (first | (with_reducible exact Q.refl _) | (with_reducible assumption) | (with_reducible refine Q.setCell ?_ (by dsimp only; omega) _) | (with_reducible refine Q.alloc ?_ _) | (with_reducible refine Q.drew ?_) | (with_reducible refine Q.call ?_ (by with_reducible assumption))))

set_option maxHeartbeats 1000000 in
theorem c_I_Interval_hull (a_Low : Int) (a_High : Int) (b_Low : Int) (b_High : Int) (w : World)  : Calls Try.prog 103 #[.agg #[.int .i64 a_Low, .int .i64 a_High], .agg #[.int .i64 b_Low, .int .i64 b_High]] w fun e w' => e = .returned (.agg #[.int .i64 ((I_Interval_hull (⟨a_Low, a_High⟩ : Interval) (⟨b_Low, b_High⟩ : Interval)).Low), .int .i64 ((I_Interval_hull (⟨a_Low, a_High⟩ : Interval) (⟨b_Low, b_High⟩ : Interval)).High)]) ∧ Q w w' := by
  have hset := setRule
  have hall := allocRule
  have halm := allocMark
  have hw64 := wrapRule
  have hmax := maxRule
  have hmin := minRule
  go_enter Try.func103, Try.ntmps103
  go_wp2
  all_goals
    refine bodyPost_ret (v := .agg #[.int .i64 ((I_Interval_hull (⟨a_Low, a_High⟩ : Interval) (⟨b_Low, b_High⟩ : Interval)).Low), .int .i64 ((I_Interval_hull (⟨a_Low, a_High⟩ : Interval) (⟨b_Low, b_High⟩ : Interval)).High)]) ?_ rfl ⟨rfl, ?_⟩
    · first | (simp [results, Try.results103, go_sem, I_Interval_hull, *]; done) | (simp [results, Try.results103, go_sem, *]; repeat (simp (disch := omega) only [if_pos, if_neg]; try simp [go_sem, I_Interval_hull, *]))
    · (repeat (first | (with_reducible exact Q.refl _) | (with_reducible assumption) | (with_reducible refine Q.setCell ?_ (by dsimp only; omega) _) | (with_reducible refine Q.alloc ?_ _) | (with_reducible refine Q.drew ?_) | (with_reducible refine Q.call ?_ (by with_reducible assumption))))

end Go.Proofs.Ytecnjkhncdjebaa
