/- Contracts of Go functions of the plain fragment, with their walks; printed by a program of the author's own. -/
import Derived.Test.YtecnjkhncdjebaaRows
import Derived.Test.YtecnjkhncdjebaaDefs
import Derived.Test.YtecnjkhncdjebaaQ
import Derived.Test.YtecnjkhncdjebaaFresh
import Derived.Test.YtecnjkhncdjebaaM2
import Derived.WalkKit
import Derived.ProofKit
import Derived.OpenShut
import Derived.WalkLawsBesides
import Derived.BigQuiet
import Derived.Deep.QuietTactic
import Derived.Deep.LoopGhost
import Derived.LoopN
import Derived.Deep.RegionWith
import Derived.Test.YtecnjkhncdjebaaOwn
namespace Go.Proofs.Ytecnjkhncdjebaa
open Go.ChangeShapes Go.WideShapes Go.ChangeAt Go.RowKit
set_option linter.unusedVariables false
set_option linter.unusedSimpArgs false
theorem c_S_l01In (n : Int) (low : Int) (high : Int) (w : World)  : Calls Try.prog 64 #[.int .i64 n, .int .i64 low, .int .i64 high] w fun e w' => e = .returned (.bool ((S_l01In n low high))) ∧ w = w' := by
  have hw64 := wrapRule
  go_enter Try.func64, Try.ntmps64
  go_wp2
  all_goals go_ret
  all_goals refine ⟨?_, rfl⟩
  all_goals first | (simp [S_l01In, *]; done) | (simp [S_l01In, *]; omega) | (simp [S_l01In, *]; simp (disch := omega) only [if_pos, if_neg]; done) | (simp_all [S_l01In]; done) | (simp_all [S_l01In]; omega)

theorem c_S_l14Point (x : Int) (y : Int) (w : World)  : Calls Try.prog 53 #[.int .i64 x, .int .i64 y] w fun e w' => e = .returned (.bool ((S_l14Point x y))) ∧ w = w' := by
  have hw64 := wrapRule
  go_enter Try.func53, Try.ntmps53
  go_wp2_with (first | (go_at_call 64; refine (c_S_l01In _ _ _ _ ).mono ?_; rintro e w1 ⟨rfl, rfl⟩))
  all_goals go_ret
  all_goals refine ⟨?_, rfl⟩
  all_goals first | (simp [S_l14Point, *]; done) | (simp [S_l14Point, *]; omega) | (simp [S_l14Point, *]; simp (disch := omega) only [if_pos, if_neg]; done) | (simp_all [S_l14Point]; done) | (simp_all [S_l14Point]; omega)

theorem c_S_IsFace (f_Left : Int) (f_Bottom : Int) (f_Right : Int) (f_Top : Int) (w : World)  : Calls Try.prog 51 #[.agg #[.int .i64 f_Left, .int .i64 f_Bottom, .int .i64 f_Right, .int .i64 f_Top]] w fun e w' => e = .returned (.bool ((S_IsFace (⟨f_Left, f_Bottom, f_Right, f_Top⟩ : Face)))) ∧ Q w w' := by
  have hset := setRule
  have hall := allocRule
  have halm := allocMark
  have hw64 := wrapRule
  go_enter Try.func51, Try.ntmps51
  go_wp2_with (first | (go_at_call 53; refine (c_S_l14Point _ _ _ ).mono ?_; rintro e w1 ⟨rfl, rfl⟩))
  all_goals go_ret
  all_goals refine ⟨?_, (by (repeat (first | (with_reducible exact Q.refl _) | (with_reducible assumption) | (with_reducible refine Q.setCell ?_ (by dsimp only; omega) _) | (with_reducible refine Q.alloc ?_ _) | (with_reducible refine Q.drew ?_) | (with_reducible refine Q.call ?_ (by with_reducible assumption)))))⟩
  all_goals first | (simp [S_IsFace, *]; done) | (simp [S_IsFace, *]; omega) | (simp [S_IsFace, *]; simp (disch := omega) only [if_pos, if_neg]; done) | (simp_all [S_IsFace]; done) | (simp_all [S_IsFace]; omega)

set_option maxHeartbeats 1000000 in
theorem c_S_MeetFaces (f_Left : Int) (f_Bottom : Int) (f_Right : Int) (f_Top : Int) (g_Left : Int) (g_Bottom : Int) (g_Right : Int) (g_Top : Int) (w : World)  : Calls Try.prog 15 #[.agg #[.int .i64 f_Left, .int .i64 f_Bottom, .int .i64 f_Right, .int .i64 f_Top], .agg #[.int .i64 g_Left, .int .i64 g_Bottom, .int .i64 g_Right, .int .i64 g_Top]] w fun e w' => e = .returned (.tuple #[.agg #[.int .i64 ((S_MeetFaces (⟨f_Left, f_Bottom, f_Right, f_Top⟩ : Face) (⟨g_Left, g_Bottom, g_Right, g_Top⟩ : Face)).1.Left), .int .i64 ((S_MeetFaces (⟨f_Left, f_Bottom, f_Right, f_Top⟩ : Face) (⟨g_Left, g_Bottom, g_Right, g_Top⟩ : Face)).1.Bottom), .int .i64 ((S_MeetFaces (⟨f_Left, f_Bottom, f_Right, f_Top⟩ : Face) (⟨g_Left, g_Bottom, g_Right, g_Top⟩ : Face)).1.Right), .int .i64 ((S_MeetFaces (⟨f_Left, f_Bottom, f_Right, f_Top⟩ : Face) (⟨g_Left, g_Bottom, g_Right, g_Top⟩ : Face)).1.Top)], .int .i64 ((S_MeetFaces (⟨f_Left, f_Bottom, f_Right, f_Top⟩ : Face) (⟨g_Left, g_Bottom, g_Right, g_Top⟩ : Face)).2)]) ∧ Q w w' := by
  have hset := setRule
  have hall := allocRule
  have halm := allocMark
  have hw64 := wrapRule
  have hmax := maxRule
  have hmin := minRule
  go_enter Try.func15, Try.ntmps15
  go_wp2_with (first | (go_at_call 51; refine (c_S_IsFace _ _ _ _ _ ).mono ?_; rintro e w1 ⟨rfl, hq⟩; obtain ⟨hc, hf⟩ := hq.rules; have hs := hq.le; try simp at hs))
  all_goals
    refine bodyPost_ret (v := .tuple #[.agg #[.int .i64 ((S_MeetFaces (⟨f_Left, f_Bottom, f_Right, f_Top⟩ : Face) (⟨g_Left, g_Bottom, g_Right, g_Top⟩ : Face)).1.Left), .int .i64 ((S_MeetFaces (⟨f_Left, f_Bottom, f_Right, f_Top⟩ : Face) (⟨g_Left, g_Bottom, g_Right, g_Top⟩ : Face)).1.Bottom), .int .i64 ((S_MeetFaces (⟨f_Left, f_Bottom, f_Right, f_Top⟩ : Face) (⟨g_Left, g_Bottom, g_Right, g_Top⟩ : Face)).1.Right), .int .i64 ((S_MeetFaces (⟨f_Left, f_Bottom, f_Right, f_Top⟩ : Face) (⟨g_Left, g_Bottom, g_Right, g_Top⟩ : Face)).1.Top)], .int .i64 ((S_MeetFaces (⟨f_Left, f_Bottom, f_Right, f_Top⟩ : Face) (⟨g_Left, g_Bottom, g_Right, g_Top⟩ : Face)).2)]) ?_ rfl ⟨rfl, ?_⟩
    · first | (simp [results, Try.results15, go_sem, S_MeetFaces, *]; done) | (simp [results, Try.results15, go_sem, *]; repeat (simp (disch := omega) only [if_pos, if_neg]; try simp [go_sem, S_MeetFaces, *]))
    · (repeat (first | (with_reducible exact Q.refl _) | (with_reducible assumption) | (with_reducible refine Q.setCell ?_ (by dsimp only; omega) _) | (with_reducible refine Q.alloc ?_ _) | (with_reducible refine Q.drew ?_) | (with_reducible refine Q.call ?_ (by with_reducible assumption))))

set_option maxHeartbeats 1000000 in
theorem c_L_toFace (a_Left : Int) (a_Bottom : Int) (a_Right : Int) (a_Top : Int) (w : World)  : Calls Try.prog 16 #[.agg #[.int .i64 a_Left, .int .i64 a_Bottom, .int .i64 a_Right, .int .i64 a_Top]] w fun e w' => e = .returned (.agg #[.int .i64 ((L_toFace (⟨a_Left, a_Bottom, a_Right, a_Top⟩ : Face)).Left), .int .i64 ((L_toFace (⟨a_Left, a_Bottom, a_Right, a_Top⟩ : Face)).Bottom), .int .i64 ((L_toFace (⟨a_Left, a_Bottom, a_Right, a_Top⟩ : Face)).Right), .int .i64 ((L_toFace (⟨a_Left, a_Bottom, a_Right, a_Top⟩ : Face)).Top)]) ∧ Q w w' := by
  have hset := setRule
  have hall := allocRule
  have halm := allocMark
  have hw64 := wrapRule
  go_enter Try.func16, Try.ntmps16
  go_wp2
  all_goals
    refine bodyPost_ret (v := .agg #[.int .i64 ((L_toFace (⟨a_Left, a_Bottom, a_Right, a_Top⟩ : Face)).Left), .int .i64 ((L_toFace (⟨a_Left, a_Bottom, a_Right, a_Top⟩ : Face)).Bottom), .int .i64 ((L_toFace (⟨a_Left, a_Bottom, a_Right, a_Top⟩ : Face)).Right), .int .i64 ((L_toFace (⟨a_Left, a_Bottom, a_Right, a_Top⟩ : Face)).Top)]) ?_ rfl ⟨rfl, ?_⟩
    · first | (simp [results, Try.results16, go_sem, L_toFace, *]; done) | (simp [results, Try.results16, go_sem, *]; repeat (simp (disch := omega) only [if_pos, if_neg]; try simp [go_sem, L_toFace, *]))
    · (repeat (first | (with_reducible exact Q.refl _) | (with_reducible assumption) | (with_reducible refine Q.setCell ?_ (by dsimp only; omega) _) | (with_reducible refine Q.alloc ?_ _) | (with_reducible refine Q.drew ?_) | (with_reducible refine Q.call ?_ (by with_reducible assumption))))

theorem c_I_in (n : Int) (low : Int) (high : Int) (w : World)  : Calls Try.prog 67 #[.int .i64 n, .int .i64 low, .int .i64 high] w fun e w' => e = .returned (.bool ((I_in n low high))) ∧ w = w' := by
  have hw64 := wrapRule
  go_enter Try.func67, Try.ntmps67
  go_wp2
  all_goals go_ret
  all_goals refine ⟨?_, rfl⟩
  all_goals first | (simp [I_in, *]; done) | (simp [I_in, *]; omega) | (simp [I_in, *]; simp (disch := omega) only [if_pos, if_neg]; done) | (simp_all [I_in]; done) | (simp_all [I_in]; omega)

theorem c_I_isSpot (x : Int) (w : World)  : Calls Try.prog 90 #[.int .i64 x] w fun e w' => e = .returned (.bool ((I_isSpot x))) ∧ w = w' := by
  have hw64 := wrapRule
  go_enter Try.func90, Try.ntmps90
  go_wp2_with (first | (go_at_call 67; refine (c_I_in _ _ _ _ ).mono ?_; rintro e w1 ⟨rfl, rfl⟩))
  all_goals go_ret
  all_goals refine ⟨?_, rfl⟩
  all_goals first | (simp [I_isSpot, *]; done) | (simp [I_isSpot, *]; omega) | (simp [I_isSpot, *]; simp (disch := omega) only [if_pos, if_neg]; done) | (simp_all [I_isSpot]; done) | (simp_all [I_isSpot]; omega)

theorem c_I_IsFace (f_Left : Int) (f_Bottom : Int) (f_Right : Int) (f_Top : Int) (w : World)  : Calls Try.prog 52 #[.agg #[.int .i64 f_Left, .int .i64 f_Bottom, .int .i64 f_Right, .int .i64 f_Top]] w fun e w' => e = .returned (.bool ((I_IsFace (⟨f_Left, f_Bottom, f_Right, f_Top⟩ : Face)))) ∧ Q w w' := by
  have hset := setRule
  have hall := allocRule
  have halm := allocMark
  have hw64 := wrapRule
  go_enter Try.func52, Try.ntmps52
  go_wp2_with (first | (go_at_call 90; refine (c_I_isSpot _ _ ).mono ?_; rintro e w1 ⟨rfl, rfl⟩))
  all_goals go_ret
  all_goals refine ⟨?_, (by (repeat (first | (with_reducible exact Q.refl _) | (with_reducible assumption) | (with_reducible refine Q.setCell ?_ (by dsimp only; omega) _) | (with_reducible refine Q.alloc ?_ _) | (with_reducible refine Q.drew ?_) | (with_reducible refine Q.call ?_ (by with_reducible assumption)))))⟩
  all_goals first | (simp [I_IsFace, *]; done) | (simp [I_IsFace, *]; omega) | (simp [I_IsFace, *]; simp (disch := omega) only [if_pos, if_neg]; done) | (simp_all [I_IsFace]; done) | (simp_all [I_IsFace]; omega)

set_option maxHeartbeats 1000000 in
theorem c_I_MeetFaces (f_Left : Int) (f_Bottom : Int) (f_Right : Int) (f_Top : Int) (g_Left : Int) (g_Bottom : Int) (g_Right : Int) (g_Top : Int) (w : World)  : Calls Try.prog 17 #[.agg #[.int .i64 f_Left, .int .i64 f_Bottom, .int .i64 f_Right, .int .i64 f_Top], .agg #[.int .i64 g_Left, .int .i64 g_Bottom, .int .i64 g_Right, .int .i64 g_Top]] w fun e w' => e = .returned (.tuple #[.agg #[.int .i64 ((I_MeetFaces (⟨f_Left, f_Bottom, f_Right, f_Top⟩ : Face) (⟨g_Left, g_Bottom, g_Right, g_Top⟩ : Face)).1.Left), .int .i64 ((I_MeetFaces (⟨f_Left, f_Bottom, f_Right, f_Top⟩ : Face) (⟨g_Left, g_Bottom, g_Right, g_Top⟩ : Face)).1.Bottom), .int .i64 ((I_MeetFaces (⟨f_Left, f_Bottom, f_Right, f_Top⟩ : Face) (⟨g_Left, g_Bottom, g_Right, g_Top⟩ : Face)).1.Right), .int .i64 ((I_MeetFaces (⟨f_Left, f_Bottom, f_Right, f_Top⟩ : Face) (⟨g_Left, g_Bottom, g_Right, g_Top⟩ : Face)).1.Top)], .int .i64 ((I_MeetFaces (⟨f_Left, f_Bottom, f_Right, f_Top⟩ : Face) (⟨g_Left, g_Bottom, g_Right, g_Top⟩ : Face)).2)]) ∧ Q w w' := by
  have hset := setRule
  have hall := allocRule
  have halm := allocMark
  have hw64 := wrapRule
  have hmax := maxRule
  have hmin := minRule
  go_enter Try.func17, Try.ntmps17
  go_wp2_with (first | (go_at_call 52; refine (c_I_IsFace _ _ _ _ _ ).mono ?_; rintro e w1 ⟨rfl, hq⟩; obtain ⟨hc, hf⟩ := hq.rules; have hs := hq.le; try simp at hs))
  all_goals
    refine bodyPost_ret (v := .tuple #[.agg #[.int .i64 ((I_MeetFaces (⟨f_Left, f_Bottom, f_Right, f_Top⟩ : Face) (⟨g_Left, g_Bottom, g_Right, g_Top⟩ : Face)).1.Left), .int .i64 ((I_MeetFaces (⟨f_Left, f_Bottom, f_Right, f_Top⟩ : Face) (⟨g_Left, g_Bottom, g_Right, g_Top⟩ : Face)).1.Bottom), .int .i64 ((I_MeetFaces (⟨f_Left, f_Bottom, f_Right, f_Top⟩ : Face) (⟨g_Left, g_Bottom, g_Right, g_Top⟩ : Face)).1.Right), .int .i64 ((I_MeetFaces (⟨f_Left, f_Bottom, f_Right, f_Top⟩ : Face) (⟨g_Left, g_Bottom, g_Right, g_Top⟩ : Face)).1.Top)], .int .i64 ((I_MeetFaces (⟨f_Left, f_Bottom, f_Right, f_Top⟩ : Face) (⟨g_Left, g_Bottom, g_Right, g_Top⟩ : Face)).2)]) ?_ rfl ⟨rfl, ?_⟩
    · first | (simp [results, Try.results17, go_sem, I_MeetFaces, *]; done) | (simp [results, Try.results17, go_sem, *]; repeat (simp (disch := omega) only [if_pos, if_neg]; try simp [go_sem, I_MeetFaces, *]))
    · (repeat (first | (with_reducible exact Q.refl _) | (with_reducible assumption) | (with_reducible refine Q.setCell ?_ (by dsimp only; omega) _) | (with_reducible refine Q.alloc ?_ _) | (with_reducible refine Q.drew ?_) | (with_reducible refine Q.call ?_ (by with_reducible assumption))))

theorem c_L_eqFace (a_Left : Int) (a_Bottom : Int) (a_Right : Int) (a_Top : Int) (b_Left : Int) (b_Bottom : Int) (b_Right : Int) (b_Top : Int) (w : World)  : Calls Try.prog 18 #[.agg #[.int .i64 a_Left, .int .i64 a_Bottom, .int .i64 a_Right, .int .i64 a_Top], .agg #[.int .i64 b_Left, .int .i64 b_Bottom, .int .i64 b_Right, .int .i64 b_Top]] w fun e w' => e = .returned (.bool ((L_eqFace (⟨a_Left, a_Bottom, a_Right, a_Top⟩ : Face) (⟨b_Left, b_Bottom, b_Right, b_Top⟩ : Face)))) ∧ Q w w' := by
  have hset := setRule
  have hall := allocRule
  have halm := allocMark
  have hw64 := wrapRule
  go_enter Try.func18, Try.ntmps18
  go_wp2
  all_goals go_ret
  all_goals refine ⟨?_, (by (repeat (first | (with_reducible exact Q.refl _) | (with_reducible assumption) | (with_reducible refine Q.setCell ?_ (by dsimp only; omega) _) | (with_reducible refine Q.alloc ?_ _) | (with_reducible refine Q.drew ?_) | (with_reducible refine Q.call ?_ (by with_reducible assumption)))))⟩
  all_goals first | (simp [L_eqFace, *]; done) | (simp [L_eqFace, *]; omega) | (simp [L_eqFace, *]; simp (disch := omega) only [if_pos, if_neg]; done) | (simp_all [L_eqFace]; done) | (simp_all [L_eqFace]; omega)

theorem c_S_l18In (f_Left : Int) (f_Bottom : Int) (f_Right : Int) (f_Top : Int) (p_X : Int) (p_Y : Int) (w : World)  : Calls Try.prog 54 #[.agg #[.int .i64 f_Left, .int .i64 f_Bottom, .int .i64 f_Right, .int .i64 f_Top], .agg #[.int .i64 p_X, .int .i64 p_Y]] w fun e w' => e = .returned (.bool ((S_l18In (⟨f_Left, f_Bottom, f_Right, f_Top⟩ : Face) (⟨p_X, p_Y⟩ : Point)))) ∧ Q w w' := by
  have hset := setRule
  have hall := allocRule
  have halm := allocMark
  have hw64 := wrapRule
  go_enter Try.func54, Try.ntmps54
  go_wp2_with (first | (go_at_call 64; refine (c_S_l01In _ _ _ _ ).mono ?_; rintro e w1 ⟨rfl, rfl⟩))
  all_goals go_ret
  all_goals refine ⟨?_, (by (repeat (first | (with_reducible exact Q.refl _) | (with_reducible assumption) | (with_reducible refine Q.setCell ?_ (by dsimp only; omega) _) | (with_reducible refine Q.alloc ?_ _) | (with_reducible refine Q.drew ?_) | (with_reducible refine Q.call ?_ (by with_reducible assumption)))))⟩
  all_goals first | (simp [S_l18In, *]; done) | (simp [S_l18In, *]; omega) | (simp [S_l18In, *]; simp (disch := omega) only [if_pos, if_neg]; done) | (simp_all [S_l18In]; done) | (simp_all [S_l18In]; omega)

theorem c_S_InFace (f_Left : Int) (f_Bottom : Int) (f_Right : Int) (f_Top : Int) (p_X : Int) (p_Y : Int) (w : World)  : Calls Try.prog 19 #[.agg #[.int .i64 f_Left, .int .i64 f_Bottom, .int .i64 f_Right, .int .i64 f_Top], .agg #[.int .i64 p_X, .int .i64 p_Y]] w fun e w' => e = .returned (.tuple #[.bool ((S_InFace (⟨f_Left, f_Bottom, f_Right, f_Top⟩ : Face) (⟨p_X, p_Y⟩ : Point)).1), .int .i64 ((S_InFace (⟨f_Left, f_Bottom, f_Right, f_Top⟩ : Face) (⟨p_X, p_Y⟩ : Point)).2)]) ∧ Q w w' := by
  have hset := setRule
  have hall := allocRule
  have halm := allocMark
  have hw64 := wrapRule
  go_enter Try.func19, Try.ntmps19
  go_wp2_with (first | (go_at_call 51; refine (c_S_IsFace _ _ _ _ _ ).mono ?_; rintro e w1 ⟨rfl, hq⟩; obtain ⟨hc, hf⟩ := hq.rules; have hs := hq.le; try simp at hs) | (go_at_call 53; refine (c_S_l14Point _ _ _ ).mono ?_; rintro e w1 ⟨rfl, rfl⟩) | (go_at_call 54; refine (c_S_l18In _ _ _ _ _ _ _ ).mono ?_; rintro e w1 ⟨rfl, hq⟩; obtain ⟨hc, hf⟩ := hq.rules; have hs := hq.le; try simp at hs))
  all_goals go_ret2
  all_goals refine ⟨?_, (by (repeat (first | (with_reducible exact Q.refl _) | (with_reducible assumption) | (with_reducible refine Q.setCell ?_ (by dsimp only; omega) _) | (with_reducible refine Q.alloc ?_ _) | (with_reducible refine Q.drew ?_) | (with_reducible refine Q.call ?_ (by with_reducible assumption)))))⟩
  all_goals first | (simp [S_InFace, *]; done) | (simp [S_InFace, *]; omega) | (simp [S_InFace, *]; simp (disch := omega) only [if_pos, if_neg]; done) | (simp_all [S_InFace]; done) | (simp_all [S_InFace]; omega)

set_option maxHeartbeats 1000000 in
theorem c_L_toPoint (a_X : Int) (a_Y : Int) (w : World)  : Calls Try.prog 20 #[.agg #[.int .i64 a_X, .int .i64 a_Y]] w fun e w' => e = .returned (.agg #[.int .i64 ((L_toPoint (⟨a_X, a_Y⟩ : Point)).X), .int .i64 ((L_toPoint (⟨a_X, a_Y⟩ : Point)).Y)]) ∧ Q w w' := by
  have hset := setRule
  have hall := allocRule
  have halm := allocMark
  have hw64 := wrapRule
  go_enter Try.func20, Try.ntmps20
  go_wp2
  all_goals
    refine bodyPost_ret (v := .agg #[.int .i64 ((L_toPoint (⟨a_X, a_Y⟩ : Point)).X), .int .i64 ((L_toPoint (⟨a_X, a_Y⟩ : Point)).Y)]) ?_ rfl ⟨rfl, ?_⟩
    · first | (simp [results, Try.results20, go_sem, L_toPoint, *]; done) | (simp [results, Try.results20, go_sem, *]; repeat (simp (disch := omega) only [if_pos, if_neg]; try simp [go_sem, L_toPoint, *]))
    · (repeat (first | (with_reducible exact Q.refl _) | (with_reducible assumption) | (with_reducible refine Q.setCell ?_ (by dsimp only; omega) _) | (with_reducible refine Q.alloc ?_ _) | (with_reducible refine Q.drew ?_) | (with_reducible refine Q.call ?_ (by with_reducible assumption))))

theorem c_I_isPoint (p_X : Int) (p_Y : Int) (w : World)  : Calls Try.prog 73 #[.agg #[.int .i64 p_X, .int .i64 p_Y]] w fun e w' => e = .returned (.bool ((I_isPoint (⟨p_X, p_Y⟩ : Point)))) ∧ Q w w' := by
  have hset := setRule
  have hall := allocRule
  have halm := allocMark
  have hw64 := wrapRule
  go_enter Try.func73, Try.ntmps73
  go_wp2_with (first | (go_at_call 90; refine (c_I_isSpot _ _ ).mono ?_; rintro e w1 ⟨rfl, rfl⟩))
  all_goals go_ret
  all_goals refine ⟨?_, (by (repeat (first | (with_reducible exact Q.refl _) | (with_reducible assumption) | (with_reducible refine Q.setCell ?_ (by dsimp only; omega) _) | (with_reducible refine Q.alloc ?_ _) | (with_reducible refine Q.drew ?_) | (with_reducible refine Q.call ?_ (by with_reducible assumption)))))⟩
  all_goals first | (simp [I_isPoint, *]; done) | (simp [I_isPoint, *]; omega) | (simp [I_isPoint, *]; simp (disch := omega) only [if_pos, if_neg]; done) | (simp_all [I_isPoint]; done) | (simp_all [I_isPoint]; omega)

set_option maxHeartbeats 2000000 in
theorem c_I_faced1 (f_Left f_Bottom f_Right f_Top px py : Int) (b : Nat) (w : World) (hb : b < w.heap.size) (h0 : w.cell? ⟨b, 0, none⟩ = some (.int .i64 px)) (h1 : w.cell? ⟨b, 1, none⟩ = some (.int .i64 py)) : Calls Try.prog 55 #[.agg #[.int .i64 f_Left, .int .i64 f_Bottom, .int .i64 f_Right, .int .i64 f_Top], .slice (some ⟨b, 0, none⟩) 1 1] w fun e w' => e = .returned (.int .i64 (I_faced (⟨f_Left, f_Bottom, f_Right, f_Top⟩ : Face) [(⟨px, py⟩ : Point)])) ∧ Q w w' := by
  have hset := setRule
  have hall := allocRule
  have halm := allocMark
  have hw64 := wrapRule
  have hwa : wrap64 1 = 1 := w64 (by omega)
  have hwb : wrap64 2 = 2 := w64 (by omega)
  rcases Bool.eq_false_or_eq_true (I_IsFace (⟨f_Left, f_Bottom, f_Right, f_Top⟩ : Face)) with g0 | g0
  · rcases Bool.eq_false_or_eq_true (I_isPoint (⟨px, py⟩ : Point)) with g1 | g1
    · skip
      go_enter Try.func55, Try.ntmps55
      go_wp2_with (first | (go_at_call 52; refine (c_I_IsFace _ _ _ _ _ ).mono ?_; rintro e w1 ⟨rfl, hq⟩; obtain ⟨hc, hf⟩ := hq.rules; have hs := hq.le; try simp at hs) | (go_at_call 73; refine (c_I_isPoint _ _ _ ).mono ?_; rintro e w1 ⟨rfl, hq⟩; obtain ⟨hc, hf⟩ := hq.rules; have hs := hq.le; try simp at hs))
      all_goals try (refine wp_loop_rounds 2 ?_; rw [rounds_succ])
      all_goals try go_wp2_with (first | (go_at_call 52; refine (c_I_IsFace _ _ _ _ _ ).mono ?_; rintro e w1 ⟨rfl, hq⟩; obtain ⟨hc, hf⟩ := hq.rules; have hs := hq.le; try simp at hs) | (go_at_call 73; refine (c_I_isPoint _ _ _ ).mono ?_; rintro e w1 ⟨rfl, hq⟩; obtain ⟨hc, hf⟩ := hq.rules; have hs := hq.le; try simp at hs))
      all_goals try (rw [rounds_succ])
      all_goals try go_wp2_with (first | (go_at_call 52; refine (c_I_IsFace _ _ _ _ _ ).mono ?_; rintro e w1 ⟨rfl, hq⟩; obtain ⟨hc, hf⟩ := hq.rules; have hs := hq.le; try simp at hs) | (go_at_call 73; refine (c_I_isPoint _ _ _ ).mono ?_; rintro e w1 ⟨rfl, hq⟩; obtain ⟨hc, hf⟩ := hq.rules; have hs := hq.le; try simp at hs))
      all_goals go_ret
      all_goals refine ⟨?_, (by repeat (first | (with_reducible exact Q.refl _) | (with_reducible assumption) | (with_reducible refine Q.setCell ?_ (by dsimp only; omega) _) | (with_reducible refine Q.alloc ?_ _) | (with_reducible refine Q.drew ?_) | (with_reducible refine Q.call ?_ (by with_reducible assumption))))⟩
      all_goals first | (simp [I_faced, *]; done) | (simp_all [I_faced]; done)
    · skip
      go_enter Try.func55, Try.ntmps55
      go_wp2_with (first | (go_at_call 52; refine (c_I_IsFace _ _ _ _ _ ).mono ?_; rintro e w1 ⟨rfl, hq⟩; obtain ⟨hc, hf⟩ := hq.rules; have hs := hq.le; try simp at hs) | (go_at_call 73; refine (c_I_isPoint _ _ _ ).mono ?_; rintro e w1 ⟨rfl, hq⟩; obtain ⟨hc, hf⟩ := hq.rules; have hs := hq.le; try simp at hs))
      all_goals try (refine wp_loop_rounds 2 ?_; rw [rounds_succ])
      all_goals try go_wp2_with (first | (go_at_call 52; refine (c_I_IsFace _ _ _ _ _ ).mono ?_; rintro e w1 ⟨rfl, hq⟩; obtain ⟨hc, hf⟩ := hq.rules; have hs := hq.le; try simp at hs) | (go_at_call 73; refine (c_I_isPoint _ _ _ ).mono ?_; rintro e w1 ⟨rfl, hq⟩; obtain ⟨hc, hf⟩ := hq.rules; have hs := hq.le; try simp at hs))
      all_goals try (rw [rounds_succ])
      all_goals try go_wp2_with (first | (go_at_call 52; refine (c_I_IsFace _ _ _ _ _ ).mono ?_; rintro e w1 ⟨rfl, hq⟩; obtain ⟨hc, hf⟩ := hq.rules; have hs := hq.le; try simp at hs) | (go_at_call 73; refine (c_I_isPoint _ _ _ ).mono ?_; rintro e w1 ⟨rfl, hq⟩; obtain ⟨hc, hf⟩ := hq.rules; have hs := hq.le; try simp at hs))
      all_goals go_ret
      all_goals refine ⟨?_, (by repeat (first | (with_reducible exact Q.refl _) | (with_reducible assumption) | (with_reducible refine Q.setCell ?_ (by dsimp only; omega) _) | (with_reducible refine Q.alloc ?_ _) | (with_reducible refine Q.drew ?_) | (with_reducible refine Q.call ?_ (by with_reducible assumption))))⟩
      all_goals first | (simp [I_faced, *]; done) | (simp_all [I_faced]; done)
  · skip
    go_enter Try.func55, Try.ntmps55
    go_wp2_with (first | (go_at_call 52; refine (c_I_IsFace _ _ _ _ _ ).mono ?_; rintro e w1 ⟨rfl, hq⟩; obtain ⟨hc, hf⟩ := hq.rules; have hs := hq.le; try simp at hs) | (go_at_call 73; refine (c_I_isPoint _ _ _ ).mono ?_; rintro e w1 ⟨rfl, hq⟩; obtain ⟨hc, hf⟩ := hq.rules; have hs := hq.le; try simp at hs))
    all_goals try (refine wp_loop_rounds 2 ?_; rw [rounds_succ])
    all_goals try go_wp2_with (first | (go_at_call 52; refine (c_I_IsFace _ _ _ _ _ ).mono ?_; rintro e w1 ⟨rfl, hq⟩; obtain ⟨hc, hf⟩ := hq.rules; have hs := hq.le; try simp at hs) | (go_at_call 73; refine (c_I_isPoint _ _ _ ).mono ?_; rintro e w1 ⟨rfl, hq⟩; obtain ⟨hc, hf⟩ := hq.rules; have hs := hq.le; try simp at hs))
    all_goals try (rw [rounds_succ])
    all_goals try go_wp2_with (first | (go_at_call 52; refine (c_I_IsFace _ _ _ _ _ ).mono ?_; rintro e w1 ⟨rfl, hq⟩; obtain ⟨hc, hf⟩ := hq.rules; have hs := hq.le; try simp at hs) | (go_at_call 73; refine (c_I_isPoint _ _ _ ).mono ?_; rintro e w1 ⟨rfl, hq⟩; obtain ⟨hc, hf⟩ := hq.rules; have hs := hq.le; try simp at hs))
    all_goals go_ret
    all_goals refine ⟨?_, (by repeat (first | (with_reducible exact Q.refl _) | (with_reducible assumption) | (with_reducible refine Q.setCell ?_ (by dsimp only; omega) _) | (with_reducible refine Q.alloc ?_ _) | (with_reducible refine Q.drew ?_) | (with_reducible refine Q.call ?_ (by with_reducible assumption))))⟩
    all_goals first | (simp [I_faced, *]; done) | (simp_all [I_faced]; done)

theorem c_I_Face_has (f_Left : Int) (f_Bottom : Int) (f_Right : Int) (f_Top : Int) (p_X : Int) (p_Y : Int) (w : World)  : Calls Try.prog 56 #[.agg #[.int .i64 f_Left, .int .i64 f_Bottom, .int .i64 f_Right, .int .i64 f_Top], .agg #[.int .i64 p_X, .int .i64 p_Y]] w fun e w' => e = .returned (.bool ((I_Face_has (⟨f_Left, f_Bottom, f_Right, f_Top⟩ : Face) (⟨p_X, p_Y⟩ : Point)))) ∧ Q w w' := by
  have hset := setRule
  have hall := allocRule
  have halm := allocMark
  have hw64 := wrapRule
  go_enter Try.func56, Try.ntmps56
  go_wp2_with (first | (go_at_call 67; refine (c_I_in _ _ _ _ ).mono ?_; rintro e w1 ⟨rfl, rfl⟩))
  all_goals go_ret
  all_goals refine ⟨?_, (by (repeat (first | (with_reducible exact Q.refl _) | (with_reducible assumption) | (with_reducible refine Q.setCell ?_ (by dsimp only; omega) _) | (with_reducible refine Q.alloc ?_ _) | (with_reducible refine Q.drew ?_) | (with_reducible refine Q.call ?_ (by with_reducible assumption)))))⟩
  all_goals first | (simp [I_Face_has, *]; done) | (simp [I_Face_has, *]; omega) | (simp [I_Face_has, *]; simp (disch := omega) only [if_pos, if_neg]; done) | (simp_all [I_Face_has]; done) | (simp_all [I_Face_has]; omega)

theorem c_I_InFace (f_Left : Int) (f_Bottom : Int) (f_Right : Int) (f_Top : Int) (p_X : Int) (p_Y : Int) (w : World)  : Calls Try.prog 21 #[.agg #[.int .i64 f_Left, .int .i64 f_Bottom, .int .i64 f_Right, .int .i64 f_Top], .agg #[.int .i64 p_X, .int .i64 p_Y]] w fun e w' => e = .returned (.tuple #[.bool ((I_InFace (⟨f_Left, f_Bottom, f_Right, f_Top⟩ : Face) (⟨p_X, p_Y⟩ : Point)).1), .int .i64 ((I_InFace (⟨f_Left, f_Bottom, f_Right, f_Top⟩ : Face) (⟨p_X, p_Y⟩ : Point)).2)]) ∧ Q w w' := by
  have hset := setRule
  have hall := allocRule
  have halm := allocMark
  have hw64 := wrapRule
  go_enter Try.func21, Try.ntmps21
  go_wp2_with (first | (go_at_call 55; refine (c_I_faced1 _ _ _ _ _ _ _ _ (by first | omega | (go_simp; done) | (go_simp; omega) | (simp; omega)) (by (try go_simp); (repeat (simp (disch := omega) only [if_pos, if_neg]; try go_simp)); first | done | rfl | (intro hx; exfalso; omega) | (simp [*]; done)) (by (try go_simp); (repeat (simp (disch := omega) only [if_pos, if_neg]; try go_simp)); first | done | rfl | (intro hx; exfalso; omega) | (simp [*]; done))).mono ?_; rintro e w1 ⟨rfl, hq⟩; obtain ⟨hc, hf⟩ := hq.rules; have hs := hq.le; (try simp at hs)) | (go_at_call 56; refine (c_I_Face_has _ _ _ _ _ _ _ ).mono ?_; rintro e w1 ⟨rfl, hq⟩; obtain ⟨hc, hf⟩ := hq.rules; have hs := hq.le; try simp at hs))
  all_goals go_ret2
  all_goals refine ⟨?_, (by (repeat (first | (with_reducible exact Q.refl _) | (with_reducible assumption) | (with_reducible refine Q.setCell ?_ (by dsimp only; omega) _) | (with_reducible refine Q.alloc ?_ _) | (with_reducible refine Q.drew ?_) | (with_reducible refine Q.call ?_ (by with_reducible assumption)))))⟩
  all_goals first | (simp [I_InFace, *]; done) | (simp [I_InFace, *]; omega) | (simp [I_InFace, *]; simp (disch := omega) only [if_pos, if_neg]; done) | (simp_all [I_InFace]; done) | (simp_all [I_InFace]; omega)

theorem c_S_l14Coordinate (a_Low : Int) (a_High : Int) (w : World)  : Calls Try.prog 91 #[.agg #[.int .i64 a_Low, .int .i64 a_High]] w fun e w' => e = .returned (.bool ((S_l14Coordinate (⟨a_Low, a_High⟩ : Interval)))) ∧ Q w w' := by
  have hset := setRule
  have hall := allocRule
  have halm := allocMark
  have hw64 := wrapRule
  go_enter Try.func91, Try.ntmps91
  go_wp2_with (first | (go_at_call 64; refine (c_S_l01In _ _ _ _ ).mono ?_; rintro e w1 ⟨rfl, rfl⟩))
  all_goals go_ret
  all_goals refine ⟨?_, (by (repeat (first | (with_reducible exact Q.refl _) | (with_reducible assumption) | (with_reducible refine Q.setCell ?_ (by dsimp only; omega) _) | (with_reducible refine Q.alloc ?_ _) | (with_reducible refine Q.drew ?_) | (with_reducible refine Q.call ?_ (by with_reducible assumption)))))⟩
  all_goals first | (simp [S_l14Coordinate, *]; done) | (simp [S_l14Coordinate, *]; omega) | (simp [S_l14Coordinate, *]; simp (disch := omega) only [if_pos, if_neg]; done) | (simp_all [S_l14Coordinate]; done) | (simp_all [S_l14Coordinate]; omega)

theorem c_S_IsPlace (p_X_Low : Int) (p_X_High : Int) (p_Y_Low : Int) (p_Y_High : Int) (w : World)  : Calls Try.prog 57 #[.agg #[.int .i64 p_X_Low, .int .i64 p_X_High, .int .i64 p_Y_Low, .int .i64 p_Y_High]] w fun e w' => e = .returned (.bool ((S_IsPlace (⟨(⟨p_X_Low, p_X_High⟩ : Interval), (⟨p_Y_Low, p_Y_High⟩ : Interval)⟩ : Place)))) ∧ Q w w' := by
  have hset := setRule
  have hall := allocRule
  have halm := allocMark
  have hw64 := wrapRule
  go_enter Try.func57, Try.ntmps57
  go_wp2_with (first | (go_at_call 91; refine (c_S_l14Coordinate _ _ _ ).mono ?_; rintro e w1 ⟨rfl, hq⟩; obtain ⟨hc, hf⟩ := hq.rules; have hs := hq.le; try simp at hs))
  all_goals go_ret
  all_goals refine ⟨?_, (by (repeat (first | (with_reducible exact Q.refl _) | (with_reducible assumption) | (with_reducible refine Q.setCell ?_ (by dsimp only; omega) _) | (with_reducible refine Q.alloc ?_ _) | (with_reducible refine Q.drew ?_) | (with_reducible refine Q.call ?_ (by with_reducible assumption)))))⟩
  all_goals first | (simp [S_IsPlace, *]; done) | (simp [S_IsPlace, *]; omega) | (simp [S_IsPlace, *]; simp (disch := omega) only [if_pos, if_neg]; done) | (simp_all [S_IsPlace]; done) | (simp_all [S_IsPlace]; omega)

theorem c_S_l01Floor (a : Int) (b : Int) (w : World) (hz0 : 0 < b) : Calls Try.prog 92 #[.int .i64 a, .int .i64 b] w fun e w' => e = .returned (.int .i64 ((S_l01Floor a b))) ∧ w = w' := by
  have hw64 := wrapRule
  have hbf : (b < 0) = False := eq_false (by omega)
  have hbz : (b = 0) = False := eq_false (by omega)
  go_enter Try.func92, Try.ntmps92
  go_wp2
  all_goals go_ret
  all_goals refine ⟨?_, rfl⟩
  all_goals first | (simp [S_l01Floor, *]; done) | (simp [S_l01Floor, *]; omega) | (simp [S_l01Floor, *]; simp (disch := omega) only [if_pos, if_neg]; done) | (simp_all [S_l01Floor]; done) | (simp_all [S_l01Floor]; omega)

end Go.Proofs.Ytecnjkhncdjebaa
