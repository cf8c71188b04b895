/- A part of the walk of the law FnExactPartsOf. -/
import Derived.Test.YthooejkmccdfjaaRows
import Derived.Test.YthooejkmccdfjaaLaw
import Derived.Test.YthooejkmccdfjaaC1
import Derived.Test.YthooejkmccdfjaaC2
import Derived.Test.YthooejkmccdfjaaC3
import Derived.Test.YthooejkmccdfjaaC4
import Derived.Test.YthooejkmccdfjaaC5
import Derived.Test.YthooejkmccdfjaaC6
import Derived.Test.YthooejkmccdfjaaE1
import Derived.Test.YthooejkmccdfjaaE2
import Derived.Test.YthooejkmccdfjaaE3
import Derived.Test.YthooejkmccdfjaaE6
import Derived.Test.YthooejkmccdfjaaLFnExactPartsOfA
import Derived.WalkKit
import Derived.ProofKit
import Derived.OpenShut
import Derived.WalkLawsBesides
import Derived.BigQuiet
import Derived.Deep.QuietTactic
import Derived.Deep.LoopGhost
import Derived.LoopN
import Derived.Deep.RegionWith
import Derived.Deep.CutRange
import Derived.Test.YthooejkmccdfjaaOwn
namespace Go.Proofs.Ythooejkmccdfjaa
open Go.ChangeShapes Go.WideShapes Go.ChangeAt Go.RowKit
set_option linter.unusedVariables false
set_option linter.unusedSimpArgs false
set_option maxHeartbeats 60000000 in
theorem walk1_FnExactPartsOf (aW_Azimuth : Int) (aW_Slope : Int) (aV_X_Low : Int) (aV_X_High : Int) (aV_Y_Low : Int) (aV_Y_High : Int) (aV_Z_Low : Int) (aV_Z_High : Int) (w : World) (h0 : S_IsWall (⟨aW_Azimuth, aW_Slope⟩ : Wall) = true) (h1 : S_IsVector (⟨⟨aV_X_Low, aV_X_High⟩, ⟨aV_Y_Low, aV_Y_High⟩, ⟨aV_Z_Low, aV_Z_High⟩⟩ : Vector) = false) : Calls Try.prog 7 #[.agg #[.int .i64 aW_Azimuth, .int .i64 aW_Slope], .agg #[.int .i64 aV_X_Low, .int .i64 aV_X_High, .int .i64 aV_Y_Low, .int .i64 aV_Y_High, .int .i64 aV_Z_Low, .int .i64 aV_Z_High]] w fun e w' => e = .returned (.bool true) ∧ Q w w' := by
  have hset := setRule
  have hall := allocRule
  have halm := allocMark
  have hw64 := wrapRule
  have hto_L_toWall := L_toWall_rule
  have hto_L_toVector := L_toVector_rule
  go_enter Try.func7, Try.ntmps7
  go_upto_region 1 with (first | fail)
  go_cut [5, 6] from 13 (fun a b wx => a = .slice none 0 0 ∧ b = .int .i64 1 ∧ Q ((w.alloc (.cells #[.int .i64 aW_Azimuth, .int .i64 aW_Slope] 23)).alloc (.cells #[.int .i64 aV_X_Low, .int .i64 aV_X_High, .int .i64 aV_Y_Low, .int .i64 aV_Y_High, .int .i64 aV_Z_Low, .int .i64 aV_Z_High] 27)) wx)
  case first =>
    go_region_with (first | (go_at_call 16; refine (c_L_toWall _ _ _ ).mono ?_; rintro e w1 ⟨rfl, hq⟩; obtain ⟨hc, hf⟩ := hq.rules; have hs := hq.le; (try simp only [markAll_size] at hs); (try simp at hs); (try have rS := rS.call hq); (try have rI := rI.call hq); (try have rM := rM.call hq); (try have rH := rH.call hq)) | (go_at_call 17; refine (c_L_toVector _ _ _ _ _ _ _ ).mono ?_; rintro e w1 ⟨rfl, hq⟩; obtain ⟨hc, hf⟩ := hq.rules; have hs := hq.le; (try simp only [markAll_size] at hs); (try simp at hs); (try have rS := rS.call hq); (try have rI := rI.call hq); (try have rM := rM.call hq); (try have rH := rH.call hq)) | (go_at_call 33; refine (c_S_PartsOf_bad1 _ _ _ _ _ _ _ _ _ h0 h1).mono ?_; rintro e w1 ⟨rfl, hq⟩; obtain ⟨hc, hf⟩ := hq.rules; have hs := hq.le; (try simp only [markAll_size] at hs); (try simp at hs); (try have rS := rS.call hq); (try have rI := rI.call hq); (try have rM := rM.call hq); (try have rH := rH.call hq)))
    all_goals (try (go_wp2_with fail))
    all_goals go_meet
    all_goals exact ⟨rfl, rfl, (by repeat (first | (with_reducible exact Q.refl _) | (with_reducible assumption) | (with_reducible refine Q.setCell ?_ (by dsimp only; omega) _) | (with_reducible refine Q.alloc ?_ _) | (with_reducible refine Q.drew ?_) | (with_reducible refine Q.mark ?_ (by first | omega | (simp; omega)) _ _) | (with_reducible refine Q.call ?_ (by with_reducible assumption))))⟩
  case rest =>
    (repeat clear hc)
    (repeat clear hf)
    (repeat clear hq)
    (repeat clear hrow)
    obtain ⟨rfl, rfl, hq⟩ := hcut
    obtain ⟨hc, hf⟩ := hq.rules
    have hs := hq.le
    (try simp at hs)
    go_upto_region 2 with (first | fail)
    go_cut [7, 8] from 13 (fun a b wx => a = .slice none 0 0 ∧ b = .int .i64 1 ∧ Q ((w.alloc (.cells #[.int .i64 aW_Azimuth, .int .i64 aW_Slope] 23)).alloc (.cells #[.int .i64 aV_X_Low, .int .i64 aV_X_High, .int .i64 aV_Y_Low, .int .i64 aV_Y_High, .int .i64 aV_Z_Low, .int .i64 aV_Z_High] 27)) wx)
    case first =>
      go_region_with (first | (go_at_call 16; refine (c_L_toWall _ _ _ ).mono ?_; rintro e w1 ⟨rfl, hq⟩; obtain ⟨hc, hf⟩ := hq.rules; have hs := hq.le; (try simp only [markAll_size] at hs); (try simp at hs); (try have rS := rS.call hq); (try have rI := rI.call hq); (try have rM := rM.call hq); (try have rH := rH.call hq)) | (go_at_call 17; refine (c_L_toVector _ _ _ _ _ _ _ ).mono ?_; rintro e w1 ⟨rfl, hq⟩; obtain ⟨hc, hf⟩ := hq.rules; have hs := hq.le; (try simp only [markAll_size] at hs); (try simp at hs); (try have rS := rS.call hq); (try have rI := rI.call hq); (try have rM := rM.call hq); (try have rH := rH.call hq)) | (go_at_call 34; refine (c_I_PartsOf_bad1 _ _ _ _ _ _ _ _ _ ((eq_IsWall _).trans h0) ((eq_IsVector _).trans h1)).mono ?_; rintro e w1 ⟨rfl, hq⟩; obtain ⟨hc, hf⟩ := hq.rules; have hs := hq.le; (try simp only [markAll_size] at hs); (try simp at hs); (try have rS := rS.call hq); (try have rI := rI.call hq); (try have rM := rM.call hq); (try have rH := rH.call hq)))
      all_goals (try (go_wp2_with fail))
      all_goals go_meet
      all_goals exact ⟨rfl, rfl, (by repeat (first | (with_reducible exact Q.refl _) | (with_reducible assumption) | (with_reducible refine Q.setCell ?_ (by dsimp only; omega) _) | (with_reducible refine Q.alloc ?_ _) | (with_reducible refine Q.drew ?_) | (with_reducible refine Q.mark ?_ (by first | omega | (simp; omega)) _ _) | (with_reducible refine Q.call ?_ (by with_reducible assumption))))⟩
    case rest =>
      (repeat clear hc)
      (repeat clear hf)
      (repeat clear hq)
      (repeat clear hrow)
      obtain ⟨rfl, rfl, hq⟩ := hcut
      obtain ⟨hc, hf⟩ := hq.rules
      have hs := hq.le
      (try simp at hs)
      go_upto_region 13 with (first | (go_at_call 21; refine (c_L_eqIntervalS0 _).mono ?_; rintro e w1 ⟨rfl, hq⟩; obtain ⟨hc, hf⟩ := hq.rules; have hs := hq.le; (try simp only [markAll_size] at hs); (try simp at hs); (try have rS := rS.call hq); (try have rI := rI.call hq); (try have rM := rM.call hq); (try have rH := rH.call hq)) | (go_at_call 22; refine (c_L_markIntervalS0 _).mono ?_; rintro e w1 ⟨rfl, hq⟩; obtain ⟨hc, hf⟩ := hq.rules; have hs := hq.le; (try simp only [markAll_size] at hs); (try simp at hs); (try have rS := rS.call hq); (try have rI := rI.call hq); (try have rM := rM.call hq); (try have rH := rH.call hq)) | (go_at_call 23; refine (c_L_heldIntervalS0 _).mono ?_; rintro e w1 ⟨rfl, hq⟩; obtain ⟨hc, hf⟩ := hq.rules; have hs := hq.le; (try simp only [markAll_size] at hs); (try simp at hs); (try have rS := rS.call hq); (try have rI := rI.call hq); (try have rM := rM.call hq); (try have rH := rH.call hq)))
      go_cut [11, 12] from 13 (fun a b wx => a = .slice none 0 0 ∧ b = .int .i64 1 ∧ Q ((w.alloc (.cells #[.int .i64 aW_Azimuth, .int .i64 aW_Slope] 23)).alloc (.cells #[.int .i64 aV_X_Low, .int .i64 aV_X_High, .int .i64 aV_Y_Low, .int .i64 aV_Y_High, .int .i64 aV_Z_Low, .int .i64 aV_Z_High] 27)) wx)
      case first =>
        go_region_with (first | (go_at_call 16; refine (c_L_toWall _ _ _ ).mono ?_; rintro e w1 ⟨rfl, hq⟩; obtain ⟨hc, hf⟩ := hq.rules; have hs := hq.le; (try simp only [markAll_size] at hs); (try simp at hs); (try have rS := rS.call hq); (try have rI := rI.call hq); (try have rM := rM.call hq); (try have rH := rH.call hq)) | (go_at_call 17; refine (c_L_toVector _ _ _ _ _ _ _ ).mono ?_; rintro e w1 ⟨rfl, hq⟩; obtain ⟨hc, hf⟩ := hq.rules; have hs := hq.le; (try simp only [markAll_size] at hs); (try simp at hs); (try have rS := rS.call hq); (try have rI := rI.call hq); (try have rM := rM.call hq); (try have rH := rH.call hq)) | (go_at_call 34; refine (c_I_PartsOf_bad1 _ _ _ _ _ _ _ _ _ ((eq_IsWall _).trans h0) ((eq_IsVector _).trans h1)).mono ?_; rintro e w1 ⟨rfl, hq⟩; obtain ⟨hc, hf⟩ := hq.rules; have hs := hq.le; (try simp only [markAll_size] at hs); (try simp at hs); (try have rS := rS.call hq); (try have rI := rI.call hq); (try have rM := rM.call hq); (try have rH := rH.call hq)))
        all_goals (try (go_wp2_with fail))
        all_goals go_meet
        all_goals exact ⟨rfl, rfl, (by repeat (first | (with_reducible exact Q.refl _) | (with_reducible assumption) | (with_reducible refine Q.setCell ?_ (by dsimp only; omega) _) | (with_reducible refine Q.alloc ?_ _) | (with_reducible refine Q.drew ?_) | (with_reducible refine Q.mark ?_ (by first | omega | (simp; omega)) _ _) | (with_reducible refine Q.call ?_ (by with_reducible assumption))))⟩
      case rest =>
        (repeat clear hc)
        (repeat clear hf)
        (repeat clear hq)
        (repeat clear hrow)
        obtain ⟨rfl, rfl, hq⟩ := hcut
        obtain ⟨hc, hf⟩ := hq.rules
        have hs := hq.le
        (try simp at hs)
        go_wp2_with (first | (go_at_call 21; refine (c_L_eqIntervalS0 _).mono ?_; rintro e w1 ⟨rfl, hq⟩; obtain ⟨hc, hf⟩ := hq.rules; have hs := hq.le; (try simp only [markAll_size] at hs); (try simp at hs); (try have rS := rS.call hq); (try have rI := rI.call hq); (try have rM := rM.call hq); (try have rH := rH.call hq)) | (go_at_call 22; refine (c_L_markIntervalS0 _).mono ?_; rintro e w1 ⟨rfl, hq⟩; obtain ⟨hc, hf⟩ := hq.rules; have hs := hq.le; (try simp only [markAll_size] at hs); (try simp at hs); (try have rS := rS.call hq); (try have rI := rI.call hq); (try have rM := rM.call hq); (try have rH := rH.call hq)) | (go_at_call 23; refine (c_L_heldIntervalS0 _).mono ?_; rintro e w1 ⟨rfl, hq⟩; obtain ⟨hc, hf⟩ := hq.rules; have hs := hq.le; (try simp only [markAll_size] at hs); (try simp at hs); (try have rS := rS.call hq); (try have rI := rI.call hq); (try have rM := rM.call hq); (try have rH := rH.call hq)))
        all_goals go_ret
        all_goals refine ⟨?_, (by repeat (first | (with_reducible exact Q.refl _) | (with_reducible assumption) | (with_reducible refine Q.setCell ?_ (by dsimp only; omega) _) | (with_reducible refine Q.alloc ?_ _) | (with_reducible refine Q.drew ?_) | (with_reducible refine Q.mark ?_ (by first | omega | (simp; omega)) _ _) | (with_reducible refine Q.call ?_ (by with_reducible assumption))))⟩
        all_goals first | rfl | (simp [*]; done)
end Go.Proofs.Ythooejkmccdfjaa
