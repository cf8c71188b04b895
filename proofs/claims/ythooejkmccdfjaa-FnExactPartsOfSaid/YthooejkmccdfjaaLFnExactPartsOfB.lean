/- A part of the walk of the law FnExactPartsOf. -/
import Derived.Test.YthooejkmccdfjaaRows
import Derived.Test.YthooejkmccdfjaaLaw
import Derived.Test.YthooejkmccdfjaaC1
import Derived.Test.YthooejkmccdfjaaC2
import Derived.Test.YthooejkmccdfjaaC3
import Derived.Test.YthooejkmccdfjaaC4
import Derived.Test.YthooejkmccdfjaaC5
import Derived.Test.YthooejkmccdfjaaC6
import Derived.Test.YthooejkmccdfjaaE1
import Derived.Test.YthooejkmccdfjaaE2
import Derived.Test.YthooejkmccdfjaaE3
import Derived.Test.YthooejkmccdfjaaE6
import Derived.Test.YthooejkmccdfjaaLFnExactPartsOfA
import Derived.WalkKit
import Derived.ProofKit
import Derived.OpenShut
import Derived.WalkLawsBesides
import Derived.BigQuiet
import Derived.Deep.QuietTactic
import Derived.Deep.LoopGhost
import Derived.LoopN
import Derived.Deep.RegionWith
import Derived.Deep.CutRange
import Derived.Test.YthooejkmccdfjaaOwn
namespace Go.Proofs.Ythooejkmccdfjaa
open Go.ChangeShapes Go.WideShapes Go.ChangeAt Go.RowKit
set_option linter.unusedVariables false
set_option linter.unusedSimpArgs false
set_option maxHeartbeats 60000000 in
theorem walk2_FnExactPartsOf (aW_Azimuth : Int) (aW_Slope : Int) (aV_X_Low : Int) (aV_X_High : Int) (aV_Y_Low : Int) (aV_Y_High : Int) (aV_Z_Low : Int) (aV_Z_High : Int) (w : World) (h0 : S_IsWall (⟨aW_Azimuth, aW_Slope⟩ : Wall) = true) (h1 : S_IsVector (⟨⟨aV_X_Low, aV_X_High⟩, ⟨aV_Y_Low, aV_Y_High⟩, ⟨aV_Z_Low, aV_Z_High⟩⟩ : Vector) = true) : Calls Try.prog 7 #[.agg #[.int .i64 aW_Azimuth, .int .i64 aW_Slope], .agg #[.int .i64 aV_X_Low, .int .i64 aV_X_High, .int .i64 aV_Y_Low, .int .i64 aV_Y_High, .int .i64 aV_Z_Low, .int .i64 aV_Z_High]] w fun e w' => e = .returned (.bool true) ∧ Q w w' := by
  have hset := setRule
  have hall := allocRule
  have halm := allocMark
  have hw64 := wrapRule
  have hto_L_toWall := L_toWall_rule
  have hto_L_toVector := L_toVector_rule
  go_enter Try.func7, Try.ntmps7
  go_upto_region 1 with (first | fail)
  go_cut [5, 6] from 13 (fun a b wx => ∃ g, a = .slice (some ⟨g, 0, none⟩) 3 3 ∧ b = .int .i64 0 ∧ Q ((w.alloc (.cells #[.int .i64 aW_Azimuth, .int .i64 aW_Slope] 23)).alloc (.cells #[.int .i64 aV_X_Low, .int .i64 aV_X_High, .int .i64 aV_Y_Low, .int .i64 aV_Y_High, .int .i64 aV_Z_Low, .int .i64 aV_Z_High] 27)) wx ∧ (((w.alloc (.cells #[.int .i64 aW_Azimuth, .int .i64 aW_Slope] 23)).alloc (.cells #[.int .i64 aV_X_Low, .int .i64 aV_X_High, .int .i64 aV_Y_Low, .int .i64 aV_Y_High, .int .i64 aV_Z_Low, .int .i64 aV_Z_High] 27))).heap.size ≤ g ∧ Row wx g [.int .i64 ((S_l06Dot (S_l06To (wrap64 (aW_Azimuth - 324000)) 0) (⟨⟨aV_X_Low, aV_X_High⟩, ⟨aV_Y_Low, aV_Y_High⟩, ⟨aV_Z_Low, aV_Z_High⟩⟩ : Vector))).Low, .int .i64 ((S_l06Dot (S_l06To (wrap64 (aW_Azimuth - 324000)) 0) (⟨⟨aV_X_Low, aV_X_High⟩, ⟨aV_Y_Low, aV_Y_High⟩, ⟨aV_Z_Low, aV_Z_High⟩⟩ : Vector))).High, .int .i64 ((S_l06Dot (S_l06To aW_Azimuth (wrap64 (aW_Slope + 324000))) (⟨⟨aV_X_Low, aV_X_High⟩, ⟨aV_Y_Low, aV_Y_High⟩, ⟨aV_Z_Low, aV_Z_High⟩⟩ : Vector))).Low, .int .i64 ((S_l06Dot (S_l06To aW_Azimuth (wrap64 (aW_Slope + 324000))) (⟨⟨aV_X_Low, aV_X_High⟩, ⟨aV_Y_Low, aV_Y_High⟩, ⟨aV_Z_Low, aV_Z_High⟩⟩ : Vector))).High, .int .i64 ((S_l06Dot (S_l06To aW_Azimuth aW_Slope) (⟨⟨aV_X_Low, aV_X_High⟩, ⟨aV_Y_Low, aV_Y_High⟩, ⟨aV_Z_Low, aV_Z_High⟩⟩ : Vector))).Low, .int .i64 ((S_l06Dot (S_l06To aW_Azimuth aW_Slope) (⟨⟨aV_X_Low, aV_X_High⟩, ⟨aV_Y_Low, aV_Y_High⟩, ⟨aV_Z_Low, aV_Z_High⟩⟩ : Vector))).High])
  case first =>
    go_region_with (first | (go_at_call 16; refine (c_L_toWall _ _ _ ).mono ?_; rintro e w1 ⟨rfl, hq⟩; obtain ⟨hc, hf⟩ := hq.rules; have hs := hq.le; (try simp only [markAll_size] at hs); (try simp at hs); (try have rS := rS.call hq); (try have rI := rI.call hq); (try have rM := rM.call hq); (try have rH := rH.call hq)) | (go_at_call 17; refine (c_L_toVector _ _ _ _ _ _ _ ).mono ?_; rintro e w1 ⟨rfl, hq⟩; obtain ⟨hc, hf⟩ := hq.rules; have hs := hq.le; (try simp only [markAll_size] at hs); (try simp at hs); (try have rS := rS.call hq); (try have rI := rI.call hq); (try have rM := rM.call hq); (try have rH := rH.call hq)) | (go_at_call 33; refine (c_S_PartsOf_ok _ _ _ _ _ _ _ _ _ h0 h1).mono ?_; rintro e w1 ⟨gS, rfl, hq, hgS, hrow⟩; obtain ⟨hc, hf⟩ := hq.rules; have hs := hq.le; (try simp only [markAll_size] at hs); (try simp at hs); (try have rS := rS.call hq); (try have rI := rI.call hq); (try have rM := rM.call hq); (try have rH := rH.call hq); have rS := hrow; have hltS := hrow.1))
    all_goals (try (go_wp2_with fail))
    all_goals go_meet
    all_goals exact ⟨gS, rfl, rfl, (by repeat (first | (with_reducible exact Q.refl _) | (with_reducible assumption) | (with_reducible refine Q.setCell ?_ (by dsimp only; omega) _) | (with_reducible refine Q.alloc ?_ _) | (with_reducible refine Q.drew ?_) | (with_reducible refine Q.mark ?_ (by first | omega | (simp; omega)) _ _) | (with_reducible refine Q.call ?_ (by with_reducible assumption)))), (by first | omega | (simp; omega)), (by first | (with_reducible exact rS) | exact Row.call rS (by repeat (first | (with_reducible exact Q.refl _) | (with_reducible assumption) | (with_reducible refine Q.setCell ?_ (by dsimp only; omega) _) | (with_reducible refine Q.alloc ?_ _) | (with_reducible refine Q.drew ?_) | (with_reducible refine Q.mark ?_ (by first | omega | (simp; omega)) _ _) | (with_reducible refine Q.call ?_ (by with_reducible assumption)))))⟩
  case rest =>
    (repeat clear hc)
    (repeat clear hf)
    (repeat clear hq)
    (repeat clear hrow)
    (repeat clear rS)
    (repeat clear rI)
    (repeat clear rM)
    obtain ⟨gS, rfl, rfl, hq, hgS, rS⟩ := hcut
    obtain ⟨hc, hf⟩ := hq.rules
    have hs := hq.le
    (try simp at hs)
    have hltS := rS.1
    (try simp at hgS)
    have hgS2 : w.heap.size ≤ gS := by omega
    go_upto_region 2 with (first | fail)
    go_cut [7, 8] from 13 (fun a b wx => ∃ g cap, a = .slice (some ⟨g, 0, none⟩) 3 cap ∧ b = .int .i64 0 ∧ Q ((w.alloc (.cells #[.int .i64 aW_Azimuth, .int .i64 aW_Slope] 23)).alloc (.cells #[.int .i64 aV_X_Low, .int .i64 aV_X_High, .int .i64 aV_Y_Low, .int .i64 aV_Y_High, .int .i64 aV_Z_Low, .int .i64 aV_Z_High] 27)) wx ∧ (((w.alloc (.cells #[.int .i64 aW_Azimuth, .int .i64 aW_Slope] 23)).alloc (.cells #[.int .i64 aV_X_Low, .int .i64 aV_X_High, .int .i64 aV_Y_Low, .int .i64 aV_Y_High, .int .i64 aV_Z_Low, .int .i64 aV_Z_High] 27))).heap.size ≤ g ∧ gS < g ∧ Row wx gS [.int .i64 ((S_l06Dot (S_l06To (wrap64 (aW_Azimuth - 324000)) 0) (⟨⟨aV_X_Low, aV_X_High⟩, ⟨aV_Y_Low, aV_Y_High⟩, ⟨aV_Z_Low, aV_Z_High⟩⟩ : Vector))).Low, .int .i64 ((S_l06Dot (S_l06To (wrap64 (aW_Azimuth - 324000)) 0) (⟨⟨aV_X_Low, aV_X_High⟩, ⟨aV_Y_Low, aV_Y_High⟩, ⟨aV_Z_Low, aV_Z_High⟩⟩ : Vector))).High, .int .i64 ((S_l06Dot (S_l06To aW_Azimuth (wrap64 (aW_Slope + 324000))) (⟨⟨aV_X_Low, aV_X_High⟩, ⟨aV_Y_Low, aV_Y_High⟩, ⟨aV_Z_Low, aV_Z_High⟩⟩ : Vector))).Low, .int .i64 ((S_l06Dot (S_l06To aW_Azimuth (wrap64 (aW_Slope + 324000))) (⟨⟨aV_X_Low, aV_X_High⟩, ⟨aV_Y_Low, aV_Y_High⟩, ⟨aV_Z_Low, aV_Z_High⟩⟩ : Vector))).High, .int .i64 ((S_l06Dot (S_l06To aW_Azimuth aW_Slope) (⟨⟨aV_X_Low, aV_X_High⟩, ⟨aV_Y_Low, aV_Y_High⟩, ⟨aV_Z_Low, aV_Z_High⟩⟩ : Vector))).Low, .int .i64 ((S_l06Dot (S_l06To aW_Azimuth aW_Slope) (⟨⟨aV_X_Low, aV_X_High⟩, ⟨aV_Y_Low, aV_Y_High⟩, ⟨aV_Z_Low, aV_Z_High⟩⟩ : Vector))).High] ∧ Row wx g [.int .i64 ((S_l06Dot (S_l06To (wrap64 (aW_Azimuth - 324000)) 0) (⟨⟨aV_X_Low, aV_X_High⟩, ⟨aV_Y_Low, aV_Y_High⟩, ⟨aV_Z_Low, aV_Z_High⟩⟩ : Vector))).Low, .int .i64 ((S_l06Dot (S_l06To (wrap64 (aW_Azimuth - 324000)) 0) (⟨⟨aV_X_Low, aV_X_High⟩, ⟨aV_Y_Low, aV_Y_High⟩, ⟨aV_Z_Low, aV_Z_High⟩⟩ : Vector))).High, .int .i64 ((S_l06Dot (S_l06To aW_Azimuth (wrap64 (aW_Slope + 324000))) (⟨⟨aV_X_Low, aV_X_High⟩, ⟨aV_Y_Low, aV_Y_High⟩, ⟨aV_Z_Low, aV_Z_High⟩⟩ : Vector))).Low, .int .i64 ((S_l06Dot (S_l06To aW_Azimuth (wrap64 (aW_Slope + 324000))) (⟨⟨aV_X_Low, aV_X_High⟩, ⟨aV_Y_Low, aV_Y_High⟩, ⟨aV_Z_Low, aV_Z_High⟩⟩ : Vector))).High, .int .i64 ((S_l06Dot (S_l06To aW_Azimuth aW_Slope) (⟨⟨aV_X_Low, aV_X_High⟩, ⟨aV_Y_Low, aV_Y_High⟩, ⟨aV_Z_Low, aV_Z_High⟩⟩ : Vector))).Low, .int .i64 ((S_l06Dot (S_l06To aW_Azimuth aW_Slope) (⟨⟨aV_X_Low, aV_X_High⟩, ⟨aV_Y_Low, aV_Y_High⟩, ⟨aV_Z_Low, aV_Z_High⟩⟩ : Vector))).High])
    case first =>
      go_region_with (first | (go_at_call 16; refine (c_L_toWall _ _ _ ).mono ?_; rintro e w1 ⟨rfl, hq⟩; obtain ⟨hc, hf⟩ := hq.rules; have hs := hq.le; (try simp only [markAll_size] at hs); (try simp at hs); (try have rS := rS.call hq); (try have rI := rI.call hq); (try have rM := rM.call hq); (try have rH := rH.call hq)) | (go_at_call 17; refine (c_L_toVector _ _ _ _ _ _ _ ).mono ?_; rintro e w1 ⟨rfl, hq⟩; obtain ⟨hc, hf⟩ := hq.rules; have hs := hq.le; (try simp only [markAll_size] at hs); (try simp at hs); (try have rS := rS.call hq); (try have rI := rI.call hq); (try have rM := rM.call hq); (try have rH := rH.call hq)) | (go_at_call 34; refine (c_I_PartsOf_as _ _ _ _ _ _ _ _ _ h0 h1).mono ?_; rintro e w1 ⟨gI, capI, rfl, hq, hgI, hrow⟩; obtain ⟨hc, hf⟩ := hq.rules; have hs := hq.le; (try simp only [markAll_size] at hs); (try simp at hs); (try have rS := rS.call hq); (try have rI := rI.call hq); (try have rM := rM.call hq); (try have rH := rH.call hq); have rI := hrow; have hltI := hrow.1; have hne : gS ≠ gI := by omega))
      all_goals (try (go_wp2_with fail))
      all_goals go_meet
      all_goals exact ⟨gI, capI, rfl, rfl, (by repeat (first | (with_reducible exact Q.refl _) | (with_reducible assumption) | (with_reducible refine Q.setCell ?_ (by dsimp only; omega) _) | (with_reducible refine Q.alloc ?_ _) | (with_reducible refine Q.drew ?_) | (with_reducible refine Q.mark ?_ (by first | omega | (simp; omega)) _ _) | (with_reducible refine Q.call ?_ (by with_reducible assumption)))), (by first | omega | (simp; omega)), (by omega), (by first | (with_reducible exact rS) | exact Row.call rS (by repeat (first | (with_reducible exact Q.refl _) | (with_reducible assumption) | (with_reducible refine Q.setCell ?_ (by dsimp only; omega) _) | (with_reducible refine Q.alloc ?_ _) | (with_reducible refine Q.drew ?_) | (with_reducible refine Q.mark ?_ (by first | omega | (simp; omega)) _ _) | (with_reducible refine Q.call ?_ (by with_reducible assumption))))), (by first | (with_reducible exact rI) | exact Row.call rI (by repeat (first | (with_reducible exact Q.refl _) | (with_reducible assumption) | (with_reducible refine Q.setCell ?_ (by dsimp only; omega) _) | (with_reducible refine Q.alloc ?_ _) | (with_reducible refine Q.drew ?_) | (with_reducible refine Q.mark ?_ (by first | omega | (simp; omega)) _ _) | (with_reducible refine Q.call ?_ (by with_reducible assumption)))))⟩
    case rest =>
      (repeat clear hc)
      (repeat clear hf)
      (repeat clear hq)
      (repeat clear hrow)
      (repeat clear rS)
      (repeat clear rI)
      (repeat clear rM)
      obtain ⟨gI, capI, rfl, rfl, hq, hgI, hlt2, rS, rI⟩ := hcut
      obtain ⟨hc, hf⟩ := hq.rules
      have hs := hq.le
      (try simp at hs)
      have hltI := rI.1
      have hne : gS ≠ gI := by omega
      (try simp at hgI)
      have hgI2 : w.heap.size ≤ gI := by omega
      go_upto_region 13 with (first | (go_at_call 21; refine (c_L_eqIntervalS3 _ _ _ _ _ _ _ _ _ _ _ rH rS).mono ?_; rintro e w1 ⟨rfl, hq⟩; obtain ⟨hc, hf⟩ := hq.rules; have hs := hq.le; (try simp only [markAll_size] at hs); (try simp at hs); (try have rS := rS.call hq); (try have rI := rI.call hq); (try have rM := rM.call hq); (try have rH := rH.call hq)) | (go_at_call 21; refine (c_L_eqIntervalS3 _ _ _ _ _ _ _ _ _ _ _ rI rS).mono ?_; rintro e w1 ⟨rfl, hq⟩; obtain ⟨hc, hf⟩ := hq.rules; have hs := hq.le; (try simp only [markAll_size] at hs); (try simp at hs); (try have rS := rS.call hq); (try have rI := rI.call hq); (try have rM := rM.call hq); (try have rH := rH.call hq)) | (go_at_call 22; refine (c_L_markIntervalS3 _ _ _ _ _ _ _ _ _ rI).mono ?_; rintro e w1 ⟨rfl, rfl⟩; have hmc := markAll_cell rI 1 6 (by simp); have hmf := rI.mfrozen 1 6; have hms := rI.msize 1 6; have rS := Row.mark_other rI rS hne 1; have rM := Row.mark rI 1; (repeat clear rI); simp only [List.length_cons, List.length_nil, Nat.reduceAdd] at rS rM) | (go_at_call 23; refine (c_L_heldIntervalS3 _ _ _ rM).mono ?_; rintro e w1 ⟨rfl, hq⟩; obtain ⟨hc, hf⟩ := hq.rules; have hs := hq.le; (try simp only [markAll_size] at hs); (try simp at hs); (try have rS := rS.call hq); (try have rI := rI.call hq); (try have rM := rM.call hq); (try have rH := rH.call hq)))
      have hqW : Q ((w.alloc (.cells #[.int .i64 aW_Azimuth, .int .i64 aW_Slope] 23)).alloc (.cells #[.int .i64 aV_X_Low, .int .i64 aV_X_High, .int .i64 aV_Y_Low, .int .i64 aV_Y_High, .int .i64 aV_Z_Low, .int .i64 aV_Z_High] 27)) w1 := (by repeat (first | (with_reducible exact Q.refl _) | (with_reducible assumption) | (with_reducible refine Q.setCell ?_ (by dsimp only; omega) _) | (with_reducible refine Q.alloc ?_ _) | (with_reducible refine Q.drew ?_) | (with_reducible refine Q.mark ?_ (by first | omega | (simp; omega)) _ _) | (with_reducible refine Q.call ?_ (by with_reducible assumption))))
      (repeat clear hc)
      (repeat clear hf)
      (repeat clear hmc)
      (repeat clear hmf)
      (repeat clear hms)
      obtain ⟨hc, hf⟩ := hqW.rules
      have hs9 := hqW.le
      (try simp at hs9)
      go_cut [11, 12] from 13 (fun a b wx => ∃ g cap, a = .slice (some ⟨g, 0, none⟩) 3 cap ∧ b = .int .i64 0 ∧ Q ((w.alloc (.cells #[.int .i64 aW_Azimuth, .int .i64 aW_Slope] 23)).alloc (.cells #[.int .i64 aV_X_Low, .int .i64 aV_X_High, .int .i64 aV_Y_Low, .int .i64 aV_Y_High, .int .i64 aV_Z_Low, .int .i64 aV_Z_High] 27)) wx ∧ (((w.alloc (.cells #[.int .i64 aW_Azimuth, .int .i64 aW_Slope] 23)).alloc (.cells #[.int .i64 aV_X_Low, .int .i64 aV_X_High, .int .i64 aV_Y_Low, .int .i64 aV_Y_High, .int .i64 aV_Z_Low, .int .i64 aV_Z_High] 27))).heap.size ≤ g ∧ Row wx gS [.int .i64 ((S_l06Dot (S_l06To (wrap64 (aW_Azimuth - 324000)) 0) (⟨⟨aV_X_Low, aV_X_High⟩, ⟨aV_Y_Low, aV_Y_High⟩, ⟨aV_Z_Low, aV_Z_High⟩⟩ : Vector))).Low, .int .i64 ((S_l06Dot (S_l06To (wrap64 (aW_Azimuth - 324000)) 0) (⟨⟨aV_X_Low, aV_X_High⟩, ⟨aV_Y_Low, aV_Y_High⟩, ⟨aV_Z_Low, aV_Z_High⟩⟩ : Vector))).High, .int .i64 ((S_l06Dot (S_l06To aW_Azimuth (wrap64 (aW_Slope + 324000))) (⟨⟨aV_X_Low, aV_X_High⟩, ⟨aV_Y_Low, aV_Y_High⟩, ⟨aV_Z_Low, aV_Z_High⟩⟩ : Vector))).Low, .int .i64 ((S_l06Dot (S_l06To aW_Azimuth (wrap64 (aW_Slope + 324000))) (⟨⟨aV_X_Low, aV_X_High⟩, ⟨aV_Y_Low, aV_Y_High⟩, ⟨aV_Z_Low, aV_Z_High⟩⟩ : Vector))).High, .int .i64 ((S_l06Dot (S_l06To aW_Azimuth aW_Slope) (⟨⟨aV_X_Low, aV_X_High⟩, ⟨aV_Y_Low, aV_Y_High⟩, ⟨aV_Z_Low, aV_Z_High⟩⟩ : Vector))).Low, .int .i64 ((S_l06Dot (S_l06To aW_Azimuth aW_Slope) (⟨⟨aV_X_Low, aV_X_High⟩, ⟨aV_Y_Low, aV_Y_High⟩, ⟨aV_Z_Low, aV_Z_High⟩⟩ : Vector))).High] ∧ Row wx gI (marks 1 6) ∧ Row wx g [.int .i64 ((S_l06Dot (S_l06To (wrap64 (aW_Azimuth - 324000)) 0) (⟨⟨aV_X_Low, aV_X_High⟩, ⟨aV_Y_Low, aV_Y_High⟩, ⟨aV_Z_Low, aV_Z_High⟩⟩ : Vector))).Low, .int .i64 ((S_l06Dot (S_l06To (wrap64 (aW_Azimuth - 324000)) 0) (⟨⟨aV_X_Low, aV_X_High⟩, ⟨aV_Y_Low, aV_Y_High⟩, ⟨aV_Z_Low, aV_Z_High⟩⟩ : Vector))).High, .int .i64 ((S_l06Dot (S_l06To aW_Azimuth (wrap64 (aW_Slope + 324000))) (⟨⟨aV_X_Low, aV_X_High⟩, ⟨aV_Y_Low, aV_Y_High⟩, ⟨aV_Z_Low, aV_Z_High⟩⟩ : Vector))).Low, .int .i64 ((S_l06Dot (S_l06To aW_Azimuth (wrap64 (aW_Slope + 324000))) (⟨⟨aV_X_Low, aV_X_High⟩, ⟨aV_Y_Low, aV_Y_High⟩, ⟨aV_Z_Low, aV_Z_High⟩⟩ : Vector))).High, .int .i64 ((S_l06Dot (S_l06To aW_Azimuth aW_Slope) (⟨⟨aV_X_Low, aV_X_High⟩, ⟨aV_Y_Low, aV_Y_High⟩, ⟨aV_Z_Low, aV_Z_High⟩⟩ : Vector))).Low, .int .i64 ((S_l06Dot (S_l06To aW_Azimuth aW_Slope) (⟨⟨aV_X_Low, aV_X_High⟩, ⟨aV_Y_Low, aV_Y_High⟩, ⟨aV_Z_Low, aV_Z_High⟩⟩ : Vector))).High])
      case first =>
        go_region_with (first | (go_at_call 16; refine (c_L_toWall _ _ _ ).mono ?_; rintro e w1 ⟨rfl, hq⟩; obtain ⟨hc, hf⟩ := hq.rules; have hs := hq.le; (try simp only [markAll_size] at hs); (try simp at hs); (try have rS := rS.call hq); (try have rI := rI.call hq); (try have rM := rM.call hq); (try have rH := rH.call hq)) | (go_at_call 17; refine (c_L_toVector _ _ _ _ _ _ _ ).mono ?_; rintro e w1 ⟨rfl, hq⟩; obtain ⟨hc, hf⟩ := hq.rules; have hs := hq.le; (try simp only [markAll_size] at hs); (try simp at hs); (try have rS := rS.call hq); (try have rI := rI.call hq); (try have rM := rM.call hq); (try have rH := rH.call hq)) | (go_at_call 34; have hdone := rM; refine (c_I_PartsOf_as _ _ _ _ _ _ _ _ _ h0 h1).mono ?_; rintro e w1 ⟨gH, capH, rfl, hq, hgH, hrow⟩; obtain ⟨hc, hf⟩ := hq.rules; have hs := hq.le; (try simp only [markAll_size] at hs); (try simp at hs); (try have rS := rS.call hq); (try have rI := rI.call hq); (try have rM := rM.call hq); (try have rH := rH.call hq); have rH := hrow; have hltH := hrow.1))
        all_goals (try (go_wp2_with fail))
        all_goals go_meet
        all_goals exact ⟨gH, capH, rfl, rfl, (by repeat (first | (with_reducible exact Q.refl _) | (with_reducible assumption) | (with_reducible refine Q.setCell ?_ (by dsimp only; omega) _) | (with_reducible refine Q.alloc ?_ _) | (with_reducible refine Q.drew ?_) | (with_reducible refine Q.mark ?_ (by first | omega | (simp; omega)) _ _) | (with_reducible refine Q.call ?_ (by with_reducible assumption)))), (by first | omega | (simp; omega)), (by first | (with_reducible exact rS) | exact Row.call rS (by repeat (first | (with_reducible exact Q.refl _) | (with_reducible assumption) | (with_reducible refine Q.setCell ?_ (by dsimp only; omega) _) | (with_reducible refine Q.alloc ?_ _) | (with_reducible refine Q.drew ?_) | (with_reducible refine Q.mark ?_ (by first | omega | (simp; omega)) _ _) | (with_reducible refine Q.call ?_ (by with_reducible assumption))))), (by first | (with_reducible exact rM) | exact Row.call rM (by repeat (first | (with_reducible exact Q.refl _) | (with_reducible assumption) | (with_reducible refine Q.setCell ?_ (by dsimp only; omega) _) | (with_reducible refine Q.alloc ?_ _) | (with_reducible refine Q.drew ?_) | (with_reducible refine Q.mark ?_ (by first | omega | (simp; omega)) _ _) | (with_reducible refine Q.call ?_ (by with_reducible assumption))))), (by first | (with_reducible exact rH) | exact Row.call rH (by repeat (first | (with_reducible exact Q.refl _) | (with_reducible assumption) | (with_reducible refine Q.setCell ?_ (by dsimp only; omega) _) | (with_reducible refine Q.alloc ?_ _) | (with_reducible refine Q.drew ?_) | (with_reducible refine Q.mark ?_ (by first | omega | (simp; omega)) _ _) | (with_reducible refine Q.call ?_ (by with_reducible assumption)))))⟩
      case rest =>
        (repeat clear hc)
        (repeat clear hf)
        (repeat clear hq)
        (repeat clear hrow)
        (repeat clear rS)
        (repeat clear rI)
        (repeat clear rM)
        obtain ⟨gH, capH, rfl, rfl, hq, hgH, rS, rM, rH⟩ := hcut
        obtain ⟨hc, hf⟩ := hq.rules
        have hs := hq.le
        (try simp at hs)
        have hltH := rH.1
        (try simp at hgH)
        have hgH2 : w.heap.size ≤ gH := by omega
        go_wp2_with (first | (go_at_call 21; refine (c_L_eqIntervalS3 _ _ _ _ _ _ _ _ _ _ _ rH rS).mono ?_; rintro e w1 ⟨rfl, hq⟩; obtain ⟨hc, hf⟩ := hq.rules; have hs := hq.le; (try simp only [markAll_size] at hs); (try simp at hs); (try have rS := rS.call hq); (try have rI := rI.call hq); (try have rM := rM.call hq); (try have rH := rH.call hq)) | (go_at_call 21; refine (c_L_eqIntervalS3 _ _ _ _ _ _ _ _ _ _ _ rI rS).mono ?_; rintro e w1 ⟨rfl, hq⟩; obtain ⟨hc, hf⟩ := hq.rules; have hs := hq.le; (try simp only [markAll_size] at hs); (try simp at hs); (try have rS := rS.call hq); (try have rI := rI.call hq); (try have rM := rM.call hq); (try have rH := rH.call hq)) | (go_at_call 22; refine (c_L_markIntervalS3 _ _ _ _ _ _ _ _ _ rI).mono ?_; rintro e w1 ⟨rfl, rfl⟩; have hmc := markAll_cell rI 1 6 (by simp); have hmf := rI.mfrozen 1 6; have hms := rI.msize 1 6; have rS := Row.mark_other rI rS hne 1; have rM := Row.mark rI 1; (repeat clear rI); simp only [List.length_cons, List.length_nil, Nat.reduceAdd] at rS rM) | (go_at_call 23; refine (c_L_heldIntervalS3 _ _ _ rM).mono ?_; rintro e w1 ⟨rfl, hq⟩; obtain ⟨hc, hf⟩ := hq.rules; have hs := hq.le; (try simp only [markAll_size] at hs); (try simp at hs); (try have rS := rS.call hq); (try have rI := rI.call hq); (try have rM := rM.call hq); (try have rH := rH.call hq)))
        all_goals go_ret
        all_goals refine ⟨?_, (by repeat (first | (with_reducible exact Q.refl _) | (with_reducible assumption) | (with_reducible refine Q.setCell ?_ (by dsimp only; omega) _) | (with_reducible refine Q.alloc ?_ _) | (with_reducible refine Q.drew ?_) | (with_reducible refine Q.mark ?_ (by first | omega | (simp; omega)) _ _) | (with_reducible refine Q.call ?_ (by with_reducible assumption))))⟩
        all_goals first | rfl | (simp [*]; done)
end Go.Proofs.Ythooejkmccdfjaa
