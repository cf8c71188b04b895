/- The statement Rows.FnExactIsLineSaid is proved: for every argument the law returns true and its argument reads as before. No conditions. -/
import Derived.Test.YtecnjkhncdjebaaRows
import Derived.Test.YtecnjkhncdjebaaLaw
import Derived.Test.YtecnjkhncdjebaaC1
import Derived.Test.YtecnjkhncdjebaaC2
import Derived.Test.YtecnjkhncdjebaaC3
import Derived.Test.YtecnjkhncdjebaaE1
import Derived.Test.YtecnjkhncdjebaaPts
import Derived.WalkKit
import Derived.ProofKit
import Derived.OpenShut
import Derived.WalkLawsBesides
import Derived.BigQuiet
import Derived.Deep.QuietTactic
import Derived.Deep.LoopGhost
import Derived.LoopN
import Derived.Deep.Slices
import Derived.Deep.SlicePairs
namespace Go.Proofs.Ytecnjkhncdjebaa
open Go.ChangeShapes Go.WideShapes Go.ChangeAt Go.RowKit Go.Deep
set_option linter.unusedVariables false
set_option linter.unusedSimpArgs false
def S_l16Points (zs : List Point) : Bool := zs.all fun p => S_l14Point p.X p.Y
set_option maxRecDepth 100000 in
set_option maxHeartbeats 2000000 in
theorem c_S_l16Points (zs : List Point) (g cap : Nat) (w : World) (hl : zs.length ≤ 2000000) (r : Row w g (pts zs)) : Calls Try.prog 70 #[.slice (some ⟨g, 0, none⟩) zs.length cap] w fun e w' => e = .returned (.bool (S_l16Points zs)) ∧ Q w w' := by
  have hset := setRule
  have hall := allocRule
  have halm := allocMark
  have hw64 := wrapRule
  have hg1 := r.1
  go_enter Try.func70, Try.ntmps70
  go_wp2_with (first | (go_at_call 53; refine (c_S_l14Point _ _ _ ).mono ?_; rintro e w1 ⟨rfl, rfl⟩))
  go_loopg [3] zs.length (fun k i wr => Q w wr ∧ ∃ j : Nat, j + k = zs.length ∧ i = .int .i64 (j : Int) ∧ (zs.take j).all (fun p : Point => S_l14Point p.X p.Y) = true)
  case atStart => exact ⟨(by repeat (first | (with_reducible exact Q.refl _) | (with_reducible assumption) | (with_reducible refine Q.setCell ?_ (by dsimp only; omega) _) | (with_reducible refine Q.alloc ?_ _) | (with_reducible refine Q.drew ?_) | (with_reducible refine Q.call ?_ (by with_reducible assumption)))), 0, by omega, rfl, rfl⟩
  case round =>
    obtain ⟨hq, j, hjk, rfl, hall1⟩ := hrel
    have hr := Q.rules hq; have hc := hr.1; have hf := hr.2; clear hr; have hs := Q.le hq; try simp at hs
    have hw1 : wrap64 ((j : Int) + 1) = (j : Int) + 1 := w64 (by omega)
    by_cases hj : j < zs.length
    · have hjI : (j : Int) < (zs.length : Int) := by omega
      have hjg : ¬ (zs.length : Int) ≤ (j : Int) := by omega
      have hx1 := r.ptX hj
      have hx2 := r.ptY hj
      have hok : Hid ((fun p : Point => S_l14Point p.X p.Y) (zs.getD j ⟨0, 0⟩) = true → (zs.take (j + 1)).all (fun p : Point => S_l14Point p.X p.Y) = true) := fun h => all_next hall1 h hj
      have hno : Hid ((fun p : Point => S_l14Point p.X p.Y) (zs.getD j ⟨0, 0⟩) = false → zs.all (fun p : Point => S_l14Point p.X p.Y) = false) := fun h => all_not h hj
      clear hall1
      generalize zs.getD j ⟨0, 0⟩ = z at *
      by_cases hp : S_l14Point z.X z.Y = true
      · have hup : Hid ((zs.take (j + 1)).all (fun p : Point => S_l14Point p.X p.Y) = true) := hok hp
        clear hok hno
        go_wp2_with (first | (go_at_call 53; refine (c_S_l14Point _ _ _ ).mono ?_; rintro e w1 ⟨rfl, rfl⟩))
        all_goals try (
          refine region_Q_all (id := 4) (by kernel_rfl) (by kernel_rfl) ?_
          repeat (first | (apply q_step rfl; (intro wq hq; have hr := Q.rules hq; have hcq := hr.1; have hfq := hr.2; clear hr; have hsq := Q.le hq; (try simp at hsq); go_simp; (repeat (simp (disch := omega) only [if_pos, if_neg]; try go_simp)); (first | rfl | exact ⟨rfl, rfl⟩ | (go_at_call 53; exact quiet_same hq (c_S_l14Point _ _ _ )))); try go_simp) | (apply q_skip rfl; try go_simp))
          refine wpQuiet_nil ?_
          intro w1 hq
          have hr := Q.rules hq; have hc := hr.1; have hf := hr.2; clear hr; have hs := Q.le hq; try simp at hs)
        all_goals try go_wp2_with (first | (go_at_call 53; refine (c_S_l14Point _ _ _ ).mono ?_; rintro e w1 ⟨rfl, rfl⟩))
        go_roundg (gk - 1)
        case measure => omega
        case rel => exact ⟨(by repeat (first | (with_reducible exact Q.refl _) | (with_reducible assumption) | (with_reducible refine Q.setCell ?_ (by dsimp only; omega) _) | (with_reducible refine Q.alloc ?_ _) | (with_reducible refine Q.drew ?_) | (with_reducible refine Q.call ?_ (by with_reducible assumption)))), j + 1, by omega, by (first | rfl | simp), hup⟩
      · have hp2 : S_l14Point z.X z.Y = false := by simpa using hp
        have hM : S_l16Points zs = false := hno hp2
        clear hok hno hp
        go_wp2_with (first | (go_at_call 53; refine (c_S_l14Point _ _ _ ).mono ?_; rintro e w1 ⟨rfl, rfl⟩))
        all_goals try (
          refine region_Q_all (id := 4) (by kernel_rfl) (by kernel_rfl) ?_
          repeat (first | (apply q_step rfl; (intro wq hq; have hr := Q.rules hq; have hcq := hr.1; have hfq := hr.2; clear hr; have hsq := Q.le hq; (try simp at hsq); go_simp; (repeat (simp (disch := omega) only [if_pos, if_neg]; try go_simp)); (first | rfl | exact ⟨rfl, rfl⟩ | (go_at_call 53; exact quiet_same hq (c_S_l14Point _ _ _ )))); try go_simp) | (apply q_skip rfl; try go_simp))
          refine wpQuiet_nil ?_
          intro w1 hq
          have hr := Q.rules hq; have hc := hr.1; have hf := hr.2; clear hr; have hs := Q.le hq; try simp at hs)
        all_goals try go_wp2_with (first | (go_at_call 53; refine (c_S_l14Point _ _ _ ).mono ?_; rintro e w1 ⟨rfl, rfl⟩))
        go_ret
        exact ⟨by simp [hM], (by repeat (first | (with_reducible exact Q.refl _) | (with_reducible assumption) | (with_reducible refine Q.setCell ?_ (by dsimp only; omega) _) | (with_reducible refine Q.alloc ?_ _) | (with_reducible refine Q.drew ?_) | (with_reducible refine Q.call ?_ (by with_reducible assumption))))⟩
    · have hjI : ¬ (j : Int) < (zs.length : Int) := by omega
      have hjg : (zs.length : Int) ≤ (j : Int) := by omega
      have hM : S_l16Points zs = true := by rwa [show j = zs.length by omega, List.take_length] at hall1
      clear hall1
      go_wp2_with (first | (go_at_call 53; refine (c_S_l14Point _ _ _ ).mono ?_; rintro e w1 ⟨rfl, rfl⟩))
      go_ret
      exact ⟨by simp [hM], (by repeat (first | (with_reducible exact Q.refl _) | (with_reducible assumption) | (with_reducible refine Q.setCell ?_ (by dsimp only; omega) _) | (with_reducible refine Q.alloc ?_ _) | (with_reducible refine Q.drew ?_) | (with_reducible refine Q.call ?_ (by with_reducible assumption))))⟩

def S_IsLine (zs : List Point) : Bool := decide (zs.length ≤ 200) && S_l16Points zs
set_option maxRecDepth 100000 in
set_option maxHeartbeats 2000000 in
theorem c_S_IsLine (zs : List Point) (g cap : Nat) (w : World) (hl : zs.length ≤ 2000000) (r : Row w g (pts zs)) : Calls Try.prog 31 #[.slice (some ⟨g, 0, none⟩) zs.length cap] w fun e w' => e = .returned (.bool (S_IsLine zs)) ∧ Q w w' := by
  have hset := setRule
  have hall := allocRule
  have halm := allocMark
  have hw64 := wrapRule
  by_cases h : zs.length ≤ 200
  · have hi : (zs.length : Int) ≤ 200 := by omega
    have hM : S_IsLine zs = S_l16Points zs := by simp [S_IsLine, h]
    go_enter Try.func31, Try.ntmps31
    go_wp2_with (first | (go_at_call 70; refine (c_S_l16Points _ _ _ _ hl (by first | (with_reducible exact r) | exact Row.call r (by with_reducible assumption))).mono ?_; rintro e w1 ⟨rfl, hq⟩; obtain ⟨hc, hf⟩ := hq.rules; have hs := hq.le; (try simp at hs)))
    go_ret
    exact ⟨by simp [hM], (by repeat (first | (with_reducible exact Q.refl _) | (with_reducible assumption) | (with_reducible refine Q.setCell ?_ (by dsimp only; omega) _) | (with_reducible refine Q.alloc ?_ _) | (with_reducible refine Q.drew ?_) | (with_reducible refine Q.call ?_ (by with_reducible assumption))))⟩
  · have hi : ¬ (zs.length : Int) ≤ 200 := by omega
    have hM : S_IsLine zs = false := by simp [S_IsLine, h]
    go_enter Try.func31, Try.ntmps31
    go_wp2_with (first | (go_at_call 70; refine (c_S_l16Points _ _ _ _ hl (by first | (with_reducible exact r) | exact Row.call r (by with_reducible assumption))).mono ?_; rintro e w1 ⟨rfl, hq⟩; obtain ⟨hc, hf⟩ := hq.rules; have hs := hq.le; (try simp at hs)))
    go_ret
    exact ⟨by simp [hM], (by repeat (first | (with_reducible exact Q.refl _) | (with_reducible assumption) | (with_reducible refine Q.setCell ?_ (by dsimp only; omega) _) | (with_reducible refine Q.alloc ?_ _) | (with_reducible refine Q.drew ?_) | (with_reducible refine Q.call ?_ (by with_reducible assumption))))⟩

def I_IsLine (zs : List Point) : Bool := decide (zs.length ≤ 200) && zs.all I_isPoint
theorem c_I_IsLine_lit1 (p_X p_Y : Int) (w : World) : Calls Try.prog 72 #[.agg #[.int .i64 p_X, .int .i64 p_Y]] w fun e w' => e = .returned (.bool (!I_isPoint ⟨p_X, p_Y⟩)) ∧ Q w w' := by
  have hset := setRule
  have hall := allocRule
  have halm := allocMark
  have hw64 := wrapRule
  go_enter Try.func72, Try.ntmps72
  go_wp2_with (first | (go_at_call 73; refine (c_I_isPoint _ _ _ ).mono ?_; rintro e w1 ⟨rfl, hq⟩; obtain ⟨hc, hf⟩ := hq.rules; have hs := hq.le; try simp at hs))
  all_goals go_ret
  all_goals refine ⟨?_, (by repeat (first | (with_reducible exact Q.refl _) | (with_reducible assumption) | (with_reducible refine Q.setCell ?_ (by dsimp only; omega) _) | (with_reducible refine Q.alloc ?_ _) | (with_reducible refine Q.drew ?_) | (with_reducible refine Q.call ?_ (by with_reducible assumption))))⟩
  all_goals first | rfl | (simp [*]; done)
set_option maxRecDepth 100000 in
set_option maxHeartbeats 2000000 in
theorem c_IndexFunc (zs : List Point) (g cap : Nat) (w : World) (hl : zs.length ≤ 2000000) (r : Row w g (pts zs)) : Calls Try.prog 95 #[.slice (some ⟨g, 0, none⟩) zs.length cap, .func (.func 72) #[] #[]] w fun e w' => ∃ n : Int, e = .returned (.int .i64 n) ∧ (decide (0 ≤ n) = !zs.all I_isPoint) ∧ Q w w' := by
  have hset := setRule
  have hall := allocRule
  have halm := allocMark
  have hw64 := wrapRule
  have hg1 := r.1
  go_enter Try.func95, Try.ntmps95
  go_wp2
  go_loopg [8] zs.length (fun k i wr => Q w wr ∧ ∃ j : Nat, j + k = zs.length ∧ i = .int .i64 (j : Int) ∧ (zs.take j).all I_isPoint = true)
  case atStart => exact ⟨(by repeat (first | (with_reducible exact Q.refl _) | (with_reducible assumption) | (with_reducible refine Q.setCell ?_ (by dsimp only; omega) _) | (with_reducible refine Q.alloc ?_ _) | (with_reducible refine Q.drew ?_) | (with_reducible refine Q.call ?_ (by with_reducible assumption)))), 0, by omega, rfl, rfl⟩
  case round =>
    obtain ⟨hq, j, hjk, rfl, hall1⟩ := hrel
    have hr := Q.rules hq; have hc := hr.1; have hf := hr.2; clear hr; have hs := Q.le hq; try simp at hs
    have hw1 : wrap64 ((j : Int) + 1) = (j : Int) + 1 := w64 (by omega)
    by_cases hj : j < zs.length
    · have hjI : (j : Int) < (zs.length : Int) := by omega
      have hjg : ¬ (zs.length : Int) ≤ (j : Int) := by omega
      have hx1 := r.ptX hj
      have hx2 := r.ptY hj
      have hok : Hid (I_isPoint (zs.getD j ⟨0, 0⟩) = true → (zs.take (j + 1)).all I_isPoint = true) := fun h => all_next hall1 h hj
      have hno : Hid (I_isPoint (zs.getD j ⟨0, 0⟩) = false → zs.all I_isPoint = false) := fun h => all_not h hj
      clear hall1
      generalize zs.getD j ⟨0, 0⟩ = z at *
      rcases z with ⟨zx, zy⟩
      dsimp only at hx1 hx2
      rcases Bool.eq_false_or_eq_true (I_isPoint ⟨zx, zy⟩) with hp | hp
      · have hup : Hid ((zs.take (j + 1)).all I_isPoint = true) := hok hp
        clear hok hno
        go_wp2_with (go_at_call 72; refine (c_I_IsLine_lit1 _ _ _).mono ?_; rintro e w1 ⟨rfl, hq⟩; obtain ⟨hc, hf⟩ := hq.rules; have hs := hq.le; (try simp at hs))
        go_roundg (gk - 1)
        case measure => omega
        case rel => exact ⟨(by repeat (first | (with_reducible exact Q.refl _) | (with_reducible assumption) | (with_reducible refine Q.setCell ?_ (by dsimp only; omega) _) | (with_reducible refine Q.alloc ?_ _) | (with_reducible refine Q.drew ?_) | (with_reducible refine Q.call ?_ (by with_reducible assumption)))), j + 1, by omega, by (first | rfl | simp), hup⟩
      · have hM : zs.all I_isPoint = false := hno hp
        clear hok hno
        go_wp2_with (go_at_call 72; refine (c_I_IsLine_lit1 _ _ _).mono ?_; rintro e w1 ⟨rfl, hq⟩; obtain ⟨hc, hf⟩ := hq.rules; have hs := hq.le; (try simp at hs))
        go_ret
        exact ⟨(j : Int), rfl, by simp [hM], (by repeat (first | (with_reducible exact Q.refl _) | (with_reducible assumption) | (with_reducible refine Q.setCell ?_ (by dsimp only; omega) _) | (with_reducible refine Q.alloc ?_ _) | (with_reducible refine Q.drew ?_) | (with_reducible refine Q.call ?_ (by with_reducible assumption))))⟩
    · have hjI : ¬ (j : Int) < (zs.length : Int) := by omega
      have hjg : (zs.length : Int) ≤ (j : Int) := by omega
      have hM : zs.all I_isPoint = true := by rwa [show j = zs.length by omega, List.take_length] at hall1
      clear hall1
      go_wp2
      go_ret
      exact ⟨-1, rfl, by simp [hM], (by repeat (first | (with_reducible exact Q.refl _) | (with_reducible assumption) | (with_reducible refine Q.setCell ?_ (by dsimp only; omega) _) | (with_reducible refine Q.alloc ?_ _) | (with_reducible refine Q.drew ?_) | (with_reducible refine Q.call ?_ (by with_reducible assumption))))⟩
theorem c_ContainsFunc (zs : List Point) (g cap : Nat) (w : World) (hl : zs.length ≤ 2000000) (r : Row w g (pts zs)) : Calls Try.prog 71 #[.slice (some ⟨g, 0, none⟩) zs.length cap, .func (.func 72) #[] #[]] w fun e w' => e = .returned (.bool (!zs.all I_isPoint)) ∧ Q w w' := by
  have hset := setRule
  have hall := allocRule
  have halm := allocMark
  have hw64 := wrapRule
  go_enter Try.func71, Try.ntmps71
  go_wp2_with (go_at_call 95; refine (c_IndexFunc zs g cap _ hl r).mono ?_; rintro e w1 ⟨n, rfl, hd, hq⟩)
  go_ret
  exact ⟨by simp [hd], (by repeat (first | (with_reducible exact Q.refl _) | (with_reducible assumption) | (with_reducible refine Q.setCell ?_ (by dsimp only; omega) _) | (with_reducible refine Q.alloc ?_ _) | (with_reducible refine Q.drew ?_) | (with_reducible refine Q.call ?_ (by with_reducible assumption))))⟩
set_option maxRecDepth 100000 in
theorem c_I_IsLine (zs : List Point) (g cap : Nat) (w : World) (hl : zs.length ≤ 2000000) (r : Row w g (pts zs)) : Calls Try.prog 33 #[.slice (some ⟨g, 0, none⟩) zs.length cap] w fun e w' => e = .returned (.bool (I_IsLine zs)) ∧ Q w w' := by
  have hset := setRule
  have hall := allocRule
  have halm := allocMark
  have hw64 := wrapRule
  by_cases h : zs.length ≤ 200
  · have hi : (zs.length : Int) ≤ 200 := by omega
    have hM : I_IsLine zs = zs.all I_isPoint := by simp [I_IsLine, h]
    go_enter Try.func33, Try.ntmps33
    go_wp2_with (go_at_call 71; refine (c_ContainsFunc zs g cap _ hl r).mono ?_; rintro e w1 ⟨rfl, hq⟩; obtain ⟨hc, hf⟩ := hq.rules; have hs := hq.le; (try simp at hs))
    go_ret
    exact ⟨by simp [hM], (by repeat (first | (with_reducible exact Q.refl _) | (with_reducible assumption) | (with_reducible refine Q.setCell ?_ (by dsimp only; omega) _) | (with_reducible refine Q.alloc ?_ _) | (with_reducible refine Q.drew ?_) | (with_reducible refine Q.call ?_ (by with_reducible assumption))))⟩
  · have hi : ¬ (zs.length : Int) ≤ 200 := by omega
    have hM : I_IsLine zs = false := by simp [I_IsLine, h]
    go_enter Try.func33, Try.ntmps33
    go_wp2_with (go_at_call 71; refine (c_ContainsFunc zs g cap _ hl r).mono ?_; rintro e w1 ⟨rfl, hq⟩; obtain ⟨hc, hf⟩ := hq.rules; have hs := hq.le; (try simp at hs))
    go_ret
    exact ⟨by simp [hM], (by repeat (first | (with_reducible exact Q.refl _) | (with_reducible assumption) | (with_reducible refine Q.setCell ?_ (by dsimp only; omega) _) | (with_reducible refine Q.alloc ?_ _) | (with_reducible refine Q.drew ?_) | (with_reducible refine Q.call ?_ (by with_reducible assumption))))⟩

set_option maxRecDepth 100000 in
set_option maxHeartbeats 2000000 in
theorem c_L_eqPointS_same (zs : List Point) (g g2 cap cap2 : Nat) (w : World) (hl : zs.length ≤ 2000000) (r : Row w g (pts zs)) (r2 : Row w g2 (pts zs)) : Calls Try.prog 34 #[.slice (some ⟨g, 0, none⟩) zs.length cap, .slice (some ⟨g2, 0, none⟩) zs.length cap2] w fun e w' => e = .returned (.bool true) ∧ Q w w' := by
  have hset := setRule
  have hall := allocRule
  have halm := allocMark
  have hw64 := wrapRule
  have hve : ∀ a : Point, L_eqPoint a a = true := by intro a; simp [L_eqPoint]
  have hg1 := r.1
  have hk1 := r2.1
  go_enter Try.func34, Try.ntmps34
  go_wp2_with (first | (go_at_call 74; refine (c_L_eqPoint _ _ _ _ _ ).mono ?_; rintro e w1 ⟨rfl, hq⟩; obtain ⟨hc, hf⟩ := hq.rules; have hs := hq.le; try simp at hs))
  go_loopg [5] zs.length (fun k i wr => Q w wr ∧ ∃ j : Nat, j + k = zs.length ∧ i = .int .i64 (j : Int))
  case atStart => exact ⟨(by repeat (first | (with_reducible exact Q.refl _) | (with_reducible assumption) | (with_reducible refine Q.setCell ?_ (by dsimp only; omega) _) | (with_reducible refine Q.alloc ?_ _) | (with_reducible refine Q.drew ?_) | (with_reducible refine Q.call ?_ (by with_reducible assumption)))), 0, by omega, rfl⟩
  case round =>
    obtain ⟨hq, j, hjk, rfl⟩ := hrel
    have hr := Q.rules hq; have hc := hr.1; have hf := hr.2; clear hr; have hs := Q.le hq; try simp at hs
    have hw1 : wrap64 ((j : Int) + 1) = (j : Int) + 1 := w64 (by omega)
    by_cases hj : j < zs.length
    · have hjI : (j : Int) < (zs.length : Int) := by omega
      have hjg : ¬ (zs.length : Int) ≤ (j : Int) := by omega
      have hx1 := r.ptX hj
      have hx2 := r.ptY hj
      have hx3 := r2.ptX hj
      have hx4 := r2.ptY hj
      generalize zs.getD j ⟨0, 0⟩ = z at *
      go_wp2_with (first | (go_at_call 74; refine (c_L_eqPoint _ _ _ _ _ ).mono ?_; rintro e w1 ⟨rfl, hq⟩; obtain ⟨hc, hf⟩ := hq.rules; have hs := hq.le; try simp at hs))
      all_goals try (
        refine region_Q_all (id := 6) (by kernel_rfl) (by kernel_rfl) ?_
        repeat (first | (apply q_step rfl; (intro wq hq; have hr := Q.rules hq; have hcq := hr.1; have hfq := hr.2; clear hr; have hsq := Q.le hq; (try simp at hsq); go_simp; (repeat (simp (disch := omega) only [if_pos, if_neg]; try go_simp)); (first | rfl | exact ⟨rfl, rfl⟩ | (go_at_call 74; exact quiet_grow hq (c_L_eqPoint _ _ _ _ _ )))); try go_simp) | (apply q_skip rfl; try go_simp))
        refine wpQuiet_nil ?_
        intro w1 hq
        have hr := Q.rules hq; have hc := hr.1; have hf := hr.2; clear hr; have hs := Q.le hq; try simp at hs)
      all_goals try go_wp2_with (first | (go_at_call 74; refine (c_L_eqPoint _ _ _ _ _ ).mono ?_; rintro e w1 ⟨rfl, hq⟩; obtain ⟨hc, hf⟩ := hq.rules; have hs := hq.le; try simp at hs))
      go_roundg (gk - 1)
      case measure => omega
      case rel => exact ⟨(by repeat (first | (with_reducible exact Q.refl _) | (with_reducible assumption) | (with_reducible refine Q.setCell ?_ (by dsimp only; omega) _) | (with_reducible refine Q.alloc ?_ _) | (with_reducible refine Q.drew ?_) | (with_reducible refine Q.call ?_ (by with_reducible assumption)))), j + 1, by omega, by (first | rfl | simp)⟩
    · have hjI : ¬ (j : Int) < (zs.length : Int) := by omega
      have hjg : (zs.length : Int) ≤ (j : Int) := by omega
      go_wp2_with (first | (go_at_call 74; refine (c_L_eqPoint _ _ _ _ _ ).mono ?_; rintro e w1 ⟨rfl, hq⟩; obtain ⟨hc, hf⟩ := hq.rules; have hs := hq.le; try simp at hs))
      go_ret
      exact ⟨by first | rfl | (simp [*]; done), (by repeat (first | (with_reducible exact Q.refl _) | (with_reducible assumption) | (with_reducible refine Q.setCell ?_ (by dsimp only; omega) _) | (with_reducible refine Q.alloc ?_ _) | (with_reducible refine Q.drew ?_) | (with_reducible refine Q.call ?_ (by with_reducible assumption))))⟩

set_option maxRecDepth 100000 in
set_option maxHeartbeats 4000000 in
theorem c_L_toPointS (zs : List Point) (b off cap : Nat) (w : World) (hl : zs.length ≤ 1048576) (hb : b < w.heap.size) (hz : Hid (∀ j, j < zs.length → w.cell? ⟨b, off + j * 2, none⟩ = some (.int .i64 (zs.getD j ⟨0, 0⟩).X) ∧ w.cell? ⟨b, off + j * 2 + 1, none⟩ = some (.int .i64 (zs.getD j ⟨0, 0⟩).Y))) : Calls Try.prog 32 #[.slice (some ⟨b, off, none⟩) zs.length cap] w fun e w' => ∃ g, e = .returned (.slice (some ⟨g, 0, none⟩) zs.length zs.length) ∧ Q w w' ∧ w.heap.size ≤ g ∧ Row w' g (pts zs) := by
  have hset := setCell_at
  have hsm := setCell_mark
  have hall := allocRule
  have halm := allocMark
  have hw64 := wrapRule
  have hinfo : (Try.prog.info? 34).map (fun i => (i.zero, i.size, i.bytes)) = some (some (.agg #[.int .i64 0, .int .i64 0]), 2, 16) := by kernel_rfl
  obtain ⟨i0, hi, hz0, hz1, hz2⟩ := info_parts hinfo
  go_enter Try.func32, Try.ntmps32
  go_wp2_with (first | (go_at_call 20; refine (c_L_toPoint _ _ _ ).mono ?_; rintro e w1 ⟨rfl, hq⟩; obtain ⟨hc, hf⟩ := hq.rules; have hs := hq.le; try simp at hs) | (at_make; refine wpList_make_full _ rfl _ _ 57 rfl w.heap.size 34 i0 (.agg #[.int .i64 0, .int .i64 0]) 2 Try.underlying57 hi hz0 hz1 _ _ _ _ zs.length rfl rfl rfl rfl (by rw [hz2]; omega) (by simp [maxLen]; omega) (by first | omega | (simp; omega)) ?_; intro w1 hown hgrow))
  have hfil := filled_new (zs := zs) hown
  have hq0 : Q w w1 := Q.grown (Q.refl w) hgrow (fun k hk => by cases hk)
  clear hown hgrow
  have hfil2 : Hid (Filled w1 w.heap.size zs.length zs 0) := hfil
  clear hfil
  go_wp2
  go_loopg [4] zs.length (fun k i wr => Q w wr ∧ ∃ j : Nat, j + k = zs.length ∧ i = .int .i64 (j : Int) ∧ Hid (Filled wr w.heap.size zs.length zs j))
  case atStart => exact ⟨hq0, 0, by omega, rfl, hfil2⟩
  case round =>
    obtain ⟨hq, j, hjk, rfl, hfl⟩ := hrel
    have hfl1 : Filled wr w.heap.size zs.length zs j := hfl
    have hr := Q.rules hq; have hc := hr.1; have hf := hr.2; clear hr; have hs := Q.le hq; try simp at hs
    have hlt := hfl1.lt
    have hw1 : wrap64 ((j : Int) + 1) = (j : Int) + 1 := w64 (by omega)
    by_cases hj : j < zs.length
    · have hjI : (j : Int) < (zs.length : Int) := by omega
      have hjg : ¬ (zs.length : Int) ≤ (j : Int) := by omega
      have hx := hz.out j hj
      have hx1 := hx.1
      have hx2 := hx.2
      obtain ⟨v0, hv0⟩ : ∃ v, newCell wr w.heap.size (j * 2) = some v := Option.isSome_iff_exists.1 (hfl1.some (j * 2) (by omega))
      obtain ⟨v1, hv1⟩ : ∃ v, newCell wr w.heap.size (j * 2 + 1) = some v := Option.isSome_iff_exists.1 (hfl1.some (j * 2 + 1) (by omega))
      have hf0 : newMark wr w.heap.size (j * 2) = false := hfl1.free _
      have hf1 : newMark wr w.heap.size (j * 2 + 1) = false := hfl1.free _
      have hnx : Hid (∀ w2, Q wr w2 → Filled ((w2.setCell ⟨w.heap.size, j * 2, none⟩ (.int .i64 (zs.getD j ⟨0, 0⟩).X)).setCell ⟨w.heap.size, j * 2 + 1, none⟩ (.int .i64 (zs.getD j ⟨0, 0⟩).Y)) w.heap.size zs.length zs (j + 1)) := fun w2 q => (hfl1.call q).next hj
      clear hx hfl1 hfl
      generalize zs.getD j ⟨0, 0⟩ = z at *
      rcases z with ⟨zx, zy⟩
      dsimp only at hx1 hx2
      have hto : ∀ a b : Int, L_toPoint ⟨a, b⟩ = ⟨a, b⟩ := fun _ _ => rfl
      go_wp2_with (first | (go_at_call 20; refine (c_L_toPoint _ _ _ ).mono ?_; rintro e w1 ⟨rfl, hq⟩; obtain ⟨hc, hf⟩ := hq.rules; have hs := hq.le; try simp at hs))
      go_roundg (gk - 1)
      case measure => omega
      case rel => exact ⟨(by repeat (first | (with_reducible exact Q.refl _) | (with_reducible assumption) | (with_reducible refine Q.setCell ?_ (by dsimp only; omega) _) | (with_reducible refine Q.alloc ?_ _) | (with_reducible refine Q.drew ?_) | (with_reducible refine Q.call ?_ (by with_reducible assumption)))), j + 1, by omega, by (first | rfl | simp), hnx.out _ (by first | assumption | exact (by repeat (first | (with_reducible exact Q.refl _) | (with_reducible assumption) | (with_reducible refine Q.setCell ?_ (by dsimp only; omega) _) | (with_reducible refine Q.alloc ?_ _) | (with_reducible refine Q.drew ?_) | (with_reducible refine Q.call ?_ (by with_reducible assumption)))))⟩
    · have hjI : ¬ (j : Int) < (zs.length : Int) := by omega
      have hjg : (zs.length : Int) ≤ (j : Int) := by omega
      have hje : j = zs.length := by omega
      subst hje
      have hr : Hid (Row wr w.heap.size (pts zs)) := hfl1.row
      clear hfl1 hfl
      go_wp2_with (first | (go_at_call 20; refine (c_L_toPoint _ _ _ ).mono ?_; rintro e w1 ⟨rfl, hq⟩; obtain ⟨hc, hf⟩ := hq.rules; have hs := hq.le; try simp at hs))
      go_ret
      exact ⟨_, rfl, (by repeat (first | (with_reducible exact Q.refl _) | (with_reducible assumption) | (with_reducible refine Q.setCell ?_ (by dsimp only; omega) _) | (with_reducible refine Q.alloc ?_ _) | (with_reducible refine Q.drew ?_) | (with_reducible refine Q.call ?_ (by with_reducible assumption)))), Nat.le_refl _, hr⟩

theorem c_L_toPointS_empty (a : Option Addr) (cap : Nat) (w : World) : Calls Try.prog 32 #[.slice a 0 cap] w fun e w' => ∃ g, e = .returned (.slice (some ⟨g, 0, none⟩) 0 0) ∧ Q w w' ∧ w.heap.size ≤ g ∧ Row w' g (pts []) := by
  have hset := setRule
  have hall := allocRule
  have halm := allocMark
  have hw64 := wrapRule
  have hinfo : (Try.prog.info? 34).map (fun i => (i.zero, i.size, i.bytes)) = some (some (.agg #[.int .i64 0, .int .i64 0]), 2, 16) := by kernel_rfl
  obtain ⟨i0, hi, hz0, hz1, hz2⟩ := info_parts hinfo
  go_enter Try.func32, Try.ntmps32
  go_wp2_with (at_make; refine wpList_make_full _ rfl _ _ 57 rfl w.heap.size 34 i0 (.agg #[.int .i64 0, .int .i64 0]) 2 Try.underlying57 hi hz0 hz1 _ _ _ _ 0 rfl rfl rfl rfl (by simp) (by simp [maxLen]) (by first | omega | (simp; omega)) ?_; intro w1 hown hgrow)
  have hfil : Filled w1 w.heap.size ([] : List Point).length [] 0 := filled_new hown
  have hq0 : Q w w1 := Q.grown (Q.refl w) hgrow (fun k hk => by cases hk)
  have hr : Hid (Row w1 w.heap.size (pts [])) := Filled.row hfil
  clear hown hgrow hfil
  go_wp2
  refine wp_loop_rounds 1 ?_
  rw [rounds_succ]
  go_wp2
  go_ret
  exact ⟨_, rfl, hq0, Nat.le_refl _, hr⟩
theorem c_L_szPointS (a : Option Addr) (n cap : Nat) (w : World) (hn : n ≤ 9223372036854775807) : Calls Try.prog 30 #[.slice a n cap, .int .i64 1048576] w fun e w' => e = .returned (.int .i64 (if (1048576 : Int) - n < 0 then -1 else 1048576 - n)) ∧ Q w w' := by
  have hset := setRule
  have hall := allocRule
  have halm := allocMark
  have hw64 := wrapRule
  have hw1 : wrap64 (1048576 - (n : Int)) = 1048576 - (n : Int) := w64 (by omega)
  by_cases h : (1048576 : Int) - n < 0
  · rw [if_pos h]
    go_enter Try.func30, Try.ntmps30
    go_wp2
    go_ret
    exact ⟨by first | rfl | (simp [*]; done), (by repeat (first | (with_reducible exact Q.refl _) | (with_reducible assumption) | (with_reducible refine Q.setCell ?_ (by dsimp only; omega) _) | (with_reducible refine Q.alloc ?_ _) | (with_reducible refine Q.drew ?_) | (with_reducible refine Q.call ?_ (by with_reducible assumption))))⟩
  · rw [if_neg h]
    have h2 : ¬ (1048576 : Int) < n := by omega
    go_enter Try.func30, Try.ntmps30
    go_wp2
    go_ret
    exact ⟨by first | rfl | (simp [*]; done), (by repeat (first | (with_reducible exact Q.refl _) | (with_reducible assumption) | (with_reducible refine Q.setCell ?_ (by dsimp only; omega) _) | (with_reducible refine Q.alloc ?_ _) | (with_reducible refine Q.drew ?_) | (with_reducible refine Q.call ?_ (by with_reducible assumption))))⟩
theorem eq_IsLine (zs : List Point) : I_IsLine zs = S_IsLine zs := by
  have h : I_isPoint = fun p : Point => S_l14Point p.X p.Y := funext fun p => eq_isSpot2 p.X p.Y
  unfold I_IsLine S_IsLine S_l16Points
  rw [h]
theorem cells_kept {zs : List Point} {b off : Nat} {w w1 : World} (hb : b < w.heap.size) (hz : Hid (∀ j, j < zs.length → w.cell? ⟨b, off + j * 2, none⟩ = some (.int .i64 (zs.getD j ⟨0, 0⟩).X) ∧ w.cell? ⟨b, off + j * 2 + 1, none⟩ = some (.int .i64 (zs.getD j ⟨0, 0⟩).Y))) (q : Q w w1) :
    Hid (∀ j, j < zs.length → w1.cell? ⟨b, off + j * 2, none⟩ = some (.int .i64 (zs.getD j ⟨0, 0⟩).X) ∧ w1.cell? ⟨b, off + j * 2 + 1, none⟩ = some (.int .i64 (zs.getD j ⟨0, 0⟩).Y)) := by
  intro j hj
  rw [q.rules.1, q.rules.1, if_pos hb, if_pos hb]
  exact hz.out j hj
set_option maxRecDepth 100000 in
set_option maxHeartbeats 4000000 in
theorem walk_IsLine_n (zs : List Point) (b off cap : Nat) (w : World) (hm : zs.length ≤ 9223372036854775807) (hb : b < w.heap.size) (hz : Hid (∀ j, j < zs.length → w.cell? ⟨b, off + j * 2, none⟩ = some (.int .i64 (zs.getD j ⟨0, 0⟩).X) ∧ w.cell? ⟨b, off + j * 2 + 1, none⟩ = some (.int .i64 (zs.getD j ⟨0, 0⟩).Y))) : Calls Try.prog 8 #[.slice (some ⟨b, off, none⟩) zs.length cap] w fun e w' => e = .returned (.bool true) ∧ Q w w' := by
  have hset := setRule
  have hall := allocRule
  have halm := allocMark
  have hw64 := wrapRule
  have heq := eq_IsLine zs
  by_cases hl : zs.length ≤ 1048576
  · have hn1 : ¬ ((1048576 : Int) - (zs.length : Int) < 0) := by omega
    have hn2 : ¬ (1048576 : Int) < (zs.length : Int) := by omega
    have hn3 : (zs.length : Int) ≤ 1048576 := by omega
    go_enter Try.func8, Try.ntmps8
    go_wp2_with (first | (go_at_call 30; refine (c_L_szPointS _ _ _ _ (by omega)).mono ?_; rintro e w1 ⟨rfl, hq⟩; obtain ⟨hc, hf⟩ := hq.rules; have hs := hq.le; (try simp at hs); (try have rX := rX.call hq)) | (go_at_call 32; refine (c_L_toPointS zs b off cap _ hl (by omega) (cells_kept hb hz (by repeat (first | (with_reducible exact Q.refl _) | (with_reducible assumption) | (with_reducible refine Q.setCell ?_ (by dsimp only; omega) _) | (with_reducible refine Q.alloc ?_ _) | (with_reducible refine Q.drew ?_) | (with_reducible refine Q.call ?_ (by with_reducible assumption)))))).mono ?_; rintro e w1 ⟨g, rfl, hq, hg0, r⟩; obtain ⟨hc, hf⟩ := hq.rules; have hs := hq.le; (try simp at hs); (try have rX := rX.call hq)) | (go_at_call 31; refine (c_S_IsLine zs _ _ _ (by first | omega | (simp; done)) (by first | (with_reducible exact r) | exact Row.call r (by with_reducible assumption))).mono ?_; rintro e w1 ⟨rfl, hq⟩; obtain ⟨hc, hf⟩ := hq.rules; have hs := hq.le; (try simp at hs); (try have rX := rX.call hq)) | (go_at_call 33; refine (c_I_IsLine zs _ _ _ (by first | omega | (simp; done)) (by first | (with_reducible exact r) | exact Row.call r (by with_reducible assumption))).mono ?_; rintro e w1 ⟨rfl, hq⟩; obtain ⟨hc, hf⟩ := hq.rules; have hs := hq.le; (try simp at hs); (try have rX := rX.call hq); have rX := r.call hq) | (go_at_call 34; refine (c_L_eqPointS_same zs _ _ _ _ _ (by first | omega | (simp; done)) rX r).mono ?_; rintro e w1 ⟨rfl, hq⟩; obtain ⟨hc, hf⟩ := hq.rules; have hs := hq.le; (try simp at hs); (try have rX := rX.call hq)))
    all_goals go_ret
    all_goals refine ⟨?_, (by repeat (first | (with_reducible exact Q.refl _) | (with_reducible assumption) | (with_reducible refine Q.setCell ?_ (by dsimp only; omega) _) | (with_reducible refine Q.alloc ?_ _) | (with_reducible refine Q.drew ?_) | (with_reducible refine Q.call ?_ (by with_reducible assumption))))⟩
    all_goals first | rfl | (simp [*]; done)
  · have hn1 : (1048576 : Int) - (zs.length : Int) < 0 := by omega
    have hn2 : (1048576 : Int) < (zs.length : Int) := by omega
    go_enter Try.func8, Try.ntmps8
    go_wp2_with (first | (go_at_call 30; refine (c_L_szPointS _ _ _ _ (by omega)).mono ?_; rintro e w1 ⟨rfl, hq⟩; obtain ⟨hc, hf⟩ := hq.rules; have hs := hq.le; (try simp at hs); (try have rX := rX.call hq)) | (go_at_call 32; refine (c_L_toPointS zs b off cap _ (by omega) (by omega) (cells_kept hb hz (by repeat (first | (with_reducible exact Q.refl _) | (with_reducible assumption) | (with_reducible refine Q.setCell ?_ (by dsimp only; omega) _) | (with_reducible refine Q.alloc ?_ _) | (with_reducible refine Q.drew ?_) | (with_reducible refine Q.call ?_ (by with_reducible assumption)))))).mono ?_; rintro e w1 ⟨g, rfl, hq, hg0, r⟩; obtain ⟨hc, hf⟩ := hq.rules; have hs := hq.le; (try simp at hs); (try have rX := rX.call hq)) | (go_at_call 31; refine (c_S_IsLine zs _ _ _ (by first | omega | (simp; done)) (by first | (with_reducible exact r) | exact Row.call r (by with_reducible assumption))).mono ?_; rintro e w1 ⟨rfl, hq⟩; obtain ⟨hc, hf⟩ := hq.rules; have hs := hq.le; (try simp at hs); (try have rX := rX.call hq)) | (go_at_call 33; refine (c_I_IsLine zs _ _ _ (by first | omega | (simp; done)) (by first | (with_reducible exact r) | exact Row.call r (by with_reducible assumption))).mono ?_; rintro e w1 ⟨rfl, hq⟩; obtain ⟨hc, hf⟩ := hq.rules; have hs := hq.le; (try simp at hs); (try have rX := rX.call hq); have rX := r.call hq) | (go_at_call 34; refine (c_L_eqPointS_same zs _ _ _ _ _ (by first | omega | (simp; done)) rX r).mono ?_; rintro e w1 ⟨rfl, hq⟩; obtain ⟨hc, hf⟩ := hq.rules; have hs := hq.le; (try simp at hs); (try have rX := rX.call hq)))
    all_goals go_ret
    all_goals refine ⟨?_, (by repeat (first | (with_reducible exact Q.refl _) | (with_reducible assumption) | (with_reducible refine Q.setCell ?_ (by dsimp only; omega) _) | (with_reducible refine Q.alloc ?_ _) | (with_reducible refine Q.drew ?_) | (with_reducible refine Q.call ?_ (by with_reducible assumption))))⟩
    all_goals first | rfl | (simp [*]; done)
set_option maxRecDepth 100000 in
set_option maxHeartbeats 4000000 in
theorem walk_IsLine_0 (a : Option Addr) (cap : Nat) (w : World) : Calls Try.prog 8 #[.slice a 0 cap] w fun e w' => e = .returned (.bool true) ∧ Q w w' := by
  have hset := setRule
  have hall := allocRule
  have halm := allocMark
  have hw64 := wrapRule
  have heq := eq_IsLine []
  go_enter Try.func8, Try.ntmps8
  go_wp2_with (first | (go_at_call 30; refine (c_L_szPointS _ _ _ _ (by omega)).mono ?_; rintro e w1 ⟨rfl, hq⟩; obtain ⟨hc, hf⟩ := hq.rules; have hs := hq.le; (try simp at hs); (try have rX := rX.call hq)) | (go_at_call 32; refine (c_L_toPointS_empty _ _ _).mono ?_; rintro e w1 ⟨g, rfl, hq, hg0, r⟩; obtain ⟨hc, hf⟩ := hq.rules; have hs := hq.le; (try simp at hs); (try have rX := rX.call hq)) | (go_at_call 31; refine (c_S_IsLine [] _ _ _ (by first | omega | (simp; done)) (by first | (with_reducible exact r) | exact Row.call r (by with_reducible assumption))).mono ?_; rintro e w1 ⟨rfl, hq⟩; obtain ⟨hc, hf⟩ := hq.rules; have hs := hq.le; (try simp at hs); (try have rX := rX.call hq)) | (go_at_call 33; refine (c_I_IsLine [] _ _ _ (by first | omega | (simp; done)) (by first | (with_reducible exact r) | exact Row.call r (by with_reducible assumption))).mono ?_; rintro e w1 ⟨rfl, hq⟩; obtain ⟨hc, hf⟩ := hq.rules; have hs := hq.le; (try simp at hs); (try have rX := rX.call hq); have rX := r.call hq) | (go_at_call 34; refine (c_L_eqPointS_same [] _ _ _ _ _ (by first | omega | (simp; done)) rX r).mono ?_; rintro e w1 ⟨rfl, hq⟩; obtain ⟨hc, hf⟩ := hq.rules; have hs := hq.le; (try simp at hs); (try have rX := rX.call hq)))
  all_goals go_ret
  all_goals refine ⟨?_, (by repeat (first | (with_reducible exact Q.refl _) | (with_reducible assumption) | (with_reducible refine Q.setCell ?_ (by dsimp only; omega) _) | (with_reducible refine Q.alloc ?_ _) | (with_reducible refine Q.drew ?_) | (with_reducible refine Q.call ?_ (by with_reducible assumption))))⟩
  all_goals first | rfl | (simp [*]; done)
namespace lawFnExactIsLine
set_option maxRecDepth 100000 in
theorem lifted (os : Os) (started : os.Started) (H : Type) (enc : TypeId × Value → H) :
    ReturnsInHanded {} Try.checked os 8 .any (Rows.fnExactIsLineSpec.pre6 enc Try.prog Try.f8 Rows.fnExactIsLineRow.domain false) (Rows.fnExactIsLineSpec.post enc Try.prog Try.f8 false true false false) := by
  refine returnsInHanded_of_change (C := Try.checked) own started (by kernel_rfl) Try.func8
    (ChangeSpec.witness6 (enc := enc) (C := Try.checked) false ⟨#[], #[.slice none 0 0], []⟩ 8 (by kernel_rfl) (by kernel_rfl) (by kernel_rfl) (by kernel_rfl)) ?_
  intro W base args ds gs before hval0 hW hcnd _
  have hval : ∀ (j : Nat) t v, Try.f8.params[j]? = some t → args[j]? = some v → Value.okWide Try.prog W .any base t v := hval0
  have hW' := hW
  obtain ⟨p, q, hA0, hV, rfl, hfz, hnd⟩ := hW
  have hA : DataW.TrodAll enc Try.prog W 0 (fun _ => true) true Try.f8.params.toList args.toList ds p := hA0
  rw [Try.params8] at hA hval
  obtain ⟨v0, vs0, d0, ds0, p0, q0, hargs, rfl, rfl, h0, r0⟩ := trodAll_cons hA
  obtain ⟨rfl, rfl, rfl⟩ := trodAll_nil r0
  obtain rfl : args = #[v0] := by cases args; simp_all
  obtain ⟨rfl, rfl⟩ := trodVars_none hV
  have hlt : ∀ x ∈ p0, x.block < W.heap.size := fun x hx => by simpa using hW'.lt x (by simp [hx])
  obtain ⟨fuel, hf⟩ := h0

  have main : Calls Try.prog 8 #[v0] W fun e W' => e = .returned (.bool true) ∧ Q W W' := by
    obtain ⟨a0, len, cap, rfl⟩ := okWide_slice Try.underlying54 (hval 0 54 v0 rfl rfl)
    by_cases hl0 : len = 0
    · subst hl0; exact walk_IsLine_0 a0 cap W
    · rcases open_slice_pairs (f0 := _) (f1 := _) Try.underlying54 Try.underlying31 (by kernel_rfl) rfl rfl (by kernel_rfl) (by kernel_rfl) hf with ⟨hc, hx⟩ | ⟨a, len', cap', m, k, V0, V1, D0, D1, P0, P1, hc, _, hl, hm, hmm, hx, hall⟩
      · simp [Value.cells] at hc; omega
      · simp [Value.cells] at hc
        obtain ⟨rfl, rfl, rfl⟩ := hc
        simp only [Prod.mk.injEq] at hx
        obtain ⟨rfl, rfl⟩ := hx
        simp only [if_true] at hmm
        subst hmm
        obtain ⟨b, off, spot⟩ := a
        have hspot : spot = none := by simpa [Addr.add] using World.cell?_spot (hall 0 (by omega)).1
        subst hspot
        have hbW : b < W.heap.size := hlt (.cell b off) (by
          refine List.mem_append.2 (.inl (MemPlace.mem_row.2 ⟨0, by omega, by simp⟩)))
        have ints : ∀ i, i < m → ∃ x y : Int, V0 i = .int .i64 x ∧ V1 i = .int .i64 y := by
          intro i hi
          obtain ⟨_, _, t0, t1⟩ := hall i hi
          obtain ⟨x, hx, _⟩ := DataW.trod_int Try.underlying2 t0
          obtain ⟨y, hy, _⟩ := DataW.trod_int Try.underlying2 t1
          exact ⟨x, y, by simpa using hx, by simpa using hy⟩
        obtain ⟨zs, hzl, hzs⟩ : ∃ zs : List Point, zs.length = len ∧ ∀ i, i < len → V0 i = .int .i64 (zs.getD i ⟨0, 0⟩).X ∧ V1 i = .int .i64 (zs.getD i ⟨0, 0⟩).Y := by
          refine ⟨(List.range len).map fun i => ⟨match V0 i with | .int _ n => n | _ => 0, match V1 i with | .int _ n => n | _ => 0⟩, by simp, fun i hi => ?_⟩
          obtain ⟨x, y, h1, h2⟩ := ints i (by omega)
          simp [List.getD, hi, h1, h2]
        subst hzl
        refine walk_IsLine_n zs b off _ W (by unfold maxLen at hm; omega) hbW (fun j hj => ?_)
        obtain ⟨c0, c1, _, _⟩ := hall j (by omega)
        obtain ⟨e0, e1⟩ := hzs j hj
        have a0 : ∀ n, ((⟨b, off, none⟩ : Addr).add n) = ⟨b, off + n, none⟩ := fun n => by first | (simp [Addr.add]; done) | (simp [Addr.add]; intro h; simp [h])
        rw [a0, e0] at c0
        rw [a0, e1] at c1
        exact ⟨c0, by rw [Nat.add_assoc]; exact c1⟩
  refine main.mono fun e W' ⟨he, hq⟩ => ?_
  subst he
  exact ⟨_, rfl, _, _, _, [], _, [], hW', trodAll_cons_mk (shut_bool Try.underlying4 _) trodAll_mk0,
    all_stay laidOut hq (by rw [Try.params8]; intro t ht; simp only [Array.toList, List.mem_cons, List.not_mem_nil, or_false] at ht; rcases ht with rfl <;> exact ⟨by kernel_rfl, of_decide_eq_true (by kernel_rfl)⟩) hA0,
    rfl, Below.frame hq _, fun h => by cases h⟩
theorem over : Rows.fnExactIsLineRow.holds Try.pinned (OpenSpec.ofChange Rows.fnExactIsLineSpec) :=
  OpenClaim.holds_of_wide 8 Try.f8 rfl rfl rfl rfl rfl rfl rfl ⟨rfl, rfl, rfl, rfl, rfl⟩ rfl rfl rfl rfl rfl (by kernel_rfl) Try.func8 (by kernel_rfl)
    (of_decide_eq_true (by kernel_rfl)) (by unfold Func.isWrapper; first | (rw [if_pos (by decide +kernel)]; kernel_rfl) | (rw [if_neg (by decide +kernel)]; exact ⟨rfl, rfl⟩))
    (fun os started H enc _ => lifted os started H enc)
theorem proved : Rows.FnExactIsLineSaid :=
  over
#print axioms proved
end lawFnExactIsLine
end Go.Proofs.Ytecnjkhncdjebaa
