/- The statement Rows.FnExactConvertHoursSaid is proved: for every argument the law returns true and its arguments read as before. No conditions. -/
import Derived.Test.YthooejkmccdfjaaRows
import Derived.Test.YthooejkmccdfjaaLaw
import Derived.Test.YthooejkmccdfjaaC1
import Derived.Test.YthooejkmccdfjaaC2
import Derived.Test.YthooejkmccdfjaaC3
import Derived.Test.YthooejkmccdfjaaC4
import Derived.Test.YthooejkmccdfjaaC5
import Derived.Test.YthooejkmccdfjaaC6
import Derived.Test.YthooejkmccdfjaaE1
import Derived.Test.YthooejkmccdfjaaE2
import Derived.Test.YthooejkmccdfjaaE3
import Derived.Test.YthooejkmccdfjaaE6
import Derived.Test.YthooejkmccdfjaaE8
import Derived.WalkKit
import Derived.ProofKit
import Derived.OpenShut
import Derived.WalkLawsBesides
import Derived.BigQuiet
import Derived.Deep.QuietTactic
import Derived.Deep.LoopGhost
import Derived.LoopN
import Derived.Deep.RegionWith
import Derived.Deep.CutRange
import Derived.Test.YthooejkmccdfjaaOwn
namespace Go.Proofs.Ythooejkmccdfjaa
open Go.ChangeShapes Go.WideShapes Go.ChangeAt Go.RowKit
set_option linter.unusedVariables false
set_option linter.unusedSimpArgs false
theorem Row.mfrozen {w : World} {g : Nat} {xs : List Value} (hr : Row w g xs) (k : Int) (n : Nat) : ∀ b o, (markAll w g k n).frozen? ⟨b, o, none⟩ = w.frozen? ⟨b, o, none⟩ := markAll_frozen w g k n
theorem Row.msize {w : World} {g : Nat} {xs : List Value} (hr : Row w g xs) (k : Int) (n : Nat) : (markAll w g k n).heap.size = w.heap.size := markAll_size w g k n
set_option maxHeartbeats 1000000 in
theorem c_S_l01Has (zs : List Int) (x : Int) (g cap : Nat) (w : World) (hl : zs.length ≤ 100000) (r : Row w g (ints zs)) : Calls Try.prog 96 #[.slice (some ⟨g, 0, none⟩) zs.length cap, .int .i64 x] w fun e w' => e = .returned (.bool (decide (x ∈ zs))) ∧ Q w w' := by
  have hset := setRule
  have hall := allocRule
  have halm := allocMark
  have hw64 := wrapRule
  have hg1 := r.1
  go_enter Try.func96, Try.ntmps96
  go_wp2
  go_loopg [5] zs.length (fun k i wr => Q w wr ∧ ∃ j : Nat, j + k = zs.length ∧ i = .int .i64 (j : Int) ∧ x ∉ zs.take j)
  case atStart => exact ⟨(by repeat (first | (with_reducible exact Q.refl _) | (with_reducible assumption) | (with_reducible refine Q.setCell ?_ (by dsimp only; omega) _) | (with_reducible refine Q.alloc ?_ _) | (with_reducible refine Q.drew ?_) | (with_reducible refine Q.call ?_ (by with_reducible assumption)))), 0, by omega, rfl, by simp⟩
  case round =>
    obtain ⟨hq, j, hjk, rfl, hno⟩ := hrel
    have hr := Q.rules hq; have hc := hr.1; have hf := hr.2; clear hr; have hs := Q.le hq; try simp at hs
    have hw1 : wrap64 ((j : Int) + 1) = (j : Int) + 1 := w64 (by omega)
    by_cases hj : j < zs.length
    · have hjI : (j : Int) < (zs.length : Int) := by omega
      have hjg : ¬ (zs.length : Int) ≤ (j : Int) := by omega
      have hx1 := r.at hj
      generalize hz : zs.getD j 0 = z at hx1
      by_cases he : (z == x) = true
      · have hm : x ∈ zs := mem_of_at hj (by rw [hz]; simpa using he)
        clear hno hz
        go_wp2
        go_ret
        exact ⟨by simp [hm], (by repeat (first | (with_reducible exact Q.refl _) | (with_reducible assumption) | (with_reducible refine Q.setCell ?_ (by dsimp only; omega) _) | (with_reducible refine Q.alloc ?_ _) | (with_reducible refine Q.drew ?_) | (with_reducible refine Q.call ?_ (by with_reducible assumption))))⟩
      · have hn := not_next hno (by rw [hz]; simpa using he) hj
        have hn2 : Hid (x ∉ zs.take (j + 1)) := hn
        clear hn hno hz
        go_wp2
        go_roundg (gk - 1)
        case measure => omega
        case rel => exact ⟨(by repeat (first | (with_reducible exact Q.refl _) | (with_reducible assumption) | (with_reducible refine Q.setCell ?_ (by dsimp only; omega) _) | (with_reducible refine Q.alloc ?_ _) | (with_reducible refine Q.drew ?_) | (with_reducible refine Q.call ?_ (by with_reducible assumption)))), j + 1, by omega, by (first | rfl | simp), hn2⟩
    · have hjI : ¬ (j : Int) < (zs.length : Int) := by omega
      have hjg : (zs.length : Int) ≤ (j : Int) := by omega
      have hm : x ∉ zs := by rwa [show j = zs.length by omega, List.take_length] at hno
      clear hno
      go_wp2
      go_ret
      exact ⟨by simp [hm], (by repeat (first | (with_reducible exact Q.refl _) | (with_reducible assumption) | (with_reducible refine Q.setCell ?_ (by dsimp only; omega) _) | (with_reducible refine Q.alloc ?_ _) | (with_reducible refine Q.drew ?_) | (with_reducible refine Q.call ?_ (by with_reducible assumption))))⟩
set_option maxHeartbeats 1000000 in
theorem c_Index (zs : List Int) (x : Int) (g cap : Nat) (w : World) (hl : zs.length ≤ 100000) (r : Row w g (ints zs)) : Calls Try.prog 139 #[.slice (some ⟨g, 0, none⟩) zs.length cap, .int .i64 x] w fun e w' => ∃ n : Int, e = .returned (.int .i64 n) ∧ (decide (0 ≤ n) = decide (x ∈ zs)) ∧ Q w w' := by
  have hset := setRule
  have hall := allocRule
  have halm := allocMark
  have hw64 := wrapRule
  have hg1 := r.1
  go_enter Try.func139, Try.ntmps139
  go_wp2
  go_loopg [8] zs.length (fun k i wr => Q w wr ∧ ∃ j : Nat, j + k = zs.length ∧ i = .int .i64 (j : Int) ∧ x ∉ zs.take j)
  case atStart => exact ⟨(by repeat (first | (with_reducible exact Q.refl _) | (with_reducible assumption) | (with_reducible refine Q.setCell ?_ (by dsimp only; omega) _) | (with_reducible refine Q.alloc ?_ _) | (with_reducible refine Q.drew ?_) | (with_reducible refine Q.call ?_ (by with_reducible assumption)))), 0, by omega, rfl, by simp⟩
  case round =>
    obtain ⟨hq, j, hjk, rfl, hno⟩ := hrel
    have hr := Q.rules hq; have hc := hr.1; have hf := hr.2; clear hr; have hs := Q.le hq; try simp at hs
    have hw1 : wrap64 ((j : Int) + 1) = (j : Int) + 1 := w64 (by omega)
    by_cases hj : j < zs.length
    · have hjI : (j : Int) < (zs.length : Int) := by omega
      have hjg : ¬ (zs.length : Int) ≤ (j : Int) := by omega
      have hx1 := r.at hj
      generalize hz : zs.getD j 0 = z at hx1
      by_cases he : (x == z) = true
      · have hm : x ∈ zs := mem_of_at hj (by rw [hz]; exact (by simpa using he : x = z).symm)
        clear hno hz
        go_wp2
        go_ret
        exact ⟨(j : Int), rfl, by simp [hm], (by repeat (first | (with_reducible exact Q.refl _) | (with_reducible assumption) | (with_reducible refine Q.setCell ?_ (by dsimp only; omega) _) | (with_reducible refine Q.alloc ?_ _) | (with_reducible refine Q.drew ?_) | (with_reducible refine Q.call ?_ (by with_reducible assumption))))⟩
      · have hn := not_next hno (by rw [hz]; exact fun h => he (by simp [h])) hj
        have hn2 : Hid (x ∉ zs.take (j + 1)) := hn
        clear hn hno hz
        go_wp2
        go_roundg (gk - 1)
        case measure => omega
        case rel => exact ⟨(by repeat (first | (with_reducible exact Q.refl _) | (with_reducible assumption) | (with_reducible refine Q.setCell ?_ (by dsimp only; omega) _) | (with_reducible refine Q.alloc ?_ _) | (with_reducible refine Q.drew ?_) | (with_reducible refine Q.call ?_ (by with_reducible assumption)))), j + 1, by omega, by (first | rfl | simp), hn2⟩
    · have hjI : ¬ (j : Int) < (zs.length : Int) := by omega
      have hjg : (zs.length : Int) ≤ (j : Int) := by omega
      have hm : x ∉ zs := by rwa [show j = zs.length by omega, List.take_length] at hno
      clear hno
      go_wp2
      go_ret
      exact ⟨-1, rfl, by simp [hm], (by repeat (first | (with_reducible exact Q.refl _) | (with_reducible assumption) | (with_reducible refine Q.setCell ?_ (by dsimp only; omega) _) | (with_reducible refine Q.alloc ?_ _) | (with_reducible refine Q.drew ?_) | (with_reducible refine Q.call ?_ (by with_reducible assumption))))⟩
theorem c_Contains (zs : List Int) (x : Int) (g cap : Nat) (w : World) (hl : zs.length ≤ 100000) (r : Row w g (ints zs)) : Calls Try.prog 97 #[.slice (some ⟨g, 0, none⟩) zs.length cap, .int .i64 x] w fun e w' => e = .returned (.bool (decide (x ∈ zs))) ∧ Q w w' := by
  have hset := setRule
  have hall := allocRule
  have halm := allocMark
  have hw64 := wrapRule
  go_enter Try.func97, Try.ntmps97
  go_wp2_with (go_at_call 139; refine (c_Index zs x g cap _ hl r).mono ?_; rintro e w1 ⟨n, rfl, hd, hq⟩)
  go_ret
  exact ⟨by simp [hd], (by repeat (first | (with_reducible exact Q.refl _) | (with_reducible assumption) | (with_reducible refine Q.setCell ?_ (by dsimp only; omega) _) | (with_reducible refine Q.alloc ?_ _) | (with_reducible refine Q.drew ?_) | (with_reducible refine Q.call ?_ (by with_reducible assumption))))⟩
set_option maxRecDepth 100000 in
set_option maxHeartbeats 8000000 in
theorem c_S_ConvertHours_ok (d_Rise d_Set from_ to_ number : Int) (w : World) (h0 : ((S_ccode (⟨d_Rise, d_Set⟩ : Day) from_ to_ number) == 0) = true) : Calls Try.prog 43 #[.agg #[.int .i64 d_Rise, .int .i64 d_Set], .int .i64 from_, .int .i64 to_, .int .i64 number] w fun e w' => ∃ g cap, e = .returned (.tuple #[.slice (some ⟨g, 0, none⟩) (S_Convert (⟨d_Rise, d_Set⟩ : Day) from_ to_ number).length cap, .int .i64 0]) ∧ Q w w' ∧ w.heap.size ≤ g ∧ Row w' g (ints (S_Convert (⟨d_Rise, d_Set⟩ : Day) from_ to_ number)) := by
  have hset := setRule
  have hall := allocRule
  have halm := allocMark
  have hw64 := wrapRule
  have hz0 : S_ccode (⟨d_Rise, d_Set⟩ : Day) from_ to_ number = 0 := by simpa using h0
  have hn0 : ((S_ccode (⟨d_Rise, d_Set⟩ : Day) from_ to_ number) != 0) = false := by simpa using h0
  obtain ⟨hc1, hc2⟩ := ccode_ok hz0
  obtain ⟨hpd, _, _⟩ := code_ok hc1
  obtain ⟨hp0, hp1, hp3⟩ := (IsDay_iff _).1 hpd
  have hsy : S_l12System to_ = true := (in_iff _ _ _).2 hc2
  simp only at hp0 hp1 hp3
  have hp2 : d_Set ≤ 1439 := by omega
  clear hp3
  clear hz0 hn0 h0 hc2 hpd
  have hinfo : (Try.prog.info? 2).map (fun i => (i.zero, i.size, i.bytes)) = some (some (.int .i64 0), 1, 8) := by kernel_rfl
  obtain ⟨i0, hi, hz0, hz1, hz2⟩ := info_parts hinfo
  have hmade : ∀ wq : World, w.heap.size + 1 ≤ wq.heap.size → (wq.alloc (.cells #[] 2)).ownsRow (w.heap.size + 1) 2 1 (.slice (some ⟨wq.heap.size, 0, none⟩) 0 0) 0 [] := fun wq hwq => World.ownsRow_made (base := w.heap.size + 1) (e := 2) (size := 1) wq #[] 0 hwq (by simp [maxLen]) (by simp)
  have hml : (S_l12With (⟨d_Rise, d_Set⟩ : Day) from_ number).length ≤ 100000 := with_length _ _ _
  go_enter Try.func43, Try.ntmps43
  go_wp2_with (first | (go_at_call 89; refine (c_S_l12Code _ _ _ _ _ ).mono ?_; rintro e w1 ⟨rfl, hq⟩; obtain ⟨hc, hf⟩ := hq.rules; have hs := hq.le; try simp at hs) | (go_at_call 95; refine (c_S_l12System _ _ ).mono ?_; rintro e w1 ⟨rfl, rfl⟩) | (go_at_call 90; refine (c_S_l12Number _ _ _ _ _ hp0 hp1 hp2).mono ?_; rintro e w1 ⟨rfl, hq⟩; obtain ⟨hc, hf⟩ := hq.rules; have hs := hq.le; try simp at hs) | (go_at_call 93; refine (c_S_l12With _ _ _ _ _ hp0 hp1 hp2).mono ?_; rintro e w1 ⟨gM, capM, rfl, hq, hgM, hrM⟩; obtain ⟨hc, hf⟩ := hq.rules; have hs := hq.le; (try simp at hs); (try simp at hgM); have hltM := hrM.1) | (go_at_call 96; refine (c_S_l01Has _ _ _ _ _ hlc (by first | (with_reducible exact hrR) | exact Row.call hrR (by with_reducible assumption))).mono ?_; rintro e w1 ⟨rfl, hq⟩; obtain ⟨hc, hf⟩ := hq.rules; have hs := hq.le; (try simp at hs)))
  have hgMf : (gM < w.heap.size + 1) = False := eq_false (by omega)
  generalize hms : S_l12With (⟨d_Rise, d_Set⟩ : Day) from_ number = ms at *
  go_loopg [12, 13] ms.length (fun k v i wr => Q (w.alloc (.cells #[.int .i64 d_Rise, .int .i64 d_Set] 58)) wr ∧ ∃ j : Nat, j + k = ms.length ∧ i = .int .i64 (j : Int) ∧ wr.ownsRow (w.heap.size + 1) 2 1 v (convList (S_l12Number (⟨d_Rise, d_Set⟩ : Day) to_) ms j).length (ints (convList (S_l12Number (⟨d_Rise, d_Set⟩ : Day) to_) ms j)) ∧ v ≠ .slice none 0 0 ∧ v.ownBlock ≠ some gM ∧ Row wr gM (ints ms))
  case atStart => exact ⟨(by repeat (first | (with_reducible exact Q.refl _) | (with_reducible assumption) | (with_reducible refine Q.setCell ?_ (by dsimp only; omega) _) | (with_reducible refine Q.alloc ?_ _) | (with_reducible refine Q.drew ?_) | (refine Q.grown ?_ (by with_reducible assumption) (by with_reducible assumption)) | (with_reducible refine Q.call ?_ (by with_reducible assumption)))), 0, by omega, rfl, own_call (hmade _ (by first | omega | (simp; omega))) (Q.refl _), by simp, by simp [Value.ownBlock]; omega, Row.call hrM (by repeat (first | (with_reducible exact Q.refl _) | (with_reducible assumption) | (with_reducible refine Q.setCell ?_ (by dsimp only; omega) _) | (with_reducible refine Q.alloc ?_ _) | (with_reducible refine Q.drew ?_) | (with_reducible refine Q.call ?_ (by with_reducible assumption))))⟩
  case round =>
    obtain ⟨hq, j, hjk, rfl, hown, hnn, hva, hrM⟩ := hrel
    have hr := Q.rules hq; have hc := hr.1; have hf := hr.2; clear hr; have hs := Q.le hq; try simp at hs
    have hltM := hrM.1
    obtain ⟨gR, capR, hvv, hgR, hrR⟩ := own_slice hown hnn
    subst hvv
    have hvb := own_block hown
    have hvw : ∀ k, (Value.slice (some ⟨gR, 0, none⟩) (convList (S_l12Number (⟨d_Rise, d_Set⟩ : Day) to_) ms j).length capR).ownBlock = some k → w.heap.size ≤ k := fun k hk => by have := hvb k hk; omega
    have hv0 : ∀ k, (Value.slice (some ⟨gR, 0, none⟩) (convList (S_l12Number (⟨d_Rise, d_Set⟩ : Day) to_) ms j).length capR).ownBlock = some k → (w.alloc (.cells #[.int .i64 d_Rise, .int .i64 d_Set] 58)).heap.size ≤ k := fun k hk => by have := hvb k hk; simp; omega
    have hw1 : wrap64 ((j : Int) + 1) = (j : Int) + 1 := w64 (by omega)
    have hlen := conv_length (S_l12Number (⟨d_Rise, d_Set⟩ : Day) to_) ms j
    have hlc : (convList (S_l12Number (⟨d_Rise, d_Set⟩ : Day) to_) ms j).length ≤ 100000 := Nat.le_trans hlen (Nat.le_trans (Nat.le.intro hjk) hml)
    have hjs : j ≤ 100000 := Nat.le_trans (Nat.le.intro hjk) hml
    by_cases hj : j < ms.length
    · have hjI : (j : Int) < (ms.length : Int) := by omega
      have hjg : ¬ (ms.length : Int) ≤ (j : Int) := by omega
      have hx1 := hrM.at hj
      have hnew : Hid (¬ S_l12Number (⟨d_Rise, d_Set⟩ : Day) to_ (ms.getD j 0) ∈ convList (S_l12Number (⟨d_Rise, d_Set⟩ : Day) to_) ms j → convList (S_l12Number (⟨d_Rise, d_Set⟩ : Day) to_) ms (j + 1) = convList (S_l12Number (⟨d_Rise, d_Set⟩ : Day) to_) ms j ++ [S_l12Number (⟨d_Rise, d_Set⟩ : Day) to_ (ms.getD j 0)]) := fun h => conv_new h
      have hold : Hid (S_l12Number (⟨d_Rise, d_Set⟩ : Day) to_ (ms.getD j 0) ∈ convList (S_l12Number (⟨d_Rise, d_Set⟩ : Day) to_) ms j → convList (S_l12Number (⟨d_Rise, d_Set⟩ : Day) to_) ms (j + 1) = convList (S_l12Number (⟨d_Rise, d_Set⟩ : Day) to_) ms j) := fun h => conv_old h
      have hx2 : newCell wr gM j = some (.int .i64 (ms.getD j 0)) := hx1
      clear hx1
      generalize ms.getD j 0 = z at *
      by_cases hmem : S_l12Number (⟨d_Rise, d_Set⟩ : Day) to_ z ∈ convList (S_l12Number (⟨d_Rise, d_Set⟩ : Day) to_) ms j
      · have hup : Hid (convList (S_l12Number (⟨d_Rise, d_Set⟩ : Day) to_) ms (j + 1) = convList (S_l12Number (⟨d_Rise, d_Set⟩ : Day) to_) ms j) := hold hmem
        clear hnew hold
        go_wp2_with (first | (go_at_call 89; refine (c_S_l12Code _ _ _ _ _ ).mono ?_; rintro e w1 ⟨rfl, hq⟩; obtain ⟨hc, hf⟩ := hq.rules; have hs := hq.le; try simp at hs) | (go_at_call 95; refine (c_S_l12System _ _ ).mono ?_; rintro e w1 ⟨rfl, rfl⟩) | (go_at_call 90; refine (c_S_l12Number _ _ _ _ _ hp0 hp1 hp2).mono ?_; rintro e w1 ⟨rfl, hq⟩; obtain ⟨hc, hf⟩ := hq.rules; have hs := hq.le; try simp at hs) | (go_at_call 93; refine (c_S_l12With _ _ _ _ _ hp0 hp1 hp2).mono ?_; rintro e w1 ⟨gM, capM, rfl, hq, hgM, hrM⟩; obtain ⟨hc, hf⟩ := hq.rules; have hs := hq.le; (try simp at hs); (try simp at hgM); have hltM := hrM.1) | (go_at_call 96; refine (c_S_l01Has _ _ _ _ _ hlc (by first | (with_reducible exact hrR) | exact Row.call hrR (by with_reducible assumption))).mono ?_; rintro e w1 ⟨rfl, hq⟩; obtain ⟨hc, hf⟩ := hq.rules; have hs := hq.le; (try simp at hs)))
        all_goals try (
          refine region_Q_all (id := 11) (by kernel_rfl) (by kernel_rfl) ?_
          repeat (first | (apply q_step rfl; (intro wq hq; have hr := Q.rules hq; have hcq := hr.1; have hfq := hr.2; clear hr; have hsq := Q.le hq; (try simp at hsq); go_simp; (repeat (simp (disch := omega) only [if_pos, if_neg]; try go_simp)); (first | rfl | exact ⟨rfl, rfl⟩ | (go_at_call 90; exact quiet_grow hq (c_S_l12Number _ _ _ _ _ hp0 hp1 hp2)))); try go_simp) | (apply q_skip rfl; try go_simp))
          refine wpQuiet_nil ?_
          intro w1 hq
          have hr := Q.rules hq; have hc := hr.1; have hf := hr.2; clear hr; have hs := Q.le hq; try simp at hs)
        all_goals try go_wp2_with (first | (go_at_call 89; refine (c_S_l12Code _ _ _ _ _ ).mono ?_; rintro e w1 ⟨rfl, hq⟩; obtain ⟨hc, hf⟩ := hq.rules; have hs := hq.le; try simp at hs) | (go_at_call 95; refine (c_S_l12System _ _ ).mono ?_; rintro e w1 ⟨rfl, rfl⟩) | (go_at_call 90; refine (c_S_l12Number _ _ _ _ _ hp0 hp1 hp2).mono ?_; rintro e w1 ⟨rfl, hq⟩; obtain ⟨hc, hf⟩ := hq.rules; have hs := hq.le; try simp at hs) | (go_at_call 93; refine (c_S_l12With _ _ _ _ _ hp0 hp1 hp2).mono ?_; rintro e w1 ⟨gM, capM, rfl, hq, hgM, hrM⟩; obtain ⟨hc, hf⟩ := hq.rules; have hs := hq.le; (try simp at hs); (try simp at hgM); have hltM := hrM.1) | (go_at_call 96; refine (c_S_l01Has _ _ _ _ _ hlc (by first | (with_reducible exact hrR) | exact Row.call hrR (by with_reducible assumption))).mono ?_; rintro e w1 ⟨rfl, hq⟩; obtain ⟨hc, hf⟩ := hq.rules; have hs := hq.le; (try simp at hs)))
        go_roundg (gk - 1)
        case measure => omega
        case rel =>
          refine ⟨(by repeat (first | (with_reducible exact Q.refl _) | (with_reducible assumption) | (with_reducible refine Q.setCell ?_ (by dsimp only; omega) _) | (with_reducible refine Q.alloc ?_ _) | (with_reducible refine Q.drew ?_) | (with_reducible refine Q.call ?_ (by with_reducible assumption)))), j + 1, by omega, by (first | rfl | simp), ?_, hnn, hva, Row.call hrM (by repeat (first | (with_reducible exact Q.refl _) | (with_reducible assumption) | (with_reducible refine Q.setCell ?_ (by dsimp only; omega) _) | (with_reducible refine Q.alloc ?_ _) | (with_reducible refine Q.drew ?_) | (with_reducible refine Q.call ?_ (by with_reducible assumption))))⟩
          rw [show convList (S_l12Number (⟨d_Rise, d_Set⟩ : Day) to_) ms (j + 1) = convList (S_l12Number (⟨d_Rise, d_Set⟩ : Day) to_) ms j from hup]
          exact own_call hown (by repeat (first | (with_reducible exact Q.refl _) | (with_reducible assumption) | (with_reducible refine Q.setCell ?_ (by dsimp only; omega) _) | (with_reducible refine Q.alloc ?_ _) | (with_reducible refine Q.drew ?_) | (with_reducible refine Q.call ?_ (by with_reducible assumption))))
      · have hup : Hid (convList (S_l12Number (⟨d_Rise, d_Set⟩ : Day) to_) ms (j + 1) = convList (S_l12Number (⟨d_Rise, d_Set⟩ : Day) to_) ms j ++ [S_l12Number (⟨d_Rise, d_Set⟩ : Day) to_ z]) := hnew hmem
        clear hnew hold
        go_wp2_with (first | (go_at_call 89; refine (c_S_l12Code _ _ _ _ _ ).mono ?_; rintro e w1 ⟨rfl, hq⟩; obtain ⟨hc, hf⟩ := hq.rules; have hs := hq.le; try simp at hs) | (go_at_call 95; refine (c_S_l12System _ _ ).mono ?_; rintro e w1 ⟨rfl, rfl⟩) | (go_at_call 90; refine (c_S_l12Number _ _ _ _ _ hp0 hp1 hp2).mono ?_; rintro e w1 ⟨rfl, hq⟩; obtain ⟨hc, hf⟩ := hq.rules; have hs := hq.le; try simp at hs) | (go_at_call 93; refine (c_S_l12With _ _ _ _ _ hp0 hp1 hp2).mono ?_; rintro e w1 ⟨gM, capM, rfl, hq, hgM, hrM⟩; obtain ⟨hc, hf⟩ := hq.rules; have hs := hq.le; (try simp at hs); (try simp at hgM); have hltM := hrM.1) | (go_at_call 96; refine (c_S_l01Has _ _ _ _ _ hlc (by first | (with_reducible exact hrR) | exact Row.call hrR (by with_reducible assumption))).mono ?_; rintro e w1 ⟨rfl, hq⟩; obtain ⟨hc, hf⟩ := hq.rules; have hs := hq.le; (try simp at hs)) | (at_builtin; (first | (refine wpList_append_own_at _ rfl _ _ 61 rfl (w.heap.size + 1) 2 i0 (.int .i64 0) 1 8 Try.underlying61 hi hz0 hz1 hz2 rfl (by decide) _ _ _ (by rfl) (own_call (hown) (by repeat (first | (with_reducible exact Q.refl _) | (with_reducible assumption) | (with_reducible refine Q.setCell ?_ (by dsimp only; omega) _) | (with_reducible refine Q.alloc ?_ _) | (with_reducible refine Q.drew ?_) | (refine Q.grown ?_ (by with_reducible assumption) (by with_reducible assumption)) | (with_reducible refine Q.call ?_ (by with_reducible assumption))))) _ 1 1 _ rfl (by simp) (cells_at (by simp)) (by simp [Value.oneCell']) (by first | omega | (simp [maxLen]; done) | (simp [maxLen]; omega)) (by first | omega | (simp; done) | (simp; omega)) (by first | omega | (simp; done) | (simp; omega)) ?_) | (refine wpList_append_own_at _ rfl _ _ 61 rfl (w.heap.size + 1) 2 i0 (.int .i64 0) 1 8 Try.underlying61 hi hz0 hz1 hz2 rfl (by decide) _ _ _ (by rfl) (own_call (hown) (by repeat (first | (with_reducible exact Q.refl _) | (with_reducible assumption) | (with_reducible refine Q.setCell ?_ (by dsimp only; omega) _) | (with_reducible refine Q.alloc ?_ _) | (with_reducible refine Q.drew ?_) | (refine Q.grown ?_ (by with_reducible assumption) (by with_reducible assumption)) | (with_reducible refine Q.call ?_ (by with_reducible assumption))))) _ 1 1 _ rfl (by simp) (cells_at (by simp)) (by simp [Value.oneCell']) (by first | omega | (simp [maxLen]; done) | (simp [maxLen]; omega)) (by first | omega | (simp; done) | (simp; omega)) (by first | omega | (simp; done) | (simp; omega)) ?_)); intro v2 w1 hown hgrow hnil hblk; have hgr := grown_rules (B := w.heap.size + 1) (g := gM) hgrow hvb hva (by first | omega | (simp; omega)) (by first | omega | (simp; omega)); have hva := apart_next hva (by first | omega | (simp; omega)) hblk; have hvb := own_block hown; have hvw : ∀ k, v2.ownBlock = some k → w.heap.size ≤ k := fun k hk => Nat.le_trans (by omega) (hvb k hk); obtain ⟨hc, hf, hs⟩ := hgr; (try simp at hs)))
        all_goals try (
          refine region_Q_all (id := 11) (by kernel_rfl) (by kernel_rfl) ?_
          repeat (first | (apply q_step rfl; (intro wq hq; have hr := Q.rules hq; have hcq := hr.1; have hfq := hr.2; clear hr; have hsq := Q.le hq; (try simp at hsq); go_simp; (repeat (simp (disch := omega) only [if_pos, if_neg]; try go_simp)); (first | rfl | exact ⟨rfl, rfl⟩ | (go_at_call 90; exact quiet_grow hq (c_S_l12Number _ _ _ _ _ hp0 hp1 hp2)))); try go_simp) | (apply q_skip rfl; try go_simp))
          refine wpQuiet_nil ?_
          intro w1 hq
          have hr := Q.rules hq; have hc := hr.1; have hf := hr.2; clear hr; have hs := Q.le hq; try simp at hs)
        all_goals try go_wp2_with (first | (go_at_call 89; refine (c_S_l12Code _ _ _ _ _ ).mono ?_; rintro e w1 ⟨rfl, hq⟩; obtain ⟨hc, hf⟩ := hq.rules; have hs := hq.le; try simp at hs) | (go_at_call 95; refine (c_S_l12System _ _ ).mono ?_; rintro e w1 ⟨rfl, rfl⟩) | (go_at_call 90; refine (c_S_l12Number _ _ _ _ _ hp0 hp1 hp2).mono ?_; rintro e w1 ⟨rfl, hq⟩; obtain ⟨hc, hf⟩ := hq.rules; have hs := hq.le; try simp at hs) | (go_at_call 93; refine (c_S_l12With _ _ _ _ _ hp0 hp1 hp2).mono ?_; rintro e w1 ⟨gM, capM, rfl, hq, hgM, hrM⟩; obtain ⟨hc, hf⟩ := hq.rules; have hs := hq.le; (try simp at hs); (try simp at hgM); have hltM := hrM.1) | (go_at_call 96; refine (c_S_l01Has _ _ _ _ _ hlc (by first | (with_reducible exact hrR) | exact Row.call hrR (by with_reducible assumption))).mono ?_; rintro e w1 ⟨rfl, hq⟩; obtain ⟨hc, hf⟩ := hq.rules; have hs := hq.le; (try simp at hs)) | (at_builtin; (first | (refine wpList_append_own_at _ rfl _ _ 61 rfl (w.heap.size + 1) 2 i0 (.int .i64 0) 1 8 Try.underlying61 hi hz0 hz1 hz2 rfl (by decide) _ _ _ (by rfl) (own_call (hown) (by repeat (first | (with_reducible exact Q.refl _) | (with_reducible assumption) | (with_reducible refine Q.setCell ?_ (by dsimp only; omega) _) | (with_reducible refine Q.alloc ?_ _) | (with_reducible refine Q.drew ?_) | (refine Q.grown ?_ (by with_reducible assumption) (by with_reducible assumption)) | (with_reducible refine Q.call ?_ (by with_reducible assumption))))) _ 1 1 _ rfl (by simp) (cells_at (by simp)) (by simp [Value.oneCell']) (by first | omega | (simp [maxLen]; done) | (simp [maxLen]; omega)) (by first | omega | (simp; done) | (simp; omega)) (by first | omega | (simp; done) | (simp; omega)) ?_) | (refine wpList_append_own_at _ rfl _ _ 61 rfl (w.heap.size + 1) 2 i0 (.int .i64 0) 1 8 Try.underlying61 hi hz0 hz1 hz2 rfl (by decide) _ _ _ (by rfl) (own_call (hown) (by repeat (first | (with_reducible exact Q.refl _) | (with_reducible assumption) | (with_reducible refine Q.setCell ?_ (by dsimp only; omega) _) | (with_reducible refine Q.alloc ?_ _) | (with_reducible refine Q.drew ?_) | (refine Q.grown ?_ (by with_reducible assumption) (by with_reducible assumption)) | (with_reducible refine Q.call ?_ (by with_reducible assumption))))) _ 1 1 _ rfl (by simp) (cells_at (by simp)) (by simp [Value.oneCell']) (by first | omega | (simp [maxLen]; done) | (simp [maxLen]; omega)) (by first | omega | (simp; done) | (simp; omega)) (by first | omega | (simp; done) | (simp; omega)) ?_)); intro v2 w1 hown hgrow hnil hblk; have hgr := grown_rules (B := w.heap.size + 1) (g := gM) hgrow hvb hva (by first | omega | (simp; omega)) (by first | omega | (simp; omega)); have hva := apart_next hva (by first | omega | (simp; omega)) hblk; have hvb := own_block hown; have hvw : ∀ k, v2.ownBlock = some k → w.heap.size ≤ k := fun k hk => Nat.le_trans (by omega) (hvb k hk); obtain ⟨hc, hf, hs⟩ := hgr; (try simp at hs)))
        go_roundg (gk - 1)
        case measure => omega
        case rel =>
          refine ⟨(by repeat (first | (with_reducible exact Q.refl _) | (with_reducible assumption) | (with_reducible refine Q.setCell ?_ (by dsimp only; omega) _) | (with_reducible refine Q.alloc ?_ _) | (with_reducible refine Q.drew ?_) | (refine Q.grown ?_ (by with_reducible assumption) (by with_reducible assumption)) | (with_reducible refine Q.call ?_ (by with_reducible assumption)))), j + 1, by omega, by (first | rfl | simp), ?_, fun e => by have := (hnil.1 e).2; omega, hva, ?_⟩
          · rw [show convList (S_l12Number (⟨d_Rise, d_Set⟩ : Day) to_) ms (j + 1) = convList (S_l12Number (⟨d_Rise, d_Set⟩ : Day) to_) ms j ++ [S_l12Number (⟨d_Rise, d_Set⟩ : Day) to_ z] from hup]
            simpa [ints] using hown
          · exact Row.grown (Row.call hrM (by repeat (first | (with_reducible exact Q.refl _) | (with_reducible assumption) | (with_reducible refine Q.setCell ?_ (by dsimp only; omega) _) | (with_reducible refine Q.alloc ?_ _) | (with_reducible refine Q.drew ?_) | (with_reducible refine Q.call ?_ (by with_reducible assumption))))) hgrow (by assumption)
    · have hjI : ¬ (j : Int) < (ms.length : Int) := by omega
      have hjg : (ms.length : Int) ≤ (j : Int) := by omega
      have hje : j = ms.length := by omega
      subst hje
      clear hva hvw hv0 hvb hlen hnn hown
      have hgR2 : w.heap.size ≤ gR := by omega
      go_wp2_with (first | (go_at_call 89; refine (c_S_l12Code _ _ _ _ _ ).mono ?_; rintro e w1 ⟨rfl, hq⟩; obtain ⟨hc, hf⟩ := hq.rules; have hs := hq.le; try simp at hs) | (go_at_call 95; refine (c_S_l12System _ _ ).mono ?_; rintro e w1 ⟨rfl, rfl⟩) | (go_at_call 90; refine (c_S_l12Number _ _ _ _ _ hp0 hp1 hp2).mono ?_; rintro e w1 ⟨rfl, hq⟩; obtain ⟨hc, hf⟩ := hq.rules; have hs := hq.le; try simp at hs) | (go_at_call 93; refine (c_S_l12With _ _ _ _ _ hp0 hp1 hp2).mono ?_; rintro e w1 ⟨gM, capM, rfl, hq, hgM, hrM⟩; obtain ⟨hc, hf⟩ := hq.rules; have hs := hq.le; (try simp at hs); (try simp at hgM); have hltM := hrM.1) | (go_at_call 96; refine (c_S_l01Has _ _ _ _ _ hlc (by first | (with_reducible exact hrR) | exact Row.call hrR (by with_reducible assumption))).mono ?_; rintro e w1 ⟨rfl, hq⟩; obtain ⟨hc, hf⟩ := hq.rules; have hs := hq.le; (try simp at hs)))
      go_ret2
      subst hms
      first | exact ⟨gR, capR, rfl, (by repeat (first | (with_reducible exact Q.refl _) | (with_reducible assumption) | (with_reducible refine Q.setCell ?_ (by dsimp only; omega) _) | (with_reducible refine Q.alloc ?_ _) | (with_reducible refine Q.drew ?_) | (with_reducible refine Q.call ?_ (by with_reducible assumption)))), hgR2, hrR⟩ | exact ⟨gR, ⟨capR, rfl⟩, (by repeat (first | (with_reducible exact Q.refl _) | (with_reducible assumption) | (with_reducible refine Q.setCell ?_ (by dsimp only; omega) _) | (with_reducible refine Q.alloc ?_ _) | (with_reducible refine Q.drew ?_) | (with_reducible refine Q.call ?_ (by with_reducible assumption)))), hgR2, hrR⟩
set_option maxRecDepth 100000 in
set_option maxHeartbeats 8000000 in
theorem c_S_ConvertHours_bad0 (d_Rise d_Set from_ to_ number : Int) (w : World) (h0 : ((S_ccode (⟨d_Rise, d_Set⟩ : Day) from_ to_ number) == 0) = false) : Calls Try.prog 43 #[.agg #[.int .i64 d_Rise, .int .i64 d_Set], .int .i64 from_, .int .i64 to_, .int .i64 number] w fun e w' => e = .returned (.tuple #[.slice none 0 0, .int .i64 (S_ccode (⟨d_Rise, d_Set⟩ : Day) from_ to_ number)]) ∧ Q w w' := by
  have hset := setRule
  have hall := allocRule
  have halm := allocMark
  have hw64 := wrapRule
  have hx : ¬ (S_ccode (⟨d_Rise, d_Set⟩ : Day) from_ to_ number = 0) := by simpa using h0
  by_cases hc : S_l12Code (⟨d_Rise, d_Set⟩ : Day) from_ number = 0
  · have hsy : S_l12System to_ = false := by
      cases hs : S_l12System to_ with
      | false => rfl
      | true => exact absurd (by simp [S_ccode, hc, hs]) hx
    have he : S_ccode (⟨d_Rise, d_Set⟩ : Day) from_ to_ number = 2 := by simp [S_ccode, hc, hsy]
    have hcb : (S_l12Code (⟨d_Rise, d_Set⟩ : Day) from_ number == 0) = true := by simpa using hc
    rw [he]
    clear hx h0 he hc
    go_enter Try.func43, Try.ntmps43
    go_wp2_with (first | (go_at_call 89; refine (c_S_l12Code _ _ _ _ _ ).mono ?_; rintro e w1 ⟨rfl, hq⟩; obtain ⟨hc, hf⟩ := hq.rules; have hs := hq.le; try simp at hs) | (go_at_call 95; refine (c_S_l12System _ _ ).mono ?_; rintro e w1 ⟨rfl, rfl⟩) | (go_at_call 90; refine (c_S_l12Number _ _ _ _ _ hp0 hp1 hp2).mono ?_; rintro e w1 ⟨rfl, hq⟩; obtain ⟨hc, hf⟩ := hq.rules; have hs := hq.le; try simp at hs))
    all_goals go_ret2
    all_goals refine ⟨?_, (by repeat (first | (with_reducible exact Q.refl _) | (with_reducible assumption) | (with_reducible refine Q.setCell ?_ (by dsimp only; omega) _) | (with_reducible refine Q.alloc ?_ _) | (with_reducible refine Q.drew ?_) | (with_reducible refine Q.call ?_ (by with_reducible assumption))))⟩
    all_goals first | rfl | (simp [*]; done)
  · have he : S_ccode (⟨d_Rise, d_Set⟩ : Day) from_ to_ number = S_l12Code (⟨d_Rise, d_Set⟩ : Day) from_ number := by simp [S_ccode, hc]
    have hcb : (S_l12Code (⟨d_Rise, d_Set⟩ : Day) from_ number == 0) = false := by simpa using hc
    have hcc : (S_l12Code (⟨d_Rise, d_Set⟩ : Day) from_ number != 0) = true := by simpa using hc
    rw [he]
    clear hx h0 he
    go_enter Try.func43, Try.ntmps43
    go_wp2_with (first | (go_at_call 89; refine (c_S_l12Code _ _ _ _ _ ).mono ?_; rintro e w1 ⟨rfl, hq⟩; obtain ⟨hc, hf⟩ := hq.rules; have hs := hq.le; try simp at hs) | (go_at_call 95; refine (c_S_l12System _ _ ).mono ?_; rintro e w1 ⟨rfl, rfl⟩) | (go_at_call 90; refine (c_S_l12Number _ _ _ _ _ hp0 hp1 hp2).mono ?_; rintro e w1 ⟨rfl, hq⟩; obtain ⟨hc, hf⟩ := hq.rules; have hs := hq.le; try simp at hs))
    all_goals go_ret2
    all_goals refine ⟨?_, (by repeat (first | (with_reducible exact Q.refl _) | (with_reducible assumption) | (with_reducible refine Q.setCell ?_ (by dsimp only; omega) _) | (with_reducible refine Q.alloc ?_ _) | (with_reducible refine Q.drew ?_) | (with_reducible refine Q.call ?_ (by with_reducible assumption))))⟩
    all_goals first | rfl | (simp [*]; done)
set_option maxRecDepth 100000 in
set_option maxHeartbeats 8000000 in
theorem c_I_ConvertHours_ok (d_Rise d_Set from_ to_ number : Int) (w : World) (h0 : ((I_counted (⟨d_Rise, d_Set⟩ : Day) number [from_, to_]) == 0) = true) : Calls Try.prog 44 #[.agg #[.int .i64 d_Rise, .int .i64 d_Set], .int .i64 from_, .int .i64 to_, .int .i64 number] w fun e w' => ∃ g cap, e = .returned (.tuple #[.slice (some ⟨g, 0, none⟩) (I_Convert (⟨d_Rise, d_Set⟩ : Day) from_ to_ number).length cap, .int .i64 0]) ∧ Q w w' ∧ w.heap.size ≤ g ∧ Row w' g (ints (I_Convert (⟨d_Rise, d_Set⟩ : Day) from_ to_ number)) := by
  have hset := setRule
  have hall := allocRule
  have halm := allocMark
  have hw64 := wrapRule
  have hz0 : I_counted (⟨d_Rise, d_Set⟩ : Day) number [from_, to_] = 0 := by simpa using h0
  have hn0 : ((I_counted (⟨d_Rise, d_Set⟩ : Day) number [from_, to_]) != 0) = false := by simpa using h0
  obtain ⟨hp0, hp1, hp3⟩ := pre_dayI hn0
  simp only at hp0 hp1 hp3
  have hp2 : d_Set ≤ 1439 := by omega
  clear hp3
  have hinfo : (Try.prog.info? 2).map (fun i => (i.zero, i.size, i.bytes)) = some (some (.int .i64 0), 1, 8) := by kernel_rfl
  obtain ⟨i0, hi, hz0, hz1, hz2⟩ := info_parts hinfo
  have hmade : ∀ wq : World, w.heap.size + 1 ≤ wq.heap.size → (wq.alloc (.cells #[] 2)).ownsRow (w.heap.size + 1) 2 1 (.slice (some ⟨wq.heap.size, 0, none⟩) 0 0) 0 [] := fun wq hwq => World.ownsRow_made (base := w.heap.size + 1) (e := 2) (size := 1) wq #[] 0 hwq (by simp [maxLen]) (by simp)
  have hml : (I_Day_minutesWith (⟨d_Rise, d_Set⟩ : Day) from_ number).length ≤ 100000 := iwith_length _ _ _
  go_enter Try.func44, Try.ntmps44
  go_wp2_with (first | (go_at_call 92; refine (c_I_Day_number _ _ _ _ _ hp0 hp1 hp2).mono ?_; rintro e w1 ⟨rfl, hq⟩; obtain ⟨hc, hf⟩ := hq.rules; have hs := hq.le; try simp at hs) | (go_at_call 91; refine (c_I_counted2 _ _ _ _ _ _ _ (by first | omega | (go_simp; done) | (go_simp; omega) | (simp; omega)) (by (try go_simp); (repeat (simp (disch := omega) only [if_pos, if_neg]; try go_simp)); first | done | rfl | (intro hx; exfalso; omega) | (simp [*]; done)) (by (try go_simp); (repeat (simp (disch := omega) only [if_pos, if_neg]; try go_simp)); first | done | rfl | (intro hx; exfalso; omega) | (simp [*]; done))).mono ?_; rintro e w1 ⟨rfl, hq⟩; obtain ⟨hc, hf⟩ := hq.rules; have hs := hq.le; try simp at hs) | (go_at_call 94; refine (c_I_Day_minutesWith _ _ _ _ _ hp0 hp1 hp2).mono ?_; rintro e w1 ⟨gM, capM, rfl, hq, hgM, hrM⟩; obtain ⟨hc, hf⟩ := hq.rules; have hs := hq.le; (try simp at hs); (try simp at hgM); have hltM := hrM.1; have hown0 := own_call (hmade _ (by first | omega | (simp; omega))) hq) | (go_at_call 97; refine (c_Contains _ _ _ _ _ hlc (by first | (with_reducible exact hrR) | exact Row.call hrR (by with_reducible assumption))).mono ?_; rintro e w1 ⟨rfl, hq⟩; obtain ⟨hc, hf⟩ := hq.rules; have hs := hq.le; (try simp at hs)))
  have hgMf : (gM < w.heap.size + 1) = False := eq_false (by omega)
  generalize hms : I_Day_minutesWith (⟨d_Rise, d_Set⟩ : Day) from_ number = ms at *
  go_loopg [11, 30] ms.length (fun k v i wr => Q (w.alloc (.cells #[.int .i64 d_Rise, .int .i64 d_Set] 58)) wr ∧ ∃ j : Nat, j + k = ms.length ∧ i = .int .i64 (j : Int) ∧ wr.ownsRow (w.heap.size + 1) 2 1 v (convList (I_Day_number (⟨d_Rise, d_Set⟩ : Day) to_) ms j).length (ints (convList (I_Day_number (⟨d_Rise, d_Set⟩ : Day) to_) ms j)) ∧ v ≠ .slice none 0 0 ∧ v.ownBlock ≠ some gM ∧ Row wr gM (ints ms))
  case atStart => exact ⟨(by repeat (first | (with_reducible exact Q.refl _) | (with_reducible assumption) | (with_reducible refine Q.setCell ?_ (by dsimp only; omega) _) | (with_reducible refine Q.alloc ?_ _) | (with_reducible refine Q.drew ?_) | (refine Q.grown ?_ (by with_reducible assumption) (by with_reducible assumption)) | (with_reducible refine Q.call ?_ (by with_reducible assumption)))), 0, by omega, rfl, hown0, by simp, by simp [Value.ownBlock]; omega, Row.call hrM (by repeat (first | (with_reducible exact Q.refl _) | (with_reducible assumption) | (with_reducible refine Q.setCell ?_ (by dsimp only; omega) _) | (with_reducible refine Q.alloc ?_ _) | (with_reducible refine Q.drew ?_) | (with_reducible refine Q.call ?_ (by with_reducible assumption))))⟩
  case round =>
    obtain ⟨hq, j, hjk, rfl, hown, hnn, hva, hrM⟩ := hrel
    have hr := Q.rules hq; have hc := hr.1; have hf := hr.2; clear hr; have hs := Q.le hq; try simp at hs
    have hltM := hrM.1
    obtain ⟨gR, capR, hvv, hgR, hrR⟩ := own_slice hown hnn
    subst hvv
    have hvb := own_block hown
    have hvw : ∀ k, (Value.slice (some ⟨gR, 0, none⟩) (convList (I_Day_number (⟨d_Rise, d_Set⟩ : Day) to_) ms j).length capR).ownBlock = some k → w.heap.size ≤ k := fun k hk => by have := hvb k hk; omega
    have hv0 : ∀ k, (Value.slice (some ⟨gR, 0, none⟩) (convList (I_Day_number (⟨d_Rise, d_Set⟩ : Day) to_) ms j).length capR).ownBlock = some k → (w.alloc (.cells #[.int .i64 d_Rise, .int .i64 d_Set] 58)).heap.size ≤ k := fun k hk => by have := hvb k hk; simp; omega
    have hw1 : wrap64 ((j : Int) + 1) = (j : Int) + 1 := w64 (by omega)
    have hlen := conv_length (I_Day_number (⟨d_Rise, d_Set⟩ : Day) to_) ms j
    have hlc : (convList (I_Day_number (⟨d_Rise, d_Set⟩ : Day) to_) ms j).length ≤ 100000 := Nat.le_trans hlen (Nat.le_trans (Nat.le.intro hjk) hml)
    have hjs : j ≤ 100000 := Nat.le_trans (Nat.le.intro hjk) hml
    by_cases hj : j < ms.length
    · have hjI : (j : Int) < (ms.length : Int) := by omega
      have hjg : ¬ (ms.length : Int) ≤ (j : Int) := by omega
      have hx1 := hrM.at hj
      have hnew : Hid (¬ I_Day_number (⟨d_Rise, d_Set⟩ : Day) to_ (ms.getD j 0) ∈ convList (I_Day_number (⟨d_Rise, d_Set⟩ : Day) to_) ms j → convList (I_Day_number (⟨d_Rise, d_Set⟩ : Day) to_) ms (j + 1) = convList (I_Day_number (⟨d_Rise, d_Set⟩ : Day) to_) ms j ++ [I_Day_number (⟨d_Rise, d_Set⟩ : Day) to_ (ms.getD j 0)]) := fun h => conv_new h
      have hold : Hid (I_Day_number (⟨d_Rise, d_Set⟩ : Day) to_ (ms.getD j 0) ∈ convList (I_Day_number (⟨d_Rise, d_Set⟩ : Day) to_) ms j → convList (I_Day_number (⟨d_Rise, d_Set⟩ : Day) to_) ms (j + 1) = convList (I_Day_number (⟨d_Rise, d_Set⟩ : Day) to_) ms j) := fun h => conv_old h
      have hx2 : newCell wr gM j = some (.int .i64 (ms.getD j 0)) := hx1
      clear hx1
      generalize ms.getD j 0 = z at *
      by_cases hmem : I_Day_number (⟨d_Rise, d_Set⟩ : Day) to_ z ∈ convList (I_Day_number (⟨d_Rise, d_Set⟩ : Day) to_) ms j
      · have hup : Hid (convList (I_Day_number (⟨d_Rise, d_Set⟩ : Day) to_) ms (j + 1) = convList (I_Day_number (⟨d_Rise, d_Set⟩ : Day) to_) ms j) := hold hmem
        clear hnew hold
        go_wp2_with (first | (go_at_call 92; refine (c_I_Day_number _ _ _ _ _ hp0 hp1 hp2).mono ?_; rintro e w1 ⟨rfl, hq⟩; obtain ⟨hc, hf⟩ := hq.rules; have hs := hq.le; try simp at hs) | (go_at_call 91; refine (c_I_counted2 _ _ _ _ _ _ _ (by first | omega | (go_simp; done) | (go_simp; omega) | (simp; omega)) (by (try go_simp); (repeat (simp (disch := omega) only [if_pos, if_neg]; try go_simp)); first | done | rfl | (intro hx; exfalso; omega) | (simp [*]; done)) (by (try go_simp); (repeat (simp (disch := omega) only [if_pos, if_neg]; try go_simp)); first | done | rfl | (intro hx; exfalso; omega) | (simp [*]; done))).mono ?_; rintro e w1 ⟨rfl, hq⟩; obtain ⟨hc, hf⟩ := hq.rules; have hs := hq.le; try simp at hs) | (go_at_call 94; refine (c_I_Day_minutesWith _ _ _ _ _ hp0 hp1 hp2).mono ?_; rintro e w1 ⟨gM, capM, rfl, hq, hgM, hrM⟩; obtain ⟨hc, hf⟩ := hq.rules; have hs := hq.le; (try simp at hs); (try simp at hgM); have hltM := hrM.1; have hown0 := own_call (hmade _ (by first | omega | (simp; omega))) hq) | (go_at_call 97; refine (c_Contains _ _ _ _ _ hlc (by first | (with_reducible exact hrR) | exact Row.call hrR (by with_reducible assumption))).mono ?_; rintro e w1 ⟨rfl, hq⟩; obtain ⟨hc, hf⟩ := hq.rules; have hs := hq.le; (try simp at hs)))
        go_roundg (gk - 1)
        case measure => omega
        case rel =>
          refine ⟨(by repeat (first | (with_reducible exact Q.refl _) | (with_reducible assumption) | (with_reducible refine Q.setCell ?_ (by dsimp only; omega) _) | (with_reducible refine Q.alloc ?_ _) | (with_reducible refine Q.drew ?_) | (with_reducible refine Q.call ?_ (by with_reducible assumption)))), j + 1, by omega, by (first | rfl | simp), ?_, hnn, hva, Row.call hrM (by repeat (first | (with_reducible exact Q.refl _) | (with_reducible assumption) | (with_reducible refine Q.setCell ?_ (by dsimp only; omega) _) | (with_reducible refine Q.alloc ?_ _) | (with_reducible refine Q.drew ?_) | (with_reducible refine Q.call ?_ (by with_reducible assumption))))⟩
          rw [show convList (I_Day_number (⟨d_Rise, d_Set⟩ : Day) to_) ms (j + 1) = convList (I_Day_number (⟨d_Rise, d_Set⟩ : Day) to_) ms j from hup]
          exact own_call hown (by repeat (first | (with_reducible exact Q.refl _) | (with_reducible assumption) | (with_reducible refine Q.setCell ?_ (by dsimp only; omega) _) | (with_reducible refine Q.alloc ?_ _) | (with_reducible refine Q.drew ?_) | (with_reducible refine Q.call ?_ (by with_reducible assumption))))
      · have hup : Hid (convList (I_Day_number (⟨d_Rise, d_Set⟩ : Day) to_) ms (j + 1) = convList (I_Day_number (⟨d_Rise, d_Set⟩ : Day) to_) ms j ++ [I_Day_number (⟨d_Rise, d_Set⟩ : Day) to_ z]) := hnew hmem
        clear hnew hold
        go_wp2_with (first | (go_at_call 92; refine (c_I_Day_number _ _ _ _ _ hp0 hp1 hp2).mono ?_; rintro e w1 ⟨rfl, hq⟩; obtain ⟨hc, hf⟩ := hq.rules; have hs := hq.le; try simp at hs) | (go_at_call 91; refine (c_I_counted2 _ _ _ _ _ _ _ (by first | omega | (go_simp; done) | (go_simp; omega) | (simp; omega)) (by (try go_simp); (repeat (simp (disch := omega) only [if_pos, if_neg]; try go_simp)); first | done | rfl | (intro hx; exfalso; omega) | (simp [*]; done)) (by (try go_simp); (repeat (simp (disch := omega) only [if_pos, if_neg]; try go_simp)); first | done | rfl | (intro hx; exfalso; omega) | (simp [*]; done))).mono ?_; rintro e w1 ⟨rfl, hq⟩; obtain ⟨hc, hf⟩ := hq.rules; have hs := hq.le; try simp at hs) | (go_at_call 94; refine (c_I_Day_minutesWith _ _ _ _ _ hp0 hp1 hp2).mono ?_; rintro e w1 ⟨gM, capM, rfl, hq, hgM, hrM⟩; obtain ⟨hc, hf⟩ := hq.rules; have hs := hq.le; (try simp at hs); (try simp at hgM); have hltM := hrM.1; have hown0 := own_call (hmade _ (by first | omega | (simp; omega))) hq) | (go_at_call 97; refine (c_Contains _ _ _ _ _ hlc (by first | (with_reducible exact hrR) | exact Row.call hrR (by with_reducible assumption))).mono ?_; rintro e w1 ⟨rfl, hq⟩; obtain ⟨hc, hf⟩ := hq.rules; have hs := hq.le; (try simp at hs)) | (at_builtin; (first | (refine wpList_append_own_at _ rfl _ _ 61 rfl (w.heap.size + 1) 2 i0 (.int .i64 0) 1 8 Try.underlying61 hi hz0 hz1 hz2 rfl (by decide) _ _ _ (by rfl) (own_call (hown) (by repeat (first | (with_reducible exact Q.refl _) | (with_reducible assumption) | (with_reducible refine Q.setCell ?_ (by dsimp only; omega) _) | (with_reducible refine Q.alloc ?_ _) | (with_reducible refine Q.drew ?_) | (refine Q.grown ?_ (by with_reducible assumption) (by with_reducible assumption)) | (with_reducible refine Q.call ?_ (by with_reducible assumption))))) _ 1 1 _ rfl (by simp) (cells_at (by simp)) (by simp [Value.oneCell']) (by first | omega | (simp [maxLen]; done) | (simp [maxLen]; omega)) (by first | omega | (simp; done) | (simp; omega)) (by first | omega | (simp; done) | (simp; omega)) ?_) | (refine wpList_append_own_at _ rfl _ _ 61 rfl (w.heap.size + 1) 2 i0 (.int .i64 0) 1 8 Try.underlying61 hi hz0 hz1 hz2 rfl (by decide) _ _ _ (by rfl) (own_call (hown) (by repeat (first | (with_reducible exact Q.refl _) | (with_reducible assumption) | (with_reducible refine Q.setCell ?_ (by dsimp only; omega) _) | (with_reducible refine Q.alloc ?_ _) | (with_reducible refine Q.drew ?_) | (refine Q.grown ?_ (by with_reducible assumption) (by with_reducible assumption)) | (with_reducible refine Q.call ?_ (by with_reducible assumption))))) _ 1 1 _ rfl (by simp) (cells_at (by simp)) (by simp [Value.oneCell']) (by first | omega | (simp [maxLen]; done) | (simp [maxLen]; omega)) (by first | omega | (simp; done) | (simp; omega)) (by first | omega | (simp; done) | (simp; omega)) ?_)); intro v2 w1 hown hgrow hnil hblk; have hgr := grown_rules (B := w.heap.size + 1) (g := gM) hgrow hvb hva (by first | omega | (simp; omega)) (by first | omega | (simp; omega)); have hva := apart_next hva (by first | omega | (simp; omega)) hblk; have hvb := own_block hown; have hvw : ∀ k, v2.ownBlock = some k → w.heap.size ≤ k := fun k hk => Nat.le_trans (by omega) (hvb k hk); obtain ⟨hc, hf, hs⟩ := hgr; (try simp at hs)))
        go_roundg (gk - 1)
        case measure => omega
        case rel =>
          refine ⟨(by repeat (first | (with_reducible exact Q.refl _) | (with_reducible assumption) | (with_reducible refine Q.setCell ?_ (by dsimp only; omega) _) | (with_reducible refine Q.alloc ?_ _) | (with_reducible refine Q.drew ?_) | (refine Q.grown ?_ (by with_reducible assumption) (by with_reducible assumption)) | (with_reducible refine Q.call ?_ (by with_reducible assumption)))), j + 1, by omega, by (first | rfl | simp), ?_, fun e => by have := (hnil.1 e).2; omega, hva, ?_⟩
          · rw [show convList (I_Day_number (⟨d_Rise, d_Set⟩ : Day) to_) ms (j + 1) = convList (I_Day_number (⟨d_Rise, d_Set⟩ : Day) to_) ms j ++ [I_Day_number (⟨d_Rise, d_Set⟩ : Day) to_ z] from hup]
            simpa [ints] using hown
          · exact Row.grown (Row.call hrM (by repeat (first | (with_reducible exact Q.refl _) | (with_reducible assumption) | (with_reducible refine Q.setCell ?_ (by dsimp only; omega) _) | (with_reducible refine Q.alloc ?_ _) | (with_reducible refine Q.drew ?_) | (with_reducible refine Q.call ?_ (by with_reducible assumption))))) hgrow (by assumption)
    · have hjI : ¬ (j : Int) < (ms.length : Int) := by omega
      have hjg : (ms.length : Int) ≤ (j : Int) := by omega
      have hje : j = ms.length := by omega
      subst hje
      clear hva hvw hv0 hvb hlen hnn hown
      have hgR2 : w.heap.size ≤ gR := by omega
      go_wp2_with (first | (go_at_call 92; refine (c_I_Day_number _ _ _ _ _ hp0 hp1 hp2).mono ?_; rintro e w1 ⟨rfl, hq⟩; obtain ⟨hc, hf⟩ := hq.rules; have hs := hq.le; try simp at hs) | (go_at_call 91; refine (c_I_counted2 _ _ _ _ _ _ _ (by first | omega | (go_simp; done) | (go_simp; omega) | (simp; omega)) (by (try go_simp); (repeat (simp (disch := omega) only [if_pos, if_neg]; try go_simp)); first | done | rfl | (intro hx; exfalso; omega) | (simp [*]; done)) (by (try go_simp); (repeat (simp (disch := omega) only [if_pos, if_neg]; try go_simp)); first | done | rfl | (intro hx; exfalso; omega) | (simp [*]; done))).mono ?_; rintro e w1 ⟨rfl, hq⟩; obtain ⟨hc, hf⟩ := hq.rules; have hs := hq.le; try simp at hs) | (go_at_call 94; refine (c_I_Day_minutesWith _ _ _ _ _ hp0 hp1 hp2).mono ?_; rintro e w1 ⟨gM, capM, rfl, hq, hgM, hrM⟩; obtain ⟨hc, hf⟩ := hq.rules; have hs := hq.le; (try simp at hs); (try simp at hgM); have hltM := hrM.1; have hown0 := own_call (hmade _ (by first | omega | (simp; omega))) hq) | (go_at_call 97; refine (c_Contains _ _ _ _ _ hlc (by first | (with_reducible exact hrR) | exact Row.call hrR (by with_reducible assumption))).mono ?_; rintro e w1 ⟨rfl, hq⟩; obtain ⟨hc, hf⟩ := hq.rules; have hs := hq.le; (try simp at hs)))
      go_ret2
      subst hms
      first | exact ⟨gR, capR, rfl, (by repeat (first | (with_reducible exact Q.refl _) | (with_reducible assumption) | (with_reducible refine Q.setCell ?_ (by dsimp only; omega) _) | (with_reducible refine Q.alloc ?_ _) | (with_reducible refine Q.drew ?_) | (with_reducible refine Q.call ?_ (by with_reducible assumption)))), hgR2, hrR⟩ | exact ⟨gR, ⟨capR, rfl⟩, (by repeat (first | (with_reducible exact Q.refl _) | (with_reducible assumption) | (with_reducible refine Q.setCell ?_ (by dsimp only; omega) _) | (with_reducible refine Q.alloc ?_ _) | (with_reducible refine Q.drew ?_) | (with_reducible refine Q.call ?_ (by with_reducible assumption)))), hgR2, hrR⟩
set_option maxRecDepth 100000 in
set_option maxHeartbeats 8000000 in
theorem c_I_ConvertHours_bad0 (d_Rise d_Set from_ to_ number : Int) (w : World) (h0 : ((I_counted (⟨d_Rise, d_Set⟩ : Day) number [from_, to_]) == 0) = false) : Calls Try.prog 44 #[.agg #[.int .i64 d_Rise, .int .i64 d_Set], .int .i64 from_, .int .i64 to_, .int .i64 number] w fun e w' => e = .returned (.tuple #[.slice none 0 0, .int .i64 (I_counted (⟨d_Rise, d_Set⟩ : Day) number [from_, to_])]) ∧ Q w w' := by
  have hset := setRule
  have hall := allocRule
  have halm := allocMark
  have hw64 := wrapRule
  have hn0 : ((I_counted (⟨d_Rise, d_Set⟩ : Day) number [from_, to_]) != 0) = true := by simpa using h0
  go_enter Try.func44, Try.ntmps44
  go_wp2_with (first | (go_at_call 92; refine (c_I_Day_number _ _ _ _ _ hp0 hp1 hp2).mono ?_; rintro e w1 ⟨rfl, hq⟩; obtain ⟨hc, hf⟩ := hq.rules; have hs := hq.le; try simp at hs) | (go_at_call 91; refine (c_I_counted2 _ _ _ _ _ _ _ (by first | omega | (go_simp; done) | (go_simp; omega) | (simp; omega)) (by (try go_simp); (repeat (simp (disch := omega) only [if_pos, if_neg]; try go_simp)); first | done | rfl | (intro hx; exfalso; omega) | (simp [*]; done)) (by (try go_simp); (repeat (simp (disch := omega) only [if_pos, if_neg]; try go_simp)); first | done | rfl | (intro hx; exfalso; omega) | (simp [*]; done))).mono ?_; rintro e w1 ⟨rfl, hq⟩; obtain ⟨hc, hf⟩ := hq.rules; have hs := hq.le; try simp at hs))
  all_goals go_ret2
  all_goals refine ⟨?_, (by repeat (first | (with_reducible exact Q.refl _) | (with_reducible assumption) | (with_reducible refine Q.setCell ?_ (by dsimp only; omega) _) | (with_reducible refine Q.alloc ?_ _) | (with_reducible refine Q.drew ?_) | (with_reducible refine Q.call ?_ (by with_reducible assumption))))⟩
  all_goals first | rfl | (simp [*]; done)
theorem c_I_ConvertHours_as (d_Rise d_Set from_ to_ number : Int) (w : World) (h0 : ((S_ccode (⟨d_Rise, d_Set⟩ : Day) from_ to_ number) == 0) = true) : Calls Try.prog 44 #[.agg #[.int .i64 d_Rise, .int .i64 d_Set], .int .i64 from_, .int .i64 to_, .int .i64 number] w fun e w' => ∃ g cap, e = .returned (.tuple #[.slice (some ⟨g, 0, none⟩) (S_Convert (⟨d_Rise, d_Set⟩ : Day) from_ to_ number).length cap, .int .i64 0]) ∧ Q w w' ∧ w.heap.size ≤ g ∧ Row w' g (ints (S_Convert (⟨d_Rise, d_Set⟩ : Day) from_ to_ number)) := by
  have hc : S_ccode (⟨d_Rise, d_Set⟩ : Day) from_ to_ number = 0 := by simpa using h0
  have hr : I_Convert (⟨d_Rise, d_Set⟩ : Day) from_ to_ number = S_Convert (⟨d_Rise, d_Set⟩ : Day) from_ to_ number := eq_convert hc
  rw [← hr]
  exact c_I_ConvertHours_ok d_Rise d_Set from_ to_ number w (by rw [eq_ccode]; exact h0)
theorem c_I_ConvertHours_asbad0 (d_Rise d_Set from_ to_ number : Int) (w : World) (h0 : ((I_counted (⟨d_Rise, d_Set⟩ : Day) number [from_, to_]) == 0) = false) : Calls Try.prog 44 #[.agg #[.int .i64 d_Rise, .int .i64 d_Set], .int .i64 from_, .int .i64 to_, .int .i64 number] w fun e w' => e = .returned (.tuple #[.slice none 0 0, .int .i64 (S_ccode (⟨d_Rise, d_Set⟩ : Day) from_ to_ number)]) ∧ Q w w' := by
  have hr : I_counted (⟨d_Rise, d_Set⟩ : Day) number [from_, to_] = S_ccode (⟨d_Rise, d_Set⟩ : Day) from_ to_ number := eq_ccode _ _ _ _
  rw [← hr]
  exact c_I_ConvertHours_bad0 d_Rise d_Set from_ to_ number w h0
set_option maxHeartbeats 8000000 in
theorem walk_FnExactConvertHours (aD_Rise : Int) (aD_Set : Int) (aFrom : Int) (aTo : Int) (aNumber : Int) (w : World) : Calls Try.prog 10 #[.agg #[.int .i64 aD_Rise, .int .i64 aD_Set], .int .i64 aFrom, .int .i64 aTo, .int .i64 aNumber] w fun e w' => e = .returned (.bool true) ∧ Q w w' := by
  have hset := setRule
  have hall := allocRule
  have halm := allocMark
  have hw64 := wrapRule
  have hlen : (S_Convert (⟨aD_Rise, aD_Set⟩ : Day) aFrom aTo aNumber).length ≤ 100000 := convert_length _ _ _ _
  have hneg : ((1 : Int) + ((S_Convert (⟨aD_Rise, aD_Set⟩ : Day) aFrom aTo aNumber).length : Int) < 0) = False := eq_false (by omega)
  have hto_L_toDay := L_toDay_rule
  rcases Bool.eq_false_or_eq_true (((S_ccode (⟨aD_Rise, aD_Set⟩ : Day) aFrom aTo aNumber) == 0)) with h0 | h0
  · skip
    go_enter Try.func10, Try.ntmps10
    go_wp2_with (first | (go_at_call 36; refine (c_L_toDay _ _ _ ).mono ?_; rintro e w1 ⟨rfl, hq⟩; obtain ⟨hc, hf⟩ := hq.rules; have hs := hq.le; (try simp only [markAll_size] at hs); (try simp at hs); (try have rS := rS.call hq); (try have rI := rI.call hq); (try have rM := rM.call hq); (try have rH := rH.call hq)) | (go_at_call 43; refine (c_S_ConvertHours_ok _ _ _ _ _ _ h0).mono ?_; rintro e w1 ⟨gS, capS, rfl, hq, hgS, hrow⟩; obtain ⟨hc, hf⟩ := hq.rules; have hs := hq.le; (try simp only [markAll_size] at hs); (try simp at hs); (try have rS := rS.call hq); (try have rI := rI.call hq); (try have rM := rM.call hq); (try have rH := rH.call hq); have rS := hrow; have hltS := hrow.1) | (go_at_call 44; have hdone := rM; refine (c_I_ConvertHours_as _ _ _ _ _ _ h0).mono ?_; rintro e w1 ⟨gH, capH, rfl, hq, hgH, hrow⟩; obtain ⟨hc, hf⟩ := hq.rules; have hs := hq.le; (try simp only [markAll_size] at hs); (try simp at hs); (try have rS := rS.call hq); (try have rI := rI.call hq); (try have rM := rM.call hq); (try have rH := rH.call hq); have rH := hrow; have hltH := hrow.1) | (go_at_call 44; refine (c_I_ConvertHours_as _ _ _ _ _ _ h0).mono ?_; rintro e w1 ⟨gI, capI, rfl, hq, hgI, hrow⟩; obtain ⟨hc, hf⟩ := hq.rules; have hs := hq.le; (try simp only [markAll_size] at hs); (try simp at hs); (try have rS := rS.call hq); (try have rI := rI.call hq); (try have rM := rM.call hq); (try have rH := rH.call hq); have rI := hrow; have hltI := hrow.1; have hne : gS ≠ gI := by omega) | (go_at_call 40; refine (c_L_eqInt64S_same _ _ _ _ _ _ hlen rH rS).mono ?_; rintro e w1 ⟨rfl, hq⟩; obtain ⟨hc, hf⟩ := hq.rules; have hs := hq.le; (try simp only [markAll_size] at hs); (try simp at hs); (try have rS := rS.call hq); (try have rI := rI.call hq); (try have rM := rM.call hq); (try have rH := rH.call hq)) | (go_at_call 40; refine (c_L_eqInt64S_same _ _ _ _ _ _ hlen rI rS).mono ?_; rintro e w1 ⟨rfl, hq⟩; obtain ⟨hc, hf⟩ := hq.rules; have hs := hq.le; (try simp only [markAll_size] at hs); (try simp at hs); (try have rS := rS.call hq); (try have rI := rI.call hq); (try have rM := rM.call hq); (try have rH := rH.call hq)) | (go_at_call 41; refine (c_L_markInt64S_n _ _ _ _ hlen rI).mono ?_; rintro e w1 ⟨rfl, rfl⟩; have hmc := markAll_cell rI 1 (S_Convert (⟨aD_Rise, aD_Set⟩ : Day) aFrom aTo aNumber).length (by rw [ints_length]; exact Nat.le_refl _); have hmf := rI.mfrozen 1 (S_Convert (⟨aD_Rise, aD_Set⟩ : Day) aFrom aTo aNumber).length; have hms := rI.msize 1 (S_Convert (⟨aD_Rise, aD_Set⟩ : Day) aFrom aTo aNumber).length; have rS := Row.mark_other rI rS hne 1; have rM := Row.mark rI 1; (repeat clear rI); simp only [ints_length] at rS rM) | (go_at_call 42; refine (c_L_heldInt64S_n _ _ _ _ hlen rM).mono ?_; rintro e w1 ⟨rfl, hq⟩; obtain ⟨hc, hf⟩ := hq.rules; have hs := hq.le; (try simp only [markAll_size] at hs); (try simp at hs); (try have rS := rS.call hq); (try have rI := rI.call hq); (try have rM := rM.call hq); (try have rH := rH.call hq)))
    all_goals go_ret
    all_goals refine ⟨?_, (by repeat (first | (with_reducible exact Q.refl _) | (with_reducible assumption) | (with_reducible refine Q.setCell ?_ (by dsimp only; omega) _) | (with_reducible refine Q.alloc ?_ _) | (with_reducible refine Q.drew ?_) | (with_reducible refine Q.mark ?_ (by omega) _ _) | (with_reducible refine Q.call ?_ (by with_reducible assumption))))⟩
    all_goals first | rfl | (simp [*]; done)
  · skip
    go_enter Try.func10, Try.ntmps10
    go_wp2_with (first | (go_at_call 36; refine (c_L_toDay _ _ _ ).mono ?_; rintro e w1 ⟨rfl, hq⟩; obtain ⟨hc, hf⟩ := hq.rules; have hs := hq.le; (try simp only [markAll_size] at hs); (try simp at hs); (try have rS := rS.call hq); (try have rI := rI.call hq); (try have rM := rM.call hq); (try have rH := rH.call hq)) | (go_at_call 43; refine (c_S_ConvertHours_bad0 _ _ _ _ _ _ h0).mono ?_; rintro e w1 ⟨rfl, hq⟩; obtain ⟨hc, hf⟩ := hq.rules; have hs := hq.le; (try simp only [markAll_size] at hs); (try simp at hs); (try have rS := rS.call hq); (try have rI := rI.call hq); (try have rM := rM.call hq); (try have rH := rH.call hq)) | (go_at_call 44; refine (c_I_ConvertHours_asbad0 _ _ _ _ _ _ ((by rw [eq_ccode]; exact h0))).mono ?_; rintro e w1 ⟨rfl, hq⟩; obtain ⟨hc, hf⟩ := hq.rules; have hs := hq.le; (try simp only [markAll_size] at hs); (try simp at hs); (try have rS := rS.call hq); (try have rI := rI.call hq); (try have rM := rM.call hq); (try have rH := rH.call hq)) | (go_at_call 40; refine (c_L_eqInt64S0 _).mono ?_; rintro e w1 ⟨rfl, hq⟩; obtain ⟨hc, hf⟩ := hq.rules; have hs := hq.le; (try simp only [markAll_size] at hs); (try simp at hs); (try have rS := rS.call hq); (try have rI := rI.call hq); (try have rM := rM.call hq); (try have rH := rH.call hq)) | (go_at_call 41; refine (c_L_markInt64S0 _).mono ?_; rintro e w1 ⟨rfl, hq⟩; obtain ⟨hc, hf⟩ := hq.rules; have hs := hq.le; (try simp only [markAll_size] at hs); (try simp at hs); (try have rS := rS.call hq); (try have rI := rI.call hq); (try have rM := rM.call hq); (try have rH := rH.call hq)) | (go_at_call 42; refine (c_L_heldInt64S0 _).mono ?_; rintro e w1 ⟨rfl, hq⟩; obtain ⟨hc, hf⟩ := hq.rules; have hs := hq.le; (try simp only [markAll_size] at hs); (try simp at hs); (try have rS := rS.call hq); (try have rI := rI.call hq); (try have rM := rM.call hq); (try have rH := rH.call hq)))
    all_goals go_ret
    all_goals refine ⟨?_, (by repeat (first | (with_reducible exact Q.refl _) | (with_reducible assumption) | (with_reducible refine Q.setCell ?_ (by dsimp only; omega) _) | (with_reducible refine Q.alloc ?_ _) | (with_reducible refine Q.drew ?_) | (with_reducible refine Q.mark ?_ (by omega) _ _) | (with_reducible refine Q.call ?_ (by with_reducible assumption))))⟩
    all_goals first | rfl | (simp [*]; done)
namespace lawFnExactConvertHours
set_option maxRecDepth 100000 in
theorem lifted (os : Os) (started : os.Started) (H : Type) (enc : TypeId × Value → H) :
    ReturnsInHanded {} Try.checked os 10 .any (Rows.fnExactConvertHoursSpec.pre6 enc Try.prog Try.f10 Rows.fnExactConvertHoursRow.domain false) (Rows.fnExactConvertHoursSpec.post enc Try.prog Try.f10 false true false false) := by
  refine returnsInHanded_of_change (C := Try.checked) own started (by kernel_rfl) Try.func10
    (ChangeSpec.witness6 (enc := enc) (C := Try.checked) false ⟨#[], #[.agg #[.int .i64 0, .int .i64 0], .int .i64 0, .int .i64 0, .int .i64 0], []⟩ 8 (by kernel_rfl) (by kernel_rfl) (by kernel_rfl) (by kernel_rfl)) ?_
  intro W base args ds gs before hval0 hW hcnd _
  have hval : ∀ (j : Nat) t v, Try.f10.params[j]? = some t → args[j]? = some v → Value.okWide Try.prog W .any base t v := hval0
  have hW' := hW
  obtain ⟨p, q, hA0, hV, rfl, hfz, hnd⟩ := hW
  have hA : DataW.TrodAll enc Try.prog W 0 (fun _ => true) true Try.f10.params.toList args.toList ds p := hA0
  rw [Try.params10] at hA hval
  obtain ⟨v0, vs0, d0, ds0, p0, q0, hargs, rfl, rfl, h0, r0⟩ := trodAll_cons hA
  obtain ⟨v1, vs1, d1, ds1, p1, q1, rfl, rfl, rfl, h1, r1⟩ := trodAll_cons r0
  obtain ⟨v2, vs2, d2, ds2, p2, q2, rfl, rfl, rfl, h2, r2⟩ := trodAll_cons r1
  obtain ⟨v3, vs3, d3, ds3, p3, q3, rfl, rfl, rfl, h3, r3⟩ := trodAll_cons r2
  obtain ⟨rfl, rfl, rfl⟩ := trodAll_nil r3
  obtain rfl : args = #[v0, v1, v2, v3] := by cases args; simp_all
  obtain ⟨rfl, rfl⟩ := trodVars_none hV
  obtain ⟨zs0, hz0, rfl⟩ := open_cells (m := 2) (u := 2) Try.underlying56 (by kernel_rfl) Try.underlying2 (by kernel_rfl) (hval 0 56 v0 rfl rfl)
  obtain ⟨aD_Rise, aD_Set, rfl⟩ := list2 hz0
  obtain ⟨aFrom, rfl, _, _, _⟩ := open_int Try.underlying2 (hval 1 2 v1 rfl rfl) h1
  obtain ⟨aTo, rfl, _, _, _⟩ := open_int Try.underlying2 (hval 2 2 v2 rfl rfl) h2
  obtain ⟨aNumber, rfl, _, _, _⟩ := open_int Try.underlying2 (hval 3 2 v3 rfl rfl) h3
  refine (walk_FnExactConvertHours aD_Rise aD_Set aFrom aTo aNumber W).mono fun e W' ⟨he, hq⟩ => ?_
  subst he
  exact ⟨_, rfl, _, _, _, [], _, [], hW', trodAll_cons_mk (shut_bool Try.underlying4 _) trodAll_mk0,
    all_stay laidOut hq (by rw [Try.params10]; intro t ht; simp only [Array.toList, List.mem_cons, List.not_mem_nil, or_false] at ht; rcases ht with rfl | rfl | rfl | rfl <;> exact ⟨by kernel_rfl, of_decide_eq_true (by kernel_rfl)⟩) hA0,
    rfl, Below.frame hq _, fun h => by cases h⟩
theorem over : Rows.fnExactConvertHoursRow.holds Try.pinned (OpenSpec.ofChange Rows.fnExactConvertHoursSpec) :=
  OpenClaim.holds_of_wide 10 Try.f10 rfl rfl rfl rfl rfl rfl rfl ⟨rfl, rfl, rfl, rfl, rfl⟩ rfl rfl rfl rfl rfl (by kernel_rfl) Try.func10 (by kernel_rfl)
    (of_decide_eq_true (by kernel_rfl)) (by unfold Func.isWrapper; first | (rw [if_pos (by decide +kernel)]; kernel_rfl) | (rw [if_neg (by decide +kernel)]; exact ⟨rfl, rfl⟩))
    (fun os started H enc _ => lifted os started H enc)
theorem proved : Rows.FnExactConvertHoursSaid :=
  over
#print axioms proved
end lawFnExactConvertHours
end Go.Proofs.Ythooejkmccdfjaa
