/- The calendar's ends, rounding to the nearest, sines and the sun's longitude: the program against the reference, and bounds. -/
import Derived.Test.YthooejkmccdfjaaE1
namespace Go.Proofs.Ythooejkmccdfjaa
set_option linter.unusedVariables false
set_option linter.unusedSimpArgs false
open Go.RowKit (wrap64)
theorem tm {u v k : Int} (hu : 0 ≤ u ∧ u ≤ 1000000000) (hv : 0 ≤ v ∧ v ≤ 1000000000) (hk : 0 < k) :
    0 ≤ wrap64 (Int.tdiv (wrap64 (Int.tdiv (wrap64 (u * v)) 1000000000)) k) ∧ wrap64 (Int.tdiv (wrap64 (Int.tdiv (wrap64 (u * v)) 1000000000)) k) ≤ 1000000000 := by
  have h0 : 0 ≤ u * v := Int.mul_nonneg hu.1 hv.1
  have h1 : u * v ≤ 1000000000 * 1000000000 := Int.mul_le_mul hu.2 hv.2 hv.1 (by omega)
  have h2 : 0 ≤ u * v / 1000000000 := by omega
  have h3 : u * v / 1000000000 ≤ 1000000000 := by omega
  rw [w64 (n := u * v) (by omega), quo_pos (x := u * v) (y := 1000000000) ⟨h0, by omega⟩ (by omega), quo_pos (x := u * v / 1000000000) ⟨h2, by omega⟩ hk]
  have h4 := Int.ediv_nonneg h2 (show 0 ≤ k by omega)
  have h5 := Int.ediv_le_self k h2
  omega
theorem arc_bd {r : Int} (hr : 0 ≤ r ∧ r ≤ 162000) : (0 ≤ (S_l04Arc r).1 ∧ (S_l04Arc r).1 ≤ 1000000000) ∧ (0 ≤ (S_l04Arc r).2 ∧ (S_l04Arc r).2 ≤ 1000000000) := by
  unfold S_l04Arc
  have e : wrap64 (Int.tdiv (wrap64 (r * 48481368)) 10000) = r * 48481368 / 10000 := by rw [w64 (n := r * 48481368) (by omega), quo_pos (by omega) (by omega)]
  have h1 : 0 ≤ r * 48481368 / 10000 ∧ r * 48481368 / 10000 ≤ 1000000000 := by omega
  simp only [e]
  generalize r * 48481368 / 10000 = x at h1 ⊢
  have h2 : 0 ≤ x * x := Int.mul_nonneg h1.1 h1.1
  have h3 : x * x ≤ 1000000000 * 1000000000 := Int.mul_le_mul h1.2 h1.2 h1.1 (by omega)
  rw [w64 (n := x * x) (by omega), quo_pos (by omega) (by omega)]
  omega
theorem P_bd {r : Int} (hr : 0 ≤ r ∧ r ≤ 162000) : -4000000000 ≤ S_l04P r ∧ S_l04P r ≤ 4000000000 := by
  obtain ⟨hx, hy⟩ := arc_bd hr
  have t3 := tm hx hy (show (0 : Int) < 6 by omega)
  have t5 := tm t3 hy (show (0 : Int) < 20 by omega)
  have t7 := tm t5 hy (show (0 : Int) < 42 by omega)
  have t9 := tm t7 hy (show (0 : Int) < 72 by omega)
  unfold S_l04P
  simp only
  generalize wrap64 (Int.tdiv (wrap64 (Int.tdiv (wrap64 (wrap64 (Int.tdiv (wrap64 (Int.tdiv (wrap64 (wrap64 (Int.tdiv (wrap64 (Int.tdiv (wrap64 (wrap64 (Int.tdiv (wrap64 (Int.tdiv (wrap64 ((S_l04Arc r).1 * (S_l04Arc r).2)) 1000000000)) 6) * (S_l04Arc r).2)) 1000000000)) 20) * (S_l04Arc r).2)) 1000000000)) 42) * (S_l04Arc r).2)) 1000000000)) 72) = z9 at *
  generalize wrap64 (Int.tdiv (wrap64 (Int.tdiv (wrap64 (wrap64 (Int.tdiv (wrap64 (Int.tdiv (wrap64 (wrap64 (Int.tdiv (wrap64 (Int.tdiv (wrap64 ((S_l04Arc r).1 * (S_l04Arc r).2)) 1000000000)) 6) * (S_l04Arc r).2)) 1000000000)) 20) * (S_l04Arc r).2)) 1000000000)) 42) = z7 at *
  generalize wrap64 (Int.tdiv (wrap64 (Int.tdiv (wrap64 (wrap64 (Int.tdiv (wrap64 (Int.tdiv (wrap64 ((S_l04Arc r).1 * (S_l04Arc r).2)) 1000000000)) 6) * (S_l04Arc r).2)) 1000000000)) 20) = z5 at *
  generalize wrap64 (Int.tdiv (wrap64 (Int.tdiv (wrap64 ((S_l04Arc r).1 * (S_l04Arc r).2)) 1000000000)) 6) = z3 at *
  generalize (S_l04Arc r).1 = x at *
  rw [w64 (n := x - z3) (by omega), w64 (n := x - z3 + z5) (by omega), w64 (n := x - z3 + z5 - z7) (by omega), w64 (by omega)]
  omega
theorem Q_bd {r : Int} (hr : 0 ≤ r ∧ r ≤ 162000) : -4000000000 ≤ S_l04Q r ∧ S_l04Q r ≤ 4000000000 := by
  obtain ⟨_, hy⟩ := arc_bd hr
  have c2 : 0 ≤ wrap64 (Int.tdiv (S_l04Arc r).2 2) ∧ wrap64 (Int.tdiv (S_l04Arc r).2 2) ≤ 1000000000 := by rw [quo_pos (by omega) (by omega)]; omega
  have c4 := tm c2 hy (show (0 : Int) < 12 by omega)
  have c6 := tm c4 hy (show (0 : Int) < 30 by omega)
  have c8 := tm c6 hy (show (0 : Int) < 56 by omega)
  have c10 := tm c8 hy (show (0 : Int) < 90 by omega)
  unfold S_l04Q
  simp only
  generalize wrap64 (Int.tdiv (wrap64 (Int.tdiv (wrap64 (wrap64 (Int.tdiv (wrap64 (Int.tdiv (wrap64 (wrap64 (Int.tdiv (wrap64 (Int.tdiv (wrap64 (wrap64 (Int.tdiv (wrap64 (Int.tdiv (wrap64 (wrap64 (Int.tdiv (S_l04Arc r).2 2) * (S_l04Arc r).2)) 1000000000)) 12) * (S_l04Arc r).2)) 1000000000)) 30) * (S_l04Arc r).2)) 1000000000)) 56) * (S_l04Arc r).2)) 1000000000)) 90) = z10 at *
  generalize wrap64 (Int.tdiv (wrap64 (Int.tdiv (wrap64 (wrap64 (Int.tdiv (wrap64 (Int.tdiv (wrap64 (wrap64 (Int.tdiv (wrap64 (Int.tdiv (wrap64 (wrap64 (Int.tdiv (S_l04Arc r).2 2) * (S_l04Arc r).2)) 1000000000)) 12) * (S_l04Arc r).2)) 1000000000)) 30) * (S_l04Arc r).2)) 1000000000)) 56) = z8 at *
  generalize wrap64 (Int.tdiv (wrap64 (Int.tdiv (wrap64 (wrap64 (Int.tdiv (wrap64 (Int.tdiv (wrap64 (wrap64 (Int.tdiv (S_l04Arc r).2 2) * (S_l04Arc r).2)) 1000000000)) 12) * (S_l04Arc r).2)) 1000000000)) 30) = z6 at *
  generalize wrap64 (Int.tdiv (wrap64 (Int.tdiv (wrap64 (wrap64 (Int.tdiv (S_l04Arc r).2 2) * (S_l04Arc r).2)) 1000000000)) 12) = z4 at *
  generalize wrap64 (Int.tdiv (S_l04Arc r).2 2) = z2 at *
  rw [w64 (n := 1000000000 - z2) (by omega), w64 (n := 1000000000 - z2 + z4) (by omega), w64 (n := 1000000000 - z2 + z4 - z6) (by omega), w64 (n := 1000000000 - z2 + z4 - z6 + z8) (by omega), w64 (by omega)]
  omega
theorem poly_eq (r : Int) : (I_polynomials r).1 = S_l04P r ∧ (I_polynomials r).2 = S_l04Q r := ⟨rfl, rfl⟩
theorem S_plain_bd (a : Int) : 0 ≤ S_l03Plain a ∧ S_l03Plain a < 1296000 := by rw [S_plain_eq]; omega
theorem sine_bd (a : Int) : -4000000000 ≤ S_l04Sine a ∧ S_l04Sine a ≤ 4000000000 := by
  have hp := S_plain_bd a
  unfold S_l04Sine
  simp only
  generalize S_l03Plain a = b at hp ⊢
  have hq : wrap64 (Int.tdiv b 324000) = b / 324000 := quo_pos (by omega) (by omega)
  have hr : Int.tmod b 324000 = b % 324000 := Int.tmod_eq_emod_of_nonneg hp.1
  have hm : Int.tmod (b / 324000) 2 = (b / 324000) % 2 := Int.tmod_eq_emod_of_nonneg (by omega)
  rw [hq, hr, hm, w64 (n := 324000 - b % 324000) (by omega)]
  have key : ∀ s, 0 ≤ s ∧ s ≤ 324000 → -4000000000 ≤ (if decide (s ≤ 162000) = true then S_l04P s else S_l04Q (wrap64 (324000 - s))) ∧ (if decide (s ≤ 162000) = true then S_l04P s else S_l04Q (wrap64 (324000 - s))) ≤ 4000000000 := by
    intro s hs
    by_cases h : s ≤ 162000
    · rw [if_pos (by simpa using h)]; exact P_bd ⟨hs.1, h⟩
    · rw [if_neg (by simpa using h), w64 (by omega)]; exact Q_bd (by omega)
  have k := key (if ((b / 324000) % 2 == 1) = true then 324000 - b % 324000 else b % 324000) (by split <;> omega)
  revert k
  generalize (if decide ((if ((b / 324000) % 2 == 1) = true then 324000 - b % 324000 else b % 324000) ≤ 162000) = true then S_l04P (if ((b / 324000) % 2 == 1) = true then 324000 - b % 324000 else b % 324000) else S_l04Q (wrap64 (324000 - (if ((b / 324000) % 2 == 1) = true then 324000 - b % 324000 else b % 324000)))) = p
  intro k
  split
  · rw [w64 (by omega)]; omega
  · exact k
theorem eq_sine {a : Int} (ha : -4611686018427387904 ≤ a ∧ a ≤ 4611686018427387904) : I_nanoSine a = S_l04Sine a := by
  unfold I_nanoSine S_l04Sine
  simp only [eq_plain ha, (poly_eq _).1, (poly_eq _).2]
  by_cases h : wrap64 (Int.tdiv (S_l03Plain a) 324000) < 2
  · have d1 : decide (wrap64 (Int.tdiv (S_l03Plain a) 324000) < 2) = true := by simpa using h
    have d2 : decide (2 ≤ wrap64 (Int.tdiv (S_l03Plain a) 324000)) = false := by simp; omega
    simp only [d1, d2, if_true, Bool.false_eq_true, if_false]
  · have d1 : decide (wrap64 (Int.tdiv (S_l03Plain a) 324000) < 2) = false := by simp; omega
    have d2 : decide (2 ≤ wrap64 (Int.tdiv (S_l03Plain a) 324000)) = true := by simp; omega
    simp only [d1, d2, if_true, Bool.false_eq_true, if_false]
end Go.Proofs.Ythooejkmccdfjaa
