/- The program's functions against the reference's: plain equalities. -/
import Derived.Test.YthooejkmccdfjaaM2
namespace Go.Proofs.Ythooejkmccdfjaa
set_option linter.unusedVariables false
set_option linter.unusedSimpArgs false
open Go.RowKit (wrap64)
theorem eq_in (n a b : Int) : I_in n a b = S_l01In n a b := rfl
theorem in_iff (n a b : Int) : S_l01In n a b = true ↔ a ≤ n ∧ n ≤ b := by simp [S_l01In]
theorem eq_isValue (n : Int) : I_isValue n = S_l01Is n := rfl
theorem eq_IsInterval (a : Interval) : I_IsInterval a = S_IsInterval a := rfl
theorem IsDay_iff (d : Day) : S_IsDay d = true ↔ 0 ≤ d.Rise ∧ d.Rise < d.Set ∧ d.Set < 1440 := by simp [S_IsDay, and_assoc]
theorem eq_IsDay (d : Day) : I_IsDay d = S_IsDay d := by
  rw [Bool.eq_iff_iff, IsDay_iff]; simp [I_IsDay]; omega
theorem eq_IsWall (d : Wall) : I_IsWall d = S_IsWall d := by simp [I_IsWall, S_IsWall, S_l09Latitude, eq_in]
theorem eq_isMinute (n : Int) : I_isMinute n = S_l09Minute n := by simp [I_isMinute, S_l09Minute, eq_in]
theorem eq_MiddleOfDay (d : Day) : I_MiddleOfDay d = S_MiddleOfDay d := by simp [I_MiddleOfDay, S_MiddleOfDay, eq_IsDay]
theorem eq_isSpot2 (x y : Int) : (I_isSpot x && I_isSpot y) = S_l14Point x y := by simp [I_isSpot, S_l14Point, eq_in]
theorem eq_TemporalLength (d : Day) (n : Bool) : I_TemporalLength d n = S_TemporalLength d n := by
  unfold I_TemporalLength S_TemporalLength
  rw [eq_IsDay]
  cases h : S_IsDay d with
  | false => rfl
  | true =>
    obtain ⟨h1, h2, h3⟩ := (IsDay_iff d).1 h
    have e1 : wrap64 (d.Set - d.Rise) = d.Set - d.Rise := w64 (by omega)
    have e2 : wrap64 (1440 - (d.Set - d.Rise)) = 1440 - (d.Set - d.Rise) := w64 (by omega)
    have e3 : wrap64 (1440 - d.Set) = 1440 - d.Set := w64 (by omega)
    have e4 : wrap64 (1440 - d.Set + d.Rise) = 1440 - d.Set + d.Rise := w64 (by omega)
    cases n with
    | false =>
      simp only [e1, e2, e3, e4, Bool.not_true, Bool.false_eq_true, if_false]
      rw [w64 (n := (d.Set - d.Rise) * 60) (by omega), quo_pos (by omega) (by omega), w64 (by omega)]
      congr 1; omega
    | true =>
      simp only [e1, e2, e3, e4, Bool.not_true, Bool.false_eq_true, if_false, if_true]
      rw [w64 (n := (1440 - (d.Set - d.Rise)) * 60) (by omega), quo_pos (by omega) (by omega), w64 (by omega)]
      congr 1; omega
theorem plain_eq {a : Int} (ha : -4611686018427387904 ≤ a ∧ a ≤ 4611686018427387904) : I_plain a = a % 1296000 := I_mod_pos (by omega) (by omega) ha
theorem S_plain_eq (a : Int) : S_l03Plain a = a % 1296000 := S_l01Mod_pos (by omega) (by omega)
theorem eq_plain {a : Int} (ha : -4611686018427387904 ≤ a ∧ a ≤ 4611686018427387904) : I_plain a = S_l03Plain a := by rw [plain_eq ha, S_plain_eq]
theorem eqInterval_refl0 (a : Interval) : L_eqInterval a a = true := by simp [L_eqInterval]
theorem eqPlace_refl (a : Place) : L_eqPlace a a = true := by simp [L_eqPlace, eqInterval_refl0]
theorem eqInterval_refl (a : Interval) : L_eqInterval a a = true := by simp [L_eqInterval]
theorem eqVector_refl (a : Vector) : L_eqVector a a = true := by simp [L_eqVector, eqInterval_refl]
end Go.Proofs.Ythooejkmccdfjaa
