/- The program's functions against the reference's: plain equalities. -/
import Derived.Test.YtnplaheokckioaaM1
namespace Go.Proofs.Ytnplaheokckioaa
set_option linter.unusedVariables false
set_option linter.unusedSimpArgs false
open Go.RowKit (wrap64)
theorem eq_in (n a b : Int) : I_in n a b = S_l01In n a b := rfl
theorem in_iff (n a b : Int) : S_l01In n a b = true ↔ a ≤ n ∧ n ≤ b := by simp [S_l01In]
theorem eq_isValue (n : Int) : I_isValue n = S_l01Is n := rfl
theorem eq_IsInterval (a : Interval) : I_IsInterval a = S_IsInterval a := rfl
theorem IsDay_iff (d : Day) : S_IsDay d = true ↔ 0 ≤ d.Rise ∧ d.Rise < d.Set ∧ d.Set < 1440 := by simp [S_IsDay, and_assoc]
theorem eq_IsDay (d : Day) : I_IsDay d = S_IsDay d := by
  rw [Bool.eq_iff_iff, IsDay_iff]; simp [I_IsDay]; omega
theorem eq_IsWall (d : Wall) : I_IsWall d = S_IsWall d := by simp [I_IsWall, S_IsWall, S_l09Latitude, eq_in]
theorem eq_HasNumber (a : Interval) (x : Int) : I_HasNumber a x = S_HasNumber a x := by simp [I_HasNumber, S_HasNumber, eq_IsInterval, I_Interval_has, eq_in]
theorem eq_isMinute (n : Int) : I_isMinute n = S_l09Minute n := by simp [I_isMinute, S_l09Minute, eq_in]
theorem eq_HourAngleOf (n : Int) : I_HourAngleOf n = S_HourAngleOf n := by simp [I_HourAngleOf, S_HourAngleOf, eq_isMinute, S_l09Hour]
theorem eq_MiddleOfDay (d : Day) : I_MiddleOfDay d = S_MiddleOfDay d := by simp [I_MiddleOfDay, S_MiddleOfDay, eq_IsDay]
theorem eq_isSpot2 (x y : Int) : (I_isSpot x && I_isSpot y) = S_l14Point x y := by simp [I_isSpot, S_l14Point, eq_in]
theorem eq_IsFace (f : Face) : I_IsFace f = S_IsFace f := by
  simp [I_IsFace, S_IsFace, I_isSpot, S_l14Point, eq_in, Bool.and_assoc]
theorem eq_IsPlace (p : Place) : I_IsPlace p = S_IsPlace p := by
  rw [Bool.eq_iff_iff]
  simp [I_IsPlace, S_IsPlace, I_Interval_within, S_l14Coordinate, eq_in, in_iff, wrap64]; omega
theorem eq_IsDial (d : Dial) : I_IsDial d = S_IsDial d := by
  simp [I_IsDial, S_IsDial, I_isLatitude, S_l09Latitude, eq_in, eq_IsWall, I_isHeight, S_l14Height]
theorem eq_TemporalLength (d : Day) (n : Bool) : I_TemporalLength d n = S_TemporalLength d n := by
  unfold I_TemporalLength S_TemporalLength
  rw [eq_IsDay]
  cases h : S_IsDay d with
  | false => rfl
  | true =>
    obtain ⟨h1, h2, h3⟩ := (IsDay_iff d).1 h
    have e1 : wrap64 (d.Set - d.Rise) = d.Set - d.Rise := w64 (by omega)
    have e2 : wrap64 (1440 - (d.Set - d.Rise)) = 1440 - (d.Set - d.Rise) := w64 (by omega)
    have e3 : wrap64 (1440 - d.Set) = 1440 - d.Set := w64 (by omega)
    have e4 : wrap64 (1440 - d.Set + d.Rise) = 1440 - d.Set + d.Rise := w64 (by omega)
    cases n with
    | false =>
      simp only [e1, e2, e3, e4, Bool.not_true, Bool.false_eq_true, if_false]
      rw [w64 (n := (d.Set - d.Rise) * 60) (by omega), quo_pos (by omega) (by omega), w64 (by omega)]
      congr 1; omega
    | true =>
      simp only [e1, e2, e3, e4, Bool.not_true, Bool.false_eq_true, if_false, if_true]
      rw [w64 (n := (1440 - (d.Set - d.Rise)) * 60) (by omega), quo_pos (by omega) (by omega), w64 (by omega)]
      congr 1; omega
theorem eq_IsZone (z : Zone) : I_IsZone z = S_IsZone z := by
  by_cases h : z.StartMonth = 0 <;> simp [I_IsZone, S_IsZone, eq_in, Bool.and_assoc, h]
theorem plain_eq {a : Int} (ha : -4611686018427387904 ≤ a ∧ a ≤ 4611686018427387904) : I_plain a = a % 1296000 := I_mod_pos (by omega) (by omega) ha
theorem S_plain_eq (a : Int) : S_l03Plain a = a % 1296000 := S_l01Mod_pos (by omega) (by omega)
theorem eq_plain {a : Int} (ha : -4611686018427387904 ≤ a ∧ a ≤ 4611686018427387904) : I_plain a = S_l03Plain a := by rw [plain_eq ha, S_plain_eq]
theorem IsWall_iff (w : Wall) : S_IsWall w = true ↔ 0 ≤ w.Azimuth ∧ w.Azimuth ≤ 1295999 ∧ -324000 ≤ w.Slope ∧ w.Slope ≤ 324000 := by
  simp [S_IsWall, S_l09Latitude, in_iff, and_assoc]
theorem eq_OppositeWall (w : Wall) : I_OppositeWall w = S_OppositeWall w := by
  unfold I_OppositeWall S_OppositeWall
  rw [eq_IsWall]
  cases h : S_IsWall w with
  | false => rfl
  | true =>
    obtain ⟨h1, h2, h3, h4⟩ := (IsWall_iff w).1 h
    rw [w64 (n := w.Azimuth + 648000) (by omega), eq_plain (by omega)]
theorem eq_MayBeAt (p : Place) (x y : Int) : I_MayBeAt p x y = S_MayBeAt p x y := by
  simp [I_MayBeAt, S_MayBeAt, eq_IsPlace, ← eq_isSpot2, S_l14May, I_Interval_has, eq_in, Bool.not_and]
theorem eqWall_refl (a : Wall) : L_eqWall a a = true := by simp [L_eqWall]
end Go.Proofs.Ytnplaheokckioaa
