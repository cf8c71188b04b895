/- Plain arithmetic of the calendar: the lengths of months, the day numbers of years and months, bounds. No program in sight. -/
import Derived.Test.YthooejkmccdfjaaM1
namespace Go.Proofs.Ythooejkmccdfjaa
set_option linter.unusedVariables false
set_option linter.unusedSimpArgs false
open Go.RowKit (wrap64)
theorem pre_dayI {d : Day} {m : Int} {ss : List Int} (h0 : (I_counted d m ss != 0) = false) : 0 ≤ d.Rise ∧ d.Rise < d.Set ∧ d.Set ≤ 1439 := by
  have h : I_counted d m ss = 0 := by simpa using h0
  unfold I_counted at h
  cases h1 : I_IsDay d with
  | false => simp [h1] at h
  | true => simp [I_IsDay] at h1; omega
theorem pre_day {d : Day} {s n : Int} (h0 : (S_l12Code d s n != 0) = false) : 0 ≤ d.Rise ∧ d.Rise < d.Set ∧ d.Set ≤ 1439 := by
  have h : S_l12Code d s n = 0 := by simpa using h0
  unfold S_l12Code at h
  cases h1 : S_IsDay d with
  | false => simp [h1] at h
  | true => simp [S_IsDay] at h1; omega
theorem L_toWall_rule (a b : Int) : L_toWall ⟨a, b⟩ = ⟨a, b⟩ := rfl
theorem L_toVector_rule (a b c d e f : Int) : L_toVector ⟨⟨a, b⟩, ⟨c, d⟩, ⟨e, f⟩⟩ = ⟨⟨a, b⟩, ⟨c, d⟩, ⟨e, f⟩⟩ := rfl
theorem L_toDay_rule (a b : Int) : L_toDay ⟨a, b⟩ = ⟨a, b⟩ := rfl
end Go.Proofs.Ythooejkmccdfjaa
