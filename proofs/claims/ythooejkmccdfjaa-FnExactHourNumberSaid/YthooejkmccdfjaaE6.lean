/- Hours: the program against the reference. -/
import Derived.Test.YthooejkmccdfjaaE3
namespace Go.Proofs.Ythooejkmccdfjaa
set_option linter.unusedVariables false
set_option linter.unusedSimpArgs false
open Go.RowKit (wrap64)
theorem eq_hour {d : Day} {s m : Int} (hd : S_IsDay d = true) (hs : 0 ≤ s ∧ s ≤ 3) (hm : 0 ≤ m ∧ m ≤ 1439) : I_Day_number d s m = S_l12Number d s m := by
  obtain ⟨h1, h2, h3⟩ := (IsDay_iff d).1 hd
  unfold I_Day_number S_l12Number
  have e1 : wrap64 (m - d.Set) = m - d.Set := w64 (by omega)
  have e2 : wrap64 (m - d.Rise) = m - d.Rise := w64 (by omega)
  have e3 : I_mod (m - d.Set) 1440 = (m - d.Set) % 1440 := I_mod_pos (by omega) (by omega) (by omega)
  have e4 : I_mod (m - d.Rise) 1440 = (m - d.Rise) % 1440 := I_mod_pos (by omega) (by omega) (by omega)
  have e5 : S_l01Mod (m - d.Set) 1440 = (m - d.Set) % 1440 := S_l01Mod_pos (by omega) (by omega)
  have e6 : S_l01Mod (m - d.Rise) 1440 = (m - d.Rise) % 1440 := S_l01Mod_pos (by omega) (by omega)
  simp only [e1, e2, e3, e4, e5, e6]
  have c : s = 0 ∨ s = 1 ∨ s = 2 ∨ s = 3 := by omega
  rcases c with rfl | rfl | rfl | rfl <;> rfl
theorem eq_counted (d : Day) (s m : Int) : I_counted d m [s] = S_l12Code d s m := by
  unfold I_counted S_l12Code
  rw [eq_IsDay, eq_isMinute]
  have e : ([s].all fun s => I_in s 0 3) = S_l12System s := by simp [I_in, S_l12System, S_l01In]
  rw [e]
  cases S_IsDay d <;> cases S_l12System s <;> cases S_l09Minute m <;> rfl
theorem code_ok {d : Day} {s m : Int} (h : S_l12Code d s m = 0) : S_IsDay d = true ∧ (0 ≤ s ∧ s ≤ 3) ∧ (0 ≤ m ∧ m ≤ 1439) := by
  unfold S_l12Code at h
  cases h1 : S_IsDay d with
  | false => simp [h1] at h
  | true =>
    cases h2 : S_l12System s with
    | false => simp [h1, h2] at h
    | true =>
      cases h3 : S_l09Minute m with
      | false => simp [h1, h2, h3] at h
      | true => exact ⟨rfl, (in_iff _ _ _).1 h2, (in_iff _ _ _).1 h3⟩
theorem eq_HourNumber (d : Day) (s m : Int) : I_HourNumber d s m = S_HourNumber d s m := by
  unfold I_HourNumber S_HourNumber
  rw [eq_counted]
  by_cases h : S_l12Code d s m = 0
  · obtain ⟨h1, h2, h3⟩ := code_ok h
    simp [h, eq_hour h1 h2 h3]
  · simp [h]
end Go.Proofs.Ythooejkmccdfjaa
