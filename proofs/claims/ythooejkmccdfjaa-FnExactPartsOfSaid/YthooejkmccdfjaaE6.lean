/- Hours: the program against the reference. -/
import Derived.Test.YthooejkmccdfjaaE3
import Derived.Test.YthooejkmccdfjaaOwn
namespace Go.Proofs.Ythooejkmccdfjaa
set_option linter.unusedVariables false
set_option linter.unusedSimpArgs false
open Go.RowKit (wrap64)
theorem eq_hour {d : Day} {s m : Int} (hd : S_IsDay d = true) (hs : 0 ≤ s ∧ s ≤ 3) (hm : 0 ≤ m ∧ m ≤ 1439) : I_Day_number d s m = S_l12Number d s m := by
  obtain ⟨h1, h2, h3⟩ := (IsDay_iff d).1 hd
  unfold I_Day_number S_l12Number
  have e1 : wrap64 (m - d.Set) = m - d.Set := w64 (by omega)
  have e2 : wrap64 (m - d.Rise) = m - d.Rise := w64 (by omega)
  have e3 : I_mod (m - d.Set) 1440 = (m - d.Set) % 1440 := I_mod_pos (by omega) (by omega) (by omega)
  have e4 : I_mod (m - d.Rise) 1440 = (m - d.Rise) % 1440 := I_mod_pos (by omega) (by omega) (by omega)
  have e5 : S_l01Mod (m - d.Set) 1440 = (m - d.Set) % 1440 := S_l01Mod_pos (by omega) (by omega)
  have e6 : S_l01Mod (m - d.Rise) 1440 = (m - d.Rise) % 1440 := S_l01Mod_pos (by omega) (by omega)
  simp only [e1, e2, e3, e4, e5, e6]
  have c : s = 0 ∨ s = 1 ∨ s = 2 ∨ s = 3 := by omega
  rcases c with rfl | rfl | rfl | rfl <;> rfl
theorem eq_counted (d : Day) (s m : Int) : I_counted d m [s] = S_l12Code d s m := by
  unfold I_counted S_l12Code
  rw [eq_IsDay, eq_isMinute]
  have e : ([s].all fun s => I_in s 0 3) = S_l12System s := by simp [I_in, S_l12System, S_l01In]
  rw [e]
  cases S_IsDay d <;> cases S_l12System s <;> cases S_l09Minute m <;> rfl
theorem code_ok {d : Day} {s m : Int} (h : S_l12Code d s m = 0) : S_IsDay d = true ∧ (0 ≤ s ∧ s ≤ 3) ∧ (0 ≤ m ∧ m ≤ 1439) := by
  unfold S_l12Code at h
  cases h1 : S_IsDay d with
  | false => simp [h1] at h
  | true =>
    cases h2 : S_l12System s with
    | false => simp [h1, h2] at h
    | true =>
      cases h3 : S_l09Minute m with
      | false => simp [h1, h2, h3] at h
      | true => exact ⟨rfl, (in_iff _ _ _).1 h2, (in_iff _ _ _).1 h3⟩
theorem eq_HourNumber (d : Day) (s m : Int) : I_HourNumber d s m = S_HourNumber d s m := by
  unfold I_HourNumber S_HourNumber
  rw [eq_counted]
  by_cases h : S_l12Code d s m = 0
  · obtain ⟨h1, h2, h3⟩ := code_ok h
    simp [h, eq_hour h1 h2 h3]
  · simp [h]
theorem eq_cosine {a : Int} (ha : -4000000000 ≤ a ∧ a ≤ 4000000000) : I_cosine a = S_l04Cos a := by
  unfold I_cosine S_l04Cos S_l04Cosine
  have e : wrap64 (a + 324000) = a + 324000 := w64 (by omega)
  rw [e, eq_sineI (by omega)]
  rfl
theorem cos_bd (a : Int) : Within (S_l04Cos a) 4000001 := sin_bd (wrap64 (a + 324000))
theorem eq_direction {a b : Int} (ha : -4000000000 ≤ a ∧ a ≤ 4000000000) (hb : -4000000000 ≤ b ∧ b ≤ 4000000000) : I_direction a b = S_l06To a b := by
  have big : ∀ {a : Interval}, Within a 4000001 → Within a 1000000000 := by intro a h; unfold Within at *; omega
  unfold I_direction S_l06To
  dsimp only
  rw [eq_cosine ha, eq_cosine hb, eq_sineI (by omega), eq_sineI (by omega), eq_times (big (sin_bd a)) (big (cos_bd b)), eq_times (big (cos_bd a)) (big (cos_bd b))]
theorem to_bd (a b : Int) : Within (S_l06To a b).X 16000009 ∧ Within (S_l06To a b).Y 16000009 ∧ Within (S_l06To a b).Z 16000009 := by
  unfold S_l06To
  dsimp only
  have h1 := mul_bd (m := 4000001) (n := 4000001) (by omega) (by omega) (sin_bd a) (cos_bd b)
  have h2 := mul_bd (m := 4000001) (n := 4000001) (by omega) (by omega) (cos_bd a) (cos_bd b)
  have h3 := sin_bd b
  refine ⟨?_, ?_, ?_⟩ <;> unfold Within at * <;> omega
theorem wall_bd {w : Wall} (h : S_IsWall w = true) : (0 ≤ w.Azimuth ∧ w.Azimuth ≤ 1295999) ∧ (-324000 ≤ w.Slope ∧ w.Slope ≤ 324000) := by
  simpa [S_IsWall, S_l09Latitude, in_iff] using h
theorem eq_axes {w : Wall} (h : S_IsWall w = true) : I_Wall_axes w = S_l13Axes w := by
  obtain ⟨h1, h2⟩ := wall_bd h
  have e1 : wrap64 (w.Azimuth - 324000) = w.Azimuth - 324000 := w64 (by omega)
  have e2 : wrap64 (w.Slope + 324000) = w.Slope + 324000 := w64 (by omega)
  unfold I_Wall_axes S_l13Axes
  rw [e1, e2, eq_direction (a := w.Azimuth - 324000) (by omega) (by omega), eq_direction (a := w.Azimuth) (b := w.Slope + 324000) (by omega) (by omega), eq_direction (a := w.Azimuth) (b := w.Slope) (by omega) (by omega)]
theorem mul_comm_iv (a b : Interval) : S_l02Mul a b = S_l02Mul b a := by
  unfold S_l02Mul
  simp only [Int.mul_comm b.Low a.Low, Int.mul_comm b.Low a.High, Int.mul_comm b.High a.Low, Int.mul_comm b.High a.High]
  congr 2 <;> omega
theorem eq_dot {v a : Vector} {m n : Int} (hx : Within v.X 1000000000 ∧ Within v.Y 1000000000 ∧ Within v.Z 1000000000) (ha : Within a.X 1000000000 ∧ Within a.Y 1000000000 ∧ Within a.Z 1000000000) : I_Vector_dot v a = S_l06Dot a v := by
  unfold I_Vector_dot S_l06Dot
  rw [eq_times hx.1 ha.1, eq_times hx.2.1 ha.2.1, eq_times hx.2.2 ha.2.2, mul_comm_iv v.X, mul_comm_iv v.Y, mul_comm_iv v.Z]
  rfl
theorem eq_IsVector (v : Vector) : I_IsVector v = S_IsVector v := by
  have h : ∀ a : Interval, I_isPart a = S_l06Part a := by
    intro a
    have e : wrap64 (-10000000) = -10000000 := w64 (by omega)
    rw [Bool.eq_iff_iff]
    simp [e, I_isPart, S_l06Part, I_IsInterval, I_Interval_within, I_isValue, I_in, S_l01In]
    omega
  unfold I_IsVector S_IsVector
  rw [h, h, h]
theorem vector_within {v : Vector} (h : S_IsVector v = true) : Within v.X 1000000000 ∧ Within v.Y 1000000000 ∧ Within v.Z 1000000000 := by
  simp [S_IsVector, S_l06Part, S_l01In] at h
  unfold Within
  omega
theorem to_within (a b : Int) : Within (S_l06To a b).X 1000000000 ∧ Within (S_l06To a b).Y 1000000000 ∧ Within (S_l06To a b).Z 1000000000 := by
  obtain ⟨h1, h2, h3⟩ := to_bd a b
  unfold Within at *
  omega
theorem eq_IsLit (w : Wall) (v : Vector) : I_IsLit w v = S_IsLit w v := by
  unfold I_IsLit S_IsLit
  rw [eq_IsWall, eq_IsVector]
  cases h0 : S_IsWall w with
  | false => simp
  | true =>
    cases h1 : S_IsVector v with
    | false => simp
    | true =>
      have d := eq_dot (m := 0) (n := 0) (v := v) (a := (S_l13Axes w).2.2) (vector_within h1) (to_within _ _)
      rw [eq_axes h0, d]
      unfold S_l09Sign
      generalize S_l06Dot (S_l13Axes w).2.2 v = p
      by_cases hp : 0 < p.Low
      · simp [hp]
      · by_cases hn : p.High < 0
        · simp [hp, hn]
        · simp [hp, hn]
theorem with_length (d : Day) (s n : Int) : (S_l12With d s n).length ≤ 100000 := by
  have := withUp_length (fun m => decide (S_l12Number d s m = n)) 1440
  unfold S_l12With
  omega
theorem eq_with {d : Day} {s n : Int} (h : S_l12Code d s n = 0) : I_Day_minutesWith d s n = S_l12With d s n := by
  obtain ⟨h1, h2, h3⟩ := code_ok h
  unfold I_Day_minutesWith S_l12With
  refine withUp_congr _ (fun m hm => ?_)
  rw [eq_hour h1 h2 (by omega)]
end Go.Proofs.Ythooejkmccdfjaa
