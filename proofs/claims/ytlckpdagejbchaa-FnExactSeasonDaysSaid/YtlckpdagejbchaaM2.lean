/- Plain arithmetic of the calendar: the lengths of months, the day numbers of years and months, bounds. No program in sight. -/
import Derived.Test.YtlckpdagejbchaaM1
namespace Go.Proofs.Ytlckpdagejbchaa
set_option linter.unusedVariables false
set_option linter.unusedSimpArgs false
open Go.RowKit (wrap64)
theorem eq_days (y m : Int) : I_daysInMonth y m = S_l07Days y m := by
  unfold I_daysInMonth S_l07Days
  by_cases h2 : m = 2
  · subst h2; rfl
  · have e : (m == 2) = false := by simpa using h2
    simp only [e, Bool.false_eq_true, if_false]
theorem days_bd (y m : Int) : 28 ≤ S_l07Days y m ∧ S_l07Days y m ≤ 31 := by
  unfold S_l07Days
  repeat (first | omega | split)
/-- The number of January 1 of a year, without a word of the machine. -/
def yearDay (y : Int) : Int := 365 * (y - 2000) - (2000 - y) / 4
theorem S_year {y : Int} (hy : -10000 ≤ y ∧ y ≤ 10000) : S_l07Year y = yearDay y := by
  have e1 : wrap64 (y - 2000) = y - 2000 := w64 (by omega)
  have e2 : wrap64 (-(y - 2000)) = 2000 - y := by rw [w64 (by omega)]; omega
  unfold S_l07Year S_l01Ceil yearDay
  rw [e1, e2, S_l01Floor_pos (by omega) (by omega), w64 (n := -((2000 - y) / 4)) (by omega), w64 (n := 365 * (y - 2000)) (by omega), w64 (by omega)]
  omega
theorem yearDay_step (y : Int) : yearDay (y + 1) = yearDay y + (if y % 4 = 0 then 366 else 365) := by
  unfold yearDay; split <;> omega
theorem yearDay_mono {a b : Int} (h : a ≤ b) : yearDay a ≤ yearDay b := by unfold yearDay; omega
theorem year_first : S_l07Year 1901 = -36159 := by decide +kernel
theorem year_last : wrap64 (S_l07Year 2100 - 1) = 36524 := by decide +kernel
theorem has_iff (n : Int) : S_l07Has n = true ↔ -36159 ≤ n ∧ n ≤ 36524 := by
  unfold S_l07Has
  rw [year_first, year_last]
  simp [S_l01In]
/-- The days of the first k months. -/
def monthDays (y : Int) : Nat → Int
  | 0 => 0
  | k + 1 => monthDays y k + S_l07Days y ((k : Int) + 1)
theorem monthDays_bd (y : Int) : ∀ k : Nat, 28 * (k : Int) ≤ monthDays y k ∧ monthDays y k ≤ 31 * (k : Int) := by
  intro k
  induction k with
  | zero => simp [monthDays]
  | succ k ih => have := days_bd y ((k : Int) + 1); unfold monthDays; omega
theorem daysAfter_eq (y n0 : Int) (hn : -1000000000 ≤ n0 ∧ n0 ≤ 1000000000) : ∀ k : Nat, k ≤ 1000 → daysAfter (S_l07Days y) n0 k = n0 + monthDays y k := by
  intro k
  induction k with
  | zero => intro _; simp [daysAfter, monthDays]
  | succ k ih =>
    intro hk
    have h1 := monthDays_bd y k; have h2 := days_bd y ((k : Int) + 1)
    unfold daysAfter monthDays
    rw [ih (by omega), w64 (by omega)]
    omega
theorem S_number {y m d : Int} (hy : -10000 ≤ y ∧ y ≤ 10000) (hm : m ≤ 1000) (hd : -10000 ≤ d ∧ d ≤ 10000) : S_l07Number ⟨y, m, d⟩ = yearDay y + d - 1 + monthDays y (m - 1).toNat := by
  have hyd : -5000000 ≤ yearDay y ∧ yearDay y ≤ 5000000 := by unfold yearDay; omega
  unfold S_l07Number
  dsimp only
  rw [S_year hy, w64 (n := yearDay y + d) (by omega), w64 (n := yearDay y + d - 1) (by omega), daysAfter_eq _ _ (by omega) _ (by omega)]
theorem eq_dayNumber {d : Date} (hy : -10000 ≤ d.Year ∧ d.Year ≤ 10000) (hy0 : 1901 ≤ d.Year) (hd : -10000 ≤ d.Day ∧ d.Day ≤ 10000) : I_dayNumber d = S_l07Number d := by
  have e1 : wrap64 (d.Year - 1901) = d.Year - 1901 := w64 (by omega)
  have e2 : wrap64 (365 * (d.Year - 1901)) = 365 * (d.Year - 1901) := w64 (by omega)
  have e3 : wrap64 (Int.tdiv (d.Year - 1901) 4) = (d.Year - 1901) / 4 := quo_pos (by omega) (by omega)
  have e4 : wrap64 (-36159 + 365 * (d.Year - 1901)) = -36159 + 365 * (d.Year - 1901) := w64 (by omega)
  have e5 : wrap64 (-36159 + 365 * (d.Year - 1901) + (d.Year - 1901) / 4) = yearDay d.Year := by rw [w64 (by omega)]; unfold yearDay; omega
  unfold I_dayNumber S_l07Number
  rw [e1, e2, e3, e4, e5, S_year hy, show I_daysInMonth d.Year = S_l07Days d.Year from funext fun m => eq_days _ m]
theorem I_number {y m d : Int} (hy : 1901 ≤ y ∧ y ≤ 10000) (hm : m ≤ 1000) (hd : -10000 ≤ d ∧ d ≤ 10000) : I_dayNumber ⟨y, m, d⟩ = yearDay y + d - 1 + monthDays y (m - 1).toNat := by
  rw [eq_dayNumber (d := ⟨y, m, d⟩) (by dsimp only; omega) hy.1 hd, S_number (by omega) hm hd]
theorem day_first : I_dayNumber ⟨1901, 1, 1⟩ = -36159 := by decide +kernel
theorem day_last : I_dayNumber ⟨2099, 12, 31⟩ = 36524 := by decide +kernel
theorem isDayNumber_iff (n : Int) : I_isDayNumber n = true ↔ -36159 ≤ n ∧ n ≤ 36524 := by
  unfold I_isDayNumber
  rw [day_first, day_last]
  simp [I_in]
theorem pre_month {z : Zone} {d : Date} (h0 : (I_zoned z d != 0) = false) : z.StartMonth ≤ 9223372036854775807 ∧ z.EndMonth ≤ 9223372036854775807 ∧ d.Month ≤ 9223372036854775807 := by
  have h : I_zoned z d = 0 := by simpa using h0
  unfold I_zoned at h
  cases h1 : I_IsZone z with
  | false => simp [h1] at h
  | true =>
    cases h2 : I_IsDate d with
    | false => simp [h1, h2] at h
    | true =>
      simp [I_IsDate, I_isMonth, I_in] at h2
      by_cases h0 : z.StartMonth = 0
      · simp [I_IsZone, I_in, h0] at h1
        omega
      · simp [I_IsZone, I_in, h0] at h1
        omega
theorem pre_moment {z : Zone} {d : Date} {s : Int} (h0 : (S_l11Moment z d s != 0) = false) : z.StartMonth ≤ 9223372036854775807 ∧ z.EndMonth ≤ 9223372036854775807 ∧ d.Month ≤ 9223372036854775807 := by
  have h : S_l11Moment z d s = 0 := by simpa using h0
  unfold S_l11Moment at h
  cases h1 : S_IsZone z with
  | false => simp [h1] at h
  | true =>
    cases h2 : S_IsDate d with
    | false => simp [h1, h2] at h
    | true =>
      simp [S_IsDate, S_l07Month, S_l01In] at h2
      by_cases h0 : z.StartMonth = 0
      · simp [S_IsZone, S_l01In, h0] at h1
        omega
      · simp [S_IsZone, S_l01In, h0] at h1
        omega
theorem pre_moment0 {z : Zone} {d : Date} {s : Int} (h : S_l11Moment z d s = 0) : z.StartMonth ≤ 9223372036854775807 ∧ z.EndMonth ≤ 9223372036854775807 ∧ d.Month ≤ 9223372036854775807 := pre_moment (by simpa using h)
theorem monthUpS_le (y : Int) : ∀ (k : Nat) (m r : Int), (monthUpS y k m r).1 ≤ m + k := by
  intro k
  induction k with
  | zero => intro m r; simp [monthUpS]
  | succ k ih =>
    intro m r
    unfold monthUpS
    split
    · have := ih (m + 1) (r - S_l07Days y m); omega
    · simp only; omega
theorem shift_month (d : Date) (s t : Int) : (S_l11Shift d s t).1.Month ≤ 9223372036854775807 := by
  unfold S_l11Shift
  dsimp only
  split
  · simp
  · unfold S_l07Date
    dsimp only
    generalize yearUpS _ _ _ = y
    have := monthUpS_le y 20 1
    refine Int.le_trans (this _) (by decide)
theorem monthUpI_le (n y : Int) : ∀ (k : Nat) (m : Int), monthUpI n y k m ≤ m + k := by
  intro k
  induction k with
  | zero => intro m; simp [monthUpI]
  | succ k ih =>
    intro m
    unfold monthUpI
    split
    · have := ih (m + 1); omega
    · omega
theorem later_month (d : Date) (s : Int) : (I_later d s).1.Month ≤ 9223372036854775807 := by
  unfold I_later
  dsimp only
  split
  · simp
  · unfold I_dateOf
    dsimp only
    generalize yearUpI _ _ _ = y
    have := monthUpI_le (wrap64 (I_dayNumber d + I_floor s 86400)) y 20 1
    exact Int.le_trans this (by decide)
theorem nthWeekday_month {y m d n : Int} (h : m ≤ 9223372036854775807) : (I_nthWeekday y m d n).1.Month ≤ 9223372036854775807 := by
  unfold I_nthWeekday
  dsimp only
  split
  · exact h
  · split
    · simp
    · exact h
theorem pre_zone {z : Zone} (h1 : S_IsZone z = true) : z.StartMonth ≤ 9223372036854775807 ∧ z.EndMonth ≤ 9223372036854775807 := by
  by_cases h0 : z.StartMonth = 0
  · simp [S_IsZone, S_l01In, h0] at h1
    omega
  · simp [S_IsZone, S_l01In, h0] at h1
    omega
theorem pre_date {d : Date} (h2 : S_IsDate d = true) : d.Month ≤ 9223372036854775807 := by
  simp [S_IsDate, S_l07Month, S_l01In] at h2
  omega
end Go.Proofs.Ytlckpdagejbchaa
