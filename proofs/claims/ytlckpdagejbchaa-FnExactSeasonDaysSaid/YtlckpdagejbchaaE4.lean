/- The calendar: dates of day numbers, Sundays, summer time: the program against the reference. -/
import Derived.Test.YtlckpdagejbchaaE3
namespace Go.Proofs.Ytlckpdagejbchaa
set_option linter.unusedVariables false
set_option linter.unusedSimpArgs false
open Go.RowKit (wrap64)
theorem yearUp_eq {n : Int} (hn : n ≤ 36524) : ∀ (k : Nat) (y : Int), 1901 ≤ y ∧ y ≤ 2099 → yearUpI n k y = yearUpS n k y := by
  intro k
  induction k with
  | zero => intro y _; rfl
  | succ k ih =>
    intro y hy
    unfold yearUpI yearUpS
    have m0 : monthDays (y + 1) ((1 : Int) - 1).toNat = 0 := rfl
    rw [I_number (y := y + 1) (by omega) (by omega) (by omega), S_year (y := y + 1) (by omega), m0]
    by_cases h : yearDay (y + 1) ≤ n
    · have hlt : y < 2099 := by
        apply Decidable.byContradiction; intro hc
        have e : y = 2099 := by omega
        subst e
        have e2 : yearDay (2099 + 1) = 36525 := by decide
        omega
      rw [if_pos ⟨hlt, by omega⟩, if_pos h, ih (y + 1) (by omega)]
    · rw [if_neg (fun hc => h (by omega)), if_neg h]
theorem yearUp_spec {n : Int} (hn : n ≤ 36524) : ∀ (k : Nat) (y : Int), 1901 ≤ y ∧ y ≤ 2099 → yearDay y ≤ n → 2099 - y < k →
    (1901 ≤ yearUpS n k y ∧ yearUpS n k y ≤ 2099) ∧ yearDay (yearUpS n k y) ≤ n ∧ n < yearDay (yearUpS n k y + 1) := by
  intro k
  induction k with
  | zero => intro y hy _ hk; omega
  | succ k ih =>
    intro y hy hlo hk
    unfold yearUpS
    rw [S_year (y := y + 1) (by omega)]
    by_cases h : yearDay (y + 1) ≤ n
    · rw [if_pos h]
      have hlt : y < 2099 := by
        apply Decidable.byContradiction; intro hc
        have e : y = 2099 := by omega
        subst e
        have e2 : yearDay (2099 + 1) = 36525 := by decide
        omega
      exact ih (y + 1) (by omega) h (by omega)
    · rw [if_neg h]
      exact ⟨hy, hlo, by omega⟩
theorem monthDays_year {y : Int} (hy : 0 ≤ y) : yearDay y + monthDays y 12 = yearDay (y + 1) := by
  rw [yearDay_step]
  have e : Int.tmod y 4 = y % 4 := Int.tmod_eq_emod_of_nonneg hy
  by_cases h : y % 4 = 0
  · simp [monthDays, S_l07Days, e, h]
  · simp [monthDays, S_l07Days, e, h]
theorem monthDays_step {y m : Int} (hm : 1 ≤ m) : monthDays y (m + 1 - 1).toNat = monthDays y (m - 1).toNat + S_l07Days y m := by
  have e : (m + 1 - 1).toNat = (m - 1).toNat + 1 := by omega
  rw [e]
  show monthDays y (m - 1).toNat + S_l07Days y (((m - 1).toNat : Int) + 1) = _
  rw [show (((m - 1).toNat : Int) + 1) = m by omega]
theorem monthUp_eq {n y : Int} (hy : 1901 ≤ y ∧ y ≤ 2099) (h2 : n < yearDay (y + 1)) : ∀ (k : Nat) (m r : Int), 1 ≤ m ∧ m ≤ 12 → r = n - yearDay y - monthDays y (m - 1).toNat → 0 ≤ r → 12 - m < k →
    monthUpI n y k m = (monthUpS y k m r).1 ∧ (1 ≤ (monthUpS y k m r).1 ∧ (monthUpS y k m r).1 ≤ 12) ∧ (monthUpS y k m r).2 = n - yearDay y - monthDays y ((monthUpS y k m r).1 - 1).toNat ∧ 0 ≤ (monthUpS y k m r).2 ∧ (monthUpS y k m r).2 < S_l07Days y (monthUpS y k m r).1 := by
  intro k
  induction k with
  | zero => intro m r hm _ _ hk; omega
  | succ k ih =>
    intro m r hm hr h0 hk
    unfold monthUpI monthUpS
    have hs := monthDays_step (y := y) hm.1
    rw [I_number (y := y) (m := m + 1) (by omega) (by omega) (by omega), hs]
    by_cases h : S_l07Days y m ≤ r
    · have hlt : m < 12 := by
        apply Decidable.byContradiction; intro hc
        have e : m = 12 := by omega
        subst e
        have t := monthDays_year (y := y) (by omega)
        have e2 : (12 + 1 - 1 : Int).toNat = 12 := rfl
        rw [e2] at hs
        omega
      rw [if_pos ⟨hlt, by omega⟩, if_pos h]
      exact ih (m + 1) (r - S_l07Days y m) (by omega) (by rw [hs]; omega) (by omega) (by omega)
    · rw [if_neg (fun hc => h (by omega)), if_neg h]
      exact ⟨rfl, hm, hr, h0, by show r < S_l07Days y m; omega⟩
theorem date_of {n : Int} (h : S_l07Has n = true) : I_dateOf n = S_l07Date n ∧ (1901 ≤ (S_l07Date n).Year ∧ (S_l07Date n).Year ≤ 2099) ∧ (1 ≤ (S_l07Date n).Month ∧ (S_l07Date n).Month ≤ 12) ∧ (1 ≤ (S_l07Date n).Day ∧ (S_l07Date n).Day ≤ S_l07Days (S_l07Date n).Year (S_l07Date n).Month) ∧ S_l07Number (S_l07Date n) = n := by
  obtain ⟨h1, h2⟩ := (has_iff n).1 h
  have f0 : yearDay 1901 = -36159 := by decide
  have ye := yearUp_eq h2 300 1901 (by omega)
  have ys := yearUp_spec h2 300 1901 (by omega) (by omega) (by omega)
  unfold I_dateOf S_l07Date
  rw [ye]
  dsimp only
  generalize yearUpS n 300 1901 = y at *
  obtain ⟨hy, hlo, hhi⟩ := ys
  have sy : S_l07Year y = yearDay y := S_year (by omega)
  have m0 : monthDays y ((1 : Int) - 1).toNat = 0 := rfl
  have yb : -40000 ≤ yearDay y ∧ yearDay y ≤ 40000 := by unfold yearDay; omega
  have mm := monthUp_eq hy hhi 20 1 (n - S_l07Year y) (by omega) (by rw [m0, sy]; omega) (by omega) (by omega)
  generalize monthUpS y 20 1 (n - S_l07Year y) = p at *
  obtain ⟨m1, m2, m3, m4, m5⟩ := mm
  rw [m1]
  have db := days_bd y p.1
  have mb := monthDays_bd y (p.1 - 1).toNat
  have nm := S_number (y := y) (m := p.1) (d := p.2 + 1) (by omega) (by omega) (by omega)
  have inm := I_number (y := y) (m := p.1) (d := 1) (by omega) (by omega) (by omega)
  refine ⟨?_, hy, m2, by omega, by rw [nm]; omega⟩
  rw [inm, w64 (n := n - (yearDay y + 1 - 1 + monthDays y (p.1 - 1).toNat)) (by omega), w64 (by omega)]
  congr 1
  omega
theorem eq_dateOf {n : Int} (h : S_l07Has n = true) : I_dateOf n = S_l07Date n := (date_of h).1
theorem weekday_eq {n : Int} (hn : -1000000000 ≤ n ∧ n ≤ 1000000000) : I_weekday n = (n + 5) % 7 ∧ S_l07Weekday n = (n + 5) % 7 := by
  unfold I_weekday S_l07Weekday
  rw [w64 (by omega)]
  exact ⟨I_mod_pos (by omega) (by omega) (by omega), S_l01Mod_pos (by omega) (by omega)⟩
theorem nthUp_congr {f g : Int → Bool} {n : Int} : ∀ k : Nat, (∀ d : Int, 1 ≤ d ∧ d ≤ k → f d = g d) → nthUp f n k = nthUp g n k := by
  intro k
  induction k with
  | zero => intro _; rfl
  | succ k ih =>
    intro h
    unfold nthUp
    rw [ih (fun d hd => h d (by omega)), h ((k : Int) + 1) (by omega)]
theorem nth_table : ∀ a : Fin 7, ∀ l : Fin 4, ∀ w : Fin 5, (nthUp (fun d => decide ((((a.1 : Nat) : Int) + d - 1) % 7 = 6)) ((w.1 : Nat) : Int) (28 + l.1)).1 =
    (if w.1 = 0 then (7 - ((a.1 : Nat) : Int)) + (28 + ((l.1 : Nat) : Int) - (7 - ((a.1 : Nat) : Int))) / 7 * 7 else 7 - ((a.1 : Nat) : Int) + 7 * (((w.1 : Nat) : Int) - 1)) := by decide +kernel
theorem nth_closed {a l w : Int} (ha : 0 ≤ a ∧ a < 7) (hl : 28 ≤ l ∧ l ≤ 31) (hw : 0 ≤ w ∧ w ≤ 4) :
    (nthUp (fun d => decide ((a + d - 1) % 7 = 6)) w l.toNat).1 = if w = 0 then (7 - a) + (l - (7 - a)) / 7 * 7 else 7 - a + 7 * (w - 1) := by
  have h := nth_table ⟨a.toNat, by omega⟩ ⟨(l - 28).toNat, by omega⟩ ⟨w.toNat, by omega⟩
  simp only at h
  rw [show ((a.toNat : Nat) : Int) = a by omega, show ((w.toNat : Nat) : Int) = w by omega, show (((l - 28).toNat : Nat) : Int) = l - 28 by omega, show 28 + (l - 28).toNat = l.toNat by omega] at h
  rw [h]
  by_cases hw0 : w = 0
  · rw [if_pos hw0, if_pos (by omega)]; omega
  · rw [if_neg hw0, if_neg (by omega)]
theorem eq_sunday {y m w : Int} (hy : 1901 ≤ y ∧ y ≤ 2099) (hm : 1 ≤ m ∧ m ≤ 12) (hw : 0 ≤ w ∧ w ≤ 4) : I_sunday y m w = S_l07Number (S_l07Nth y m 6 w) := by
  have db := days_bd y m
  have mb := monthDays_bd y (m - 1).toNat
  have yb : -40000 ≤ yearDay y ∧ yearDay y ≤ 40000 := by unfold yearDay; omega
  have nm : ∀ d : Int, -10000 ≤ d ∧ d ≤ 10000 → S_l07Number ⟨y, m, d⟩ = yearDay y + d - 1 + monthDays y (m - 1).toNat := fun d hd => S_number (by omega) (by omega) hd
  have inm := I_number (y := y) (m := m) (d := 1) (by omega) (by omega) (by omega)
  generalize hF : yearDay y + monthDays y (m - 1).toNat = F at *
  have inm' : I_dayNumber ⟨y, m, 1⟩ = F := by rw [inm]; omega
  have wd := (weekday_eq (n := F) (by omega)).1
  have ha : 0 ≤ (F + 5) % 7 ∧ (F + 5) % 7 < 7 := by omega
  have tbl := nth_closed (a := (F + 5) % 7) (l := S_l07Days y m) (w := w) ha db hw
  have fold : S_l07Nth y m 6 w = ⟨y, m, if w = 0 then (7 - (F + 5) % 7) + (S_l07Days y m - (7 - (F + 5) % 7)) / 7 * 7 else 7 - (F + 5) % 7 + 7 * (w - 1)⟩ := by
    unfold S_l07Nth
    congr 1
    rw [← tbl]
    congr 1
    refine nthUp_congr _ (fun d hd => ?_)
    rw [nm d (by omega), (weekday_eq (n := yearDay y + d - 1 + monthDays y (m - 1).toNat) (by omega)).2]
    rw [Bool.eq_iff_iff, decide_eq_true_eq, decide_eq_true_eq]
    omega
  rw [fold]
  unfold I_sunday I_nthWeekday
  simp only [inm', wd, eq_days]
  generalize (F + 5) % 7 = a at *
  generalize S_l07Days y m = l at *
  have e1 : wrap64 (6 - a) = 6 - a := w64 (by omega)
  have e2 : I_mod (6 - a) 7 = 6 - a := by rw [I_mod_pos (by omega) (by omega) (by omega)]; omega
  have e3 : wrap64 (1 + (6 - a)) = 7 - a := by rw [w64 (by omega)]; omega
  have e4 : wrap64 (l - (7 - a)) = l - (7 - a) := w64 (by omega)
  have e5 : wrap64 (Int.tdiv (l - (7 - a)) 7) = (l - (7 - a)) / 7 := quo_pos (by omega) (by omega)
  have e6 : wrap64 ((l - (7 - a)) / 7 * 7) = (l - (7 - a)) / 7 * 7 := w64 (by omega)
  have e7 : wrap64 (7 - a + (l - (7 - a)) / 7 * 7) = 7 - a + (l - (7 - a)) / 7 * 7 := w64 (by omega)
  have e8 : wrap64 (w - 1) = w - 1 := w64 (by omega)
  have e9 : wrap64 (7 * (w - 1)) = 7 * (w - 1) := w64 (by omega)
  have e10 : wrap64 (7 - a + 7 * (w - 1)) = 7 - a + 7 * (w - 1) := w64 (by omega)
  simp only [e1, e2, e3, e4, e5, e6, e7, e8, e9, e10]
  by_cases hw0 : w = 0
  · subst hw0
    simp only [beq_self_eq_true, if_true]
    exact eq_dayNumber (by dsimp only; omega) (by dsimp only; omega) (by dsimp only; omega)
  · have b0 : (w == 0) = false := by simpa using hw0
    have b1 : decide (l < 7 - a + 7 * (w - 1)) = false := by simp; omega
    simp only [b0, b1, Bool.false_eq_true, if_false, if_neg hw0]
    exact eq_dayNumber (by dsimp only; omega) (by dsimp only; omega) (by dsimp only; omega)
theorem IsDate_iff (d : Date) : S_IsDate d = true ↔ (1901 ≤ d.Year ∧ d.Year ≤ 2099) ∧ (1 ≤ d.Month ∧ d.Month ≤ 12) ∧ 1 ≤ d.Day ∧ d.Day ≤ S_l07Days d.Year d.Month := by
  simp [S_IsDate, S_l07Month, in_iff, and_assoc]
theorem eq_IsDate (d : Date) : I_IsDate d = S_IsDate d := by simp [I_IsDate, S_IsDate, I_isMonth, S_l07Month, eq_in, eq_days]
theorem IsZone_iff (z : Zone) : S_IsZone z = true ↔ (-840 ≤ z.Offset ∧ z.Offset ≤ 840) ∧ ((z.StartMonth = 0 ∧ z.StartWeek = 0 ∧ z.EndMonth = 0 ∧ z.EndWeek = 0) ∨ (z.StartMonth ≠ 0 ∧ (1 ≤ z.StartMonth ∧ z.StartMonth ≤ 12) ∧ (1 ≤ z.EndMonth ∧ z.EndMonth ≤ 12) ∧ z.StartMonth ≠ z.EndMonth ∧ (0 ≤ z.StartWeek ∧ z.StartWeek ≤ 4) ∧ (0 ≤ z.EndWeek ∧ z.EndWeek ≤ 4))) := by
  by_cases h0 : z.StartMonth = 0 <;> by_cases h1 : S_l01In z.Offset (-840) 840 = true <;> simp [S_IsZone, in_iff, and_assoc, h0] <;> simp_all [in_iff] <;> omega
theorem eq_summer {z : Zone} {d : Date} (hz : S_IsZone z = true) (hd : S_IsDate d = true) : I_Zone_isSummer z d = S_l11Summer z d := by
  obtain ⟨_, hz⟩ := (IsZone_iff z).1 hz
  obtain ⟨hy, hm, hdd⟩ := (IsDate_iff d).1 hd
  have db := days_bd d.Year d.Month
  unfold I_Zone_isSummer S_l11Summer
  rcases hz with hz | hz
  · simp [hz.1]
  · rw [eq_sunday hy hz.2.1 hz.2.2.2.2.1, eq_sunday hy hz.2.2.1 hz.2.2.2.2.2, eq_dayNumber (by omega) (by omega) (by omega)]
    have b0 : (z.StartMonth == 0) = false := by simpa using hz.1
    simp only [b0]
    have hx : ∀ a b : Int, (!decide (a ≤ b)) = decide (b < a) := by intro a b; rw [Bool.eq_iff_iff]; simp
    simp only [hx]
theorem eq_offset {z : Zone} {d : Date} (hz : S_IsZone z = true) (hd : S_IsDate d = true) : I_Zone_offset z d = S_l11Offset z d := by
  unfold I_Zone_offset S_l11Offset
  rw [eq_summer hz hd]
theorem eq_zoned (z : Zone) (d : Date) : I_zoned z d = if S_IsZone z = true ∧ S_IsDate d = true then 0 else 1 := by
  unfold I_zoned
  rw [eq_IsZone, eq_IsDate]
  cases S_IsZone z <;> cases S_IsDate d <;> rfl
theorem eq_IsSummerDay (z : Zone) (d : Date) : I_IsSummerDay z d = S_IsSummerDay z d := by
  unfold I_IsSummerDay S_IsSummerDay
  rw [eq_zoned]
  by_cases hz : S_IsZone z = true
  · by_cases hd : S_IsDate d = true
    · simp [hz, hd, eq_summer hz hd]
    · simp [hz, hd]
  · simp [hz]
theorem eq_OffsetOf (z : Zone) (d : Date) : I_OffsetOf z d = S_OffsetOf z d := by
  unfold I_OffsetOf S_OffsetOf
  rw [eq_zoned]
  by_cases hz : S_IsZone z = true
  · by_cases hd : S_IsDate d = true
    · simp [hz, hd, eq_offset hz hd]
    · simp [hz, hd]
  · simp [hz]
end Go.Proofs.Ytlckpdagejbchaa
