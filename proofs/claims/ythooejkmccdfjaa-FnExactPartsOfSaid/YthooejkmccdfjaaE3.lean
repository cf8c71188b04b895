/- Intervals, sines of intervals, the sun's direction: the program against the reference. -/
import Derived.Test.YthooejkmccdfjaaE2
namespace Go.Proofs.Ythooejkmccdfjaa
set_option linter.unusedVariables false
set_option linter.unusedSimpArgs false
open Go.RowKit (wrap64)
theorem eq_floor {a b : Int} (hb : 0 < b) (ha : -9223372036854775808 ≤ a ∧ a ≤ 9223372036854775807) : I_floor a b = S_l01Floor a b := by
  rw [I_floor_pos hb ha, S_l01Floor_pos hb ha]
theorem eq_ceil {a b : Int} (hb : 0 < b) (ha : -9223372036854775807 ≤ a ∧ a ≤ 9223372036854775807) : I_ceil a b = S_l01Ceil a b := by
  unfold I_ceil S_l01Ceil
  rw [eq_floor hb (by rw [w64 (by omega)]; omega)]
theorem ceil_pos {a b : Int} (hb : 0 < b) (ha : -9223372036854775807 ≤ a ∧ a ≤ 9223372036854775807) : S_l01Ceil a b = -((-a) / b) := by
  unfold S_l01Ceil
  have e : wrap64 (-a) = -a := w64 (by omega)
  rw [e, S_l01Floor_pos hb (by omega)]
  have h := ediv_bounds (a := -a) hb (-9223372036854775807) 9223372036854775807 (by omega) (by omega) (by omega)
  exact w64 (by omega)
theorem eq_sineI {a : Int} (ha : -4611686018427387904 ≤ a ∧ a ≤ 4611686018427387904) : I_sine a = S_l04Sin a := by
  have hb := sine_bd a
  unfold I_sine S_l04Sin S_l04Interval
  simp only [eq_sine ha]
  have e1 : wrap64 (S_l04Sine a - 60) = S_l04Sine a - 60 := w64 (by omega)
  have e2 : wrap64 (S_l04Sine a + 60) = S_l04Sine a + 60 := w64 (by omega)
  rw [e1, e2, eq_floor (by omega) (by omega), eq_ceil (by omega) (by omega)]
/-- An interval within a bound. -/
def Within (a : Interval) (m : Int) : Prop := (-m ≤ a.Low ∧ a.Low ≤ m) ∧ (-m ≤ a.High ∧ a.High ≤ m)
theorem sin_bd (a : Int) : Within (S_l04Sin a) 4000001 := by
  have hb := sine_bd a
  unfold Within S_l04Sin S_l04Interval
  have e1 : wrap64 (S_l04Sine a - 60) = S_l04Sine a - 60 := w64 (by omega)
  have e2 : wrap64 (S_l04Sine a + 60) = S_l04Sine a + 60 := w64 (by omega)
  rw [e1, e2, S_l01Floor_pos (by omega) (by omega), ceil_pos (by omega) (by omega)]
  dsimp only
  omega
theorem eq_times {a b : Interval} (ha : Within a 1000000000) (hb : Within b 1000000000) : I_Interval_times a b = S_l02Mul a b := by
  obtain ⟨a1, a2⟩ := ha; obtain ⟨b1, b2⟩ := hb
  have p := prod_bd (by omega) a1 b1; have q := prod_bd (by omega) a1 b2; have r := prod_bd (by omega) a2 b1; have s := prod_bd (by omega) a2 b2
  unfold I_Interval_times S_l02Mul
  dsimp only
  rw [w64 (show -9223372036854775808 ≤ a.Low * b.Low ∧ a.Low * b.Low ≤ 9223372036854775807 by omega), w64 (show -9223372036854775808 ≤ a.Low * b.High ∧ a.Low * b.High ≤ 9223372036854775807 by omega), w64 (show -9223372036854775808 ≤ a.High * b.Low ∧ a.High * b.Low ≤ 9223372036854775807 by omega), w64 (show -9223372036854775808 ≤ a.High * b.High ∧ a.High * b.High ≤ 9223372036854775807 by omega)]
  rw [eq_floor (by omega) (by omega), eq_ceil (by omega) (by omega)]
theorem mul_bd {a b : Interval} {m n : Int} (hm : 0 ≤ m ∧ m ≤ 1000000000) (hn : 0 ≤ n ∧ n ≤ 1000000000) (ha : Within a m) (hb : Within b n) : Within (S_l02Mul a b) (m * n / 1000000 + 1) := by
  obtain ⟨a1, a2⟩ := ha; obtain ⟨b1, b2⟩ := hb
  have p := prod_bd (by omega) a1 b1; have q := prod_bd (by omega) a1 b2; have r := prod_bd (by omega) a2 b1; have s := prod_bd (by omega) a2 b2
  have t := prod_bd (m := 1000000000) (n := 1000000000) (x := m) (y := n) (by omega) (by omega) (by omega)
  unfold Within S_l02Mul
  dsimp only
  rw [w64 (show -9223372036854775808 ≤ a.Low * b.Low ∧ a.Low * b.Low ≤ 9223372036854775807 by omega), w64 (show -9223372036854775808 ≤ a.Low * b.High ∧ a.Low * b.High ≤ 9223372036854775807 by omega), w64 (show -9223372036854775808 ≤ a.High * b.Low ∧ a.High * b.Low ≤ 9223372036854775807 by omega), w64 (show -9223372036854775808 ≤ a.High * b.High ∧ a.High * b.High ≤ 9223372036854775807 by omega)]
  rw [S_l01Floor_pos (by omega) (by omega), ceil_pos (by omega) (by omega)]
  omega
theorem eq_sineRange {a : Interval} (ha : Within a 1000000000) (h : a.Low ≤ a.High) : I_sineRange a = S_l04Range a := by
  obtain ⟨a1, a2⟩ := ha
  unfold I_sineRange S_l04Range
  have e1 : wrap64 (324000 - a.Low) = 324000 - a.Low := w64 (by omega)
  have e2 : wrap64 (-324000 - a.Low) = -324000 - a.Low := w64 (by omega)
  have e3 : wrap64 (a.High - a.Low) = a.High - a.Low := w64 (by omega)
  have p1 := S_plain_bd (324000 - a.Low); have p2 := S_plain_bd (-324000 - a.Low)
  have e4 : wrap64 (a.Low + S_l03Plain (324000 - a.Low)) = a.Low + S_l03Plain (324000 - a.Low) := w64 (by omega)
  have e5 : wrap64 (a.Low + S_l03Plain (-324000 - a.Low)) = a.Low + S_l03Plain (-324000 - a.Low) := w64 (by omega)
  simp only [e1, e2, e3, eq_plain (show -4611686018427387904 ≤ 324000 - a.Low ∧ 324000 - a.Low ≤ 4611686018427387904 by omega), eq_plain (show -4611686018427387904 ≤ -324000 - a.Low ∧ -324000 - a.Low ≤ 4611686018427387904 by omega), e4, e5, eq_sineI (show -4611686018427387904 ≤ a.Low ∧ a.Low ≤ 4611686018427387904 by omega), eq_sineI (show -4611686018427387904 ≤ a.High ∧ a.High ≤ 4611686018427387904 by omega), decide_eq_true_eq]
  have c1 : (a.Low + S_l03Plain (324000 - a.Low) ≤ a.High) = (S_l03Plain (324000 - a.Low) ≤ a.High - a.Low) := propext (by omega)
  have c2 : (a.Low + S_l03Plain (-324000 - a.Low) ≤ a.High) = (S_l03Plain (-324000 - a.Low) ≤ a.High - a.Low) := propext (by omega)
  simp only [c1, c2]
  rfl
theorem hull_bd {a b : Interval} {m : Int} (ha : Within a m) (hb : Within b m) : Within (S_l02Hull a b) m := by
  obtain ⟨a1, a2⟩ := ha; obtain ⟨b1, b2⟩ := hb
  unfold Within S_l02Hull; dsimp only; omega
theorem range_bd (a : Interval) : Within (S_l04Range a) 4000001 := by
  have h0 := hull_bd (sin_bd a.Low) (sin_bd a.High)
  unfold S_l04Range
  dsimp only
  split <;> split <;> first | exact h0 | exact hull_bd h0 (by unfold Within; dsimp only; omega) | exact hull_bd (hull_bd h0 (by unfold Within; dsimp only; omega)) (by unfold Within; dsimp only; omega)
theorem eq_isDeclination (d : Interval) : I_isDeclination d = S_l09Declination d := by
  have e : wrap64 (-324000) = -324000 := w64 (by omega)
  simp [I_isDeclination, S_l09Declination, eq_IsInterval, I_Interval_within, S_l09Latitude, eq_in, Bool.and_assoc, e]
theorem eq_sunAt {f : Int} {d : Interval} {m : Int} (hf : -324000 ≤ f ∧ f ≤ 324000) (hd : Within d 324000) (hd2 : d.Low ≤ d.High) (hm : 0 ≤ m ∧ m ≤ 1439) : I_sunAt f d m = S_l09Sun f d m := by
  obtain ⟨d1, d2⟩ := hd
  have e1 : wrap64 (m - 720) = m - 720 := w64 (by omega)
  have e2 : wrap64 ((m - 720) * 900) = (m - 720) * 900 := w64 (by omega)
  have e3 : wrap64 (d.Low + 324000) = d.Low + 324000 := w64 (by omega)
  have e4 : wrap64 (d.High + 324000) = d.High + 324000 := w64 (by omega)
  have e5 : wrap64 ((m - 720) * 900 + 324000) = (m - 720) * 900 + 324000 := w64 (by omega)
  have e6 : wrap64 (f + 324000) = f + 324000 := w64 (by omega)
  have rs := eq_sineRange (a := d) (by unfold Within; omega) hd2
  have rc := eq_sineRange (a := ⟨d.Low + 324000, d.High + 324000⟩) (by unfold Within; dsimp only; omega) (by dsimp only; omega)
  have s1 := eq_sineI (a := (m - 720) * 900) (by omega); have s2 := eq_sineI (a := (m - 720) * 900 + 324000) (by omega)
  have s3 := eq_sineI (a := f) (by omega); have s4 := eq_sineI (a := f + 324000) (by omega)
  have big : ∀ {a : Interval}, Within a 4000001 → Within a 1000000000 := by intro a h; unfold Within at *; omega
  have bd := range_bd d; have bc := range_bd ⟨d.Low + 324000, d.High + 324000⟩
  have b1 := sin_bd ((m - 720) * 900); have b2 := sin_bd ((m - 720) * 900 + 324000); have b3 := sin_bd f; have b4 := sin_bd (f + 324000)
  have b5 : Within (S_l02Mul (S_l04Range ⟨d.Low + 324000, d.High + 324000⟩) (S_l04Sin ((m - 720) * 900 + 324000))) 1000000000 := by
    have h := mul_bd (by omega) (by omega) bc b2; unfold Within at *; omega
  unfold I_sunAt S_l09Sun I_cosineRange I_Interval_shifted I_cosine S_l04Cos S_l04Cosine S_l09Hour
  simp only [e1, e2, e3, e4, e5, e6, rs, rc, s1, s2, s3, s4]
  have fold : ∀ x, S_l04Interval (S_l04Sine x) = S_l04Sin x := fun _ => rfl
  simp only [fold]
  rw [eq_times (big bc) (big b1), eq_times (big bc) (big b2), eq_times (big bd) (big b4), eq_times (big bd) (big b3), eq_times b5 (big b3), eq_times b5 (big b4)]
  rfl
theorem eq_SunDirection (f : Int) (d : Interval) (m : Int) : I_SunDirection f d m = S_SunDirection f d m := by
  unfold I_SunDirection S_SunDirection
  rw [eq_isDeclination]
  by_cases h : S_l09Declination d = true
  · by_cases h2 : S_l09Latitude f = true ∧ S_l09Minute m = true
    · obtain ⟨h2, h3⟩ := h2
      have h4 : I_isLatitude f = true := h2
      have h5 : I_isMinute m = true := by rw [eq_isMinute]; exact h3
      simp only [h, h2, h3, h4, h5]
      have q2 : -324000 ≤ f ∧ f ≤ 324000 := (in_iff _ _ _).1 h2
      have q3 : 0 ≤ m ∧ m ≤ 1439 := (in_iff _ _ _).1 h3
      simp [S_l09Declination, S_IsInterval, S_l09Latitude, S_l01In, S_l01Is] at h
      rw [eq_sunAt q2 (by unfold Within; omega) (by omega) q3]
    · have h4 : I_isLatitude f = S_l09Latitude f := rfl
      have h5 : (!S_l09Latitude f || !S_l09Minute m) = true := by
        cases ha : S_l09Latitude f <;> cases hb : S_l09Minute m <;> simp_all
      simp only [h, h4, eq_isMinute, h5, if_true]
  · simp only [Bool.not_eq_true] at h; simp [h]
end Go.Proofs.Ythooejkmccdfjaa
