/- Moments, the next longitude, the equation of time, solar time: the program against the reference. -/
import Derived.Test.YtlckpdagejbchaaE4
namespace Go.Proofs.Ytlckpdagejbchaa
set_option linter.unusedVariables false
set_option linter.unusedSimpArgs false
open Go.RowKit (wrap64)
theorem number_bd {d : Date} (hd : S_IsDate d = true) : S_l07Number d = yearDay d.Year + d.Day - 1 + monthDays d.Year (d.Month - 1).toNat ∧ -40000 ≤ S_l07Number d ∧ S_l07Number d ≤ 40000 := by
  obtain ⟨hy, hm, hdd⟩ := (IsDate_iff d).1 hd
  have db := days_bd d.Year d.Month
  have mb := monthDays_bd d.Year (d.Month - 1).toNat
  have nm := S_number (y := d.Year) (m := d.Month) (d := d.Day) (by omega) (by omega) (by omega)
  have yb : -37000 ≤ yearDay d.Year ∧ yearDay d.Year ≤ 37000 := by unfold yearDay; omega
  have e : (⟨d.Year, d.Month, d.Day⟩ : Date) = d := rfl
  rw [e] at nm
  rw [nm]
  omega
theorem eq_number {d : Date} (hd : S_IsDate d = true) : I_dayNumber d = S_l07Number d := by
  obtain ⟨hy, hm, hdd⟩ := (IsDate_iff d).1 hd
  have db := days_bd d.Year d.Month
  exact eq_dayNumber (by omega) (by omega) (by omega)
theorem eq_later {d : Date} {s t u : Int} (hd : S_IsDate d = true) (hs : 0 ≤ s ∧ s ≤ 86399) (ht : -1000000 ≤ t ∧ t ≤ 1000000) (hu : u = s + t) :
    I_later d u = if (S_l11Shift d s t).2.2 = true then ((S_l11Shift d s t).1, (S_l11Shift d s t).2.1, 0) else (⟨0, 0, 0⟩, 0, 4) := by
  obtain ⟨_, nb⟩ := number_bd hd
  have e0 := eq_number hd
  unfold I_later S_l11Shift
  rw [e0]
  generalize S_l07Number d = N at *
  have e1 : I_floor u 86400 = u / 86400 := I_floor_pos (by omega) (by omega)
  have e2 : wrap64 (N + u / 86400) = N + u / 86400 := w64 (by omega)
  have e3 : wrap64 (N * 86400) = N * 86400 := w64 (by omega)
  have e4 : wrap64 (N * 86400 + s) = N * 86400 + s := w64 (by omega)
  have e5 : wrap64 (N * 86400 + s + t) = N * 86400 + u := by rw [w64 (by omega)]; omega
  have e6 : S_l01Floor (N * 86400 + u) 86400 = N + u / 86400 := by rw [S_l01Floor_pos (by omega) (by omega)]; omega
  have e7 : S_l01Mod (N * 86400 + u) 86400 = u % 86400 := by rw [S_l01Mod_pos (by omega) (by omega)]; omega
  have e8 : I_mod u 86400 = u % 86400 := I_mod_pos (by omega) (by omega) (by omega)
  simp only [e1, e2, e3, e4, e5, e6, e7, e8, eq_isDayNumber]
  cases h : S_l07Has (N + u / 86400) with
  | false => simp
  | true => simp [eq_dateOf h]
theorem shift_date {d : Date} {s t : Int} (h : (S_l11Shift d s t).2.2 = true) : S_IsDate (S_l11Shift d s t).1 = true := by
  unfold S_l11Shift at h ⊢
  dsimp only at h ⊢
  generalize S_l01Floor (wrap64 (wrap64 (wrap64 (S_l07Number d * 86400) + s) + t)) 86400 = n at *
  cases hh : S_l07Has n with
  | false => rw [hh] at h; cases h
  | true =>
    simp only [Bool.not_true, Bool.false_eq_true, if_false]
    obtain ⟨_, h1, h2, h3, _⟩ := date_of hh
    exact (IsDate_iff _).2 ⟨h1, h2, h3⟩
theorem eq_isSecond (s : Int) : I_isSecond s = S_l01In s 0 86399 := rfl
theorem moment_eq (z : Zone) (d : Date) (s : Int) : S_l11Moment z d s = if S_IsZone z = true ∧ S_IsDate d = true then (if S_l01In s 0 86399 = true then 0 else 2) else 1 := by
  unfold S_l11Moment
  cases S_IsZone z <;> cases S_IsDate d <;> cases S_l01In s 0 86399 <;> rfl
theorem offset_bd {z : Zone} (hz : S_IsZone z = true) (d : Date) : -900 ≤ S_l11Offset z d ∧ S_l11Offset z d ≤ 900 := by
  obtain ⟨h, _⟩ := (IsZone_iff z).1 hz
  unfold S_l11Offset
  split
  · rw [w64 (by omega)]; omega
  · omega
theorem eq_UniversalOf (z : Zone) (d : Date) (s : Int) : I_UniversalOf z d s = S_UniversalOf z d s := by
  unfold I_UniversalOf S_UniversalOf
  rw [eq_zoned, moment_eq, eq_isSecond]
  by_cases hzd : S_IsZone z = true ∧ S_IsDate d = true
  · obtain ⟨hz, hd⟩ := hzd
    by_cases hs : S_l01In s 0 86399 = true
    · have hs' := (in_iff _ _ _).1 hs
      have ob := offset_bd hz d
      have e1 : wrap64 (60 * S_l11Offset z d) = 60 * S_l11Offset z d := w64 (by omega)
      have e2 : wrap64 (s - 60 * S_l11Offset z d) = s - 60 * S_l11Offset z d := w64 (by omega)
      have e3 : wrap64 (-60 * S_l11Offset z d) = -60 * S_l11Offset z d := w64 (by omega)
      have l := eq_later (t := -60 * S_l11Offset z d) (u := s - 60 * S_l11Offset z d) hd hs' (by omega) (by omega)
      simp only [hz, hd, hs, eq_offset hz hd, e1, e2, e3, l]
      cases (S_l11Shift d s (-60 * S_l11Offset z d)).2.2 <;> simp
    · simp [hz, hd, hs]
  · simp [hzd]
theorem eq_CivilOf (z : Zone) (d : Date) (s : Int) : I_CivilOf z d s = S_CivilOf z d s := by
  unfold I_CivilOf S_CivilOf
  rw [eq_zoned, moment_eq, eq_isSecond]
  by_cases hzd : S_IsZone z = true ∧ S_IsDate d = true
  · obtain ⟨hz, hd⟩ := hzd
    by_cases hs : S_l01In s 0 86399 = true
    · have hs' := (in_iff _ _ _).1 hs
      have ob := ((IsZone_iff z).1 hz).1
      have e1 : wrap64 (z.Offset + 60) = z.Offset + 60 := w64 (by omega)
      have e2 : wrap64 (60 * (z.Offset + 60)) = 60 * (z.Offset + 60) := w64 (by omega)
      have e3 : wrap64 (s + 60 * (z.Offset + 60)) = s + 60 * (z.Offset + 60) := w64 (by omega)
      have e4 : wrap64 (60 * z.Offset) = 60 * z.Offset := w64 (by omega)
      have e5 : wrap64 (s + 60 * z.Offset) = s + 60 * z.Offset := w64 (by omega)
      have l1 := eq_later (t := 60 * (z.Offset + 60)) (u := s + 60 * (z.Offset + 60)) hd hs' (by omega) (by omega)
      have l2 := eq_later (t := 60 * z.Offset) (u := s + 60 * z.Offset) hd hs' (by omega) (by omega)
      have sd := shift_date (d := d) (s := s) (t := 60 * (z.Offset + 60))
      simp only [hz, hd, hs, e1, e2, e3, e4, e5, l1, l2]
      generalize S_l11Shift d s (60 * (z.Offset + 60)) = p at *
      generalize S_l11Shift d s (60 * z.Offset) = q at *
      cases hp : p.2.2 with
      | false => cases hq : q.2.2 <;> simp
      | true =>
        have es := eq_summer hz (sd hp)
        cases hq : q.2.2 <;> cases hsm : S_l11Summer z p.1 <;> simp [es, hsm]
    · simp [hz, hd, hs]
  · simp [hzd]
theorem nextUp_eq {lon : Int} (hl : 0 ≤ lon ∧ lon ≤ 1295999) : ∀ (k : Nat) (d : Int), S_l07Has d = true → nextUpI lon k d (I_sunLongitude d) = nextUpS lon k d := by
  intro k
  induction k with
  | zero => intro d _; rfl
  | succ k ih =>
    intro d hd
    have hd' := (has_iff d).1 hd
    unfold nextUpI nextUpS
    rw [eq_isDayNumber]
    cases h : S_l07Has (d + 1) with
    | false => simp
    | true =>
      simp only [if_true]
      rw [← ih (d + 1) h, eq_sunLongitude hd, eq_sunLongitude h]
      have b1 : 0 ≤ S_l08Longitude d ∧ S_l08Longitude d < 1296000 := S_plain_bd _
      have b2 : 0 ≤ S_l08Longitude (d + 1) ∧ S_l08Longitude (d + 1) < 1296000 := S_plain_bd _
      unfold I_liesOnWay
      have e1 : wrap64 (lon - S_l08Longitude d) = lon - S_l08Longitude d := w64 (by omega)
      have e2 : wrap64 (S_l08Longitude (d + 1) - S_l08Longitude d) = S_l08Longitude (d + 1) - S_l08Longitude d := w64 (by omega)
      rw [e1, e2, eq_plain (a := lon - S_l08Longitude d) (by omega), eq_plain (a := S_l08Longitude (d + 1) - S_l08Longitude d) (by omega)]
      simp
theorem eq_NextLongitude (n lon : Int) : I_NextLongitude n lon = S_NextLongitude n lon := by
  unfold I_NextLongitude S_NextLongitude I_nextLongitude
  rw [eq_isDayNumber, eq_in]
  cases h : S_l07Has n with
  | false => simp
  | true =>
    cases h2 : S_l01In lon 0 1295999 with
    | false => simp
    | true => simp [nextUp_eq ((in_iff _ _ _).1 h2) _ n h]
theorem halveUp_congr {f g : Int → Bool} : ∀ (k : Nat) (lo hi : Int), (∀ m, lo < m ∧ m < hi → f m = g m) → halveUp f k lo hi = halveUp g k lo hi := by
  intro k
  induction k with
  | zero => intro lo hi _; rfl
  | succ k ih =>
    intro lo hi h
    unfold halveUp
    by_cases hc : hi - lo ≤ 1
    · rw [if_pos hc, if_pos hc]
    · rw [if_neg hc, if_neg hc, h ((lo + hi) / 2) (by omega), ih ((lo + hi) / 2) hi (fun m hm => h m (by omega)), ih lo ((lo + hi) / 2) (fun m hm => h m (by omega))]
theorem halveUp_bd (f : Int → Bool) : ∀ (k : Nat) (lo hi : Int), lo < hi → lo ≤ halveUp f k lo hi ∧ halveUp f k lo hi < hi := by
  intro k
  induction k with
  | zero => intro lo hi h; exact ⟨Int.le_refl _, h⟩
  | succ k ih =>
    intro lo hi h
    unfold halveUp
    by_cases hc : hi - lo ≤ 1
    · rw [if_pos hc]; omega
    · rw [if_neg hc]
      split
      · have := ih ((lo + hi) / 2) hi (by omega); omega
      · have := ih lo ((lo + hi) / 2) (by omega); omega
theorem low_eq (x y : Int) : I_angleOfPointLow x y = S_l05PointLow x y := by
  have e : ∀ m : Int, m = 0 ∨ m = 648000 → halveUp (fun mid => decide (wrap64 (x * I_nanoSine mid) ≤ wrap64 (y * I_nanoCosine mid))) 648000 m (m + 648000) = halveUp (fun mid => decide (wrap64 (x * S_l04Sine mid) ≤ wrap64 (y * S_l04Cosine mid))) 648000 m (m + 648000) := by
    intro m hm
    refine halveUp_congr _ _ _ (fun a ha => ?_)
    unfold I_nanoCosine S_l04Cosine
    have e1 : wrap64 (a + 324000) = a + 324000 := w64 (by omega)
    rw [e1, eq_sine (a := a) (by omega), eq_sine (a := a + 324000) (by omega)]
  unfold I_angleOfPointLow S_l05PointLow
  by_cases h : 0 < y ∨ (y = 0 ∧ 0 < x)
  · rw [if_pos h, if_pos h]; exact e 0 (.inl rfl)
  · rw [if_neg h, if_neg h]; exact e 648000 (.inr rfl)
theorem eq_angleOfPoint (x y : Int) : I_angleOfPoint x y = S_l05Point x y := by
  unfold I_angleOfPoint S_l05Point
  rw [low_eq]
theorem low_bd (x y : Int) : 0 ≤ S_l05PointLow x y ∧ S_l05PointLow x y < 1296000 := by
  unfold S_l05PointLow
  split
  · have := halveUp_bd (fun mid => decide (wrap64 (x * S_l04Sine mid) ≤ wrap64 (y * S_l04Cosine mid))) 648000 0 (0 + 648000) (by omega)
    omega
  · have := halveUp_bd (fun mid => decide (wrap64 (x * S_l04Sine mid) ≤ wrap64 (y * S_l04Cosine mid))) 648000 648000 (648000 + 648000) (by omega)
    omega
theorem point_bd (x y : Int) : (-1 ≤ (S_l05Point x y).Low ∧ (S_l05Point x y).Low ≤ 1296000) ∧ (S_l05Point x y).High = (S_l05Point x y).Low + 3 := by
  have := low_bd x y
  unfold S_l05Point
  dsimp only
  rw [w64 (by omega), w64 (by omega)]; omega
theorem signed_eq {a : Int} (ha : -4000000000 ≤ a ∧ a ≤ 4000000000) : I_signed a = (a + 648000) % 1296000 - 648000 ∧ S_l03Signed a = (a + 648000) % 1296000 - 648000 := by
  constructor
  · unfold I_signed
    rw [w64 (n := a + 648000) (by omega), I_mod_pos (by omega) (by omega) (by omega), w64 (by omega)]
  · unfold S_l03Signed
    rw [S_plain_eq]
    dsimp only
    split
    · rename_i h; simp at h; rw [w64 (by omega)]; omega
    · rename_i h; simp at h; omega
theorem eq_equation {n : Int} (h : S_l07Has n = true) : I_equationOfTime n = S_l08Equation n := by
  unfold I_equationOfTime S_l08Equation
  have hl : 0 ≤ S_l08Longitude n ∧ S_l08Longitude n < 1296000 := S_plain_bd _
  have hm : 0 ≤ S_l08Mean n ∧ S_l08Mean n < 1296000 := S_plain_bd _
  dsimp only
  rw [eq_sunLongitude h, mean_eq h]
  generalize S_l08Longitude n = lon at *
  generalize S_l08Mean n = mean at *
  unfold I_nanoCosine S_l04Cosine
  have e1 : wrap64 (lon + 324000) = lon + 324000 := w64 (by omega)
  have e2 : wrap64 (84380 + 324000 : Int) = 408380 := w64 (n := 408380) (by omega)
  have s1 := eq_sine (a := lon) (by omega); have s2 := eq_sine (a := lon + 324000) (by omega); have s3 := eq_sine (a := 408380) (by omega)
  have b1 := sine_bd lon; have b2 := sine_bd (lon + 324000); have b3 := sine_bd 408380
  have b4 : -1000000000 ≤ S_l04Sine 408380 ∧ S_l04Sine 408380 ≤ 1000000000 := by decide +kernel
  have pb := prod_bd (x := S_l04Sine lon) (y := S_l04Sine 408380) (by omega) b1 b4
  have e3 : wrap64 (S_l04Sine lon * S_l04Sine 408380) = S_l04Sine lon * S_l04Sine 408380 := w64 (by omega)
  simp only [e1, e2, s1, s2, s3]
  rw [e3, eq_floor (a := S_l04Sine lon * S_l04Sine 408380) (b := 1000000000) (by omega) (by omega), eq_angleOfPoint]
  have bd := point_bd (S_l04Sine (lon + 324000)) (S_l01Floor (S_l04Sine lon * S_l04Sine 408380) 1000000000)
  generalize S_l05Point (S_l04Sine (lon + 324000)) (S_l01Floor (S_l04Sine lon * S_l04Sine 408380) 1000000000) = p at *
  obtain ⟨bl, bh⟩ := bd
  have e4 : wrap64 (mean - p.High) = mean - p.High := w64 (by omega)
  rw [e4]
  obtain ⟨g1, g2⟩ := signed_eq (a := mean - p.High) (by omega)
  have g3 : S_l03Signed (mean - p.High) = I_signed (mean - p.High) := by rw [g1, g2]
  rw [g3]
  have g4 : -648000 ≤ I_signed (mean - p.High) ∧ I_signed (mean - p.High) ≤ 648000 := by rw [g1]; omega
  generalize I_signed (mean - p.High) = e at *
  have w1 : wrap64 (e - 60) = e - 60 := w64 (by omega)
  have w2 : wrap64 (e + p.High) = e + p.High := w64 (by omega)
  have w3 : wrap64 (e + p.High - p.Low) = e + p.High - p.Low := w64 (by omega)
  have w4 : wrap64 (e + p.High - p.Low + 60) = e + p.High - p.Low + 60 := w64 (by omega)
  simp only [w1, w2, w3, w4]
  rw [eq_floor (a := e - 60) (b := 15) (by omega) (by omega), eq_ceil (a := e + p.High - p.Low + 60) (b := 15) (by omega) (by omega)]
theorem equation_bd (n : Int) : (-1000000 ≤ (S_l08Equation n).Low ∧ (S_l08Equation n).Low ≤ 1000000) ∧ (-1000000 ≤ (S_l08Equation n).High ∧ (S_l08Equation n).High ≤ 1000000) := by
  unfold S_l08Equation
  dsimp only
  have hm : 0 ≤ S_l08Mean n ∧ S_l08Mean n < 1296000 := S_plain_bd _
  generalize S_l08Mean n = mean at *
  have bd := point_bd (S_l04Cosine (S_l08Longitude n)) (S_l01Floor (wrap64 (S_l04Sine (S_l08Longitude n) * S_l04Cosine 84380)) 1000000000)
  generalize S_l05Point (S_l04Cosine (S_l08Longitude n)) (S_l01Floor (wrap64 (S_l04Sine (S_l08Longitude n) * S_l04Cosine 84380)) 1000000000) = p at *
  obtain ⟨bl, bh⟩ := bd
  have e4 : wrap64 (mean - p.High) = mean - p.High := w64 (by omega)
  rw [e4, (signed_eq (a := mean - p.High) (by omega)).2]
  have g4 : -648000 ≤ (mean - p.High + 648000) % 1296000 - 648000 ∧ (mean - p.High + 648000) % 1296000 - 648000 ≤ 648000 := by omega
  generalize (mean - p.High + 648000) % 1296000 - 648000 = e at *
  have w1 : wrap64 (e - 60) = e - 60 := w64 (by omega)
  have w2 : wrap64 (e + p.High) = e + p.High := w64 (by omega)
  have w3 : wrap64 (e + p.High - p.Low) = e + p.High - p.Low := w64 (by omega)
  have w4 : wrap64 (e + p.High - p.Low + 60) = e + p.High - p.Low + 60 := w64 (by omega)
  simp only [w1, w2, w3, w4]
  rw [S_l01Floor_pos (a := e - 60) (b := 15) (by omega) (by omega), ceil_pos (a := e + p.High - p.Low + 60) (b := 15) (by omega) (by omega)]
  omega
theorem eq_EquationOfTime (n : Int) : I_EquationOfTime n = S_EquationOfTime n := by
  unfold I_EquationOfTime S_EquationOfTime
  rw [eq_isDayNumber]
  cases h : S_l07Has n with
  | false => rfl
  | true => simp [eq_equation h]
theorem number_has {d : Date} (hd : S_IsDate d = true) : S_l07Has (S_l07Number d) = true := by
  obtain ⟨e, _⟩ := number_bd hd
  obtain ⟨hy, hm, hdd⟩ := (IsDate_iff d).1 hd
  have hp : ∀ k : Nat, k ≤ 11 → 0 ≤ monthDays d.Year k ∧ monthDays d.Year k + 28 * (12 - (k : Int)) ≤ monthDays d.Year 12 := by
    intro k hk
    have db := fun m => days_bd d.Year m
    have b := monthDays_bd d.Year k
    refine ⟨by omega, ?_⟩
    have step : ∀ j : Nat, j ≤ 12 - k → monthDays d.Year k + 28 * (j : Int) ≤ monthDays d.Year (k + j) := by
      intro j
      induction j with
      | zero => intro _; simp
      | succ j ih =>
        intro hj
        have := ih (by omega)
        have := db (((k + j : Nat) : Int) + 1)
        show _ ≤ monthDays d.Year (k + j) + S_l07Days d.Year (((k + j : Nat) : Int) + 1)
        omega
    have := step (12 - k) (Nat.le_refl _)
    rw [show k + (12 - k) = 12 by omega] at this
    omega
  have t := monthDays_year (y := d.Year) (by omega)
  have hs := monthDays_step (y := d.Year) (m := d.Month) hm.1
  have mono1 := yearDay_mono (a := 1901) (b := d.Year) hy.1
  have mono2 := yearDay_mono (a := d.Year + 1) (b := 2100) (by omega)
  have f0 : yearDay 1901 = -36159 := by decide
  have f1 : yearDay 2100 = 36525 := by decide
  have k1 := hp (d.Month - 1).toNat (by omega)
  have k2 : monthDays d.Year (d.Month + 1 - 1).toNat ≤ monthDays d.Year 12 := by
    by_cases h12 : d.Month = 12
    · rw [h12]; exact Int.le_refl _
    · have := hp (d.Month + 1 - 1).toNat (by omega); omega
  rw [has_iff, e]
  omega
theorem eq_solar {z : Zone} {lon : Int} {d : Date} {s : Int} (hz : S_IsZone z = true) (hd : S_IsDate d = true) (hl : -648000 ≤ lon ∧ lon ≤ 648000) (hs : 0 ≤ s ∧ s ≤ 86399) : I_Zone_solar z lon d s = S_l11Solar z lon d s := by
  unfold I_Zone_solar S_l11Solar
  dsimp only
  rw [eq_offset hz hd, eq_number hd, eq_equation (number_has hd)]
  have ob := offset_bd hz d
  have eb := equation_bd (S_l07Number d)
  generalize S_l11Offset z d = o at *
  generalize S_l08Equation (S_l07Number d) = q at *
  rw [eq_floor (a := lon) (by omega) (by omega), eq_ceil (a := lon) (by omega) (by omega)]
  unfold I_Interval_plus S_l02Add
  dsimp only
  congr 2 <;> exact Int.add_comm _ _
theorem eq_SolarOf (z : Zone) (lon : Int) (d : Date) (s : Int) : I_SolarOf z lon d s = S_SolarOf z lon d s := by
  unfold I_SolarOf S_SolarOf
  dsimp only
  rw [eq_zoned, moment_eq, eq_isSecond]
  have el : I_in lon (-648000) 648000 = S_l11Longitude lon := rfl
  by_cases hzd : S_IsZone z = true ∧ S_IsDate d = true
  · obtain ⟨hz, hd⟩ := hzd
    by_cases hs : S_l01In s 0 86399 = true
    · by_cases hl : S_l11Longitude lon = true
      · have hl' : -648000 ≤ lon ∧ lon ≤ 648000 := (in_iff _ _ _).1 hl
        simp [hz, hd, hs, hl, el, eq_solar hz hd hl' ((in_iff _ _ _).1 hs)]
      · simp [hz, hd, hs, hl, el]
    · simp [hz, hd, hs]
  · simp [hzd]
theorem eq_ClockError (z : Zone) (lon : Int) (d : Date) : I_ClockError z lon d = S_ClockError z lon d := by
  unfold I_ClockError S_ClockError
  rw [eq_SolarOf]
  rfl
end Go.Proofs.Ytlckpdagejbchaa
