/- The days of the seasons: the program against the reference. -/
import Derived.Test.YtlckpdagejbchaaE5
namespace Go.Proofs.Ytlckpdagejbchaa
set_option linter.unusedVariables false
set_option linter.unusedSimpArgs false
open Go.RowKit (wrap64)
def S_Seasons (year : Int) : List Int := [(S_NextLongitude (S_l07Year year) 0).1, (S_NextLongitude (S_l07Year year) 324000).1, (S_NextLongitude (S_l07Year year) 648000).1, (S_NextLongitude (S_l07Year year) 972000).1]
def I_Seasons (year : Int) : List Int := [(I_nextLongitude (I_dayNumber ⟨year, 1, 1⟩) 0).1, (I_nextLongitude (I_dayNumber ⟨year, 1, 1⟩) 324000).1, (I_nextLongitude (I_dayNumber ⟨year, 1, 1⟩) 648000).1, (I_nextLongitude (I_dayNumber ⟨year, 1, 1⟩) 972000).1]
theorem first_day {year : Int} (h : 1901 ≤ year ∧ year ≤ 2099) : I_dayNumber ⟨year, 1, 1⟩ = S_l07Year year ∧ -36159 ≤ I_dayNumber ⟨year, 1, 1⟩ ∧ I_dayNumber ⟨year, 1, 1⟩ ≤ 36524 := by
  have m0 : monthDays year ((1 : Int) - 1).toNat = 0 := rfl
  rw [I_number (by omega) (by omega) (by omega), S_year (by omega), m0]
  unfold yearDay
  omega
theorem eq_Seasons {year : Int} (h : S_l01In year 1901 2099 = true) : I_Seasons year = S_Seasons year := by
  have hy := (in_iff _ _ _).1 h
  obtain ⟨e, h1, h2⟩ := first_day hy
  have hh : S_l07Has (S_l07Year year) = true := by rw [has_iff, ← e]; exact ⟨h1, h2⟩
  have key : ∀ lon : Int, 0 ≤ lon ∧ lon ≤ 1295999 → I_nextLongitude (I_dayNumber ⟨year, 1, 1⟩) lon = S_NextLongitude (S_l07Year year) lon := by
    intro lon hl
    have hl2 : S_l01In lon 0 1295999 = true := (in_iff _ _ _).2 hl
    rw [e]
    unfold I_nextLongitude S_NextLongitude
    rw [hh, hl2, nextUp_eq hl _ _ hh]
    rfl
  unfold I_Seasons S_Seasons
  rw [key 0 (by omega), key 324000 (by omega), key 648000 (by omega), key 972000 (by omega)]
end Go.Proofs.Ytlckpdagejbchaa
