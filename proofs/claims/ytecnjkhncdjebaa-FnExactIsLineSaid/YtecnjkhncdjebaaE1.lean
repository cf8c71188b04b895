/- The program's functions against the reference's: plain equalities. -/
import Derived.Test.YtecnjkhncdjebaaM2
namespace Go.Proofs.Ytecnjkhncdjebaa
set_option linter.unusedVariables false
set_option linter.unusedSimpArgs false
open Go.RowKit (wrap64)
theorem eq_in (n a b : Int) : I_in n a b = S_l01In n a b := rfl
theorem in_iff (n a b : Int) : S_l01In n a b = true ↔ a ≤ n ∧ n ≤ b := by simp [S_l01In]
theorem eq_isSpot2 (x y : Int) : (I_isSpot x && I_isSpot y) = S_l14Point x y := by simp [I_isSpot, S_l14Point, eq_in]
theorem eq_IsFace (f : Face) : I_IsFace f = S_IsFace f := by
  simp [I_IsFace, S_IsFace, I_isSpot, S_l14Point, eq_in, Bool.and_assoc]
theorem eq_IsPlace (p : Place) : I_IsPlace p = S_IsPlace p := by
  rw [Bool.eq_iff_iff]
  simp [I_IsPlace, S_IsPlace, I_Interval_within, S_l14Coordinate, eq_in, in_iff, wrap64]; omega
theorem IsPlace_iff (p : Place) : S_IsPlace p = true ↔ (-1000000 ≤ p.X.Low ∧ p.X.Low ≤ p.X.High ∧ p.X.High ≤ 1000000) ∧ (-1000000 ≤ p.Y.Low ∧ p.Y.Low ≤ p.Y.High ∧ p.Y.High ≤ 1000000) := by
  simp [S_IsPlace, S_l14Coordinate, in_iff]; omega
theorem eq_middle {p : Place} (h : S_IsPlace p = true) : I_Place_middle p = ⟨(S_l14Middle p).1, (S_l14Middle p).2⟩ := by
  obtain ⟨h1, h2⟩ := (IsPlace_iff p).1 h
  unfold I_Place_middle S_l14Middle
  rw [w64 (n := p.X.Low + p.X.High) (by omega), w64 (n := p.Y.Low + p.Y.High) (by omega)]
  rw [I_floor_pos (by omega) (by omega), I_floor_pos (by omega) (by omega), S_l01Floor_pos (by omega) (by omega), S_l01Floor_pos (by omega) (by omega)]
theorem middle_eq {p : Place} (h : S_IsPlace p = true) : S_l14Middle p = ((p.X.Low + p.X.High) / 2, (p.Y.Low + p.Y.High) / 2) := by
  obtain ⟨h1, h2⟩ := (IsPlace_iff p).1 h
  unfold S_l14Middle
  rw [w64 (n := p.X.Low + p.X.High) (by omega), w64 (n := p.Y.Low + p.Y.High) (by omega), S_l01Floor_pos (by omega) (by omega), S_l01Floor_pos (by omega) (by omega)]
theorem eq_MiddleOf (p : Place) : I_MiddleOf p = S_MiddleOf p := by
  unfold I_MiddleOf S_MiddleOf
  rw [eq_IsPlace]
  cases h : S_IsPlace p with
  | false => rfl
  | true => simp [eq_middle h]
theorem eq_PlaceError (p : Place) : I_PlaceError p = S_PlaceError p := by
  unfold I_PlaceError S_PlaceError
  rw [eq_IsPlace]
  cases h : S_IsPlace p with
  | false => rfl
  | true => simp [I_Place_err, S_l14Error, eq_middle h]
theorem eq_WidenPlace (p : Place) (n : Int) : I_WidenPlace p n = S_WidenPlace p n := by
  unfold I_WidenPlace S_WidenPlace
  simp only [eq_IsPlace, eq_in, S_l14Result, I_Place_wider, S_l14Widen]
  rfl
theorem eq_MeetFaces (f g : Face) : I_MeetFaces f g = S_MeetFaces f g := by
  unfold I_MeetFaces S_MeetFaces
  simp only [eq_IsFace]
theorem eqFace_refl (a : Face) : L_eqFace a a = true := by simp [L_eqFace]
theorem eqInterval_refl0 (a : Interval) : L_eqInterval a a = true := by simp [L_eqInterval]
theorem eqPlace_refl (a : Place) : L_eqPlace a a = true := by simp [L_eqPlace, eqInterval_refl0]
theorem eqInterval_refl (a : Interval) : L_eqInterval a a = true := by simp [L_eqInterval]
theorem eq_InFace (f : Face) (p : Point) : I_InFace f p = S_InFace f p := by
  have hp : I_isPoint p = S_l14Point p.X p.Y := eq_isSpot2 p.X p.Y
  unfold I_InFace S_InFace I_faced
  simp only [List.all_cons, List.all_nil, Bool.and_true, hp, eq_IsFace]
  cases S_IsFace f <;> cases S_l14Point p.X p.Y <;> rfl
end Go.Proofs.Ytecnjkhncdjebaa
