/- Intervals, sines of intervals, the sun's direction: the program against the reference. -/
import Derived.Test.YtlckpdagejbchaaE2
namespace Go.Proofs.Ytlckpdagejbchaa
set_option linter.unusedVariables false
set_option linter.unusedSimpArgs false
open Go.RowKit (wrap64)
theorem eq_floor {a b : Int} (hb : 0 < b) (ha : -9223372036854775808 ≤ a ∧ a ≤ 9223372036854775807) : I_floor a b = S_l01Floor a b := by
  rw [I_floor_pos hb ha, S_l01Floor_pos hb ha]
theorem eq_ceil {a b : Int} (hb : 0 < b) (ha : -9223372036854775807 ≤ a ∧ a ≤ 9223372036854775807) : I_ceil a b = S_l01Ceil a b := by
  unfold I_ceil S_l01Ceil
  rw [eq_floor hb (by rw [w64 (by omega)]; omega)]
theorem ceil_pos {a b : Int} (hb : 0 < b) (ha : -9223372036854775807 ≤ a ∧ a ≤ 9223372036854775807) : S_l01Ceil a b = -((-a) / b) := by
  unfold S_l01Ceil
  have e : wrap64 (-a) = -a := w64 (by omega)
  rw [e, S_l01Floor_pos hb (by omega)]
  have h := ediv_bounds (a := -a) hb (-9223372036854775807) 9223372036854775807 (by omega) (by omega) (by omega)
  exact w64 (by omega)
end Go.Proofs.Ytlckpdagejbchaa
