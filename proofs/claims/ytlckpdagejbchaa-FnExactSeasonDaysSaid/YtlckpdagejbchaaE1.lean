/- The program's functions against the reference's: plain equalities. -/
import Derived.Test.YtlckpdagejbchaaM2
namespace Go.Proofs.Ytlckpdagejbchaa
set_option linter.unusedVariables false
set_option linter.unusedSimpArgs false
open Go.RowKit (wrap64)
theorem eq_in (n a b : Int) : I_in n a b = S_l01In n a b := rfl
theorem in_iff (n a b : Int) : S_l01In n a b = true ↔ a ≤ n ∧ n ≤ b := by simp [S_l01In]
theorem eq_IsZone (z : Zone) : I_IsZone z = S_IsZone z := by
  by_cases h : z.StartMonth = 0 <;> simp [I_IsZone, S_IsZone, eq_in, Bool.and_assoc, h]
theorem plain_eq {a : Int} (ha : -4611686018427387904 ≤ a ∧ a ≤ 4611686018427387904) : I_plain a = a % 1296000 := I_mod_pos (by omega) (by omega) ha
theorem S_plain_eq (a : Int) : S_l03Plain a = a % 1296000 := S_l01Mod_pos (by omega) (by omega)
theorem eq_plain {a : Int} (ha : -4611686018427387904 ≤ a ∧ a ≤ 4611686018427387904) : I_plain a = S_l03Plain a := by rw [plain_eq ha, S_plain_eq]
theorem eqInterval_refl (a : Interval) : L_eqInterval a a = true := by simp [L_eqInterval]
theorem eqDate_refl (a : Date) : L_eqDate a a = true := by simp [L_eqDate]
end Go.Proofs.Ytlckpdagejbchaa
