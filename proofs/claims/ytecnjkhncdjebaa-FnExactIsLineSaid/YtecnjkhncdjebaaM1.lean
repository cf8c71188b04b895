/- Plain arithmetic of the program's and the reference's small functions: quotients rounded down, remainders, bounds. No program in sight. -/
import Derived.Test.YtecnjkhncdjebaaDefs
import Derived.IntWalk
namespace Go.Proofs.Ytecnjkhncdjebaa
set_option linter.unusedVariables false
set_option linter.unusedSimpArgs false
open Go.RowKit (wrap64)
theorem w64 {n : Int} (h : -9223372036854775808 ≤ n ∧ n ≤ 9223372036854775807) : wrap64 n = n := by unfold wrap64; omega
theorem ediv_unique {a b q r : Int} (hb : 0 < b) (h : a = b * q + r) (h0 : 0 ≤ r) (h1 : r < b) : a / b = q := by
  rw [h, Int.add_comm, Int.add_mul_ediv_left _ _ (by omega), Int.ediv_eq_zero_of_lt h0 h1, Int.zero_add]
theorem ediv_bounds {a b : Int} (hb : 0 < b) (l u : Int) (hl : l ≤ 0) (hu : 0 ≤ u) (ha : l ≤ a ∧ a ≤ u) : l ≤ a / b ∧ a / b ≤ u := by
  constructor
  · rw [Int.le_ediv_iff_mul_le hb]
    have : l * b ≤ l * 1 := Int.mul_le_mul_of_nonpos_left hl (by omega)
    omega
  · have h1 : a / b ≤ u / b := Int.ediv_le_ediv hb ha.2
    have h2 : u / b ≤ u := Int.ediv_le_self _ hu
    omega
/-- The quotient toward zero, by the quotient rounded down. -/
theorem tdiv_down {a b : Int} (hb : 0 < b) : a / b = if a.tmod b < 0 then a.tdiv b - 1 else a.tdiv b := by
  have h := Int.tmod_add_mul_tdiv a b
  by_cases ha : 0 ≤ a
  · have h5 : 0 ≤ a.tmod b := Int.tmod_nonneg b ha
    rw [if_neg (by omega), Int.tdiv_eq_ediv_of_nonneg ha]
  · have h6 : -b < a.tmod b := by have := Int.lt_tmod_of_pos a hb; omega
    have h7 : a.tmod b ≤ 0 := by
      have := Int.tmod_nonneg (a := -a) b (by omega)
      rw [Int.neg_tmod] at this
      omega
    by_cases hr : a.tmod b < 0
    · rw [if_pos hr]
      exact ediv_unique hb (r := a.tmod b + b) (by rw [Int.mul_sub]; omega) (by omega) (by omega)
    · rw [if_neg hr]
      exact ediv_unique hb (r := a.tmod b) (by omega) (by omega) (by omega)
theorem tdiv_range {a b : Int} (hb : 0 < b) (ha : -9223372036854775808 ≤ a ∧ a ≤ 9223372036854775807) : -9223372036854775808 ≤ a.tdiv b ∧ a.tdiv b ≤ 9223372036854775807 := by
  by_cases h : 0 ≤ a
  · rw [Int.tdiv_eq_ediv_of_nonneg h]; have := Int.ediv_nonneg h (by omega : 0 ≤ b); have := Int.ediv_le_self b h; omega
  · have e : a.tdiv b = -((-a) / b) := by rw [← Int.tdiv_eq_ediv_of_nonneg (by omega : 0 ≤ -a), Int.neg_tdiv, Int.neg_neg]
    rw [e]
    have := Int.ediv_nonneg (by omega : 0 ≤ -a) (by omega : 0 ≤ b); have := Int.ediv_le_self b (by omega : 0 ≤ -a); omega
theorem quo_pos {x y : Int} (h : 0 ≤ x ∧ x ≤ 9223372036854775807) (hy : 0 < y) : wrap64 (x.tdiv y) = x / y := by
  rw [w64 (tdiv_range hy (by omega)), Int.tdiv_eq_ediv_of_nonneg h.1]
theorem ediv_low {a b : Int} (hb : 0 < b) (ha : -9223372036854775808 ≤ a) : -9223372036854775808 ≤ a / b := by
  by_cases h : 0 ≤ a
  · have := Int.ediv_nonneg h (by omega : 0 ≤ b); omega
  · have := (ediv_bounds hb a 0 (by omega) (by omega) ⟨Int.le_refl a, by omega⟩).1; omega
theorem prod_bd {x y m n : Int} (hm : 0 ≤ m) (hx : -m ≤ x ∧ x ≤ m) (hy : -n ≤ y ∧ y ≤ n) : -(m * n) ≤ x * y ∧ x * y ≤ m * n := by
  have a1 := Int.mul_nonneg (show 0 ≤ m + x by omega) (show 0 ≤ n + y by omega)
  have a2 := Int.mul_nonneg (show 0 ≤ m - x by omega) (show 0 ≤ n - y by omega)
  have a3 := Int.mul_nonneg (show 0 ≤ m + x by omega) (show 0 ≤ n - y by omega)
  have a4 := Int.mul_nonneg (show 0 ≤ m - x by omega) (show 0 ≤ n + y by omega)
  simp only [Int.add_mul, Int.sub_mul, Int.mul_add, Int.mul_sub] at a1 a2 a3 a4
  omega
theorem I_floor_pos {a b : Int} (hb : 0 < b) (ha : -9223372036854775808 ≤ a ∧ a ≤ 9223372036854775807) : I_floor a b = a / b := by
  have hd := tdiv_down (a := a) hb
  have hr := tdiv_range hb ha
  have hl := ediv_low hb ha.1
  unfold I_floor
  simp only [w64 hr]
  have hbf : decide (b < 0) = false := by simp; omega
  by_cases h : a.tmod b < 0
  · rw [if_pos h] at hd
    have h1 : (a.tmod b != 0) = true := by simp; omega
    have h2 : decide (a.tmod b < 0) = true := by simpa using h
    simp only [h1, h2, hbf]
    rw [w64 (by omega)]
    simp; exact hd.symm
  · rw [if_neg h] at hd
    have h2 : decide (a.tmod b < 0) = false := by simpa using h
    simp [h2, hbf, hd]
theorem S_l01Floor_pos {a b : Int} (hb : 0 < b) (ha : -9223372036854775808 ≤ a ∧ a ≤ 9223372036854775807) : S_l01Floor a b = a / b := by
  have hd := tdiv_down (a := a) hb
  have hr := tdiv_range hb ha
  have hl := ediv_low hb ha.1
  unfold S_l01Floor
  have hbf : decide (b < 0) = false := by simp; omega
  simp only [hbf, Bool.false_eq_true, if_false, w64 hr]
  by_cases h : a.tmod b < 0
  · rw [if_pos h] at hd
    have h2 : decide (a.tmod b < 0) = true := by simpa using h
    simp only [h2, if_true]
    rw [w64 (by omega), hd]
  · rw [if_neg h] at hd
    have h2 : decide (a.tmod b < 0) = false := by simpa using h
    simp only [h2, Bool.false_eq_true, if_false]
    exact hd.symm
end Go.Proofs.Ytecnjkhncdjebaa
