/- Rows of points. -/
import Derived.Test.YtecnjkhncdjebaaOwn
namespace Go.Proofs.Ytecnjkhncdjebaa
set_option linter.unusedVariables false
set_option linter.unusedSimpArgs false
open Go.RowKit
def pts (zs : List Point) : List Value := zs.flatMap fun p => [.int .i64 p.X, .int .i64 p.Y]
theorem pts_length : ∀ zs : List Point, (pts zs).length = 2 * zs.length := by
  intro zs
  induction zs with
  | nil => rfl
  | cons p zs ih => simp only [pts, List.flatMap_cons, List.length_append, List.length_cons, List.length_nil] at ih ⊢; omega
theorem pts_get : ∀ (zs : List Point) (j : Nat), j < zs.length → (pts zs)[j * 2]? = some (.int .i64 (zs.getD j ⟨0, 0⟩).X) ∧ (pts zs)[j * 2 + 1]? = some (.int .i64 (zs.getD j ⟨0, 0⟩).Y) := by
  intro zs
  induction zs with
  | nil => intro j hj; simp at hj
  | cons p zs ih =>
    intro j hj
    cases j with
    | zero => simp [pts]
    | succ j =>
      have := ih j (by simpa using hj)
      have e : pts (p :: zs) = .int .i64 p.X :: .int .i64 p.Y :: pts zs := rfl
      rw [e]
      have e1 : (j + 1) * 2 = j * 2 + 2 := by omega
      have e2 : (j + 1) * 2 + 1 = (j * 2 + 1) + 2 := by omega
      rw [e1]
      simpa using this
theorem Row.ptX {w : World} {g : Nat} {zs : List Point} (r : Row w g (pts zs)) {j : Nat} (hj : j < zs.length) : w.cell? ⟨g, j * 2, none⟩ = some (.int .i64 (zs.getD j ⟨0, 0⟩).X) := by
  rw [r.2.1, if_pos (by rw [pts_length]; omega), (pts_get zs j hj).1]
theorem Row.ptY {w : World} {g : Nat} {zs : List Point} (r : Row w g (pts zs)) {j : Nat} (hj : j < zs.length) : w.cell? ⟨g, j * 2 + 1, none⟩ = some (.int .i64 (zs.getD j ⟨0, 0⟩).Y) := by
  rw [r.2.1, if_pos (by rw [pts_length]; omega), (pts_get zs j hj).2]
theorem all_next {f : Point → Bool} {zs : List Point} {j : Nat} (h0 : (zs.take j).all f = true) (h : f (zs.getD j ⟨0, 0⟩) = true) (hj : j < zs.length) : (zs.take (j + 1)).all f = true := by
  rw [List.getD_eq_getElem?_getD, List.getElem?_eq_getElem hj] at h
  rw [List.take_add_one, List.getElem?_eq_getElem hj, List.all_append, h0]
  simpa using h
theorem all_not {f : Point → Bool} {zs : List Point} {j : Nat} (h : f (zs.getD j ⟨0, 0⟩) = false) (hj : j < zs.length) : zs.all f = false := by
  rw [List.getD_eq_getElem?_getD, List.getElem?_eq_getElem hj] at h
  simp at h
  cases ha : zs.all f with
  | false => rfl
  | true =>
    have := List.all_eq_true.1 ha zs[j] (List.getElem_mem hj)
    rw [h] at this; cases this
/-- While a row of n points is filled: the first j lie there, the others are cells at least. -/
structure Filled (w : World) (g n : Nat) (zs : List Point) (j : Nat) : Prop where
  lt : g < w.heap.size
  done : ∀ i, i < j → w.cell? ⟨g, i * 2, none⟩ = some (.int .i64 (zs.getD i ⟨0, 0⟩).X) ∧ w.cell? ⟨g, i * 2 + 1, none⟩ = some (.int .i64 (zs.getD i ⟨0, 0⟩).Y)
  some : ∀ o, o < n * 2 → (w.cell? ⟨g, o, none⟩).isSome = true
  free : ∀ o, w.frozen? ⟨g, o, none⟩ = false
theorem Filled.call {w w1 : World} {g n j : Nat} {zs : List Point} (h : Filled w g n zs j) (q : Q w w1) : Filled w1 g n zs j := by
  have c : ∀ o, w1.cell? ⟨g, o, none⟩ = w.cell? ⟨g, o, none⟩ := fun o => by rw [q.rules.1, if_pos h.lt]
  refine ⟨Nat.lt_of_lt_of_le h.lt q.le, fun i hi => ?_, fun o ho => ?_, fun o => ?_⟩
  · rw [c, c]; exact h.done i hi
  · rw [c]; exact h.some o ho
  · rw [q.rules.2, if_pos h.lt]; exact h.free o
theorem Filled.next {w : World} {g n j : Nat} {zs : List Point} (h : Filled w g n zs j) (hj : j < n) : Filled ((w.setCell ⟨g, j * 2, none⟩ (.int .i64 (zs.getD j ⟨0, 0⟩).X)).setCell ⟨g, j * 2 + 1, none⟩ (.int .i64 (zs.getD j ⟨0, 0⟩).Y)) g n zs (j + 1) := by
  have s0 := h.some (j * 2) (by omega)
  have s1 := h.some (j * 2 + 1) (by omega)
  have c : ∀ o, ((w.setCell ⟨g, j * 2, none⟩ (.int .i64 (zs.getD j ⟨0, 0⟩).X)).setCell ⟨g, j * 2 + 1, none⟩ (.int .i64 (zs.getD j ⟨0, 0⟩).Y)).cell? ⟨g, o, none⟩ = if o = j * 2 + 1 then Option.some (.int .i64 (zs.getD j ⟨0, 0⟩).Y) else if o = j * 2 then Option.some (.int .i64 (zs.getD j ⟨0, 0⟩).X) else w.cell? ⟨g, o, none⟩ := by
    intro o
    rw [setCell_at, setCell_at, setCell_at, s0]
    by_cases h1 : o = j * 2 + 1
    · subst h1
      simp [s1]
    · by_cases h2 : o = j * 2
      · subst h2; simp
      · simp [h1, h2]
  refine ⟨by rw [size_setCell, size_setCell]; exact h.lt, fun i hi => ?_, fun o ho => ?_, fun o => by rw [setCell_mark, setCell_mark]; exact h.free o⟩
  · rw [c, c]
    by_cases e : i = j
    · subst e; simp
    · have := h.done i (by omega)
      rw [if_neg (by omega), if_neg (by omega), if_neg (by omega), if_neg (by omega)]
      exact this
  · rw [c]
    split
    · rfl
    · split
      · rfl
      · exact h.some o ho
theorem Filled.row {w : World} {g : Nat} {zs : List Point} (h : Filled w g zs.length zs zs.length) : Row w g (pts zs) := by
  refine ⟨h.lt, fun o => ?_, h.free⟩
  split
  · rename_i ho
    rw [pts_length] at ho
    rcases Nat.mod_two_eq_zero_or_one o with e | e
    · have he : o = o / 2 * 2 := by omega
      have := (h.done (o / 2) (by omega)).1
      rw [← he] at this
      rw [this]
      have := (pts_get zs (o / 2) (by omega)).1
      rw [← he] at this
      exact this.symm
    · have he : o = o / 2 * 2 + 1 := by omega
      have := (h.done (o / 2) (by omega)).2
      rw [← he] at this
      rw [this]
      have := (pts_get zs (o / 2) (by omega)).2
      rw [← he] at this
      exact this.symm
  · rfl
theorem filled_new {w : World} {g n base : Nat} {e : TypeId} {xs : List Value} {zs : List Point} {cap : Nat} (h : w.ownsRow base e 2 (.slice (some ⟨g, 0, none⟩) n cap) n xs) : Filled w g n zs 0 := by
  rcases h.2 with ⟨h0, _⟩ | ⟨g', cap', cur, hv, hb, hg, hn, _, hsz, ht⟩
  · cases h0
  · cases hv
    refine ⟨(Array.getElem?_eq_some_iff.1 hg).1, fun i hi => by omega, fun o ho => ?_, fun o => ?_⟩
    · have e1 : w.cell? ⟨g, o, none⟩ = cur[o]? := by simp [World.cell?, hg]
      have hlt : o < cur.size := by
        rw [hsz]
        exact Nat.lt_of_lt_of_le ho (Nat.mul_le_mul_right 2 hn)
      rw [e1, Array.getElem?_eq_getElem hlt]; rfl
    · simp only [World.frozen?, hg]; simp
end Go.Proofs.Ytecnjkhncdjebaa
