/- Rows of cells that a call itself has made: what they hold, as rules without premises; marking them. -/
import Derived.Test.YtecnjkhncdjebaaFresh
namespace Go.Proofs.Ytecnjkhncdjebaa
set_option linter.unusedVariables false
set_option linter.unusedSimpArgs false
open Go.RowKit
/-- Block g holds the cells xs at its beginning, and may be written. -/
def Row (w : World) (g : Nat) (xs : List Value) : Prop := g < w.heap.size ∧ (∀ o, w.cell? ⟨g, o, none⟩ = if o < xs.length then xs[o]? else newCell w g o) ∧ (∀ o, w.frozen? ⟨g, o, none⟩ = false)
theorem Row.new (w : World) (c : Array Value) (t : TypeId) : Row (w.alloc (.cells c t)) w.heap.size c.toList := by
  refine ⟨by simp, fun o => ?_, fun o => ?_⟩
  · split
    · rw [allocRule, if_pos rfl]; simp
    · rfl
  · rw [allocMark, if_pos rfl]
theorem Row.call {w w1 : World} {g : Nat} {xs : List Value} (h : Row w g xs) (q : Q w w1) : Row w1 g xs := by
  obtain ⟨h1, h2, h3⟩ := h
  refine ⟨Nat.lt_of_lt_of_le h1 q.le, fun o => ?_, fun o => ?_⟩
  · split
    · rename_i hl
      rw [q.rules.1, if_pos h1, h2, if_pos hl]
    · rfl
  · rw [q.rules.2, if_pos h1, h3]
theorem Row.of_obj {w : World} {g : Nat} {cur : Array Value} {e : TypeId} {xs : List Value} {n : Nat} (h : w.heap[g]? = some (.cells cur e (0, 0))) (ht : cur.toList.take n = xs) : Row w g xs := by
  refine ⟨(Array.getElem?_eq_some_iff.1 h).1, fun o => ?_, fun o => ?_⟩
  · split
    · rename_i hl
      have e1 : w.cell? ⟨g, o, none⟩ = cur[o]? := by simp [World.cell?, h]
      rw [e1, ← ht]
      rw [← ht] at hl
      simp only [List.length_take] at hl
      rw [List.getElem?_take_of_lt (by omega)]
      simp
    · rfl
  · simp only [World.frozen?, h]; simp
/-- The first n cells of block g, marked k, k + 1, .. -/
def markAll (w : World) (g : Nat) (k : Int) : Nat → World
  | 0 => w
  | n + 1 => (markAll w g k n).setCell ⟨g, n, none⟩ (.int .i64 (k + n))
theorem size_setCell (w : World) (a : Addr) (v : Value) : (w.setCell a v).heap.size = w.heap.size := by
  simp [World.setCell]
theorem markAll_size (w : World) (g : Nat) (k : Int) : ∀ n, (markAll w g k n).heap.size = w.heap.size := by
  intro n
  induction n with
  | zero => rfl
  | succ n ih => unfold markAll; rw [size_setCell, ih]
theorem Q.mark {W w : World} (h : Q W w) {g : Nat} (hg : W.heap.size ≤ g) (k : Int) : ∀ n, Q W (markAll w g k n) := by
  intro n
  induction n with
  | zero => exact h
  | succ n ih => exact Q.setCell ih (by exact hg) _
theorem setCell_at (w : World) (b o : Nat) (v : Value) (b' o' : Nat) : (w.setCell ⟨b, o, none⟩ v).cell? ⟨b', o', none⟩ = if b' = b ∧ o' = o then (if (w.cell? ⟨b, o, none⟩).isSome = true then some v else none) else w.cell? ⟨b', o', none⟩ := by
  split
  · rename_i h; obtain ⟨rfl, rfl⟩ := h; exact setRule w _ _ v
  · rename_i h
    by_cases hb : b' = b
    · subst hb
      have ho : o ≠ o' := fun e => h ⟨rfl, e.symm⟩
      cases hx : w.heap[b']? with
      | none => simp [World.cell?, World.setCell, Array.getElem?_modify, hx]
      | some ob =>
        cases ob with
        | cells c e f => simp [World.cell?, World.setCell, Array.getElem?_modify, hx, ho]
        | _ => simp [World.cell?, World.setCell, Array.getElem?_modify, hx]
    · have : b ≠ b' := fun e => hb e.symm
      simp [World.cell?, World.setCell, Array.getElem?_modify, this]
theorem setCell_mark (w : World) (b o : Nat) (v : Value) (b' o' : Nat) : (w.setCell ⟨b, o, none⟩ v).frozen? ⟨b', o', none⟩ = w.frozen? ⟨b', o', none⟩ := by
  by_cases hb : b' = b
  · subst hb
    cases hx : w.heap[b']? with
    | none => simp [World.frozen?, World.setCell, Array.getElem?_modify, hx]
    | some ob =>
      cases ob with
      | cells c e f => simp [World.frozen?, World.setCell, Array.getElem?_modify, hx]
      | _ => simp [World.frozen?, World.setCell, Array.getElem?_modify, hx]
  · have : b ≠ b' := fun e => hb e.symm
    simp [World.frozen?, World.setCell, Array.getElem?_modify, this]
/-- The marks, as a list. -/
def marks (k : Int) (n : Nat) : List Value := (List.range n).map fun (i : Nat) => Value.int .i64 (k + (i : Int))
theorem marks_length (k : Int) (n : Nat) : (marks k n).length = n := by simp [marks]
theorem marks_get (k : Int) (n o : Nat) (h : o < n) : (marks k n)[o]? = some (.int .i64 (k + (o : Int))) := by simp [marks, h]
theorem markAll_cell {w : World} {g : Nat} {xs : List Value} (hr : Row w g xs) (k : Int) : ∀ n, n ≤ xs.length → ∀ b o, (markAll w g k n).cell? ⟨b, o, none⟩ = if b = g ∧ o < n then some (.int .i64 (k + (o : Int))) else w.cell? ⟨b, o, none⟩ := by
  intro n
  induction n with
  | zero => intro _ b o; simp [markAll]
  | succ n ih =>
    intro hn b o
    have hs : ((markAll w g k n).cell? ⟨g, n, none⟩).isSome = true := by
      rw [ih (by omega), if_neg (by omega), hr.2.1, if_pos (by omega)]
      rw [List.getElem?_eq_getElem (by omega)]; rfl
    unfold markAll
    rw [setCell_at, hs, if_pos rfl, ih (by omega)]
    by_cases hb : b = g
    · subst hb
      by_cases ho : o = n
      · subst ho; simp
      · by_cases hl : o < n
        · simp [ho, hl, Nat.lt_succ_of_lt hl]
        · have : ¬ o < n + 1 := by omega
          simp [ho, hl, this]
    · simp [hb]
theorem markAll_frozen (w : World) (g : Nat) (k : Int) : ∀ n b o, (markAll w g k n).frozen? ⟨b, o, none⟩ = w.frozen? ⟨b, o, none⟩ := by
  intro n
  induction n with
  | zero => intro b o; rfl
  | succ n ih => intro b o; unfold markAll; rw [setCell_mark, ih]
theorem Row.mark {w : World} {g : Nat} {xs : List Value} (hr : Row w g xs) (k : Int) : Row (markAll w g k xs.length) g (marks k xs.length) := by
  refine ⟨by rw [markAll_size]; exact hr.1, fun o => ?_, fun o => by rw [markAll_frozen]; exact hr.2.2 o⟩
  rw [marks_length]
  split
  · rename_i h; rw [markAll_cell hr k _ (Nat.le_refl _), if_pos ⟨rfl, h⟩, marks_get _ _ _ h]
  · rfl
theorem Row.mark_other {w : World} {g g' : Nat} {xs ys : List Value} (hr : Row w g xs) (hs : Row w g' ys) (hne : g' ≠ g) (k : Int) : Row (markAll w g k xs.length) g' ys := by
  refine ⟨by rw [markAll_size]; exact hs.1, fun o => ?_, fun o => by rw [markAll_frozen]; exact hs.2.2 o⟩
  split
  · rename_i h; rw [markAll_cell hr k _ (Nat.le_refl _), if_neg (fun hc => hne hc.1), hs.2.1, if_pos h]
  · rfl
end Go.Proofs.Ytecnjkhncdjebaa
