/- The relation 'Q w w1': the world w1 is w with at most new blocks and draws (what lay in w is as it was). Lemmas for walks. -/
import Derived.WalkKit
import Derived.Below
import Derived.WalkLawsBesides
namespace Go.Proofs.Ytecnjkhncdjebaa
set_option linter.unusedVariables false
set_option linter.unusedSimpArgs false
open Go.RowKit
def Q (w w1 : World) : Prop := Below w.heap.size w w1
theorem Q.refl (w : World) : Q w w := Below.refl _ _
theorem Q.le {w w1 : World} (h : Q w w1) : w.heap.size ≤ w1.heap.size := Below.size h
theorem Q.lt {w w1 : World} (h : Q w w1) : ∀ k, k < w.heap.size → k < w1.heap.size := fun k hk => Nat.lt_of_lt_of_le hk (Below.size h)
theorem Q.drew {w w1 : World} (h : Q w w1) : Q w w1.drew := Below.drew h
theorem Q.alloc {w w1 : World} (h : Q w w1) (o : Obj) : Q w (w1.alloc o) := Below.alloc h (Below.size h) o
theorem Q.setCell {w w1 : World} (h : Q w w1) {a : Addr} (ha : w.heap.size ≤ a.block) (v : Value) : Q w (w1.setCell a v) := Below.setCell h ha v
theorem Q.call {w w1 w2 : World} (h : Q w w1) (k : Q w1 w2) : Q w w2 := Below.trans h (Below.mono k (Below.size h))
def newCell (w : World) (b o : Nat) : Option Value := w.cell? ⟨b, o, none⟩
def newMark (w : World) (b o : Nat) : Bool := w.frozen? ⟨b, o, none⟩
/-- What a call leaves, as rules without premises. -/
theorem Q.rules {w w1 : World} (h : Q w w1) : (∀ b o, w1.cell? ⟨b, o, none⟩ = if b < w.heap.size then w.cell? ⟨b, o, none⟩ else newCell w1 b o) ∧ (∀ b o, w1.frozen? ⟨b, o, none⟩ = if b < w.heap.size then w.frozen? ⟨b, o, none⟩ else newMark w1 b o) := by
  constructor
  · intro b o; split
    · exact Below.cell h (p := ⟨b, o, none⟩) (by assumption)
    · rfl
  · intro b o; split
    · exact Below.frozen h (p := ⟨b, o, none⟩) (by assumption)
    · rfl
theorem setRule (w : World) (b o : Nat) (v : Value) : (w.setCell ⟨b, o, none⟩ v).cell? ⟨b, o, none⟩ = if (w.cell? ⟨b, o, none⟩).isSome = true then some v else none := by
  split
  · exact World.cell?_setCell_same' _ _ _ (by assumption)
  · rename_i h
    have hn : w.cell? ⟨b, o, none⟩ = none := by simpa using h
    cases hb : w.heap[b]? with
    | none => simp [World.cell?, World.setCell, Array.getElem?_modify, hb]
    | some ob =>
      cases ob with
      | cells c e f =>
        simp only [World.cell?, hb] at hn
        simp [World.cell?, World.setCell, Array.getElem?_modify, hb]
        simpa using hn
      | _ => simp [World.cell?, World.setCell, Array.getElem?_modify, hb]
theorem allocRule (w : World) (c : Array Value) (t : TypeId) (b o : Nat) : (w.alloc (.cells c t)).cell? ⟨b, o, none⟩ = if b = w.heap.size then c[o]? else w.cell? ⟨b, o, none⟩ := by
  split
  · rename_i h; subst h; exact World.cell?_alloc_new w c t o
  · rename_i h
    have e : (w.alloc (.cells c t)).heap[b]? = w.heap[b]? := by
      show (w.heap.push _)[b]? = _
      rw [Array.getElem?_push, if_neg h]
    simp [World.cell?, e]
theorem allocMark (w : World) (c : Array Value) (t : TypeId) (b o : Nat) : (w.alloc (.cells c t)).frozen? ⟨b, o, none⟩ = if b = w.heap.size then false else w.frozen? ⟨b, o, none⟩ := by
  split
  · rename_i h; subst h
    have e : (w.alloc (.cells c t)).heap[w.heap.size]? = some (.cells c t) := by
      show (w.heap.push _)[w.heap.size]? = _
      simp
    simp only [World.frozen?, e]
    simp
  · rename_i h
    have e : (w.alloc (.cells c t)).heap[b]? = w.heap[b]? := by
      show (w.heap.push _)[b]? = _
      rw [Array.getElem?_push, if_neg h]
    simp [World.frozen?, e]
theorem maxRule (x y : Int) : (if x < y then y else x) = max x y := by omega
theorem minRule (x y : Int) : (if y < x then y else x) = min x y := by omega
theorem wrapRule (n : Int) : IntKind.i64.wrap n = wrap64 n := by
  simp [IntKind.wrap, IntKind.signed, IntKind.bits, wrap64]
  split <;> omega
theorem max4 {P : Program} (ts : Array TypeId) (t : TypeId) (k k1 k2 k3 : IntKind) (x y z u : Int) (w : World) : (Builtin.max_ ts t #[.int k x, .int k1 y, .int k2 z, .int k3 u]).run P w = .ok (.int k (max (max (max x y) z) u)) w := by
  simp [Builtin.max_, Builtin.max2, maxRule]
theorem min4 {P : Program} (ts : Array TypeId) (t : TypeId) (k k1 k2 k3 : IntKind) (x y z u : Int) (w : World) : (Builtin.min_ ts t #[.int k x, .int k1 y, .int k2 z, .int k3 u]).run P w = .ok (.int k (min (min (min x y) z) u)) w := by
  simp [Builtin.min_, Builtin.min2, minRule]
end Go.Proofs.Ytecnjkhncdjebaa
