/- Slices that a call makes and fills by 'append': what is owned, carried over calls; what an append leaves, as rules without premises. -/
import Derived.Maps.AppendAt
import Derived.OwnWalk
import Derived.Test.YtecnjkhncdjebaaRow
import Derived.Test.YtecnjkhncdjebaaDefs
namespace Go.Proofs.Ytecnjkhncdjebaa
set_option linter.unusedVariables false
set_option linter.unusedSimpArgs false
open Go.RowKit
theorem own_call {w w1 : World} {base size n : Nat} {e : TypeId} {v : Value} {xs : List Value} (h : w.ownsRow base e size v n xs) (q : Q w w1) : w1.ownsRow base e size v n xs := by
  refine ⟨h.1, ?_⟩
  rcases h.2 with hn | ⟨g, cap, cur, hv, hb, hg, rest⟩
  · exact .inl hn
  · refine .inr ⟨g, cap, cur, hv, hb, ?_, rest⟩
    rw [q.block g (Array.getElem?_eq_some_iff.1 hg).1, hg]
theorem Q.grown {w w1 w2 : World} {row : Option Nat} (h : Q w w1) (hg : w1.grownBy w2 row) (hr : ∀ k, row = some k → w.heap.size ≤ k) : Q w w2 := Below.grown h hg h.le hr
/-- What an append leaves: below B, and in block g (which is not the slice's own), all is as it was. -/
theorem grown_rules {w w1 : World} {v : Value} {B g : Nat} (hg : w.grownBy w1 v.ownBlock) (hB : ∀ k, v.ownBlock = some k → B ≤ k) (hne : v.ownBlock ≠ some g) (hle : B ≤ w.heap.size) (hlt : g < w.heap.size) :
    (∀ b o, w1.cell? ⟨b, o, none⟩ = if b < B ∨ b = g then w.cell? ⟨b, o, none⟩ else newCell w1 b o) ∧ (∀ b o, w1.frozen? ⟨b, o, none⟩ = if b < B ∨ b = g then w.frozen? ⟨b, o, none⟩ else newMark w1 b o) ∧ w.heap.size ≤ w1.heap.size := by
  have key : ∀ b, b < B ∨ b = g → w1.heap[b]? = w.heap[b]? := by
    intro b hb
    refine hg.block b (by rcases hb with h | h <;> omega) ?_
    intro he
    rcases hb with h | h
    · have := hB b he.symm; omega
    · subst h; exact hne he.symm
  refine ⟨fun b o => ?_, fun b o => ?_, hg.size⟩
  · split
    · rename_i h; simp only [World.cell?, key b h]
    · rfl
  · split
    · rename_i h; simp only [World.frozen?, key b h]
    · rfl
theorem Row.grown {w w1 : World} {v : Value} {g : Nat} {xs : List Value} (h : Row w g xs) (hg : w.grownBy w1 v.ownBlock) (hne : v.ownBlock ≠ some g) : Row w1 g xs := by
  have key : w1.heap[g]? = w.heap[g]? := hg.block g h.1 (fun he => hne he.symm)
  refine ⟨Nat.lt_of_lt_of_le h.1 hg.size, fun o => ?_, fun o => ?_⟩
  · split
    · rename_i hl
      have e : w1.cell? ⟨g, o, none⟩ = w.cell? ⟨g, o, none⟩ := by simp only [World.cell?, key]
      rw [e, h.2.1, if_pos hl]
    · rfl
  · have e : w1.frozen? ⟨g, o, none⟩ = w.frozen? ⟨g, o, none⟩ := by simp only [World.frozen?, key]
    rw [e, h.2.2]
theorem row_of_own {w : World} {base size n : Nat} {e : TypeId} {v : Value} {xs : List Value} (h : w.ownsRow base e size v n xs) (hn : 0 < n) : ∃ g cap, v = .slice (some ⟨g, 0, none⟩) n cap ∧ base ≤ g ∧ Row w g xs := by
  rcases h.2 with ⟨_, h0⟩ | ⟨g, cap, cur, hv, hb, hg, _, _, _, ht⟩
  · omega
  · exact ⟨g, cap, hv, hb, Row.of_obj hg ht⟩
theorem own_block {w : World} {base size n : Nat} {e : TypeId} {v : Value} {xs : List Value} (h : w.ownsRow base e size v n xs) : ∀ k, v.ownBlock = some k → base ≤ k := fun k hk => (h.lt k hk).1
/-- The cells of a block that has just been laid. -/
theorem cells_new (w : World) (c : Array Value) (t : TypeId) : ∀ (j : Nat) (u : Value), c.toList[j]? = some u → (w.alloc (.cells c t)).cell? ((⟨w.heap.size, 0, none⟩ : Addr).add j) = some u := by
  intro j u hj
  have e : ((⟨w.heap.size, 0, none⟩ : Addr).add j) = ⟨w.heap.size, j, none⟩ := by simp [Addr.add]; intro h; exact h.symm
  rw [e, allocRule, if_pos rfl]
  simpa using hj
theorem cells_at {w : World} {c : Array Value} {t : TypeId} {k : Nat} (hk : k = w.heap.size) : ∀ (j : Nat) (u : Value), c.toList[j]? = some u → (w.alloc (.cells c t)).cell? ((⟨k, 0, none⟩ : Addr).add j) = some u := by
  subst hk; exact cells_new w c t
theorem apart_next {w : World} {v v' : Value} {g : Nat} (h : v.ownBlock ≠ some g) (hlt : g < w.heap.size) (hb : v'.ownBlock = v.ownBlock ∨ v'.ownBlock = some w.heap.size) : v'.ownBlock ≠ some g := by
  rcases hb with hb | hb
  · rw [hb]; exact h
  · rw [hb]; intro e; have := Option.some.inj e; omega
/-- A row of integers. -/
def ints (zs : List Int) : List Value := zs.map (Value.int .i64)
theorem ints_length (zs : List Int) : (ints zs).length = zs.length := by simp [ints]
theorem Row.at {w : World} {g : Nat} {zs : List Int} (r : Row w g (ints zs)) {j : Nat} (hj : j < zs.length) : w.cell? ⟨g, j, none⟩ = some (.int .i64 (zs.getD j 0)) := by
  rw [r.2.1, if_pos (by rw [ints_length]; exact hj)]
  simp [ints, hj]
theorem mark_at {w : World} {g : Nat} {zs : List Int} (r : Row w g (ints zs)) (k : Int) {j : Nat} (hj : j < zs.length) : (markAll w g k j).cell? ⟨g, j, none⟩ = some (.int .i64 (zs.getD j 0)) := by
  rw [markAll_cell r k j (by rw [ints_length]; omega), if_neg (by omega), r.at hj]
theorem mark_free {w : World} {g : Nat} {zs : List Int} (r : Row w g (ints zs)) (k : Int) (j : Nat) : (markAll w g k j).frozen? ⟨g, j, none⟩ = false := by
  rw [markAll_frozen]; exact r.2.2 j
theorem marks_at {w : World} {g : Nat} {k : Int} {n : Nat} (r : Row w g (marks k n)) {j : Nat} (hj : j < n) : w.cell? ⟨g, j, none⟩ = some (.int .i64 (k + (j : Int))) := by
  rw [r.2.1, if_pos (by rw [marks_length]; exact hj), marks_get _ _ _ hj]
theorem own_slice {w : World} {base size n : Nat} {e : TypeId} {v : Value} {xs : List Value} (h : w.ownsRow base e size v n xs) (hv : v ≠ .slice none 0 0) : ∃ g cap, v = .slice (some ⟨g, 0, none⟩) n cap ∧ base ≤ g ∧ Row w g xs := by
  rcases h.2 with ⟨h0, _⟩ | ⟨g, cap, cur, hv, hb, hg, _, _, _, ht⟩
  · exact absurd h0 hv
  · exact ⟨g, cap, hv, hb, Row.of_obj hg ht⟩
end Go.Proofs.Ytecnjkhncdjebaa
