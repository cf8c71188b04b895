/- What every law's row asks behind the walk, proved once: the arguments read as they read, whatever their types; a value of a struct type whose cells are all integers, written out. -/
import Derived.Test.YtecnjkhncdjebaaRows
import Derived.Test.YtecnjkhncdjebaaQ
import Derived.WalkKit
import Derived.ProofKit
import Derived.OpenShut
import Derived.Carry
namespace Go.Proofs.Ytecnjkhncdjebaa
set_option linter.unusedVariables false
set_option linter.unusedSimpArgs false
open Go.ChangeShapes Go.WideShapes Go.ChangeAt Go.RowKit
theorem own : ownKnob Try.prog.godebug = none := by kernel_rfl
theorem laidOut : laidOutB Try.prog = true := by kernel_rfl
theorem all_stay {H : Type} {enc : TypeId × Value → H} {P : Program} {W W' : World} (hl : laidOutB P = true) (hb : Below W.heap.size W W') : ∀ {ts : List TypeId} {vs : List Value} {ds : List (DataW H)} {ps : List MemPlace},
    (∀ t ∈ ts, P.readableRec t = true ∧ t < P.types.size) → DataW.TrodAll enc P W 0 (fun _ => true) true ts vs ds ps →
    DataW.TrodAll enc P W' 0 (fun b => decide (b < W.heap.size)) true ts vs ds ps := by
  intro ts
  induction ts with
  | nil =>
    intro vs ds ps _ h
    obtain ⟨rfl, rfl, rfl⟩ := trodAll_nil h
    exact trodAll_mk0
  | cons t ts ih =>
    intro vs ds ps ht h
    have hlt := DataW.TrodAll.lt h
    obtain ⟨v, vs', d, ds', p, q, rfl, rfl, rfl, h0, h1⟩ := trodAll_cons h
    obtain ⟨hr, hrow⟩ := ht t (by simp)
    exact trodAll_cons_mk (Below.trod hl hr hrow h0 hb (fun x hx => hlt x (by simp [hx]))) (ih (fun u hu => ht u (by simp [hu])) h1)
theorem cell_int {P : Program} {w : World} {r : Reach} {base : Nat} {u : TypeId} {k : IntKind} {v : Value} (hu : P.underlying u = some (.int k)) (h : Cell.okWide P w r base u v) : ∃ n : Int, v = .int k n ∧ k.has n := by
  unfold Cell.okWide Cell.ok at h
  rw [hu] at h
  cases v <;> simp at h
  obtain ⟨rfl, h2⟩ := h
  exact ⟨_, rfl, h2⟩
/-- A struct all of whose cells are int64: the cells are integers. -/
theorem open_cells {P : Program} {w : World} {r : Reach} {base : Nat} {t u : TypeId} {fs : Array Field} {m : Nat} {v : Value} (hs : P.underlying t = some (.struct fs)) (hc : P.cellTypes P.depth t = some (List.replicate m u))
    (hu : P.underlying u = some (.int .i64)) (hm : P.cellsOf t = m) (h : Value.okWide P w r base t v) :
    ∃ zs : List Int, zs.length = m ∧ v = .agg (zs.map (Value.int .i64)).toArray := by
  simp only [Value.okWide, hs] at h
  obtain ⟨cs, rfl, hsz, ts, hts, _, hall⟩ := h
  rw [hc] at hts
  obtain rfl := Option.some.inj hts
  rw [hm] at hsz
  have key : ∀ (l : List Value), (∀ v ∈ l, ∃ n : Int, v = .int .i64 n) → ∃ zs : List Int, zs.length = l.length ∧ l = zs.map (Value.int .i64) := by
    intro l
    induction l with
    | nil => intro _; exact ⟨[], rfl, rfl⟩
    | cons a l ih =>
      intro h
      obtain ⟨n, rfl⟩ := h a (by simp)
      obtain ⟨zs, h1, h2⟩ := ih (fun v hv => h v (by simp [hv]))
      exact ⟨n :: zs, by simp [h1], by simp [← h2]⟩
  obtain ⟨zs, h1, h2⟩ := key cs.toList (by
    intro v hv
    obtain ⟨i, hi, hiv⟩ := List.getElem_of_mem hv
    have hi' : i < cs.size := by simpa using hi
    obtain ⟨u', hu', hcell⟩ := hall i v (by rw [Array.getElem?_eq_getElem hi']; simpa using hiv)
    have : u' = u := by
      have := List.mem_of_getElem? hu'
      exact (List.mem_replicate.1 this).2
    subst this
    obtain ⟨n, hn, _⟩ := cell_int hu hcell
    exact ⟨n, hn⟩)
  refine ⟨zs, by simpa [hsz] using h1, ?_⟩
  rw [← h2]
theorem list2 {α : Type} {l : List α} (h : l.length = 2) : ∃ a b, l = [a, b] := by
  match l, h with
  | [a, b], _ => exact ⟨a, b, rfl⟩
theorem list3 {α : Type} {l : List α} (h : l.length = 3) : ∃ a b c, l = [a, b, c] := by
  match l, h with
  | [a, b, c], _ => exact ⟨a, b, c, rfl⟩
theorem list4 {α : Type} {l : List α} (h : l.length = 4) : ∃ a b c d, l = [a, b, c, d] := by
  match l, h with
  | [a, b, c, d], _ => exact ⟨a, b, c, d, rfl⟩
theorem list5 {α : Type} {l : List α} (h : l.length = 5) : ∃ a b c d e, l = [a, b, c, d, e] := by
  match l, h with
  | [a, b, c, d, e], _ => exact ⟨a, b, c, d, e, rfl⟩
theorem list6 {α : Type} {l : List α} (h : l.length = 6) : ∃ a b c d e f, l = [a, b, c, d, e, f] := by
  match l, h with
  | [a, b, c, d, e, f], _ => exact ⟨a, b, c, d, e, f, rfl⟩
end Go.Proofs.Ytecnjkhncdjebaa
