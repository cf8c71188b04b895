/- A region that draws its order, all of whose operations but the last ones (which stand in one forced order) are quiet in a class of worlds: one walk in the order of the text serves every order. The class of worlds: 'nothing that lay there when the region began has changed'. Proved out of the library's own lemmas on regions. -/
import Derived.StillTail
import Derived.Deep.Quiet
import Derived.Deep.QuietTactic
import Derived.Test.YtecnjkhncdjebaaQ
namespace Go.Proofs.Ytecnjkhncdjebaa
set_option linter.unusedVariables false
set_option linter.unusedSimpArgs false
section
variable {P : Program} {ops : Array Oper} {md : Region.Mode} {C : World → Prop}
/-- 'f' operations of the head are still to come, in whatever order; behind them 'L' holds. -/
def wpHead (P : Program) (md : Region.Mode) (ops : Array Oper) (C : World → Prop) (n : Nat) (L : Array Bool → Act → Prop) : Nat → Array Bool → Act → Prop
  | 0 => L
  | f + 1 => fun listed a => Region.ready md ops listed ≠ [] ∧ ∀ i ∈ Region.ready md ops listed, i < n ∧ qOp P ops C i (wpHead P md ops C n L f (listed.setIfInBounds i true)) a
theorem any_of_wpHead {n g : Nat} {L : Array Bool → Act → Prop} {Q' : Exit → Act → World → Prop} (hL : ∀ listed a w, C w → L listed a → wpAny P md ops Q' g listed a w) (f : Nat) :
    ∀ listed a w, C w → wpHead P md ops C n L f listed a → wpAny P md ops Q' (g + f) listed a w := by
  induction f with
  | zero => exact hL
  | succ f ih =>
    intro listed a w hw h
    constructor
    · intro h0; exact (h.1 h0).elim
    · intro i hi
      exact wpOp_of_qOp hw (fun a' w' hw' h' => ih _ a' w' hw' h') (h.2 i hi).2
theorem wpHead_first {n i : Nat} {oi : Oper} {v : Value} {L : Array Bool → Act → Prop} (hi : ops[i]? = some oi) (hsel : Region.noSelect ops = true)
    (hs : Region.sinkB md ops n = true) (hc : Region.chainB md ops n = true) (hn : n < ops.size) (hin : i < n)
    (hL : ∀ listed a, L listed a → ∀ j ∈ Region.ready md ops listed, n ≤ j) (f : Nat) :
    ∀ (listed : Array Bool) (a : Act), HeadInv md ops n listed →
      (∀ j oj, ops[j]? = some oj → j ≠ i → listed.getD j true = false → (∀ e ∈ oj.after, Region.binds md e = true → e.on ≠ i) → oi.apart ops oj = true) →
      i ∈ Region.ready md ops listed → YieldsIn P ops C oi v a →
      wpHead P md ops C n L f (listed.setIfInBounds i true) (a.put oi.dst v) → wpHead P md ops C n L (f + 1) listed a := by
  have sel := Region.noSelect_spec hsel
  induction f with
  | zero =>
    intro listed a inv free ri hy rest
    have un := (mem_ready.1 ri).1
    constructor
    · intro h0; rw [h0] at ri; cases ri
    · intro j rj
      have jn : j < n := Nat.lt_of_not_le fun h => tail_waits hs hc hn inv _ i rfl hin un j h rj
      by_cases e : j = i
      · subst e; exact ⟨jn, hy.qOp hi rest⟩
      · exact absurd (hL _ _ rest j (ready_mono rj e)) (Nat.not_le_of_lt jn)
  | succ f ih =>
    intro listed a inv free ri hy rest
    have un := (mem_ready.1 ri).1
    constructor
    · intro h0; rw [h0] at ri; cases ri
    · intro j rj
      have jn : j < n := Nat.lt_of_not_le fun h => tail_waits hs hc hn inv _ i rfl hin un j h rj
      by_cases e : j = i
      · subst e; exact ⟨jn, hy.qOp hi rest⟩
      · obtain ⟨unj, oj, hoj, all⟩ := mem_ready.1 rj
        have nowait : ∀ x ∈ oj.after, Region.binds md x = true → x.on ≠ i := by
          intro x hx hb he
          have := all x hx hb
          rw [he, getD_both un] at this
          exact Bool.noConfusion this
        have swapped := qOp_put hoj (free j oj hoj e unj nowait) (fun cs b => sel i oi cs b hi) (fun cs b => sel j oj cs b hoj) hy (rest.2 j (ready_mono rj e)).2
        refine ⟨jn, qOp_mono (fun a' h' => ?_) swapped⟩
        refine ih _ a' (inv.set rj jn) ?_ (ready_mono ri (Ne.symm e)) h'.1 ?_
        · intro k ok hk hki unk hno
          refine free k ok hk hki ?_ hno
          by_cases ejk : j = k
          · subst ejk; exact unj
          · rwa [getD_set_ne true ejk] at unk
        · have := h'.2
          rwa [Array.setIfInBounds_comm _ _ (Ne.symm e)] at this
theorem wpHead_lex {n g : Nat} {R : Act → Prop} (hsel : Region.noSelect ops = true) (hs : Region.sinkB md ops n = true) (hc : Region.chainB md ops n = true) (hn : n < ops.size) (l : List Oper) :
    ∀ (k : Nat) (listed : Array Bool) (a : Act), (∀ j, j < l.length → l[j]? = ops[k + j]?) → k + l.length = n → HeadInv md ops n listed →
    Region.lexHead md ops g l.length k listed = true → wpQuiet P ops C R l a →
    wpHead P md ops C n (fun listed' a' => Region.seqB md ops g n listed' = true ∧ R a') l.length listed a := by
  induction l with
  | nil =>
    intro k listed a _ hk _ hB h
    obtain rfl : k = n := by simpa using hk
    exact ⟨by simpa [Region.lexHead] using hB, h⟩
  | cons o l ih =>
    intro k listed a hl hk inv hB h
    have ho : ops[k]? = some o := by have := hl 0 (by simp); simpa using this.symm
    simp only [List.length_cons, Region.lexHead, Bool.and_eq_true] at hB hk
    obtain ⟨⟨hr, hf⟩, hB⟩ := hB
    have hkn : k < n := by omega
    have rk : k ∈ Region.ready md ops listed := by simpa using hr
    obtain ⟨v, hy, hK⟩ := yieldsIn_of_qOp (C := C) (K := wpQuiet P ops C R l) ho (by unfold qOp; simp only [ho]; exact h)
    refine wpHead_first ho hsel hs hc hn hkn (fun _ _ hL => seqB_ready hL.1) l.length listed a inv (Region.free_spec ho hf) rk hy ?_
    refine ih (k + 1) _ _ (fun j hj => ?_) (by omega) (inv.set rk hkn) hB hK
    have := hl (j + 1) (by simp only [List.length_cons]; omega)
    rw [show k + 1 + j = k + (j + 1) by omega, ← this]
    rfl
/-- The first n operations quiet in the class, in whatever order; the others behind them, one after another. -/
theorem wp_region_head {id : Nat} {Q' : Exit → Act → World → Prop} {a : Act} {w : World} {l : List Oper} (n : Nat) (hm : P.follows .mixedOrders = true) (hB : Region.lexTailB .any l.toArray n = true)
    (hC : C { w with drawn := w.drawn + 1 }) (h : wpQuiet P l.toArray C (fun a' => ∀ w', C w' → wpList P l.toArray Q' (l.drop n) a' w') (l.take n) a) : (Code.region id l.toArray true).wp P Q' a w := by
  simp only [Region.lexTailB, Bool.and_eq_true, decide_eq_true_eq] at hB
  obtain ⟨⟨⟨⟨hsel, hn⟩, hs⟩, hc⟩, hlex⟩ := hB
  have hn' : n < l.length := by simpa using hn
  have tl : (l.take n).length = n := by simp; omega
  have dl : l.toArray.size - n = (l.drop n).length := by simp
  have inv0 : HeadInv .any l.toArray n (Array.replicate l.toArray.size false) :=
    ⟨by simp, fun j oj _ hl => (by rw [getD_replicate_false] at hl; cases hl), fun t _ ht => getD_in (by simpa using ht) (getD_replicate_false _ _)⟩
  have H := wpHead_lex (C := C) (md := .any) (g := l.toArray.size - n) hsel hs hc hn (l.take n) 0 _ a (fun j hj => by rw [tl] at hj; simp [hj]) (by simpa using tl) inv0 (by rw [tl]; exact hlex) h
  refine wp_region_any hm ?_
  have A := any_of_wpHead (Q' := Q') (g := (l.drop n).length) (fun listed a' w' hw' hL => wpAny_of_seq (md := .any) (Q' := Q') (l.drop n) n listed a' w' (fun j => by simp [List.getElem?_drop]) (by rw [← dl]; exact hL.1) (hL.2 w' hw')) _ _ _ _ hC H
  rwa [tl, ← dl, show l.toArray.size - n + n = l.toArray.size by omega] at A
end
section
variable {P : Program}
theorem region_Q {id : Nat} {Q' : Exit → Act → World → Prop} {a : Act} {w : World} {l : List Oper} (n : Nat) (hm : P.follows .mixedOrders = true) (hB : Region.lexTailB .any l.toArray n = true)
    (h : wpQuiet P l.toArray (fun w' => Q w w') (fun a' => ∀ w', Q w w' → wpList P l.toArray Q' (l.drop n) a' w') (l.take n) a) : (Code.region id l.toArray true).wp P Q' a w :=
  wp_region_head n hm hB ((Q.refl w).drew) h
theorem region_Q_all {id : Nat} {Q' : Exit → Act → World → Prop} {a : Act} {w : World} {l : List Oper} (hm : P.follows .mixedOrders = true) (hB : Region.lexB .any l.toArray = true)
    (h : wpQuiet P l.toArray (fun w' => Q w w') (fun a' => ∀ w', Q w w' → Q' .normal a' w') l a) : (Code.region id l.toArray true).wp P Q' a w :=
  wp_region_quiet (C := fun w' => Q w w') hm hB ((Q.refl w).drew) (by simpa using h)
theorem q_step {ops : Array Oper} {R : Act → Prop} {o : Oper} {rest : List Oper} {a : Act} {W : World} {v : Value} (hg : Region.wanted o (yielded ops a.tmps) = true)
    (h1 : ∀ wq, Q W wq → Oper.quietUpon P (fun w' => Q W w') wq v ((execOp a.eval o).run P wq)) (h2 : wpQuiet P ops (fun w' => Q W w') R rest (a.put o.dst v)) : wpQuiet P ops (fun w' => Q W w') R (o :: rest) a :=
  wpQuiet_step fun K hK => by rw [if_pos hg]; exact ⟨v, h1, hK _ h2⟩
theorem q_skip {ops : Array Oper} {R : Act → Prop} {o : Oper} {rest : List Oper} {a : Act} {W : World} (hg : Region.wanted o (yielded ops a.tmps) = false)
    (h2 : wpQuiet P ops (fun w' => Q W w') R rest (a.put o.dst undef)) : wpQuiet P ops (fun w' => Q W w') R (o :: rest) a :=
  wpQuiet_step fun K hK => by rw [if_neg (by rw [hg]; exact Bool.false_ne_true)]; exact hK _ h2
theorem quiet_same {f : FuncId} {args : Array Value} {W w1 : World} {v : Value} (hq : Q W w1) (h : Calls P f args w1 fun e w' => e = .returned v ∧ w1 = w') : Calls P f args w1 fun e w' => e = .returned v ∧ Q W w' :=
  h.mono fun _ _ ⟨he, hw⟩ => ⟨he, hw ▸ hq⟩
theorem quiet_grow {f : FuncId} {args : Array Value} {W w1 : World} {v : Value} (hq : Q W w1) (h : Calls P f args w1 fun e w' => e = .returned v ∧ Q w1 w') : Calls P f args w1 fun e w' => e = .returned v ∧ Q W w' :=
  h.mono fun _ _ ⟨he, hw⟩ => ⟨he, hq.call hw⟩
end
end Go.Proofs.Ytecnjkhncdjebaa
