/- A region that draws its order and makes new blocks: its quiet operations in whatever order, its new blocks at whatever time, then its stores. The classes of worlds: 'nothing that lay there has changed, and these new blocks lie there'. -/
import Derived.Test.YtecnjkhncdjebaaRegion
namespace Go.Proofs.Ytecnjkhncdjebaa
set_option linter.unusedVariables false
set_option linter.unusedSimpArgs false
def Fam (W : World) (x : List (Nat × Obj)) (w : World) : Prop := Q W w ∧ ∀ p ∈ x, W.heap.size ≤ p.1 ∧ p.1 < w.heap.size ∧ w.heap[p.1]? = some p.2
theorem Fam.q {W : World} {x : List (Nat × Obj)} {w : World} (h : Fam W x w) : Q W w := h.1
theorem Fam.grow {W : World} {x : List (Nat × Obj)} {w w1 : World} (h : Fam W x w) (k : Q w w1) : Fam W x w1 :=
  ⟨h.1.call k, fun p hp => ⟨(h.2 p hp).1, Nat.lt_of_lt_of_le (h.2 p hp).2.1 k.le, by rw [k.block p.1 (h.2 p hp).2.1]; exact (h.2 p hp).2.2⟩⟩
theorem Fam.alloc {W : World} {x : List (Nat × Obj)} {w : World} (h : Fam W x w) (o : Obj) : Fam W (x ++ [(w.heap.size, o)]) (w.alloc o) := by
  have k : Q w (w.alloc o) := (Q.refl w).alloc o
  refine ⟨h.1.call k, fun p hp => ?_⟩
  rcases List.mem_append.1 hp with hp | hp
  · exact (h.grow k).2 p hp
  · obtain rfl := List.mem_singleton.1 hp
    refine ⟨h.1.le, by simp, ?_⟩
    show (w.heap.push o)[w.heap.size]? = _
    simp
def ptr (b : Nat) : Value := .pointer (some ⟨b, 0, none⟩)
section
variable {P : Program} {W : World} {ops : Array Oper} {md : Region.Mode}
def QuietF (P : Program) (W : World) (o : Oper) (a : Act) (v : Value) : Prop := ∀ x w, Fam W x w → Oper.quietUpon P (Fam W x) w v ((execOp a.eval o).run P w)
/-- Operation i comes up: a quiet one (i < q), or a new block. -/
def stepF (P : Program) (W : World) (ops : Array Oper) (q : Nat) (O : Nat → Obj) (i : Nat) (K : List (Nat × Obj) → Act → Prop) (x : List (Nat × Obj)) (a : Act) : Prop :=
  match ops[i]? with
  | none => False
  | some o =>
    if i < q then (Region.wanted o (yielded ops a.tmps) = true ∧ ∃ v, QuietF P W o a v ∧ K x (a.put o.dst v)) ∨ (Region.wanted o (yielded ops a.tmps) = false ∧ K x (a.put o.dst undef))
    else ∀ b, (∀ p ∈ x, p.1 ≠ b) → K (x ++ [(b, O i)]) (a.put o.dst (ptr b))
structure Inv (md : Region.Mode) (ops : Array Oper) (n : Nat) (listed : Array Bool) : Prop where
  size : listed.size = ops.size
  tail : ∀ t, n ≤ t → t < ops.size → listed.getD t true = false
  closed : ∀ k o, ops[k]? = some o → listed.getD k true = true → ∀ e ∈ o.after, Region.binds md e = true → listed.getD e.on false = true
theorem Inv.set {n i : Nat} {listed : Array Bool} (inv : Inv md ops n listed) (hin : i < n) (hr : i ∈ Region.ready md ops listed) : Inv md ops n (listed.setIfInBounds i true) := by
  refine ⟨by simp [inv.size], fun t ht ht' => by rw [getD_set_ne true (by omega)]; exact inv.tail t ht ht', fun k o hk hl e he hb => ?_⟩
  by_cases hik : i = k
  · subst hik
    obtain ⟨_, o', ho', hall⟩ := mem_ready.1 hr
    obtain rfl := Option.some.inj (ho'.symm.trans hk)
    exact getD_set_true (hall e he hb)
  · rw [getD_set_ne true hik] at hl
    exact getD_set_true (inv.closed k o hk hl e he hb)
theorem inv_none {n : Nat} {l : List Oper} : Inv md l.toArray n (Array.replicate l.length false) :=
  ⟨by simp, fun t _ ht => getD_in (by simpa using ht) (getD_replicate_false _ _), fun k o hk hl => by
    have hlt : k < l.length := by have := (Array.getElem?_eq_some_iff.1 hk).1; simpa using this
    rw [getD_in (by simpa using hlt) (getD_replicate_false _ _)] at hl; cases hl⟩
/-- Operation j waits for operation i, through at most d others. -/
def waitsDeep (md : Region.Mode) (ops : Array Oper) : Nat → Nat → Nat → Bool
  | 0, j, i => Region.waitsFor md ops j i
  | d + 1, j, i => Region.waitsFor md ops j i || (List.range ops.size).any fun k => Region.waitsFor md ops j k && waitsDeep md ops d k i
theorem waitsDeep_spec {n i : Nat} {listed : Array Bool} (inv : Inv md ops n listed) (un : listed.getD i true = false) : ∀ (d j : Nat), waitsDeep md ops d j i = true → ∃ oj, ops[j]? = some oj ∧ ∃ e ∈ oj.after, Region.binds md e = true ∧ listed.getD e.on false = false := by
  have base : ∀ j, Region.waitsFor md ops j i = true → ∃ oj, ops[j]? = some oj ∧ ∃ e ∈ oj.after, Region.binds md e = true ∧ listed.getD e.on false = false := by
    intro j h
    obtain ⟨oj, hoj, e, he, hb, hon⟩ := Region.waitsFor_spec h
    exact ⟨oj, hoj, e, he, hb, by rw [hon]; exact getD_both un⟩
  intro d
  induction d with
  | zero => exact base
  | succ d ih =>
    intro j h
    simp only [waitsDeep, Bool.or_eq_true, List.any_eq_true, Bool.and_eq_true] at h
    rcases h with h | ⟨k, _, hjk, hki⟩
    · exact base j h
    · obtain ⟨ok, hok, e, he, hb, hf⟩ := ih k hki
      have hk : listed.getD k true = false := by
        cases hl : listed.getD k true with
        | false => rfl
        | true => rw [inv.closed k ok hok hl e he hb] at hf; cases hf
      obtain ⟨oj, hoj, y, hy, hyb, hon⟩ := Region.waitsFor_spec hjk
      exact ⟨oj, hoj, y, hy, hyb, by rw [hon]; exact getD_both hk⟩
theorem no_tail {n i : Nat} {listed : Array Bool} (hc : Region.chainB md ops n = true) (hw : waitsDeep md ops 4 n i = true) (inv : Inv md ops n listed) (un : listed.getD i true = false) :
    ∀ t, n ≤ t → t ∉ Region.ready md ops listed := by
  intro t ht hr
  obtain ⟨_, ot, hot, hall⟩ := mem_ready.1 hr
  have htlt : t < ops.size := (Array.getElem?_eq_some_iff.1 hot).1
  by_cases e : t = n
  · subst e
    obtain ⟨oj, hoj, y, hy, hb, hon⟩ := waitsDeep_spec inv un 4 t hw
    obtain rfl := Option.some.inj (hoj.symm.trans hot)
    have := hall y hy hb
    rw [hon] at this
    cases this
  · have h1 := List.all_eq_true.1 hc t (List.mem_range.2 htlt)
    simp only [Bool.or_eq_true, decide_eq_true_eq] at h1
    rcases h1 with h1 | h1
    · omega
    · obtain ⟨oj, hoj, y, hy, hb, hon⟩ := Region.waitsFor_spec h1
      obtain rfl := Option.some.inj (hoj.symm.trans hot)
      have := hall y hy hb
      rw [hon, getD_both (inv.tail (t - 1) (by omega) (by omega))] at this
      cases this
/-- 'f' operations of the head are still to come; 'g' behind them. Where one of the tail is ready already (a pure operation still floats), all is shown at once. -/
def wpF (P : Program) (W : World) (md : Region.Mode) (ops : Array Oper) (Q' : Exit → Act → World → Prop) (g q n : Nat) (O : Nat → Obj) (L : Array Bool → List (Nat × Obj) → Act → Prop) : Nat → Array Bool → List (Nat × Obj) → Act → Prop
  | 0 => L
  | f + 1 => fun listed x a => Region.ready md ops listed ≠ [] ∧ ∀ i ∈ Region.ready md ops listed, (i < n ∧ stepF P W ops q O i (wpF P W md ops Q' g q n O L f (listed.setIfInBounds i true)) x a) ∨ (n ≤ i ∧ ∀ w, Fam W x w → wpAny P md ops Q' (g + (f + 1)) listed a w)
/-- What is asked of the operations q .. n-1: each makes a new block. -/
def Makes (P : Program) (ops : Array Oper) (q n : Nat) (O : Nat → Obj) : Prop :=
  ∀ i o, q ≤ i → i < n → ops[i]? = some o → (∀ a : Act, Region.wanted o (yielded ops a.tmps) = true) ∧ ∀ (a : Act) (w : World), (execOp a.eval o).run P w = .ok (.value (ptr w.heap.size)) (w.alloc (O i))
theorem any_of_wpF {q n g : Nat} {O : Nat → Obj} {L : Array Bool → List (Nat × Obj) → Act → Prop} {Q' : Exit → Act → World → Prop} (hmk : Makes P ops q n O)
    (hL : ∀ listed x a w, Fam W x w → L listed x a → wpAny P md ops Q' g listed a w) (f : Nat) :
    ∀ listed x a w, Fam W x w → wpF P W md ops Q' g q n O L f listed x a → wpAny P md ops Q' (g + f) listed a w := by
  induction f with
  | zero => exact hL
  | succ f ih =>
    intro listed x a w hw h
    constructor
    · intro h0; exact (h.1 h0).elim
    · intro i hi
      rcases h.2 i hi with ⟨hin, hs⟩ | ⟨_, hall⟩
      · unfold stepF at hs
        unfold wpOp
        cases ho : ops[i]? with
        | none => rw [ho] at hs; exact hs.elim
        | some o =>
          rw [ho] at hs
          simp only at hs ⊢
          by_cases hq : i < q
          · rw [if_pos hq] at hs
            rcases hs with ⟨hwt, v, hv, hK⟩ | ⟨hwt, hK⟩
            · rw [if_pos hwt]
              exact .inl (Oper.wp_of_quiet (C := Fam W x) (K := fun a' => wpF P W md ops Q' g q n O L f (listed.setIfInBounds i true) x a') hw (fun a' w' hw' hk => ih _ x a' w' hw' hk) ⟨v, fun w' hw' => hv x w' hw', hK⟩)
            · rw [if_neg (by rw [hwt]; exact Bool.false_ne_true)]
              exact ih _ x _ _ hw hK
          · rw [if_neg hq] at hs
            obtain ⟨hwt, hrun⟩ := hmk i o (by omega) hin ho
            rw [if_pos (hwt a)]
            refine .inl ?_
            unfold Oper.wp
            rw [hrun a w]
            exact ih _ _ _ _ (hw.alloc (O i)) (hs w.heap.size (fun p hp => Nat.ne_of_lt (hw.2 p hp).2.1))
      · exact (hall w hw).2 i hi
/-- What is known of a quiet operation: its value in every world of the classes; if the tail does not wait for it, in every world at all. -/
def Known (P : Program) (W : World) (md : Region.Mode) (ops : Array Oper) (n i : Nat) (o : Oper) (v : Value) (a : Act) : Prop :=
  ((Region.wanted o (yielded ops a.tmps) = true ∧ QuietF P W o a v) ∨ (Region.wanted o (yielded ops a.tmps) = false ∧ v = undef)) ∧ (waitsDeep md ops 4 n i = true ∨ Yields P ops o v a)
theorem wpF_first {q n g i : Nat} {O : Nat → Obj} {oi : Oper} {v : Value} {L : Array Bool → List (Nat × Obj) → Act → Prop} {Q' : Exit → Act → World → Prop} (hQ : ∀ (d : Option Tmp) (v : Value) c a w, Q' (.panic c) (a.put d v) w → Q' (.panic c) a w) (hi : ops[i]? = some oi) (hsel : Region.noSelect ops = true)
    (hc : Region.chainB md ops n = true) (hmk : Makes P ops q n O) (hLw : ∀ listed x a w, Fam W x w → L listed x a → wpAny P md ops Q' g listed a w) (hin : i < n) (hiq : i < q)
    (hL : ∀ listed x a, L listed x a → ∀ j ∈ Region.ready md ops listed, n ≤ j) (f : Nat) :
    ∀ (listed : Array Bool) (x : List (Nat × Obj)) (a : Act), Inv md ops n listed →
      (∀ j oj, ops[j]? = some oj → j ≠ i → listed.getD j true = false → (∀ e ∈ oj.after, Region.binds md e = true → e.on ≠ i) → oi.apart ops oj = true) →
      i ∈ Region.ready md ops listed → Known P W md ops n i oi v a →
      wpF P W md ops Q' g q n O L f (listed.setIfInBounds i true) x (a.put oi.dst v) → wpF P W md ops Q' g q n O L (f + 1) listed x a := by
  have sel := Region.noSelect_spec hsel
  have now : ∀ (f : Nat) (listed : Array Bool) (x : List (Nat × Obj)) (a : Act), Known P W md ops n i oi v a →
      wpF P W md ops Q' g q n O L f (listed.setIfInBounds i true) x (a.put oi.dst v) → stepF P W ops q O i (wpF P W md ops Q' g q n O L f (listed.setIfInBounds i true)) x a := by
    intro f listed x a hy rest
    unfold stepF
    rw [hi]
    simp only
    rw [if_pos hiq]
    rcases hy.1 with ⟨hw, hv⟩ | ⟨hw, rfl⟩
    · exact .inl ⟨hw, v, hv, rest⟩
    · exact .inr ⟨hw, rest⟩
  -- one of the tail is ready: the operation is a pure one
  have late : ∀ (f : Nat) (listed : Array Bool) (x : List (Nat × Obj)) (a : Act) (j : Nat), Inv md ops n listed →
      (∀ j oj, ops[j]? = some oj → j ≠ i → listed.getD j true = false → (∀ e ∈ oj.after, Region.binds md e = true → e.on ≠ i) → oi.apart ops oj = true) →
      i ∈ Region.ready md ops listed → j ∈ Region.ready md ops listed → n ≤ j → Known P W md ops n i oi v a →
      wpF P W md ops Q' g q n O L f (listed.setIfInBounds i true) x (a.put oi.dst v) → ∀ w, Fam W x w → wpAny P md ops Q' (g + (f + 1)) listed a w := by
    intro f listed x a j inv free ri rj hj hy rest w hw
    rcases hy.2 with hwt | hyl
    · exact absurd rj (no_tail hc hwt inv (mem_ready.1 ri).1 j hj)
    · exact wpAny_first hi sel (fun c a w => hQ _ _ c a w) (g + f) listed a w free ri hyl (any_of_wpF hmk hLw f _ x _ w hw rest)
  induction f with
  | zero =>
    intro listed x a inv free ri hy rest
    refine ⟨fun h0 => (by rw [h0] at ri; cases ri), fun j rj => ?_⟩
    rcases Nat.lt_or_ge j n with jn | jn
    · by_cases e : j = i
      · subst e; exact .inl ⟨jn, now 0 listed x a hy rest⟩
      · exact absurd (hL _ _ _ rest j (ready_mono rj e)) (Nat.not_le_of_lt jn)
    · exact .inr ⟨jn, late 0 listed x a j inv free ri rj jn hy rest⟩
  | succ f ih =>
    intro listed x a inv free ri hy rest
    have un := (mem_ready.1 ri).1
    refine ⟨fun h0 => (by rw [h0] at ri; cases ri), fun j rj => ?_⟩
    rcases Nat.lt_or_ge j n with jn | jn
    · by_cases e : j = i
      · subst e; exact .inl ⟨jn, now (f + 1) listed x a hy rest⟩
      · obtain ⟨unj, oj, hoj, all⟩ := mem_ready.1 rj
        have nowait : ∀ y ∈ oj.after, Region.binds md y = true → y.on ≠ i := by
          intro y hy' hb he
          have := all y hy' hb
          rw [he, getD_both un] at this
          exact Bool.noConfusion this
        have ap := Oper.apart_spec (free j oj hoj e unj nowait)
        have free' : ∀ k ok, ops[k]? = some ok → k ≠ i → (listed.setIfInBounds j true).getD k true = false → (∀ y ∈ ok.after, Region.binds md y = true → y.on ≠ i) → oi.apart ops ok = true := by
          intro k ok hk hki unk hno
          refine free k ok hk hki ?_ hno
          by_cases ejk : j = k
          · subst ejk; exact unj
          · rwa [getD_set_ne true ejk] at unk
        have ex : ∀ u, execOp (a.put oj.dst u).eval oi = execOp a.eval oi := fun u => execOp_put oi (fun cs b => sel i oi cs b hi) a oj.dst u ap.2.2
        have keep : ∀ u, Known P W md ops n i oi v (a.put oj.dst u) := by
          intro u
          refine ⟨?_, hy.2.imp id (fun h => h.of_same (ex u) (wanted_put oi a oj.dst u ap.2.2))⟩
          rw [wanted_put oi a oj.dst u ap.2.2]
          refine hy.1.imp (fun h => ⟨h.1, fun x w hw => ?_⟩) id
          rw [ex u]
          exact h.2 x w hw
        have fin : ∀ (u : Value) (x' : List (Nat × Obj)), wpF P W md ops Q' g q n O L f ((listed.setIfInBounds i true).setIfInBounds j true) x' ((a.put oi.dst v).put oj.dst u) → wpF P W md ops Q' g q n O L (f + 1) (listed.setIfInBounds j true) x' (a.put oj.dst u) := by
          intro u x' h'
          refine ih _ x' _ (inv.set jn rj) free' (ready_mono ri (Ne.symm e)) (keep u) ?_
          rw [Array.setIfInBounds_comm _ _ (Ne.symm e)] at h'
          rwa [Act.put_comm a v u ap.2.1] at h'
        refine .inl ⟨jn, ?_⟩
        rcases rest.2 j (ready_mono rj e) with ⟨_, h2⟩ | ⟨h2, _⟩
        · unfold stepF at h2 ⊢
          rw [hoj] at h2 ⊢
          simp only at h2 ⊢
          by_cases hjq : j < q
          · rw [if_pos hjq] at h2 ⊢
            rw [wanted_put oj a oi.dst v ap.1] at h2
            rcases h2 with ⟨hw, u, hu, hK⟩ | ⟨hw, hK⟩
            · refine .inl ⟨hw, u, fun x w hx => ?_, fin u x hK⟩
              have := hu x w hx
              rwa [execOp_put oj (fun cs b => sel j oj cs b hoj) a oi.dst v ap.1] at this
            · exact .inr ⟨hw, fin undef x hK⟩
          · rw [if_neg hjq] at h2 ⊢
            intro b hb
            exact fin (ptr b) _ (h2 b hb)
        · omega
    · exact .inr ⟨jn, late (f + 1) listed x a j inv free ri rj jn hy rest⟩
/-- The walk in the order of the text, through the quiet operations alone. -/
def wpLex (P : Program) (W : World) (ops : Array Oper) (n : Nat) (R : Act → Prop) : Nat → List Oper → Act → Prop
  | _, [], a => R a
  | k, o :: l, a => ∃ v, Known P W .any ops n k o v a ∧ wpLex P W ops n R (k + 1) l (a.put o.dst v)
theorem lex_mono {n : Nat} {R R' : Act → Prop} (h : ∀ a, R a → R' a) : ∀ (l : List Oper) (k : Nat) (a : Act), wpLex P W ops n R k l a → wpLex P W ops n R' k l a
  | [], _, a, hh => h a hh
  | o :: l, k, a, ⟨v, hv, hk⟩ => ⟨v, hv, lex_mono h l (k + 1) _ hk⟩
/-- The closed facts on the order: the first q operations may be taken in the order of the text. -/
def lexTo (md : Region.Mode) (ops : Array Oper) : Nat → Nat → Array Bool → Bool
  | 0, _, _ => true
  | f + 1, k, listed => (Region.ready md ops listed).contains k && Region.free md ops listed k && lexTo md ops f (k + 1) (listed.setIfInBounds k true)
def listedTo : Nat → Nat → Array Bool → Array Bool
  | 0, _, listed => listed
  | f + 1, k, listed => listedTo f (k + 1) (listed.setIfInBounds k true)
theorem wpF_lex {q n m g : Nat} {O : Nat → Obj} {R : Act → Prop} {L : Array Bool → List (Nat × Obj) → Act → Prop} {Q' : Exit → Act → World → Prop} (hQ : ∀ (d : Option Tmp) (v : Value) c a w, Q' (.panic c) (a.put d v) w → Q' (.panic c) a w) (hsel : Region.noSelect ops = true) (hc : Region.chainB .any ops n = true) (hqn : q ≤ n)
    (hmk : Makes P ops q n O) (hLw : ∀ listed x a w, Fam W x w → L listed x a → wpAny P .any ops Q' g listed a w)
    (hL : ∀ listed x a, L listed x a → ∀ j ∈ Region.ready .any ops listed, n ≤ j) (l : List Oper) :
    ∀ (k : Nat) (listed : Array Bool) (a : Act), (∀ j, j < l.length → l[j]? = ops[k + j]?) → k + l.length = q → Inv .any ops n listed → lexTo .any ops l.length k listed = true →
    (∀ a', R a' → wpF P W .any ops Q' g q n O L m (listedTo l.length k listed) [] a') → wpLex P W ops n R k l a → wpF P W .any ops Q' g q n O L (m + l.length) listed [] a := by
  induction l with
  | nil => intro k listed a _ _ inv _ hR h; exact hR a h
  | cons o l ih =>
    intro k listed a hl hk inv hB hR h
    have ho : ops[k]? = some o := by have := hl 0 (by simp); simpa using this.symm
    simp only [List.length_cons, lexTo, Bool.and_eq_true] at hB hk
    obtain ⟨⟨hr, hf⟩, hB⟩ := hB
    have rk : k ∈ Region.ready .any ops listed := by simpa using hr
    obtain ⟨v, hv, hK⟩ := h
    show wpF P W .any ops Q' g q n O L ((m + l.length) + 1) listed [] a
    refine wpF_first hQ ho hsel hc hmk hLw (by omega) (by omega) hL _ listed [] a inv (Region.free_spec ho hf) rk hv ?_
    refine ih (k + 1) _ _ (fun j hj => ?_) (by omega) (inv.set (by omega) rk) hB hR hK
    have := hl (j + 1) (by simp only [List.length_cons]; omega)
    rw [show k + 1 + j = k + (j + 1) by omega, ← this]
    rfl
end
/-- One new block. -/
theorem region_fresh1 {P : Program} {id : Nat} {Q' : Exit → Act → World → Prop} {a : Act} {w : World} {l : List Oper} (q : Nat) (O : Obj) (hm : P.follows .mixedOrders = true)
    (hB : (Region.noSelect l.toArray && decide (q + 1 < l.length) && Region.chainB .any l.toArray (q + 1) && lexTo .any l.toArray q 0 (Array.replicate l.length false)
      && decide (Region.ready .any l.toArray (listedTo q 0 (Array.replicate l.length false)) = [q])
      && Region.seqB .any l.toArray (l.length - (q + 1)) (q + 1) ((listedTo q 0 (Array.replicate l.length false)).setIfInBounds q true)) = true)
    (hQ : ∀ (d : Option Tmp) (v : Value) c a w, Q' (.panic c) (a.put d v) w → Q' (.panic c) a w) (hmk : Makes P l.toArray q (q + 1) (fun _ => O))
    (h : wpLex P w l.toArray (q + 1) (fun a' => ∀ b w', Fam w [(b, O)] w' → ∀ o, l.toArray[q]? = some o → wpList P l.toArray Q' (l.drop (q + 1)) (a'.put o.dst (ptr b)) w') 0 (l.take q) a) : (Code.region id l.toArray true).wp P Q' a w := by
  simp only [Bool.and_eq_true, decide_eq_true_eq] at hB
  obtain ⟨⟨⟨⟨⟨hsel, hn⟩, hc⟩, hlex⟩, hrd⟩, hseq⟩ := hB
  have hn' : q + 1 < l.toArray.size := by simpa using hn
  have tl : (l.take q).length = q := by simp; omega
  have inv0 : Inv .any l.toArray (q + 1) (Array.replicate l.length false) := inv_none
  obtain ⟨oq, hoq⟩ : ∃ o, l.toArray[q]? = some o := ⟨l.toArray[q]'(by omega), Array.getElem?_eq_getElem (by omega)⟩
  let L : Array Bool → List (Nat × Obj) → Act → Prop := fun listed x a' => Region.seqB .any l.toArray (l.length - (q + 1)) (q + 1) listed = true ∧ ∀ w', Fam w x w' → wpList P l.toArray Q' (l.drop (q + 1)) a' w'
  have hLw : ∀ listed x a w', Fam w x w' → L listed x a → wpAny P .any l.toArray Q' (l.drop (q + 1)).length listed a w' := fun listed x a' w' hw' hL =>
    wpAny_of_seq (md := .any) (Q' := Q') (l.drop (q + 1)) (q + 1) listed a' w' (fun j => by simp [List.getElem?_drop]) (by rw [List.length_drop]; exact hL.1) (hL.2 w' hw')
  have H := wpF_lex (P := P) (W := w) (q := q) (n := q + 1) (m := 1) (O := fun _ => O) (L := L) hQ hsel hc (by omega) hmk hLw (fun _ _ _ hL => seqB_ready hL.1) (l.take q) 0 _ a
    (fun j hj => by rw [tl] at hj; simp [hj]) (by simpa using tl) inv0 (by rw [tl]; exact hlex) (R := fun a' => ∀ b w', Fam w [(b, O)] w' → ∀ o, l.toArray[q]? = some o → wpList P l.toArray Q' (l.drop (q + 1)) (a'.put o.dst (ptr b)) w') (by
      intro a' hR
      rw [tl]
      refine ⟨by rw [hrd]; simp, fun i hi => ?_⟩
      rw [hrd] at hi
      obtain rfl : i = q := by simpa using hi
      refine .inl ⟨by omega, ?_⟩
      unfold stepF
      rw [hoq]
      simp only
      rw [if_neg (Nat.lt_irrefl _)]
      intro b _
      exact ⟨hseq, fun w' hw' => hR b w' hw' oq hoq⟩) h
  refine wp_region_any hm ?_
  have A := any_of_wpF (W := w) (md := .any) (L := L) (Q' := Q') hmk hLw _ _ _ _ _ ⟨(Q.refl w).drew, fun p hp => by cases hp⟩ H
  rw [tl, List.length_drop, show l.length - (q + 1) + (1 + q) = l.length by omega] at A
  simpa using A
/-- No new block. -/
theorem region_fresh0 {P : Program} {id : Nat} {Q' : Exit → Act → World → Prop} {a : Act} {w : World} {l : List Oper} (q : Nat) (hm : P.follows .mixedOrders = true)
    (hB : (Region.noSelect l.toArray && decide (q < l.length) && Region.chainB .any l.toArray q && lexTo .any l.toArray q 0 (Array.replicate l.length false)
      && Region.seqB .any l.toArray (l.length - q) q (listedTo q 0 (Array.replicate l.length false))) = true)
    (hQ : ∀ (d : Option Tmp) (v : Value) c a w, Q' (.panic c) (a.put d v) w → Q' (.panic c) a w) 
    (h : wpLex P w l.toArray q (fun a' => ∀ w', Fam w [] w' → wpList P l.toArray Q' (l.drop q) a' w') 0 (l.take q) a) : (Code.region id l.toArray true).wp P Q' a w := by
  simp only [Bool.and_eq_true, decide_eq_true_eq] at hB
  obtain ⟨⟨⟨⟨hsel, hn⟩, hc⟩, hlex⟩, hseq⟩ := hB
  have tl : (l.take q).length = q := by simp; omega
  have inv0 : Inv .any l.toArray q (Array.replicate l.length false) := inv_none
  have hmk : Makes P l.toArray q q (fun _ => .cells #[] 0) := fun i o h1 h2 => absurd h1 (by omega)
  let L : Array Bool → List (Nat × Obj) → Act → Prop := fun listed x a' => Region.seqB .any l.toArray (l.length - q) q listed = true ∧ ∀ w', Fam w x w' → wpList P l.toArray Q' (l.drop q) a' w'
  have hLw : ∀ listed x a w', Fam w x w' → L listed x a → wpAny P .any l.toArray Q' (l.drop q).length listed a w' := fun listed x a' w' hw' hL =>
    wpAny_of_seq (md := .any) (Q' := Q') (l.drop q) q listed a' w' (fun j => by simp [List.getElem?_drop]) (by rw [List.length_drop]; exact hL.1) (hL.2 w' hw')
  have H := wpF_lex (P := P) (W := w) (q := q) (n := q) (m := 0) (O := fun _ => .cells #[] 0) (L := L) hQ hsel hc (by omega) hmk hLw (fun _ _ _ hL => seqB_ready hL.1) (l.take q) 0 _ a
    (fun j hj => by rw [tl] at hj; simp [hj]) (by simpa using tl) inv0 (by rw [tl]; exact hlex) (R := fun a' => ∀ w', Fam w [] w' → wpList P l.toArray Q' (l.drop q) a' w') (by
      intro a' hR
      rw [tl]
      exact ⟨hseq, hR⟩) h
  refine wp_region_any hm ?_
  have A := any_of_wpF (W := w) (md := .any) (L := L) (Q' := Q') hmk hLw _ _ _ _ _ ⟨(Q.refl w).drew, fun p hp => by cases hp⟩ H
  rw [tl, List.length_drop, show l.length - q + (0 + q) = l.length by omega] at A
  simpa using A
/-- Two new blocks. -/
theorem region_fresh2 {P : Program} {id : Nat} {Q' : Exit → Act → World → Prop} {a : Act} {w : World} {l : List Oper} (q : Nat) (O : Nat → Obj) (hm : P.follows .mixedOrders = true)
    (hB : (Region.noSelect l.toArray && decide (q + 2 < l.length) && Region.chainB .any l.toArray (q + 2) && lexTo .any l.toArray q 0 (Array.replicate l.length false)
      && decide (Region.ready .any l.toArray (listedTo q 0 (Array.replicate l.length false)) = [q, q + 1])
      && decide (Region.ready .any l.toArray ((listedTo q 0 (Array.replicate l.length false)).setIfInBounds q true) = [q + 1])
      && decide (Region.ready .any l.toArray ((listedTo q 0 (Array.replicate l.length false)).setIfInBounds (q + 1) true) = [q])
      && decide (((l.toArray[q]?).bind (·.dst)) ≠ ((l.toArray[q + 1]?).bind (·.dst)))
      && Region.seqB .any l.toArray (l.length - (q + 2)) (q + 2) (((listedTo q 0 (Array.replicate l.length false)).setIfInBounds q true).setIfInBounds (q + 1) true)) = true)
    (hQ : ∀ (d : Option Tmp) (v : Value) c a w, Q' (.panic c) (a.put d v) w → Q' (.panic c) a w) (hmk : Makes P l.toArray q (q + 2) O)
    (h : wpLex P w l.toArray (q + 2) (fun a' => ∀ b c w', b ≠ c → Fam w [(b, O q)] w' → Fam w [(c, O (q + 1))] w' → ∀ o o', l.toArray[q]? = some o → l.toArray[q + 1]? = some o' → wpList P l.toArray Q' (l.drop (q + 2)) ((a'.put o.dst (ptr b)).put o'.dst (ptr c)) w') 0 (l.take q) a) : (Code.region id l.toArray true).wp P Q' a w := by
  simp only [Bool.and_eq_true, decide_eq_true_eq] at hB
  obtain ⟨⟨⟨⟨⟨⟨⟨⟨hsel, hn⟩, hc⟩, hlex⟩, hrd⟩, hrd1⟩, hrd2⟩, hne⟩, hseq⟩ := hB
  have hn' : q + 2 < l.toArray.size := by simpa using hn
  have tl : (l.take q).length = q := by simp; omega
  have inv0 : Inv .any l.toArray (q + 2) (Array.replicate l.length false) := inv_none
  obtain ⟨o1, ho1⟩ : ∃ o, l.toArray[q]? = some o := ⟨l.toArray[q]'(by omega), Array.getElem?_eq_getElem (by omega)⟩
  obtain ⟨o2, ho2⟩ : ∃ o, l.toArray[q + 1]? = some o := ⟨l.toArray[q + 1]'(by omega), Array.getElem?_eq_getElem (by omega)⟩
  have hd : ∀ d, o2.dst = some d → o1.dst ≠ some d := by
    intro d h1 h2
    rw [ho1, ho2] at hne
    exact hne (by simp [h1, h2])
  let L : Array Bool → List (Nat × Obj) → Act → Prop := fun listed x a' => Region.seqB .any l.toArray (l.length - (q + 2)) (q + 2) listed = true ∧ ∀ w', Fam w x w' → wpList P l.toArray Q' (l.drop (q + 2)) a' w'
  have hLw : ∀ listed x a w', Fam w x w' → L listed x a → wpAny P .any l.toArray Q' (l.drop (q + 2)).length listed a w' := fun listed x a' w' hw' hL =>
    wpAny_of_seq (md := .any) (Q' := Q') (l.drop (q + 2)) (q + 2) listed a' w' (fun j => by simp [List.getElem?_drop]) (by rw [List.length_drop]; exact hL.1) (hL.2 w' hw')
  have H := wpF_lex (P := P) (W := w) (q := q) (n := q + 2) (m := 2) (O := O) (L := L) hQ hsel hc (by omega) hmk hLw (fun _ _ _ hL => seqB_ready hL.1) (l.take q) 0 _ a
    (fun j hj => by rw [tl] at hj; simp [hj]) (by simpa using tl) inv0 (by rw [tl]; exact hlex) (R := fun a' => ∀ b c w', b ≠ c → Fam w [(b, O q)] w' → Fam w [(c, O (q + 1))] w' → ∀ o o', l.toArray[q]? = some o → l.toArray[q + 1]? = some o' → wpList P l.toArray Q' (l.drop (q + 2)) ((a'.put o.dst (ptr b)).put o'.dst (ptr c)) w') (by
      intro a' hR
      rw [tl]
      refine ⟨by rw [hrd]; simp, fun i hi => ?_⟩
      rw [hrd] at hi
      simp only [List.mem_cons, List.not_mem_nil, or_false] at hi
      rcases hi with rfl | rfl
      · refine .inl ⟨by omega, ?_⟩
        unfold stepF
        rw [ho1]
        simp only
        rw [if_neg (Nat.lt_irrefl _)]
        intro b _
        refine ⟨by rw [hrd1]; simp, fun j hj => ?_⟩
        rw [hrd1] at hj
        obtain rfl : j = i + 1 := by simpa using hj
        refine .inl ⟨by omega, ?_⟩
        unfold stepF
        rw [ho2]
        simp only
        rw [if_neg (by omega)]
        intro c hc'
        exact ⟨hseq, fun w' hw' => hR b c w' (hc' (b, O i) (by simp)) ⟨hw'.1, fun p hp => hw'.2 p (by simp at hp ⊢; exact .inl hp)⟩ ⟨hw'.1, fun p hp => hw'.2 p (by simp at hp ⊢; exact .inr hp)⟩ o1 o2 ho1 ho2⟩
      · refine .inl ⟨by omega, ?_⟩
        unfold stepF
        rw [ho2]
        simp only
        rw [if_neg (by omega)]
        intro c _
        refine ⟨by rw [hrd2]; simp, fun j hj => ?_⟩
        rw [hrd2] at hj
        obtain rfl : j = q := by simpa using hj
        refine .inl ⟨by omega, ?_⟩
        unfold stepF
        rw [ho1]
        simp only
        rw [if_neg (Nat.lt_irrefl _)]
        intro b hb'
        refine ⟨by rw [Array.setIfInBounds_comm _ _ (by omega)]; exact hseq, fun w' hw' => ?_⟩
        rw [Act.put_comm a' (ptr c) (ptr b) hd]
        exact hR b c w' (Ne.symm (hb' (c, O (j + 1)) (by simp))) ⟨hw'.1, fun p hp => hw'.2 p (by simp at hp ⊢; exact .inr hp)⟩ ⟨hw'.1, fun p hp => hw'.2 p (by simp at hp ⊢; exact .inl hp)⟩ o1 o2 ho1 ho2) h
  refine wp_region_any hm ?_
  have A := any_of_wpF (W := w) (md := .any) (L := L) (Q' := Q') hmk hLw _ _ _ _ _ ⟨(Q.refl w).drew, fun p hp => by cases hp⟩ H
  rw [tl, List.length_drop, show l.length - (q + 2) + (2 + q) = l.length by omega] at A
  simpa using A
section
variable {P : Program} {W : World}
theorem f_step {ops : Array Oper} {n k : Nat} {R : Act → Prop} {o : Oper} {rest : List Oper} {a : Act} {v : Value} (hg : Region.wanted o (yielded ops a.tmps) = true) (hw : waitsDeep .any ops 4 n k = true)
    (h1 : ∀ x wq, Fam W x wq → Oper.quietUpon P (Fam W x) wq v ((execOp a.eval o).run P wq)) (h2 : wpLex P W ops n R (k + 1) rest (a.put o.dst v)) : wpLex P W ops n R k (o :: rest) a := ⟨v, ⟨.inl ⟨hg, h1⟩, .inl hw⟩, h2⟩
theorem f_pure {ops : Array Oper} {n k : Nat} {R : Act → Prop} {o : Oper} {rest : List Oper} {a : Act} {v : Value} (hg : Region.wanted o (yielded ops a.tmps) = true)
    (h1 : ∀ wq, (execOp a.eval o).run P wq = .ok (.value v) wq) (h2 : wpLex P W ops n R (k + 1) rest (a.put o.dst v)) : wpLex P W ops n R k (o :: rest) a :=
  ⟨v, ⟨.inl ⟨hg, fun x w _ => by rw [h1 w]; exact ⟨rfl, rfl⟩⟩, .inr (.inl ⟨hg, h1⟩)⟩, h2⟩
theorem f_skip {ops : Array Oper} {n k : Nat} {R : Act → Prop} {o : Oper} {rest : List Oper} {a : Act} (hg : Region.wanted o (yielded ops a.tmps) = false)
    (h2 : wpLex P W ops n R (k + 1) rest (a.put o.dst undef)) : wpLex P W ops n R k (o :: rest) a := ⟨undef, ⟨.inr ⟨hg, rfl⟩, .inr (.inr ⟨hg, rfl⟩)⟩, h2⟩
theorem fam_same {f : FuncId} {args : Array Value} {x : List (Nat × Obj)} {w1 : World} {v : Value} (hx : Fam W x w1) (h : Calls P f args w1 fun e w' => e = .returned v ∧ w1 = w') : Calls P f args w1 fun e w' => e = .returned v ∧ Fam W x w' :=
  h.mono fun _ _ ⟨he, hw⟩ => ⟨he, hw ▸ hx⟩
theorem fam_grow {f : FuncId} {args : Array Value} {x : List (Nat × Obj)} {w1 : World} {v : Value} (hx : Fam W x w1) (h : Calls P f args w1 fun e w' => e = .returned v ∧ Q w1 w') : Calls P f args w1 fun e w' => e = .returned v ∧ Fam W x w' :=
  h.mono fun _ _ ⟨he, hw⟩ => ⟨he, hx.grow hw⟩
/-- The cells of a new block, as rules. -/
theorem Fam.cells {b : Nat} {c : Array Value} {t : TypeId} {w : World} (h : Fam W [(b, .cells c t)] w) : W.heap.size ≤ b ∧ b < w.heap.size ∧ (∀ o, w.cell? ⟨b, o, none⟩ = c[o]?) ∧ (∀ o, w.frozen? ⟨b, o, none⟩ = false) := by
  obtain ⟨h1, h2, h3⟩ := h.2 _ (List.mem_singleton.2 rfl)
  refine ⟨h1, h2, fun o => ?_, fun o => ?_⟩
  · simp only at h3; simp [World.cell?, h3]
  · simp only at h3; simp only [World.frozen?, h3]; simp
theorem f_nil {ops : Array Oper} {n k : Nat} {R : Act → Prop} {a : Act} (h : R a) : wpLex P W ops n R k [] a := h
theorem Fam.newCells {b : Nat} {c : Array Value} {t : TypeId} {w : World} (h : Fam W [(b, .cells c t)] w) : (∀ o, newCell w b o = c[o]?) ∧ (∀ o, newMark w b o = false) :=
  ⟨h.cells.2.2.1, h.cells.2.2.2⟩
end
/-- One new block, with the slot that takes its address. -/
theorem region_new1 {P : Program} {id : Nat} {Q' : Exit → Act → World → Prop} {a : Act} {w : World} {l : List Oper} (q : Nat) (O : Obj) (d : Tmp) (hm : P.follows .mixedOrders = true)
    (hB : (Region.noSelect l.toArray && decide (q + 1 < l.length) && Region.chainB .any l.toArray (q + 1) && lexTo .any l.toArray q 0 (Array.replicate l.length false)
      && decide (Region.ready .any l.toArray (listedTo q 0 (Array.replicate l.length false)) = [q])
      && Region.seqB .any l.toArray (l.length - (q + 1)) (q + 1) ((listedTo q 0 (Array.replicate l.length false)).setIfInBounds q true)) = true)
    (hQ : ∀ (d : Option Tmp) (v : Value) c a w, Q' (.panic c) (a.put d v) w → Q' (.panic c) a w) (hd : (l.toArray[q]?).map (·.dst) = some (some d)) (hmk : Makes P l.toArray q (q + 1) (fun _ => O))
    (h : wpLex P w l.toArray (q + 1) (fun a' => ∀ b w', Fam w [(b, O)] w' → wpList P l.toArray Q' (l.drop (q + 1)) (a'.put (some d) (.pointer (some ⟨b, 0, none⟩))) w') 0 (l.take q) a) : (Code.region id l.toArray true).wp P Q' a w := by
  refine region_fresh1 q O hm hB hQ hmk (lex_mono (fun a' h' b w' hw' o ho => ?_) _ _ _ h)
  rw [ho] at hd
  have e : o.dst = some d := by simpa using hd
  rw [e]
  exact h' b w' hw'
theorem region_new2 {P : Program} {id : Nat} {Q' : Exit → Act → World → Prop} {a : Act} {w : World} {l : List Oper} (q : Nat) (O1 O2 : Obj) (d1 d2 : Tmp) (hm : P.follows .mixedOrders = true)
    (hB : (Region.noSelect l.toArray && decide (q + 2 < l.length) && Region.chainB .any l.toArray (q + 2) && lexTo .any l.toArray q 0 (Array.replicate l.length false)
      && decide (Region.ready .any l.toArray (listedTo q 0 (Array.replicate l.length false)) = [q, q + 1])
      && decide (Region.ready .any l.toArray ((listedTo q 0 (Array.replicate l.length false)).setIfInBounds q true) = [q + 1])
      && decide (Region.ready .any l.toArray ((listedTo q 0 (Array.replicate l.length false)).setIfInBounds (q + 1) true) = [q])
      && decide (((l.toArray[q]?).bind (·.dst)) ≠ ((l.toArray[q + 1]?).bind (·.dst)))
      && Region.seqB .any l.toArray (l.length - (q + 2)) (q + 2) (((listedTo q 0 (Array.replicate l.length false)).setIfInBounds q true).setIfInBounds (q + 1) true)) = true)
    (hQ : ∀ (d : Option Tmp) (v : Value) c a w, Q' (.panic c) (a.put d v) w → Q' (.panic c) a w) (hd1 : (l.toArray[q]?).map (·.dst) = some (some d1)) (hd2 : (l.toArray[q + 1]?).map (·.dst) = some (some d2)) (hmk1 : Makes P l.toArray q (q + 1) (fun _ => O1)) (hmk2 : Makes P l.toArray (q + 1) (q + 2) (fun _ => O2))
    (h : wpLex P w l.toArray (q + 2) (fun a' => ∀ b c w', b ≠ c → Fam w [(b, O1)] w' → Fam w [(c, O2)] w' → wpList P l.toArray Q' (l.drop (q + 2)) ((a'.put (some d1) (.pointer (some ⟨b, 0, none⟩))).put (some d2) (.pointer (some ⟨c, 0, none⟩))) w') 0 (l.take q) a) : (Code.region id l.toArray true).wp P Q' a w := by
  refine region_fresh2 q (fun i => if i = q then O1 else O2) hm hB hQ ?_ (lex_mono (fun a' h' b c w' hbc hb hc o o' ho ho' => ?_) _ _ _ h)
  · intro i o h1 h2 ho
    by_cases e : i = q
    · subst e
      have := hmk1 i o (Nat.le_refl _) (by omega) ho
      simpa using this
    · have := hmk2 i o (by omega) (by omega) ho
      simpa [e] using this
  · rw [ho] at hd1
    rw [ho'] at hd2
    have e1 : o.dst = some d1 := by simpa using hd1
    have e2 : o'.dst = some d2 := by simpa using hd2
    rw [e1, e2]
    refine h' b c w' hbc (by simpa using hb) ?_
    have : q + 1 ≠ q := by omega
    simpa [this] using hc
end Go.Proofs.Ytecnjkhncdjebaa
