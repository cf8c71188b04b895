/- Converted hours: the lists that the program and the reference build. -/
import Derived.Test.YthooejkmccdfjaaE6
namespace Go.Proofs.Ythooejkmccdfjaa
set_option linter.unusedVariables false
set_option linter.unusedSimpArgs false
open Go.RowKit
/-- The numbers of the first k minutes of a list, each once. -/
def convList (num : Int → Int) (ms : List Int) : Nat → List Int
  | 0 => []
  | k + 1 => if num (ms.getD k 0) ∈ convList num ms k then convList num ms k else convList num ms k ++ [num (ms.getD k 0)]
theorem conv_old {num : Int → Int} {ms : List Int} {k : Nat} (h : num (ms.getD k 0) ∈ convList num ms k) : convList num ms (k + 1) = convList num ms k := by
  rw [convList, if_pos h]
theorem conv_new {num : Int → Int} {ms : List Int} {k : Nat} (h : ¬ num (ms.getD k 0) ∈ convList num ms k) : convList num ms (k + 1) = convList num ms k ++ [num (ms.getD k 0)] := by
  rw [convList, if_neg h]
theorem conv_length (num : Int → Int) (ms : List Int) : ∀ k, (convList num ms k).length ≤ k := by
  intro k
  induction k with
  | zero => simp [convList]
  | succ k ih =>
    unfold convList
    split
    · omega
    · simp; exact ih
theorem conv_congr {f g : Int → Int} {ms : List Int} : ∀ k : Nat, k ≤ ms.length → (∀ m ∈ ms, f m = g m) → convList f ms k = convList g ms k := by
  intro k
  induction k with
  | zero => intro _ _; rfl
  | succ k ih =>
    intro hk h
    have hm : ms.getD k 0 ∈ ms := by
      rw [List.getD_eq_getElem?_getD, List.getElem?_eq_getElem (by omega)]
      simp
    unfold convList
    rw [ih (by omega) h, h _ hm]
def S_Convert (d : Day) (from_ to number : Int) : List Int := convList (S_l12Number d to) (S_l12With d from_ number) (S_l12With d from_ number).length
def I_Convert (d : Day) (from_ to number : Int) : List Int := convList (I_Day_number d to) (I_Day_minutesWith d from_ number) (I_Day_minutesWith d from_ number).length
def S_ccode (d : Day) (from_ to number : Int) : Int := if S_l12Code d from_ number = 0 ∧ S_l12System to = false then 2 else S_l12Code d from_ number
theorem eq_ccode (d : Day) (f t n : Int) : I_counted d n [f, t] = S_ccode d f t n := by
  have e : ∀ s, I_in s 0 3 = S_l12System s := fun s => rfl
  unfold I_counted S_ccode S_l12Code
  rw [eq_IsDay, eq_isMinute]
  simp only [List.all_cons, List.all_nil, e, Bool.and_true]
  cases S_IsDay d <;> cases S_l12System f <;> cases S_l12System t <;> cases S_l09Minute n <;> rfl
theorem ccode_ok {d : Day} {f t n : Int} (h : S_ccode d f t n = 0) : S_l12Code d f n = 0 ∧ (0 ≤ t ∧ t ≤ 3) := by
  unfold S_ccode at h
  split at h
  · omega
  · rename_i hc
    refine ⟨h, ?_⟩
    cases ht : S_l12System t with
    | true => exact (in_iff _ _ _).1 ht
    | false => exact absurd ⟨h, ht⟩ hc
theorem with_mem {d : Day} {s n m : Int} (h : m ∈ S_l12With d s n) : 0 ≤ m ∧ m ≤ 1439 := by
  unfold S_l12With at h
  have key : ∀ k : Nat, m ∈ withUp (fun m => decide (S_l12Number d s m = n)) k → 0 ≤ m ∧ m < k := by
    intro k
    induction k with
    | zero => intro hm; simp [withUp] at hm
    | succ k ih =>
      intro hm
      unfold withUp at hm
      split at hm
      · rcases List.mem_append.1 hm with hm | hm
        · have := ih hm; omega
        · simp at hm; omega
      · have := ih hm; omega
  have := key 1440 h
  omega
theorem eq_convert {d : Day} {f t n : Int} (h : S_ccode d f t n = 0) : I_Convert d f t n = S_Convert d f t n := by
  obtain ⟨h1, h2⟩ := ccode_ok h
  obtain ⟨hd, _, _⟩ := code_ok h1
  unfold I_Convert S_Convert
  rw [eq_with h1]
  exact conv_congr _ (Nat.le_refl _) (fun m hm => eq_hour hd h2 (with_mem hm))
theorem convert_length (d : Day) (f t n : Int) : (S_Convert d f t n).length ≤ 100000 := by
  have h1 := with_length d f n
  have h2 := conv_length (S_l12Number d t) (S_l12With d f n) (S_l12With d f n).length
  unfold S_Convert
  omega
theorem iwith_length (d : Day) (s n : Int) : (I_Day_minutesWith d s n).length ≤ 100000 := by
  have := withUp_length (fun m => decide (I_Day_number d s m = n)) 1440
  unfold I_Day_minutesWith
  omega
theorem mem_of_at {zs : List Int} {j : Nat} {x : Int} (hj : j < zs.length) (h : zs.getD j 0 = x) : x ∈ zs := by
  rw [← h, List.getD_eq_getElem?_getD, List.getElem?_eq_getElem hj]
  simp
theorem not_next {zs : List Int} {j : Nat} {x : Int} (h0 : x ∉ zs.take j) (h : ¬ zs.getD j 0 = x) (hj : j < zs.length) : x ∉ zs.take (j + 1) := by
  rw [List.take_add_one, List.getElem?_eq_getElem hj]
  rw [List.getD_eq_getElem?_getD, List.getElem?_eq_getElem hj] at h
  intro hm
  rcases List.mem_append.1 hm with hm | hm
  · exact h0 hm
  · simp at hm h
    exact h hm.symm
end Go.Proofs.Ythooejkmccdfjaa
