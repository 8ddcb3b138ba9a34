/- As many fail as the script's list has below n: two counts of one (layer 12). -/
import Derived.Test.YtleolejhkdolpaaModC
namespace Sv
/-- how many of 0 .. n-1 are in the list -/
def cntF (l : List Int) (n : Nat) : Int := ((((List.range n).filter fun i : Nat => decide ((i : Int) ∈ l)).length : Nat) : Int)
/-- how many of the list are below n -/
def cntLt (l : List Int) (n : Int) : Int := (((l.filter fun x => decide (x < n)).length : Nat) : Int)
theorem cntF_zero (l : List Int) : cntF l 0 = 0 := rfl
theorem cntF_yes {l : List Int} {n : Nat} (h : (n : Int) ∈ l) : cntF l (n + 1) = cntF l n + 1 := by
  unfold cntF
  rw [List.range_succ, List.filter_append]
  simp [h]
theorem cntF_no {l : List Int} {n : Nat} (h : ¬ (n : Int) ∈ l) : cntF l (n + 1) = cntF l n := by
  unfold cntF
  rw [List.range_succ, List.filter_append]
  simp [h]
theorem cntF_le (l : List Int) (n : Nat) : 0 ≤ cntF l n ∧ cntF l n ≤ (n : Int) := by
  unfold cntF
  have := List.length_filter_le (fun i : Nat => decide ((i : Int) ∈ l)) (List.range n)
  rw [List.length_range] at this
  omega
theorem cntLt_nil (n : Int) : cntLt [] n = 0 := rfl
theorem cntLt_yes {l : List Int} {m : Nat} {n : Int} (hm : m < l.length) (h : l.getD m 0 < n) : cntLt (l.take (m + 1)) n = cntLt (l.take m) n + 1 := by
  unfold cntLt
  rw [List.take_add_one, List.getElem?_eq_getElem hm, List.filter_append]
  rw [List.getD_eq_getElem?_getD, List.getElem?_eq_getElem hm] at h
  simp only [Option.getD_some] at h
  simp [h]
theorem cntLt_no {l : List Int} {m : Nat} {n : Int} (hm : m < l.length) (h : ¬ l.getD m 0 < n) : cntLt (l.take (m + 1)) n = cntLt (l.take m) n := by
  unfold cntLt
  rw [List.take_add_one, List.getElem?_eq_getElem hm, List.filter_append]
  rw [List.getD_eq_getElem?_getD, List.getElem?_eq_getElem hm] at h
  simp only [Option.getD_some] at h
  simp [h]
theorem cntLt_le (l : List Int) (m : Nat) (n : Int) : 0 ≤ cntLt (l.take m) n ∧ cntLt (l.take m) n ≤ (m : Int) := by
  unfold cntLt
  have := List.length_filter_le (fun x : Int => decide (x < n)) (l.take m)
  rw [List.length_take] at this
  omega
theorem rising_lt {high : Int} : ∀ {l : List Int} {last : Int}, risingB last high l = true → (∀ x ∈ l, last < x) ∧ l.Pairwise (· < ·) := by
  intro l
  induction l with
  | nil => intro _ _; exact ⟨fun x h => (by cases h), List.Pairwise.nil⟩
  | cons y l ih =>
    intro last h
    unfold risingB at h
    simp only [Bool.and_eq_true, decide_eq_true_eq] at h
    obtain ⟨⟨h1, _⟩, h3⟩ := h
    obtain ⟨g1, g2⟩ := ih h3
    refine ⟨fun x hx => ?_, List.Pairwise.cons g1 g2⟩
    rcases List.mem_cons.1 hx with rfl | hx
    · exact h1
    · have := g1 x hx; omega
theorem cntLt_succ {l : List Int} (h : l.Pairwise (· < ·)) (n : Nat) : cntLt l ((n + 1 : Nat) : Int) = cntLt l (n : Int) + (if (n : Int) ∈ l then 1 else 0) := by
  induction l with
  | nil => simp [cntLt]
  | cons x l ih =>
    obtain ⟨h1, h2⟩ := List.pairwise_cons.1 h
    have := ih h2
    unfold cntLt at this ⊢
    simp only [List.filter_cons, List.mem_cons]
    by_cases e : (n : Int) = x
    · have hn : ¬ (n : Int) ∈ l := fun hm => by have := h1 _ hm; omega
      have a1 : x < ((n + 1 : Nat) : Int) := by omega
      have a2 : ¬ x < (n : Int) := by omega
      rw [if_neg hn] at this
      rw [if_pos (Or.inl e)]
      simp only [a1, a2, decide_true, decide_false, if_true, Bool.false_eq_true, if_false, List.length_cons]
      omega
    · by_cases a2 : x < (n : Int)
      · have a1 : x < ((n + 1 : Nat) : Int) := by omega
        simp only [a1, a2, decide_true, if_true, List.length_cons, e, false_or]
        omega
      · have a1 : ¬ x < ((n + 1 : Nat) : Int) := by omega
        simp only [a1, a2, decide_false, Bool.false_eq_true, if_false, e, false_or]
        omega
theorem cnt_same {l : List Int} (h : risingB (-1) 4611686018427387904 l = true) (n : Nat) : cntF l n = cntLt l (n : Int) := by
  obtain ⟨h1, h2⟩ := rising_lt h
  induction n with
  | zero =>
    unfold cntLt
    rw [List.filter_eq_nil_iff.2 (fun x hx => by have := h1 x hx; simp; omega)]
    rfl
  | succ n ih =>
    rw [cntLt_succ h2, ← ih]
    by_cases e : (n : Int) ∈ l
    · rw [cntF_yes e, if_pos e]
    · rw [cntF_no e, if_neg e]; omega
theorem rightB_rising {g : Geom} {s : Script} (h : rightB g s = true) : risingB (-1) 4611686018427387904 s.fails = true := by
  unfold rightB at h
  simp only [Bool.and_eq_true] at h
  exact h.1.1.2
theorem cnt_end {s : Script} {g : Geom} {k m : Nat} {n : Int} (h : rightB g s = true) (hk : (k : Int) = n) (hm : s.fails.length ≤ m) : cntF s.fails k = cntLt (s.fails.take m) n := by
  rw [List.take_of_length_le hm, ← hk]
  exact cnt_same (rightB_rising h) k
theorem tornL_length {torn : List Int} {n : Nat} : (tornL torn n).length = n := by simp [tornL]
end Sv
