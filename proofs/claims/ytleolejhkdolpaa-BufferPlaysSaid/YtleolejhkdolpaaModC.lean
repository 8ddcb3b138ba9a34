/- Counting turns by rows and rungs; the laws' own words (layer 12). -/
import Derived.Test.YtleolejhkdolpaaModT
import Derived.Test.YtleolejhkdolpaaSepEq
import Derived.KernelRfl
namespace Sv
open Go Go.RowKit
def plainG : Geom := ⟨1, 4, 4, 1, 4, 2, 1⟩
def awakeS (b : Nat) : Script := ⟨some ⟨b, 0, none⟩, 2, [3, 1], none, 0, [], none, 0, [], -1, none, 0, [], none, 0, []⟩
theorem awakeS_right (b : Nat) : rightB plainG (awakeS b) = true := by kernel_rfl
theorem awakeS_L (b : Nat) : ScriptL (awakeS b) := ⟨by simp [awakeS], by simp [awakeS], by simp [awakeS], by simp [awakeS], by simp [awakeS]⟩
def fewB (s : Script) : Bool := decide ((s.busy.length : Int) ≤ 200) && decide ((s.fails.length : Int) ≤ 50) && decide ((s.turns.length : Int) ≤ 100) && decide ((s.torn.length : Int) ≤ 200) && decide ((s.marked.length : Int) ≤ 50)
theorem fewB_true {s : Script} (h : fewB s = true) : s.busy.length ≤ 200 ∧ s.fails.length ≤ 50 ∧ s.turns.length ≤ 100 ∧ s.torn.length ≤ 200 ∧ s.marked.length ≤ 50 := by
  unfold fewB at h
  simp only [Bool.and_eq_true, decide_eq_true_eq] at h
  omega
def cntRung (ts : List Turn) (r g : Int) : Int := ((ts.filter fun t => decide (t.row = r ∧ 0 ≤ t.rung ∧ t.rung < g)).length : Int)
def cntRows (ts : List Turn) (r : Int) : Int := ((ts.filter fun t => decide (0 ≤ t.row ∧ t.row < r ∧ 0 ≤ t.rung ∧ t.rung < 2)).length : Int)
theorem cntRung_zero (ts : List Turn) (r : Int) : cntRung ts r 0 = 0 := by
  unfold cntRung
  have : (ts.filter fun t => decide (t.row = r ∧ 0 ≤ t.rung ∧ t.rung < 0)) = [] := by
    rw [List.filter_eq_nil_iff]; intro t _; simp; try omega
  rw [this]; rfl
theorem cntRows_zero (ts : List Turn) : cntRows ts 0 = 0 := by
  unfold cntRows
  have : (ts.filter fun t => decide (0 ≤ t.row ∧ t.row < 0 ∧ 0 ≤ t.rung ∧ t.rung < 2)) = [] := by
    rw [List.filter_eq_nil_iff]; intro t _; simp; try omega
  rw [this]; rfl
theorem cr_zero (ts : List Turn) (r : Int) : cntRows ts r = cntRows ts r + cntRung ts r ((0 : Nat) : Int) := by
  have h := cntRung_zero ts r
  have e : (((0 : Nat) : Int)) = 0 := rfl
  rw [e, h]; omega
theorem cnt_split {p q r : Turn → Bool} (ts : List Turn) (h : ∀ t, p t = (q t || r t)) (hd : ∀ t, ¬ (q t = true ∧ r t = true)) : (ts.filter p).length = (ts.filter q).length + (ts.filter r).length := by
  induction ts with
  | nil => rfl
  | cons t ts ih =>
    simp only [List.filter_cons]
    have h1 := h t; have h2 := hd t
    cases hq : q t <;> cases hr : r t <;> simp [hq, hr] at h1 h2 <;> simp [h1, ih] <;> omega
theorem cntRung_succ (ts : List Turn) (r : Int) (g : Nat) : cntRung ts r ((g + 1 : Nat) : Int) = cntRung ts r (g : Int) + ((bitsOf (r, (g : Int)) ts).length : Int) := by
  unfold cntRung bitsOf
  rw [List.length_map]
  have := cnt_split (p := fun t => decide (t.row = r ∧ 0 ≤ t.rung ∧ t.rung < ((g + 1 : Nat) : Int))) (q := fun t => decide (t.row = r ∧ 0 ≤ t.rung ∧ t.rung < (g : Int))) (r := fun t => decide ((t.row, t.rung) = (r, (g : Int)))) ts
    (fun t => by rw [Bool.eq_iff_iff]; simp; omega) (fun t => by simp; omega)
  omega
theorem cntRows_succ (ts : List Turn) (r : Nat) : cntRows ts ((r + 1 : Nat) : Int) = cntRows ts (r : Int) + cntRung ts (r : Int) 2 := by
  unfold cntRung cntRows
  have := cnt_split (p := fun t => decide (0 ≤ t.row ∧ t.row < ((r + 1 : Nat) : Int) ∧ 0 ≤ t.rung ∧ t.rung < 2)) (q := fun t => decide (0 ≤ t.row ∧ t.row < (r : Int) ∧ 0 ≤ t.rung ∧ t.rung < 2)) (r := fun t => decide (t.row = (r : Int) ∧ 0 ≤ t.rung ∧ t.rung < 2)) ts
    (fun t => by rw [Bool.eq_iff_iff]; simp; omega) (fun t => by simp; omega)
  omega
theorem cntRung_le (ts : List Turn) (r g : Int) : 0 ≤ cntRung ts r g ∧ cntRung ts r g ≤ (ts.length : Int) := by
  unfold cntRung
  have := List.length_filter_le (fun t : Turn => decide (t.row = r ∧ 0 ≤ t.rung ∧ t.rung < g)) ts
  omega
theorem cntRows_le (ts : List Turn) (r : Int) : 0 ≤ cntRows ts r ∧ cntRows ts r ≤ (ts.length : Int) := by
  unfold cntRows
  have := List.length_filter_le (fun t : Turn => decide (0 ≤ t.row ∧ t.row < r ∧ 0 ≤ t.rung ∧ t.rung < 2)) ts
  omega
theorem turns_in {s : Script} (h : rightB plainG s = true) : ∀ t ∈ s.turns, 0 ≤ t.row ∧ t.row ≤ 15 ∧ 0 ≤ t.rung ∧ t.rung ≤ 1 := by
  unfold rightB at h
  simp only [Bool.and_eq_true, Bool.not_eq_true', Bool.or_eq_false_iff] at h
  obtain ⟨⟨⟨⟨_, _, h1⟩, _⟩, _⟩, _⟩ := h
  intro t ht
  rw [List.any_eq_false] at h1
  have hb : badTurn plainG t = false := by simpa using h1 t ht
  unfold badTurn withinB at hb
  simp only [Bool.or_eq_false_iff, Bool.not_eq_false', decide_eq_true_eq] at hb
  have e1 : plainG.blocks * plainG.pages - 1 = 15 := rfl
  have e2 : plainG.rungs - 1 = 1 := rfl
  rw [e1, e2] at hb
  omega
theorem cntRows_all {s : Script} (h : rightB plainG s = true) : cntRows s.turns 16 = (s.turns.length : Int) := by
  unfold cntRows
  have : (s.turns.filter fun t => decide (0 ≤ t.row ∧ t.row < 16 ∧ 0 ≤ t.rung ∧ t.rung < 2)) = s.turns := by
    rw [List.filter_eq_self]
    intro t ht
    have := turns_in h t ht
    simp; omega
  rw [this]
theorem bitsOf_out {s : Script} (h : rightB plainG s = true) {r g : Int} (ho : r < 0 ∨ 15 < r) : bitsOf (r, g) s.turns = [] := by
  unfold bitsOf
  have : (s.turns.filter fun t => decide ((t.row, t.rung) = (r, g))) = [] := by
    rw [List.filter_eq_nil_iff]
    intro t ht
    have := turns_in h t ht
    simp; omega
  rw [this]; rfl
def foundB (ts : List Turn) (r g b : Int) : Bool := ts.any fun x => decide (x = ⟨r, g, b⟩)
theorem found_all {ts : List Turn} {r g : Int} {j : Nat} (h : j < (bitsOf (r, g) ts).length) : foundB ts r g ((bitsOf (r, g) ts).getD j 0) = true := by
  have hm : (bitsOf (r, g) ts).getD j 0 ∈ bitsOf (r, g) ts := getD_mem h
  generalize (bitsOf (r, g) ts).getD j 0 = X at hm
  unfold bitsOf at hm
  obtain ⟨t, ht, hb⟩ := List.mem_map.1 hm
  obtain ⟨h1, h2⟩ := List.mem_filter.1 ht
  simp at h2
  unfold foundB
  rw [List.any_eq_true]
  refine ⟨t, h1, ?_⟩
  obtain ⟨a, b, c⟩ := t
  simp_all
theorem found_not {ts : List Turn} {r g b : Int} {m : Nat} (hm : ts.length ≤ m) (h : (!foundB (ts.take m) r g b) = true) : ¬ foundB ts r g b = true := by
  rw [List.take_of_length_le hm] at h
  simpa using h
theorem found_true {ts : List Turn} {r g b : Int} {m : Nat} (hm : m < ts.length) (h : foundB (ts.take m) r g b = true) : true = foundB (ts.take (m + 1)) r g b := by
  unfold foundB at *
  rw [List.take_succ_eq_append_getElem hm, List.any_append, h]; rfl
theorem found_next {ts : List Turn} {r g b : Int} {m : Nat} (hm : m < ts.length) (h : foundB (ts.take m) r g b = false) : decide ([(ts.getD m default).row, (ts.getD m default).rung, (ts.getD m default).bit] = [r, g, b]) = foundB (ts.take (m + 1)) r g b := by
  have e : ts.getD m default = ts[m] := by simp [hm]
  unfold foundB at *
  rw [List.take_succ_eq_append_getElem hm, List.any_append, h, e]
  obtain ⟨x, y, z⟩ := ts[m]
  simp
end Sv
