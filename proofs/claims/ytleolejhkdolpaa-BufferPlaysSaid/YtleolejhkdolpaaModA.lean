/- What small functions of the program compute: geometry, lists. Plain, no program in sight. -/
import Derived.Test.YtleolejhkdolpaaSepMore
namespace Sv
open Go Go.RowKit
structure Geom where
  planes : Int
  blocks : Int
  pages : Int
  chunks : Int
  chunk : Int
  rungs : Int
  partials : Int
  deriving Inhabited
def encGeom (g : Geom) : List Value := [.int .i64 g.planes, .int .i64 g.blocks, .int .i64 g.pages, .int .i64 g.chunks, .int .i64 g.chunk, .int .i64 g.rungs, .int .i64 g.partials]
structure Geom.Ok (g : Geom) : Prop where
  planes : 1 ≤ g.planes ∧ g.planes ≤ 4
  blocks : 2 ≤ g.blocks ∧ g.blocks ≤ 256
  pages : 4 ≤ g.pages ∧ g.pages ≤ 64
  chunks : 1 ≤ g.chunks ∧ g.chunks ≤ 16
  chunk : 4 ≤ g.chunk ∧ g.chunk ≤ 512
  rungs : 1 ≤ g.rungs ∧ g.rungs ≤ 8
  partials : 1 ≤ g.partials ∧ g.partials ≤ 8
  div : g.blocks % g.planes = 0
  even : g.pages % 2 = 0
instance (g : Geom) : Decidable g.Ok :=
  if h : (1 ≤ g.planes ∧ g.planes ≤ 4) ∧ (2 ≤ g.blocks ∧ g.blocks ≤ 256) ∧ (4 ≤ g.pages ∧ g.pages ≤ 64) ∧ (1 ≤ g.chunks ∧ g.chunks ≤ 16) ∧ (4 ≤ g.chunk ∧ g.chunk ≤ 512) ∧ (1 ≤ g.rungs ∧ g.rungs ≤ 8) ∧ (1 ≤ g.partials ∧ g.partials ≤ 8) ∧ g.blocks % g.planes = 0 ∧ g.pages % 2 = 0 then
    .isTrue ⟨h.1, h.2.1, h.2.2.1, h.2.2.2.1, h.2.2.2.2.1, h.2.2.2.2.2.1, h.2.2.2.2.2.2.1, h.2.2.2.2.2.2.2.1, h.2.2.2.2.2.2.2.2⟩
  else .isFalse fun k => h ⟨k.1, k.2, k.3, k.4, k.5, k.6, k.7, k.8, k.9⟩
/-- the error of geom.Check -/
def checkE (g : Geom) : Int := if g.Ok then 0 else 2
theorem checkE_bad {g : Geom} (h : ¬ g.Ok) : 2 = checkE g := by simp [checkE, h]
theorem checkE_ok {g : Geom} (h : g.Ok) : 0 = checkE g := by simp [checkE, h]
theorem checkE_eq0 {g : Geom} (h : checkE g = 0) : g.Ok := by
  unfold checkE at h
  split at h
  · assumption
  · cases h
theorem checkE_ne0 {g : Geom} (h : checkE g ≠ 0) : ¬ g.Ok := fun k => h (by simp [checkE, k])
def rawN (g : Geom) : Int := if g.Ok then g.chunks * (g.chunk + 2) + 28 + 2 + 1 else 0
theorem mul_bound {a b A B : Int} (ha : 0 ≤ a) (hA : a ≤ A) (hb : 0 ≤ b) (hB : b ≤ B) : 0 ≤ a * b ∧ a * b ≤ A * B := by
  refine ⟨Int.mul_nonneg ha hb, ?_⟩
  have h1 : a * b ≤ A * b := Int.mul_le_mul_of_nonneg_right hA hb
  have h2 : A * b ≤ A * B := Int.mul_le_mul_of_nonneg_left hB (by omega)
  omega
theorem raw_bound {g : Geom} (h : g.Ok) : 37 ≤ rawN g ∧ rawN g ≤ 8255 := by
  have h1 := h.chunks; have h2 := h.chunk
  have h3 := mul_bound (a := g.chunks) (b := g.chunk + 2) (A := 16) (B := 514) (by omega) (by omega) (by omega) (by omega)
  have h4 : 1 * 6 ≤ g.chunks * (g.chunk + 2) := by
    have e1 : 1 * (g.chunk + 2) ≤ g.chunks * (g.chunk + 2) := Int.mul_le_mul_of_nonneg_right (by omega) (by omega)
    omega
  unfold rawN; rw [if_pos h]; omega
theorem rawN_bound (g : Geom) : 0 ≤ rawN g ∧ rawN g ≤ 8255 := by
  by_cases h : g.Ok
  · have := raw_bound h; omega
  · simp [rawN, h]
structure Turn where
  row : Int
  rung : Int
  bit : Int
  deriving DecidableEq, Inhabited
def encTurn (t : Turn) : List Value := [.int .i64 t.row, .int .i64 t.rung, .int .i64 t.bit]
def withinB (n lo hi : Int) : Bool := decide (lo ≤ n ∧ n ≤ hi)
/-! ## Lists -/
def idxI (xs : List Int) (v : Int) : Int := if v ∈ xs then (xs.idxOf v : Int) else -1
theorem idxI_ge {xs : List Int} {v : Int} : decide (idxI xs v ≥ 0) = decide (v ∈ xs) := by
  unfold idxI
  by_cases h : v ∈ xs <;> simp [h]
theorem getD_mem {α : Type} {xs : List α} {k : Nat} {d : α} (hk : k < xs.length) : xs.getD k d ∈ xs := by
  have e : xs.getD k d = xs[k] := by simp [hk]
  rw [e]; exact List.getElem_mem hk
theorem idx_next {xs : List Int} {v : Int} {k : Nat} (hk : k < xs.length) (h : v ∉ xs.take k) (hv : ¬ (v = xs.getD k 0)) : v ∉ xs.take (k + 1) := by
  have e : xs.getD k 0 = xs[k] := by simp [hk]
  rw [e] at hv
  rw [List.take_succ_eq_append_getElem hk]
  intro hm
  rcases List.mem_append.1 hm with hm | hm
  · exact h hm
  · exact hv (by simpa using hm)
theorem idx_hit {xs : List Int} {v : Int} {k : Nat} (hk : k < xs.length) (h : v ∉ xs.take k) (hv : v = xs.getD k 0) : (k : Int) = idxI xs v := by
  have e : xs.getD k 0 = xs[k] := by simp [hk]
  have hm : v ∈ xs := by rw [hv]; exact getD_mem hk
  unfold idxI
  rw [if_pos hm]
  have hs : xs = xs.take k ++ xs.drop k := (List.take_append_drop k xs).symm
  have h2 : xs.idxOf v = k := by
    rw [hs, List.idxOf_append, if_neg h, List.drop_eq_getElem_cons hk, ← e, ← hv, List.idxOf_cons_self]
    simp; omega
  rw [h2]
theorem idx_none {xs : List Int} {v : Int} {k : Nat} (hk : ¬ ((k : Int) < (xs.length : Int))) (hk' : k ≤ xs.length) (h : v ∉ xs.take k) : (-1 : Int) = idxI xs v := by
  have : k = xs.length := by omega
  subst this
  rw [List.take_length] at h
  unfold idxI
  rw [if_neg h]
/-- the first place at which a test is met; -1 -/
def findI {α : Type} (p : α → Bool) (xs : List α) : Int := match xs.findIdx? p with | some i => (i : Int) | none => -1
theorem findI_ge {α : Type} {p : α → Bool} {xs : List α} : decide (findI p xs ≥ 0) = xs.any p := by
  unfold findI
  cases h : xs.findIdx? p with
  | none =>
    have : xs.any p = false := by
      rw [List.findIdx?_eq_none_iff] at h
      simpa using h
    simp [this]
  | some i =>
    have : xs.any p = true := by
      rw [List.findIdx?_eq_some_iff_getElem] at h
      obtain ⟨h1, h2, _⟩ := h
      exact List.any_eq_true.2 ⟨_, List.getElem_mem h1, h2⟩
    simp [this]
theorem findI_next {α : Type} {p : α → Bool} {xs : List α} {k : Nat} {d : α} (hk : k < xs.length) (h : (xs.take k).any p = false) (hv : p (xs.getD k d) = false) : (xs.take (k + 1)).any p = false := by
  have e : xs.getD k d = xs[k] := by simp [hk]
  rw [e] at hv
  rw [List.take_succ_eq_append_getElem hk, List.any_append, h]
  simp [hv]
theorem findI_hit {α : Type} {p : α → Bool} {xs : List α} {k : Nat} {d : α} (hk : k < xs.length) (h : (xs.take k).any p = false) (hv : p (xs.getD k d) = true) : (k : Int) = findI p xs := by
  have e : xs.getD k d = xs[k] := by simp [hk]
  rw [e] at hv
  unfold findI
  have : xs.findIdx? p = some k := by
    rw [List.findIdx?_eq_some_iff_getElem]
    refine ⟨hk, hv, fun j hj => ?_⟩
    rw [List.any_eq_false] at h
    exact h _ (List.mem_iff_getElem.2 ⟨j, by simp; omega, by simp⟩)
  rw [this]
theorem findI_none {α : Type} {p : α → Bool} {xs : List α} {k : Nat} (hk : ¬ ((k : Int) < (xs.length : Int))) (hk' : k ≤ xs.length) (h : (xs.take k).any p = false) : (-1 : Int) = findI p xs := by
  have : k = xs.length := by omega
  subst this
  rw [List.take_length] at h
  unfold findI
  have : xs.findIdx? p = none := by
    rw [List.findIdx?_eq_none_iff]
    simpa using h
  rw [this]
theorem take_eq_next {xs ys : List Int} {k : Nat} (h1 : k < xs.length) (h2 : k < ys.length) (h : xs.take k = ys.take k) (hv : xs.getD k 0 = ys.getD k 0) : xs.take (k + 1) = ys.take (k + 1) := by
  have e1 : xs.getD k 0 = xs[k] := by simp [h1]
  have e2 : ys.getD k 0 = ys[k] := by simp [h2]
  rw [List.take_succ_eq_append_getElem h1, List.take_succ_eq_append_getElem h2, h, ← e1, ← e2, hv]
theorem take_eq_all {xs ys : List Int} {k : Nat} (h1 : xs.length ≤ k) (h2 : ys.length ≤ k) (h : xs.take k = ys.take k) : xs = ys := by
  rwa [List.take_of_length_le h1, List.take_of_length_le h2] at h
/-- numbers that rise, above last, up to high -/
def risingB (last high : Int) : List Int → Bool
  | [] => true
  | n :: r => decide (last < n ∧ n ≤ high) && risingB n high r
def lastOf (last : Int) : List Int → Int
  | [] => last
  | n :: r => lastOf n r
theorem rising_append {high : Int} : ∀ {xs ys : List Int} {last : Int}, risingB last high (xs ++ ys) = (risingB last high xs && risingB (lastOf last xs) high ys) := by
  intro xs
  induction xs with
  | nil => intro ys last; simp [risingB, lastOf]
  | cons x xs ih => intro ys last; simp [risingB, lastOf, ih, Bool.and_assoc]
theorem lastOf_snoc : ∀ {xs : List Int} {last x : Int}, lastOf last (xs ++ [x]) = x := by
  intro xs
  induction xs with
  | nil => intro last x; rfl
  | cons y xs ih => intro last x; simp [lastOf, ih]
theorem rising_next {xs : List Int} {k : Nat} {last high : Int} (hk : k < xs.length) (h : risingB last high (xs.take k) = true) (h1 : ¬ (xs.getD k 0 ≤ lastOf last (xs.take k))) (h2 : ¬ (xs.getD k 0 > high)) : risingB last high (xs.take (k + 1)) = true ∧ lastOf last (xs.take (k + 1)) = xs.getD k 0 := by
  have e : xs.getD k 0 = xs[k] := by simp [hk]
  rw [List.take_succ_eq_append_getElem hk, rising_append, lastOf_snoc, h, ← e]
  refine ⟨?_, rfl⟩
  simp only [risingB, Bool.true_and, Bool.and_true, decide_eq_true_eq]
  omega
theorem rising_stop {xs : List Int} {k : Nat} {last high : Int} (hk : k < xs.length) (h : xs.getD k 0 ≤ lastOf last (xs.take k) ∨ xs.getD k 0 > high) : risingB last high xs = false := by
  have e : xs.getD k 0 = xs[k] := by simp [hk]
  have hs : xs = xs.take k ++ xs.drop k := (List.take_append_drop k xs).symm
  rw [hs, rising_append, List.drop_eq_getElem_cons hk, ← e]
  have : decide (lastOf last (xs.take k) < xs.getD k 0 ∧ xs.getD k 0 ≤ high) = false := by
    simp only [decide_eq_false_iff_not]; omega
  simp only [risingB, this, Bool.false_and, Bool.and_false]
theorem rising_end {xs : List Int} {k : Nat} {last high : Int} (hk : ¬ ((k : Int) < (xs.length : Int))) (hk' : k ≤ xs.length) (h : risingB last high (xs.take k) = true) : risingB last high xs = true := by
  have : k = xs.length := by omega
  subst this
  rwa [List.take_length] at h
end Sv
