/- What the arguments of a law hold, out of the reading of data. -/
import Derived.Test.YtleolejhkdolpaaModC
import Derived.Deep.Slices
import Derived.Deep.Fields
import Derived.ChangeSame
import Derived.ProofKit
import Derived.SizedLaws
namespace Sv
open Go Go.RowKit Go.ChangeShapes Go.WideShapes Go.Deep
theorem exists_list {α : Type} {p : Nat → α → Prop} : ∀ (n : Nat), (∀ i, i < n → ∃ x, p i x) → ∃ xs : List α, xs.length = n ∧ ∀ i x, xs[i]? = some x → p i x := by
  intro n
  induction n with
  | zero => intro _; exact ⟨[], rfl, fun i x h => by simp at h⟩
  | succ n ih =>
    intro h
    obtain ⟨xs, h1, h2⟩ := ih (fun i hi => h i (by omega))
    obtain ⟨x, hx⟩ := h n (by omega)
    refine ⟨xs ++ [x], by simp [h1], fun i y hy => ?_⟩
    rcases Nat.lt_or_ge i xs.length with g | g
    · rw [List.getElem?_append_left g] at hy; exact h2 i y hy
    · rw [List.getElem?_append_right g] at hy
      cases hz : i - xs.length with
      | zero => rw [hz] at hy; simp at hy; subst hy; have : i = n := by omega
                subst this; exact hx
      | succ m => rw [hz] at hy; simp at hy
section
variable {H : Type} {enc : TypeId × Value → H} {P : Program} {w : World}
theorem cell_lt {p : Addr} {v : Value} (h : w.cell? p = some v) : p.block < w.heap.size := by
  unfold World.cell? at h
  rcases Nat.lt_or_ge p.block w.heap.size with g | g
  · exact g
  · rw [Array.getElem?_eq_none g] at h; simp at h
theorem dec_slice {α : Type} {t e sz fuel : Nat} {v : Value} {y : DataW H × List MemPlace} (enc' : α → List Value) (good : α → Prop) (ht : P.underlying t = some (.slice e)) (hC : P.cellsOf e = sz) (hsz : 0 < sz) (henc : ∀ x, (enc' x).length = sz)
    (dec : ∀ (n : Nat) (z : DataW H × List MemPlace) (cs : List Value), DataW.trod enc P w 0 (fun _ => true) true n e cs = some z → ∃ x, cs = enc' x ∧ good x)
    (h : DataW.trod enc P w 0 (fun _ => true) true fuel t [v] = some y) : ∃ (a : Option Addr) (cap : Nat) (xs : List α), v = .slice a xs.length cap ∧ xs.length ≤ 9223372036854775807 ∧ ROs w sz a xs.length (xs.flatMap enc') ∧ ∀ x ∈ xs, good x := by
  rcases open_slice ht h with ⟨hcs, _⟩ | ⟨a, len, cap, m, n, D, Pl, hcs, _, hl, hm, hmm, _, hi⟩
  · simp at hcs
    exact ⟨none, 0, [], hcs, by simp, ⟨by simp, fun h => absurd h (by simp)⟩, fun x h => by cases h⟩
  · simp at hcs
    simp only [if_true] at hmm
    unfold maxLen at hm
    obtain ⟨xs, h1, h2⟩ := exists_list (p := fun i x => w.cells? 0 (a.add (i * sz)) sz = some (enc' x) ∧ good x) len (fun i hlt => by
      obtain ⟨cs', g1, g2⟩ := hi i (by omega)
      obtain ⟨x, hx, hg⟩ := dec _ _ _ g2
      rw [hC] at g1
      exact ⟨x, by rw [← hx]; exact g1, hg⟩)
    have hsp : ∀ i x, xs[i]? = some x → ∀ r u, (enc' x)[r]? = some u → w.cell? (a.add (i * sz + r)) = some u := by
      intro i x hx r u hr
      obtain ⟨_, g2, g3⟩ := World.cells?_some (h2 i x hx).1
      have hr' : r < sz := by
        rcases Nat.lt_or_ge r sz with g | g
        · exact g
        · rw [List.getElem?_eq_none (by rw [henc]; exact g)] at hr; cases hr
      have := g3 r hr'
      rw [← Go.Deep.add_add, this, hr]
    refine ⟨some a, cap, xs, by rw [h1]; exact hcs, by omega, ⟨recs_len henc xs, fun hpos => ?_⟩, fun x hx => ?_⟩
    · have hx0 : xs[0]? = some xs[0] := List.getElem?_eq_getElem hpos
      have hu0 : (enc' xs[0])[0]? = some ((enc' xs[0])[0]'(by rw [henc]; exact hsz)) := List.getElem?_eq_getElem _
      have c0 := hsp 0 _ hx0 0 _ hu0
      have hz : a.add (0 * sz + 0) = a := by simp [Addr.add]
      rw [hz] at c0
      have hs := World.cell?_spot c0
      obtain ⟨b, o, sp⟩ := a
      simp only at hs
      subst hs
      refine ⟨b, o, rfl, cell_lt c0, fun j u hj => ?_⟩
      have hj' : j < xs.length * sz := by
        rcases Nat.lt_or_ge j (xs.flatMap enc').length with g | g
        · rwa [recs_len henc] at g
        · rw [List.getElem?_eq_none g] at hj; cases hj
      have hji : j / sz < xs.length := (Nat.div_lt_iff_lt_mul hsz).2 hj'
      have hjr : j % sz < sz := Nat.mod_lt _ hsz
      have hjj : j / sz * sz + j % sz = j := by rw [Nat.mul_comm]; exact Nat.div_add_mod j sz
      have hxj : xs[j / sz]? = some xs[j / sz] := List.getElem?_eq_getElem hji
      have hd : (xs.flatMap enc')[j / sz * sz + j % sz]? = (enc' xs[j / sz])[j % sz]? := by
        rw [← List.getElem?_drop, recs_drop henc, List.drop_eq_getElem_cons hji, List.flatMap_cons, List.getElem?_append_left (by rw [henc]; exact hjr)]
      rw [← hjj, hd] at hj
      have := hsp (j / sz) _ hxj (j % sz) u hj
      rw [hjj, addr_add] at this
      exact this
    · obtain ⟨i, hi', rfl⟩ := List.mem_iff_getElem.1 hx
      exact (h2 i _ (List.getElem?_eq_getElem hi')).2
theorem flat_one {α : Type} {f : α → Value} (xs : List α) : xs.flatMap (fun x => [f x]) = xs.map f := by
  induction xs with
  | nil => rfl
  | cons x xs ih => simp [List.flatMap_cons, ih]
theorem dec_int {t n : Nat} {k : IntKind} {cs : List Value} {z : DataW H × List MemPlace} (ht : P.underlying t = some (.int k)) (h : DataW.trod enc P w 0 (fun _ => true) true n t cs = some z) : ∃ x : Int, cs = [.int k x] ∧ k.min ≤ x ∧ x ≤ k.max := by
  cases n with
  | zero => simp [DataW.trod] at h
  | succ n =>
    unfold DataW.trod at h
    rw [ht] at h
    split at h <;> simp_all [Lit.wf]
theorem dec_ints {t e fuel : Nat} {k : IntKind} {v : Value} {y : DataW H × List MemPlace} (ht : P.underlying t = some (.slice e)) (he : P.underlying e = some (.int k)) (hC : P.cellsOf e = 1) (h : DataW.trod enc P w 0 (fun _ => true) true fuel t [v] = some y) :
    ∃ (a : Option Addr) (cap : Nat) (xs : List Int), v = .slice a xs.length cap ∧ xs.length ≤ 9223372036854775807 ∧ ROs w 1 a xs.length (xs.map (Value.int k)) ∧ ∀ x ∈ xs, k.min ≤ x ∧ x ≤ k.max := by
  obtain ⟨a, cap, xs, h1, h2, h3, h4⟩ := dec_slice (fun x : Int => [Value.int k x]) (fun x => k.min ≤ x ∧ x ≤ k.max) ht hC (by omega) (fun _ => rfl) (fun n z cs hz => dec_int he hz) h
  exact ⟨a, cap, xs, h1, h2, by rw [flat_one] at h3; exact h3, h4⟩
end
end Sv
