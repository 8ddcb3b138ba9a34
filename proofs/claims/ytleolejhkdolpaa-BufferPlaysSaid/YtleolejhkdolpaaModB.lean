/- Entries and what is done to a list of them (layer 29), in plain words. -/
import Derived.Test.YtleolejhkdolpaaModA
import Derived.Test.YtleolejhkdolpaaSepGet
namespace Sv
open Go Go.RowKit
structure BEnt where
  sector : Int
  kind : Int
  da : Option Addr
  dc : Nat
  data : List Int
instance : Inhabited BEnt := ⟨⟨0, 0, none, 0, []⟩⟩
def encB (x : BEnt) : List Value := [.int .i64 x.sector, .int .i64 x.kind, .slice x.da x.data.length x.dc]
abbrev AEnt := Int × Int × List Int
def absB (x : BEnt) : AEnt := (x.sector, x.kind, x.data)
def InD (D : List (Option Addr × List Int)) (xs : List BEnt) : Prop := ∀ x ∈ xs, (x.da, x.data) ∈ D
theorem InD.sub {D D' : List (Option Addr × List Int)} {xs : List BEnt} (h : InD D xs) (k : DSub D D') : InD D' xs := fun x hx => k _ (h x hx)
theorem InD.nil {D : List (Option Addr × List Int)} : InD D [] := fun _ h => by cases h
theorem InD.snoc {D : List (Option Addr × List Int)} {xs : List BEnt} {x : BEnt} (h : InD D xs) (hx : (x.da, x.data) ∈ D) : InD D (xs ++ [x]) := fun y hy => by
  rcases List.mem_append.1 hy with hy | hy
  · exact h y hy
  · rw [List.mem_singleton] at hy; subst hy; exact hx
theorem InD.set {D : List (Option Addr × List Int)} {xs : List BEnt} {i : Nat} {x : BEnt} (h : InD D xs) (hx : (x.da, x.data) ∈ D) : InD D (xs.set i x) := fun y hy => by
  rcases List.mem_or_eq_of_mem_set hy with hy | hy
  · exact h y hy
  · subst hy; exact hx
theorem InD.erase {D : List (Option Addr × List Int)} {xs : List BEnt} {i : Nat} (h : InD D xs) : InD D (xs.eraseIdx i) := fun y hy => h y (List.mem_of_mem_eraseIdx hy)
def rightA (size : Int) (x : AEnt) : Bool := decide (0 ≤ x.1 ∧ x.1 ≤ 2147483648) && (decide (x.2.1 = 1 ∧ (x.2.2.length : Int) = size) || decide (x.2.1 = 2 ∧ x.2.2.length = 0))
def findA (m : List AEnt) (s : Int) : Int := findI (fun x => decide (x.1 = s)) m
def putE (most size : Int) (m : List AEnt) (x : AEnt) : Int := if rightA size x = true then (if 0 ≤ findA m x.1 then 0 else if most ≤ (m.length : Int) then 3 else 0) else 2
def putM (most size : Int) (m : List AEnt) (x : AEnt) : List AEnt := if rightA size x = true then (if 0 ≤ findA m x.1 then m.set (findA m x.1).toNat x else if most ≤ (m.length : Int) then m else m ++ [x]) else m
def getM (m : List AEnt) (s : Int) : AEnt := if 0 ≤ findA m s then m.getD (findA m s).toNat (0, 0, []) else (0, 0, [])
def dropM (m : List AEnt) (ss : List Int) : List AEnt := m.filter fun x => !decide (x.1 ∈ ss)
theorem findI_map {α β : Type} {f : α → β} {p : β → Bool} {xs : List α} : findI (fun x => p (f x)) xs = findI p (xs.map f) := by
  unfold findI
  rw [List.findIdx?_map]
  rfl
theorem findI_range {α : Type} {p : α → Bool} {xs : List α} : -1 ≤ findI p xs ∧ findI p xs < (xs.length : Int) := by
  unfold findI
  cases h : xs.findIdx? p with
  | none => simp; omega
  | some i =>
    rw [List.findIdx?_eq_some_iff_getElem] at h
    obtain ⟨h, _⟩ := h
    simp only; omega
theorem findA_abs {xs : List BEnt} {m : List AEnt} {s : Int} (h : xs.map absB = m) : findI (fun x => decide (x.sector = s)) xs = findA m s := by
  subst h
  exact findI_map (f := absB) (p := fun x => decide (x.1 = s))
theorem findA_range {m : List AEnt} {s : Int} : -1 ≤ findA m s ∧ findA m s < (m.length : Int) := findI_range
theorem abs_len {xs : List BEnt} {m : List AEnt} (h : xs.map absB = m) : xs.length = m.length := by subst h; simp
theorem abs_set {xs : List BEnt} {m : List AEnt} {i : Nat} {x : BEnt} {y : AEnt} (h : xs.map absB = m) (hx : absB x = y) : (xs.set i x).map absB = m.set i y := by subst h; subst hx; rw [List.map_set]
theorem abs_snoc {xs : List BEnt} {m : List AEnt} {x : BEnt} {y : AEnt} (h : xs.map absB = m) (hx : absB x = y) : (xs ++ [x]).map absB = m ++ [y] := by subst h; subst hx; simp
theorem abs_getD {xs : List BEnt} {m : List AEnt} {i : Nat} (h : xs.map absB = m) : absB (xs.getD i default) = m.getD i (0, 0, []) := by
  subst h
  rw [List.getD_eq_getElem?_getD, List.getD_eq_getElem?_getD, List.getElem?_map]
  cases xs[i]? <;> rfl
theorem abs_take {xs : List BEnt} {m : List AEnt} {i : Nat} (h : xs.map absB = m) : (xs.take i).map absB = m.take i := by subst h; rw [List.map_take]
section
variable {most size : Int} {m : List AEnt} {x : AEnt}
theorem put_bad (h : (!rightA size x) = true) : putE most size m x = 2 ∧ putM most size m x = m := by
  have : rightA size x = false := by simpa using h
  simp [putE, putM, this]
theorem put_set (h : (!rightA size x) = false) (h2 : 0 ≤ findA m x.1) : putE most size m x = 0 ∧ putM most size m x = m.set (findA m x.1).toNat x := by
  have : rightA size x = true := by simpa using h
  simp [putE, putM, this, h2]
theorem put_full (h : (!rightA size x) = false) (h2 : ¬ 0 ≤ findA m x.1) (h3 : most ≤ (m.length : Int)) : putE most size m x = 3 ∧ putM most size m x = m := by
  have : rightA size x = true := by simpa using h
  simp [putE, putM, this, h2, h3]
theorem put_new (h : (!rightA size x) = false) (h2 : ¬ 0 ≤ findA m x.1) (h3 : ¬ most ≤ (m.length : Int)) : putE most size m x = 0 ∧ putM most size m x = m ++ [x] := by
  have : rightA size x = true := by simpa using h
  simp [putE, putM, this, h2, h3]
end
theorem recs_put {α : Type} [Inhabited α] {enc : α → List Value} {sz : Nat} (henc : ∀ x, (enc x).length = sz) {es : List α} {i : Nat} {x : α} (h : i < es.length) : putAt (es.flatMap enc) (i * sz) (enc x) = (es.set i x).flatMap enc := by
  have e : ∀ (vs : List Value) (A B C : List Value), B.length = vs.length → putAt (A ++ (B ++ C)) A.length vs = A ++ (vs ++ C) := by
    intro vs
    induction vs with
    | nil => intro A B C hB; have : B = [] := List.length_eq_zero_iff.1 hB; subst this; rfl
    | cons v vs ih =>
      intro A B C hB
      cases B with
      | nil => simp at hB
      | cons b B =>
        simp only [putAt]
        rw [List.set_append_right _ _ (Nat.le_refl _), Nat.sub_self, List.cons_append, List.set_cons_zero]
        have := ih (A ++ [v]) B C (by simpa using hB)
        simpa using this
  have h1 : es = es.take i ++ (es[i] :: es.drop (i + 1)) := by rw [List.getElem_cons_drop, List.take_append_drop]
  have h2 : es.set i x = es.take i ++ (x :: es.drop (i + 1)) := by rw [List.set_eq_take_append_cons_drop, if_pos h]
  rw [h2]
  have hl : ((es.take i).flatMap enc).length = i * sz := by
    have := recs_len henc (es.take i)
    rw [List.length_take, Nat.min_eq_left (by omega)] at this
    exact this
  have h3 : es.flatMap enc = (es.take i).flatMap enc ++ (enc es[i] ++ (es.drop (i + 1)).flatMap enc) := by
    conv => lhs; rw [h1]
    rw [List.flatMap_append, List.flatMap_cons]
  rw [h3, ← hl, e (enc x) _ _ _ (by rw [henc, henc]), List.flatMap_append, List.flatMap_cons]
theorem old_next {xs ys : List BEnt} {m : List AEnt} {k : Nat} {r : BEnt} (hm : xs.map absB = m) (hk : k < xs.length) (h : ys.map absB = m.take k) (hr : absB r = absB (xs.getD k default)) : (ys ++ [r]).map absB = m.take (k + 1) := by
  subst hm
  rw [List.map_append, h, List.take_add_one, List.getElem?_map, List.getElem?_eq_getElem hk]
  rw [List.getD_eq_getElem?_getD, List.getElem?_eq_getElem hk] at hr
  simp only [Option.getD_some] at hr
  simp [hr]
theorem old_end {ys : List BEnt} {m : List AEnt} {k : Nat} {n : Int} (h : ys.map absB = m.take k) (hk : k ≤ m.length) (hn : (k : Int) ≤ max n 0) (he : ¬ (k : Int) < min (max n 0) (m.length : Int)) : ys.map absB = m.take (max n 0).toNat := by
  rw [h]
  rcases Nat.lt_or_ge k m.length with g | g
  · rw [show (max n 0).toNat = k by omega]
  · rw [List.take_of_length_le g, List.take_of_length_le (by omega)]
/-- the first k of a list, with x at place i -/
def putR (xs : List BEnt) (x : BEnt) (i : Int) (k : Nat) : List BEnt := if 0 ≤ i then (xs.take k).set i.toNat x else xs.take k
theorem putR_zero {xs : List BEnt} {x : BEnt} {i : Int} : [] = putR xs x i 0 := by unfold putR; split <;> rfl
section
variable {xs ys : List BEnt} {x : BEnt} {i : Int} {k : Nat} {m : List AEnt} {D : List (Option Addr × List Int)}
theorem putR_len (h : ys = putR xs x i k) (hk : k ≤ xs.length) : ys.length = k := by
  subst h; unfold putR; split <;> simp <;> omega
theorem putR_hit (h : ys = putR xs x i k) (hk : k < xs.length) (hi : (k : Int) = i) : ys ++ [x] = putR xs x i (k + 1) := by
  subst h; subst hi
  have h0 : (0 : Int) ≤ (k : Int) := by omega
  simp only [putR, h0, if_true, Int.toNat_natCast]
  have hl : (xs.take k).length = k := by rw [List.length_take]; omega
  rw [List.set_eq_of_length_le (by omega), List.take_add_one, List.getElem?_eq_getElem hk, List.set_append_right _ _ (by omega), hl, Nat.sub_self]
  rfl
theorem putR_miss (h : ys = putR xs x i k) (hk : k < xs.length) (hi : ¬ (k : Int) = i) : ys ++ [xs.getD k default] = putR xs x i (k + 1) := by
  subst h
  rw [List.getD_eq_getElem?_getD, List.getElem?_eq_getElem hk, Option.getD_some]
  unfold putR
  rw [List.take_add_one, List.getElem?_eq_getElem hk]
  split
  · rcases Nat.lt_or_ge i.toNat k with g | g
    · rw [List.set_append_left _ _ (by simp; omega)]; rfl
    · rw [List.set_eq_of_length_le (by simp; omega), List.set_eq_of_length_le (by simp; omega)]; rfl
  · rfl
theorem putr_ind (h1 : InD D xs) (h2 : (x.da, x.data) ∈ D) (h : ys = putR xs x i k) : InD D ys := by
  subst h; unfold putR
  have ht : InD D (xs.take k) := fun y hy => h1 y (List.mem_of_mem_take hy)
  split
  · exact InD.set ht h2
  · exact ht
theorem putr_none (hm : xs.map absB = m) (h : ys = putR xs x i k) (hi : i < 0) (hk : xs.length ≤ k) : ys.map absB = m := by
  subst h; unfold putR
  rw [if_neg (by omega), List.take_of_length_le hk]; exact hm
theorem putr_some (hm : xs.map absB = m) (h : ys = putR xs x i k) (hi : 0 ≤ i) (hk : xs.length ≤ k) : ys.map absB = m.set i.toNat (absB x) := by
  subst h; unfold putR
  rw [if_pos hi, List.take_of_length_le hk]; exact abs_set hm rfl
end
theorem del_take {es : List BEnt} {i : Nat} : (es.flatMap encB).take (i * 3) = (es.take i).flatMap encB := by
  have h := recs_drop (enc := encB) (sz := 3) (fun _ => rfl) es i
  have h1 : es.flatMap encB = (es.take i).flatMap encB ++ (es.drop i).flatMap encB := by rw [← List.flatMap_append, List.take_append_drop]
  rcases Nat.lt_or_ge i es.length with g | g
  · have hl : ((es.take i).flatMap encB).length = i * 3 := by
      rw [recs_len (enc := encB) (sz := 3) (fun _ => rfl), List.length_take, Nat.min_eq_left (by omega)]
    rw [h1, List.take_left' hl]
  · rw [List.take_of_length_le g, List.take_of_length_le]
    rw [recs_len (enc := encB) (sz := 3) (fun _ => rfl)]; omega
theorem del_all {es : List BEnt} {i : Nat} (h : i < es.length) : (es.take i).flatMap encB ++ (es.drop (i + 1)).flatMap encB = (es.eraseIdx i).flatMap encB := by
  rw [← List.flatMap_append, List.eraseIdx_eq_take_drop_succ]
theorem one_ents {es : List BEnt} : ∀ v ∈ es.flatMap encB, v.oneCell' = true := fun v hv => by
  obtain ⟨x, _, hx⟩ := List.mem_flatMap.1 hv
  simp only [encB, List.mem_cons, List.not_mem_nil, or_false] at hx
  rcases hx with rfl | rfl | rfl <;> rfl
theorem dropM_snoc {m : List AEnt} {l : List Int} {v : Int} : dropM m (l ++ [v]) = (dropM m l).filter fun x => !decide (x.1 = v) := by
  unfold dropM
  rw [List.filter_filter]
  congr 1
  funext x
  by_cases h1 : x.1 ∈ l <;> by_cases h2 : x.1 = v <;> simp [h1, h2]
theorem find_none {m : List AEnt} {v : Int} (h : findA m v < 0) : ∀ x ∈ m, ¬ x.1 = v := by
  unfold findA findI at h
  cases hf : m.findIdx? (fun x => decide (x.1 = v)) with
  | none => rw [List.findIdx?_eq_none_iff] at hf; intro x hx; simpa using hf x hx
  | some i => rw [hf] at h; simp only at h; omega
theorem drop_miss {m : List AEnt} {l : List Int} {v : Int} (h : findA (dropM m l) v < 0) : dropM m (l ++ [v]) = dropM m l := by
  rw [dropM_snoc, List.filter_eq_self]
  intro x hx
  simpa using find_none h x hx
theorem erase_find {m : List AEnt} {v : Int} (hu : (m.map (·.1)).Nodup) (h : 0 ≤ findA m v) : m.eraseIdx (findA m v).toNat = m.filter fun x => !decide (x.1 = v) := by
  induction m with
  | nil => simp [findA, findI] at h
  | cons y m ih =>
    rw [List.map_cons, List.nodup_cons] at hu
    by_cases e : y.1 = v
    · have h0 : findA (y :: m) v = 0 := by simp [findA, findI, List.findIdx?_cons, e]
      rw [h0]
      simp only [Int.toNat_zero, List.eraseIdx_cons_zero, List.filter_cons, e, decide_true, Bool.not_true, Bool.false_eq_true, if_false]
      rw [eq_comm, List.filter_eq_self]
      intro x hx
      have : ¬ x.1 = v := fun e2 => hu.1 (by rw [e, ← e2]; exact List.mem_map_of_mem hx)
      simpa using this
    · have h1 : findA (y :: m) v = findA m v + 1 ∧ 0 ≤ findA m v := by
        unfold findA findI at h ⊢
        rw [List.findIdx?_cons] at h ⊢
        simp only [e, decide_false, Bool.false_eq_true, if_false] at h ⊢
        cases hf : m.findIdx? (fun x => decide (x.1 = v)) with
        | none => rw [hf] at h; simp at h
        | some i => simp
      obtain ⟨h1, h2⟩ := h1
      rw [h1, show (findA m v + 1).toNat = (findA m v).toNat + 1 by omega, List.eraseIdx_cons_succ, ih hu.2 h2, List.filter_cons]
      simp [e]
theorem drop_uniq {m : List AEnt} {l : List Int} (hu : (m.map (·.1)).Nodup) : ((dropM m l).map (·.1)).Nodup := by
  unfold dropM
  exact (List.filter_sublist.map _).nodup hu
theorem drop_hit {m : List AEnt} {l : List Int} {v : Int} (hu : (m.map (·.1)).Nodup) (h : 0 ≤ findA (dropM m l) v) : (dropM m l).eraseIdx (findA (dropM m l) v).toNat = dropM m (l ++ [v]) := by
  rw [erase_find (drop_uniq hu) h, dropM_snoc]
theorem take_snocI {l : List Int} {k : Nat} (h : k < l.length) : l.take (k + 1) = l.take k ++ [l.getD k 0] := by
  rw [List.take_add_one, List.getElem?_eq_getElem h, List.getD_eq_getElem?_getD, List.getElem?_eq_getElem h]; rfl
theorem abs_erase {xs : List BEnt} {m : List AEnt} {i : Nat} (h : xs.map absB = m) : (xs.eraseIdx i).map absB = m.eraseIdx i := by subst h; rw [List.eraseIdx_eq_take_drop_succ, List.eraseIdx_eq_take_drop_succ, List.map_append, List.map_take, List.map_drop]
/-- the first k of a list, but for those of the sectors named -/
def keepR (xs : List BEnt) (ss : List Int) (k : Nat) : List BEnt := (xs.take k).filter fun x => !decide (x.sector ∈ ss)
theorem named_hit {ss : List Int} {j : Nat} {v : Int} (h : j < ss.length) (e : ss.getD j 0 = v) : true = decide (v ∈ ss.take (j + 1)) := by
  rw [take_snocI h, e]; simp
theorem named_miss {ss : List Int} {j : Nat} {v : Int} (h : j < ss.length) (e : ¬ ss.getD j 0 = v) : decide (v ∈ ss.take j) = decide (v ∈ ss.take (j + 1)) := by
  have e' : ¬ v = ss.getD j 0 := fun h => e h.symm
  rw [take_snocI h]; simp only [List.mem_append, List.mem_singleton, e', or_false]
section
variable {xs ys : List BEnt} {ss : List Int} {k j : Nat} {m : List AEnt}
theorem keepR_hit (h : ys = keepR xs ss k) (hk : k < xs.length) (hj : ¬ ((j : Int) < (ss.length : Int))) (hn : (xs.getD k default).sector ∈ ss.take j) : ys = keepR xs ss (k + 1) := by
  rw [List.take_of_length_le (by omega)] at hn
  subst h
  unfold keepR
  rw [List.take_add_one, List.getElem?_eq_getElem hk, List.filter_append]
  rw [List.getD_eq_getElem?_getD, List.getElem?_eq_getElem hk, Option.getD_some] at hn
  simp [hn]
theorem keepR_miss (h : ys = keepR xs ss k) (hk : k < xs.length) (hj : ¬ ((j : Int) < (ss.length : Int))) (hn : ¬ (xs.getD k default).sector ∈ ss.take j) : ys ++ [xs.getD k default] = keepR xs ss (k + 1) := by
  rw [List.take_of_length_le (by omega)] at hn
  subst h
  unfold keepR
  rw [List.take_add_one, List.getElem?_eq_getElem hk, List.filter_append]
  rw [List.getD_eq_getElem?_getD, List.getElem?_eq_getElem hk, Option.getD_some] at hn ⊢
  simp [hn]
theorem keepR_sub (h : ys = keepR xs ss k) : ∀ y ∈ ys, y ∈ xs := by
  subst h; unfold keepR
  exact fun y hy => List.mem_of_mem_take (List.mem_filter.1 hy).1
theorem keepR_len (h : ys = keepR xs ss k) : ys.length ≤ xs.length := by
  subst h; unfold keepR
  exact Nat.le_trans (List.length_filter_le ..) (by simp; omega)
theorem keepR_end (hm : xs.map absB = m) (h : ys = keepR xs ss k) (hk : xs.length ≤ k) : ys.map absB = dropM m ss := by
  subst h; subst hm; unfold keepR dropM
  rw [List.take_of_length_le hk, List.filter_map]
  rfl
end
theorem same_next {xs ys : List BEnt} {k : Nat} (hx : k < xs.length) (hy : k < ys.length) (h : (xs.take k).map absB = (ys.take k).map absB) (h1 : (xs.getD k default).sector = (ys.getD k default).sector) (h2 : (xs.getD k default).kind = (ys.getD k default).kind) (h3 : (xs.getD k default).data = (ys.getD k default).data) : (xs.take (k + 1)).map absB = (ys.take (k + 1)).map absB := by
  rw [List.take_add_one, List.take_add_one, List.map_append, List.map_append, h]
  rw [List.getD_eq_getElem?_getD, List.getD_eq_getElem?_getD] at h1 h2 h3
  rw [List.getElem?_eq_getElem hx, List.getElem?_eq_getElem hy] at h1 h2 h3 ⊢
  simp only [Option.getD_some] at h1 h2 h3
  simp [absB, h1, h2, h3]
theorem same_all {xs ys : List BEnt} {k : Nat} (hx : xs.length ≤ k) (hy : ys.length ≤ k) (h : (xs.take k).map absB = (ys.take k).map absB) : xs.map absB = ys.map absB := by
  rwa [List.take_of_length_le hx, List.take_of_length_le hy] at h
theorem same_not {xs ys : List BEnt} {k : Nat} (hx : k < xs.length) (hy : k < ys.length) (h : ¬ ((xs.getD k default).sector = (ys.getD k default).sector ∧ (xs.getD k default).kind = (ys.getD k default).kind ∧ (xs.getD k default).data = (ys.getD k default).data)) : ¬ xs.map absB = ys.map absB := fun e => by
  apply h
  have e1 : (xs.map absB)[k]? = (ys.map absB)[k]? := by rw [e]
  rw [List.getElem?_map, List.getElem?_map, List.getElem?_eq_getElem hx, List.getElem?_eq_getElem hy] at e1
  rw [List.getD_eq_getElem?_getD, List.getD_eq_getElem?_getD, List.getElem?_eq_getElem hx, List.getElem?_eq_getElem hy]
  simpa [absB] using e1
theorem same_len {xs ys : List BEnt} (h : ¬ xs.length = ys.length) : ¬ xs.map absB = ys.map absB := fun e => h (by have := congrArg List.length e; simpa using this)
/-! ### What the law of layer 29 plays -/
theorem abs_datl {xs : List BEnt} {m : List AEnt} {n : Nat} (hm : xs.map absB = m) (h : ∀ y ∈ m, y.2.2.length ≤ n) : ∀ x ∈ xs, x.data.length ≤ n := fun x hx => by
  subst hm
  exact h (absB x) (List.mem_map_of_mem hx)
structure OkM (most : Int) (m : List AEnt) : Prop where
  pos : 0 < most
  big : most ≤ 1024
  len : (m.length : Int) ≤ most
  uniq : (m.map (·.1)).Nodup
  dat : ∀ y ∈ m, y.2.2.length ≤ 200
theorem findA_not {m : List AEnt} {s : Int} (h : ¬ 0 ≤ findA m s) : s ∉ m.map (·.1) := by
  intro hs
  obtain ⟨y, hy, e⟩ := List.mem_map.1 hs
  unfold findA findI at h
  cases hf : m.findIdx? (fun x => decide (x.1 = s)) with
  | none => rw [List.findIdx?_eq_none_iff] at hf; have := hf y hy; simp [e] at this
  | some i => rw [hf] at h; simp at h
theorem findA_at {m : List AEnt} {s : Int} (h : 0 ≤ findA m s) : (m.getD (findA m s).toNat (0, 0, [])).1 = s ∧ (findA m s).toNat < m.length := by
  unfold findA findI at h ⊢
  cases hf : m.findIdx? (fun x => decide (x.1 = s)) with
  | none => rw [hf] at h; simp at h
  | some i =>
    rw [List.findIdx?_eq_some_iff_getElem] at hf
    obtain ⟨hi, h1, _⟩ := hf
    simp only [Int.toNat_natCast]
    refine ⟨?_, hi⟩
    rw [List.getD_eq_getElem?_getD, List.getElem?_eq_getElem hi]
    simpa using h1
theorem OkM.nil {most : Int} (h1 : 0 < most) (h2 : most ≤ 1024) : OkM most [] := ⟨h1, h2, by simp; omega, by simp, fun _ h => by cases h⟩
theorem OkM.put {most size : Int} {m : List AEnt} {x : AEnt} (h : OkM most m) (hx : x.2.2.length ≤ 200) : OkM most (putM most size m x) := by
  unfold putM
  split
  · split
    · rename_i hf
      obtain ⟨h1, h2⟩ := findA_at hf
      refine ⟨h.pos, h.big, by rw [List.length_set]; exact h.len, ?_, fun y hy => ?_⟩
      · have e : (m.set (findA m x.1).toNat x).map (·.1) = m.map (·.1) := by
          rw [List.map_set]
          apply List.ext_getElem? 
          intro j
          rw [List.getElem?_set]
          split
          · rename_i hj
            subst hj
            rw [List.getD_eq_getElem?_getD, List.getElem?_eq_getElem h2] at h1
            rw [List.length_map, if_pos h2, List.getElem?_map, List.getElem?_eq_getElem h2]
            simpa using h1.symm
          · rfl
        rw [e]; exact h.uniq
      · rcases List.mem_or_eq_of_mem_set hy with hy | hy
        · exact h.dat y hy
        · subst hy; exact hx
    · split
      · exact h
      · rename_i hf hl
        refine ⟨h.pos, h.big, by simp; omega, ?_, fun y hy => ?_⟩
        · rw [List.map_append, List.nodup_append]
          refine ⟨h.uniq, by simp, fun a ha b hb => ?_⟩
          simp at hb; subst hb
          exact fun e => findA_not hf (e ▸ ha)
        · rcases List.mem_append.1 hy with hy | hy
          · exact h.dat y hy
          · rw [List.mem_singleton] at hy; subst hy; exact hx
  · exact h
theorem OkM.drop {most : Int} {m : List AEnt} {ss : List Int} (h : OkM most m) : OkM most (dropM m ss) :=
  ⟨h.pos, h.big, by have := h.len; have : (dropM m ss).length ≤ m.length := List.length_filter_le ..; omega, drop_uniq h.uniq, fun y hy => h.dat y (List.mem_filter.1 hy).1⟩
structure BDo where
  kind : Int
  e : BEnt
  la : Option Addr
  lc : Nat
  l : List Int
instance : Inhabited BDo := ⟨⟨0, default, none, 0, []⟩⟩
def encDo (d : BDo) : List Value := [.int .i64 d.kind, .int .i64 d.e.sector, .int .i64 d.e.kind, .slice d.e.da d.e.data.length d.e.dc, .slice d.la d.l.length d.lc]
def doD (ds : List BDo) : List (Option Addr × List Int) := ds.map fun d => (d.e.da, d.e.data)
def DoR (W0 : World) (ds : List BDo) : Prop := ∀ d ∈ ds, ROs W0 1 d.e.da d.e.data.length (datB d.e.data) ∧ ROs W0 1 d.la d.l.length (d.l.map (Value.int .i64))
theorem doD_ro {W0 : World} {ds : List BDo} (h : DoR W0 ds) : ∀ x ∈ doD ds, ROs W0 1 x.1 x.2.length (datB x.2) := fun x hx => by
  obtain ⟨d, hd, rfl⟩ := List.mem_map.1 hx
  exact (h d hd).1
theorem doD_mem {ds : List BDo} {d : BDo} (h : d ∈ ds) : (d.e.da, d.e.data) ∈ doD ds := List.mem_map.2 ⟨d, h, rfl⟩
theorem InD.one {D : List (Option Addr × List Int)} {x : BEnt} (hx : (x.da, x.data) ∈ D) : InD D [x] := fun y hy => by
  rw [List.mem_singleton] at hy; subst hy; exact hx
theorem InD.part {D : List (Option Addr × List Int)} {xs : List BEnt} {l h : Nat} (k : InD D xs) : InD D ((xs.drop l).take h) := fun y hy => k y (List.mem_of_mem_drop (List.mem_of_mem_take hy))
theorem InD.take {D : List (Option Addr × List Int)} {xs : List BEnt} {h : Nat} (k : InD D xs) : InD D (xs.take h) := fun y hy => k y (List.mem_of_mem_take hy)
theorem InD.of {D : List (Option Addr × List Int)} {xs ys : List BEnt} (k : InD D xs) (h : ∀ y ∈ ys, y ∈ xs) : InD D ys := fun y hy => k y (h y hy)
theorem lens_part {xs : List BEnt} {l h n : Nat} (k : ∀ x ∈ xs, x.data.length ≤ n) : ∀ x ∈ (xs.drop l).take h, x.data.length ≤ n := fun y hy => k y (List.mem_of_mem_drop (List.mem_of_mem_take hy))
theorem lens_take {xs : List BEnt} {h n : Nat} (k : ∀ x ∈ xs, x.data.length ≤ n) : ∀ x ∈ xs.take h, x.data.length ≤ n := fun y hy => k y (List.mem_of_mem_take hy)
theorem lens_one {x : BEnt} {n : Nat} (k : x.data.length ≤ n) : ∀ y ∈ [x], y.data.length ≤ n := fun y hy => by
  rw [List.mem_singleton] at hy; subst hy; exact k
theorem get_same {xs ys : List BEnt} {m : List AEnt} {i : Nat} {r : BEnt} (hm : xs.map absB = m) (hym : ys.map absB = m) (hi : i < xs.length) (hr : absB r = absB (xs.getD i default)) : [r].map absB = ((ys.drop i).take (i + 1 - i)).map absB := by
  have hl := (abs_len hm).trans (abs_len hym).symm
  have e : (xs.map absB)[i]? = (ys.map absB)[i]? := by rw [hm, hym]
  rw [List.getElem?_map, List.getElem?_map, List.getElem?_eq_getElem hi, List.getElem?_eq_getElem (hl ▸ hi)] at e
  rw [List.getD_eq_getElem?_getD, List.getElem?_eq_getElem hi, Option.getD_some] at hr
  simp only [Option.map_some, Option.some.injEq] at e
  rw [show i + 1 - i = 1 by omega, List.drop_eq_getElem_cons (hl ▸ hi), List.take_succ_cons, List.take_zero, List.map_singleton, List.map_singleton, hr, e]
theorem old_same {zs ys : List BEnt} {m : List AEnt} {n : Int} (h : zs.map absB = m.take (max n 0).toNat) (hy : ys.map absB = m) : zs.map absB = (ys.take (min (max n 0) (ys.length : Int)).toNat).map absB := by
  rw [h, List.map_take, hy, abs_len hy]
  rcases Int.le_total (max n 0) (m.length : Int) with g | g
  · rw [Int.min_eq_left g]
  · rw [Int.min_eq_right g, List.take_of_length_le (by omega), List.take_of_length_le (by omega)]
theorem old_all {zs ys : List BEnt} {m : List AEnt} (h : zs.map absB = m.take (max ((ys.length : Nat) : Int) 0).toNat) (hy : ys.map absB = m) : zs.map absB = ys.map absB := by
  rw [h, List.take_of_length_le (by rw [abs_len hy]; omega), hy]
end Sv
