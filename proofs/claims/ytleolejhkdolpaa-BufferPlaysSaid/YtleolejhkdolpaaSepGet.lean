/- Parts of slices, read: the values of x[l:], x[:h] and x[l:h] as lists. -/
import Derived.Test.YtleolejhkdolpaaSepShare
import Derived.Test.YtleolejhkdolpaaSepMore
namespace Sv
open Go Go.RowKit
variable {W0 : World} {L : List HProp} {w : World}
/-- the base of x[:h] is that of x -/
abbrev takA (a : Option Addr) (_h : Nat) : Option Addr := a
theorem Ent_SLn {s : Bool} {sz n c : Nat} {a : Option Addr} {cs : List Value} : Ent W0 (SL s sz a n c cs) (fun _ => n ≤ c) := fun _ k => (sat_SL_len k).2
section
variable {xs : List Int} {kd : IntKind} {a : Option Addr} {c : Nat}
theorem Rd.subI (l h : Nat) (hr : Rd w 1 a xs.length (xs.map (Value.int kd))) (hlh : l ≤ h) (hh : h ≤ xs.length) (hnc : xs.length ≤ c) : Rd w 1 (subA a l 1 c) ((xs.drop l).take (h - l)).length (((xs.drop l).take (h - l)).map (Value.int kd)) := by
  have k := Rd.sub l h hr hlh hh hnc
  rw [Nat.mul_one, Nat.mul_one] at k
  have e : ((xs.drop l).take (h - l)).length = h - l := by simp; omega
  rw [e, List.map_take, List.map_drop]
  exact k
theorem Rd.dropI (l : Nat) (hr : Rd w 1 a xs.length (xs.map (Value.int kd))) (hl : l ≤ xs.length) (hnc : xs.length ≤ c) : Rd w 1 (subA a l 1 c) (xs.drop l).length ((xs.drop l).map (Value.int kd)) := by
  have k := Rd.subI l xs.length hr hl (Nat.le_refl _) hnc
  rwa [List.take_of_length_le (by simp)] at k
theorem Rd.takeI (h : Nat) (hr : Rd w 1 a xs.length (xs.map (Value.int kd))) (hh : h ≤ xs.length) : Rd w 1 (takA a h) (xs.take h).length ((xs.take h).map (Value.int kd)) := by
  have k := Rd.subI (c := xs.length) 0 h hr (by omega) hh (Nat.le_refl _)
  rwa [subA_zero, List.drop_zero, Nat.sub_zero] at k
end
section
variable {α : Type} {es : List α} {enc : α → List Value} {sz c : Nat} {a : Option Addr}
theorem recs_takeL (henc : ∀ x, (enc x).length = sz) (es : List α) (i : Nat) : (es.flatMap enc).take (i * sz) = (es.take i).flatMap enc := by
  have h1 : es.flatMap enc = (es.take i).flatMap enc ++ (es.drop i).flatMap enc := by rw [← List.flatMap_append, List.take_append_drop]
  rcases Nat.lt_or_ge i es.length with g | g
  · have hl : ((es.take i).flatMap enc).length = i * sz := by
      rw [recs_len henc, List.length_take, Nat.min_eq_left (by omega)]
    rw [h1, List.take_left' hl]
  · rw [List.take_of_length_le g, List.take_of_length_le]
    rw [recs_len henc]; exact Nat.mul_le_mul_right _ g
theorem Rd.subR (henc : ∀ x, (enc x).length = sz) (l h : Nat) (hr : Rd w sz a es.length (es.flatMap enc)) (hlh : l ≤ h) (hh : h ≤ es.length) (hnc : es.length ≤ c) : Rd w sz (subA a l sz c) ((es.drop l).take (h - l)).length (((es.drop l).take (h - l)).flatMap enc) := by
  have k := Rd.sub l h hr hlh hh hnc
  have e : ((es.drop l).take (h - l)).length = h - l := by simp; omega
  rw [e]
  rw [recs_drop henc, recs_takeL henc] at k
  exact k
theorem Rd.dropR (henc : ∀ x, (enc x).length = sz) (l : Nat) (hr : Rd w sz a es.length (es.flatMap enc)) (hl : l ≤ es.length) (hnc : es.length ≤ c) : Rd w sz (subA a l sz c) (es.drop l).length ((es.drop l).flatMap enc) := by
  have k := Rd.subR henc l es.length hr hl (Nat.le_refl _) hnc
  rwa [List.take_of_length_le (by simp)] at k
theorem Rd.takeR (henc : ∀ x, (enc x).length = sz) (h : Nat) (hr : Rd w sz a es.length (es.flatMap enc)) (hh : h ≤ es.length) : Rd w sz (takA a h) (es.take h).length ((es.take h).flatMap enc) := by
  have k := Rd.subR (c := es.length) henc 0 h hr (by omega) hh (Nat.le_refl _)
  rwa [subA_zero, List.drop_zero, Nat.sub_zero] at k
end
end Sv
