/- Small lemmas that the printed walks use. -/
import Derived.Test.YtleolejhkdolpaaSepAppend
namespace Sv
open Go Go.RowKit
variable {W0 : World} {L : List HProp} {w : World} {P : Program} {N : Nat} {K : Env → World → Prop} {g : Option (Nat × Bool)} {e : Env} {d : Nat} {ty : TypeId} {pos : String} {af : Array Edge}
theorem Rd_nil {sz : Nat} : Rd w sz none 0 [] := ⟨by simp, fun h => absurd h (by omega)⟩
theorem ints_get {kd : IntKind} {xs : List Int} {i : Nat} (h : i < xs.length) : (xs.map (Value.int kd))[i * 1]? = some (.int kd (xs.getD i 0)) := by
  simp [h]
theorem ints_put {kd : IntKind} {xs : List Int} {i : Nat} {v : Int} : putAt (xs.map (Value.int kd)) (i * 1) [.int kd v] = (xs.set i v).map (Value.int kd) := by
  simp [putAt, List.map_set]
theorem recs_len {α : Type} {enc : α → List Value} {sz : Nat} (henc : ∀ x, (enc x).length = sz) (es : List α) : (es.flatMap enc).length = es.length * sz := by
  induction es with
  | nil => simp
  | cons x es ih => simp [List.flatMap_cons, henc, ih, Nat.add_mul, Nat.add_comm]
theorem recs_drop {α : Type} {enc : α → List Value} {sz : Nat} (henc : ∀ x, (enc x).length = sz) : ∀ (es : List α) (i : Nat), (es.flatMap enc).drop (i * sz) = (es.drop i).flatMap enc := by
  intro es
  induction es with
  | nil => intro i; simp
  | cons x es ih =>
    intro i
    cases i with
    | zero => simp
    | succ i =>
      rw [List.flatMap_cons, List.drop_succ_cons, ← ih i, Nat.succ_mul, Nat.add_comm, ← List.drop_drop]
      rw [List.drop_left' (henc x)]
theorem recs_take {α : Type} [Inhabited α] {enc : α → List Value} {sz : Nat} (henc : ∀ x, (enc x).length = sz) {es : List α} {i : Nat} (h : i < es.length) : ((es.flatMap enc).drop (i * sz)).take (enc (es.getD i default)).length = enc (es.getD i default) := by
  rw [recs_drop henc, List.drop_eq_getElem_cons h, List.flatMap_cons]
  have : es.getD i default = es[i] := by simp [h]
  rw [this, List.take_left']
  rfl
theorem recs_get {α : Type} [Inhabited α] {enc : α → List Value} {sz : Nat} (henc : ∀ x, (enc x).length = sz) {es : List α} {i o : Nat} {v : Value} (h : i < es.length) (hv : (enc (es.getD i default))[o]? = some v) : (es.flatMap enc)[i * sz + o]? = some v := by
  have ho : o < (enc (es.getD i default)).length := by
    rcases Nat.lt_or_ge o (enc (es.getD i default)).length with h | h
    · exact h
    · rw [List.getElem?_eq_none h] at hv; cases hv
  have h1 := recs_take henc h
  rw [← h1, List.getElem?_take, if_pos ho, List.getElem?_drop] at hv
  exact hv
theorem OP.indexAddrA' {t el b o n sz : Nat} {x y : Operand} {kd : IntKind} {j : Int} (i q : Nat) (ht : P.underlying t = some (.array n el)) (hsz : sizeT P el = some sz) (hx : evalE e x = .pointer (some ⟨b, o, none⟩)) (hy : evalE e y = .int kd j) (hj : j = (i : Int)) (hi : i < n) (hq : o + i * sz = q) (hd : d < N)
    (k : K (upd e d (.pointer (some ⟨b, q, none⟩))) w) : OPw P N ⟨some d, .indexAddr t x y, ty, pos, af, g⟩ K e w := by
  subst hq
  exact OP.indexAddrA i ht hsz hx hy hj hi hd k
theorem OP.call0 {f : FuncId} {xs : Array Operand} {at' : Array TypeId} {R : Ending → World → Prop} (vs : List Value) (hf : goFunc P f = true) (hx' : xs.toList.map (evalE e) = vs) (hc : Calls P f vs.toArray w R)
    (k : ∀ x w', R x w' → ∃ v, x = .returned v ∧ K e w') : OPw P N ⟨none, .call ⟨.value (.func f), xs, at'⟩, ty, pos, af, g⟩ K e w :=
  OP.enter0 (by have hx := arr_map hx'; simp [execOp, hx, resolve, Deferred.ofValue, evalE, invoke, run_callFunc hf]) (hc.mono k)
theorem rd_nil_of {xs : List Int} {kd : IntKind} {a : Option Addr} (h : Rd w 1 a xs.length (xs.map (Value.int kd))) (ha : a.isNone = true) : xs = [] := by
  rcases Nat.eq_zero_or_pos xs.length with h0 | h0
  · exact List.length_eq_zero_iff.1 h0
  · obtain ⟨b, o, hs⟩ := h.some h0
    rw [hs] at ha; simp at ha
theorem one_ints {kd : IntKind} {xs : List Int} : ∀ v ∈ xs.map (Value.int kd), v.oneCell' = true := by
  intro v hv
  obtain ⟨x, _, rfl⟩ := List.mem_map.1 hv
  rfl
theorem rdn_cell {b o : Nat} {vs : List Value} {v : Value} (h : Rdn w b 0 vs) (hv : vs[o]? = some v) : w.cell? ⟨b, o, none⟩ = some v := by
  have := h o v hv
  rwa [Nat.zero_add] at this
theorem rdn_part {b o : Nat} {vs us : List Value} (h : Rdn w b 0 vs) (hv : (vs.drop o).take us.length = us) : Rdn w b o us := by
  intro j v hj
  have hlt : j < us.length := by
    rcases Nat.lt_or_ge j us.length with h | h
    · exact h
    · rw [List.getElem?_eq_none h] at hj; cases hj
  rw [← hv, List.getElem?_take, if_pos hlt, List.getElem?_drop] at hj
  exact rdn_cell h hj
theorem Ent_blk {b T : Nat} {l : List Value} : Ent W0 (blk b l T) (fun w => Rdn w b 0 l) := fun w k j v hj => by
  have := (sat_pts_heap k).2
  exact cell_of_heap this (by simpa using hj)
theorem OP.indexS {t el sz n c : Nat} {a : Option Addr} {x y : Operand} {kd : IntKind} {j : Int} (i : Nat) (ha : ∃ b o, a = some ⟨b, o, none⟩) (ht : P.underlying t = some (.slice el)) (hsz : sizeT P el = some sz) (hx : evalE e x = .slice a n c) (hy : evalE e y = .int kd j) (hj : j = (i : Int)) (hi : i < n) (hd : d < N)
    (k : K (upd e d (.pointer (some (adr a (i * sz))))) w) : OPw P N ⟨some d, .indexAddr t x y, ty, pos, af, g⟩ K e w := by
  obtain ⟨b, o, rfl⟩ := ha
  exact OP.indexAddr i ht hsz hx hy hj hi hd k
end Sv
