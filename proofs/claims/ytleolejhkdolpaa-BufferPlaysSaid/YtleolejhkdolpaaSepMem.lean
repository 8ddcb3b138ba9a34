/- Rules for the operations that touch memory. -/
import Derived.Test.YtleolejhkdolpaaSepOps
namespace Sv
open Go Go.RowKit
variable {W0 : World} {L : List HProp} {w : World} {P : Program} {N : Nat} {K : Env → World → Prop} {g : Option (Nat × Bool)} {e : Env} {d : Nat} {ty : TypeId} {pos : String} {af : Array Edge}

theorem addr_add (b o n : Nat) : (⟨b, o, none⟩ : Addr).add n = ⟨b, o + n, none⟩ := by
  unfold Addr.add; split <;> simp_all
/-! ## Loads -/
theorem run_loadCellsFrom {b o : Nat} : ∀ (vs : List Value) (i : Nat) (acc : Array Value), Rdn w b (o + i) vs → (loadCellsFrom ⟨b, o, none⟩ i vs.length acc).run P w = .ok (acc ++ vs.toArray) w := by
  intro vs
  induction vs with
  | nil => intro i acc _; simp [loadCellsFrom]
  | cons v vs ih =>
    intro i acc h
    have h0 : w.cell? ⟨b, o + i, none⟩ = some v := by simpa using h 0 v rfl
    have h1 : Rdn w b (o + (i + 1)) vs := fun j u hj => by
      have := h (j + 1) u (by simpa using hj)
      rwa [show o + i + (j + 1) = o + (i + 1) + j by omega] at this
    simp [loadCellsFrom, addr_add, h0, ih (i + 1) (acc.push v) h1]
theorem run_loadS {t : TypeId} {b o : Nat} {v : Value} (ht : scalarT P t = true) (hc : w.cell? ⟨b, o, none⟩ = some v) : (loadVar t ⟨b, o, none⟩).run P w = .ok v w := by
  simp [loadVar, run_isAgg_false ht, hc]
theorem run_loadA {t : TypeId} {b o : Nat} {vs : List Value} (ht : aggT P t = true) (hs : sizeT P t = some vs.length) (hc : Rdn w b o vs) : (loadVar t ⟨b, o, none⟩).run P w = .ok (.agg vs.toArray) w := by
  simp [loadVar, run_isAgg_true ht, run_sizeOf hs, loadCells, run_loadCellsFrom (P := P) vs 0 #[] hc]
theorem OP.loadS {t : TypeId} {x : Operand} {b o : Nat} (v : Value) (ht : scalarT P t = true) (hx : evalE e x = .pointer (some ⟨b, o, none⟩)) (hc : w.cell? ⟨b, o, none⟩ = some v) (hd : d < N) (k : K (upd e d v) w) : OPw P N ⟨some d, .load t x, ty, pos, af, g⟩ K e w :=
  OP.val hd (by simp [execOp, hx, Instr.loadAt, Instr.sureAddr, run_loadS ht hc]) k
theorem OP.loadA {t : TypeId} {x : Operand} {b o : Nat} (vs : List Value) (ht : aggT P t = true) (hs : sizeT P t = some vs.length) (hx : evalE e x = .pointer (some ⟨b, o, none⟩)) (hc : Rdn w b o vs) (hd : d < N) (k : K (upd e d (.agg vs.toArray)) w) : OPw P N ⟨some d, .load t x, ty, pos, af, g⟩ K e w :=
  OP.val hd (by simp [execOp, hx, Instr.loadAt, Instr.sureAddr, run_loadA ht hs hc]) k

/-! ## Stores into an owned block -/
def putAt : List Value → Nat → List Value → List Value
  | l, _, [] => l
  | l, o, v :: vs => putAt (l.set o v) (o + 1) vs
theorem putAt_length (vs : List Value) : ∀ (l : List Value) (o : Nat), (putAt l o vs).length = l.length := by
  induction vs with
  | nil => intro l o; rfl
  | cons v vs ih => intro l o; simp [putAt, ih]
theorem run_storeCells {b o T : Nat} : ∀ (vs : List Value) (i : Nat) (l : List Value) (w : World), (∀ v ∈ vs, v.oneCell' = true) → o + i + vs.length ≤ l.length → sat W0 (blk b l T :: L) w →
    ∃ w', (storeCells ⟨b, o, none⟩ vs i).run P w = .ok () w' ∧ sat W0 (blk b (putAt l (o + i) vs) T :: L) w' := by
  intro vs
  induction vs with
  | nil => intro i l w _ _ hs; exact ⟨w, by simp [storeCells], hs⟩
  | cons v vs ih =>
    intro i l w hone hlen hs
    simp only [List.length_cons] at hlen
    have hlt : o + i < l.length := by omega
    have hh := (sat_pts_heap hs).2
    have hc : w.cell? ⟨b, o + i, none⟩ = some (l[o + i]) := cell_of_heap hh (List.getElem?_eq_getElem hlt)
    have hf : w.frozen? ⟨b, o + i, none⟩ = false := by simp [World.frozen?, hh]
    obtain ⟨w', hr, hs'⟩ := ih (i + 1) (l.set (o + i) v) _ (fun u hu => hone u (by simp [hu])) (by simp; omega) (sat_setCell (o := o + i) (v := v) hs)
    refine ⟨w', ?_, by simpa [putAt, Nat.add_assoc] using hs'⟩
    simp only [storeCells, addr_add, Sem.run_bind, run_store P w _ v .plain (hone v (by simp)), hc, hf]
    simpa using hr
theorem OP.store {t : TypeId} {x y : Operand} {b o T n : Nat} {l : List Value} (v : Value) (vs : List Value) (hs : sat W0 (blk b l T :: L) w) (hx : evalE e x = .pointer (some ⟨b, o, none⟩)) (hy : evalE e y = v) (hv : v.cells = vs.toArray) (hn : sizeT P t = some n) (hvn : vs.length = n) (hone : vs.all Value.oneCell' = true) (hlen : o + vs.length ≤ l.length)
    (k : ∀ w', sat W0 (blk b (putAt l o vs) T :: L) w' → K e w') : OPw P N ⟨none, .store t x y, ty, pos, af, g⟩ K e w := by
  obtain ⟨w', hr, hs'⟩ := run_storeCells (P := P) vs 0 l w (fun u hu => List.all_eq_true.1 hone u hu) (by omega) hs
  refine OP.skip ?_ (k w' (by simpa using hs'))
  subst hvn
  simp [execOp, hx, hy, Instr.storeAt, Instr.sureAddr, storeVar, hv, run_sizeOf hn, hr]

/-! ## New blocks -/
theorem OP.new {o : Op} {O : Obj} (V : Nat → Value) (hs : sat W0 L w) (hrun : (execOp (evalE e) ⟨some d, o, ty, pos, af, g⟩).run P w = .ok (.value (V w.heap.size)) (w.alloc O)) (hd : d < N)
    (k : ∀ b w', sat W0 (pts b O :: L) w' → K (upd e d (V b)) w') : OPw P N ⟨some d, o, ty, pos, af, g⟩ K e w :=
  OP.val hd hrun (k _ _ (sat_new O hs))
theorem OP.box {T : TypeId} {x : Operand} (v : Value) (vs : List Value) (hs : sat W0 L w) (hx : evalE e x = v) (hv : v.cells = vs.toArray) (hd : d < N)
    (k : ∀ b w', sat W0 (blk b vs T :: L) w' → K (upd e d (.pointer (some ⟨b, 0, none⟩))) w') : OPw P N ⟨some d, .box T x, ty, pos, af, g⟩ K e w :=
  OP.new (fun b => .pointer (some ⟨b, 0, none⟩)) hs (by simp [execOp, hx, Instr.box, newVar, newRow, hv]) hd k
theorem OP.alloc {T : TypeId} (v : Value) (vs : List Value) (hs : sat W0 L w) (hz : zeroT P T = some v) (hv : v.cells = vs.toArray) (hd : d < N)
    (k : ∀ b w', sat W0 (blk b vs T :: L) w' → K (upd e d (.pointer (some ⟨b, 0, none⟩))) w') : OPw P N ⟨some d, .alloc T, ty, pos, af, g⟩ K e w :=
  OP.new (fun b => .pointer (some ⟨b, 0, none⟩)) hs (by simp [execOp, Instr.alloc, run_zeroValue hz, newVar, newRow, hv]) hd k
theorem OP.makeMap {T : TypeId} (hs : sat W0 L w) (hd : d < N)
    (k : ∀ b w', sat W0 (pts b (.map #[] 0) :: L) w' → K (upd e d (.map (some b))) w') : OPw P N ⟨some d, .makeMap T none, ty, pos, af, g⟩ K e w :=
  OP.new (fun b => .map (some b)) hs (by simp [execOp, Instr.makeMap]) hd k
/-- a struct or array value is built: the closed run -/
theorem arr_map {α β : Type} {xs : Array α} {f : α → β} {ys : List β} (h : xs.toList.map f = ys) : xs.map f = ys.toArray := by
  apply Array.toList_inj.1; simp [h]
theorem OP.build {T : TypeId} {parts : Array (Nat × Operand)} (ps : List (Nat × Value)) (vs : List Value) (hp : parts.toList.map (fun p => (p.1, evalE e p.2)) = ps) (hrun : (Instr.build T ps.toArray).run P w = .ok (.agg vs.toArray) w) (hd : d < N)
    (k : K (upd e d (.agg vs.toArray)) w) : OPw P N ⟨some d, .build T parts, ty, pos, af, g⟩ K e w :=
  OP.val hd (by have hp' := arr_map hp; simp only [execOp, hp', Sem.run_bind, hrun, Result.andThen_ok, Sem.run_pure]) k
theorem OP.buildSlice {T el n : Nat} {parts : Array (Nat × Operand)} (ps : List (Nat × Value)) (vs : List Value) (hs : sat W0 L w) (hp : parts.toList.map (fun p => (p.1, evalE e p.2)) = ps)
    (hrun : ∀ w, (Instr.buildSlice T n ps.toArray).run P w = .ok (.slice (some ⟨w.heap.size, 0, none⟩) n n) (w.alloc (.cells vs.toArray el (0, 0)))) (hd : d < N)
    (k : ∀ b w', sat W0 (blk b vs el :: L) w' → K (upd e d (.slice (some ⟨b, 0, none⟩) n n)) w') : OPw P N ⟨some d, .buildSlice T n parts, ty, pos, af, g⟩ K e w :=
  OP.new (fun b => .slice (some ⟨b, 0, none⟩) n n) hs (by have hp' := arr_map hp; simp only [execOp, hp', Sem.run_bind, hrun, Result.andThen_ok, Sem.run_pure]) hd k

/-! ## Addresses -/
/-- where a field of a struct lies (its type not of no cells) -/
def fieldOff (P : Program) (t : TypeId) (i : Nat) : Option Nat := match P.underlying t with
  | some (.struct fs) => (fs[i]?).bind fun f => match sizeT P f.type with
    | some 0 | none => none
    | some _ => some f.offset
  | _ => none
theorem fieldOff_some {t : TypeId} {i o : Nat} (h : fieldOff P t i = some o) : ∃ fs f n, P.underlying t = some (.struct fs) ∧ fs[i]? = some f ∧ f.offset = o ∧ sizeT P f.type = some (n + 1) := by
  unfold fieldOff at h
  split at h
  · rename_i fs hu
    cases hf : fs[i]? with
    | none => rw [hf] at h; cases h
    | some f =>
      rw [hf] at h
      cases hz : sizeT P f.type with
      | none => simp [hz] at h
      | some m =>
        cases m with
        | zero => simp [hz] at h
        | succ n => simp [hz] at h; exact ⟨fs, f, n, hu, hf, h, hz⟩
  · cases h
theorem run_fieldAt {t : TypeId} {i o b p : Nat} (h : fieldOff P t i = some o) (w : World) : (Instr.fieldAt t (.pointer (some ⟨b, p, none⟩)) i).run P w = .ok (.pointer (some ⟨b, p + o, none⟩)) w := by
  obtain ⟨fs, f, n, hu, hf, ho, hn⟩ := fieldOff_some h
  simp [Instr.fieldAt, run_underlying hu, hf, Instr.sureAddr, fieldPlace, run_sizeOf hn, ho, addr_add]
theorem OP.fieldAddr {t : TypeId} {x : Operand} {i o b p : Nat} (q : Nat) (h : fieldOff P t i = some o) (hx : evalE e x = .pointer (some ⟨b, p, none⟩)) (hq : p + o = q) (hd : d < N) (k : K (upd e d (.pointer (some ⟨b, q, none⟩))) w) : OPw P N ⟨some d, .fieldAddr t x i, ty, pos, af, g⟩ K e w :=
  OP.val hd (by subst hq; simp [execOp, hx, run_fieldAt h]) k
theorem OP.field {t : TypeId} {x : Operand} {i : Nat} {cs : Array Value} (v : Value) (hx : evalE e x = .agg cs) (hrun : (Instr.field t (.agg cs) i).run P w = .ok v w) (hd : d < N) (k : K (upd e d v) w) : OPw P N ⟨some d, .field t x i, ty, pos, af, g⟩ K e w :=
  OP.val hd (by simp [execOp, hx, hrun]) k
theorem run_indexAt {t el b o n c sz : Nat} {kd : IntKind} {i : Nat} (ht : P.underlying t = some (.slice el)) (hsz : sizeT P el = some sz) (hi : i < n) (w : World) : (Instr.indexAt t (.slice (some ⟨b, o, none⟩) n c) (.int kd (i : Int))).run P w = .ok (.pointer (some ⟨b, o + i * sz, none⟩)) w := by
  have h1 : (0 : Int) ≤ (i : Int) ∧ (i : Int) < (n : Int) := by omega
  simp [Instr.indexAt, asIntOf, run_underlying ht, run_sizeOf hsz, addr_add, hi]
/-- an element of a slice, its index a Nat -/
theorem OP.indexAddr {t el b o n c sz : Nat} {x y : Operand} {kd : IntKind} {j : Int} (i : Nat) (ht : P.underlying t = some (.slice el)) (hsz : sizeT P el = some sz) (hx : evalE e x = .slice (some ⟨b, o, none⟩) n c) (hy : evalE e y = .int kd j) (hj : j = (i : Int)) (hi : i < n) (hd : d < N)
    (k : K (upd e d (.pointer (some ⟨b, o + i * sz, none⟩))) w) : OPw P N ⟨some d, .indexAddr t x y, ty, pos, af, g⟩ K e w :=
  OP.val hd (by subst hj; simp [execOp, hx, hy, run_indexAt ht hsz hi]) k
/-- an element of an array behind its address -/
theorem OP.indexAddrA {t el b o n sz : Nat} {x y : Operand} {kd : IntKind} {j : Int} (i : Nat) (ht : P.underlying t = some (.array n el)) (hsz : sizeT P el = some sz) (hx : evalE e x = .pointer (some ⟨b, o, none⟩)) (hy : evalE e y = .int kd j) (hj : j = (i : Int)) (hi : i < n) (hd : d < N)
    (k : K (upd e d (.pointer (some ⟨b, o + i * sz, none⟩))) w) : OPw P N ⟨some d, .indexAddr t x y, ty, pos, af, g⟩ K e w :=
  OP.val hd (by
    subst hj
    simp [execOp, hx, hy, Instr.indexAt, asIntOf, run_underlying ht, run_sizeOf hsz, addr_add, hi, Instr.sureAddr]) k
/-- an element of an array value, by a whole run -/
theorem OP.index {t : TypeId} {x y : Operand} {cs : Array Value} {n el : Nat} {kd : IntKind} {j : Int} (i : Nat) (v : Value) (ht : P.underlying t = some (.array n el)) (hsc : scalarT P el = true) (hsz : sizeT P el = some 1) (hx : evalE e x = .agg cs) (hy : evalE e y = .int kd j) (hj : j = (i : Int)) (hi : i < n) (hv : cs[i]? = some v) (hd : d < N) (k : K (upd e d v) w) : OPw P N ⟨some d, .index t x y, ty, pos, af, g⟩ K e w :=
  OP.val hd (by
    subst hj
    simp [execOp, hx, hy, Instr.index, asIntOf, run_underlying ht, run_sizeOf hsz, hi, part, run_isAgg_false hsc, hv]) k

/-! ## Slices -/
theorem OP.len {t el : TypeId} {x : Operand} {at' : Array TypeId} {a : Option Addr} {n c : Nat} (ht : P.underlying t = some (.slice el)) (hat : at' = #[t]) (hx : evalE e x = .slice a n c) (hd : d < N) (k : K (upd e d (.int .i64 (n : Int))) w) : OPw P N ⟨some d, .call ⟨.builtin .len, #[x], at'⟩, ty, pos, af, g⟩ K e w :=
  OP.val hd (by subst hat; simp [execOp, hx, resolve, invoke, builtin, Builtin.len_, run_underlying ht, goInt]) k
theorem OP.maxI {x y : Operand} {at' : Array TypeId} {kd : IntKind} {a b : Int} (c : Int) (hx : evalE e x = .int kd a) (hy : evalE e y = .int kd b) (hc : max a b = c) (hd : d < N) (k : K (upd e d (.int kd c)) w) : OPw P N ⟨some d, .call ⟨.builtin .max, #[x, y], at'⟩, ty, pos, af, g⟩ K e w :=
  OP.val hd (by
    have h : (if a < b then b else a) = c := by subst hc; split <;> omega
    have h' : (if b > a then b else a) = c := h
    simp [execOp, hx, hy, resolve, invoke, builtin, Builtin.max_, Builtin.max2, h]) k
theorem OP.minI {x y : Operand} {at' : Array TypeId} {kd : IntKind} {a b : Int} (c : Int) (hx : evalE e x = .int kd a) (hy : evalE e y = .int kd b) (hc : min a b = c) (hd : d < N) (k : K (upd e d (.int kd c)) w) : OPw P N ⟨some d, .call ⟨.builtin .min, #[x, y], at'⟩, ty, pos, af, g⟩ K e w :=
  OP.val hd (by
    have h : (if b < a then b else a) = c := by subst hc; split <;> omega
    simp [execOp, hx, hy, resolve, invoke, builtin, Builtin.min_, Builtin.min2, h]) k
/-- where a slice of a slice begins -/
def subAddr (a : Option Addr) (m l sz : Nat) : Option Addr := if m = l then a else a.map (·.add (l * sz))
theorem OP.slice {t el sz : Nat} {x : Operand} {lo hi : Option Operand} {a : Option Addr} {n c : Nat} (l h : Nat) (ht : P.underlying t = some (.slice el)) (hsz : sizeT P el = some sz) (hx : evalE e x = .slice a n c)
    (hlo : match lo with | some y => ∃ kd, evalE e y = .int kd (l : Int) | none => l = 0) (hhi : match hi with | some y => ∃ kd, evalE e y = .int kd (h : Int) | none => h = n) (hl : l ≤ h) (hh : h ≤ c) (hd : d < N)
    (k : K (upd e d (.slice (subAddr a c l sz) (h - l) (c - l))) w) : OPw P N ⟨some d, .slice t x lo hi none, ty, pos, af, g⟩ K e w :=
  OP.val hd (by
    cases lo with
    | none =>
      cases hi with
      | none =>
        simp only at hlo hhi; subst hlo; subst hhi
        simp [execOp, hx, Instr.sliceAt, Instr.slice, run_underlying ht, run_sizeOf hsz, Instr.sliceBounds, subAddr]
      | some y =>
        simp only at hlo; subst hlo; obtain ⟨kd, hy⟩ := hhi
        simp [execOp, hx, hy, Instr.sliceAt, Instr.slice, run_underlying ht, run_sizeOf hsz, Instr.sliceBounds, Instr.sliceBound, asIntOf, subAddr, hh]
    | some z =>
      obtain ⟨kd, hz⟩ := hlo
      cases hi with
      | none =>
        simp only at hhi; subst hhi
        simp [execOp, hx, hz, Instr.sliceAt, Instr.slice, run_underlying ht, run_sizeOf hsz, Instr.sliceBounds, Instr.sliceBound, asIntOf, subAddr, hl]
      | some y =>
        obtain ⟨kd', hy⟩ := hhi
        simp [execOp, hx, hz, hy, Instr.sliceAt, Instr.slice, run_underlying ht, run_sizeOf hsz, Instr.sliceBounds, Instr.sliceBound, asIntOf, subAddr, hl, hh]) k

/-! ## Calls of Go functions -/
def goFunc (P : Program) (f : FuncId) : Bool := match P.funcs[f]? with
  | some fn => fn.name != "runtime.NumGoroutine" && fn.body.isSome
  | none => false
theorem run_callFunc {f : FuncId} {args : Array Value} (h : goFunc P f = true) (w : World) : (callFunc f args).run P w = .ok (.enter f args) w := by
  unfold goFunc at h
  cases hf : P.funcs[f]? with
  | none => simp [hf] at h
  | some fn =>
    simp [hf] at h
    obtain ⟨h1, h2⟩ := h
    have h3 : fn.body ≠ none := by cases hb : fn.body <;> simp [hb] at h2 ⊢
    simp [callFunc, hf, h1, h3]
theorem OP.call {f : FuncId} {xs : Array Operand} {at' : Array TypeId} {R : Ending → World → Prop} (vs : List Value) (hf : goFunc P f = true) (hx' : xs.toList.map (evalE e) = vs) (hd : d < N) (hc : Calls P f vs.toArray w R)
    (k : ∀ x w', R x w' → ∃ v, x = .returned v ∧ K (upd e d v) w') : OPw P N ⟨some d, .call ⟨.value (.func f), xs, at'⟩, ty, pos, af, g⟩ K e w :=
  OP.enter hd (by have hx := arr_map hx'; simp [execOp, hx, resolve, Deferred.ofValue, evalE, invoke, run_callFunc hf]) (hc.mono k)
/-- a function value is called -/
theorem OP.callV {f : FuncId} {y : Operand} {cap : List Value} {xs : Array Operand} {at' : Array TypeId} {R : Ending → World → Prop} (vs : List Value) (hy : evalE e y = .func (.func f) #[] cap.toArray) (hf : goFunc P f = true) (hx' : xs.toList.map (evalE e) = vs) (hd : d < N) (hc : Calls P f (vs ++ cap).toArray w R)
    (k : ∀ x w', R x w' → ∃ v, x = .returned v ∧ K (upd e d v) w') : OPw P N ⟨some d, .call ⟨.value y, xs, at'⟩, ty, pos, af, g⟩ K e w :=
  OP.enter hd (by have hx := arr_map hx'; simp [execOp, hx, hy, resolve, Deferred.ofValue, invoke, run_callFunc hf]) (hc.mono k)
end Sv
