/- Maps: an owned map block as a list of rows (key, value, stamp). -/
import Derived.Test.YtleolejhkdolpaaSepMore
namespace Sv
open Go Go.RowKit
variable {W0 : World} {L : List HProp} {w : World} {P : Program} {N : Nat} {K : Env → World → Prop} {g : Option (Nat × Bool)} {e : Env} {d : Nat} {ty : TypeId} {pos : String} {af : Array Edge}
abbrev MRow (κ : Type) := κ × Value × Nat
def mkE {κ : Type} (kenc : κ → Value) (r : MRow κ) : MapEntry := ⟨kenc r.1, r.2.1, r.2.2⟩
/-- block r is a map of these rows -/
def MP {κ : Type} (kenc : κ → Value) (r : Nat) (rows : List (MRow κ)) (clk : Nat) : HProp := pts r (.map (rows.map (mkE kenc)).toArray clk)
def findRow {κ : Type} [DecidableEq κ] (k : κ) : List (MRow κ) → Nat → Option (Nat × Value)
  | [], _ => none
  | r :: rs, i => if k = r.1 then some (i, r.2.1) else findRow k rs (i + 1)
/-- what is known of a key's type -/
structure KeyK (P : Program) (kt : TypeId) {κ : Type} [DecidableEq κ] (kenc : κ → Value) : Prop where
  check : ∀ b k w, (Instr.checkKey b 10000 kt (kenc k)).run P w = .ok () w
  find : ∀ k (rows : List (MRow κ)) w, (Instr.findKey kt (kenc k) (rows.map (mkE kenc))).run P w = .ok (findRow k rows 0) w
  stays : ∀ k, Instr.sameBits 10000 (kenc k) (kenc k) = true
theorem findRow_shift {κ : Type} [DecidableEq κ] {k : κ} : ∀ {rows : List (MRow κ)} {i : Nat}, findRow k rows i = (findRow k rows 0).map fun x => (x.1 + i, x.2) := by
  intro rows
  induction rows with
  | nil => intro i; rfl
  | cons r rs ih =>
    intro i
    simp only [findRow]
    split
    · simp
    · rw [ih (i := i + 1), ih (i := 0 + 1)]
      cases findRow k rs 0 <;> simp; omega
theorem findRow_none {κ : Type} [DecidableEq κ] {k : κ} : ∀ {rows : List (MRow κ)} {i : Nat}, findRow k rows i = none ↔ ∀ r ∈ rows, k ≠ r.1 := by
  intro rows
  induction rows with
  | nil => intro i; simp [findRow]
  | cons r rs ih =>
    intro i
    simp only [findRow]
    split
    · rename_i h; simp [h]
    · rename_i h; simp [ih, h]
theorem findRow_some {κ : Type} [DecidableEq κ] {k : κ} : ∀ {rows : List (MRow κ)} {i : Nat} {v : Value}, findRow k rows 0 = some (i, v) → ∃ r, rows[i]? = some r ∧ r.1 = k ∧ r.2.1 = v ∧ ∀ j r', j < i → rows[j]? = some r' → r'.1 ≠ k := by
  intro rows
  induction rows with
  | nil => intro i v h; cases h
  | cons r rs ih =>
    intro i v h
    simp only [findRow] at h
    split at h
    · rename_i hk; cases h; exact ⟨r, rfl, hk.symm, rfl, fun j _ hj => by omega⟩
    · rename_i hk
      rw [findRow_shift] at h
      cases hf : findRow k rs 0 with
      | none => rw [hf] at h; cases h
      | some x =>
        obtain ⟨j, u⟩ := x
        rw [hf] at h
        simp only [Option.map_some, Option.some.injEq, Prod.mk.injEq] at h
        obtain ⟨rfl, rfl⟩ := h
        obtain ⟨r', h1, h2, h3, h4⟩ := ih hf
        refine ⟨r', by simpa using h1, h2, h3, fun m r'' hm hr => ?_⟩
        cases m with
        | zero => simp at hr; subst hr; exact fun h => hk h.symm
        | succ m => exact h4 m r'' (by omega) (by simpa using hr)
/-! ### Keys that are whole numbers -/
theorem findNow_int {kd kd' : IntKind} {n : Int} : ∀ (rows : List (MRow Int)) (i : Nat), Instr.findNow (.int kd') (.int kd n) (rows.map (mkE (Value.int kd))) i = some (findRow n rows i) := by
  intro rows
  induction rows with
  | nil => intro i; rfl
  | cons r rs ih =>
    intro i
    simp only [List.map_cons, Instr.findNow, mkE, Instr.sameNow, if_true, findRow]
    by_cases h : n = r.1
    · simp [h]
    · have : (n == r.1) = false := by simpa using h
      simp only [this, h, if_false]
      exact ih (i + 1)
theorem keyInt {kt : TypeId} {kd : IntKind} (ht : P.underlying kt = some (.int kd)) : KeyK P kt (Value.int kd) where
  check b k w := by
    show (Instr.checkKey b (9999 + 1) kt _).run P w = _
    rw [Instr.checkKey]
    simp [run_underlying ht]
  find k rows w := by
    simp [Instr.findKey, run_underlying ht, findNow_int]
  stays k := by simp [Instr.sameBits]
/-! ### Keys that are pairs of whole numbers -/
def encPair (k : Int × Int) : Value := .agg #[.int .i64 k.1, .int .i64 k.2]
theorem run_equalIn_int {n : Nat} {t : TypeId} {kd : IntKind} {a b : Int} (ht : P.underlying t = some (.int kd)) (w : World) : (Op.equalIn (n + 1) t (.int kd a) (.int kd b)).run P w = .ok (a == b) w := by
  rw [Op.equalIn]
  simp [run_underlying ht]
theorem run_equal_pair {t el : TypeId} {a b : Int × Int} (ht : P.underlying t = some (.array 2 el)) (hel : P.underlying el = some (.int .i64)) (hsz : sizeT P el = some 1) (w : World) : (Op.equal t (encPair a) (encPair b)).run P w = .ok (decide (a = b)) w := by
  refine run_equal ?_
  have hsc : scalarT P el = true := by simp [scalarT, hel]
  rw [Op.equalIn]
  obtain ⟨a1, a2⟩ := a
  obtain ⟨b1, b2⟩ := b
  have h1 : ∀ (a b : Int) w, (Op.equalIn 9999 el (.int .i64 a) (.int .i64 b)).run P w = .ok (a == b) w := fun a b w => run_equalIn_int (n := 9998) hel w
  by_cases e1 : a1 = b1 <;> by_cases e2 : a2 = b2 <;>
    simp [encPair, run_underlying ht, run_sizeOf hsz, Std.Legacy.Range.forIn_eq_forIn_range', Std.Legacy.Range.size, List.range', part, run_isAgg_false hsc, h1, e1, e2]
theorem findAsking_pair {t el : TypeId} {k : Int × Int} (ht : P.underlying t = some (.array 2 el)) (hel : P.underlying el = some (.int .i64)) (hsz : sizeT P el = some 1) (w : World) : ∀ (rows : List (MRow (Int × Int))) (i : Nat), (Instr.findAsking t (encPair k) (rows.map (mkE encPair)) i).run P w = .ok (findRow k rows i) w := by
  intro rows
  induction rows with
  | nil => intro i; rfl
  | cons r rs ih =>
    intro i
    simp only [List.map_cons, Instr.findAsking, mkE, Sem.run_bind, run_equal_pair ht hel hsz, Result.andThen_ok, findRow]
    by_cases h : k = r.1
    · simp [h]
    · simpa [h, mkE] using ih (i + 1)
theorem keyPair {kt el : TypeId} (ht : P.underlying kt = some (.array 2 el)) (hel : P.underlying el = some (.int .i64)) (hsz : sizeT P el = some 1) : KeyK P kt encPair where
  check b k w := by
    have hsc : scalarT P el = true := by simp [scalarT, hel]
    have h1 : ∀ (a : Int) w, (Instr.checkKey b 9999 el (.int .i64 a)).run P w = .ok () w := fun a w => by
      show (Instr.checkKey b (9998 + 1) el _).run P w = _
      rw [Instr.checkKey]
      simp [run_underlying hel]
    show (Instr.checkKey b (9999 + 1) kt _).run P w = _
    rw [Instr.checkKey]
    simp [encPair, run_underlying ht, run_sizeOf hsz, Std.Legacy.Range.forIn_eq_forIn_range', Std.Legacy.Range.size, List.range', part, run_isAgg_false hsc, h1]
  find k rows w := by
    cases rows with
    | nil => simp [Instr.findKey, run_underlying ht, Instr.findNow, findRow]
    | cons r rs =>
      have := findAsking_pair ht hel hsz w (k := k) (r :: rs) 0
      simpa [Instr.findKey, run_underlying ht, Instr.findNow, mkE, Instr.sameNow] using this
  stays k := by
    show Instr.sameBits (9999 + 1) _ _ = true
    simp [encPair, Instr.sameBits]
/-! ## Operations -/
theorem OP.lookup {κ : Type} [DecidableEq κ] {kenc : κ → Value} {t kt el r clk : Nat} {rows : List (MRow κ)} {x y : Operand} {k : κ} {z : Value} (v : Value) (hK : KeyK P kt kenc) (ht : P.underlying t = some (.map kt el)) (hs : sat W0 (MP kenc r rows clk :: L) w) (hz : zeroT P el = some z) (hx : evalE e x = .map (some r)) (hy : evalE e y = kenc k)
    (hv : (match findRow k rows 0 with | some (_, u) => u | none => z) = v) (hd : d < N) (h : K (upd e d v) w) : OPw P N ⟨some d, .lookup t x y false, ty, pos, af, g⟩ K e w :=
  OP.val hd (by
    have hh := (sat_pts_heap hs).2
    have hg : (getObj r).run P w = .ok (.map (rows.map (mkE kenc)).toArray clk) w := by simp [getObj, Sem.run, hh]
    have hl : (Instr.lookup t (.map (some r)) (kenc k) false).run P w = .ok v w := by
      simp only [Instr.lookup, Sem.run_bind, run_underlying ht, Result.andThen_ok, hg, Sem.run_pure, hK.check, hK.find]
      cases hf : findRow k rows 0 with
      | none => rw [hf] at hv; simp at hv; subst hv; simp [run_zeroValue hz]
      | some u => rw [hf] at hv; simp at hv; subst hv; simp
    simp [execOp, hx, hy, hl]) h
theorem OP.lookupOk {κ : Type} [DecidableEq κ] {kenc : κ → Value} {t kt el r clk : Nat} {rows : List (MRow κ)} {x y : Operand} {k : κ} {z : Value} (v : Value) (b : Bool) (hK : KeyK P kt kenc) (ht : P.underlying t = some (.map kt el)) (hs : sat W0 (MP kenc r rows clk :: L) w) (hz : zeroT P el = some z) (hx : evalE e x = .map (some r)) (hy : evalE e y = kenc k)
    (hv : (match findRow k rows 0 with | some (_, u) => (u, true) | none => (z, false)) = (v, b)) (hd : d < N) (h : K (upd e d (.tuple #[v, .bool b])) w) : OPw P N ⟨some d, .lookup t x y true, ty, pos, af, g⟩ K e w :=
  OP.val hd (by
    have hh := (sat_pts_heap hs).2
    have hg : (getObj r).run P w = .ok (.map (rows.map (mkE kenc)).toArray clk) w := by simp [getObj, Sem.run, hh]
    have hl : (Instr.lookup t (.map (some r)) (kenc k) true).run P w = .ok (.tuple #[v, .bool b]) w := by
      simp only [Instr.lookup, Sem.run_bind, run_underlying ht, Result.andThen_ok, hg, Sem.run_pure, hK.check, hK.find]
      cases hf : findRow k rows 0 with
      | none => rw [hf] at hv; simp at hv; obtain ⟨rfl, rfl⟩ := hv; simp [run_zeroValue hz]
      | some u => rw [hf] at hv; simp at hv; obtain ⟨rfl, rfl⟩ := hv; simp
    simp [execOp, hx, hy, hl]) h
theorem setObj_sat {r : Nat} {o o' : Obj} (hs : sat W0 (pts r o :: L) w) (ho : ∀ c T fr, o ≠ .cells c T fr) : ∃ w', (setObj r o').run P w = .ok () w' ∧ sat W0 (pts r o' :: L) w' := by
  have hh := (sat_pts_heap hs).2
  have hlt : r < w.heap.size := by
    rcases Nat.lt_or_ge r w.heap.size with h | h
    · exact h
    · rw [Array.getElem?_eq_none h] at hh; cases hh
  refine ⟨{ w with heap := w.heap.setIfInBounds r o' }, ?_, sat_repl hs rfl rfl rfl (by simp) (by simp [hlt]) (fun i hi => by simp [Array.getElem?_setIfInBounds_ne (Ne.symm hi)])⟩
  simp only [setObj, Sem.run, hh]
/-- a row's value replaced, or a row put behind the others -/
def putRow {κ : Type} [DecidableEq κ] (k : κ) (v : Value) (clk : Nat) (rows : List (MRow κ)) : List (MRow κ) := match findRow k rows 0 with
  | some (i, _) => rows.modify i fun r => (r.1, v, r.2.2)
  | none => rows ++ [(k, v, clk)]
def putClk {κ : Type} [DecidableEq κ] (k : κ) (clk : Nat) (rows : List (MRow κ)) : Nat := match findRow k rows 0 with
  | some _ => clk
  | none => clk + 1
theorem modify_mkE {κ : Type} (kenc : κ → Value) (rows : List (MRow κ)) (i : Nat) (k : κ) (v : Value) (hi : ∀ r, rows[i]? = some r → r.1 = k) : ((rows.map (mkE kenc)).toArray.modify i fun e => { e with key := kenc k, val := v }) = ((rows.modify i fun r => (r.1, v, r.2.2)).map (mkE kenc)).toArray := by
  apply Array.ext_getElem?
  intro j
  by_cases h : i = j
  · subst h
    simp only [Array.getElem?_modify, if_true, List.getElem?_toArray, List.getElem?_map, List.getElem?_modify]
    cases hr : rows[i]? with
    | none => simp
    | some r => simp [mkE, hi r hr]
  · simp [h]
theorem OP.mapUpdate {κ : Type} [DecidableEq κ] {kenc : κ → Value} {t kt el r clk : Nat} {rows : List (MRow κ)} {x y u : Operand} {k : κ} (v : Value) (hK : KeyK P kt kenc) (ht : P.underlying t = some (.map kt el)) (hs : sat W0 (MP kenc r rows clk :: L) w) (hx : evalE e x = .map (some r)) (hy : evalE e y = kenc k) (hu : evalE e u = v)
    (h : ∀ w', sat W0 (MP kenc r (putRow k v clk rows) (putClk k clk rows) :: L) w' → K e w') : OPw P N ⟨none, .mapUpdate t x y u, ty, pos, af, g⟩ K e w := by
  have hh := (sat_pts_heap hs).2
  have hg : (getObj r).run P w = .ok (.map (rows.map (mkE kenc)).toArray clk) w := by simp [getObj, Sem.run, hh]
  obtain ⟨w', hrun, hs'⟩ := setObj_sat (P := P) (o' := .map ((putRow k v clk rows).map (mkE kenc)).toArray (putClk k clk rows)) hs (by simp)
  refine OP.skip (w' := w') ?_ (h w' hs')
  have hl : (Instr.mapUpdate t (.map (some r)) (kenc k) v).run P w = .ok () w' := by
    simp only [Instr.mapUpdate, Sem.run_bind, run_underlying ht, Result.andThen_ok, hg, hK.check, hK.find]
    cases hf : findRow k rows 0 with
    | none =>
      rw [show putRow k v clk rows = rows ++ [(k, v, clk)] by simp [putRow, hf], show putClk k clk rows = clk + 1 by simp [putClk, hf]] at hrun
      simpa [mkE] using hrun
    | some z =>
      obtain ⟨i, uu⟩ := z
      obtain ⟨r0, h1, h2, h3, h4⟩ := findRow_some hf
      rw [show putRow k v clk rows = rows.modify i fun r => (r.1, v, r.2.2) by simp [putRow, hf], show putClk k clk rows = clk by simp [putClk, hf]] at hrun
      have hi : ∀ r, rows[i]? = some r → r.1 = k := fun r hr => by rw [h1] at hr; cases hr; exact h2
      have hstay : (Instr.keyThatStays (kenc k) (kenc k)).run P w = .ok (kenc k) w := by simp [Instr.keyThatStays, hK.stays]
      have hkey : (((rows.map (mkE kenc)).toArray[i]?).map (·.key)).getD (kenc k) = kenc k := by simp [h1, mkE, h2]
      simp only [hkey, Sem.run_bind, hstay, Result.andThen_ok, modify_mkE kenc rows i k v hi]
      exact hrun
  simp [execOp, hx, hy, hu, hl]
theorem OP.mapEntry {κ : Type} [DecidableEq κ] {kenc : κ → Value} {t kt el r clk : Nat} {rows : List (MRow κ)} {x y : Operand} {k : κ} {z : Value} (hK : KeyK P kt kenc) (ht : P.underlying t = some (.map kt el)) (hs : sat W0 (MP kenc r rows clk :: L) w) (hz : zeroT P el = some z) (hx : evalE e x = .map (some r)) (hy : evalE e y = kenc k) (hd : d < N)
    (h0 : findRow k rows 0 = none → ∀ w', sat W0 (MP kenc r (rows ++ [(k, z, clk)]) (clk + 1) :: L) w' → K (upd e d (.tuple #[z, .int .i64 (clk : Int)])) w')
    (h1 : ∀ i v row, findRow k rows 0 = some (i, v) → rows[i]? = some row → row.1 = k → row.2.1 = v → ∀ w', sat W0 (MP kenc r rows clk :: L) w' → K (upd e d (.tuple #[v, .int .i64 (row.2.2 : Int)])) w') : OPw P N ⟨some d, .mapEntry t x y, ty, pos, af, g⟩ K e w := by
  have hh := (sat_pts_heap hs).2
  have hg : (getObj r).run P w = .ok (.map (rows.map (mkE kenc)).toArray clk) w := by simp [getObj, Sem.run, hh]
  cases hf : findRow k rows 0 with
  | none =>
    obtain ⟨w', hrun, hs'⟩ := setObj_sat (P := P) (o' := .map ((rows ++ [(k, z, clk)]).map (mkE kenc)).toArray (clk + 1)) hs (by simp)
    refine OP.val hd (w' := w') ?_ (h0 hf w' hs')
    have hl : (Instr.mapEntry t (.map (some r)) (kenc k)).run P w = .ok (.tuple #[z, .int .i64 (clk : Int)]) w' := by
      simp only [Instr.mapEntry, Sem.run_bind, run_underlying ht, Result.andThen_ok, hg, hK.check, hK.find, hf, run_zeroValue hz]
      have e1 : (rows.map (mkE kenc)).toArray.push { key := kenc k, val := z, born := clk } = ((rows ++ [(k, z, clk)]).map (mkE kenc)).toArray := by simp [mkE]
      rw [e1, hrun]
      simp [goInt]
    simp [execOp, hx, hy, hl]
  | some z =>
    obtain ⟨i, v⟩ := z
    obtain ⟨r0, g1, g2, g3, g4⟩ := findRow_some hf
    obtain ⟨w', hrun, hs'⟩ := setObj_sat (P := P) (o' := .map (rows.map (mkE kenc)).toArray clk) hs (by simp)
    refine OP.val hd (w' := w') ?_ (h1 i v r0 hf g1 g2 g3 w' hs')
    have hstay : (Instr.keyThatStays (kenc k) (kenc k)).run P w = .ok (kenc k) w := by simp [Instr.keyThatStays, hK.stays]
    have hkey : (((rows.map (mkE kenc)).toArray[i]?).map (·.key)).getD (kenc k) = kenc k := by simp [g1, mkE, g2]
    have hmod : ((rows.map (mkE kenc)).toArray.modify i fun e => { e with key := kenc k }) = (rows.map (mkE kenc)).toArray := by
      apply Array.ext_getElem?
      intro j
      by_cases h : i = j
      · subst h; simp [g1, mkE, g2]
      · simp [h]
    have hborn : (((rows.map (mkE kenc)).toArray[i]?).map (·.born)).getD 0 = r0.2.2 := by simp [g1, mkE]
    have hl : (Instr.mapEntry t (.map (some r)) (kenc k)).run P w = .ok (.tuple #[v, .int .i64 (r0.2.2 : Int)]) w' := by
      simp only [Instr.mapEntry, Sem.run_bind, run_underlying ht, Result.andThen_ok, hg, hK.check, hK.find, hf, hkey, hstay, hmod, hrun]
      simp [goInt, g1, mkE]
    simp [execOp, hx, hy, hl]
/-- the row with a stamp gets a value -/
def storeRow {κ : Type} (b : Nat) (v : Value) (rows : List (MRow κ)) : List (MRow κ) := match rows.findIdx? (fun r => r.2.2 == b) with
  | some i => rows.modify i fun r => (r.1, v, r.2.2)
  | none => rows
theorem OP.entryStore {κ : Type} {kenc : κ → Value} {t r clk b i : Nat} {rows : List (MRow κ)} {x y u : Operand} (v : Value) (hs : sat W0 (MP kenc r rows clk :: L) w) (hx : evalE e x = .map (some r)) (hy : evalE e y = .int .i64 (b : Int)) (hu : evalE e u = v) (hi : rows.findIdx? (fun r => r.2.2 == b) = some i)
    (h : ∀ w', sat W0 (MP kenc r (rows.modify i fun r => (r.1, v, r.2.2)) clk :: L) w' → K e w') : OPw P N ⟨none, .entryStore t x y u, ty, pos, af, g⟩ K e w := by
  have hh := (sat_pts_heap hs).2
  have hg : (getObj r).run P w = .ok (.map (rows.map (mkE kenc)).toArray clk) w := by simp [getObj, Sem.run, hh]
  obtain ⟨w', hrun, hs'⟩ := setObj_sat (P := P) (o' := .map ((rows.modify i fun r => (r.1, v, r.2.2)).map (mkE kenc)).toArray clk) hs (by simp)
  refine OP.skip (w' := w') ?_ (h w' hs')
  have hidx : (rows.map (mkE kenc)).toArray.findIdx? (fun e => (e.born : Int) == (b : Int)) = some i := by
    rw [List.findIdx?_toArray, List.findIdx?_map, ← hi]
    have hfun : ((fun e : MapEntry => (e.born : Int) == (b : Int)) ∘ mkE kenc) = fun r : MRow κ => r.2.2 == b := by
      funext r
      simp only [Function.comp, mkE]
      rw [Bool.eq_iff_iff]; simp; omega
    rw [hfun]
  have hmod : ((rows.map (mkE kenc)).toArray.modify i fun e => { e with val := v }) = ((rows.modify i fun r => (r.1, v, r.2.2)).map (mkE kenc)).toArray := by
    apply Array.ext_getElem?
    intro j
    by_cases h : i = j
    · subst h
      simp only [Array.getElem?_modify, if_true, List.getElem?_toArray, List.getElem?_map, List.getElem?_modify]
      cases hr : rows[i]? <;> simp [mkE]
    · simp [h]
  have hl : (Instr.entryStore t (.map (some r)) (.int .i64 (b : Int)) v).run P w = .ok () w' := by
    simp only [Instr.entryStore, Sem.run_bind, hg, Result.andThen_ok, asInt, asIntOf, Sem.run_pure, hidx, hmod]
    exact hrun
  simp [execOp, hx, hy, hu, hl]
end Sv
