/- The teller of a script (layer 12): what it keeps, and its memory. -/
import Derived.Test.YtleolejhkdolpaaModA
import Derived.Test.YtleolejhkdolpaaSepMap
namespace Sv
open Go Go.RowKit
/-- a script: its lists, and where they lie -/
structure Script where
  busyA : Option Addr
  busyC : Nat
  busy : List Int
  failsA : Option Addr
  failsC : Nat
  fails : List Int
  turnsA : Option Addr
  turnsC : Nat
  turns : List Turn
  cut : Int
  tornA : Option Addr
  tornC : Nat
  torn : List Int
  markedA : Option Addr
  markedC : Nat
  marked : List Int
/-- what is known of the script's lists in the frame F: they can be read, and are not too long for memory -/
structure ScriptR (W0 : World) (F : HProp) (s : Script) : Prop where
  busy : Ent W0 F (fun w => Rd w 1 s.busyA s.busy.length (s.busy.map (Value.int .i64)))
  fails : Ent W0 F (fun w => Rd w 1 s.failsA s.fails.length (s.fails.map (Value.int .i64)))
  turns : Ent W0 F (fun w => Rd w 3 s.turnsA s.turns.length (s.turns.flatMap encTurn))
  torn : Ent W0 F (fun w => Rd w 1 s.tornA s.torn.length (s.torn.map (Value.int .u8)))
  marked : Ent W0 F (fun w => Rd w 1 s.markedA s.marked.length (s.marked.map (Value.int .i64)))
structure ScriptL (s : Script) : Prop where
  busy : s.busy.length ≤ 9223372036854775807
  fails : s.fails.length ≤ 9223372036854775807
  turns : s.turns.length ≤ 9223372036854775807
  torn : s.torn.length ≤ 9223372036854775807
  marked : s.marked.length ≤ 9223372036854775807
theorem Ent_frame {W0 : World} {F : HProp} {M : List HProp} {X : World → Prop} (i : Nat) (hi : M[i]? = some F) (h : Ent W0 F X) : Ent W0 (stars M) X := Ent_stars i hi h
theorem ScriptR.frame {W0 : World} {F : HProp} {s : Script} {M : List HProp} (h : ScriptR W0 F s) (i : Nat) (hi : M[i]? = some F) : ScriptR W0 (stars M) s :=
  ⟨Ent_stars i hi h.busy, Ent_stars i hi h.fails, Ent_stars i hi h.turns, Ent_stars i hi h.torn, Ent_stars i hi h.marked⟩
def badTurn (g : Geom) (t : Turn) : Bool := !withinB t.row 0 (g.blocks * g.pages - 1) || !withinB t.rung 0 (g.rungs - 1) || !withinB t.bit 0 (8 * rawN g - 1)
def rightB (g : Geom) (s : Script) : Bool :=
  decide (g.Ok) && (decide (s.busy.length ≤ 4096) && decide (s.fails.length ≤ 4096) && decide (s.turns.length ≤ 4096) && decide (s.torn.length ≤ 4096) && decide (s.marked.length ≤ 4096)) &&
  !(s.busy.any (fun n => !withinB n 0 65536) || s.turns.any (badTurn g)) && risingB (-1) 4611686018427387904 s.fails && risingB (-1) (g.blocks - 1) s.marked && withinB s.cut (-1) 16777216
theorem rightB_bad {g : Geom} {s : Script} (h : ¬ g.Ok) : false = rightB g s := by simp [rightB, h]
theorem rightB_len {g : Geom} {s : Script} (h : 4096 < s.busy.length ∨ 4096 < s.fails.length ∨ 4096 < s.turns.length ∨ 4096 < s.torn.length ∨ 4096 < s.marked.length) : false = rightB g s := by
  unfold rightB
  have : (decide (s.busy.length ≤ 4096) && decide (s.fails.length ≤ 4096) && decide (s.turns.length ≤ 4096) && decide (s.torn.length ≤ 4096) && decide (s.marked.length ≤ 4096)) = false := by
    simp only [Bool.and_eq_false_iff, decide_eq_false_iff_not]
    omega
  rw [this]; simp
theorem rightB_eq {g : Geom} {s : Script} (h : g.Ok) (hl : s.busy.length ≤ 4096 ∧ s.fails.length ≤ 4096 ∧ s.turns.length ≤ 4096 ∧ s.torn.length ≤ 4096 ∧ s.marked.length ≤ 4096) :
    rightB g s = (!(s.busy.any (fun n => !withinB n 0 65536) || s.turns.any (badTurn g)) && risingB (-1) 4611686018427387904 s.fails && risingB (-1) (g.blocks - 1) s.marked && withinB s.cut (-1) 16777216) := by
  simp [rightB, h, hl]
theorem rightB_true {g : Geom} {s : Script} (h : rightB g s = true) : g.Ok ∧ s.busy.length ≤ 4096 ∧ s.fails.length ≤ 4096 ∧ s.turns.length ≤ 4096 ∧ s.torn.length ≤ 4096 ∧ s.marked.length ≤ 4096 := by
  unfold rightB at h
  simp only [Bool.and_eq_true, decide_eq_true_eq] at h
  obtain ⟨⟨⟨⟨⟨h1, ⟨⟨⟨h2, h3⟩, h4⟩, h5⟩, h6⟩, _⟩, _⟩, _⟩, _⟩ := h
  exact ⟨h1, h2, h3, h4, h5, h6⟩
/-! ## The turns by row and rung -/
structure TRow where
  key : Int × Int
  a : Option Addr
  c : Nat
  xs : List Int
  born : Nat
def tRow (r : TRow) : MRow (Int × Int) := (r.key, .slice r.a r.xs.length r.c, r.born)
def rowSL (r : TRow) : HProp := SL false 1 r.a r.xs.length r.c (r.xs.map (Value.int .i64))
def rowsGet (k : Int × Int) (rows : List TRow) : List Int := match rows.find? (fun r => r.key = k) with
  | some r => r.xs
  | none => []
def bitsOf (k : Int × Int) (ts : List Turn) : List Int := (ts.filter fun t => (t.row, t.rung) = k).map Turn.bit
theorem findRow_tRow {k : Int × Int} : ∀ {rows : List TRow} {i : Nat}, findRow k (rows.map tRow) i = ((rows.findIdx? (fun r => r.key = k)).bind fun j => rows[j]?.map fun r => (j + i, Value.slice r.a r.xs.length r.c)) := by
  intro rows
  induction rows with
  | nil => intro i; rfl
  | cons r rs ih =>
    intro i
    rw [List.map_cons, List.findIdx?_cons]
    show (if k = r.key then some (i, (tRow r).2.1) else findRow k (rs.map tRow) (i + 1)) = _
    by_cases h : k = r.key
    · rw [if_pos h]; simp [h, tRow]
    · have h' : ¬ (r.key = k) := fun e => h e.symm
      rw [if_neg h, ih]
      simp only [h', decide_false, Bool.false_eq_true, if_false]
      cases hf : List.findIdx? (fun r => decide (r.key = k)) rs with
      | none => rfl
      | some j =>
        simp only [Option.map_some, Option.bind_some, List.getElem?_cons_succ]
        cases rs[j]? with
        | none => rfl
        | some q => simp; omega
theorem findRow_tRow_none {k : Int × Int} {rows : List TRow} (h : findRow k (rows.map tRow) 0 = none) : rowsGet k rows = [] ∧ ∀ r ∈ rows, r.key ≠ k := by
  have h1 := findRow_none.1 h
  have h2 : ∀ r ∈ rows, r.key ≠ k := fun r hr e => h1 (tRow r) (List.mem_map_of_mem hr) e.symm
  refine ⟨?_, h2⟩
  unfold rowsGet
  have : rows.find? (fun r => decide (r.key = k)) = none := by
    rw [List.find?_eq_none]
    intro r hr; simpa using h2 r hr
  rw [this]
theorem findRow_tRow_some {k : Int × Int} {rows : List TRow} {i : Nat} {v : Value} (h : findRow k (rows.map tRow) 0 = some (i, v)) : ∃ r, rows[i]? = some r ∧ r.key = k ∧ v = .slice r.a r.xs.length r.c ∧ rowsGet k rows = r.xs ∧ ∀ j r', j < i → rows[j]? = some r' → r'.key ≠ k := by
  obtain ⟨m, h1, h2, h3, h4⟩ := findRow_some h
  rw [List.getElem?_map] at h1
  cases hr : rows[i]? with
  | none => rw [hr] at h1; cases h1
  | some r =>
    rw [hr] at h1
    simp only [Option.map_some, Option.some.injEq] at h1
    subst h1
    have h5 : ∀ j r', j < i → rows[j]? = some r' → r'.key ≠ k := fun j r' hj hr' => h4 j (tRow r') hj (by rw [List.getElem?_map, hr']; rfl)
    have h2k : r.key = k := h2
    refine ⟨r, rfl, h2k, h3.symm, ?_, h5⟩
    unfold rowsGet
    have hlt : i < rows.length := (List.getElem?_eq_some_iff.1 hr).1
    have : rows.find? (fun r => decide (r.key = k)) = some r := by
      rw [List.find?_eq_some_iff_getElem]
      refine ⟨by simpa using h2k, i, hlt, (List.getElem?_eq_some_iff.1 hr).2, fun j hj => ?_⟩
      simpa using h5 j rows[j] hj (List.getElem?_eq_getElem (by omega))
    rw [this]
/-- the reading of a row's slice out of all of them -/
theorem Ent_row {W0 : World} {rows : List TRow} {i : Nat} {r : TRow} (h : rows[i]? = some r) : Ent W0 (stars (rows.map rowSL)) (fun w => Rd w 1 r.a r.xs.length (r.xs.map (Value.int .i64))) :=
  Ent_stars i (by rw [List.getElem?_map, h]; rfl) Ent_SL
theorem bitsOf_snoc (k : Int × Int) (ts : List Turn) (t : Turn) : bitsOf k (ts ++ [t]) = if (t.row, t.rung) = k then bitsOf k ts ++ [t.bit] else bitsOf k ts := by
  unfold bitsOf
  rw [List.filter_append, List.map_append]
  by_cases h : (t.row, t.rung) = k <;> simp [h]
theorem bitsOf_length (k : Int × Int) (ts : List Turn) : (bitsOf k ts).length ≤ ts.length := by
  unfold bitsOf; rw [List.length_map]; exact List.length_filter_le _ _
/-! ## What a teller tells -/
def busyAt (l : List Int) (n : Int) : Int := l.getD n.toNat 0
def tornB (torn : List Int) (i : Nat) : Int := if torn = [] then 0 else torn.getD (i % torn.length) 0
def tornUpto (torn : List Int) (n k : Nat) : List Int := (List.range n).map fun i => if i < k then tornB torn i else 0
def tornL (torn : List Int) (n : Nat) : List Int := (List.range n).map (tornB torn)
theorem tornUpto_zero {torn : List Int} {n : Nat} : tornUpto torn n 0 = List.replicate n 0 := by
  apply List.ext_getElem <;> simp [tornUpto]
theorem tornUpto_all {torn : List Int} {n k : Nat} (h : n ≤ k) : tornUpto torn n k = tornL torn n := by
  apply List.ext_getElem
  · simp [tornUpto, tornL]
  · intro i h1 h2
    simp [tornUpto] at h1
    have : i < k := by omega
    simp [tornUpto, tornL, this]
theorem tornUpto_length {torn : List Int} {n k : Nat} : (tornUpto torn n k).length = n := by simp [tornUpto]
theorem tornUpto_set {torn : List Int} {n k : Nat} (_ : k < n) : (tornUpto torn n k).set k (tornB torn k) = tornUpto torn n (k + 1) := by
  apply List.ext_getElem
  · simp [tornUpto]
  · intro i h1 h2
    simp [tornUpto] at h1
    simp only [List.getElem_set, tornUpto, List.getElem_map, List.getElem_range]
    by_cases e : k = i
    · subst e; simp
    · simp only [e, if_false]
      by_cases e2 : i < k
      · simp [e2, show i < k + 1 by omega]
      · simp [e2, show ¬ (i < k + 1) by omega]
theorem tornUpto_skip {torn : List Int} {n k : Nat} (h : torn = []) : tornUpto torn n k = tornUpto torn n (k + 1) := by
  subst h
  apply List.ext_getElem
  · simp [tornUpto]
  · intro i h1 h2; simp [tornUpto, tornB]
theorem tornUpto_setB {torn : List Int} {n k : Nat} (h : k < n) (ht : 0 < torn.length) : (tornUpto torn n k).set k (torn.getD (k % torn.length) 0) = tornUpto torn n (k + 1) := by
  rw [← tornUpto_set h]
  have : torn ≠ [] := fun e => by rw [e] at ht; simp at ht
  simp [tornB, this]
theorem reps_ints {kd : IntKind} {n : Nat} {v : Int} : reps n [Value.int kd v] = (List.replicate n v).map (Value.int kd) := by
  rw [reps_one]; simp
/-! ## The rows' slices, one by one -/
variable {W0 : World} {L : List HProp} {w : World}
theorem sat_stars_cons {A : HProp} {M : List HProp} (k : sat W0 (stars (A :: M) :: L) w) : sat W0 (A :: stars M :: L) w := by
  have h1 : sat W0 ((A :: M) ++ L) w := sat_open (fun _ h => h) k
  have h2 : sat W0 ((A :: L) ++ M) w := sat_perm (by simpa using List.Perm.cons A List.perm_append_comm) h1
  have h3 := sat_pack h2
  exact sat_perm (List.Perm.cons A (List.perm_append_comm (l₁ := L) (l₂ := [stars M]))) h3
theorem sat_cons_stars {A : HProp} {M : List HProp} (k : sat W0 (A :: stars M :: L) w) : sat W0 (stars (A :: M) :: L) w := by
  refine sat_shut (M := A :: M) (fun _ h => h) ?_
  have h1 : sat W0 ((A :: L) ++ [stars M]) w := sat_perm (by simpa using List.Perm.cons A (List.perm_append_comm (l₁ := [stars M]) (l₂ := L))) k
  have h2 := sat_flat h1
  exact sat_perm (by simpa using List.Perm.cons A List.perm_append_comm) h2
theorem stars_permL {M M' : List HProp} (p : M.Perm M') (k : sat W0 (stars M :: L) w) : sat W0 (stars M' :: L) w :=
  sat_imp (fun _ h => stars_perm p h) k
theorem perm_erase {α : Type} {x : α} : ∀ {l : List α} {i : Nat}, l[i]? = some x → l.Perm (x :: l.eraseIdx i) := by
  intro l
  induction l with
  | nil => intro i h; cases h
  | cons y l ih =>
    intro i h
    cases i with
    | zero => simp at h; subst h; exact List.Perm.refl _
    | succ i =>
      rw [List.eraseIdx_cons_succ]
      exact (List.Perm.cons y (ih (by simpa using h))).trans (List.Perm.swap x y _)
theorem rows_take {α : Type} {f : α → HProp} {rows : List α} {i : Nat} {r : α} (h : rows[i]? = some r) (k : sat W0 (stars (rows.map f) :: L) w) : sat W0 (f r :: stars ((rows.eraseIdx i).map f) :: L) w := by
  have p : (rows.map f).Perm (f r :: (rows.eraseIdx i).map f) := by
    have := (perm_erase h).map f
    simpa using this
  exact sat_stars_cons (stars_permL p k)
theorem rows_put {α : Type} {f : α → HProp} {rows : List α} {i : Nat} {r' : α} (h : i < rows.length) (k : sat W0 (f r' :: stars ((rows.eraseIdx i).map f) :: L) w) : sat W0 (stars ((rows.set i r').map f) :: L) w := by
  have hs : (rows.set i r')[i]? = some r' := by simp [h]
  have p : ((rows.set i r').map f).Perm (f r' :: (rows.eraseIdx i).map f) := by
    have := (perm_erase hs).map f
    simpa [List.eraseIdx_set_eq] using this
  exact stars_permL p.symm (sat_cons_stars k)
theorem rows_push {α : Type} {f : α → HProp} {rows : List α} {r' : α} (k : sat W0 (f r' :: stars (rows.map f) :: L) w) : sat W0 (stars ((rows ++ [r']).map f) :: L) w := by
  have p : (f r' :: rows.map f).Perm ((rows ++ [r']).map f) := by
    rw [List.map_append]
    exact (List.perm_append_comm (l₁ := [f r']) (l₂ := rows.map f))
  exact stars_permL p (sat_cons_stars k)
/-! ## The rows while they are made -/
structure TInv (rows : List TRow) (clk : Nat) (ts : List Turn) : Prop where
  get : ∀ k, rowsGet k rows = bitsOf k ts
  lt : ∀ r ∈ rows, r.born < clk
  inj : ∀ (i j : Nat) (a b : TRow), rows[i]? = some a → rows[j]? = some b → a.born = b.born → i = j
theorem TInv.nil : TInv [] 0 [] := ⟨fun _ => rfl, fun _ h => (by cases h), fun i j a b h => (by simp at h)⟩
theorem idx_new {rows : List TRow} {clk : Nat} {key : Int × Int} {v : Value} (hb : ∀ r ∈ rows, r.born < clk) : (rows.map tRow ++ [(key, v, clk)]).findIdx? (fun r => r.2.2 == clk) = some rows.length := by
  rw [List.findIdx?_eq_some_iff_getElem]
  refine ⟨by simp, ?_, fun j hj => ?_⟩
  · rw [List.getElem_append_right (by simp)]; simp
  · rw [List.getElem_append_left (by simpa using hj)]
    have := hb rows[j] (List.getElem_mem hj)
    simp [tRow]; omega
theorem mod_new {rows : List TRow} {clk c : Nat} {a : Option Addr} {xs : List Int} {key : Int × Int} {v : Value} : (rows.map tRow ++ [(key, v, clk)]).modify rows.length (fun r => (r.1, Value.slice a xs.length c, r.2.2)) = (rows ++ [(⟨key, a, c, xs, clk⟩ : TRow)]).map tRow := by
  apply List.ext_getElem?
  intro j
  rw [List.getElem?_modify, List.map_append]
  rcases Nat.lt_trichotomy j rows.length with h | h | h
  · rw [List.getElem?_append_left (by simpa using h), List.getElem?_append_left (by simpa using h)]
    simp [show ¬ (rows.length = j) by omega]
  · subst h
    simp [tRow]
  · rw [List.getElem?_eq_none (by simp; omega), List.getElem?_eq_none (by simp; omega)]
    rfl
theorem idx_old {rows : List TRow} {i clk : Nat} {r0 : TRow} {ts : List Turn} (hr0 : rows[i]? = some r0) (hI : TInv rows clk ts) : (rows.map tRow).findIdx? (fun r => r.2.2 == r0.born) = some i := by
  obtain ⟨hi, rfl⟩ := List.getElem?_eq_some_iff.1 hr0
  rw [List.findIdx?_eq_some_iff_getElem]
  refine ⟨by simpa using hi, by simp [tRow], fun j hj => ?_⟩
  simp only [List.getElem_map, tRow, beq_iff_eq]
  intro he
  have := hI.inj j i _ _ (List.getElem?_eq_getElem (by omega)) (List.getElem?_eq_getElem hi) he
  omega
theorem mod_old {rows : List TRow} {i c : Nat} {a : Option Addr} {xs : List Int} {r0 : TRow} (hr0 : rows[i]? = some r0) : (rows.map tRow).modify i (fun r => (r.1, Value.slice a xs.length c, r.2.2)) = (rows.set i (⟨r0.key, a, c, xs, r0.born⟩ : TRow)).map tRow := by
  obtain ⟨hi, rfl⟩ := List.getElem?_eq_some_iff.1 hr0
  apply List.ext_getElem?
  intro j
  rw [List.getElem?_modify, List.getElem?_map, List.getElem?_map, List.getElem?_set]
  by_cases h : i = j
  · subst h; simp [hi, tRow]
  · simp [h]
theorem TInv.push {rows : List TRow} {clk c : Nat} {a : Option Addr} {ts : List Turn} {t : Turn} (hI : TInv rows clk ts) (hn : findRow (t.row, t.rung) (rows.map tRow) 0 = none) : TInv (rows ++ [⟨(t.row, t.rung), a, c, [t.bit], clk⟩]) (clk + 1) (ts ++ [t]) := by
  obtain ⟨h0, h1⟩ := findRow_tRow_none hn
  refine ⟨fun k => ?_, fun r hr => ?_, fun i j x y hx hy he => ?_⟩
  · rw [bitsOf_snoc]
    unfold rowsGet
    rw [List.find?_append]
    by_cases hk : (t.row, t.rung) = k
    · subst hk
      have hb := hI.get (t.row, t.rung)
      rw [h0] at hb
      have : rows.find? (fun r => decide (r.key = (t.row, t.rung))) = none := by
        rw [List.find?_eq_none]; intro r hr; simpa using h1 r hr
      rw [this, if_pos rfl, ← hb]; simp
    · rw [if_neg hk, ← hI.get k]
      unfold rowsGet
      cases rows.find? (fun r => decide (r.key = k)) with
      | none => simp [hk]
      | some r => rfl
  · rcases List.mem_append.1 hr with h | h
    · have := hI.lt r h; omega
    · simp at h; subst h; simp
  · have hlt : ∀ (i : Nat) (x : TRow), (rows ++ [⟨(t.row, t.rung), a, c, [t.bit], clk⟩])[i]? = some x → (i < rows.length ∧ rows[i]? = some x ∧ x.born < clk) ∨ (i = rows.length ∧ x.born = clk) := by
      intro i x h
      rcases Nat.lt_or_ge i rows.length with g | g
      · rw [List.getElem?_append_left g] at h
        exact .inl ⟨g, h, hI.lt x (List.mem_of_getElem? h)⟩
      · rw [List.getElem?_append_right g] at h
        cases hz : i - rows.length with
        | zero => rw [hz] at h; simp at h; exact .inr ⟨by omega, by rw [← h]⟩
        | succ m => rw [hz] at h; simp at h
    rcases hlt i x hx with ⟨g1, g2, g3⟩ | ⟨g1, g2⟩ <;> rcases hlt j y hy with ⟨k1, k2, k3⟩ | ⟨k1, k2⟩
    · exact hI.inj i j x y g2 k2 he
    · omega
    · omega
    · omega
theorem TInv.set {rows : List TRow} {clk c i : Nat} {a : Option Addr} {ts : List Turn} {t : Turn} {r0 : TRow} {v : Value} (hI : TInv rows clk ts) (hn : findRow (t.row, t.rung) (rows.map tRow) 0 = some (i, v)) (hr0 : rows[i]? = some r0) : TInv (rows.set i ⟨r0.key, a, c, r0.xs ++ [t.bit], r0.born⟩) clk (ts ++ [t]) := by
  obtain ⟨r1, g1, g2, _, g4, g5⟩ := findRow_tRow_some hn
  have : r1 = r0 := by rw [g1] at hr0; exact Option.some.inj hr0
  subst this
  have hi : i < rows.length := (List.getElem?_eq_some_iff.1 g1).1
  refine ⟨fun k => ?_, fun r hr => ?_, fun m j x y hx hy he => ?_⟩
  · rw [bitsOf_snoc]
    by_cases hk : (t.row, t.rung) = k
    · subst hk
      rw [if_pos rfl, ← hI.get, g4]
      unfold rowsGet
      have : (rows.set i ⟨r1.key, a, c, r1.xs ++ [t.bit], r1.born⟩).find? (fun r => decide (r.key = (t.row, t.rung))) = some ⟨r1.key, a, c, r1.xs ++ [t.bit], r1.born⟩ := by
        rw [List.find?_eq_some_iff_getElem]
        refine ⟨by simpa using g2, i, by simpa using hi, by simp, fun j hj => ?_⟩
        rw [List.getElem_set_ne (by omega)]
        simpa using g5 j rows[j] hj (List.getElem?_eq_getElem (by omega))
      rw [this]
    · rw [if_neg hk, ← hI.get k]
      unfold rowsGet
      have hne : r1.key ≠ k := fun e => hk (g2.symm.trans e)
      have key : ∀ (rows : List TRow) (i : Nat), rows[i]? = some r1 → (rows.set i ⟨r1.key, a, c, r1.xs ++ [t.bit], r1.born⟩).find? (fun r => decide (r.key = k)) = rows.find? (fun r => decide (r.key = k)) := by
        intro rows
        induction rows with
        | nil => intro i h; simp at h
        | cons q qs ih =>
          intro i h
          cases i with
          | zero => simp at h; subst h; simp [hne]
          | succ i =>
            rw [List.set_cons_succ, List.find?_cons, List.find?_cons, ih i (by simpa using h)]
      rw [key rows i g1]
  · rcases List.mem_or_eq_of_mem_set hr with h | h
    · exact hI.lt r h
    · subst h; exact hI.lt r1 (List.mem_of_getElem? g1)
  · have hb : ∀ (m : Nat) (x : TRow), (rows.set i ⟨r1.key, a, c, r1.xs ++ [t.bit], r1.born⟩)[m]? = some x → ∃ x', rows[m]? = some x' ∧ x'.born = x.born := by
      intro m x h
      rw [List.getElem?_set] at h
      by_cases e : i = m
      · subst e; simp [hi] at h; exact ⟨r1, g1, by rw [← h]⟩
      · rw [if_neg e] at h; exact ⟨x, h, rfl⟩
    obtain ⟨x', h1, h2⟩ := hb m x hx
    obtain ⟨y', h3, h4⟩ := hb j y hy
    exact hI.inj m j x' y' h1 h3 (by omega)
theorem tinv_end {rows : List TRow} {clk k : Nat} {ts : List Turn} (hI : TInv rows clk (ts.take k)) (hk : ts.length ≤ k) : ∀ κ, rowsGet κ rows = bitsOf κ ts := by
  have := hI.get
  rwa [List.take_of_length_le hk] at this
theorem take_snocT {ts : List Turn} {k : Nat} (h : k < ts.length) : ts.take k ++ [ts.getD k default] = ts.take (k + 1) := by
  rw [List.take_succ_eq_append_getElem h]; simp [h]
end Sv
