/- make, append, copy. -/
import Derived.Test.YtleolejhkdolpaaSepSlice
namespace Sv
open Go Go.RowKit
variable {W0 : World} {L : List HProp} {w : World} {P : Program} {N : Nat} {K : Env → World → Prop} {g : Option (Nat × Bool)} {e : Env} {d : Nat} {ty : TypeId} {pos : String} {af : Array Edge}

/-- n elements, each of the cells z -/
def reps (n : Nat) (z : List Value) : List Value := (List.replicate n z).flatten
theorem reps_length (n : Nat) (z : List Value) : (reps n z).length = n * z.length := by
  simp [reps]
theorem reps_one (n : Nat) (v : Value) : reps n [v] = List.replicate n v := by
  unfold reps
  induction n with
  | zero => rfl
  | succ n ih => rw [List.replicate_succ, List.replicate_succ, List.flatten_cons, ih]; rfl
theorem range_reps (z : List Value) (n : Nat) : (List.range (n * z.length)).map (fun i => z.toArray[i % z.length]!) = reps n z := by
  induction n with
  | zero => simp [reps]
  | succ n ih =>
    have h : reps (n + 1) z = reps n z ++ z := by
      unfold reps
      rw [List.replicate_succ', List.flatten_append]; simp
    rw [h, ← ih, Nat.succ_mul, List.range_add, List.map_append, List.map_map]
    congr 1
    apply List.ext_getElem
    · simp
    · intro i h1 h2
      simp only [List.length_map, List.length_range] at h1
      have : (n * z.length + i) % z.length = i := by rw [Nat.mul_comm, Nat.mul_add_mod, Nat.mod_eq_of_lt h1]
      simp [this, h1]
theorem range_reps_arr (z : List Value) (n : Nat) : (Array.range (n * z.length)).map (fun i => z.toArray[i % z.toArray.size]!) = (reps n z).toArray := by
  apply Array.toList_inj.1
  simp only [Array.toList_map, Array.toList_range, List.size_toArray]
  exact range_reps z n
theorem info_all {t : TypeId} {sz by' : Nat} {zv : Value} (h1 : sizeT P t = some sz) (h2 : bytesT P t = some by') (h3 : zeroT P t = some zv) : ∃ i, P.info? t = some i ∧ i.size = sz ∧ i.bytes = by' ∧ i.zero = some zv := by
  unfold sizeT at h1; unfold bytesT at h2; unfold zeroT at h3
  cases hi : P.info? t with
  | none => simp [hi] at h1
  | some i => simp [hi] at h1 h2 h3; exact ⟨i, rfl, h1, h2, h3⟩
theorem run_makeSlice {t el sz by' n : Nat} {z : List Value} {zv : Value} {kd kd' : IntKind} (ht : P.underlying t = some (.slice el)) (hi : ∃ i, P.info? el = some i ∧ i.size = sz ∧ i.bytes = by' ∧ i.zero = some zv) (hz : zv.cells = z.toArray) (hzl : z.length = sz) (hb : by' * n ≤ 281474976710656) (hn : n ≤ 9223372036854775807) (w : World) :
    (Instr.makeSlice t (.int kd (n : Int)) (.int kd' (n : Int))).run P w = .ok (.slice (some ⟨w.heap.size, 0, none⟩) n n) (w.alloc (.cells (reps n z).toArray el (0, 0))) := by
  obtain ⟨i, hi, rfl, rfl, hzi⟩ := hi
  have hw : IntKind.i64.wrap (n : Int) = (n : Int) := wrap_i64 (by unfold inI64; omega)
  have h1 : ¬ ((n : Int) < 0) := by omega
  have h2 : ¬ ((281474976710656 : Int) < (i.bytes : Int) * (n : Int)) := by
    have : (i.bytes : Int) * (n : Int) = ((i.bytes * n : Nat) : Int) := by simp
    rw [this]; omega
  have hsz : sizeT P el = some i.size := by simp [sizeT, hi]
  have hzt : zeroT P el = some zv := by simp [zeroT, hi, hzi]
  by_cases h0 : n * i.size = 0
  · have hr : reps n z = [] := by
      have := reps_length n z
      rw [hzl, h0] at this
      exact List.length_eq_zero_iff.1 this
    simp [Instr.makeSlice, run_underlying ht, asInt, asIntOf, run_typeInfo hi, hw, h1, h2, run_sizeOf hsz, h0, newRow, hr]
    exact congrArg (fun c => w.alloc (Obj.cells c el)) (by apply Array.ext <;> simp)
  · have hmap := range_reps_arr z n
    rw [hzl] at hmap
    simp only [List.size_toArray] at hmap
    rw [hzl] at hmap
    simp [Instr.makeSlice, run_underlying ht, asInt, asIntOf, run_typeInfo hi, hw, h1, h2, run_sizeOf hsz, h0, newRow, run_zeroValue hzt, hz, hzl]
    have hm2 : Array.map (fun x => z[x % i.size]?.getD default) (Array.range (n * i.size)) = (reps n z).toArray := by simpa using hmap
    rw [hm2]
theorem OP.makeSlice {t el sz by' n : Nat} {x y : Operand} {z : List Value} {zv : Value} {kd kd' : IntKind} {i j : Int} (hs : sat W0 L w) (ht : P.underlying t = some (.slice el)) (hsz : sizeT P el = some sz) (hby : bytesT P el = some by') (hzv : zeroT P el = some zv) (hz : zv.cells = z.toArray) (hzl : z.length = sz) (hb : by' * n ≤ 281474976710656) (hn : n ≤ 9223372036854775807)
    (hx : evalE e x = .int kd i) (hxn : i = (n : Int)) (hy : evalE e y = .int kd' j) (hyn : j = (n : Int)) (hd : d < N)
    (k : ∀ b w', sat W0 (SL false sz (some ⟨b, 0, none⟩) n n (reps n z) :: L) w' → K (upd e d (.slice (some ⟨b, 0, none⟩) n n)) w') : OPw P N ⟨some d, .makeSlice t x y, ty, pos, af, g⟩ K e w := by
  subst hxn; subst hyn
  refine OP.new (O := .cells (reps n z).toArray el (0, 0)) (fun b => .slice (some ⟨b, 0, none⟩) n n) hs (by simp [execOp, hx, hy, run_makeSlice ht (info_all hsz hby hzv) hz hzl hb hn]) hd (fun b w' h => k b w' ?_)
  exact sat_SL_blk (by rw [reps_length, hzl]) h

theorem run_firstCells {sz n c : Nat} {a : Option Addr} {cs : List Value} (h : Rd w sz a n cs) : (Builtin.firstCells sz n (.slice a n c)).run P w = .ok cs.toArray w := by
  have hl := h.1
  cases a with
  | none =>
    have : n = 0 := by
      rcases Nat.eq_zero_or_pos n with h0 | h0
      · exact h0
      · obtain ⟨_, _, h, _⟩ := h.2 h0; cases h
    subst this
    have : cs = [] := List.length_eq_zero_iff.1 (by simpa using hl)
    subst this
    simp [Builtin.firstCells]
  | some a =>
    rcases Nat.eq_zero_or_pos n with h0 | h0
    · subst h0
      have : cs = [] := List.length_eq_zero_iff.1 (by simpa using hl)
      subst this
      simp [Builtin.firstCells, loadCells, loadCellsFrom]
    · obtain ⟨b, o, ha, hr⟩ := h.2 h0
      cases ha
      rw [Builtin.firstCells, loadCells, ← hl]
      have := run_loadCellsFrom (P := P) cs 0 #[] hr
      simpa using this
theorem growBy_le (newLen : Nat) : ∀ (k c : Nat), c ≤ newLen → newLen ≤ 1099511627776 → Builtin.growBy newLen k c ≤ 2 * newLen + 768 := by
  intro k
  induction k with
  | zero => intro c h _; simp [Builtin.growBy]; omega
  | succ k ih =>
    intro c h hn
    simp only [Builtin.growBy]
    split
    · omega
    · by_cases h' : c + (c + 768) / 4 ≤ newLen
      · exact ih _ h' hn
      · cases k with
        | zero => simp only [Builtin.growBy]; omega
        | succ k => simp only [Builtin.growBy]; rw [if_pos (by omega)]; omega
theorem nextcap_le (need old : Nat) (h : old < need) (hn : need ≤ 1099511627776) : Builtin.nextslicecap need old ≤ 2 * need + 768 := by
  unfold Builtin.nextslicecap
  split
  · omega
  · split
    · omega
    · exact growBy_le _ _ _ (by omega) hn
/-- append: a slice that is owned, and what another one reads -/
theorem OP.append {t el sz by' n c m mc : Nat} {x y : Operand} {at' : Array TypeId} {a xa : Option Addr} {cs ds : List Value} {zv : Value} {z : List Value} (hs : sat W0 (SL false sz a n c cs :: L) w) (hr : Rd w sz xa m ds)
    (ht : P.underlying t = some (.slice el)) (hsz : sizeT P el = some sz) (hby : bytesT P el = some by') (hzt : zeroT P el = some zv) (hz : zv.cells = z.toArray) (hzl : z.length = sz) (hb : (2 * (n + m) + 768) * by' ≤ 281474976710656) (hnm : n + m ≤ 1099511627776) (hone : ∀ v ∈ ds, v.oneCell' = true)
    (hat : at' = #[t, t]) (hx : evalE e x = .slice a n c) (hy : evalE e y = .slice xa m mc) (hd : d < N)
    (k : ∀ a' c' w', sat W0 (SL false sz a' (n + m) c' (cs ++ ds) :: L) w' → K (upd e d (.slice a' (n + m) c')) w') : OPw P N ⟨some d, .call ⟨.builtin .append, #[x, y], at'⟩, ty, pos, af, g⟩ K e w := by
  subst hat
  have hRa : Rd w sz a n cs := Ent_sat 0 rfl Ent_SL hs
  obtain ⟨i, hi, hsz', hby, hzi⟩ := info_all hsz hby hzt
  have hlen := hr.1
  by_cases hroom : n + m ≤ c
  · -- in place
    cases ha : a with
    | none =>
      have h0 : c = 0 := by
        rcases Nat.eq_zero_or_pos c with h | h
        · exact h
        · obtain ⟨_, _, h⟩ := sat_SL_some h hs; rw [ha] at h; cases h
      have hm0 : m = 0 := by omega
      have hn0 : n = 0 := by omega
      have hds : ds = [] := List.length_eq_zero_iff.1 (by rw [hlen, hm0]; simp)
      subst h0; subst hm0; subst hn0; subst hds; subst ha
      refine OP.val (v := .slice none 0 0) hd ?_ (k none 0 w (by simpa using hs))
      simp [execOp, hx, hy, resolve, invoke, builtin, Builtin.append_, run_underlying ht, run_sizeOf hsz, Builtin.lenOf, run_firstCells hr]
    | some a0 =>
      obtain ⟨b, o, T, pre, post, ha', hp, hq, hl, hnc, hs'⟩ := sat_SL_open (by rw [ha]; simp) hs
      have hae : a0 = ⟨b, o, none⟩ := by rw [ha] at ha'; simpa using ha'
      subst hae
      subst hp
      have hmz : m * sz ≤ (c - n) * sz := Nat.mul_le_mul_right _ (by omega)
      obtain ⟨w', hrun, hs2⟩ := run_storeCells (P := P) (o := pre.length + n * sz) ds 0 _ w hone (by simp; omega) hs'
      refine OP.val (v := .slice (some ⟨b, pre.length, none⟩) (n + m) c) hd ?_ (k _ c w' ?_)
      · rw [ha] at hx
        simp [execOp, hx, hy, resolve, invoke, builtin, Builtin.append_, run_underlying ht, run_sizeOf hsz, Builtin.lenOf, run_firstCells hr, hroom, addr_add, hrun]
      · have e1 : pre ++ cs ++ post = pre ++ (cs ++ post) ++ [] := by simp
        rw [e1, show pre.length + n * sz + 0 = pre.length + n * sz from rfl, putAt_mid pre ds (cs ++ post) [] (n * sz) (by simp; omega)] at hs2
        have e2 : putAt (cs ++ post) (n * sz) ds = cs ++ ds ++ post.drop ds.length := by
          rw [← hl]
          have : ∀ (ds post : List Value) (cs : List Value), ds.length ≤ post.length → putAt (cs ++ post) cs.length ds = cs ++ ds ++ post.drop ds.length := by
            intro ds
            induction ds with
            | nil => intro post cs _; simp [putAt]
            | cons v ds ih =>
              intro post cs h
              cases post with
              | nil => simp at h
              | cons u post =>
                simp only [putAt]
                rw [List.set_append_right _ _ (Nat.le_refl _), Nat.sub_self, List.set_cons_zero]
                have := ih post (cs ++ [v]) (by simpa using h)
                simpa using this
          exact this ds post cs (by omega)
        rw [e2] at hs2
        have e3 : pre ++ (cs ++ ds ++ post.drop ds.length) ++ [] = pre ++ (cs ++ ds) ++ post.drop ds.length := by simp
        rw [e3] at hs2
        refine sat_SL_shut (by simp [hl, hlen, Nat.add_mul]) hroom rfl ?_ hs2
        rw [List.length_drop, hlen, show c - (n + m) = (c - n) - m by omega, Nat.sub_mul]; omega
  · -- a new row
    have hcap : ¬ (Builtin.nextslicecap (n + m) c * i.bytes > 2 ^ 48) := by
      have h1 := nextcap_le (n + m) c (by omega) hnm
      have h2 : Builtin.nextslicecap (n + m) c * i.bytes ≤ (2 * (n + m) + 768) * i.bytes := Nat.mul_le_mul_right _ h1
      rw [hby] at h2 ⊢
      have : (2 : Nat) ^ 48 = 281474976710656 := by decide
      omega
    have hlt : ¬ (((n : Int) + (m : Int)) > IntKind.i64.max) := by
      have : IntKind.i64.max = 9223372036854775807 := rfl
      rw [this]; omega
    have hlt' : ¬ ((9223372036854775807 : Int) < (n : Int) + (m : Int)) := by omega
    have hq : (Question.appendCap (n + m) c el).forced = false := rfl
    have hsd : sat W0 L w.drew := sat_drew (sat_tail hs)
    have e1 : (Builtin.firstCells sz n (.slice a n c)).run P w.drew = .ok cs.toArray w.drew := run_firstCells (w := w.drew) hRa
    have e2 : (Builtin.firstCells sz m (.slice xa m mc)).run P w.drew = .ok ds.toArray w.drew := run_firstCells (w := w.drew) hr
    have hnc : n + m ≤ (Question.appendCap (n + m) c el).cut (w.tape w.drawn (.appendCap (n + m) c el)) := by show n + m ≤ (n + m) + _; omega
    generalize hg : (Question.appendCap (n + m) c el).cut (w.tape w.drawn (.appendCap (n + m) c el)) = nc at hnc
    have hzc : Builtin.zeroCells zv.cells (nc - (n + m)) = (reps (nc - (n + m)) z).toArray := by
      rw [hz]; unfold Builtin.zeroCells
      exact range_reps_arr z (nc - (n + m))
    refine OP.val (v := .slice (some ⟨w.heap.size, 0, none⟩) (n + m) nc) (w' := w.drew.alloc (.cells (cs ++ ds ++ reps (nc - (n + m)) z).toArray el (0, 0))) hd ?_ (k _ nc _ ?_)
    · simp only [execOp, hx, hy, resolve, invoke, builtin, Builtin.append_, Sem.run_bind, Sem.run_pure, Result.andThen_ok, List.map_toArray, List.map_cons, List.map_nil, Builtin.lenOf]
      simp [run_underlying ht, run_sizeOf hsz, hroom, run_typeInfo hi, hlt', hcap, hq, hg, e1, e2, run_zeroValue hzt, hzc, newRow]
    · have h3 := sat_new (.cells (cs ++ ds ++ reps (nc - (n + m)) z).toArray el (0, 0)) hsd
      refine sat_SL_shut (pre := []) (cs := cs ++ ds) (post := reps (nc - (n + m)) z) (T := el) (by simp [hRa.1, hlen, Nat.add_mul]) hnc rfl (by rw [reps_length, hzl]; exact Nat.le_refl _) ?_
      exact h3
/-- the same, with the new length and the new cells as one likes them written -/
theorem OP.append' {t el sz by' n c m mc : Nat} {x y : Operand} {at' : Array TypeId} {a xa : Option Addr} {cs ds : List Value} {zv : Value} {z : List Value} (nm : Nat) (cds : List Value) (hs : sat W0 (SL false sz a n c cs :: L) w) (hr : Rd w sz xa m ds)
    (ht : P.underlying t = some (.slice el)) (hsz : sizeT P el = some sz) (hby : bytesT P el = some by') (hzt : zeroT P el = some zv) (hz : zv.cells = z.toArray) (hzl : z.length = sz) (hb : (2 * nm + 768) * by' ≤ 281474976710656) (hnm : nm ≤ 1099511627776) (hone : ∀ v ∈ ds, v.oneCell' = true)
    (hat : at' = #[t, t]) (hx : evalE e x = .slice a n c) (hy : evalE e y = .slice xa m mc) (e1 : n + m = nm) (e2 : cs ++ ds = cds) (hd : d < N)
    (k : ∀ a' c' w', sat W0 (SL false sz a' nm c' cds :: L) w' → K (upd e d (.slice a' nm c')) w') : OPw P N ⟨some d, .call ⟨.builtin .append, #[x, y], at'⟩, ty, pos, af, g⟩ K e w := by
  subst e1; subst e2
  exact OP.append hs hr ht hsz hby hzt hz hzl hb hnm hone hat hx hy hd k
end Sv
