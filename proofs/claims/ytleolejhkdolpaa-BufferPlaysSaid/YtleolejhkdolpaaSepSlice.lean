/- Slices: owned or shared rows of cells, reading, making, appending. -/
import Derived.Test.YtleolejhkdolpaaSepMem
namespace Sv
open Go Go.RowKit
variable {W0 : World} {L : List HProp} {w : World} {P : Program} {N : Nat} {K : Env → World → Prop} {g : Option (Nat × Bool)} {e : Env} {d : Nat} {ty : TypeId} {pos : String} {af : Array Edge}

/-- a slice value `.slice a n c` whose elements (sz cells each) are the cells cs; s: the block is shared (never written again) -/
def SL (s : Bool) (sz : Nat) (a : Option Addr) (n c : Nat) (cs : List Value) : HProp := fun h =>
  cs.length = n * sz ∧ n ≤ c ∧ ((a = none ∧ n = 0 ∧ c = 0) ∨ ∃ b o T pre post, a = some ⟨b, o, none⟩ ∧ pre.length = o ∧ (c - n) * sz ≤ post.length ∧ h b = some (s, .cells (pre ++ cs ++ post).toArray T (0, 0)))
/-- what a slice reads, in a world -/
def Rd (w : World) (sz : Nat) (a : Option Addr) (n : Nat) (cs : List Value) : Prop := cs.length = n * sz ∧ (0 < n → ∃ b o, a = some ⟨b, o, none⟩ ∧ Rdn w b o cs)
/-- the same, of the world that the call began in -/
def ROs (W0 : World) (sz : Nat) (a : Option Addr) (n : Nat) (cs : List Value) : Prop := cs.length = n * sz ∧ (0 < n → ∃ b o, a = some ⟨b, o, none⟩ ∧ b < W0.heap.size ∧ Rdn W0 b o cs)
/-- what a frame tells of every world in which it stands -/
def Ent (W0 : World) (F : HProp) (X : World → Prop) : Prop := ∀ w, sat W0 [F] w → X w

theorem rdn_ro {b o : Nat} {cs : List Value} (hb : b < W0.heap.size) (h : Rdn W0 b o cs) (k : sat W0 L w) : Rdn w b o cs := fun j v hj => by
  rw [k.1.cell (p := ⟨b, o + j, none⟩) hb]; exact h j v hj
theorem Rd_ro {sz n : Nat} {a : Option Addr} {cs : List Value} (h : ROs W0 sz a n cs) (k : sat W0 L w) : Rd w sz a n cs :=
  ⟨h.1, fun hn => let ⟨b, o, ha, hb, hr⟩ := h.2 hn; ⟨b, o, ha, rdn_ro hb hr k⟩⟩
theorem Ent_ro {sz n : Nat} {a : Option Addr} {cs : List Value} {F : HProp} (h : ROs W0 sz a n cs) : Ent W0 F (fun w => Rd w sz a n cs) := fun _ k => Rd_ro h k
theorem Ent_stars {A : HProp} {M : List HProp} {X : World → Prop} (i : Nat) (hi : M[i]? = some A) (h : Ent W0 A X) : Ent W0 (stars M) X := fun w k =>
  h w (sat_at i hi (by simpa using sat_flat (L := []) k))
theorem Ent_sat {A : HProp} {X : World → Prop} (i : Nat) (hi : L[i]? = some A) (h : Ent W0 A X) (k : sat W0 L w) : X w := h w (sat_at i hi k)
theorem take_mid (pre cs post : List Value) : ((pre ++ cs ++ post).drop pre.length).take cs.length = cs := by
  simp [List.append_assoc, List.drop_left', List.take_left']
theorem Ent_SL {s : Bool} {sz n c : Nat} {a : Option Addr} {cs : List Value} : Ent W0 (SL s sz a n c cs) (fun w => Rd w sz a n cs) := fun w k => by
  obtain ⟨_, h, hh, h1, h2, _, l1, _, ⟨hlen, hnc, hcase⟩, _⟩ := k
  refine ⟨hlen, fun hn => ?_⟩
  rcases hcase with ⟨_, h0, _⟩ | ⟨b, o, T, pre, post, ha, ho, _, hb⟩
  · omega
  · subst ho
    exact ⟨b, _, ha, rdn_of_heap (hh _ _ _ (l1 _ _ hb)).2 (take_mid pre cs post)⟩
theorem sat_SL_len {s : Bool} {sz n c : Nat} {a : Option Addr} {cs : List Value} (k : sat W0 (SL s sz a n c cs :: L) w) : cs.length = n * sz ∧ n ≤ c := by
  obtain ⟨_, h, hh, h1, h2, _, l1, _, ⟨hlen, hnc, hcase⟩, _⟩ := k
  exact ⟨hlen, hnc⟩
/-- an empty slice -/
theorem sat_SL_nil {s : Bool} {sz : Nat} (k : sat W0 L w) : sat W0 (SL s sz none 0 0 [] :: L) w := by
  refine sat_imp (A := emp) (fun h _ => ⟨by simp, Nat.le_refl _, .inl ⟨rfl, rfl, rfl⟩⟩) (sat_emp_intro k)
/-- a block known whole is a slice -/
theorem sat_SL_blk {sz n b T : Nat} {cs : List Value} (hl : cs.length = n * sz) (k : sat W0 (blk b cs T :: L) w) : sat W0 (SL false sz (some ⟨b, 0, none⟩) n n cs :: L) w := by
  refine sat_imp (fun h hb => ⟨hl, Nat.le_refl _, .inr ⟨b, 0, T, [], [], rfl, rfl, by simp, ?_⟩⟩) k
  simpa [blk, pts] using hb
theorem sat_SL_share {sz n c : Nat} {a : Option Addr} {cs : List Value} (k : sat W0 (SL false sz a n c cs :: L) w) : sat W0 (SL true sz a n c cs :: L) w := by
  by_cases ha : a = none
  · refine sat_imp (fun h hb => ?_) k
    obtain ⟨h1, h2, h3 | ⟨b, o, T, pre, post, h3, _⟩⟩ := hb
    · exact ⟨h1, h2, .inl h3⟩
    · rw [ha] at h3; cases h3
  · have k' : sat W0 (hex (fun (x : Nat × Nat × Nat × List Value × List Value) => fun h => cs.length = n * sz ∧ n ≤ c ∧ a = some ⟨x.1, x.2.1, none⟩ ∧ x.2.2.2.1.length = x.2.1 ∧ (c - n) * sz ≤ x.2.2.2.2.length ∧ pts x.1 (.cells (x.2.2.2.1 ++ cs ++ x.2.2.2.2).toArray x.2.2.1 (0, 0)) h) :: L) w := by
      refine sat_imp (fun h hb => ?_) k
      obtain ⟨h1, h2, h3 | ⟨b, o, T, pre, post, h3, h4, h5, h6⟩⟩ := hb
      · exact absurd h3.1 ha
      · exact ⟨(b, o, T, pre, post), h1, h2, h3, h4, h5, h6⟩
    obtain ⟨⟨b, o, T, pre, post⟩, k'⟩ := sat_ex k'
    obtain ⟨_, h, hh, h1, h2, d', l1, l2, ⟨g1, g2, g3, g4, g5, g6⟩, s2⟩ := k'
    have k2 : sat W0 (pts b (.cells (pre ++ cs ++ post).toArray T (0, 0)) :: L) w := ⟨k.1, h, hh, h1, h2, d', l1, l2, g6, s2⟩
    refine sat_imp (fun h hb => ⟨g1, g2, .inr ⟨b, o, T, pre, post, g3, g4, g5, hb⟩⟩) (sat_share k2)
theorem SL_dup {sz n c : Nat} {a : Option Addr} {cs : List Value} (k : sat W0 (SL true sz a n c cs :: L) w) : sat W0 (SL true sz a n c cs :: SL true sz a n c cs :: L) w := by
  by_cases ha : a = none
  · obtain ⟨_, h, hh, h1, h2, d', l1, l2, hb, s2⟩ := id k
    obtain ⟨h1', h2', h3 | ⟨b, o, T, pre, post, h3, _⟩⟩ := hb
    · refine sat_imp (A := emp) (fun h _ => ⟨h1', h2', .inl h3⟩) (sat_emp_intro k)
    · rw [ha] at h3; cases h3
  · have k' : sat W0 (hex (fun (x : Nat × Nat × Nat × List Value × List Value) => fun h => cs.length = n * sz ∧ n ≤ c ∧ a = some ⟨x.1, x.2.1, none⟩ ∧ x.2.2.2.1.length = x.2.1 ∧ (c - n) * sz ≤ x.2.2.2.2.length ∧ shr x.1 (.cells (x.2.2.2.1 ++ cs ++ x.2.2.2.2).toArray x.2.2.1 (0, 0)) h) :: L) w := by
      refine sat_imp (fun h hb => ?_) k
      obtain ⟨h1, h2, h3 | ⟨b, o, T, pre, post, h3, h4, h5, h6⟩⟩ := hb
      · exact absurd h3.1 ha
      · exact ⟨(b, o, T, pre, post), h1, h2, h3, h4, h5, h6⟩
    obtain ⟨⟨b, o, T, pre, post⟩, k'⟩ := sat_ex k'
    obtain ⟨_, h, hh, h1, h2, d', l1, l2, ⟨g1, g2, g3, g4, g5, g6⟩, s2⟩ := k'
    have k2 : sat W0 (shr b (.cells (pre ++ cs ++ post).toArray T (0, 0)) :: L) w := ⟨k.1, h, hh, h1, h2, d', l1, l2, g6, s2⟩
    have imp : ∀ h, shr b (.cells (pre ++ cs ++ post).toArray T (0, 0)) h → SL true sz a n c cs h := fun h hb => ⟨g1, g2, .inr ⟨b, o, T, pre, post, g3, g4, g5, hb⟩⟩
    have k3 := sat_imp imp (sat_shr_dup k2)
    exact sat_perm (.swap _ _ _) (sat_imp imp (sat_perm (.swap _ _ _) k3))
/-- an owned slice that is not nil, opened -/
theorem sat_SL_open {sz n c : Nat} {a : Option Addr} {cs : List Value} (ha : a ≠ none) (k : sat W0 (SL false sz a n c cs :: L) w) :
    ∃ b o T pre post, a = some ⟨b, o, none⟩ ∧ pre.length = o ∧ (c - n) * sz ≤ post.length ∧ cs.length = n * sz ∧ n ≤ c ∧ sat W0 (blk b (pre ++ cs ++ post) T :: L) w := by
  have k' : sat W0 (hex (fun (x : Nat × Nat × Nat × List Value × List Value) => fun h => cs.length = n * sz ∧ n ≤ c ∧ a = some ⟨x.1, x.2.1, none⟩ ∧ x.2.2.2.1.length = x.2.1 ∧ (c - n) * sz ≤ x.2.2.2.2.length ∧ blk x.1 (x.2.2.2.1 ++ cs ++ x.2.2.2.2) x.2.2.1 h) :: L) w := by
    refine sat_imp (fun h hb => ?_) k
    obtain ⟨h1, h2, h3 | ⟨b, o, T, pre, post, h3, h4, h5, h6⟩⟩ := hb
    · exact absurd h3.1 ha
    · exact ⟨(b, o, T, pre, post), h1, h2, h3, h4, h5, h6⟩
  obtain ⟨⟨b, o, T, pre, post⟩, k'⟩ := sat_ex k'
  obtain ⟨_, h, hh, h1, h2, d', l1, l2, ⟨g1, g2, g3, g4, g5, g6⟩, s2⟩ := k'
  exact ⟨b, o, T, pre, post, g3, g4, g5, g1, g2, k.1, h, hh, h1, h2, d', l1, l2, g6, s2⟩
theorem sat_SL_shut {sz n c b o T : Nat} {cs pre post : List Value} (hl : cs.length = n * sz) (hn : n ≤ c) (ho : pre.length = o) (hp : (c - n) * sz ≤ post.length) (k : sat W0 (blk b (pre ++ cs ++ post) T :: L) w) : sat W0 (SL false sz (some ⟨b, o, none⟩) n c cs :: L) w :=
  sat_imp (fun _ hb => ⟨hl, hn, .inr ⟨b, o, T, pre, post, rfl, ho, hp, hb⟩⟩) k
theorem sat_SL_some {s : Bool} {sz n c : Nat} {a : Option Addr} {cs : List Value} (hn : 0 < c) (k : sat W0 (SL s sz a n c cs :: L) w) : ∃ b o, a = some ⟨b, o, none⟩ := by
  obtain ⟨_, h, hh, h1, h2, _, l1, _, ⟨hlen, hnc, hcase⟩, _⟩ := k
  rcases hcase with ⟨_, _, h0⟩ | ⟨b, o, T, pre, post, ha, _⟩
  · omega
  · exact ⟨b, o, ha⟩
/-- one cell out of what is read -/
theorem Rd.cell {sz n : Nat} {b o : Nat} {cs : List Value} {v : Value} (h : Rd w sz (some ⟨b, o, none⟩) n cs) (hn : 0 < n) (i : Nat) (hv : cs[i]? = some v) : w.cell? ⟨b, o + i, none⟩ = some v := by
  obtain ⟨b', o', ha, hr⟩ := h.2 hn
  cases ha
  exact hr i v hv
theorem Rd.rdn {sz n : Nat} {b o : Nat} {cs : List Value} (h : Rd w sz (some ⟨b, o, none⟩) n cs) (hn : 0 < n) (i : Nat) (vs : List Value) (hv : (cs.drop i).take vs.length = vs) : Rdn w b (o + i) vs := by
  obtain ⟨b', o', ha, hr⟩ := h.2 hn
  cases ha
  intro j v hj
  have hlt : j < vs.length := by
    rcases Nat.lt_or_ge j vs.length with h | h
    · exact h
    · rw [List.getElem?_eq_none h] at hj; cases hj
  rw [← hv, List.getElem?_take, if_pos hlt, List.getElem?_drop] at hj
  have := hr (i + j) v hj
  rwa [← Nat.add_assoc] at this
theorem Rd.some {sz n : Nat} {a : Option Addr} {cs : List Value} (h : Rd w sz a n cs) (hn : 0 < n) : ∃ b o, a = .some ⟨b, o, none⟩ :=
  let ⟨b, o, ha, _⟩ := h.2 hn; ⟨b, o, ha⟩

/-! ## Places in a slice -/
def adr (a : Option Addr) (k : Nat) : Addr := match a with
  | .some x => ⟨x.block, x.off + k, none⟩
  | .none => ⟨0, k, none⟩
theorem adr_add (a : Option Addr) (k j : Nat) : (adr a k).add j = adr a (k + j) := by
  cases a with
  | none => exact addr_add _ _ _
  | some x => exact (addr_add _ _ _).trans (by simp [adr, Nat.add_assoc])
theorem Rd.adr {sz n : Nat} {a : Option Addr} {cs : List Value} {v : Value} (h : Rd w sz a n cs) (i : Nat) (hv : cs[i]? = .some v) : w.cell? (Sv.adr a i) = .some v := by
  have hl := h.1
  have hn : 0 < n := by
    rcases Nat.eq_zero_or_pos n with h0 | h0
    · subst h0; simp at hl; subst hl; simp at hv
    · exact h0
  obtain ⟨b, o, rfl, hr⟩ := h.2 hn
  exact hr i v hv
theorem run_loadSA {t : TypeId} {p : Addr} {v : Value} (ht : scalarT P t = true) (hc : w.cell? p = some v) : (loadVar t p).run P w = .ok v w := by
  simp [loadVar, run_isAgg_false ht, hc]
theorem run_loadAA {t : TypeId} {a : Option Addr} {k : Nat} {vs : List Value} (ht : aggT P t = true) (hs : sizeT P t = some vs.length) (hc : ∀ j v, vs[j]? = some v → w.cell? (adr a (k + j)) = some v) : (loadVar t (adr a k)).run P w = .ok (.agg vs.toArray) w := by
  cases a with
  | none => exact run_loadA ht hs (fun j v hj => hc j v hj)
  | some x => exact run_loadA ht hs (fun j v hj => by have := hc j v hj; simpa [adr, Nat.add_assoc] using this)
/-- the address of an element, its index a Nat -/
theorem OP.indexR {t el sz n c : Nat} {a : Option Addr} {cs : List Value} {x y : Operand} {kd : IntKind} {j : Int} (i : Nat) (hr : Rd w sz a n cs) (ht : P.underlying t = some (.slice el)) (hsz : sizeT P el = some sz) (hx : evalE e x = .slice a n c) (hy : evalE e y = .int kd j) (hj : j = (i : Int)) (hi : i < n) (hd : d < N)
    (k : K (upd e d (.pointer (some (adr a (i * sz))))) w) : OPw P N ⟨some d, .indexAddr t x y, ty, pos, af, g⟩ K e w := by
  obtain ⟨b, o, rfl, _⟩ := hr.2 (by omega)
  exact OP.indexAddr i ht hsz hx hy hj hi hd k
theorem OP.fieldAddrR {t : TypeId} {x : Operand} {i o k0 : Nat} {a : Option Addr} (h : fieldOff P t i = some o) (hx : evalE e x = .pointer (some (adr a k0))) (hd : d < N) (k : K (upd e d (.pointer (some (adr a (k0 + o))))) w) : OPw P N ⟨some d, .fieldAddr t x i, ty, pos, af, g⟩ K e w := by
  cases a with
  | none => exact OP.fieldAddr (k0 + o) h hx rfl hd k
  | some y =>
    refine OP.fieldAddr (y.off + (k0 + o)) h hx (by omega) hd ?_
    exact k
theorem OP.loadSR {t sz n k0 : Nat} {a : Option Addr} {cs : List Value} {x : Operand} (v : Value) (hr : Rd w sz a n cs) (hv : cs[k0]? = some v) (ht : scalarT P t = true) (hx : evalE e x = .pointer (some (adr a k0))) (hd : d < N) (k : K (upd e d v) w) : OPw P N ⟨some d, .load t x, ty, pos, af, g⟩ K e w :=
  OP.val hd (by simp [execOp, hx, Instr.loadAt, Instr.sureAddr, run_loadSA ht (hr.adr k0 hv)]) k
theorem OP.loadAR {t sz n k0 : Nat} {a : Option Addr} {cs : List Value} {x : Operand} (vs : List Value) (hr : Rd w sz a n cs) (hv : (cs.drop k0).take vs.length = vs) (ht : aggT P t = true) (hs : sizeT P t = some vs.length) (hx : evalE e x = .pointer (some (adr a k0))) (hd : d < N) (k : K (upd e d (.agg vs.toArray)) w) : OPw P N ⟨some d, .load t x, ty, pos, af, g⟩ K e w :=
  OP.val hd (by
    have := run_loadAA (P := P) (k := k0) ht hs (a := a) (w := w) (fun j v hj => hr.adr (k0 + j) (by
      have hlt : j < vs.length := by
        rcases Nat.lt_or_ge j vs.length with h | h
        · exact h
        · rw [List.getElem?_eq_none h] at hj; cases hj
      rw [← hv, List.getElem?_take, if_pos hlt, List.getElem?_drop] at hj
      exact hj))
    simp [execOp, hx, Instr.loadAt, Instr.sureAddr, this]) k

/-! ## Stores into an owned slice -/
theorem putAt_mid (pre : List Value) : ∀ (vs cs post : List Value) (i : Nat), i + vs.length ≤ cs.length → putAt (pre ++ cs ++ post) (pre.length + i) vs = pre ++ putAt cs i vs ++ post := by
  intro vs
  induction vs with
  | nil => intro cs post i _; rfl
  | cons v vs ih =>
    intro cs post i h
    simp only [List.length_cons] at h
    have hs : (pre ++ cs ++ post).set (pre.length + i) v = pre ++ cs.set i v ++ post := by
      rw [List.append_assoc, List.set_append_right _ _ (by omega), List.set_append_left _ _ (by omega), List.append_assoc]
      congr 3; omega
    simp only [putAt, hs]
    rw [Nat.add_assoc]
    exact ih (cs.set i v) post (i + 1) (by simp; omega)
theorem OP.storeSL {t : TypeId} {x y : Operand} {i m sz n c : Nat} {a : Option Addr} {cs : List Value} (v : Value) (vs : List Value) (hs : sat W0 (SL false sz a n c cs :: L) w) (hx : evalE e x = .pointer (some (adr a i))) (hy : evalE e y = v) (hv : v.cells = vs.toArray) (hn : sizeT P t = some m) (hvn : vs.length = m) (hone : vs.all Value.oneCell' = true) (hi : i + vs.length ≤ cs.length)
    (k : ∀ w', sat W0 (SL false sz a n c (putAt cs i vs) :: L) w' → K e w') : OPw P N ⟨none, .store t x y, ty, pos, af, g⟩ K e w := by
  by_cases ha : a = none
  · have hl := (sat_SL_len hs)
    have : ¬ (0 < c) := fun h => by obtain ⟨b, o, h⟩ := sat_SL_some h hs; rw [ha] at h; cases h
    have h0 : n = 0 := by omega
    rw [h0] at hl
    have hvs : vs = [] := List.length_eq_zero_iff.1 (by omega)
    subst hvs
    refine OP.skip (w' := w) ?_ (k w hs)
    simp only [List.length_nil] at hvn
    subst hvn
    have hsc : storeCells (adr a i) [] = pure () := by simp [storeCells]
    simp [execOp, hx, hy, Instr.storeAt, Instr.sureAddr, storeVar, hv, run_sizeOf hn, storeCells]
  · obtain ⟨b, o, T, pre, post, rfl, hp, hq, hl, hnc, hs'⟩ := sat_SL_open ha hs
    refine OP.store v vs hs' hx hy hv hn hvn hone (by simp; omega) (fun w' h' => k w' ?_)
    rw [← hp, putAt_mid pre vs cs post i hi] at h'
    exact sat_SL_shut (by rw [putAt_length]; exact hl) hnc hp hq h'
end Sv
