/- Separation-style reasoning over the model's heap: owned blocks, shared blocks, frames; rules for the walk of a function's code in terms of an environment of slots. -/
import Derived.WalkKit
import Derived.OrdersHeld
namespace Sv
open Go Go.RowKit

/-! ## Partial heaps -/
abbrev PH := Nat → Option (Bool × Obj)
abbrev HProp := PH → Prop
def PH.disj (a b : PH) : Prop := ∀ i, a i = none ∨ b i = none ∨ ∃ o, a i = some (true, o) ∧ b i = some (true, o)
def PH.le (a b : PH) : Prop := ∀ i x, a i = some x → b i = some x
def PH.un (a b : PH) : PH := fun i => match a i with | some x => some x | none => b i

theorem PH.le_refl (a : PH) : PH.le a a := fun _ _ h => h
theorem PH.le_trans {a b c : PH} (h : PH.le a b) (k : PH.le b c) : PH.le a c := fun i x hx => k i x (h i x hx)
theorem PH.disj_symm {a b : PH} (h : PH.disj a b) : PH.disj b a := fun i => by
  rcases h i with h | h | ⟨o, h, k⟩
  · exact .inr (.inl h)
  · exact .inl h
  · exact .inr (.inr ⟨o, k, h⟩)
theorem PH.disj_mono {a a' b b' : PH} (h : PH.disj a b) (ha : PH.le a' a) (hb : PH.le b' b) : PH.disj a' b' := fun i => by
  cases ea : a' i with
  | none => exact .inl rfl
  | some x =>
    cases eb : b' i with
    | none => exact .inr (.inl rfl)
    | some y =>
      have h1 := ha i x ea
      have h2 := hb i y eb
      rcases h i with h | h | ⟨o, h, k⟩
      · rw [h1] at h; cases h
      · rw [h2] at h; cases h
      · rw [h1] at h; rw [h2] at k
        exact .inr (.inr ⟨o, h ▸ rfl, k ▸ rfl⟩)
theorem PH.le_un_left (a b : PH) : PH.le a (PH.un a b) := fun i x h => by simp [PH.un, h]
theorem PH.le_un_right {a b : PH} (hd : PH.disj a b) : PH.le b (PH.un a b) := fun i x h => by
  rcases hd i with k | k | ⟨o, k, l⟩
  · simp [PH.un, k, h]
  · rw [h] at k; cases k
  · rw [h] at l; simp [PH.un, k, l]
theorem PH.un_le {a b c : PH} (ha : PH.le a c) (hb : PH.le b c) : PH.le (PH.un a b) c := fun i x h => by
  simp only [PH.un] at h
  cases e : a i with
  | some y => rw [e] at h; simp at h; subst h; exact ha i _ e
  | none => rw [e] at h; exact hb i x h
theorem PH.disj_un {a b c : PH} (h1 : PH.disj a b) (h2 : PH.disj a c) : PH.disj a (PH.un b c) := fun i => by
  simp only [PH.un]
  cases e : b i with
  | some y => simpa [e] using h1 i
  | none => exact h2 i

def stars : List HProp → HProp
  | [], _ => True
  | A :: L, h => ∃ h1 h2, PH.disj h1 h2 ∧ PH.le h1 h ∧ PH.le h2 h ∧ A h1 ∧ stars L h2

theorem stars_mono {L : List HProp} {h h' : PH} (hl : PH.le h h') (k : stars L h) : stars L h' := by
  cases L with
  | nil => trivial
  | cons A L =>
    obtain ⟨h1, h2, d, l1, l2, a, s⟩ := k
    exact ⟨h1, h2, d, PH.le_trans l1 hl, PH.le_trans l2 hl, a, s⟩

theorem stars_swap {A B : HProp} {L : List HProp} {h : PH} (k : stars (A :: B :: L) h) : stars (B :: A :: L) h := by
  obtain ⟨h1, h2, d, l1, l2, a, h3, h4, d', l3, l4, b, s⟩ := k
  refine ⟨h3, PH.un h1 h4, ?_, PH.le_trans l3 l2, PH.un_le l1 (PH.le_trans l4 l2), b, h1, h4, PH.disj_mono d (PH.le_refl _) l4, PH.le_un_left _ _, PH.le_un_right (PH.disj_mono d (PH.le_refl _) l4), a, s⟩
  exact PH.disj_un (PH.disj_symm (PH.disj_mono d (PH.le_refl _) l3)) d'

theorem stars_perm {L L' : List HProp} (p : L.Perm L') : ∀ {h : PH}, stars L h → stars L' h := by
  induction p with
  | nil => exact fun k => k
  | cons A _ ih =>
    intro h k
    obtain ⟨h1, h2, d, l1, l2, a, s⟩ := k
    exact ⟨h1, h2, d, l1, l2, a, ih s⟩
  | swap A B L => exact fun k => stars_swap k
  | trans _ _ ih1 ih2 => exact fun k => ih2 (ih1 k)

theorem stars_append {L M : List HProp} : ∀ {h : PH}, stars (L ++ M) h → ∃ h1 h2, PH.disj h1 h2 ∧ PH.le h1 h ∧ PH.le h2 h ∧ stars L h1 ∧ stars M h2 := by
  induction L with
  | nil => intro h k; exact ⟨fun _ => none, h, fun _ => .inl rfl, fun _ _ h => (by cases h), PH.le_refl _, trivial, k⟩
  | cons A L ih =>
    intro h k
    obtain ⟨h1, h2, d, l1, l2, a, s⟩ := k
    obtain ⟨h3, h4, d', l3, l4, s1, s2⟩ := ih s
    refine ⟨PH.un h1 h3, h4, ?_, PH.un_le l1 (PH.le_trans l3 l2), PH.le_trans l4 l2, ⟨h1, h3, PH.disj_mono d (PH.le_refl _) l3, PH.le_un_left _ _, PH.le_un_right (PH.disj_mono d (PH.le_refl _) l3), a, s1⟩, s2⟩
    exact PH.disj_symm (PH.disj_un (PH.disj_symm (PH.disj_mono d (PH.le_refl _) l4)) (PH.disj_symm d'))
theorem append_stars {L M : List HProp} : ∀ {h h1 h2 : PH}, PH.disj h1 h2 → PH.le h1 h → PH.le h2 h → stars L h1 → stars M h2 → stars (L ++ M) h := by
  induction L with
  | nil => intro h h1 h2 _ _ l2 _ k; exact stars_mono l2 k
  | cons A L ih =>
    intro h h1 h2 d l1 l2 k s2
    obtain ⟨h3, h4, d', l3, l4, a, s⟩ := k
    refine ⟨h3, PH.un h4 h2, PH.disj_un d' (PH.disj_mono d l3 (PH.le_refl _)), PH.le_trans l3 l1, PH.un_le (PH.le_trans l4 l1) l2, a, ?_⟩
    have d2 : PH.disj h4 h2 := PH.disj_mono d l4 (PH.le_refl _)
    exact ih d2 (PH.le_un_left _ _) (PH.le_un_right d2) s s2

/-! ## Basic assertions -/
def pts (b : Nat) (o : Obj) : HProp := fun h => h b = some (false, o)
def shr (b : Nat) (o : Obj) : HProp := fun h => h b = some (true, o)
def blk (b : Nat) (l : List Value) (T : TypeId) : HProp := pts b (.cells l.toArray T (0, 0))
def sblk (b : Nat) (l : List Value) (T : TypeId) : HProp := shr b (.cells l.toArray T (0, 0))
def hpure (p : Prop) : HProp := fun _ => p
def hex {α : Type} (f : α → HProp) : HProp := fun h => ∃ x, f x h
def emp : HProp := fun _ => True

/-! ## What a world satisfies -/
def sat (W0 : World) (L : List HProp) (w : World) : Prop :=
  Below W0.heap.size W0 w ∧ ∃ h : PH, (∀ i s o, h i = some (s, o) → W0.heap.size ≤ i ∧ w.heap[i]? = some o) ∧ stars L h
variable {W0 : World} {L : List HProp} {w : World}

theorem sat_perm {L' : List HProp} (p : L.Perm L') (k : sat W0 L w) : sat W0 L' w :=
  ⟨k.1, let ⟨h, a, s⟩ := k.2; ⟨h, a, stars_perm p s⟩⟩
def sel (is : List Nat) (L : List HProp) : List HProp := is.filterMap (L[·]?)
theorem sel_range (L : List HProp) : sel (List.range L.length) L = L := by
  unfold sel
  apply List.ext_getElem?
  intro i
  induction L generalizing i with
  | nil => simp
  | cons A L ih =>
    rw [List.length_cons, List.range_succ_eq_map, List.filterMap_cons]
    simp only [List.getElem?_cons_zero]
    cases i with
    | zero => simp
    | succ i => simpa [List.filterMap_map, Function.comp_def] using ih i
theorem sat_sel (is : List Nat) (k : sat W0 L w) (hp : is.isPerm (List.range L.length) = true) : sat W0 (sel is L) w := by
  have p : (List.range L.length).Perm is := (List.isPerm_iff.1 hp).symm
  have q : (sel (List.range L.length) L).Perm (sel is L) := p.filterMap _
  rw [sel_range] at q
  exact sat_perm q k
/-- drop what is not wanted -/
theorem sat_weak (M : List HProp) (k : sat W0 (L ++ M) w) : sat W0 L w :=
  ⟨k.1, let ⟨h, a, s⟩ := k.2; let ⟨_, _, _, l1, _, s1, _⟩ := stars_append s; ⟨h, a, stars_mono l1 s1⟩⟩
theorem sat_pack {M : List HProp} (k : sat W0 (L ++ M) w) : sat W0 (L ++ [stars M]) w :=
  ⟨k.1, let ⟨h, a, s⟩ := k.2; let ⟨_, h2, d, l1, l2, s1, s2⟩ := stars_append s
    ⟨h, a, append_stars d l1 l2 s1 ⟨h2, fun _ => none, fun _ => .inr (.inl rfl), PH.le_refl _, fun _ _ h => (by cases h), s2, trivial⟩⟩⟩
theorem sat_flat {M : List HProp} (k : sat W0 (L ++ [stars M]) w) : sat W0 (L ++ M) w :=
  ⟨k.1, let ⟨h, a, s⟩ := k.2; let ⟨_, _, d, l1, l2, s1, _, _, _, l3, _, s2, _⟩ := stars_append s
    ⟨h, a, append_stars (PH.disj_mono d (PH.le_refl _) l3) l1 (PH.le_trans l3 l2) s1 s2⟩⟩
theorem sat_sel' {L' : List HProp} (is : List Nat) (k : sat W0 L w) (hp : is.isPerm (List.range L.length) = true) (hl : sel is L = L') : sat W0 L' w := hl ▸ sat_sel is k hp
theorem sel_append (is js : List Nat) (L : List HProp) : sel (is ++ js) L = sel is L ++ sel js L := by simp [sel]
theorem sat_sub' {L' : List HProp} (is js : List Nat) (k : sat W0 L w) (hp : (is ++ js).isPerm (List.range L.length) = true) (hl : sel is L = L') : sat W0 L' w := by
  have h := sat_sel (is ++ js) k hp
  rw [sel_append] at h
  exact hl ▸ sat_weak _ h
theorem sat_pack' {X Y : List HProp} (L M : List HProp) (k : sat W0 X w) (hX : L ++ M = X) (hY : L ++ [stars M] = Y) : sat W0 Y w := hY ▸ sat_pack (hX ▸ k)
theorem sat_flat' {X Y : List HProp} (L M : List HProp) (k : sat W0 X w) (hX : L ++ [stars M] = X) (hY : L ++ M = Y) : sat W0 Y w := hY ▸ sat_flat (hX ▸ k)
theorem sat_nil (h : Below W0.heap.size W0 w) : sat W0 [] w := ⟨h, fun _ => none, fun _ _ _ h => (by cases h), trivial⟩
theorem sat_below (k : sat W0 L w) : Below W0.heap.size W0 w := k.1
/-- the head of a list taken apart -/
theorem sat_open {A : HProp} {M : List HProp} (hA : ∀ h, A h → stars M h) (k : sat W0 (A :: L) w) : sat W0 (M ++ L) w :=
  ⟨k.1, let ⟨h, a, _, _, d, l1, l2, s1, s2⟩ := k.2; ⟨h, a, append_stars d l1 l2 (hA _ s1) s2⟩⟩
theorem sat_shut {A : HProp} {M : List HProp} (hA : ∀ h, stars M h → A h) (k : sat W0 (M ++ L) w) : sat W0 (A :: L) w :=
  ⟨k.1, let ⟨h, a, s⟩ := k.2; let ⟨_, _, d, l1, l2, s1, s2⟩ := stars_append s; ⟨h, a, _, _, d, l1, l2, hA _ s1, s2⟩⟩
theorem sat_imp {A B : HProp} (hA : ∀ h, A h → B h) (k : sat W0 (A :: L) w) : sat W0 (B :: L) w :=
  ⟨k.1, let ⟨h, a, h1, h2, d, l1, l2, s1, s2⟩ := k.2; ⟨h, a, h1, h2, d, l1, l2, hA _ s1, s2⟩⟩
theorem sat_ex {α : Type} {f : α → HProp} (k : sat W0 (hex f :: L) w) : ∃ x, sat W0 (f x :: L) w :=
  let ⟨h, a, h1, h2, d, l1, l2, ⟨x, s1⟩, s2⟩ := k.2; ⟨x, k.1, h, a, h1, h2, d, l1, l2, s1, s2⟩
theorem sat_ex_intro {α : Type} {f : α → HProp} (x : α) (k : sat W0 (f x :: L) w) : sat W0 (hex f :: L) w :=
  sat_imp (fun _ h => ⟨x, h⟩) k
theorem sat_pure {p : Prop} (k : sat W0 (hpure p :: L) w) : p ∧ sat W0 L w :=
  let ⟨h, a, _, _, _, _, l2, s1, s2⟩ := k.2; ⟨s1, k.1, h, a, stars_mono l2 s2⟩
theorem sat_pure_intro {p : Prop} (hp : p) (k : sat W0 L w) : sat W0 (hpure p :: L) w :=
  ⟨k.1, let ⟨h, a, s⟩ := k.2; ⟨h, a, fun _ => none, h, fun _ => .inl rfl, fun _ _ h => (by cases h), PH.le_refl _, hp, s⟩⟩
theorem sat_emp_intro (k : sat W0 L w) : sat W0 (emp :: L) w :=
  ⟨k.1, let ⟨h, a, s⟩ := k.2; ⟨h, a, fun _ => none, h, fun _ => .inl rfl, fun _ _ h => (by cases h), PH.le_refl _, trivial, s⟩⟩
theorem sat_tail {A : HProp} (k : sat W0 (A :: L) w) : sat W0 L w :=
  ⟨k.1, let ⟨h, a, _, _, _, _, l2, _, s2⟩ := k.2; ⟨h, a, stars_mono l2 s2⟩⟩
theorem sat_head {A : HProp} (k : sat W0 (A :: L) w) : sat W0 [A] w :=
  sat_weak (L := [A]) L k
theorem sat_at {A : HProp} (i : Nat) (hi : L[i]? = some A) (k : sat W0 L w) : sat W0 [A] w := by
  induction L generalizing i with
  | nil => cases hi
  | cons B L ih =>
    cases i with
    | zero => cases hi; exact sat_head k
    | succ i => exact ih i (by simpa using hi) (sat_tail k)
/-- shared blocks may be had twice -/
theorem sat_shr_dup {b : Nat} {o : Obj} (k : sat W0 (shr b o :: L) w) : sat W0 (shr b o :: shr b o :: L) w := by
  obtain ⟨hb, h, a, h1, h2, d, l1, l2, s1, s2⟩ := k
  refine ⟨hb, h, a, fun i => if i = b then some (true, o) else none, PH.un (fun i => if i = b then some (true, o) else none) h2, ?_, ?_, PH.un_le ?_ l2, by simp [shr], fun i => if i = b then some (true, o) else none, h2, ?_, PH.le_un_left _ _, PH.le_un_right ?_, by simp [shr], s2⟩
  · refine PH.disj_un ?_ ?_
    · intro i
      by_cases e : i = b
      · exact .inr (.inr ⟨o, by simp [e], by simp [e]⟩)
      · exact .inl (by simp [e])
    · exact PH.disj_mono d (fun i x => by by_cases e : i = b <;> simp [e]; rintro rfl; exact s1) (PH.le_refl _)
  · exact fun i x hx => by
      by_cases e : i = b
      · subst e; simp at hx; subst hx; exact l1 _ _ s1
      · simp [e] at hx
  · exact fun i x hx => by
      by_cases e : i = b
      · subst e; simp at hx; subst hx; exact l1 _ _ s1
      · simp [e] at hx
  all_goals exact PH.disj_mono d (fun i x => by by_cases e : i = b <;> simp [e]; rintro rfl; exact s1) (PH.le_refl _)
/-- an owned block may be shared from now on -/
theorem sat_share {b : Nat} {o : Obj} (k : sat W0 (pts b o :: L) w) : sat W0 (shr b o :: L) w := by
  obtain ⟨hb, h, a, h1, h2, d, l1, l2, s1, s2⟩ := k
  have hn : h2 b = none := by
    rcases d b with h | h | ⟨o', h, _⟩
    · rw [s1] at h; cases h
    · exact h
    · rw [s1] at h; cases h
  refine ⟨hb, fun i => if i = b then some (true, o) else h i, ?_, fun i => if i = b then some (true, o) else none, h2, ?_, ?_, ?_, by simp [shr], s2⟩
  · intro i s x hx
    by_cases e : i = b
    · subst e; simp at hx; obtain ⟨_, rfl⟩ := hx; exact a _ _ _ (l1 _ _ s1)
    · simp [e] at hx; exact a _ _ _ hx
  · intro i
    by_cases e : i = b
    · subst e; exact .inr (.inl hn)
    · exact .inl (by simp [e])
  · intro i x hx
    by_cases e : i = b
    · subst e; simpa using hx
    · simp [e] at hx
  · intro i x hx
    by_cases e : i = b
    · subst e; rw [hn] at hx; cases hx
    · simp [e]; exact l2 _ _ hx

/-! ## Reading -/
theorem sat_pts_heap {b : Nat} {o : Obj} (k : sat W0 (pts b o :: L) w) : W0.heap.size ≤ b ∧ w.heap[b]? = some o :=
  let ⟨_, a, _, _, _, l1, _, s1, _⟩ := k.2; a _ _ _ (l1 _ _ s1)
theorem sat_shr_heap {b : Nat} {o : Obj} (k : sat W0 (shr b o :: L) w) : W0.heap.size ≤ b ∧ w.heap[b]? = some o :=
  let ⟨_, a, _, _, _, l1, _, s1, _⟩ := k.2; a _ _ _ (l1 _ _ s1)
theorem cell_of_heap {b o : Nat} {l : List Value} {T : TypeId} {fr : Nat × Nat} {v : Value} (h : w.heap[b]? = some (.cells l.toArray T fr)) (hv : l[o]? = some v) : w.cell? ⟨b, o, none⟩ = some v := by
  simp [World.cell?, h, hv]
theorem sat_cell {b o : Nat} {l : List Value} {T : TypeId} {v : Value} (i : Nat) (k : sat W0 L w) (hi : L[i]? = some (blk b l T)) (hv : l[o]? = some v) : w.cell? ⟨b, o, none⟩ = some v :=
  cell_of_heap (sat_pts_heap (sat_at i hi k)).2 hv
theorem sat_scell {b o : Nat} {l : List Value} {T : TypeId} {v : Value} (i : Nat) (k : sat W0 L w) (hi : L[i]? = some (sblk b l T)) (hv : l[o]? = some v) : w.cell? ⟨b, o, none⟩ = some v :=
  cell_of_heap (sat_shr_heap (sat_at i hi k)).2 hv
/-- a cell of the world that the call began in -/
def Roc (W0 : World) (b o : Nat) (v : Value) : Prop := b < W0.heap.size ∧ W0.cell? ⟨b, o, none⟩ = some v
theorem sat_roc {b o : Nat} {v : Value} (k : sat W0 L w) (h : Roc W0 b o v) : w.cell? ⟨b, o, none⟩ = some v := by
  rw [k.1.cell (p := ⟨b, o, none⟩) h.1]; exact h.2

/-- n cells from a place on -/
def Rdn (w : World) (b o : Nat) (vs : List Value) : Prop := ∀ j v, vs[j]? = some v → w.cell? ⟨b, o + j, none⟩ = some v
theorem rdn_of_heap {b o : Nat} {l : List Value} {T : TypeId} {fr : Nat × Nat} {vs : List Value} (h : w.heap[b]? = some (.cells l.toArray T fr)) (hv : (l.drop o).take vs.length = vs) : Rdn w b o vs := by
  intro j v hj
  refine cell_of_heap h ?_
  have hlt : j < vs.length := by
    rcases Nat.lt_or_ge j vs.length with h | h
    · exact h
    · rw [List.getElem?_eq_none h] at hj; cases hj
  rw [← hv, List.getElem?_take, if_pos hlt, List.getElem?_drop] at hj
  exact hj
theorem sat_rdn {b o : Nat} {l : List Value} {T : TypeId} {vs : List Value} (i : Nat) (k : sat W0 L w) (hi : L[i]? = some (blk b l T)) (hv : (l.drop o).take vs.length = vs) : Rdn w b o vs :=
  rdn_of_heap (sat_pts_heap (sat_at i hi k)).2 hv

/-! ## New blocks, stores -/
theorem sat_new (o : Obj) (k : sat W0 L w) : sat W0 (pts w.heap.size o :: L) (w.alloc o) := by
  obtain ⟨hb, h, a, s⟩ := k
  have hn : h w.heap.size = none := by
    cases e : h w.heap.size with
    | none => rfl
    | some x =>
      obtain ⟨s', o'⟩ := x
      have := (a _ _ _ e).2
      rw [Array.getElem?_eq_none (Nat.le_refl _)] at this; cases this
  have hsz := hb.size
  refine ⟨hb.alloc hsz _, fun i => if i = w.heap.size then some (false, o) else h i, ?_, fun i => if i = w.heap.size then some (false, o) else none, h, ?_, ?_, ?_, by simp [pts], s⟩
  · intro i s x hx
    by_cases e : i = w.heap.size
    · subst e; simp at hx; obtain ⟨_, rfl⟩ := hx
      exact ⟨hsz, by show (w.heap.push o)[_]? = _; simp⟩
    · simp [e] at hx
      obtain ⟨h1, h2⟩ := a _ _ _ hx
      have hlt : i < w.heap.size := by
        rcases Nat.lt_or_ge i w.heap.size with h | h
        · exact h
        · rw [Array.getElem?_eq_none h] at h2; cases h2
      exact ⟨h1, by rw [Below.heap_alloc _ _ _ hlt]; exact h2⟩
  · intro i
    by_cases e : i = w.heap.size
    · subst e; exact .inr (.inl hn)
    · exact .inl (by simp [e])
  · intro i x hx
    by_cases e : i = w.heap.size
    · subst e; simpa using hx
    · simp [e] at hx
  · intro i x hx
    by_cases e : i = w.heap.size
    · subst e; rw [hn] at hx; cases hx
    · simp [e]; exact hx
/-- an owned object is replaced -/
theorem sat_repl {b : Nat} {o o' : Obj} {w' : World} (k : sat W0 (pts b o :: L) w) (hos : w'.os = w.os) (htape : w'.tape = w.tape) (hout : w'.output = w.output)
    (hsz : w'.heap.size = w.heap.size) (hb' : w'.heap[b]? = some o') (hne : ∀ i, i ≠ b → w'.heap[i]? = w.heap[i]?) : sat W0 (pts b o' :: L) w' := by
  have hB := (sat_pts_heap k).1
  obtain ⟨hb, h, a, h1, h2, d, l1, l2, s1, s2⟩ := k
  have hn : h2 b = none := by
    rcases d b with h | h | ⟨o', h, _⟩
    · rw [s1] at h; cases h
    · exact h
    · rw [s1] at h; cases h
  refine ⟨⟨hos.trans hb.os, htape.trans hb.tape, hout.trans hb.output, by have := hb.size; omega, fun i hi => (hne i (by omega)).trans (hb.block i hi)⟩, fun i => if i = b then some (false, o') else h2 i, ?_, fun i => if i = b then some (false, o') else none, h2, ?_, ?_, ?_, by simp [pts], s2⟩
  · intro i s x hx
    by_cases e : i = b
    · subst e; simp at hx; obtain ⟨_, rfl⟩ := hx; exact ⟨hB, hb'⟩
    · simp [e] at hx
      rw [hne i e]; exact a _ _ _ (l2 _ _ hx)
  · intro i
    by_cases e : i = b
    · subst e; exact .inr (.inl hn)
    · exact .inl (by simp [e])
  · intro i x hx
    by_cases e : i = b
    · subst e; simpa using hx
    · simp [e] at hx
  · intro i x hx
    by_cases e : i = b
    · subst e; rw [hn] at hx; cases hx
    · simp [e]; exact hx
theorem sat_setCell {b o : Nat} {l : List Value} {T : TypeId} {v : Value} (k : sat W0 (blk b l T :: L) w) : sat W0 (blk b (l.set o v) T :: L) (w.setCell ⟨b, o, none⟩ v) := by
  have hh := (sat_pts_heap k).2
  refine sat_repl k rfl rfl rfl (by simp [World.setCell]) ?_ (fun i hi => Below.heap_setCell _ _ _ _ hi)
  simp [World.setCell, Array.getElem?_modify, hh]
theorem sat_drew {n : Nat} (k : sat W0 L w) : sat W0 L { w with drawn := n } :=
  ⟨⟨k.1.os, k.1.tape, k.1.output, k.1.size, k.1.block⟩, k.2⟩

/-! ## Environments of slots -/
abbrev Env := Nat → Value
def upd (e : Env) (i : Nat) (v : Value) : Env := fun j => bif Nat.beq j i then v else e j
def evalE (e : Env) : Operand → Value
  | .tmp t => e t
  | .const v => v
  | .global g => .pointer (some ⟨g, 0, none⟩)
  | .func f => .func (.func f) #[] #[]
structure Rep (N : Nat) (a : Act) (e : Env) : Prop where
  size : a.tmps.size = N
  defers : a.defers = []
  get : ∀ i, a.tmps.getD i undef = e i
theorem Rep.eval {N : Nat} {a : Act} {e : Env} (h : Rep N a e) : a.eval = evalE e := by
  funext x
  cases x with
  | tmp t => exact h.get t
  | const v => rfl
  | global g => rfl
  | func f => rfl
theorem Rep.put {N : Nat} {a : Act} {e : Env} {d : Nat} (h : Rep N a e) (hd : d < N) (v : Value) : Rep N (a.put (some d) v) (upd e d v) := by
  refine ⟨by simp [Act.put, h.size], h.defers, fun i => ?_⟩
  have hs := h.size
  have hg := h.get i
  by_cases e : i = d
  · subst e
    have : i < a.tmps.size := by omega
    simp [Act.put, upd, this]
  · have hb : Nat.beq i d = false := by
      cases hb : Nat.beq i d with
      | false => rfl
      | true => exact absurd (Nat.eq_of_beq_eq_true hb) e
    simp only [Act.put, upd, hb, cond_false]
    rw [← hg]
    simp [Array.getD_eq_getD_getElem?, Ne.symm e]
def envOf (l : List Value) : Env := fun i => l.getD i undef

variable {P : Program} {N : Nat}
abbrev Post := Exit → Env → World → Prop
def calm : Exit → Bool
  | .panic _ | .outgrown => false
  | _ => true
def liftQ (N : Nat) (Q : Post) : Exit → Act → World → Prop := fun x a w => calm x = true ∧ ∃ e, Rep N a e ∧ Q x e w
def W (P : Program) (N : Nat) (c : Code) (Q : Post) (e : Env) (w : World) : Prop := ∀ a, Rep N a e → c.wp P (liftQ N Q) a w
def WL (P : Program) (N : Nat) (ops : Array Oper) (rest : List Oper) (Q : Post) (e : Env) (w : World) : Prop := ∀ a, Rep N a e → wpList P ops (liftQ N Q) rest a w

/-! ## Control -/
variable {Q : Post} {e : Env}
def thenQ (x : Env → World → Prop) (Q : Post) : Post
  | .normal, e, w => x e w
  | y, e, w => Q y e w
def blockQ (id : Nat) (Q : Post) : Post
  | .exit i, e, w => if i = id then Q .normal e w else Q (.exit i) e w
  | y, e, w => Q y e w
theorem thenQ_lift {x : Env → World → Prop} : ∀ y a w, liftQ N (thenQ x Q) y a w → Exit.then (fun a w => ∃ e, Rep N a e ∧ x e w) (liftQ N Q) y a w := by
  rintro y a w ⟨hc, e, hr, h⟩
  cases y <;> first | exact ⟨e, hr, h⟩ | exact ⟨hc, e, hr, h⟩
theorem W.seq {x y : Code} (h : W P N x (thenQ (W P N y Q) Q) e w) : W P N (.seq x y) Q e w := fun a hr =>
  wp_seq (wp_mono (h a hr) fun z a w hz => by
    have := thenQ_lift z a w hz
    cases z with
    | normal => obtain ⟨e, hr, h⟩ := this; exact h a hr
    | _ => exact this)
theorem W.skip (h : Q .normal e w) : W P N .skip Q e w := fun _ hr => wp_skip ⟨rfl, e, hr, h⟩
theorem W.ret (h : Q .ret e w) : W P N .ret Q e w := fun _ hr => wp_ret ⟨rfl, e, hr, h⟩
theorem W.exit {id : Nat} (h : Q (.exit id) e w) : W P N (.exit id) Q e w := fun _ hr => wp_exit ⟨rfl, e, hr, h⟩
theorem W.block {id : Nat} {c : Code} (h : W P N c (blockQ id Q) e w) : W P N (.block id c) Q e w := fun a hr =>
  wp_block (wp_mono (h a hr) fun z a w => by
    rintro ⟨hc, e, hr, h⟩
    cases z with
    | exit i =>
      show if i = id then _ else _
      simp only [blockQ] at h
      split <;> rename_i hi
      · rw [if_pos hi] at h; exact ⟨rfl, e, hr, h⟩
      · rw [if_neg hi] at h; exact ⟨rfl, e, hr, h⟩
    | _ => exact ⟨hc, e, hr, h⟩)
theorem W.ite {c : Operand} {x y : Code} {b : Bool} (hc : evalE e c = .bool b) (ht : b = true → W P N x Q e w) (hf : b = false → W P N y Q e w) : W P N (.cond c x y) Q e w := fun a hr =>
  wp_cond_split (t := b) (by rw [hr.eval]; exact hc) (fun h => ht h a hr) (fun h => hf h a hr)
theorem W.iteP {c : Operand} {x y : Code} {p : Prop} [Decidable p] (hc : evalE e c = .bool (decide p)) (ht : p → W P N x Q e w) (hf : ¬ p → W P N y Q e w) : W P N (.cond c x y) Q e w :=
  W.ite hc (fun h => ht (of_decide_eq_true h)) (fun h => hf (of_decide_eq_false h))
theorem W.iteT {c : Operand} {x y : Code} (hc : evalE e c = .bool true) (ht : W P N x Q e w) : W P N (.cond c x y) Q e w := W.ite hc (fun _ => ht) (fun h => by cases h)
theorem W.iteF {c : Operand} {x y : Code} (hc : evalE e c = .bool false) (hf : W P N y Q e w) : W P N (.cond c x y) Q e w := W.ite hc (fun h => by cases h) (fun _ => hf)
theorem wp_loopN {c : Code} {Q : Exit → Act → World → Prop} {a : Act} {w : World} (J : Nat → Act → World → Prop) (n : Nat) (h0 : J n a w)
    (round : ∀ n a w, J n a w → c.wp P (Exit.then (fun a w => ∃ m, m < n ∧ J m a w) Q) a w) : (Code.loop c).wp P Q a w := by
  intro b k cs
  have key : ∀ n a w, J n a w →
      ∃ e a' w', Q e a' w' ∧ Arrives P (lone (b.at a (.code c :: .inLoop c :: k)) cs w) b k cs e a' w' := by
    intro n
    induction n using Nat.strongRecOn with
    | _ n ih =>
      intro a w hI
      obtain ⟨e, a₁, w₁, hq, harr⟩ := round n a w hI b (.inLoop c :: k) cs
      cases e with
      | normal =>
        obtain ⟨m, hlt, hI₁⟩ := hq
        obtain ⟨e₂, a₂, w₂, hq₂, harr₂⟩ := ih m hlt a₁ w₁ hI₁
        exact ⟨e₂, a₂, w₂, hq₂, .of_steps (Steps.trans harr (.one step_inLoop)) harr₂⟩
      | exit id => exact ⟨_, a₁, w₁, hq, .pass (x := .inLoop c) rfl (fun _ _ => .inl (by simp)) harr⟩
      | goto l => exact ⟨_, a₁, w₁, hq, .pass (x := .inLoop c) rfl (fun _ _ => .inl (by simp)) harr⟩
      | ret => exact ⟨_, a₁, w₁, hq, .pass (x := .inLoop c) rfl (fun _ _ => .inl (by simp)) harr⟩
      | panic ch => exact ⟨_, a₁, w₁, hq, .pass (x := .inLoop c) rfl (fun _ _ => .inl (by simp)) harr⟩
      | outgrown => exact ⟨_, a₁, w₁, hq, .pass (x := .inLoop c) rfl (fun _ _ => .inl (by simp)) harr⟩
  obtain ⟨e, a', w', hq, harr⟩ := key _ a w h0
  exact ⟨e, a', w', hq, .of_steps (.one step_loop) harr⟩
theorem W.loop {c : Code} (I : Nat → Env → World → Prop) (n : Nat) (h0 : I n e w)
    (round : ∀ n e w, I n e w → W P N c (thenQ (fun e w => ∃ m, m < n ∧ I m e w) Q) e w) : W P N (.loop c) Q e w := fun a hr =>
  wp_loopN (fun n a w => ∃ e, Rep N a e ∧ I n e w) n ⟨e, hr, h0⟩ fun n a w ⟨e, hr, hI⟩ =>
    wp_mono (round n e w hI a hr) fun z a w ⟨hc, e, hr, h⟩ => by
      cases z with
      | normal => obtain ⟨m, hm, hI⟩ := h; exact ⟨m, hm, e, hr, hI⟩
      | _ => exact ⟨hc, e, hr, h⟩
/-- so many rounds at most -/
def rnds (P : Program) (N : Nat) (c : Code) (Q : Post) : Nat → Env → World → Prop
  | 0, _, _ => False
  | n + 1, e, w => W P N c (thenQ (rnds P N c Q n) Q) e w
theorem rnds.go {c : Code} {n : Nat} (h : W P N c (thenQ (rnds P N c Q n) Q) e w) : rnds P N c Q (n + 1) e w := h
theorem W.unroll {c : Code} (n : Nat) (h : rnds P N c Q n e w) : W P N (.loop c) Q e w := fun a hr => by
  refine wp_loop_rounds n ?_
  induction n generalizing e w a with
  | zero => exact h.elim
  | succ n ih =>
    refine wp_mono (h a hr) fun z a w hz => ?_
    have := thenQ_lift z a w hz
    cases z with
    | normal => obtain ⟨e, hr, h⟩ := this; exact ih h a hr
    | _ => exact this
/-- what a function's body must come to -/
def RetQ (P : Program) (fn : Func) (N : Nat) (R : Value → World → Prop) : Post := fun x e w =>
  (x = .normal ∨ x = .ret) ∧ ∃ v, (results fn ((Array.range N).map e)).run P w = .ok v w ∧ R v w
/-- the way into a function -/
theorem W.enter {f : FuncId} {fn : Func} {c : Code} {args : List Value} {R : Value → World → Prop} (hf : P.funcs[f]? = some fn) (hb : fn.body = some c) (hn : fn.ntmps = N) (ha : args.length ≤ N)
    (h : W P N c (RetQ P fn N R) (envOf args) w) : Calls P f args.toArray w (fun x w' => ∃ v, x = .returned v ∧ R v w') := by
  refine calls_of_wp hf hb (wp_mono (h _ ⟨?_, rfl, ?_⟩) ?_)
  · simp; omega
  · intro i
    simp only [envOf]
    simp [Array.getD_eq_getD_getElem?, List.getD_eq_getElem?_getD, Array.getElem?_append]
    by_cases hi : i < args.length
    · simp [hi]
    · simp only [hi, if_false]
      by_cases h2 : i - args.length < fn.ntmps - args.length
      · rw [List.getElem?_eq_none (Nat.le_of_not_lt hi)]
        simp [h2]
      · rw [List.getElem?_eq_none (by omega), Array.getElem?_eq_none (by simp; omega)]
  · rintro x a w ⟨_, e, hr, hx, v, hv, hR⟩
    have ht : a.tmps = (Array.range N).map e := by
      apply Array.ext_getElem?
      intro i
      have hg := hr.get i
      rw [Array.getD_eq_getD_getElem?] at hg
      by_cases hi : i < N
      · have : i < a.tmps.size := by rw [hr.size]; exact hi
        rw [Array.getElem?_eq_getElem this] at hg ⊢
        simp at hg
        simp [hi, hg]
      · rw [Array.getElem?_eq_none (by rw [hr.size]; omega), Array.getElem?_eq_none (by simp; omega)]
    rcases hx with rfl | rfl
    · exact ⟨hr.defers, v, by rw [ht]; exact hv, _, rfl, hR⟩
    · exact ⟨hr.defers, v, by rw [ht]; exact hv, _, rfl, hR⟩
theorem RetQ.ret0 {fn : Func} {R : Value → World → Prop} {x : Exit} (hx : x = .normal ∨ x = .ret) (h : fn.results = #[]) (hR : R (.tuple #[]) w) : RetQ P fn N R x e w :=
  ⟨hx, _, results_none h _ _ _, hR⟩
theorem RetQ.ret1 {fn : Func} {R : Value → World → Prop} {x : Exit} {t : Nat} (v : Value) (hx : x = .normal ∨ x = .ret) (h : fn.results = #[.tmp t]) (ht : t < N) (hv : e t = v) (hR : R v w) : RetQ P fn N R x e w :=
  ⟨hx, _, results_tmp h _ _ _, by simp [Array.getD_eq_getD_getElem?, ht, hv]; exact hR⟩
theorem RetQ.ret2 {fn : Func} {R : Value → World → Prop} {x : Exit} {t u : Nat} (v v' : Value) (hx : x = .normal ∨ x = .ret) (h : fn.results = #[.tmp t, .tmp u]) (ht : t < N) (hu : u < N) (hv : e t = v) (hv' : e u = v') (hR : R (.tuple #[v, v']) w) : RetQ P fn N R x e w :=
  ⟨hx, _, results_tmp2 h _ _ _, by simp [Array.getD_eq_getD_getElem?, ht, hu, hv, hv']; exact hR⟩
theorem RetQ.ret3 {fn : Func} {R : Value → World → Prop} {x : Exit} {t u s : Nat} (v v' v2 : Value) (hx : x = .normal ∨ x = .ret) (h : fn.results = #[.tmp t, .tmp u, .tmp s]) (ht : t < N) (hu : u < N) (hs : s < N) (hv : e t = v) (hv' : e u = v') (hv2 : e s = v2) (hR : R (.tuple #[v, v', v2]) w) : RetQ P fn N R x e w :=
  ⟨hx, .tuple #[v, v', v2], by simp [results, h, Array.getD_eq_getD_getElem?, ht, hu, hs, hv, hv', hv2], hR⟩
/-- what a result variable holds -/
inductive ResOK (P : Program) (N : Nat) (e : Env) (w : World) : ResultVar → Value → Prop
  | tmp {t : Nat} {v : Value} (ht : t < N) (hv : e t = v) : ResOK P N e w (.tmp t) v
  | cell {a t : Nat} {p : Addr} {v : Value} (ht : a < N) (ha : e a = .pointer (some p)) (hv : (loadVar t p).run P w = .ok v w) : ResOK P N e w (.cell a t) v
inductive ResAll (P : Program) (N : Nat) (e : Env) (w : World) : List ResultVar → List Value → Prop
  | nil : ResAll P N e w [] []
  | cons {r : ResultVar} {v : Value} {rs : List ResultVar} {vs : List Value} (h : ResOK P N e w r v) (hs : ResAll P N e w rs vs) : ResAll P N e w (r :: rs) (v :: vs)
def resVal : List Value → Value
  | [v] => v
  | vs => .tuple vs.toArray
def resF (tm : Array Value) : ResultVar → Sem Value
  | .tmp t => pure (tm.getD t undef)
  | .cell a t => do loadVar t (← asAddr (tm.getD a undef))
theorem results_resF (fn : Func) (tm : Array Value) : results fn tm = (do let vs ← fn.results.mapM (resF tm); pure (if h : vs.size = 1 then vs[0] else .tuple vs)) := by
  unfold results
  congr 1
theorem run_resF {r : ResultVar} {v : Value} (h : ResOK P N e w r v) : (resF ((Array.range N).map e) r).run P w = .ok v w := by
  cases h with
  | tmp ht hv => simp [resF, Array.getD_eq_getD_getElem?, ht, hv]
  | cell ht ha hv => simp [resF, Array.getD_eq_getD_getElem?, ht, ha, asAddr, hv]
theorem run_resAll {rs : List ResultVar} {vs : List Value} (h : ResAll P N e w rs vs) : (rs.mapM (resF ((Array.range N).map e))).run P w = .ok vs w := by
  induction h with
  | nil => simp
  | cons h _ ih => rw [List.mapM_cons]; simp only [Sem.run_bind, run_resF h, ih, Result.andThen_ok, Sem.run_pure]
theorem RetQ.of {fn : Func} {R : Value → World → Prop} {x : Exit} {rs : List ResultVar} (vs : List Value) (hx : x = .normal ∨ x = .ret) (h : fn.results = rs.toArray) (hv : ResAll P N e w rs vs) (hR : R (resVal vs) w) : RetQ P fn N R x e w := by
  refine ⟨hx, resVal vs, ?_, hR⟩
  rw [results_resF, h, List.mapM_toArray]
  simp only [Sem.run_bind, Sem.run_map, run_resAll hv, Result.andThen_ok]
  match vs with
  | [] => simp [resVal]
  | [v] => simp [resVal]
  | v :: u :: vs => simp [resVal]
/-! ### Through the posts -/
theorem Qx.then {x : Env → World → Prop} {i : Nat} (h : Q (.exit i) e w) : thenQ x Q (.exit i) e w := h
theorem Qx.hit {i : Nat} (h : Q .normal e w) : blockQ i Q (.exit i) e w := by simp [blockQ, h]
theorem Qx.miss {i j : Nat} (hne : i ≠ j) (h : Q (.exit i) e w) : blockQ j Q (.exit i) e w := by simp [blockQ, h, hne]
theorem Qn.then {x : Env → World → Prop} (h : x e w) : thenQ x Q .normal e w := h
theorem Qn.blk {i : Nat} (h : Q .normal e w) : blockQ i Q .normal e w := h
theorem Qr.then {x : Env → World → Prop} (h : Q .ret e w) : thenQ x Q .ret e w := h
theorem Qr.blk {i : Nat} (h : Q .ret e w) : blockQ i Q .ret e w := h
/-- a cut: what stands behind a piece of code is proved once -/
theorem W.cut {x y : Code} (J : Env → World → Prop) (h1 : W P N x (thenQ J Q) e w) (h2 : ∀ e w, J e w → W P N y Q e w) : W P N (.seq x y) Q e w := by
  refine W.seq (fun a hr => wp_mono (h1 a hr) fun z a w ⟨hc, e, hr, h⟩ => ⟨hc, e, hr, ?_⟩)
  cases z with
  | normal => exact h2 e w h
  | _ => exact h

/-! ## Regions -/
theorem W.region {id : Nat} {l : List Oper} (h : WL P N l.toArray l Q e w) : W P N (.region id l.toArray false) Q e w := fun a hr => wp_region_lit (h a hr)
variable {ops : Array Oper} {rest : List Oper} {o : Oper}
theorem WL.nil (h : Q .normal e w) : WL P N ops [] Q e w := fun _ hr => wpList_nil ⟨rfl, e, hr, h⟩
theorem Oper.wp_of {a : Act} {o : Oper} {next : Act → World → Prop} {Q' : Exit → Act → World → Prop} {r : Result Next} (h : (execOp a.eval o).run P w = r) (hu : o.upon P a next Q' r) : o.wp P a w next Q' := by
  unfold Oper.wp; rw [h]; exact hu
/-- operations that yield a value, or halt -/
def valueOp : Op → Bool
  | .move _ | .assign _ | .pick .. | .load .. | .binOp .. | .unOp .. | .fieldAddr .. | .field .. | .indexAddr .. | .index .. | .extract .. | .makeFunc .. | .convert .. | .build .. | .slice .. | .nilCheck _ | .lookup .. => true
  | .call ⟨.builtin .len, _, _⟩ | .call ⟨.builtin .min, _, _⟩ | .call ⟨.builtin .max, _, _⟩ | .call ⟨.builtin .cap, _, _⟩ => true
  | _ => false
theorem value_of_bind {s : Sem Value} {n : Next} {w' : World} (h : (do pure (.value (← s)) : Sem Next).run P w = .ok n w') : ∃ v, n = .value v := by
  simp only [Sem.run_bind] at h
  cases hs : s.run P w with
  | ok a w1 => rw [hs] at h; simp at h; exact ⟨a, h.1.symm⟩
  | halt x w1 => rw [hs] at h; simp at h
theorem value_of_op {ρ : Operand → Value} {o : Oper} {n : Next} {w' : World} (hv : valueOp o.op = true) (h : (execOp ρ o).run P w = .ok n w') : ∃ v, n = .value v := by
  obtain ⟨dst, op, type, pos, after, guard⟩ := o
  cases op with
  | move x => simp [execOp] at h; exact ⟨_, h.1.symm⟩
  | assign x => simp [execOp] at h; exact ⟨_, h.1.symm⟩
  | pick c a b => exact value_of_bind (s := do pure (if ← asBool (ρ c) then ρ a else ρ b)) (by simpa [execOp] using h)
  | nilCheck x =>
    simp only [execOp] at h
    split at h
    · exact absurd h (by simp [runtimePanic])
    · exact absurd h (by simp [runtimePanic])
    · exact absurd h (by simp [runtimePanic])
    · split at h
      · exact absurd h (by simp [runtimePanic])
      · rename_i t w1 _
        simp only [Sem.run_bind] at h
        simp only [run_program, Result.andThen_ok] at h
        cases hs : (nilAhead (P.types.size + Made.depth) t w1 _).run P w with
        | ok a w2 =>
          rw [hs] at h
          simp only [Result.andThen_ok] at h
          by_cases hb : (a != some false) = true
          · rw [if_pos hb] at h; simp at h
          · rw [if_neg hb] at h; simp at h; exact ⟨_, h.1.symm⟩
        | halt x w2 => rw [hs] at h; simp at h
      · simp at h; exact ⟨_, h.1.symm⟩
    · simp at h; exact ⟨_, h.1.symm⟩
  | call c =>
    obtain ⟨callee, args, ats⟩ := c
    cases callee with
    | builtin b => cases b <;> simp only [valueOp, Bool.false_eq_true] at hv <;> simp only [execOp, resolve, Sem.run_bind, Sem.run_pure, Result.andThen_ok, invoke, builtin] at h <;> exact value_of_bind (by simpa only [Sem.run_bind, Sem.run_pure] using h)
    | _ => simp [valueOp] at hv
  | _ => first | (simp [valueOp] at hv; done) | exact value_of_bind (by simpa only [execOp] using h)
/-- one operation -/
def OPw (P : Program) (N : Nat) (o : Oper) (K : Env → World → Prop) (e : Env) (w : World) : Prop :=
  ∀ a, Rep N a e → ∀ (K' : Act → World → Prop) (Q' : Exit → Act → World → Prop), (∀ a' e' w', Rep N a' e' → K e' w' → K' a' w') → o.wp P a w K' Q'
theorem run_of_OPw {d : Nat} {v : Value} {a : Act} (hr : Rep N a e) (hd : d < N) (hv : valueOp o.op = true) (hdst : o.dst = some d) (h : OPw P N o (fun e' w' => e' = upd e d v ∧ w' = w) e w) : (execOp a.eval o).run P w = .ok (.value v) w := by
  have h1 := h a hr (fun a' w' => Rep N a' (upd e d v) ∧ w' = w) (fun _ _ _ => False) (fun a' e' w' hr' ⟨he, hw⟩ => ⟨he ▸ hr', hw⟩)
  unfold Oper.wp at h1
  cases hrun : (execOp a.eval o).run P w with
  | halt x w' => rw [hrun] at h1; cases x <;> simp [Oper.upon] at h1
  | ok n w' =>
    obtain ⟨u, rfl⟩ := value_of_op hv hrun
    rw [hrun] at h1
    simp only [Oper.upon, hdst] at h1
    obtain ⟨hr', rfl⟩ := h1
    have h2 := hr'.get d
    have h3 := (hr.put hd u).get d
    rw [h3] at h2
    have hb : Nat.beq d d = true := Nat.beq_refl d
    simp only [upd, hb, cond_true] at h2
    rw [h2]
theorem WL.cons (hg : o.guard = none) (h : OPw P N o (WL P N ops rest Q) e w) : WL P N ops (o :: rest) Q e w := fun a hr =>
  wpList_plain hg fun K hK => h a hr K _ fun a' _ _ hr' hk => hK _ _ (hk a' hr')
theorem yielded_of {a : Act} (hr : Rep N a e) {j d : Nat} {b : Bool} (hj : (ops[j]?).bind (·.dst) = some d) (hd : e d = .bool b) : yielded ops a.tmps j = some b := by
  have hg := hr.get d
  rw [hd, Array.getD_eq_getD_getElem?] at hg
  unfold yielded
  rw [hj]
  cases h : a.tmps[d]? with
  | none => rw [h] at hg; simp [undef] at hg
  | some v => rw [h] at hg; simp at hg; simp [h, hg]
theorem WL.consG {j d : Nat} {b : Bool} (hg : o.guard = some (j, b)) (hj : (ops[j]?).bind (·.dst) = some d) (hd : e d = .bool b) (h : OPw P N o (WL P N ops rest Q) e w) : WL P N ops (o :: rest) Q e w := fun a hr => by
  refine wpList_step fun K hK => ?_
  have hy := yielded_of hr hj hd
  rw [if_pos (by simp [Region.wanted, hg, hy])]
  exact h a hr K _ fun a' e' w' hr' hk => hK _ _ (hk a' hr')
theorem WL.pass {j d t : Nat} {b b' : Bool} (hg : o.guard = some (j, b)) (hj : (ops[j]?).bind (·.dst) = some d) (hd : e d = .bool b') (hne : (b' == b) = false) (ht : o.dst = some t) (htN : t < N) (h : WL P N ops rest Q (upd e t undef) w) : WL P N ops (o :: rest) Q e w := fun a hr => by
  refine wpList_step fun K hK => ?_
  have hy := yielded_of hr hj hd
  rw [if_neg (by simp [Region.wanted, hg, hy]; simpa using hne), ht]
  exact hK _ _ (h _ (hr.put htN undef))
/-! ### Regions that draw their order: under a condition S that every operation keeps -/
def WA (P : Program) (N : Nat) (ops : Array Oper) (S : World → Prop) (fuel : Nat) (listed : List Bool) (Q : Post) (e : Env) (w : World) : Prop :=
  ∀ a, Rep N a e → wpAnyH P .any ops (liftQ N Q) S fuel listed.toArray a w
theorem W.draw {id : Nat} {l : List Oper} {W0 : World} {L : List HProp} (S : World → Prop) (hm : P.follows .mixedOrders = true) (hs : sat W0 L w)
    (h : ∀ w, sat W0 L w → WA P N l.toArray S l.length (List.replicate l.length false) Q e w) : W P N (.region id l.toArray true) Q e w := fun a hr => by
  refine wp_region_held (S := S) hm ?_
  have := h { w with drawn := w.drawn + 1 } (sat_drew hs) a hr
  simpa using this
theorem listed_set (l : List Bool) (i : Nat) : l.toArray.setIfInBounds i true = (l.set i true).toArray := by simp
theorem WA.take {S : World → Prop} {fuel : Nat} {listed : List Bool} (i : Nat) {oi : Oper} {d : Nat} {v : Value} (hi : ops[i]? = some oi) (hdst : oi.dst = some d) (hg : oi.guard = none) (hv : valueOp oi.op = true)
    (hs : Region.noSelect ops = true) (hf : Region.free .any ops listed.toArray i = true) (hr : (Region.ready .any ops listed.toArray).contains i = true) (hS : S w) (hd : d < N)
    (hrun : ∀ w, S w → OPw P N oi (fun e' w' => e' = upd e d v ∧ w' = w) e w) (h : WA P N ops S fuel (listed.set i true) Q (upd e d v) w) : WA P N ops S (fuel + 1) listed Q e w := fun a hR => by
  refine wpAnyH_first (v := v) hi (Region.noSelect_spec hs) (fun c a w hq => absurd hq.1 (by simp [calm])) fuel _ a w (Region.free_spec hi hf) (by simpa using hr) (.inl ⟨by simp [Region.wanted, hg], fun w hw => run_of_OPw hR hd hv hdst (hrun w hw)⟩) hS ?_
  rw [listed_set, hdst]
  exact h _ (hR.put hd v)
theorem WA.takeG {S : World → Prop} {fuel : Nat} {listed : List Bool} (i : Nat) {oi : Oper} {d j dj : Nat} {v : Value} {b : Bool} (hi : ops[i]? = some oi) (hdst : oi.dst = some d) (hg : oi.guard = some (j, b)) (hv : valueOp oi.op = true) (hj : (ops[j]?).bind (·.dst) = some dj) (hb : e dj = .bool b)
    (hs : Region.noSelect ops = true) (hf : Region.free .any ops listed.toArray i = true) (hr : (Region.ready .any ops listed.toArray).contains i = true) (hS : S w) (hd : d < N)
    (hrun : ∀ w, S w → OPw P N oi (fun e' w' => e' = upd e d v ∧ w' = w) e w) (h : WA P N ops S fuel (listed.set i true) Q (upd e d v) w) : WA P N ops S (fuel + 1) listed Q e w := fun a hR => by
  refine wpAnyH_first (v := v) hi (Region.noSelect_spec hs) (fun c a w hq => absurd hq.1 (by simp [calm])) fuel _ a w (Region.free_spec hi hf) (by simpa using hr) (.inl ⟨by simp [Region.wanted, hg, yielded_of hR hj hb], fun w hw => run_of_OPw hR hd hv hdst (hrun w hw)⟩) hS ?_
  rw [listed_set, hdst]
  exact h _ (hR.put hd v)
theorem WA.passG {S : World → Prop} {fuel : Nat} {listed : List Bool} (i : Nat) {oi : Oper} {d j dj : Nat} {b b' : Bool} (hi : ops[i]? = some oi) (hdst : oi.dst = some d) (hg : oi.guard = some (j, b)) (hj : (ops[j]?).bind (·.dst) = some dj) (hb : e dj = .bool b') (hne : (b' == b) = false)
    (hs : Region.noSelect ops = true) (hf : Region.free .any ops listed.toArray i = true) (hr : (Region.ready .any ops listed.toArray).contains i = true) (hS : S w) (hd : d < N)
    (h : WA P N ops S fuel (listed.set i true) Q (upd e d undef) w) : WA P N ops S (fuel + 1) listed Q e w := fun a hR => by
  refine wpAnyH_first (v := undef) hi (Region.noSelect_spec hs) (fun c a w hq => absurd hq.1 (by simp [calm])) fuel _ a w (Region.free_spec hi hf) (by simpa using hr) (.inr ⟨by simp [Region.wanted, hg, yielded_of hR hj hb]; simpa using hne, rfl⟩) hS ?_
  rw [listed_set, hdst]
  exact h _ (hR.put hd undef)
/-- whichever comes up next -/
def WAs (P : Program) (N : Nat) (ops : Array Oper) (S : World → Prop) (fuel : Nat) (listed : List Bool) (Q : Post) (e : Env) (w : World) (rs : List Nat) : Prop :=
  ∀ a, Rep N a e → ∀ i ∈ rs, wpOp P ops (liftQ N Q) i (fun a' w' => S w' ∧ wpAnyH P .any ops (liftQ N Q) S fuel (listed.toArray.setIfInBounds i true) a' w') a w
theorem WAs.nil {S : World → Prop} {fuel : Nat} {listed : List Bool} : WAs P N ops S fuel listed Q e w [] := fun _ _ _ h => by cases h
theorem WAs.cons {S : World → Prop} {fuel : Nat} {listed : List Bool} {i : Nat} {rs : List Nat} {oi : Oper} (hi : ops[i]? = some oi) (hg : oi.guard = none) (h : OPw P N oi (fun e w => S w ∧ WA P N ops S fuel (listed.set i true) Q e w) e w) (hs : WAs P N ops S fuel listed Q e w rs) : WAs P N ops S fuel listed Q e w (i :: rs) := fun a hR j hj => by
  rcases List.mem_cons.1 hj with rfl | hj
  · unfold wpOp
    simp only [hi]
    rw [if_pos (by simp [Region.wanted, hg])]
    refine .inl (h a hR _ _ fun a' e' w' hr' hk => ⟨hk.1, ?_⟩)
    rw [listed_set]; exact hk.2 a' hr'
  · exact hs a hR j hj
theorem WAs.consG {S : World → Prop} {fuel : Nat} {listed : List Bool} {i : Nat} {rs : List Nat} {oi : Oper} {j dj : Nat} {b : Bool} (hi : ops[i]? = some oi) (hg : oi.guard = some (j, b)) (hj : (ops[j]?).bind (·.dst) = some dj) (hb : e dj = .bool b) (h : OPw P N oi (fun e w => S w ∧ WA P N ops S fuel (listed.set i true) Q e w) e w) (hs : WAs P N ops S fuel listed Q e w rs) : WAs P N ops S fuel listed Q e w (i :: rs) := fun a hR k hk => by
  rcases List.mem_cons.1 hk with rfl | hk
  · unfold wpOp
    simp only [hi]
    rw [if_pos (by simp [Region.wanted, hg, yielded_of hR hj hb])]
    refine .inl (h a hR _ _ fun a' e' w' hr' hk => ⟨hk.1, ?_⟩)
    rw [listed_set]; exact hk.2 a' hr'
  · exact hs a hR k hk
theorem WA.all {S : World → Prop} {fuel : Nat} {listed : List Bool} (rs : List Nat) (hr : Region.ready .any ops listed.toArray = rs) (hne : rs ≠ []) (h : WAs P N ops S fuel listed Q e w rs) : WA P N ops S (fuel + 1) listed Q e w := fun a hR =>
  wpAnyH_all hr hne (h a hR)
theorem WA.done {S : World → Prop} {fuel : Nat} {listed : List Bool} (hr : Region.ready .any ops listed.toArray = []) (h : Q .normal e w) : WA P N ops S fuel listed Q e w := fun _ hR =>
  wpAnyH_done hr ⟨rfl, e, hR, h⟩ fuel
/-! ### What one operation does -/
variable {K : Env → World → Prop} {g : Option (Nat × Bool)}
theorem OP.val {d : Nat} {op : Op} {ty : TypeId} {pos : String} {af : Array Edge} {v : Value} {w' : World} (hd : d < N)
    (hrun : (execOp (evalE e) ⟨some d, op, ty, pos, af, g⟩).run P w = .ok (.value v) w')
    (k : K (upd e d v) w') : OPw P N ⟨some d, op, ty, pos, af, g⟩ K e w := fun _ hr _ _ hK =>
  Oper.wp_of (r := .ok (.value v) w') (by rw [hr.eval]; exact hrun) (hK _ _ _ (hr.put hd v) k)
theorem OP.skip {op : Op} {ty : TypeId} {pos : String} {af : Array Edge} {w' : World}
    (hrun : (execOp (evalE e) ⟨none, op, ty, pos, af, g⟩).run P w = .ok .skip w')
    (k : K e w') : OPw P N ⟨none, op, ty, pos, af, g⟩ K e w := fun _ hr _ _ hK =>
  Oper.wp_of (r := .ok .skip w') (by rw [hr.eval]; exact hrun) (hK _ _ _ hr k)
theorem OP.enter {d : Nat} {op : Op} {ty : TypeId} {pos : String} {af : Array Edge} {w' : World} {f : FuncId} {args : Array Value} (hd : d < N)
    (hrun : (execOp (evalE e) ⟨some d, op, ty, pos, af, g⟩).run P w = .ok (.enter f args) w')
    (hc : Calls P f args w' fun x w'' => ∃ v, x = .returned v ∧ K (upd e d v) w'') : OPw P N ⟨some d, op, ty, pos, af, g⟩ K e w := fun _ hr _ _ hK => by
  refine Oper.wp_of (r := .ok (.enter f args) w') (by rw [hr.eval]; exact hrun) ?_
  refine hc.mono fun x w'' => ?_
  rintro ⟨v, rfl, h⟩
  exact hK _ _ _ (hr.put hd v) h
/-- the same, its result thrown away -/
theorem OP.enter0 {op : Op} {ty : TypeId} {pos : String} {af : Array Edge} {w' : World} {f : FuncId} {args : Array Value}
    (hrun : (execOp (evalE e) ⟨none, op, ty, pos, af, g⟩).run P w = .ok (.enter f args) w')
    (hc : Calls P f args w' fun x w'' => ∃ v, x = .returned v ∧ K e w'') : OPw P N ⟨none, op, ty, pos, af, g⟩ K e w := fun _ hr _ _ hK => by
  refine Oper.wp_of (r := .ok (.enter f args) w') (by rw [hr.eval]; exact hrun) ?_
  refine hc.mono fun x w'' => ?_
  rintro ⟨v, rfl, h⟩
  exact hK _ _ _ hr h
end Sv
