/- Parts of slices: x[lo:hi:max], appending in place, clearing behind a slice; bytes that are known to stand. -/
import Derived.Test.YtleolejhkdolpaaSepAppend
namespace Sv
open Go Go.RowKit
variable {W0 : World} {L : List HProp} {w : World} {P : Program} {N : Nat} {K : Env → World → Prop} {g : Option (Nat × Bool)} {e : Env} {d : Nat} {ty : TypeId} {pos : String} {af : Array Edge}
/-- where a part of a slice begins -/
def subA (a : Option Addr) (l sz c : Nat) : Option Addr := if c = l then a else a.map (·.add (l * sz))
theorem subA_zero {a : Option Addr} {sz c : Nat} : subA a 0 sz c = a := by
  unfold subA
  split
  · rfl
  · cases a with
    | none => rfl
    | some x => obtain ⟨b, o, s⟩ := x; simp [Addr.add]
/-- a bound of a slice expression: not written, or a whole number -/
def bnd (e : Env) (dflt : Nat) (x : Option Operand) (i : Nat) : Prop := match x with
  | none => i = dflt
  | some o => ∃ k, evalE e o = .int k (i : Int)
theorem OP.slice2 {t el sz n c : Nat} {a : Option Addr} {x : Operand} {lo hi : Option Operand} (l h : Nat) (ht : P.underlying t = some (.slice el)) (hsz : sizeT P el = some sz) (hx : evalE e x = .slice a n c) (hlo : bnd e 0 lo l) (hhi : bnd e n hi h) (hlh : l ≤ h) (hnc : n ≤ c) (hc : h ≤ c) (hd : d < N)
    (k : K (upd e d (.slice (subA a l sz c) (h - l) (c - l))) w) : OPw P N ⟨some d, .slice t x lo hi none, ty, pos, af, g⟩ K e w :=
  OP.val hd (by
    cases lo with
    | none =>
      simp only [bnd] at hlo; subst hlo
      cases hi with
      | none =>
        simp only [bnd] at hhi; subst hhi
        simp [execOp, hx, Instr.sliceAt, Instr.slice, Instr.sliceBounds, run_underlying ht, run_sizeOf hsz, subA]
      | some o =>
        obtain ⟨kd, ho⟩ := hhi
        have h1 : (0 : Int) ≤ (h : Int) ∧ (h : Int) ≤ (c : Int) := by omega
        simp [execOp, hx, ho, Instr.sliceAt, Instr.slice, Instr.sliceBounds, Instr.sliceBound, asIntOf, run_underlying ht, run_sizeOf hsz, subA, hc]
    | some o' =>
      obtain ⟨kd', ho'⟩ := hlo
      cases hi with
      | none =>
        simp only [bnd] at hhi; subst hhi
        simp [execOp, hx, ho', Instr.sliceAt, Instr.slice, Instr.sliceBounds, Instr.sliceBound, asIntOf, run_underlying ht, run_sizeOf hsz, subA, hlh]
      | some o =>
        obtain ⟨kd, ho⟩ := hhi
        simp [execOp, hx, ho, ho', Instr.sliceAt, Instr.slice, Instr.sliceBounds, Instr.sliceBound, asIntOf, run_underlying ht, run_sizeOf hsz, subA, hc, hlh]) k
theorem OP.slice3 {t el sz n c : Nat} {a : Option Addr} {x o o' o'' : Operand} {k1 k2 k3 : IntKind} (l h m : Nat) (ht : P.underlying t = some (.slice el)) (hsz : sizeT P el = some sz) (hx : evalE e x = .slice a n c) (h1 : evalE e o = .int k1 (l : Int)) (h2 : evalE e o' = .int k2 (h : Int)) (h3 : evalE e o'' = .int k3 (m : Int)) (hlh : l ≤ h) (hm : h ≤ m) (hc : m ≤ c) (hd : d < N)
    (k : K (upd e d (.slice (subA a l sz m) (h - l) (m - l))) w) : OPw P N ⟨some d, .slice t x (some o) (some o') (some o''), ty, pos, af, g⟩ K e w :=
  OP.val hd (by
    simp [execOp, hx, h1, h2, h3, Instr.sliceAt, Instr.slice, Instr.sliceBounds, Instr.sliceBound, asIntOf, run_underlying ht, run_sizeOf hsz, subA, hc, hlh, hm]) k
theorem OP.sliceTo {t el sz n c : Nat} {a : Option Addr} {x o : Operand} {kd : IntKind} (h : Nat) (ht : P.underlying t = some (.slice el)) (hsz : sizeT P el = some sz) (hx : evalE e x = .slice a n c) (ho : evalE e o = .int kd (h : Int)) (hnc : n ≤ c) (hc : h ≤ c) (hd : d < N)
    (k : K (upd e d (.slice a h c)) w) : OPw P N ⟨some d, .slice t x none (some o) none, ty, pos, af, g⟩ K e w :=
  OP.slice2 0 h ht hsz hx rfl ⟨kd, ho⟩ (Nat.zero_le _) hnc hc hd (by rw [subA_zero, Nat.sub_zero, Nat.sub_zero]; exact k)
theorem OP.sliceFrom {t el sz n c : Nat} {a : Option Addr} {x o : Operand} {kd : IntKind} (l : Nat) (ht : P.underlying t = some (.slice el)) (hsz : sizeT P el = some sz) (hx : evalE e x = .slice a n c) (ho : evalE e o = .int kd (l : Int)) (hl : l ≤ n) (hnc : n ≤ c) (hd : d < N)
    (k : K (upd e d (.slice (subA a l sz c) (n - l) (c - l))) w) : OPw P N ⟨some d, .slice t x (some o) none none, ty, pos, af, g⟩ K e w :=
  OP.slice2 l n ht hsz hx ⟨kd, ho⟩ rfl hl hnc hnc hd k
/-- what a part reads -/
theorem Rd.sub {sz n c : Nat} {a : Option Addr} {cs : List Value} (l h : Nat) (hr : Rd w sz a n cs) (hlh : l ≤ h) (hh : h ≤ n) (hnc : n ≤ c) : Rd w sz (subA a l sz c) (h - l) ((cs.drop (l * sz)).take ((h - l) * sz)) := by
  have h1 := hr.1
  have hm : h * sz ≤ n * sz := Nat.mul_le_mul_right _ hh
  have hm2 : (h - l) * sz = h * sz - l * sz := Nat.sub_mul _ _ _
  refine ⟨by rw [List.length_take, List.length_drop, h1]; omega, fun hpos => ?_⟩
  obtain ⟨b, o, rfl, hrd⟩ := hr.2 (by omega)
  refine ⟨b, o + l * sz, ?_, fun j v hj => ?_⟩
  · unfold subA
    rw [if_neg (by omega)]
    exact congrArg Option.some (addr_add b o (l * sz))
  · have hlt : j < (h - l) * sz := by
      rcases Nat.lt_or_ge j ((h - l) * sz) with g | g
      · exact g
      · rw [List.getElem?_eq_none (by rw [List.length_take]; omega)] at hj; cases hj
    rw [List.getElem?_take, if_pos hlt, List.getElem?_drop] at hj
    have := hrd (l * sz + j) v hj
    rwa [← Nat.add_assoc] at this
/-- an owned slice, cut short: what lies behind is forgotten -/
theorem sat_SL_short {sz n c i : Nat} {a : Option Addr} {cs : List Value} (hi : i ≤ n) (k : sat W0 (SL false sz a n c cs :: L) w) : sat W0 (SL false sz a i c (cs.take (i * sz)) :: L) w := by
  refine sat_imp (fun h hb => ?_) k
  obtain ⟨h1, h2, h3⟩ := hb
  have hm : i * sz ≤ n * sz := Nat.mul_le_mul_right _ hi
  refine ⟨by rw [List.length_take, h1]; omega, by omega, ?_⟩
  rcases h3 with ⟨g1, g2, g3⟩ | ⟨b, o, T, pre, post, g1, g2, g3, g4⟩
  · exact .inl ⟨g1, by omega, g3⟩
  · refine .inr ⟨b, o, T, pre, cs.drop (i * sz) ++ post, g1, g2, ?_, ?_⟩
    · rw [List.length_append, List.length_drop, h1]
      have e1 : (c - i) * sz = c * sz - i * sz := Nat.sub_mul _ _ _
      have e2 : (c - n) * sz = c * sz - n * sz := Nat.sub_mul _ _ _
      have e3 : n * sz ≤ c * sz := Nat.mul_le_mul_right _ h2
      omega
    · have e : pre ++ cs.take (i * sz) ++ (cs.drop (i * sz) ++ post) = pre ++ cs ++ post := by
        rw [List.append_assoc, ← List.append_assoc (cs.take _), List.take_append_drop, List.append_assoc]
      rw [g4, e]
theorem putAt_end : ∀ (ds post cs : List Value), ds.length ≤ post.length → putAt (cs ++ post) cs.length ds = cs ++ ds ++ post.drop ds.length := by
  intro ds
  induction ds with
  | nil => intro post cs _; simp [putAt]
  | cons v ds ih =>
    intro post cs h
    cases post with
    | nil => simp at h
    | cons u post =>
      simp only [putAt]
      rw [List.set_append_right _ _ (Nat.le_refl _), Nat.sub_self, List.set_cons_zero]
      have := ih post (cs ++ [v]) (by simpa using h)
      simpa using this
/-- append where there is room: in place -/
theorem OP.appendIn {t el sz n c m mc : Nat} {x y : Operand} {at' : Array TypeId} {a xa : Option Addr} {cs ds : List Value} (hs : sat W0 (SL false sz a n c cs :: L) w) (hr : Rd w sz xa m ds)
    (ht : P.underlying t = some (.slice el)) (hsz : sizeT P el = some sz) (hroom : n + m ≤ c) (hc : 0 < c) (hone : ∀ v ∈ ds, v.oneCell' = true)
    (hat : at' = #[t, t]) (hx : evalE e x = .slice a n c) (hy : evalE e y = .slice xa m mc) (hd : d < N)
    (k : ∀ w', sat W0 (SL false sz a (n + m) c (cs ++ ds) :: L) w' → K (upd e d (.slice a (n + m) c)) w') : OPw P N ⟨some d, .call ⟨.builtin .append, #[x, y], at'⟩, ty, pos, af, g⟩ K e w := by
  subst hat
  have hlen := hr.1
  obtain ⟨b0, o0, ha0⟩ := sat_SL_some hc hs
  obtain ⟨b, o, T, pre, post, ha', hp, hq, hl, hnc, hs'⟩ := sat_SL_open (by rw [ha0]; simp) hs
  subst ha'
  subst hp
  have hmz : m * sz ≤ (c - n) * sz := Nat.mul_le_mul_right _ (by omega)
  obtain ⟨w', hrun, hs2⟩ := run_storeCells (P := P) (o := pre.length + n * sz) ds 0 _ w hone (by simp; omega) hs'
  refine OP.val (v := .slice (some ⟨b, pre.length, none⟩) (n + m) c) hd ?_ (k w' ?_)
  · simp [execOp, hx, hy, resolve, invoke, builtin, Builtin.append_, run_underlying ht, run_sizeOf hsz, Builtin.lenOf, run_firstCells hr, hroom, addr_add, hrun]
  · have e1 : pre ++ cs ++ post = pre ++ (cs ++ post) ++ [] := by simp
    rw [e1, show pre.length + n * sz + 0 = pre.length + n * sz from rfl, putAt_mid pre ds (cs ++ post) [] (n * sz) (by simp; omega)] at hs2
    have e2 : putAt (cs ++ post) (n * sz) ds = cs ++ ds ++ post.drop ds.length := by
      rw [← hl]
      exact putAt_end ds post cs (by omega)
    rw [e2] at hs2
    have e3 : pre ++ (cs ++ ds ++ post.drop ds.length) ++ [] = pre ++ (cs ++ ds) ++ post.drop ds.length := by simp
    rw [e3] at hs2
    refine sat_SL_shut (by simp [hl, hlen, Nat.add_mul]) hroom rfl ?_ hs2
    rw [List.length_drop, hlen, show c - (n + m) = (c - n) - m by omega, Nat.sub_mul]; omega
theorem OP.valN {op : Op} {v : Value} {w' : World} (hrun : (execOp (evalE e) ⟨none, op, ty, pos, af, g⟩).run P w = .ok (.value v) w') (k : K e w') : OPw P N ⟨none, op, ty, pos, af, g⟩ K e w := fun _ hr _ _ hK =>
  Oper.wp_of (r := .ok (.value v) w') (by rw [hr.eval]; exact hrun) (hK _ _ _ hr k)
/-- clearing behind a slice, within its room -/
theorem OP.clearBehind {t el sz n c m mc : Nat} {x : Operand} {at' : Array TypeId} {a : Option Addr} {cs : List Value} {zv : Value} {z : List Value} (hs : sat W0 (SL false sz a n c cs :: L) w)
    (ht : P.underlying t = some (.slice el)) (hzt : zeroT P el = some zv) (hz : zv.cells = z.toArray) (hzl : z.length = sz) (hone : ∀ v ∈ z, v.oneCell' = true) (hroom : n + m ≤ c)
    (hat : at' = #[t]) (hx : evalE e x = .slice (subA a n sz c) m mc)
    (k : ∀ w', sat W0 (SL false sz a n c cs :: L) w' → K e w') : OPw P N ⟨none, .call ⟨.builtin .clear, #[x], at'⟩, ty, pos, af, g⟩ K e w := by
  subst hat
  by_cases hm : m = 0
  · subst hm
    refine OP.valN (v := .tuple #[]) (w' := w) ?_ (k w hs)
    cases hq : subA a n sz c with
    | none => rw [hq] at hx; simp [execOp, hx, resolve, invoke, builtin, Builtin.clear_, run_underlying ht]
    | some q => rw [hq] at hx; simp [execOp, hx, resolve, invoke, builtin, Builtin.clear_, run_underlying ht]
  · obtain ⟨b0, o0, ha0⟩ := sat_SL_some (by omega) hs
    obtain ⟨b, o, T, pre, post, ha', hp, hq, hl, hnc, hs'⟩ := sat_SL_open (by rw [ha0]; simp) hs
    subst ha'
    subst hp
    have hmz : m * sz ≤ (c - n) * sz := Nat.mul_le_mul_right _ (by omega)
    have hsub : subA (some ⟨b, pre.length, none⟩) n sz c = some ⟨b, pre.length + n * sz, none⟩ := by
      unfold subA
      rw [if_neg (by omega)]
      exact congrArg Option.some (addr_add b _ _)
    rw [hsub] at hx
    have hzc : Builtin.zeroCells zv.cells m = (reps m z).toArray := by
      rw [hz]; unfold Builtin.zeroCells
      exact range_reps_arr z m
    have hone' : ∀ v ∈ reps m z, v.oneCell' = true := by
      intro v hv
      unfold reps at hv
      rw [List.mem_flatten] at hv
      obtain ⟨y, hy, hv⟩ := hv
      rw [List.mem_replicate] at hy
      exact hone v (hy.2 ▸ hv)
    have hrl : (reps m z).length = m * sz := by rw [reps_length, hzl]
    obtain ⟨w', hrun, hs2⟩ := run_storeCells (P := P) (o := pre.length + n * sz) (reps m z) 0 _ w hone' (by simp; omega) hs'
    refine OP.valN (v := .tuple #[]) (w' := w') ?_ (k w' ?_)
    · cases m with
      | zero => exact absurd rfl hm
      | succ m => simp [execOp, hx, resolve, invoke, builtin, Builtin.clear_, run_underlying ht, run_zeroValue hzt, hzc, hrun]
    · have e1 : pre ++ cs ++ post = pre ++ (cs ++ post) ++ [] := by simp
      rw [e1, show pre.length + n * sz + 0 = pre.length + n * sz from rfl, putAt_mid pre (reps m z) (cs ++ post) [] (n * sz) (by simp; omega)] at hs2
      have e2 : putAt (cs ++ post) (n * sz) (reps m z) = cs ++ reps m z ++ post.drop (reps m z).length := by
        rw [← hl]
        exact putAt_end _ post cs (by omega)
      rw [e2] at hs2
      have e3 : pre ++ (cs ++ reps m z ++ post.drop (reps m z).length) ++ [] = pre ++ cs ++ (reps m z ++ post.drop (reps m z).length) := by simp
      rw [e3] at hs2
      refine sat_SL_shut hl hnc rfl ?_ hs2
      rw [List.length_append, List.length_drop]; omega
variable {ops : Array Oper} {rest : List Oper} {o : Oper} {Q : Post}
theorem yielded_undef {a : Act} (hr : Rep N a e) {j d : Nat} (hj : (ops[j]?).bind (·.dst) = some d) (hd : e d = undef) : yielded ops a.tmps j = none := by
  have hg := hr.get d
  rw [hd, Array.getD_eq_getD_getElem?] at hg
  unfold yielded
  rw [hj]
  simp only [Option.bind_some]
  cases h : a.tmps[d]? with
  | none => rfl
  | some v =>
    rw [h] at hg
    simp only [Option.getD_some] at hg
    subst hg
    rfl
theorem WL.passU {j d t : Nat} {b : Bool} (hg : o.guard = some (j, b)) (hj : (ops[j]?).bind (·.dst) = some d) (hd : e d = undef) (ht : o.dst = some t) (htN : t < N) (h : WL P N ops rest Q (upd e t undef) w) : WL P N ops (o :: rest) Q e w := fun a hr => by
  refine wpList_step fun K hK => ?_
  have hy := yielded_undef hr hj hd
  rw [if_neg (by simp [Region.wanted, hg, hy]), ht]
  exact hK _ _ (h _ (hr.put htN undef))
theorem WA.passU {S : World → Prop} {fuel : Nat} {listed : List Bool} (i : Nat) {oi : Oper} {d j dj : Nat} {b : Bool} (hi : ops[i]? = some oi) (hdst : oi.dst = some d) (hg : oi.guard = some (j, b)) (hj : (ops[j]?).bind (·.dst) = some dj) (hb : e dj = undef)
    (hs : Region.noSelect ops = true) (hf : Region.free .any ops listed.toArray i = true) (hr : (Region.ready .any ops listed.toArray).contains i = true) (hS : S w) (hd : d < N)
    (h : WA P N ops S fuel (listed.set i true) Q (upd e d undef) w) : WA P N ops S (fuel + 1) listed Q e w := fun a hR => by
  refine wpAnyH_first (v := undef) hi (Region.noSelect_spec hs) (fun c a w hq => absurd hq.1 (by simp [calm])) fuel _ a w (Region.free_spec hi hf) (by simpa using hr) (.inr ⟨by simp [Region.wanted, hg, yielded_undef hR hj hb], rfl⟩) hS ?_
  rw [listed_set, hdst]
  exact h _ (hR.put hd undef)
end Sv
