/- Equality of structs of whole numbers. -/
import Derived.Test.YtleolejhkdolpaaSepMap
namespace Sv
open Go Go.RowKit
variable {W0 : World} {L : List HProp} {w : World} {P : Program} {N : Nat} {K : Env → World → Prop} {g : Option (Nat × Bool)} {e : Env} {d : Nat} {ty : TypeId} {pos : String} {af : Array Edge}
/-- a struct whose fields are whole numbers of one kind, one cell each -/
def intStruct (P : Program) (kd : IntKind) (fs : List Field) : Bool :=
  fs.zipIdx.all fun (f, i) => f.name != "_" && decide (f.offset = i) && (match P.underlying f.type with | some (.int k) => decide (k = kd) | _ => false)
def eqInts (P : Program) (kd : IntKind) (t : TypeId) : Bool := match P.underlying t with
  | some (.struct fs) => intStruct P kd fs.toList && !P.stoodInHeld t && !P.eqGuardType P.depth t
  | _ => false
theorem run_eqFields {kd : IntKind} {n : Nat} : ∀ (fs : List Field) (xs ys : List Int) (i : Nat) (X Y : List Value), (∀ j f, fs[j]? = some f → f.name ≠ "_" ∧ f.offset = i + j ∧ P.underlying f.type = some (.int kd)) → fs.length = xs.length → fs.length = ys.length →
    (∀ j v, xs[j]? = some v → X[i + j]? = some (.int kd v)) → (∀ j v, ys[j]? = some v → Y[i + j]? = some (.int kd v)) → ∀ w,
    (do
      for f in fs do
        if f.name ≠ "_" then
          if !(← Op.equalIn (n + 1) f.type (← part f.type X.toArray f.offset) (← part f.type Y.toArray f.offset)) then return false
      pure true : Sem Bool).run P w = .ok (decide (xs = ys)) w := by
  intro fs
  induction fs with
  | nil =>
    intro xs ys i X Y _ h1 h2 _ _ w
    have e1 : xs = [] := List.length_eq_zero_iff.1 h1.symm
    have e2 : ys = [] := List.length_eq_zero_iff.1 h2.symm
    subst e1; subst e2
    simp
  | cons f fs ih =>
    intro xs ys i X Y hf h1 h2 hX hY w
    cases xs with
    | nil => simp at h1
    | cons x xs =>
      cases ys with
      | nil => simp at h2
      | cons y ys =>
        obtain ⟨g1, g2, g3⟩ := hf 0 f rfl
        have hsc : scalarT P f.type = true := by simp [scalarT, g3]
        have hX0 := hX 0 x rfl
        have hY0 := hY 0 y rfl
        simp only [Nat.add_zero] at g2 hX0 hY0
        have p1 : (part f.type X.toArray f.offset).run P w = .ok (.int kd x) w := by
          simp [part, run_isAgg_false hsc, g2, hX0]
        have p2 : (part f.type Y.toArray f.offset).run P w = .ok (.int kd y) w := by
          simp [part, run_isAgg_false hsc, g2, hY0]
        have ih' := ih xs ys (i + 1) X Y (fun j f' hj => by have := hf (j + 1) f' (by simpa using hj); exact ⟨this.1, by omega, this.2.2⟩) (by simpa using h1) (by simpa using h2) (fun j v hj => by have := hX (j + 1) v (by simpa using hj); rwa [show i + (j + 1) = i + 1 + j by omega] at this) (fun j v hj => by have := hY (j + 1) v (by simpa using hj); rwa [show i + (j + 1) = i + 1 + j by omega] at this) w
        by_cases hxy : x = y
        · subst hxy
          have : decide (x :: xs = x :: ys) = decide (xs = ys) := by simp
          rw [this]
          simp only [Sem.run_bind] at ih' ⊢
          rw [List.forIn_cons]
          simp only [Sem.run_bind, g1, ne_eq, not_false_eq_true, if_true, p1, p2, Result.andThen_ok, run_equalIn_int g3, beq_self_eq_true, Bool.not_true, Bool.false_eq_true, if_false, Sem.run_pure]
          exact ih'
        · have : decide (x :: xs = y :: ys) = false := by simp [hxy]
          rw [this]
          have hb : (x == y) = false := by simpa using hxy
          simp [List.forIn_cons, g1, p1, p2, run_equalIn_int g3, hb]
theorem run_equal_ints {kd : IntKind} {t : TypeId} {xs ys : List Int} {n : Nat} (h : eqInts P kd t = true) (_ : sizeT P t = some n) (h1 : xs.length = n) (h2 : ys.length = n) (hfs : ∀ fs, P.underlying t = some (.struct fs) → fs.size = n) (w : World) : (Op.equal t (.agg (xs.map (Value.int kd)).toArray) (.agg (ys.map (Value.int kd)).toArray)).run P w = .ok (decide (xs = ys)) w := by
  unfold eqInts at h
  cases hu : P.underlying t with
  | none => simp [hu] at h
  | some u =>
    cases u with
    | struct fs =>
      simp only [hu, Bool.and_eq_true, Bool.not_eq_true'] at h
      obtain ⟨⟨hi, hst⟩, hg⟩ := h
      refine run_equal ?_
      rw [Op.equalIn]
      have hlen := hfs fs hu
      have hall : ∀ j f, fs.toList[j]? = some f → f.name ≠ "_" ∧ f.offset = 0 + j ∧ P.underlying f.type = some (.int kd) := by
        intro j f hj
        unfold intStruct at hi
        rw [List.all_eq_true] at hi
        have hm : (f, j) ∈ fs.toList.zipIdx := by
          rw [List.mem_zipIdx_iff_getElem?]; exact hj
        have := hi (f, j) hm
        simp only [Bool.and_eq_true, bne_iff_ne, ne_eq, decide_eq_true_eq] at this
        obtain ⟨⟨a1, a2⟩, a3⟩ := this
        refine ⟨a1, by omega, ?_⟩
        cases hv : P.underlying f.type with
        | none => simp [hv] at a3
        | some q => cases q <;> simp [hv] at a3; rw [a3]
      have key := run_eqFields (P := P) (n := 9998) fs.toList xs ys 0 (xs.map (Value.int kd)) (ys.map (Value.int kd)) hall (by rw [h1, Array.length_toList]; exact hlen) (by rw [h2, Array.length_toList]; exact hlen) (fun j v hj => by simp [hj]) (fun j v hj => by simp [hj]) w
      simp only [Sem.run_bind, run_underlying hu, Result.andThen_ok, run_program, hst, Bool.false_eq_true, if_false]
      rw [← Array.forIn_toList]
      simp only [Sem.run_bind] at key
      exact key
    | _ => simp [hu] at h
theorem OP.eqStruct {kd : IntKind} {t t' : TypeId} {x y : Operand} {n : Nat} (xs ys : List Int) (h : eqInts P kd t = true) (hn : sizeT P t = some n) (h1 : xs.length = n) (h2 : ys.length = n) (hfs : ∀ fs, P.underlying t = some (.struct fs) → fs.size = n) (hx : evalE e x = .agg (xs.map (Value.int kd)).toArray) (hy : evalE e y = .agg (ys.map (Value.int kd)).toArray) (hd : d < N) (k : K (upd e d (.bool (decide (xs = ys)))) w) : OPw P N ⟨some d, .binOp .eql t x y t', ty, pos, af, g⟩ K e w :=
  OP.val hd (by
    have hg : P.eqGuardType P.depth t = false := by
      unfold eqInts at h
      cases hu : P.underlying t with
      | none => simp [hu] at h
      | some u => cases u <;> simp [hu] at h; exact h.2
    have hr := run_equal_ints (P := P) h hn h1 h2 hfs w
    simp [execOp, hx, hy, binOp, eqGuard, hg, hr]) k
end Sv
