/- Rules for the operations of a region, over environments of slots and owned blocks. -/
import Derived.Test.YtleolejhkdolpaaSep
namespace Sv
open Go Go.RowKit
variable {W0 : World} {L : List HProp} {w : World} {P : Program} {N : Nat} {K : Env → World → Prop} {g : Option (Nat × Bool)} {e : Env} {d : Nat} {ty : TypeId} {pos : String} {af : Array Edge}

/-! ## The program's tables -/
def scalarT (P : Program) (t : TypeId) : Bool := match P.underlying t with | some (.struct _) | some (.array ..) | none => false | _ => true
def aggT (P : Program) (t : TypeId) : Bool := match P.underlying t with | some (.struct _) | some (.array ..) => true | _ => false
def sizeT (P : Program) (t : TypeId) : Option Nat := (P.info? t).map (·.size)
def zeroT (P : Program) (t : TypeId) : Option Value := (P.info? t).bind (·.zero)
def bytesT (P : Program) (t : TypeId) : Option Nat := (P.info? t).map (·.bytes)
theorem run_underlying {t : TypeId} {u : TypeDesc} (h : P.underlying t = some u) (w : World) : (underlying t).run P w = .ok u w := by
  simp [underlying, h]
theorem run_isAgg_false {t : TypeId} (h : scalarT P t = true) (w : World) : (isAgg t).run P w = .ok false w := by
  unfold scalarT at h
  cases hu : P.underlying t with
  | none => simp [hu] at h
  | some d => cases d <;> simp [hu] at h <;> simp [isAgg, run_underlying hu]
theorem run_isAgg_true {t : TypeId} (h : aggT P t = true) (w : World) : (isAgg t).run P w = .ok true w := by
  unfold aggT at h
  cases hu : P.underlying t with
  | none => simp [hu] at h
  | some d => cases d <;> simp [hu] at h <;> simp [isAgg, run_underlying hu]
theorem info_of_size {t : TypeId} {n : Nat} (h : sizeT P t = some n) : ∃ i, P.info? t = some i ∧ i.size = n := by
  unfold sizeT at h
  cases hi : P.info? t with
  | none => simp [hi] at h
  | some i => simp [hi] at h; exact ⟨i, rfl, h⟩
theorem run_typeInfo {t : TypeId} {i : TypeInfo} (h : P.info? t = some i) (w : World) : (typeInfo t).run P w = .ok i w := by
  simp [typeInfo, h]
theorem run_sizeOf {t : TypeId} {n : Nat} (h : sizeT P t = some n) (w : World) : (Go.sizeOf t).run P w = .ok n w := by
  obtain ⟨i, hi, rfl⟩ := info_of_size h
  simp [Go.sizeOf, run_typeInfo hi]
theorem run_zeroValue {t : TypeId} {v : Value} (h : zeroT P t = some v) (w : World) : (zeroValue t).run P w = .ok v w := by
  unfold zeroT at h
  cases hi : P.info? t with
  | none => simp [hi] at h
  | some i => simp [hi] at h; simp [zeroValue, run_typeInfo hi, h]

/-! ## Operations that compute -/
theorem OP.move {x : Operand} (v : Value) (hx : evalE e x = v) (hd : d < N) (k : K (upd e d v) w) : OPw P N ⟨some d, .move x, ty, pos, af, g⟩ K e w :=
  OP.val hd (by subst hx; rfl) k
theorem OP.assign {x : Operand} (v : Value) (hx : evalE e x = v) (hd : d < N) (k : K (upd e d v) w) : OPw P N ⟨some d, .assign x, ty, pos, af, g⟩ K e w :=
  OP.val hd (by subst hx; rfl) k
theorem OP.pickT {c a b : Operand} (v : Value) (hc : evalE e c = .bool true) (hx : evalE e a = v) (hd : d < N) (k : K (upd e d v) w) : OPw P N ⟨some d, .pick c a b, ty, pos, af, g⟩ K e w :=
  OP.val hd (by subst hx; simp [execOp, hc, asBool]) k
theorem OP.pickF {c a b : Operand} (v : Value) (hc : evalE e c = .bool false) (hx : evalE e b = v) (hd : d < N) (k : K (upd e d v) w) : OPw P N ⟨some d, .pick c a b, ty, pos, af, g⟩ K e w :=
  OP.val hd (by subst hx; simp [execOp, hc, asBool]) k
theorem OP.nilCheck {x : Operand} {a : Addr} (hx : evalE e x = .pointer (some a)) (hd : d < N) (k : K (upd e d (.pointer (some a))) w) : OPw P N ⟨some d, .nilCheck x, ty, pos, af, g⟩ K e w :=
  OP.val hd (by simp [execOp, hx]) k
theorem OP.extract {x : Operand} {i : Nat} {vs : Array Value} (v : Value) (hx : evalE e x = .tuple vs) (hv : vs[i]? = some v) (hd : d < N) (k : K (upd e d v) w) : OPw P N ⟨some d, .extract x i, ty, pos, af, g⟩ K e w :=
  OP.val hd (by simp [execOp, hx, Instr.extract, hv]) k
theorem OP.makeFunc {f : Fn} {first cap : Array Operand} (vs : List Value) (hf : first = #[]) (hx' : cap.toList.map (evalE e) = vs) (hd : d < N) (k : K (upd e d (.func f #[] vs.toArray)) w) : OPw P N ⟨some d, .makeFunc f first cap, ty, pos, af, g⟩ K e w :=
  OP.val hd (by
    have hx : cap.map (evalE e) = vs.toArray := by
      apply Array.toList_inj.1; simp [hx']
    subst hf
    simp [execOp, Instr.makeFunc, hx]) k
theorem OP.not {t : TypeId} {x : Operand} {b : Bool} (hx : evalE e x = .bool b) (hd : d < N) (k : K (upd e d (.bool (!b))) w) : OPw P N ⟨some d, .unOp .not t x, ty, pos, af, g⟩ K e w :=
  OP.val hd (by simp [execOp, hx, Op.unary]) k
theorem OP.notP {t : TypeId} {x : Operand} (p : Prop) [Decidable p] (hx : evalE e x = .bool (decide p)) (hd : d < N) (k : K (upd e d (.bool (decide (¬ p)))) w) : OPw P N ⟨some d, .unOp .not t x, ty, pos, af, g⟩ K e w :=
  OP.val hd (by simp [execOp, hx, Op.unary]) k

/-! ### Integers -/
def inI64 (n : Int) : Prop := -9223372036854775808 ≤ n ∧ n ≤ 9223372036854775807
theorem wrap_i64 {n : Int} (h : inI64 n) : IntKind.i64.wrap n = n := by
  unfold inI64 at h; unfold IntKind.wrap
  simp [IntKind.bits, IntKind.signed]
  omega
theorem OP.add {t t' : TypeId} {x y : Operand} {a b : Int} (c : Int) (hx : evalE e x = .int .i64 a) (hy : evalE e y = .int .i64 b) (hc : a + b = c) (hr : inI64 c) (hd : d < N) (k : K (upd e d (.int .i64 c)) w) : OPw P N ⟨some d, .binOp .add t x y t', ty, pos, af, g⟩ K e w :=
  OP.val hd (by subst hc; simp [execOp, hx, hy, binOp, eqGuard, Op.intArith, wrap_i64 hr]) k
theorem OP.sub {t t' : TypeId} {x y : Operand} {a b : Int} (c : Int) (hx : evalE e x = .int .i64 a) (hy : evalE e y = .int .i64 b) (hc : a - b = c) (hr : inI64 c) (hd : d < N) (k : K (upd e d (.int .i64 c)) w) : OPw P N ⟨some d, .binOp .sub t x y t', ty, pos, af, g⟩ K e w :=
  OP.val hd (by subst hc; simp [execOp, hx, hy, binOp, eqGuard, Op.intArith, wrap_i64 hr]) k
theorem OP.mul {t t' : TypeId} {x y : Operand} {a b : Int} (c : Int) (hx : evalE e x = .int .i64 a) (hy : evalE e y = .int .i64 b) (hc : a * b = c) (hr : inI64 c) (hd : d < N) (k : K (upd e d (.int .i64 c)) w) : OPw P N ⟨some d, .binOp .mul t x y t', ty, pos, af, g⟩ K e w :=
  OP.val hd (by subst hc; simp [execOp, hx, hy, binOp, eqGuard, Op.intArith, wrap_i64 hr]) k
theorem OP.lss {t t' : TypeId} {x y : Operand} {kd : IntKind} {a b : Int} (hx : evalE e x = .int kd a) (hy : evalE e y = .int kd b) (hd : d < N) (k : K (upd e d (.bool (decide (a < b)))) w) : OPw P N ⟨some d, .binOp .lss t x y t', ty, pos, af, g⟩ K e w :=
  OP.val hd (by simp [execOp, hx, hy, binOp, eqGuard, Op.intCmp]) k
theorem OP.leq {t t' : TypeId} {x y : Operand} {kd : IntKind} {a b : Int} (hx : evalE e x = .int kd a) (hy : evalE e y = .int kd b) (hd : d < N) (k : K (upd e d (.bool (decide (a ≤ b)))) w) : OPw P N ⟨some d, .binOp .leq t x y t', ty, pos, af, g⟩ K e w :=
  OP.val hd (by simp [execOp, hx, hy, binOp, eqGuard, Op.intCmp]) k
theorem OP.gtr {t t' : TypeId} {x y : Operand} {kd : IntKind} {a b : Int} (hx : evalE e x = .int kd a) (hy : evalE e y = .int kd b) (hd : d < N) (k : K (upd e d (.bool (decide (a > b)))) w) : OPw P N ⟨some d, .binOp .gtr t x y t', ty, pos, af, g⟩ K e w :=
  OP.val hd (by simp [execOp, hx, hy, binOp, eqGuard, Op.intCmp]) k
theorem OP.geq {t t' : TypeId} {x y : Operand} {kd : IntKind} {a b : Int} (hx : evalE e x = .int kd a) (hy : evalE e y = .int kd b) (hd : d < N) (k : K (upd e d (.bool (decide (a ≥ b)))) w) : OPw P N ⟨some d, .binOp .geq t x y t', ty, pos, af, g⟩ K e w :=
  OP.val hd (by simp [execOp, hx, hy, binOp, eqGuard, Op.intCmp]) k
theorem OP.eqI {t t' : TypeId} {x y : Operand} {kd : IntKind} {a b : Int} (hx : evalE e x = .int kd a) (hy : evalE e y = .int kd b) (hd : d < N) (k : K (upd e d (.bool (decide (a = b)))) w) : OPw P N ⟨some d, .binOp .eql t x y t', ty, pos, af, g⟩ K e w :=
  OP.val hd (by simp [execOp, hx, hy, binOp, eqGuard, Op.intCmp]; rfl) k
theorem OP.neI {t t' : TypeId} {x y : Operand} {kd : IntKind} {a b : Int} (hx : evalE e x = .int kd a) (hy : evalE e y = .int kd b) (hd : d < N) (k : K (upd e d (.bool (decide (a ≠ b)))) w) : OPw P N ⟨some d, .binOp .neq t x y t', ty, pos, af, g⟩ K e w :=
  OP.val hd (by simp [execOp, hx, hy, binOp, eqGuard, Op.intCmp]; rfl) k
theorem OP.rem {t t' : TypeId} {x y : Operand} {a b : Int} (hx : evalE e x = .int .i64 a) (hy : evalE e y = .int .i64 b) (ha : 0 ≤ a) (hb : 0 < b) (hr : inI64 a) (hd : d < N) (k : K (upd e d (.int .i64 (a % b))) w) : OPw P N ⟨some d, .binOp .rem t x y t', ty, pos, af, g⟩ K e w :=
  OP.val hd (by
    have h0 : b ≠ 0 := by omega
    have h1 : Int.tmod a b = a % b := Int.tmod_eq_emod_of_nonneg ha
    have hr' : inI64 (a % b) := by
      have h1 := Int.emod_nonneg a (show b ≠ 0 by omega)
      have h2 : a % b ≤ a := by
        have h3 := Int.mul_ediv_add_emod a b
        have h4 : 0 ≤ b * (a / b) := Int.mul_nonneg (by omega) (Int.ediv_nonneg ha (by omega))
        omega
      unfold inI64 at *; omega
    simp [execOp, hx, hy, binOp, eqGuard, Op.intDiv, h0, h1]) k
theorem OP.quo {t t' : TypeId} {x y : Operand} {a b : Int} (hx : evalE e x = .int .i64 a) (hy : evalE e y = .int .i64 b) (ha : 0 ≤ a) (hb : 0 < b) (hr : inI64 a) (hd : d < N) (k : K (upd e d (.int .i64 (a / b))) w) : OPw P N ⟨some d, .binOp .quo t x y t', ty, pos, af, g⟩ K e w :=
  OP.val hd (by
    have h0 : b ≠ 0 := by omega
    have h1 : Int.tdiv a b = a / b := Int.tdiv_eq_ediv_of_nonneg ha
    have hr' : inI64 (a / b) := by
      have h1 := Int.ediv_nonneg ha (show 0 ≤ b by omega)
      have h2 : a / b ≤ a := Int.ediv_le_self _ ha
      unfold inI64 at *; omega
    simp [execOp, hx, hy, binOp, eqGuard, Op.intDiv, h0, h1, wrap_i64 hr']) k
/-- a conversion between integer kinds -/
theorem OP.conv {s t : TypeId} {x : Operand} {k1 k2 : IntKind} {n : Int} (m : Int) (hs : P.underlying s = some (.int k1)) (ht : P.underlying t = some (.int k2)) (hx : evalE e x = .int k1 n) (hm : k2.wrap n = m) (hd : d < N) (k : K (upd e d (.int k2 m)) w) : OPw P N ⟨some d, .convert s t x, ty, pos, af, g⟩ K e w :=
  OP.val hd (by subst hm; simp [execOp, hx, convert, run_underlying hs, run_underlying ht, Conv.intToInt]) k
/-! ### Equality of other kinds -/
theorem run_equal {t : TypeId} {x y : Value} {b : Bool} (h : (Op.equalIn (9999 + 1) t x y).run P w = .ok b w) : (Op.equal t x y).run P w = .ok b w := h
theorem run_equalB {t : TypeId} {a b : Bool} (ht : P.underlying t = some .bool) (w : World) : (Op.equal t (.bool a) (.bool b)).run P w = .ok (a == b) w := by
  refine run_equal ?_
  rw [Op.equalIn]
  simp [run_underlying ht]
theorem run_equalPN {t el : TypeId} {a : Option Addr} (ht : P.underlying t = some (.pointer el)) (w : World) : (Op.equal t (.pointer a) (.pointer none)).run P w = .ok a.isNone w := by
  refine run_equal ?_
  rw [Op.equalIn]
  cases a <;> simp [run_underlying ht]
theorem run_equalSN {t el : TypeId} {a : Option Addr} {n c : Nat} (ht : P.underlying t = some (.slice el)) (w : World) : (Op.equal t (.slice a n c) (.slice none 0 0)).run P w = .ok a.isNone w := by
  refine run_equal ?_
  rw [Op.equalIn]
  cases a <;> simp [run_underlying ht]
theorem run_equalMN {t kt el : TypeId} {a : Option Nat} (ht : P.underlying t = some (.map kt el)) (w : World) : (Op.equal t (.map a) (.map none)).run P w = .ok a.isNone w := by
  refine run_equal ?_
  rw [Op.equalIn]
  cases a <;> simp [run_underlying ht]
def plainEq : Value → Bool
  | .bool _ | .pointer _ | .slice .. | .map _ => true
  | _ => false
theorem OP.eqV {t t' : TypeId} {x y : Operand} {a b : Value} {r : Bool} (hx : evalE e x = a) (hy : evalE e y = b) (hp : plainEq a = true) (hp' : plainEq b = true) (hq : (Op.equal t a b).run P w = .ok r w) (hd : d < N) (k : K (upd e d (.bool r)) w) : OPw P N ⟨some d, .binOp .eql t x y t', ty, pos, af, g⟩ K e w :=
  OP.val hd (by
    have hx' := hx
    have hy' := hy
    cases a <;> simp [plainEq] at hp <;> cases b <;> simp [plainEq] at hp' <;> simp [execOp, hx', hy', binOp, eqGuard, hq]) k
theorem OP.neV {t t' : TypeId} {x y : Operand} {a b : Value} {r : Bool} (hx : evalE e x = a) (hy : evalE e y = b) (hp : plainEq a = true) (hp' : plainEq b = true) (hq : (Op.equal t a b).run P w = .ok r w) (hd : d < N) (k : K (upd e d (.bool (!r))) w) : OPw P N ⟨some d, .binOp .neq t x y t', ty, pos, af, g⟩ K e w :=
  OP.val hd (by
    have hx' := hx
    have hy' := hy
    cases a <;> simp [plainEq] at hp <;> cases b <;> simp [plainEq] at hp' <;> simp [execOp, hx', hy', binOp, eqGuard, hq]) k
end Sv
