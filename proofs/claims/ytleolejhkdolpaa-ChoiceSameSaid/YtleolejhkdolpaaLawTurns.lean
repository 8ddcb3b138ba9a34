/- The row of ChoiceTurns, out of its walk. -/
import Derived.Test.YtleolejhkdolpaaRows
import Derived.Test.YtleolejhkdolpaaA9
import Derived.Test.YtleolejhkdolpaaDec
import Derived.WalkKit
import Derived.ProofKit
import Derived.OpenShut
import Derived.ShutString
import Derived.ChangeOld
import Derived.Below
import Derived.SizedLaws
namespace Go.Proofs.Ytleolejhkdolpaa
open Go.ChangeShapes Go.WideShapes Go.ChangeAt Go.RowKit
open Go Sv
set_option linter.unusedVariables false
set_option maxRecDepth 100000
theorem law12_own : ownKnob Try.prog.godebug = none := by kernel_rfl
theorem law12_laid : laidOutB Try.prog = true := by kernel_rfl
theorem one_field {H : Type} {enc : TypeId × Value → H} {P : Program} {w : World} {m t o i : Nat} {cs : List Value} {xs : List (DataW H × List MemPlace)} {u : Value} (h : DataW.trod enc P w 0 (fun _ => true) true m t ((cs.drop o).take (P.cellsOf t)) = xs[i]?) (hi : i < xs.length) (hc : P.cellsOf t = 1) (hu : (cs.drop o).take 1 = [u]) : ∃ y, DataW.trod enc P w 0 (fun _ => true) true m t [u] = some y := by
  rw [hc, hu, List.getElem?_eq_getElem hi] at h
  exact ⟨_, h⟩
theorem law12_dec_turn {H : Type} {enc : TypeId × Value → H} {w : World} (n : Nat) (z : DataW H × List MemPlace) (cs : List Value) (h : DataW.trod enc Try.prog w 0 (fun _ => true) true n 38 cs = some z) : ∃ t : Turn, cs = encTurn t ∧ True := by
  obtain ⟨xs, m, _, _, hl, hlen, hf⟩ := DataW.trod_struct Try.underlying38 h
  have hc : Try.prog.cellsOf 38 = 3 := by kernel_rfl
  have h3 : Try.prog.cellsOf 3 = 1 := by kernel_rfl
  replace hl := hl.trans hc
  match cs, hl with
  | [a, b, c], _ =>
    have f0 := hf 0 _ rfl
    replace f0 := one_field (u := a) f0 (by rw [hlen]; decide) h3 rfl
    have f1 := hf 1 _ rfl
    replace f1 := one_field (u := b) f1 (by rw [hlen]; decide) h3 rfl
    have f2 := hf 2 _ rfl
    replace f2 := one_field (u := c) f2 (by rw [hlen]; decide) h3 rfl
    obtain ⟨_, f0⟩ := f0
    obtain ⟨_, f1⟩ := f1
    obtain ⟨_, f2⟩ := f2
    obtain ⟨x, hx, _⟩ := dec_int Try.underlying3 f0
    obtain ⟨y, hy, _⟩ := dec_int Try.underlying3 f1
    obtain ⟨u, hu, _⟩ := dec_int Try.underlying3 f2
    simp only [List.cons.injEq, and_true] at hx hy hu
    subst hx; subst hy; subst hu
    exact ⟨⟨x, y, u⟩, rfl, trivial⟩
theorem law12_dec_script {H : Type} {enc : TypeId × Value → H} {w : World} {n : Nat} {z : DataW H × List MemPlace} {cs : List Value} (h : DataW.trod enc Try.prog w 0 (fun _ => true) true n 26 cs = some z) :
    ∃ s : Script, cs = [Value.slice s.busyA s.busy.length s.busyC, Value.slice s.failsA s.fails.length s.failsC, Value.slice s.turnsA s.turns.length s.turnsC, Value.int .i64 s.cut, Value.slice s.tornA s.torn.length s.tornC, Value.slice s.markedA s.marked.length s.markedC] ∧ ScriptL s ∧
      ∀ F, ScriptR w F s := by
  obtain ⟨xs, m, _, _, hl, hlen, hf⟩ := DataW.trod_struct Try.underlying26 h
  have hc : Try.prog.cellsOf 26 = 6 := by kernel_rfl
  have c22 : Try.prog.cellsOf 22 = 1 := by kernel_rfl
  have c23 : Try.prog.cellsOf 23 = 1 := by kernel_rfl
  have c24 : Try.prog.cellsOf 24 = 1 := by kernel_rfl
  have c3 : Try.prog.cellsOf 3 = 1 := by kernel_rfl
  have c5 : Try.prog.cellsOf 5 = 1 := by kernel_rfl
  have c38 : Try.prog.cellsOf 38 = 3 := by kernel_rfl
  replace hl := hl.trans hc
  match cs, hl with
  | [a, b, c, d, e, f], _ =>
    have f0 := hf 0 _ rfl
    replace f0 := one_field (u := a) f0 (by rw [hlen]; decide) c22 rfl
    have f1 := hf 1 _ rfl
    replace f1 := one_field (u := b) f1 (by rw [hlen]; decide) c22 rfl
    have f2 := hf 2 _ rfl
    replace f2 := one_field (u := c) f2 (by rw [hlen]; decide) c23 rfl
    have f3 := hf 3 _ rfl
    replace f3 := one_field (u := d) f3 (by rw [hlen]; decide) c3 rfl
    have f4 := hf 4 _ rfl
    replace f4 := one_field (u := e) f4 (by rw [hlen]; decide) c24 rfl
    have f5 := hf 5 _ rfl
    replace f5 := one_field (u := f) f5 (by rw [hlen]; decide) c22 rfl
    obtain ⟨_, f0⟩ := f0
    obtain ⟨_, f1⟩ := f1
    obtain ⟨_, f2⟩ := f2
    obtain ⟨_, f3⟩ := f3
    obtain ⟨_, f4⟩ := f4
    obtain ⟨_, f5⟩ := f5
    obtain ⟨a0, k0, x0, rfl, l0, r0, _⟩ := dec_ints Try.underlying22 Try.underlying3 c3 f0
    obtain ⟨a1, k1, x1, rfl, l1, r1, _⟩ := dec_ints Try.underlying22 Try.underlying3 c3 f1
    obtain ⟨a2, k2, x2, rfl, l2, r2, _⟩ := dec_slice encTurn (fun _ => True) Try.underlying23 c38 (by decide) (fun _ => rfl) (fun n z cs hz => law12_dec_turn n z cs hz) f2
    obtain ⟨x3, hx3, _⟩ := dec_int Try.underlying3 f3
    obtain ⟨a4, k4, x4, rfl, l4, r4, _⟩ := dec_ints Try.underlying24 Try.underlying5 c5 f4
    obtain ⟨a5, k5, x5, rfl, l5, r5, _⟩ := dec_ints Try.underlying22 Try.underlying3 c3 f5
    simp only [List.cons.injEq, and_true] at hx3
    subst hx3
    exact ⟨⟨a0, k0, x0, a1, k1, x1, a2, k2, x2, x3, a4, k4, x4, a5, k5, x5⟩, rfl, ⟨l0, l1, l2, l4, l5⟩, fun F => ⟨Ent_ro r0, Ent_ro r1, Ent_ro r2, Ent_ro r4, Ent_ro r5⟩⟩
theorem law12_turns_lifted (os : Os) (started : os.Started) (H : Type) (enc : TypeId × Value → H) :
    ReturnsInHanded {} Try.checked os 3 .any (Rows.choiceTurnsSpec.pre6 enc Try.prog Try.f3 Rows.choiceTurnsRow.domain false) (Rows.choiceTurnsSpec.post enc Try.prog Try.f3 false true false false) := by
  refine returnsInHanded_of_change_sized (C := Try.checked) law12_own started (by kernel_rfl) Try.func3
    (ChangeSpec.witness6 (enc := enc) (C := Try.checked) false ⟨#[], #[.agg #[.slice none 0 0, .slice none 0 0, .slice none 0 0, .int .i64 0, .slice none 0 0, .slice none 0 0]], []⟩ 8 (by kernel_rfl) (by kernel_rfl) (by kernel_rfl) (by kernel_rfl)) ?_
  intro W base args ds gs before hval0 hW hcnd hsz0 _
  have hval : ∀ (j : Nat) t v, Try.f3.params[j]? = some t → args[j]? = some v → Value.okWide Try.prog W .any base t v := hval0
  have hW' := hW
  obtain ⟨p, q, hA0, hV, rfl, hfz, hnd⟩ := hW
  have hA : DataW.TrodAll enc Try.prog W 0 (fun _ => true) true Try.f3.params.toList args.toList ds p := hA0
  rw [Try.params3] at hA hval
  obtain ⟨v0, vs0, d0, ds0, p0, q0, hargs, rfl, rfl, h0, r0⟩ := trodAll_cons hA
  obtain ⟨rfl, rfl, rfl⟩ := trodAll_nil r0
  obtain rfl : args = #[v0] := by cases args; simp_all
  obtain ⟨rfl, rfl⟩ := trodVars_none hV
  have k0 := h0
  have lt0 : ∀ x ∈ p0, x.block < W.heap.size := by obtain ⟨m, hm⟩ := k0; exact DataW.trod_lt m _ _ _ hm
  obtain ⟨cs, rfl, _⟩ := okWide_struct Try.underlying26 (hval 0 26 v0 rfl rfl)
  obtain ⟨m, h0⟩ := h0
  obtain ⟨s, hs, hL, hR⟩ := law12_dec_script (cs := cs.toList) h0
  obtain rfl : cs = #[Value.slice s.busyA s.busy.length s.busyC, Value.slice s.failsA s.fails.length s.failsC, Value.slice s.turnsA s.turns.length s.turnsC, Value.int .i64 s.cut, Value.slice s.tornA s.torn.length s.tornC, Value.slice s.markedA s.marked.length s.markedC] := Array.toList_inj.1 hs
  clear hA0 hval0 hsz0 hval
  refine (ChoiceTurns_spec (W0 := W) (F := emp) (w := W) s hR hL (sat_emp_intro (sat_nil (Below.refl _ _)))).mono fun e W' hh => ?_
  obtain ⟨_, rfl, rfl, hsat⟩ := hh
  have bel : Below W.heap.size W W' := sat_below hsat
  exact ⟨_, rfl, _, _, _, [], _, [], hW', trodAll_mk1 (shut_bool Try.underlying4 _), (trodAll_cons_mk (Below.trod law12_laid (by kernel_rfl) (of_decide_eq_true (by kernel_rfl)) k0 bel lt0) trodAll_mk0), rfl, bel.frame _, fun h => by cases h⟩
/-- The row, for the claim. -/
theorem choiceTurns_holds : Rows.ChoiceTurnsSaid :=
  OpenClaim.holds_of_wide 3 Try.f3 rfl rfl rfl rfl rfl rfl rfl ⟨rfl, rfl, rfl, rfl, rfl⟩ rfl rfl rfl rfl rfl (by kernel_rfl) Try.func3 (by kernel_rfl)
    (of_decide_eq_true (by kernel_rfl)) (by unfold Func.isWrapper; first | (rw [if_pos (by decide +kernel)]; kernel_rfl) | (rw [if_neg (by decide +kernel)]; exact ⟨rfl, rfl⟩))
    (fun os started H enc _ => law12_turns_lifted os started H enc)
end Go.Proofs.Ytleolejhkdolpaa
