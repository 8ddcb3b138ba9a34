/- ChoiceSame returns true at every input, and its arguments read as they did: the row, out of the walk. -/
import Derived.Test.YtleolejhkdolpaaLawTurns
import Derived.Test.YtleolejhkdolpaaB2
namespace Go.Proofs.Ytleolejhkdolpaa
open Go.ChangeShapes Go.WideShapes Go.ChangeAt Go.RowKit
open Go Sv
set_option maxRecDepth 100000
theorem law12_same_lifted (os : Os) (started : os.Started) (H : Type) (enc : TypeId × Value → H) :
    ReturnsInHanded {} Try.checked os 6 .any (Rows.choiceSameSpec.pre6 enc Try.prog Try.f6 Rows.choiceSameRow.domain false) (Rows.choiceSameSpec.post enc Try.prog Try.f6 false true false false) := by
  refine returnsInHanded_of_change_sized (C := Try.checked) law12_own started (by kernel_rfl) Try.func6
    (ChangeSpec.witness6 (enc := enc) (C := Try.checked) false ⟨#[], #[.agg #[.slice none 0 0, .slice none 0 0, .slice none 0 0, .int .i64 0, .slice none 0 0, .slice none 0 0], .int .u8 0], []⟩ 8 (by kernel_rfl) (by kernel_rfl) (by kernel_rfl) (by kernel_rfl)) ?_
  intro W base args ds gs before hval0 hW hcnd hsz0 _
  have hval : ∀ (j : Nat) t v, Try.f6.params[j]? = some t → args[j]? = some v → Value.okWide Try.prog W .any base t v := hval0
  have hW' := hW
  obtain ⟨p, q, hA0, hV, rfl, hfz, hnd⟩ := hW
  have hA : DataW.TrodAll enc Try.prog W 0 (fun _ => true) true Try.f6.params.toList args.toList ds p := hA0
  rw [Try.params6] at hA hval
  obtain ⟨v0, vs0, d0, ds0, p0, q0, hargs, rfl, rfl, h0, r0⟩ := trodAll_cons hA
  obtain ⟨v1, vs1, d1, ds1, p1, q1, rfl, rfl, rfl, h1, r1⟩ := trodAll_cons r0
  obtain ⟨rfl, rfl, rfl⟩ := trodAll_nil r1
  obtain rfl : args = #[v0, v1] := by cases args; simp_all
  obtain ⟨rfl, rfl⟩ := trodVars_none hV
  have k0 := h0
  have lt0 : ∀ x ∈ p0, x.block < W.heap.size := by obtain ⟨m, hm⟩ := k0; exact DataW.trod_lt m _ _ _ hm
  obtain ⟨cs, rfl, _⟩ := okWide_struct Try.underlying26 (hval 0 26 v0 rfl rfl)
  obtain ⟨m, h0⟩ := h0
  obtain ⟨s, hs, hL, hR⟩ := law12_dec_script (cs := cs.toList) h0
  obtain rfl : cs = #[Value.slice s.busyA s.busy.length s.busyC, Value.slice s.failsA s.fails.length s.failsC, Value.slice s.turnsA s.turns.length s.turnsC, Value.int .i64 s.cut, Value.slice s.tornA s.torn.length s.tornC, Value.slice s.markedA s.marked.length s.markedC] := Array.toList_inj.1 hs
  obtain ⟨n, rfl, rfl, rfl, w1⟩ := open_int Try.underlying5 (hval 1 5 v1 rfl rfl) h1
  have hn : 0 ≤ n ∧ n ≤ 255 := by
    simp [Lit.wf] at w1
    exact w1
  clear hA0 hval0 hsz0 hval
  refine (ChoiceSame_spec (W0 := W) (F := emp) (w := W) s n hR hL hn (sat_emp_intro (sat_nil (Below.refl _ _)))).mono fun e W' hh => ?_
  obtain ⟨_, rfl, rfl, hsat⟩ := hh
  have bel : Below W.heap.size W W' := sat_below hsat
  exact ⟨_, rfl, _, _, _, [], _, [], hW', trodAll_mk1 (shut_bool Try.underlying4 _), (trodAll_cons_mk (Below.trod law12_laid (by kernel_rfl) (of_decide_eq_true (by kernel_rfl)) k0 bel lt0) (trodAll_cons_mk (shut_int Try.underlying5 w1) trodAll_mk0)), rfl, bel.frame _, fun h => by cases h⟩
/-- The row, for the claim. -/
theorem choiceSame_holds : Rows.ChoiceSameSaid :=
  OpenClaim.holds_of_wide 6 Try.f6 rfl rfl rfl rfl rfl rfl rfl ⟨rfl, rfl, rfl, rfl, rfl⟩ rfl rfl rfl rfl rfl (by kernel_rfl) Try.func6 (by kernel_rfl)
    (of_decide_eq_true (by kernel_rfl)) (by unfold Func.isWrapper; first | (rw [if_pos (by decide +kernel)]; kernel_rfl) | (rw [if_neg (by decide +kernel)]; exact ⟨rfl, rfl⟩))
    (fun os started H enc _ => law12_same_lifted os started H enc)
end Go.Proofs.Ytleolejhkdolpaa
