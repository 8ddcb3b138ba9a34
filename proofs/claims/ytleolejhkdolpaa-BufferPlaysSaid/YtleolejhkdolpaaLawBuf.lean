/- BufferPlays returns true at every input, and its arguments read as they did: the row, out of the walk. -/
import Derived.Test.YtleolejhkdolpaaRows
import Derived.Test.YtleolejhkdolpaaC13
import Derived.Test.YtleolejhkdolpaaDec
import Derived.WalkKit
import Derived.ProofKit
import Derived.OpenShut
import Derived.ShutString
import Derived.ChangeOld
import Derived.Below
import Derived.SizedLaws
namespace Go.Proofs.Ytleolejhkdolpaa
open Go.ChangeShapes Go.WideShapes Go.ChangeAt Go.RowKit
open Go Sv
set_option maxRecDepth 100000
theorem law29_own : ownKnob Try.prog.godebug = none := by kernel_rfl
theorem law29_laid : laidOutB Try.prog = true := by kernel_rfl
theorem law29_field {H : Type} {enc : TypeId × Value → H} {P : Program} {w : World} {m t o i n : Nat} {cs : List Value} {xs : List (DataW H × List MemPlace)} {us : List Value} (h : DataW.trod enc P w 0 (fun _ => true) true m t ((cs.drop o).take (P.cellsOf t)) = xs[i]?) (hi : i < xs.length) (hc : P.cellsOf t = n) (hu : (cs.drop o).take n = us) : ∃ y, DataW.trod enc P w 0 (fun _ => true) true m t us = some y := by
  rw [hc, hu, List.getElem?_eq_getElem hi] at h
  exact ⟨_, h⟩
theorem law29_dec_do {H : Type} {enc : TypeId × Value → H} {w : World} (n : Nat) (z : DataW H × List MemPlace) (cs : List Value) (h : DataW.trod enc Try.prog w 0 (fun _ => true) true n 50 cs = some z) :
    ∃ d : BDo, cs = encDo d ∧ (ROs w 1 d.e.da d.e.data.length (datB d.e.data) ∧ ROs w 1 d.la d.l.length (d.l.map (Value.int .i64))) := by
  obtain ⟨xs, m, _, _, hl, hlen, hf⟩ := DataW.trod_struct Try.underlying50 h
  have hc : Try.prog.cellsOf 50 = 5 := by kernel_rfl
  have c48 : Try.prog.cellsOf 48 = 3 := by kernel_rfl
  have c22 : Try.prog.cellsOf 22 = 1 := by kernel_rfl
  have c24 : Try.prog.cellsOf 24 = 1 := by kernel_rfl
  have c3 : Try.prog.cellsOf 3 = 1 := by kernel_rfl
  have c5 : Try.prog.cellsOf 5 = 1 := by kernel_rfl
  replace hl := hl.trans hc
  match cs, hl with
  | [a, b, c, d, e], _ =>
    have f0 := hf 0 _ rfl
    replace f0 := law29_field (us := [a]) f0 (by rw [hlen]; decide) c3 rfl
    have f1 := hf 1 _ rfl
    replace f1 := law29_field (us := [b, c, d]) f1 (by rw [hlen]; decide) c48 rfl
    have f2 := hf 2 _ rfl
    replace f2 := law29_field (us := [e]) f2 (by rw [hlen]; decide) c22 rfl
    obtain ⟨_, f0⟩ := f0
    obtain ⟨_, f1⟩ := f1
    obtain ⟨_, f2⟩ := f2
    obtain ⟨ys, m', _, _, _, hlen', hf'⟩ := DataW.trod_struct Try.underlying48 f1
    have g0 := hf' 0 _ rfl
    replace g0 := law29_field (us := [b]) g0 (by rw [hlen']; decide) c3 rfl
    have g1 := hf' 1 _ rfl
    replace g1 := law29_field (us := [c]) g1 (by rw [hlen']; decide) c3 rfl
    have g2 := hf' 2 _ rfl
    replace g2 := law29_field (us := [d]) g2 (by rw [hlen']; decide) c24 rfl
    obtain ⟨_, g0⟩ := g0
    obtain ⟨_, g1⟩ := g1
    obtain ⟨_, g2⟩ := g2
    obtain ⟨x0, hx0, _⟩ := dec_int Try.underlying3 f0
    obtain ⟨x1, hx1, _⟩ := dec_int Try.underlying3 g0
    obtain ⟨x2, hx2, _⟩ := dec_int Try.underlying3 g1
    obtain ⟨a3, k3, x3, rfl, l3, r3, _⟩ := dec_ints Try.underlying24 Try.underlying5 c5 g2
    obtain ⟨a4, k4, x4, rfl, l4, r4, _⟩ := dec_ints Try.underlying22 Try.underlying3 c3 f2
    simp only [List.cons.injEq, and_true] at hx0 hx1 hx2
    subst hx0; subst hx1; subst hx2
    exact ⟨⟨x0, ⟨x1, x2, a3, k3, x3⟩, a4, k4, x4⟩, rfl, r3, r4⟩
theorem law29_lifted (os : Os) (started : os.Started) (H : Type) (enc : TypeId × Value → H) :
    ReturnsInHanded {} Try.checked os 4 .any (Rows.bufferPlaysSpec.pre6 enc Try.prog Try.f4 Rows.bufferPlaysRow.domain false) (Rows.bufferPlaysSpec.post enc Try.prog Try.f4 false true false false) := by
  refine returnsInHanded_of_change_sized (C := Try.checked) law29_own started (by kernel_rfl) Try.func4
    (ChangeSpec.witness6 (enc := enc) (C := Try.checked) false ⟨#[], #[.int .i64 0, .int .i64 0, .slice none 0 0], []⟩ 8 (by kernel_rfl) (by kernel_rfl) (by kernel_rfl) (by kernel_rfl)) ?_
  intro W base args ds gs before hval0 hW hcnd hsz0 _
  have hval : ∀ (j : Nat) t v, Try.f4.params[j]? = some t → args[j]? = some v → Value.okWide Try.prog W .any base t v := hval0
  have hW' := hW
  obtain ⟨p, q, hA0, hV, rfl, hfz, hnd⟩ := hW
  have hA : DataW.TrodAll enc Try.prog W 0 (fun _ => true) true Try.f4.params.toList args.toList ds p := hA0
  rw [Try.params4] at hA hval
  obtain ⟨v0, vs0, d0, ds0, p0, q0, hargs, rfl, rfl, h0, r0⟩ := trodAll_cons hA
  obtain ⟨v1, vs1, d1, ds1, p1, q1, rfl, rfl, rfl, h1, r1⟩ := trodAll_cons r0
  obtain ⟨v2, vs2, d2, ds2, p2, q2, rfl, rfl, rfl, h2, r2⟩ := trodAll_cons r1
  obtain ⟨rfl, rfl, rfl⟩ := trodAll_nil r2
  obtain rfl : args = #[v0, v1, v2] := by cases args; simp_all
  obtain ⟨rfl, rfl⟩ := trodVars_none hV
  have k2 := h2
  have lt2 : ∀ x ∈ p2, x.block < W.heap.size := by obtain ⟨m, hm⟩ := k2; exact DataW.trod_lt m _ _ _ hm
  obtain ⟨x0, rfl, rfl, rfl, w0⟩ := open_int Try.underlying3 (hval 0 3 v0 rfl rfl) h0
  obtain ⟨x1, rfl, rfl, rfl, w1⟩ := open_int Try.underlying3 (hval 1 3 v1 rfl rfl) h1
  obtain ⟨m, h2⟩ := h2
  obtain ⟨u, hu⟩ : ∃ u, v2.cells.toList = [u] ∧ v2 = u := by
    obtain ⟨a, n, c, rfl⟩ := okWide_slice Try.underlying39 (hval 2 39 v2 rfl rfl)
    exact ⟨_, rfl, rfl⟩
  obtain ⟨hu1, rfl⟩ := hu
  rw [hu1] at h2
  obtain ⟨a, c, xs, rfl, hl, hr, hg⟩ := dec_slice encDo (fun d => ROs W 1 d.e.da d.e.data.length (datB d.e.data) ∧ ROs W 1 d.la d.l.length (d.l.map (Value.int .i64))) Try.underlying39 (by kernel_rfl : Try.prog.cellsOf 50 = 5) (by decide) (fun _ => rfl) (fun n z cs hz => law29_dec_do n z cs hz) h2
  clear hA0 hval0 hsz0 hval
  refine (BufferPlays_spec (W0 := W) (F := emp) (w := W) x0 x1 a c xs hl hg (Ent_ro hr) (sat_emp_intro (sat_nil (Below.refl _ _)))).mono fun e W' hh => ?_
  obtain ⟨_, rfl, rfl, hsat⟩ := hh
  have bel : Below W.heap.size W W' := sat_below hsat
  exact ⟨_, rfl, _, _, _, [], _, [], hW', trodAll_mk1 (shut_bool Try.underlying4 _), (trodAll_cons_mk (shut_int Try.underlying3 w0) (trodAll_cons_mk (shut_int Try.underlying3 w1) (trodAll_cons_mk (Below.trod law29_laid (by kernel_rfl) (of_decide_eq_true (by kernel_rfl)) k2 bel lt2) trodAll_mk0))), rfl, bel.frame _, fun h => by cases h⟩
/-- The row, for the claim. -/
theorem bufferPlays_holds : Rows.BufferPlaysSaid :=
  OpenClaim.holds_of_wide 4 Try.f4 rfl rfl rfl rfl rfl rfl rfl ⟨rfl, rfl, rfl, rfl, rfl⟩ rfl rfl rfl rfl rfl (by kernel_rfl) Try.func4 (by kernel_rfl)
    (of_decide_eq_true (by kernel_rfl)) (by unfold Func.isWrapper; first | (rw [if_pos (by decide +kernel)]; kernel_rfl) | (rw [if_neg (by decide +kernel)]; exact ⟨rfl, rfl⟩))
    (fun os started H enc _ => law29_lifted os started H enc)
end Go.Proofs.Ytleolejhkdolpaa
