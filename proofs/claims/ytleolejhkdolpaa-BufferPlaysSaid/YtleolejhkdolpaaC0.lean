import Derived.Test.YtleolejhkdolpaaModA
import Derived.Test.YtleolejhkdolpaaFactsC
import Derived.KernelRfl
set_option linter.unusedVariables false
set_option linter.unusedSimpArgs false
set_option maxRecDepth 100000
set_option maxHeartbeats 4000000
namespace Go.Proofs.Ytleolejhkdolpaa
open Go Go.RowKit Sv
theorem clone_bytes29 {W0 : World} {F : HProp} {w : World}  (a : Option Addr) (c : Nat) (xs : List Int) (hn : xs.length ≤ 1099511627) (hr : Ent W0 F (fun w => Rd w 1 a xs.length (xs.map (Value.int .u8))))
    (hs : sat W0 [F] w) :
    Calls Try.prog 43 ([(Value.slice a xs.length c)] : List Value).toArray w (fun x_ w' => ∃ v_, x_ = .returned v_ ∧ (∃ a_ : Option Addr, ∃ c_ : Nat, v_ = (Value.slice a_ xs.length c_) ∧ sat W0 [SL false 1 a_ xs.length c_ (xs.map (Value.int .u8)), F] w')) := by
  refine W.enter Try.func43 rfl Try.ntmps43 (by simp) ?_
  refine W.seq ?_
  refine W.region ?_
  refine WL.cons rfl (OP.assign (Value.slice none 0 0) rfl (by decide) ?_)
  refine WL.nil (Qn.then ?_)
  refine W.seq ?_
  refine W.seq ?_
  refine W.region ?_
  refine WL.cons rfl (OP.move (Value.slice a xs.length c) rfl (by decide) ?_)
  refine WL.cons rfl (OP.eqV rfl rfl rfl rfl (run_equalSN Try.underlying24 _) (by decide) ?_)
  refine WL.nil (Qn.then ?_)
  refine W.ite (b := a.isNone) rfl (fun hc1 => ?_) (fun hc1 => ?_)
  · refine W.seq ?_
    have hnil_ : xs = [] := rd_nil_of (Ent_sat 0 rfl hr hs) (by assumption)
    have hs2 : sat W0 [SL false 1 none xs.length 0 (xs.map (Value.int .u8)), F] w := (by rw [hnil_]; exact sat_SL_nil hs)
    refine W.region ?_
    refine WL.cons rfl (OP.assign (Value.slice none 0 0) rfl (by decide) ?_)
    refine WL.nil (Qn.then ?_)
    refine W.ret (Qr.then (RetQ.of [(Value.slice none 0 0)] (.inr rfl) Try.results43 (.cons (.tmp (by decide) rfl) .nil) ?_))
    exact ⟨none, 0, (by rw [hnil_]; rfl), hs2⟩
  · refine W.skip (Qn.then ?_)
    refine W.seq ?_
    refine W.region ?_
    refine WL.cons rfl (OP.buildSlice (el := 5) [] [] hs rfl (fun _ => by kernel_rfl) (by decide) (fun b4 w5 hs6 => ?_))
    have hs7 : sat W0 [SL false 1 (some ⟨b4, 0, none⟩) 0 0 ([]), F] w5 := sat_SL_blk rfl hs6
    refine WL.cons rfl (OP.move (Value.slice a xs.length c) rfl (by decide) ?_)
    refine WL.cons rfl (OP.append' (z := [(Value.int .u8 0)]) xs.length (xs.map (Value.int .u8)) hs7 (Ent_sat 1 rfl hr hs7) Try.underlying24 sz_5 by_5 ze_5 rfl rfl (by omega) (by omega) one_ints rfl rfl rfl (by first | rfl | omega | (simp; omega) | simp) (by first | rfl | simp) (by decide) (fun a8 c9 w10 hs11 => ?_))
    have hs12 : sat W0 [SL false 1 a8 xs.length c9 (xs.map (Value.int .u8)), F] w10 := hs11
    refine WL.cons rfl (OP.assign (Value.slice a8 xs.length c9) rfl (by decide) ?_)
    refine WL.nil (Qn.then ?_)
    refine W.ret (RetQ.of [(Value.slice a8 xs.length c9)] (.inr rfl) Try.results43 (.cons (.tmp (by decide) rfl) .nil) ?_)
    exact ⟨a8, c9, rfl, hs12⟩

end Go.Proofs.Ytleolejhkdolpaa
