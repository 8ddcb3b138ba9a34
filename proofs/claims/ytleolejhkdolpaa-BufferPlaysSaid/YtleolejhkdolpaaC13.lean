import Derived.Test.YtleolejhkdolpaaC12
import Derived.Test.YtleolejhkdolpaaC11
import Derived.Test.YtleolejhkdolpaaC4
import Derived.KernelRfl
set_option linter.unusedVariables false
set_option linter.unusedSimpArgs false
set_option maxRecDepth 100000
set_option maxHeartbeats 4000000
namespace Go.Proofs.Ytleolejhkdolpaa
open Go Go.RowKit Sv
theorem BufferPlays_spec {W0 : World} {F : HProp} {w : World}  (most : Int) (size : Int) (a : Option Addr) (c : Nat) (ds : List BDo) (hn : ds.length ≤ 9223372036854775807) (hR : DoR W0 ds) (hr : Ent W0 F (fun w => Rd w 5 a ds.length (ds.flatMap encDo)))
    (hs : sat W0 [F] w) :
    Calls Try.prog 4 ([(Value.int .i64 most), (Value.int .i64 size), (Value.slice a ds.length c)] : List Value).toArray w (fun x_ w' => ∃ v_, x_ = .returned v_ ∧ (v_ = (Value.bool true) ∧ sat W0 [F] w')) := by
  refine W.enter Try.func4 rfl Try.ntmps4 (by simp) ?_
  refine W.seq ?_
  refine W.region ?_
  refine WL.cons rfl (OP.assign (Value.bool false) rfl (by decide) ?_)
  refine WL.nil (Qn.then ?_)
  refine W.seq ?_
  refine W.seq ?_
  refine W.region ?_
  have hs1 : sat W0 [stars [F]] w := sat_pack' [] [F] hs (by kernel_rfl) (by kernel_rfl)
  have hcl4 := law29_awake  hs1
  refine WL.cons rfl (?_)
  with_reducible refine OP.call [] gf_12 ?_ ?_ hcl4 ?_
  · exact rfl
  · decide
  clear hcl4
  rintro _ w2 ⟨_, rfl, rfl, hs3⟩
  refine ⟨_, rfl, ?_⟩
  have hs5 : sat W0 [F] w2 := sat_flat' [] [F] hs3 (by kernel_rfl) (by kernel_rfl)
  refine WL.cons rfl (OP.not rfl (by decide) ?_)
  refine WL.nil (Qn.then ?_)
  refine W.iteF rfl ?_
  refine W.skip (Qn.then ?_)
  refine W.seq ?_
  rcases Bool.eq_false_or_eq_true (decide (most < 1 ∨ most > 1024 ∨ size < 1 ∨ size > 8192)) with hR6 | hR6
  · refine W.region ?_
    refine WL.cons rfl (OP.move (Value.int .i64 most) rfl (by decide) ?_)
    refine WL.cons rfl (OP.move (Value.int .i64 size) rfl (by decide) ?_)
    have hs7 : sat W0 [stars [F]] w2 := sat_pack' [] [F] hs5 (by kernel_rfl) (by kernel_rfl)
    have hcl10 := buffer_New_bad most size (of_decide_eq_true hR6) hs7
    refine WL.cons rfl (?_)
    with_reducible refine OP.call [(Value.int .i64 most), (Value.int .i64 size)] gf_13 ?_ ?_ hcl10 ?_
    · exact rfl
    · decide
    clear hcl10
    rintro _ w8 ⟨_, rfl, rfl, hs9⟩
    refine ⟨_, rfl, ?_⟩
    have hs11 : sat W0 [F] w8 := sat_flat' [] [F] hs9 (by kernel_rfl) (by kernel_rfl)
    refine WL.cons rfl (OP.move (Value.tuple #[(Value.pointer none), (Value.int .i64 2)]) rfl (by decide) ?_)
    refine WL.cons rfl (OP.extract (Value.pointer none) rfl rfl (by decide) ?_)
    refine WL.cons rfl (OP.extract (Value.int .i64 2) rfl rfl (by decide) ?_)
    refine WL.cons rfl (OP.assign (Value.pointer none) rfl (by decide) ?_)
    refine WL.cons rfl (OP.assign (Value.int .i64 2) rfl (by decide) ?_)
    refine WL.nil (Qn.then ?_)
    refine W.seq ?_
    refine W.seq ?_
    refine W.region ?_
    refine WL.cons rfl (OP.move (Value.int .i64 most) rfl (by decide) ?_)
    refine WL.cons rfl (OP.lss rfl rfl (by decide) ?_)
    refine WL.cons rfl (OP.move (Value.bool (decide (most < 1))) rfl (by decide) ?_)
    by_cases hc12 : most < 1
    · refine WL.pass rfl rfl (Eq.trans (b := .bool (decide (most < 1))) rfl (congrArg Value.bool (decide_eq_true hc12))) rfl rfl (by decide) ?_
      refine WL.pass rfl rfl (Eq.trans (b := .bool (decide (most < 1))) rfl (congrArg Value.bool (decide_eq_true hc12))) rfl rfl (by decide) ?_
      refine WL.cons rfl (OP.pickT (Value.bool true) (Eq.trans (b := .bool (decide (most < 1))) rfl (congrArg Value.bool (decide_eq_true hc12))) rfl (by decide) ?_)
      refine WL.cons rfl (OP.move (Value.bool true) rfl (by decide) ?_)
      refine WL.pass rfl rfl rfl rfl rfl (by decide) ?_
      refine WL.pass rfl rfl rfl rfl rfl (by decide) ?_
      refine WL.cons rfl (OP.pickT (Value.bool true) rfl rfl (by decide) ?_)
      refine WL.cons rfl (OP.move (Value.bool true) rfl (by decide) ?_)
      refine WL.pass rfl rfl rfl rfl rfl (by decide) ?_
      refine WL.pass rfl rfl rfl rfl rfl (by decide) ?_
      refine WL.cons rfl (OP.pickT (Value.bool true) rfl rfl (by decide) ?_)
      refine WL.nil (Qn.then ?_)
      refine W.iteT rfl ?_
      refine W.seq ?_
      refine W.region ?_
      refine WL.cons rfl (OP.move (Value.pointer none) rfl (by decide) ?_)
      refine WL.cons rfl (OP.eqV rfl rfl rfl rfl (run_equalPN Try.underlying40 _) (by decide) ?_)
      refine WL.cons rfl (OP.move (Value.bool true) rfl (by decide) ?_)
      refine WL.consG rfl rfl rfl (OP.move (Value.int .i64 2) rfl (by decide) ?_)
      refine WL.consG rfl rfl rfl (OP.eqI rfl rfl (by decide) ?_)
      refine WL.cons rfl (OP.pickT (Value.bool true) rfl rfl (by decide) ?_)
      refine WL.cons rfl (OP.assign (Value.bool true) rfl (by decide) ?_)
      refine WL.nil (Qn.then ?_)
      refine W.ret (Qr.then (RetQ.of [(Value.bool true)] (.inr rfl) Try.results4 (.cons (.tmp (by decide) rfl) .nil) ?_))
      exact ⟨rfl, hs11⟩
    · refine WL.consG rfl rfl (Eq.trans (b := .bool (decide (most < 1))) rfl (congrArg Value.bool (decide_eq_false hc12))) (OP.move (Value.int .i64 most) rfl (by decide) ?_)
      refine WL.consG rfl rfl (Eq.trans (b := .bool (decide (most < 1))) rfl (congrArg Value.bool (decide_eq_false hc12))) (OP.gtr rfl rfl (by decide) ?_)
      refine WL.cons rfl (OP.pickF (Value.bool (decide (most > 1024))) (Eq.trans (b := .bool (decide (most < 1))) rfl (congrArg Value.bool (decide_eq_false hc12))) rfl (by decide) ?_)
      refine WL.cons rfl (OP.move (Value.bool (decide (most > 1024))) rfl (by decide) ?_)
      by_cases hc14 : most > 1024
      · refine WL.pass rfl rfl (Eq.trans (b := .bool (decide (most > 1024))) rfl (congrArg Value.bool (decide_eq_true hc14))) rfl rfl (by decide) ?_
        refine WL.pass rfl rfl (Eq.trans (b := .bool (decide (most > 1024))) rfl (congrArg Value.bool (decide_eq_true hc14))) rfl rfl (by decide) ?_
        refine WL.cons rfl (OP.pickT (Value.bool true) (Eq.trans (b := .bool (decide (most > 1024))) rfl (congrArg Value.bool (decide_eq_true hc14))) rfl (by decide) ?_)
        refine WL.cons rfl (OP.move (Value.bool true) rfl (by decide) ?_)
        refine WL.pass rfl rfl rfl rfl rfl (by decide) ?_
        refine WL.pass rfl rfl rfl rfl rfl (by decide) ?_
        refine WL.cons rfl (OP.pickT (Value.bool true) rfl rfl (by decide) ?_)
        refine WL.nil (Qn.then ?_)
        refine W.iteT rfl ?_
        refine W.seq ?_
        refine W.region ?_
        refine WL.cons rfl (OP.move (Value.pointer none) rfl (by decide) ?_)
        refine WL.cons rfl (OP.eqV rfl rfl rfl rfl (run_equalPN Try.underlying40 _) (by decide) ?_)
        refine WL.cons rfl (OP.move (Value.bool true) rfl (by decide) ?_)
        refine WL.consG rfl rfl rfl (OP.move (Value.int .i64 2) rfl (by decide) ?_)
        refine WL.consG rfl rfl rfl (OP.eqI rfl rfl (by decide) ?_)
        refine WL.cons rfl (OP.pickT (Value.bool true) rfl rfl (by decide) ?_)
        refine WL.cons rfl (OP.assign (Value.bool true) rfl (by decide) ?_)
        refine WL.nil (Qn.then ?_)
        refine W.ret (Qr.then (RetQ.of [(Value.bool true)] (.inr rfl) Try.results4 (.cons (.tmp (by decide) rfl) .nil) ?_))
        exact ⟨rfl, hs11⟩
      · refine WL.consG rfl rfl (Eq.trans (b := .bool (decide (most > 1024))) rfl (congrArg Value.bool (decide_eq_false hc14))) (OP.move (Value.int .i64 size) rfl (by decide) ?_)
        refine WL.consG rfl rfl (Eq.trans (b := .bool (decide (most > 1024))) rfl (congrArg Value.bool (decide_eq_false hc14))) (OP.lss rfl rfl (by decide) ?_)
        refine WL.cons rfl (OP.pickF (Value.bool (decide (size < 1))) (Eq.trans (b := .bool (decide (most > 1024))) rfl (congrArg Value.bool (decide_eq_false hc14))) rfl (by decide) ?_)
        refine WL.cons rfl (OP.move (Value.bool (decide (size < 1))) rfl (by decide) ?_)
        by_cases hc16 : size < 1
        · refine WL.pass rfl rfl (Eq.trans (b := .bool (decide (size < 1))) rfl (congrArg Value.bool (decide_eq_true hc16))) rfl rfl (by decide) ?_
          refine WL.pass rfl rfl (Eq.trans (b := .bool (decide (size < 1))) rfl (congrArg Value.bool (decide_eq_true hc16))) rfl rfl (by decide) ?_
          refine WL.cons rfl (OP.pickT (Value.bool true) (Eq.trans (b := .bool (decide (size < 1))) rfl (congrArg Value.bool (decide_eq_true hc16))) rfl (by decide) ?_)
          refine WL.nil (Qn.then ?_)
          refine W.iteT rfl ?_
          refine W.seq ?_
          refine W.region ?_
          refine WL.cons rfl (OP.move (Value.pointer none) rfl (by decide) ?_)
          refine WL.cons rfl (OP.eqV rfl rfl rfl rfl (run_equalPN Try.underlying40 _) (by decide) ?_)
          refine WL.cons rfl (OP.move (Value.bool true) rfl (by decide) ?_)
          refine WL.consG rfl rfl rfl (OP.move (Value.int .i64 2) rfl (by decide) ?_)
          refine WL.consG rfl rfl rfl (OP.eqI rfl rfl (by decide) ?_)
          refine WL.cons rfl (OP.pickT (Value.bool true) rfl rfl (by decide) ?_)
          refine WL.cons rfl (OP.assign (Value.bool true) rfl (by decide) ?_)
          refine WL.nil (Qn.then ?_)
          refine W.ret (Qr.then (RetQ.of [(Value.bool true)] (.inr rfl) Try.results4 (.cons (.tmp (by decide) rfl) .nil) ?_))
          exact ⟨rfl, hs11⟩
        · refine WL.consG rfl rfl (Eq.trans (b := .bool (decide (size < 1))) rfl (congrArg Value.bool (decide_eq_false hc16))) (OP.move (Value.int .i64 size) rfl (by decide) ?_)
          refine WL.consG rfl rfl (Eq.trans (b := .bool (decide (size < 1))) rfl (congrArg Value.bool (decide_eq_false hc16))) (OP.gtr rfl rfl (by decide) ?_)
          refine WL.cons rfl (OP.pickF (Value.bool (decide (size > 8192))) (Eq.trans (b := .bool (decide (size < 1))) rfl (congrArg Value.bool (decide_eq_false hc16))) rfl (by decide) ?_)
          refine WL.nil (Qn.then ?_)
          refine W.iteP (p := size > 8192) rfl (fun hc18 => ?_) (fun hc18 => ?_)
          · refine W.seq ?_
            refine W.region ?_
            refine WL.cons rfl (OP.move (Value.pointer none) rfl (by decide) ?_)
            refine WL.cons rfl (OP.eqV rfl rfl rfl rfl (run_equalPN Try.underlying40 _) (by decide) ?_)
            refine WL.cons rfl (OP.move (Value.bool true) rfl (by decide) ?_)
            refine WL.consG rfl rfl rfl (OP.move (Value.int .i64 2) rfl (by decide) ?_)
            refine WL.consG rfl rfl rfl (OP.eqI rfl rfl (by decide) ?_)
            refine WL.cons rfl (OP.pickT (Value.bool true) rfl rfl (by decide) ?_)
            refine WL.cons rfl (OP.assign (Value.bool true) rfl (by decide) ?_)
            refine WL.nil (Qn.then ?_)
            refine W.ret (Qr.then (RetQ.of [(Value.bool true)] (.inr rfl) Try.results4 (.cons (.tmp (by decide) rfl) .nil) ?_))
            exact ⟨rfl, hs11⟩
          · refine W.skip (Qn.then ?_)
            refine W.seq ?_
            refine W.seq ?_
            exact absurd (of_decide_eq_true hR6) (by omega)
  · refine W.region ?_
    refine WL.cons rfl (OP.move (Value.int .i64 most) rfl (by decide) ?_)
    refine WL.cons rfl (OP.move (Value.int .i64 size) rfl (by decide) ?_)
    have hs20 : sat W0 [stars [F]] w2 := sat_pack' [] [F] hs5 (by kernel_rfl) (by kernel_rfl)
    have hcl24 := buffer_New_ok most size (of_decide_eq_false hR6) hs20
    refine WL.cons rfl (?_)
    with_reducible refine OP.call [(Value.int .i64 most), (Value.int .i64 size)] gf_13 ?_ ?_ hcl24 ?_
    · exact rfl
    · decide
    clear hcl24
    rintro _ w22 ⟨_, rfl, b_21, rfl, hs23⟩
    refine ⟨_, rfl, ?_⟩
    have hs25 : sat W0 [BufRep b_21 ([] : List BEnt) most size, F] w22 := sat_flat' [BufRep b_21 ([] : List BEnt) most size] [F] hs23 (by kernel_rfl) (by kernel_rfl)
    refine WL.cons rfl (OP.move (Value.tuple #[(Value.pointer (some ⟨b_21, 0, none⟩)), (Value.int .i64 0)]) rfl (by decide) ?_)
    refine WL.cons rfl (OP.extract (Value.pointer (some ⟨b_21, 0, none⟩)) rfl rfl (by decide) ?_)
    refine WL.cons rfl (OP.extract (Value.int .i64 0) rfl rfl (by decide) ?_)
    refine WL.cons rfl (OP.assign (Value.pointer (some ⟨b_21, 0, none⟩)) rfl (by decide) ?_)
    refine WL.cons rfl (OP.assign (Value.int .i64 0) rfl (by decide) ?_)
    refine WL.nil (Qn.then ?_)
    refine W.seq ?_
    refine W.seq ?_
    refine W.region ?_
    refine WL.cons rfl (OP.move (Value.int .i64 most) rfl (by decide) ?_)
    refine WL.cons rfl (OP.lss rfl rfl (by decide) ?_)
    refine WL.cons rfl (OP.move (Value.bool (decide (most < 1))) rfl (by decide) ?_)
    by_cases hc26 : most < 1
    · refine WL.pass rfl rfl (Eq.trans (b := .bool (decide (most < 1))) rfl (congrArg Value.bool (decide_eq_true hc26))) rfl rfl (by decide) ?_
      refine WL.pass rfl rfl (Eq.trans (b := .bool (decide (most < 1))) rfl (congrArg Value.bool (decide_eq_true hc26))) rfl rfl (by decide) ?_
      refine WL.cons rfl (OP.pickT (Value.bool true) (Eq.trans (b := .bool (decide (most < 1))) rfl (congrArg Value.bool (decide_eq_true hc26))) rfl (by decide) ?_)
      refine WL.cons rfl (OP.move (Value.bool true) rfl (by decide) ?_)
      refine WL.pass rfl rfl rfl rfl rfl (by decide) ?_
      refine WL.pass rfl rfl rfl rfl rfl (by decide) ?_
      refine WL.cons rfl (OP.pickT (Value.bool true) rfl rfl (by decide) ?_)
      refine WL.cons rfl (OP.move (Value.bool true) rfl (by decide) ?_)
      refine WL.pass rfl rfl rfl rfl rfl (by decide) ?_
      refine WL.pass rfl rfl rfl rfl rfl (by decide) ?_
      refine WL.cons rfl (OP.pickT (Value.bool true) rfl rfl (by decide) ?_)
      refine WL.nil (Qn.then ?_)
      refine W.iteT rfl ?_
      refine W.seq ?_
      exact absurd hc26 (by have h_ := of_decide_eq_false hR6; omega)
    · refine WL.consG rfl rfl (Eq.trans (b := .bool (decide (most < 1))) rfl (congrArg Value.bool (decide_eq_false hc26))) (OP.move (Value.int .i64 most) rfl (by decide) ?_)
      refine WL.consG rfl rfl (Eq.trans (b := .bool (decide (most < 1))) rfl (congrArg Value.bool (decide_eq_false hc26))) (OP.gtr rfl rfl (by decide) ?_)
      refine WL.cons rfl (OP.pickF (Value.bool (decide (most > 1024))) (Eq.trans (b := .bool (decide (most < 1))) rfl (congrArg Value.bool (decide_eq_false hc26))) rfl (by decide) ?_)
      refine WL.cons rfl (OP.move (Value.bool (decide (most > 1024))) rfl (by decide) ?_)
      by_cases hc27 : most > 1024
      · refine WL.pass rfl rfl (Eq.trans (b := .bool (decide (most > 1024))) rfl (congrArg Value.bool (decide_eq_true hc27))) rfl rfl (by decide) ?_
        refine WL.pass rfl rfl (Eq.trans (b := .bool (decide (most > 1024))) rfl (congrArg Value.bool (decide_eq_true hc27))) rfl rfl (by decide) ?_
        refine WL.cons rfl (OP.pickT (Value.bool true) (Eq.trans (b := .bool (decide (most > 1024))) rfl (congrArg Value.bool (decide_eq_true hc27))) rfl (by decide) ?_)
        refine WL.cons rfl (OP.move (Value.bool true) rfl (by decide) ?_)
        refine WL.pass rfl rfl rfl rfl rfl (by decide) ?_
        refine WL.pass rfl rfl rfl rfl rfl (by decide) ?_
        refine WL.cons rfl (OP.pickT (Value.bool true) rfl rfl (by decide) ?_)
        refine WL.nil (Qn.then ?_)
        refine W.iteT rfl ?_
        refine W.seq ?_
        exact absurd hc27 (by have h_ := of_decide_eq_false hR6; omega)
      · refine WL.consG rfl rfl (Eq.trans (b := .bool (decide (most > 1024))) rfl (congrArg Value.bool (decide_eq_false hc27))) (OP.move (Value.int .i64 size) rfl (by decide) ?_)
        refine WL.consG rfl rfl (Eq.trans (b := .bool (decide (most > 1024))) rfl (congrArg Value.bool (decide_eq_false hc27))) (OP.lss rfl rfl (by decide) ?_)
        refine WL.cons rfl (OP.pickF (Value.bool (decide (size < 1))) (Eq.trans (b := .bool (decide (most > 1024))) rfl (congrArg Value.bool (decide_eq_false hc27))) rfl (by decide) ?_)
        refine WL.cons rfl (OP.move (Value.bool (decide (size < 1))) rfl (by decide) ?_)
        by_cases hc28 : size < 1
        · refine WL.pass rfl rfl (Eq.trans (b := .bool (decide (size < 1))) rfl (congrArg Value.bool (decide_eq_true hc28))) rfl rfl (by decide) ?_
          refine WL.pass rfl rfl (Eq.trans (b := .bool (decide (size < 1))) rfl (congrArg Value.bool (decide_eq_true hc28))) rfl rfl (by decide) ?_
          refine WL.cons rfl (OP.pickT (Value.bool true) (Eq.trans (b := .bool (decide (size < 1))) rfl (congrArg Value.bool (decide_eq_true hc28))) rfl (by decide) ?_)
          refine WL.nil (Qn.then ?_)
          refine W.iteT rfl ?_
          refine W.seq ?_
          exact absurd hc28 (by have h_ := of_decide_eq_false hR6; omega)
        · refine WL.consG rfl rfl (Eq.trans (b := .bool (decide (size < 1))) rfl (congrArg Value.bool (decide_eq_false hc28))) (OP.move (Value.int .i64 size) rfl (by decide) ?_)
          refine WL.consG rfl rfl (Eq.trans (b := .bool (decide (size < 1))) rfl (congrArg Value.bool (decide_eq_false hc28))) (OP.gtr rfl rfl (by decide) ?_)
          refine WL.cons rfl (OP.pickF (Value.bool (decide (size > 8192))) (Eq.trans (b := .bool (decide (size < 1))) rfl (congrArg Value.bool (decide_eq_false hc28))) rfl (by decide) ?_)
          refine WL.nil (Qn.then ?_)
          refine W.iteP (p := size > 8192) rfl (fun hc29 => ?_) (fun hc29 => ?_)
          · refine W.seq ?_
            exact absurd hc29 (by have h_ := of_decide_eq_false hR6; omega)
          · refine W.skip (Qn.then ?_)
            refine W.seq ?_
            refine W.seq ?_
            refine W.region ?_
            refine WL.cons rfl (OP.move (Value.slice a ds.length c) rfl (by decide) ?_)
            refine WL.cons rfl (OP.len Try.underlying39 rfl rfl (by decide) ?_)
            refine WL.cons rfl (OP.gtr rfl rfl (by decide) ?_)
            refine WL.nil (Qn.then ?_)
            refine W.iteP (p := ((ds.length : Nat) : Int) > 60) rfl (fun hc30 => ?_) (fun hc30 => ?_)
            · refine W.seq ?_
              refine W.region ?_
              refine WL.cons rfl (OP.assign (Value.bool true) rfl (by decide) ?_)
              refine WL.nil (Qn.then ?_)
              refine W.ret (Qr.then (RetQ.of [(Value.bool true)] (.inr rfl) Try.results4 (.cons (.tmp (by decide) rfl) .nil) ?_))
              have hs32 : sat W0 [F] w22 := sat_sub' [1] [0] hs25 (by kernel_rfl) (by kernel_rfl)
              exact ⟨rfl, hs32⟩
            · refine W.skip (Qn.then ?_)
              refine W.seq ?_
              refine W.region ?_
              refine WL.cons rfl (OP.move (Value.int .i64 most) rfl (by decide) ?_)
              refine WL.cons rfl (OP.move (Value.int .i64 size) rfl (by decide) ?_)
              refine WL.cons rfl (OP.build [(1, (Value.int .i64 most)), (2, (Value.int .i64 size))] [(Value.slice none 0 0), (Value.int .i64 most), (Value.int .i64 size)] rfl (by kernel_rfl) (by decide) ?_)
              refine WL.cons rfl (OP.box (Value.agg [(Value.slice none 0 0), (Value.int .i64 most), (Value.int .i64 size)].toArray) [(Value.slice none 0 0), (Value.int .i64 most), (Value.int .i64 size)] hs25 rfl rfl (by decide) (fun b33 w34 hs35 => ?_))
              refine WL.cons rfl (OP.assign (Value.pointer (some ⟨b33, 0, none⟩)) rfl (by decide) ?_)
              refine WL.nil (Qn.then ?_)
              refine W.seq ?_
              refine W.seq ?_
              have hs36 : sat W0 [SL false 3 none (([] : List BEnt).length) 0 (([] : List BEnt).flatMap encB), blk b33 [(Value.slice none (([] : List BEnt).length) 0), (Value.int .i64 most), (Value.int .i64 size)] 46, BufRep b_21 ([] : List BEnt) most size, F] w34 := sat_SL_nil hs35
              have hs37 : sat W0 [blk b33 [(Value.slice none (([] : List BEnt).length) 0), (Value.int .i64 most), (Value.int .i64 size)] 46, SL false 3 none (([] : List BEnt).length) 0 (([] : List BEnt).flatMap encB), BufRep b_21 ([] : List BEnt) most size, F] w34 := sat_sel' [1, 0, 2, 3] hs36 (by kernel_rfl) (by kernel_rfl)
              have hs38 : sat W0 [RefRep b33 ([] : List BEnt) most size, BufRep b_21 ([] : List BEnt) most size, F] w34 := RefRep_close none 0 trivial hs37
              refine W.region ?_
              refine WL.cons rfl (OP.move (Value.int .i64 0) rfl (by decide) ?_)
              refine WL.cons rfl (OP.neI rfl rfl (by decide) ?_)
              refine WL.nil (Qn.then ?_)
              refine W.iteF rfl ?_
              refine W.skip (Qn.then ?_)
              refine W.seq ?_
              refine W.seq ?_
              have hs39 : sat W0 [ShD W0 (doD ds), RefRep b33 ([] : List BEnt) most size, BufRep b_21 ([] : List BEnt) most size, F] w34 := (sat_ShD_ro (doD_ro hR) hs38)
              refine W.region ?_
              refine WL.cons rfl (OP.move (Value.slice a ds.length c) rfl (by decide) ?_)
              refine WL.cons rfl (OP.len Try.underlying39 rfl rfl (by decide) ?_)
              refine WL.cons rfl (OP.move (Value.int .i64 0) rfl (by decide) ?_)
              refine WL.nil (Qn.then ?_)
              refine W.block ?_
              refine W.loop (fun n_ e_ w_ => ∃ k : Nat, ∃ m : List AEnt, ∃ xs : List BEnt, ∃ ys : List BEnt, ∃ D : List (Option Addr × List Int), n_ = ds.length - k ∧ e_ 0 = (Value.int .i64 most) ∧ e_ 7 = (Value.pointer (some ⟨b_21, 0, none⟩)) ∧ e_ 9 = (Value.pointer (some ⟨b33, 0, none⟩)) ∧ e_ 54 = (Value.slice a ds.length c) ∧ e_ 55 = (Value.int .i64 ((ds.length : Nat) : Int)) ∧ e_ 56 = (Value.int .i64 ((k : Nat) : Int)) ∧ k ≤ ds.length ∧ OkM most m ∧ xs.map absB = m ∧ ys.map absB = m ∧ InD D xs ∧ InD D ys ∧ DSub (doD ds) D ∧ sat W0 [ShD W0 D, RefRep b33 ys most size, BufRep b_21 xs most size, F] w_) (ds.length - 0) ⟨0, ([] : List AEnt), ([] : List BEnt), ([] : List BEnt), (doD ds), rfl, rfl, rfl, rfl, rfl, rfl, (Eq.trans (b := (Value.int .i64 0)) rfl (congrArg (Value.int .i64) (by first | rfl | omega | simp | (simp; omega)))), (by omega), (OkM.nil (by omega) (by omega)), rfl, rfl, InD.nil, InD.nil, DSub.refl, hs39⟩ ?_
              rintro n40 e41 w42 ⟨k, m, xs, ys, D, hn44, he45, he46, he47, he48, he49, he50, hp51, hp52, hp53, hp54, hp55, hp56, hp57, hs43⟩
              have hok_ := hp52
              have hm_ := hp53
              have hmr_ := hp54
              have hal_ := abs_len hm_
              have hbl_ := abs_len hmr_
              have hol_ := hok_.len
              have hob_ := hok_.big
              refine W.seq ?_
              refine W.region ?_
              refine WL.cons rfl (OP.lss he50 he49 (by decide) ?_)
              refine WL.nil (Qn.then ?_)
              refine W.seq ?_
              refine W.iteP (p := ((k : Nat) : Int) < ((ds.length : Nat) : Int)) rfl (fun hc58 => ?_) (fun hc58 => ?_)
              · refine W.skip (Qn.then ?_)
                refine W.seq ?_
                refine W.block ?_
                refine W.seq ?_
                refine W.region ?_
                have hi58_ : k < ds.length := by omega
                refine WL.cons rfl (OP.indexR k (Ent_sat 3 rfl hr hs43) Try.underlying39 sz_50 he48 he50 rfl hi58_ (by decide) ?_)
                refine WL.cons rfl (OP.loadAR (encDo (ds.getD k default)) (Ent_sat 3 rfl hr hs43) (recs_take (enc := encDo) (fun _ => rfl) hi58_) ag_50 sz_50 rfl (by decide) ?_)
                refine WL.cons rfl (OP.alloc _ [(Value.int .i64 0), (Value.int .i64 0), (Value.int .i64 0), (Value.slice none 0 0), (Value.slice none 0 0)] hs43 ze_50 rfl (by decide) (fun b59 w60 hs61 => ?_))
                refine WL.cons rfl (OP.store (Value.agg [(Value.int .i64 ((ds.getD k default).kind)), (Value.int .i64 ((ds.getD k default).e.sector)), (Value.int .i64 ((ds.getD k default).e.kind)), (Value.slice ((ds.getD k default).e.da) ((ds.getD k default).e.data.length) ((ds.getD k default).e.dc)), (Value.slice ((ds.getD k default).la) ((ds.getD k default).l.length) ((ds.getD k default).lc))].toArray) [(Value.int .i64 ((ds.getD k default).kind)), (Value.int .i64 ((ds.getD k default).e.sector)), (Value.int .i64 ((ds.getD k default).e.kind)), (Value.slice ((ds.getD k default).e.da) ((ds.getD k default).e.data.length) ((ds.getD k default).e.dc)), (Value.slice ((ds.getD k default).la) ((ds.getD k default).l.length) ((ds.getD k default).lc))] hs61 rfl rfl rfl sz_50 rfl (by rfl) (by simp) (fun w62 hs63 => ?_))
                have hs64 : sat W0 [blk b59 [(Value.int .i64 ((ds.getD k default).kind)), (Value.int .i64 ((ds.getD k default).e.sector)), (Value.int .i64 ((ds.getD k default).e.kind)), (Value.slice ((ds.getD k default).e.da) ((ds.getD k default).e.data.length) ((ds.getD k default).e.dc)), (Value.slice ((ds.getD k default).la) ((ds.getD k default).l.length) ((ds.getD k default).lc))] 50, ShD W0 D, RefRep b33 ys most size, BufRep b_21 xs most size, F] w62 := hs63
                refine WL.nil (Qn.then ?_)
                refine W.seq ?_
                refine W.seq ?_
                have hel_ := hR (ds.getD k default) (getD_mem (by omega))
                have hex_ := hp57 _ (doD_mem (getD_mem (d := default) (by omega)))
                refine W.region ?_
                refine WL.cons rfl (OP.fieldAddr 1 fo_50_1 rfl rfl (by decide) ?_)
                refine WL.cons rfl (OP.fieldAddr 3 fo_48_2 rfl rfl (by decide) ?_)
                refine WL.cons rfl (OP.loadS (Value.slice ((ds.getD k default).e.da) ((ds.getD k default).e.data.length) ((ds.getD k default).e.dc)) sc_24 rfl (sat_cell 0 hs64 rfl rfl) (by decide) ?_)
                refine WL.cons rfl (OP.len Try.underlying24 rfl rfl (by decide) ?_)
                refine WL.cons rfl (OP.gtr rfl rfl (by decide) ?_)
                refine WL.cons rfl (OP.move (Value.bool (decide ((((ds.getD k default).e.data.length : Nat) : Int) > 200))) rfl (by decide) ?_)
                by_cases hc65 : (((ds.getD k default).e.data.length : Nat) : Int) > 200
                · refine WL.pass rfl rfl (Eq.trans (b := .bool (decide ((((ds.getD k default).e.data.length : Nat) : Int) > 200))) rfl (congrArg Value.bool (decide_eq_true hc65))) rfl rfl (by decide) ?_
                  refine WL.pass rfl rfl (Eq.trans (b := .bool (decide ((((ds.getD k default).e.data.length : Nat) : Int) > 200))) rfl (congrArg Value.bool (decide_eq_true hc65))) rfl rfl (by decide) ?_
                  refine WL.pass rfl rfl (Eq.trans (b := .bool (decide ((((ds.getD k default).e.data.length : Nat) : Int) > 200))) rfl (congrArg Value.bool (decide_eq_true hc65))) rfl rfl (by decide) ?_
                  refine WL.pass rfl rfl (Eq.trans (b := .bool (decide ((((ds.getD k default).e.data.length : Nat) : Int) > 200))) rfl (congrArg Value.bool (decide_eq_true hc65))) rfl rfl (by decide) ?_
                  refine WL.cons rfl (OP.pickT (Value.bool true) (Eq.trans (b := .bool (decide ((((ds.getD k default).e.data.length : Nat) : Int) > 200))) rfl (congrArg Value.bool (decide_eq_true hc65))) rfl (by decide) ?_)
                  refine WL.nil (Qn.then ?_)
                  refine W.iteT rfl ?_
                  refine W.seq ?_
                  refine W.region ?_
                  refine WL.cons rfl (OP.assign (Value.bool true) rfl (by decide) ?_)
                  refine WL.nil (Qn.then ?_)
                  refine W.ret (Qr.then (Qr.blk (Qr.then (Qr.then (Qr.blk (Qr.then (RetQ.of [(Value.bool true)] (.inr rfl) Try.results4 (.cons (.tmp (by decide) rfl) .nil) ?_)))))))
                  have hs67 : sat W0 [F] w62 := sat_sub' [4] [0, 1, 2, 3] hs64 (by kernel_rfl) (by kernel_rfl)
                  exact ⟨rfl, hs67⟩
                · refine WL.consG rfl rfl (Eq.trans (b := .bool (decide ((((ds.getD k default).e.data.length : Nat) : Int) > 200))) rfl (congrArg Value.bool (decide_eq_false hc65))) (OP.fieldAddr 4 fo_50_2 rfl rfl (by decide) ?_)
                  refine WL.consG rfl rfl (Eq.trans (b := .bool (decide ((((ds.getD k default).e.data.length : Nat) : Int) > 200))) rfl (congrArg Value.bool (decide_eq_false hc65))) (OP.loadS (Value.slice ((ds.getD k default).la) ((ds.getD k default).l.length) ((ds.getD k default).lc)) sc_22 rfl (sat_cell 0 hs64 rfl rfl) (by decide) ?_)
                  refine WL.consG rfl rfl (Eq.trans (b := .bool (decide ((((ds.getD k default).e.data.length : Nat) : Int) > 200))) rfl (congrArg Value.bool (decide_eq_false hc65))) (OP.len Try.underlying22 rfl rfl (by decide) ?_)
                  refine WL.consG rfl rfl (Eq.trans (b := .bool (decide ((((ds.getD k default).e.data.length : Nat) : Int) > 200))) rfl (congrArg Value.bool (decide_eq_false hc65))) (OP.gtr rfl rfl (by decide) ?_)
                  refine WL.cons rfl (OP.pickF (Value.bool (decide ((((ds.getD k default).l.length : Nat) : Int) > 20))) (Eq.trans (b := .bool (decide ((((ds.getD k default).e.data.length : Nat) : Int) > 200))) rfl (congrArg Value.bool (decide_eq_false hc65))) rfl (by decide) ?_)
                  refine WL.nil (Qn.then ?_)
                  refine W.iteP (p := (((ds.getD k default).l.length : Nat) : Int) > 20) rfl (fun hc68 => ?_) (fun hc68 => ?_)
                  · refine W.seq ?_
                    refine W.region ?_
                    refine WL.cons rfl (OP.assign (Value.bool true) rfl (by decide) ?_)
                    refine WL.nil (Qn.then ?_)
                    refine W.ret (Qr.then (Qr.blk (Qr.then (Qr.then (Qr.blk (Qr.then (RetQ.of [(Value.bool true)] (.inr rfl) Try.results4 (.cons (.tmp (by decide) rfl) .nil) ?_)))))))
                    have hs70 : sat W0 [F] w62 := sat_sub' [4] [0, 1, 2, 3] hs64 (by kernel_rfl) (by kernel_rfl)
                    exact ⟨rfl, hs70⟩
                  · refine W.skip (Qn.then ?_)
                    refine W.seq ?_
                    refine W.region ?_
                    refine WL.cons rfl (OP.assign (Value.bool true) rfl (by decide) ?_)
                    refine WL.nil (Qn.then ?_)
                    refine W.cut (fun e_ w_ => ∃ mj : List AEnt, ∃ xsj : List BEnt, ∃ ysj : List BEnt, ∃ Dj : List (Option Addr × List Int), e_ 0 = (Value.int .i64 most) ∧ e_ 7 = (Value.pointer (some ⟨b_21, 0, none⟩)) ∧ e_ 9 = (Value.pointer (some ⟨b33, 0, none⟩)) ∧ e_ 11 = (Value.pointer (some ⟨b59, 0, none⟩)) ∧ e_ 12 = (Value.bool true) ∧ e_ 54 = (Value.slice a ds.length c) ∧ e_ 55 = (Value.int .i64 ((ds.length : Nat) : Int)) ∧ e_ 56 = (Value.int .i64 ((k : Nat) : Int)) ∧ e_ 57 = (Value.bool (decide (((k : Nat) : Int) < ((ds.length : Nat) : Int)))) ∧ e_ 58 = (Value.pointer (some (adr a (k * 5)))) ∧ e_ 59 = (Value.agg [(Value.int .i64 ((ds.getD k default).kind)), (Value.int .i64 ((ds.getD k default).e.sector)), (Value.int .i64 ((ds.getD k default).e.kind)), (Value.slice ((ds.getD k default).e.da) ((ds.getD k default).e.data.length) ((ds.getD k default).e.dc)), (Value.slice ((ds.getD k default).la) ((ds.getD k default).l.length) ((ds.getD k default).lc))].toArray) ∧ e_ 60 = (Value.pointer (some ⟨b59, 1, none⟩)) ∧ e_ 61 = (Value.pointer (some ⟨b59, 3, none⟩)) ∧ e_ 62 = (Value.slice ((ds.getD k default).e.da) ((ds.getD k default).e.data.length) ((ds.getD k default).e.dc)) ∧ e_ 63 = (Value.int .i64 (((ds.getD k default).e.data.length : Nat) : Int)) ∧ e_ 64 = (Value.bool (decide ((((ds.getD k default).e.data.length : Nat) : Int) > 200))) ∧ e_ 65 = (Value.bool false) ∧ e_ 66 = (Value.pointer (some ⟨b59, 4, none⟩)) ∧ e_ 67 = (Value.slice ((ds.getD k default).la) ((ds.getD k default).l.length) ((ds.getD k default).lc)) ∧ e_ 68 = (Value.int .i64 (((ds.getD k default).l.length : Nat) : Int)) ∧ e_ 69 = (Value.bool (decide ((((ds.getD k default).l.length : Nat) : Int) > 20))) ∧ e_ 70 = (Value.bool (decide ((((ds.getD k default).l.length : Nat) : Int) > 20))) ∧ OkM most mj ∧ xsj.map absB = mj ∧ ysj.map absB = mj ∧ InD Dj xsj ∧ InD Dj ysj ∧ DSub (doD ds) Dj ∧ sat W0 [ShD W0 Dj, RefRep b33 ysj most size, BufRep b_21 xsj most size, F] w_) ?_ ?_
                    · refine W.seq ?_
                      refine W.region ?_
                      refine WL.cons rfl (OP.fieldAddr 0 fo_50_0 rfl rfl (by decide) ?_)
                      refine WL.cons rfl (OP.loadS (Value.int .i64 ((ds.getD k default).kind)) sc_3 rfl (sat_cell 0 hs64 rfl rfl) (by decide) ?_)
                      refine WL.nil (Qn.then ?_)
                      refine W.block ?_
                      refine W.seq ?_
                      refine W.region ?_
                      refine WL.cons rfl (OP.eqI rfl rfl (by decide) ?_)
                      refine WL.cons rfl (OP.assign (Value.bool (decide ((ds.getD k default).kind = 1))) rfl (by decide) ?_)
                      refine WL.nil (Qn.then ?_)
                      refine W.iteP (p := (ds.getD k default).kind = 1) rfl (fun hc71 => ?_) (fun hc71 => ?_)
                      · have hs72 : sat W0 [BufRep b_21 xs most size, blk b59 [(Value.int .i64 ((ds.getD k default).kind)), (Value.int .i64 ((ds.getD k default).e.sector)), (Value.int .i64 ((ds.getD k default).e.kind)), (Value.slice ((ds.getD k default).e.da) ((ds.getD k default).e.data.length) ((ds.getD k default).e.dc)), (Value.slice ((ds.getD k default).la) ((ds.getD k default).l.length) ((ds.getD k default).lc))] 50, ShD W0 D, RefRep b33 ys most size, F] w62 := sat_sel' [3, 0, 1, 2, 4] hs64 (by kernel_rfl) (by kernel_rfl)
                        obtain ⟨a1_73, c1_74, _, hs75⟩ := BufRep_open hs72
                        have hs76 : sat W0 [blk b_21 [(Value.slice a1_73 xs.length c1_74), (Value.int .i64 most), (Value.int .i64 size)] 92, SL false 3 a1_73 xs.length c1_74 (xs.flatMap encB), blk b59 [(Value.int .i64 ((ds.getD k default).kind)), (Value.int .i64 ((ds.getD k default).e.sector)), (Value.int .i64 ((ds.getD k default).e.kind)), (Value.slice ((ds.getD k default).e.da) ((ds.getD k default).e.data.length) ((ds.getD k default).e.dc)), (Value.slice ((ds.getD k default).la) ((ds.getD k default).l.length) ((ds.getD k default).lc))] 50, ShD W0 D, RefRep b33 ys most size, F] w62 := hs75
                        have hs77 : sat W0 [RefRep b33 ys most size, blk b_21 [(Value.slice a1_73 xs.length c1_74), (Value.int .i64 most), (Value.int .i64 size)] 92, SL false 3 a1_73 xs.length c1_74 (xs.flatMap encB), blk b59 [(Value.int .i64 ((ds.getD k default).kind)), (Value.int .i64 ((ds.getD k default).e.sector)), (Value.int .i64 ((ds.getD k default).e.kind)), (Value.slice ((ds.getD k default).e.da) ((ds.getD k default).e.data.length) ((ds.getD k default).e.dc)), (Value.slice ((ds.getD k default).la) ((ds.getD k default).l.length) ((ds.getD k default).lc))] 50, ShD W0 D, F] w62 := sat_sel' [4, 0, 1, 2, 3, 5] hs76 (by kernel_rfl) (by kernel_rfl)
                        obtain ⟨a1_78, c1_79, _, hs80⟩ := RefRep_open hs77
                        have hs81 : sat W0 [blk b33 [(Value.slice a1_78 ys.length c1_79), (Value.int .i64 most), (Value.int .i64 size)] 46, SL false 3 a1_78 ys.length c1_79 (ys.flatMap encB), blk b_21 [(Value.slice a1_73 xs.length c1_74), (Value.int .i64 most), (Value.int .i64 size)] 92, SL false 3 a1_73 xs.length c1_74 (xs.flatMap encB), blk b59 [(Value.int .i64 ((ds.getD k default).kind)), (Value.int .i64 ((ds.getD k default).e.sector)), (Value.int .i64 ((ds.getD k default).e.kind)), (Value.slice ((ds.getD k default).e.da) ((ds.getD k default).e.data.length) ((ds.getD k default).e.dc)), (Value.slice ((ds.getD k default).la) ((ds.getD k default).l.length) ((ds.getD k default).lc))] 50, ShD W0 D, F] w62 := hs80
                        refine W.draw (fun w => sat W0 [blk b59 [(Value.int .i64 ((ds.getD k default).kind)), (Value.int .i64 ((ds.getD k default).e.sector)), (Value.int .i64 ((ds.getD k default).e.kind)), (Value.slice ((ds.getD k default).e.da) ((ds.getD k default).e.data.length) ((ds.getD k default).e.dc)), (Value.slice ((ds.getD k default).la) ((ds.getD k default).l.length) ((ds.getD k default).lc))] 50, F] w) (by kernel_rfl) hs81 (fun w82 hs83 => ?_)
                        refine WA.take 0 rfl rfl rfl rfl (by kernel_rfl) (by kernel_rfl) (by kernel_rfl) ?_ (by decide) (v := (Value.pointer (some ⟨b_21, 0, none⟩))) (fun w85 hw84 => OP.move (Value.pointer (some ⟨b_21, 0, none⟩)) he46 (by decide) ⟨rfl, rfl⟩) ?_
                        · exact sat_sub' [4, 6] [0, 1, 2, 3, 5] hs83 (by kernel_rfl) (by kernel_rfl)
                        refine WA.take 1 rfl rfl rfl rfl (by kernel_rfl) (by kernel_rfl) (by kernel_rfl) ?_ (by decide) (v := (Value.pointer (some ⟨b59, 1, none⟩))) (fun w87 hw86 => OP.fieldAddr 1 fo_50_1 rfl rfl (by decide) ⟨rfl, rfl⟩) ?_
                        · exact sat_sub' [4, 6] [0, 1, 2, 3, 5] hs83 (by kernel_rfl) (by kernel_rfl)
                        refine WA.take 2 rfl rfl rfl rfl (by kernel_rfl) (by kernel_rfl) (by kernel_rfl) ?_ (by decide) (v := (Value.agg [(Value.int .i64 ((ds.getD k default).e.sector)), (Value.int .i64 ((ds.getD k default).e.kind)), (Value.slice ((ds.getD k default).e.da) ((ds.getD k default).e.data.length) ((ds.getD k default).e.dc))].toArray)) (fun w89 hw88 => OP.loadA [(Value.int .i64 ((ds.getD k default).e.sector)), (Value.int .i64 ((ds.getD k default).e.kind)), (Value.slice ((ds.getD k default).e.da) ((ds.getD k default).e.data.length) ((ds.getD k default).e.dc))] ag_48 sz_48 rfl (sat_rdn 0 hw88 rfl rfl) (by decide) ⟨rfl, rfl⟩) ?_
                        · exact sat_sub' [4, 6] [0, 1, 2, 3, 5] hs83 (by kernel_rfl) (by kernel_rfl)
                        refine WA.take 4 rfl rfl rfl rfl (by kernel_rfl) (by kernel_rfl) (by kernel_rfl) ?_ (by decide) (v := (Value.pointer (some ⟨b33, 0, none⟩))) (fun w91 hw90 => OP.move (Value.pointer (some ⟨b33, 0, none⟩)) he47 (by decide) ⟨rfl, rfl⟩) ?_
                        · exact sat_sub' [4, 6] [0, 1, 2, 3, 5] hs83 (by kernel_rfl) (by kernel_rfl)
                        refine WA.take 5 rfl rfl rfl rfl (by kernel_rfl) (by kernel_rfl) (by kernel_rfl) ?_ (by decide) (v := (Value.pointer (some ⟨b59, 1, none⟩))) (fun w93 hw92 => OP.fieldAddr 1 fo_50_1 rfl rfl (by decide) ⟨rfl, rfl⟩) ?_
                        · exact sat_sub' [4, 6] [0, 1, 2, 3, 5] hs83 (by kernel_rfl) (by kernel_rfl)
                        refine WA.take 6 rfl rfl rfl rfl (by kernel_rfl) (by kernel_rfl) (by kernel_rfl) ?_ (by decide) (v := (Value.agg [(Value.int .i64 ((ds.getD k default).e.sector)), (Value.int .i64 ((ds.getD k default).e.kind)), (Value.slice ((ds.getD k default).e.da) ((ds.getD k default).e.data.length) ((ds.getD k default).e.dc))].toArray)) (fun w95 hw94 => OP.loadA [(Value.int .i64 ((ds.getD k default).e.sector)), (Value.int .i64 ((ds.getD k default).e.kind)), (Value.slice ((ds.getD k default).e.da) ((ds.getD k default).e.data.length) ((ds.getD k default).e.dc))] ag_48 sz_48 rfl (sat_rdn 0 hw94 rfl rfl) (by decide) ⟨rfl, rfl⟩) ?_
                        · exact sat_sub' [4, 6] [0, 1, 2, 3, 5] hs83 (by kernel_rfl) (by kernel_rfl)
                        refine WA.all [3] (by kernel_rfl) (by simp) ?_
                        refine WAs.cons (oi := (Go.Oper.mk (some 78) (Go.Op.call (Go.Call.mk (Go.Callee.value (Go.Operand.func 14)) #[(Go.Operand.tmp 75), (Go.Operand.tmp 77)] #[40, 48])) 30 "law.go:61" #[(Go.Edge.mk 0 Go.Ground.data), (Go.Edge.mk 2 Go.Ground.data)] none)) rfl rfl ?_ ?_
                        · have hs96 : sat W0 [blk b_21 [(Value.slice a1_73 xs.length c1_74), (Value.int .i64 most), (Value.int .i64 size)] 92, SL false 3 a1_73 xs.length c1_74 (xs.flatMap encB), blk b33 [(Value.slice a1_78 ys.length c1_79), (Value.int .i64 most), (Value.int .i64 size)] 46, SL false 3 a1_78 ys.length c1_79 (ys.flatMap encB), blk b59 [(Value.int .i64 ((ds.getD k default).kind)), (Value.int .i64 ((ds.getD k default).e.sector)), (Value.int .i64 ((ds.getD k default).e.kind)), (Value.slice ((ds.getD k default).e.da) ((ds.getD k default).e.data.length) ((ds.getD k default).e.dc)), (Value.slice ((ds.getD k default).la) ((ds.getD k default).l.length) ((ds.getD k default).lc))] 50, ShD W0 D, F] w82 := sat_sel' [2, 3, 0, 1, 4, 5, 6] hs83 (by kernel_rfl) (by kernel_rfl)
                          have hs97 : sat W0 [BufRep b_21 xs most size, blk b33 [(Value.slice a1_78 ys.length c1_79), (Value.int .i64 most), (Value.int .i64 size)] 46, SL false 3 a1_78 ys.length c1_79 (ys.flatMap encB), blk b59 [(Value.int .i64 ((ds.getD k default).kind)), (Value.int .i64 ((ds.getD k default).e.sector)), (Value.int .i64 ((ds.getD k default).e.kind)), (Value.slice ((ds.getD k default).e.da) ((ds.getD k default).e.data.length) ((ds.getD k default).e.dc)), (Value.slice ((ds.getD k default).la) ((ds.getD k default).l.length) ((ds.getD k default).lc))] 50, ShD W0 D, F] w82 := BufRep_close a1_73 c1_74 trivial hs96
                          have hs98 : sat W0 [BufRep b_21 xs most size, ShD W0 D, blk b33 [(Value.slice a1_78 ys.length c1_79), (Value.int .i64 most), (Value.int .i64 size)] 46, SL false 3 a1_78 ys.length c1_79 (ys.flatMap encB), blk b59 [(Value.int .i64 ((ds.getD k default).kind)), (Value.int .i64 ((ds.getD k default).e.sector)), (Value.int .i64 ((ds.getD k default).e.kind)), (Value.slice ((ds.getD k default).e.da) ((ds.getD k default).e.data.length) ((ds.getD k default).e.dc)), (Value.slice ((ds.getD k default).la) ((ds.getD k default).l.length) ((ds.getD k default).lc))] 50, F] w82 := sat_sel' [0, 4, 1, 2, 3, 5] hs97 (by kernel_rfl) (by kernel_rfl)
                          have hs99 : sat W0 [BufRep b_21 xs most size, ShD W0 D, stars [blk b33 [(Value.slice a1_78 ys.length c1_79), (Value.int .i64 most), (Value.int .i64 size)] 46, SL false 3 a1_78 ys.length c1_79 (ys.flatMap encB), blk b59 [(Value.int .i64 ((ds.getD k default).kind)), (Value.int .i64 ((ds.getD k default).e.sector)), (Value.int .i64 ((ds.getD k default).e.kind)), (Value.slice ((ds.getD k default).e.da) ((ds.getD k default).e.data.length) ((ds.getD k default).e.dc)), (Value.slice ((ds.getD k default).la) ((ds.getD k default).l.length) ((ds.getD k default).lc))] 50, F]] w82 := sat_pack' [BufRep b_21 xs most size, ShD W0 D] [blk b33 [(Value.slice a1_78 ys.length c1_79), (Value.int .i64 most), (Value.int .i64 size)] 46, SL false 3 a1_78 ys.length c1_79 (ys.flatMap encB), blk b59 [(Value.int .i64 ((ds.getD k default).kind)), (Value.int .i64 ((ds.getD k default).e.sector)), (Value.int .i64 ((ds.getD k default).e.kind)), (Value.slice ((ds.getD k default).e.da) ((ds.getD k default).e.data.length) ((ds.getD k default).e.dc)), (Value.slice ((ds.getD k default).la) ((ds.getD k default).l.length) ((ds.getD k default).lc))] 50, F] hs98 (by kernel_rfl) (by kernel_rfl)
                          have hcl107 := Buffer_Put b_21 xs most size m ((ds.getD k default).e) D hm_ (by have h_ := abs_len hm_; have := hok_.len; have := hok_.big; omega) hok_.pos hok_.len hp55 hex_ (by omega) hs99
                          refine ?_
                          with_reducible refine OP.call [(Value.pointer (some ⟨b_21, 0, none⟩)), (Value.agg [(Value.int .i64 ((ds.getD k default).e.sector)), (Value.int .i64 ((ds.getD k default).e.kind)), (Value.slice ((ds.getD k default).e.da) ((ds.getD k default).e.data.length) ((ds.getD k default).e.dc))].toArray)] gf_14 ?_ ?_ hcl107 ?_
                          · exact rfl
                          · decide
                          clear hcl107
                          rintro _ w102 ⟨_, rfl, xs_100, D_101, rfl, hq104, hq105, hq106, hs103⟩
                          refine ⟨_, rfl, ?_⟩
                          have hs108 : sat W0 [BufRep b_21 xs_100 most size, ShD W0 D_101, blk b33 [(Value.slice a1_78 ys.length c1_79), (Value.int .i64 most), (Value.int .i64 size)] 46, SL false 3 a1_78 ys.length c1_79 (ys.flatMap encB), blk b59 [(Value.int .i64 ((ds.getD k default).kind)), (Value.int .i64 ((ds.getD k default).e.sector)), (Value.int .i64 ((ds.getD k default).e.kind)), (Value.slice ((ds.getD k default).e.da) ((ds.getD k default).e.data.length) ((ds.getD k default).e.dc)), (Value.slice ((ds.getD k default).la) ((ds.getD k default).l.length) ((ds.getD k default).lc))] 50, F] w102 := sat_flat' [BufRep b_21 xs_100 most size, ShD W0 D_101] [blk b33 [(Value.slice a1_78 ys.length c1_79), (Value.int .i64 most), (Value.int .i64 size)] 46, SL false 3 a1_78 ys.length c1_79 (ys.flatMap encB), blk b59 [(Value.int .i64 ((ds.getD k default).kind)), (Value.int .i64 ((ds.getD k default).e.sector)), (Value.int .i64 ((ds.getD k default).e.kind)), (Value.slice ((ds.getD k default).e.da) ((ds.getD k default).e.data.length) ((ds.getD k default).e.dc)), (Value.slice ((ds.getD k default).la) ((ds.getD k default).l.length) ((ds.getD k default).lc))] 50, F] hs103 (by kernel_rfl) (by kernel_rfl)
                          have hm109 := hq104 _ hex_
                          have hm110 := InD.sub hp55 hq104
                          have hm111 := InD.sub hp56 hq104
                          have hd112 := DSub.trans hp57 hq104
                          refine ⟨?_, ?_⟩
                          · exact sat_sub' [4, 5] [0, 1, 2, 3] hs108 (by kernel_rfl) (by kernel_rfl)
                          refine WA.all [7] (by kernel_rfl) (by simp) ?_
                          refine WAs.cons (oi := (Go.Oper.mk (some 82) (Go.Op.call (Go.Call.mk (Go.Callee.value (Go.Operand.func 15)) #[(Go.Operand.tmp 79), (Go.Operand.tmp 81)] #[43, 48])) 3 "law.go:61" #[(Go.Edge.mk 4 Go.Ground.data), (Go.Edge.mk 6 Go.Ground.data), (Go.Edge.mk 3 Go.Ground.chain)] none)) rfl rfl ?_ ?_
                          · have hs113 : sat W0 [blk b33 [(Value.slice a1_78 ys.length c1_79), (Value.int .i64 most), (Value.int .i64 size)] 46, SL false 3 a1_78 ys.length c1_79 (ys.flatMap encB), BufRep b_21 xs_100 most size, ShD W0 D_101, blk b59 [(Value.int .i64 ((ds.getD k default).kind)), (Value.int .i64 ((ds.getD k default).e.sector)), (Value.int .i64 ((ds.getD k default).e.kind)), (Value.slice ((ds.getD k default).e.da) ((ds.getD k default).e.data.length) ((ds.getD k default).e.dc)), (Value.slice ((ds.getD k default).la) ((ds.getD k default).l.length) ((ds.getD k default).lc))] 50, F] w102 := sat_sel' [2, 3, 0, 1, 4, 5] hs108 (by kernel_rfl) (by kernel_rfl)
                            have hs114 : sat W0 [RefRep b33 ys most size, BufRep b_21 xs_100 most size, ShD W0 D_101, blk b59 [(Value.int .i64 ((ds.getD k default).kind)), (Value.int .i64 ((ds.getD k default).e.sector)), (Value.int .i64 ((ds.getD k default).e.kind)), (Value.slice ((ds.getD k default).e.da) ((ds.getD k default).e.data.length) ((ds.getD k default).e.dc)), (Value.slice ((ds.getD k default).la) ((ds.getD k default).l.length) ((ds.getD k default).lc))] 50, F] w102 := RefRep_close a1_78 c1_79 trivial hs113
                            have hs115 : sat W0 [RefRep b33 ys most size, stars [BufRep b_21 xs_100 most size, ShD W0 D_101, blk b59 [(Value.int .i64 ((ds.getD k default).kind)), (Value.int .i64 ((ds.getD k default).e.sector)), (Value.int .i64 ((ds.getD k default).e.kind)), (Value.slice ((ds.getD k default).e.da) ((ds.getD k default).e.data.length) ((ds.getD k default).e.dc)), (Value.slice ((ds.getD k default).la) ((ds.getD k default).l.length) ((ds.getD k default).lc))] 50, F]] w102 := sat_pack' [RefRep b33 ys most size] [BufRep b_21 xs_100 most size, ShD W0 D_101, blk b59 [(Value.int .i64 ((ds.getD k default).kind)), (Value.int .i64 ((ds.getD k default).e.sector)), (Value.int .i64 ((ds.getD k default).e.kind)), (Value.slice ((ds.getD k default).e.da) ((ds.getD k default).e.data.length) ((ds.getD k default).e.dc)), (Value.slice ((ds.getD k default).la) ((ds.getD k default).l.length) ((ds.getD k default).lc))] 50, F] hs114 (by kernel_rfl) (by kernel_rfl)
                            have hcl121 := Ref_Put b33 ys most size m ((ds.getD k default).e) D_101 hmr_ (by have h_ := abs_len hmr_; have := hok_.len; have := hok_.big; omega) hm111 hm109 hs115
                            refine ?_
                            with_reducible refine OP.call [(Value.pointer (some ⟨b33, 0, none⟩)), (Value.agg [(Value.int .i64 ((ds.getD k default).e.sector)), (Value.int .i64 ((ds.getD k default).e.kind)), (Value.slice ((ds.getD k default).e.da) ((ds.getD k default).e.data.length) ((ds.getD k default).e.dc))].toArray)] gf_15 ?_ ?_ hcl121 ?_
                            · exact rfl
                            · decide
                            clear hcl121
                            rintro _ w117 ⟨_, rfl, xs_116, rfl, hq119, hq120, hs118⟩
                            refine ⟨_, rfl, ?_⟩
                            have hs122 : sat W0 [RefRep b33 xs_116 most size, BufRep b_21 xs_100 most size, ShD W0 D_101, blk b59 [(Value.int .i64 ((ds.getD k default).kind)), (Value.int .i64 ((ds.getD k default).e.sector)), (Value.int .i64 ((ds.getD k default).e.kind)), (Value.slice ((ds.getD k default).e.da) ((ds.getD k default).e.data.length) ((ds.getD k default).e.dc)), (Value.slice ((ds.getD k default).la) ((ds.getD k default).l.length) ((ds.getD k default).lc))] 50, F] w117 := sat_flat' [RefRep b33 xs_116 most size] [BufRep b_21 xs_100 most size, ShD W0 D_101, blk b59 [(Value.int .i64 ((ds.getD k default).kind)), (Value.int .i64 ((ds.getD k default).e.sector)), (Value.int .i64 ((ds.getD k default).e.kind)), (Value.slice ((ds.getD k default).e.da) ((ds.getD k default).e.data.length) ((ds.getD k default).e.dc)), (Value.slice ((ds.getD k default).la) ((ds.getD k default).l.length) ((ds.getD k default).lc))] 50, F] hs118 (by kernel_rfl) (by kernel_rfl)
                            have hokn_ : OkM most (putM most size m (absB (ds.getD k default).e)) := OkM.put hok_ (by show (ds.getD k default).e.data.length ≤ 200; omega)
                            refine ⟨?_, ?_⟩
                            · exact sat_sub' [3, 4] [0, 1, 2] hs122 (by kernel_rfl) (by kernel_rfl)
                            refine WA.take 8 rfl rfl rfl rfl (by kernel_rfl) (by kernel_rfl) (by kernel_rfl) ?_ (by decide) (v := (Value.bool true)) (fun w124 hw123 => OP.eqI rfl rfl (by decide) ⟨congrArg (upd _ _) (Eq.trans (b := Value.bool (decide (putE most size m (absB ((ds.getD k default).e)) = putE most size m (absB ((ds.getD k default).e))))) rfl (congrArg Value.bool (show decide (putE most size m (absB ((ds.getD k default).e)) = putE most size m (absB ((ds.getD k default).e))) = true by simp))), rfl⟩) ?_
                            · exact sat_sub' [3, 4] [0, 1, 2] hs122 (by kernel_rfl) (by kernel_rfl)
                            refine WA.take 9 rfl rfl rfl rfl (by kernel_rfl) (by kernel_rfl) (by kernel_rfl) ?_ (by decide) (v := (Value.bool true)) (fun w126 hw125 => OP.assign (Value.bool true) rfl (by decide) ⟨rfl, rfl⟩) ?_
                            · exact sat_sub' [3, 4] [0, 1, 2] hs122 (by kernel_rfl) (by kernel_rfl)
                            refine WA.done (by kernel_rfl) ?_
                            refine (Qn.blk (Qn.then ?_))
                            have hs127 : sat W0 [ShD W0 D_101, RefRep b33 xs_116 most size, BufRep b_21 xs_100 most size, F] w117 := sat_sub' [2, 0, 1, 4] [3] hs122 (by kernel_rfl) (by kernel_rfl)
                            exact ⟨(putM most size m (absB (ds.getD k default).e)), xs_100, xs_116, D_101, he45, he46, he47, rfl, rfl, he48, he49, he50, rfl, rfl, rfl, rfl, rfl, rfl, rfl, rfl, (Eq.trans (b := .bool (decide ((((ds.getD k default).e.data.length : Nat) : Int) > 200))) rfl (congrArg Value.bool (decide_eq_false hc65))), rfl, rfl, rfl, rfl, rfl, hokn_, hq106, hq120, hq105, hq119, hd112, hs127⟩
                          exact WAs.nil
                        exact WAs.nil
                      · refine W.seq ?_
                        refine W.region ?_
                        refine WL.cons rfl (OP.eqI rfl rfl (by decide) ?_)
                        refine WL.cons rfl (OP.assign (Value.bool (decide ((ds.getD k default).kind = 2))) rfl (by decide) ?_)
                        refine WL.nil (Qn.then ?_)
                        refine W.iteP (p := (ds.getD k default).kind = 2) rfl (fun hc128 => ?_) (fun hc128 => ?_)
                        · refine W.seq ?_
                          rcases Bool.eq_false_or_eq_true (decide (0 ≤ findA m ((ds.getD k default).l.headD 0))) with hR129 | hR129
                          · refine W.region ?_
                            refine WL.cons rfl (OP.move (Value.pointer (some ⟨b_21, 0, none⟩)) he46 (by decide) ?_)
                            refine WL.cons rfl (OP.fieldAddr 4 fo_50_2 rfl rfl (by decide) ?_)
                            refine WL.cons rfl (OP.loadS (Value.slice ((ds.getD k default).la) ((ds.getD k default).l.length) ((ds.getD k default).lc)) sc_22 rfl (sat_cell 0 hs64 rfl rfl) (by decide) ?_)
                            have hs130 : sat W0 [stars [blk b59 [(Value.int .i64 ((ds.getD k default).kind)), (Value.int .i64 ((ds.getD k default).e.sector)), (Value.int .i64 ((ds.getD k default).e.kind)), (Value.slice ((ds.getD k default).e.da) ((ds.getD k default).e.data.length) ((ds.getD k default).e.dc)), (Value.slice ((ds.getD k default).la) ((ds.getD k default).l.length) ((ds.getD k default).lc))] 50, ShD W0 D, RefRep b33 ys most size, BufRep b_21 xs most size, F]] w62 := sat_pack' [] [blk b59 [(Value.int .i64 ((ds.getD k default).kind)), (Value.int .i64 ((ds.getD k default).e.sector)), (Value.int .i64 ((ds.getD k default).e.kind)), (Value.slice ((ds.getD k default).e.da) ((ds.getD k default).e.data.length) ((ds.getD k default).e.dc)), (Value.slice ((ds.getD k default).la) ((ds.getD k default).l.length) ((ds.getD k default).lc))] 50, ShD W0 D, RefRep b33 ys most size, BufRep b_21 xs most size, F] hs64 (by kernel_rfl) (by kernel_rfl)
                            have hcl133 := law29_first ((ds.getD k default).la) ((ds.getD k default).lc) ((ds.getD k default).l) (by first | assumption | omega) (Ent_ro hel_.2) hs130
                            refine WL.cons rfl (?_)
                            with_reducible refine OP.call [(Value.slice ((ds.getD k default).la) ((ds.getD k default).l.length) ((ds.getD k default).lc))] gf_17 ?_ ?_ hcl133 ?_
                            · exact rfl
                            · decide
                            clear hcl133
                            rintro _ w131 ⟨_, rfl, rfl, hs132⟩
                            refine ⟨_, rfl, ?_⟩
                            have hs134 : sat W0 [blk b59 [(Value.int .i64 ((ds.getD k default).kind)), (Value.int .i64 ((ds.getD k default).e.sector)), (Value.int .i64 ((ds.getD k default).e.kind)), (Value.slice ((ds.getD k default).e.da) ((ds.getD k default).e.data.length) ((ds.getD k default).e.dc)), (Value.slice ((ds.getD k default).la) ((ds.getD k default).l.length) ((ds.getD k default).lc))] 50, ShD W0 D, RefRep b33 ys most size, BufRep b_21 xs most size, F] w131 := sat_flat' [] [blk b59 [(Value.int .i64 ((ds.getD k default).kind)), (Value.int .i64 ((ds.getD k default).e.sector)), (Value.int .i64 ((ds.getD k default).e.kind)), (Value.slice ((ds.getD k default).e.da) ((ds.getD k default).e.data.length) ((ds.getD k default).e.dc)), (Value.slice ((ds.getD k default).la) ((ds.getD k default).l.length) ((ds.getD k default).lc))] 50, ShD W0 D, RefRep b33 ys most size, BufRep b_21 xs most size, F] hs132 (by kernel_rfl) (by kernel_rfl)
                            have hs135 : sat W0 [BufRep b_21 xs most size, ShD W0 D, blk b59 [(Value.int .i64 ((ds.getD k default).kind)), (Value.int .i64 ((ds.getD k default).e.sector)), (Value.int .i64 ((ds.getD k default).e.kind)), (Value.slice ((ds.getD k default).e.da) ((ds.getD k default).e.data.length) ((ds.getD k default).e.dc)), (Value.slice ((ds.getD k default).la) ((ds.getD k default).l.length) ((ds.getD k default).lc))] 50, RefRep b33 ys most size, F] w131 := sat_sel' [3, 1, 0, 2, 4] hs134 (by kernel_rfl) (by kernel_rfl)
                            have hs136 : sat W0 [BufRep b_21 xs most size, ShD W0 D, stars [blk b59 [(Value.int .i64 ((ds.getD k default).kind)), (Value.int .i64 ((ds.getD k default).e.sector)), (Value.int .i64 ((ds.getD k default).e.kind)), (Value.slice ((ds.getD k default).e.da) ((ds.getD k default).e.data.length) ((ds.getD k default).e.dc)), (Value.slice ((ds.getD k default).la) ((ds.getD k default).l.length) ((ds.getD k default).lc))] 50, RefRep b33 ys most size, F]] w131 := sat_pack' [BufRep b_21 xs most size, ShD W0 D] [blk b59 [(Value.int .i64 ((ds.getD k default).kind)), (Value.int .i64 ((ds.getD k default).e.sector)), (Value.int .i64 ((ds.getD k default).e.kind)), (Value.slice ((ds.getD k default).e.da) ((ds.getD k default).e.data.length) ((ds.getD k default).e.dc)), (Value.slice ((ds.getD k default).la) ((ds.getD k default).l.length) ((ds.getD k default).lc))] 50, RefRep b33 ys most size, F] hs135 (by kernel_rfl) (by kernel_rfl)
                            have hcl144 := Buffer_Get_some b_21 xs most size m (((ds.getD k default).l).headD 0) D hm_ (by have h_ := abs_len hm_; have := hok_.len; have := hok_.big; omega) hok_.pos (of_decide_eq_true hR129) hp55 (abs_datl hm_ (fun y_ hy_ => Nat.le_trans (hok_.dat y_ hy_) (by decide))) hs136
                            refine WL.cons rfl (?_)
                            with_reducible refine OP.call [(Value.pointer (some ⟨b_21, 0, none⟩)), (Value.int .i64 (((ds.getD k default).l).headD 0))] gf_16 ?_ ?_ hcl144 ?_
                            · exact rfl
                            · decide
                            clear hcl144
                            rintro _ w140 ⟨_, rfl, a_137, c_138, D_139, rfl, hq142, hq143, hs141⟩
                            refine ⟨_, rfl, ?_⟩
                            have hs145 : sat W0 [BufRep b_21 xs most size, ShD W0 D_139, blk b59 [(Value.int .i64 ((ds.getD k default).kind)), (Value.int .i64 ((ds.getD k default).e.sector)), (Value.int .i64 ((ds.getD k default).e.kind)), (Value.slice ((ds.getD k default).e.da) ((ds.getD k default).e.data.length) ((ds.getD k default).e.dc)), (Value.slice ((ds.getD k default).la) ((ds.getD k default).l.length) ((ds.getD k default).lc))] 50, RefRep b33 ys most size, F] w140 := sat_flat' [BufRep b_21 xs most size, ShD W0 D_139] [blk b59 [(Value.int .i64 ((ds.getD k default).kind)), (Value.int .i64 ((ds.getD k default).e.sector)), (Value.int .i64 ((ds.getD k default).e.kind)), (Value.slice ((ds.getD k default).e.da) ((ds.getD k default).e.data.length) ((ds.getD k default).e.dc)), (Value.slice ((ds.getD k default).la) ((ds.getD k default).l.length) ((ds.getD k default).lc))] 50, RefRep b33 ys most size, F] hs141 (by kernel_rfl) (by kernel_rfl)
                            have hm146 := hq142 _ hex_
                            have hm147 := InD.sub hp55 hq142
                            have hm148 := InD.sub hp56 hq142
                            have hd149 := DSub.trans hp57 hq142
                            refine WL.cons rfl (OP.move (Value.tuple #[(Value.agg [(Value.int .i64 ((xs.getD ((findA m (((ds.getD k default).l).headD 0)).toNat) default).sector)), (Value.int .i64 ((xs.getD ((findA m (((ds.getD k default).l).headD 0)).toNat) default).kind)), (Value.slice a_137 ((xs.getD ((findA m (((ds.getD k default).l).headD 0)).toNat) default).data.length) c_138)].toArray), (Value.bool true)]) rfl (by decide) ?_)
                            refine WL.cons rfl (OP.extract (Value.agg [(Value.int .i64 ((xs.getD ((findA m (((ds.getD k default).l).headD 0)).toNat) default).sector)), (Value.int .i64 ((xs.getD ((findA m (((ds.getD k default).l).headD 0)).toNat) default).kind)), (Value.slice a_137 ((xs.getD ((findA m (((ds.getD k default).l).headD 0)).toNat) default).data.length) c_138)].toArray) rfl rfl (by decide) ?_)
                            refine WL.cons rfl (OP.extract (Value.bool true) rfl rfl (by decide) ?_)
                            refine WL.cons rfl (OP.alloc _ [(Value.int .i64 0), (Value.int .i64 0), (Value.slice none 0 0)] hs145 ze_48 rfl (by decide) (fun b150 w151 hs152 => ?_))
                            refine WL.cons rfl (OP.store (Value.agg [(Value.int .i64 ((xs.getD ((findA m (((ds.getD k default).l).headD 0)).toNat) default).sector)), (Value.int .i64 ((xs.getD ((findA m (((ds.getD k default).l).headD 0)).toNat) default).kind)), (Value.slice a_137 ((xs.getD ((findA m (((ds.getD k default).l).headD 0)).toNat) default).data.length) c_138)].toArray) [(Value.int .i64 ((xs.getD ((findA m (((ds.getD k default).l).headD 0)).toNat) default).sector)), (Value.int .i64 ((xs.getD ((findA m (((ds.getD k default).l).headD 0)).toNat) default).kind)), (Value.slice a_137 ((xs.getD ((findA m (((ds.getD k default).l).headD 0)).toNat) default).data.length) c_138)] hs152 rfl rfl rfl sz_48 rfl (by rfl) (by simp) (fun w153 hs154 => ?_))
                            have hs155 : sat W0 [blk b150 [(Value.int .i64 ((xs.getD ((findA m (((ds.getD k default).l).headD 0)).toNat) default).sector)), (Value.int .i64 ((xs.getD ((findA m (((ds.getD k default).l).headD 0)).toNat) default).kind)), (Value.slice a_137 ((xs.getD ((findA m (((ds.getD k default).l).headD 0)).toNat) default).data.length) c_138)] 48, BufRep b_21 xs most size, ShD W0 D_139, blk b59 [(Value.int .i64 ((ds.getD k default).kind)), (Value.int .i64 ((ds.getD k default).e.sector)), (Value.int .i64 ((ds.getD k default).e.kind)), (Value.slice ((ds.getD k default).e.da) ((ds.getD k default).e.data.length) ((ds.getD k default).e.dc)), (Value.slice ((ds.getD k default).la) ((ds.getD k default).l.length) ((ds.getD k default).lc))] 50, RefRep b33 ys most size, F] w153 := hs154
                            refine WL.cons rfl (OP.assign (Value.bool true) rfl (by decide) ?_)
                            refine WL.nil (Qn.then ?_)
                            refine W.seq ?_
                            refine W.region ?_
                            refine WL.cons rfl (OP.move (Value.pointer (some ⟨b33, 0, none⟩)) he47 (by decide) ?_)
                            refine WL.cons rfl (OP.fieldAddr 4 fo_50_2 rfl rfl (by decide) ?_)
                            refine WL.cons rfl (OP.loadS (Value.slice ((ds.getD k default).la) ((ds.getD k default).l.length) ((ds.getD k default).lc)) sc_22 rfl (sat_cell 3 hs155 rfl rfl) (by decide) ?_)
                            have hs156 : sat W0 [stars [blk b150 [(Value.int .i64 ((xs.getD ((findA m (((ds.getD k default).l).headD 0)).toNat) default).sector)), (Value.int .i64 ((xs.getD ((findA m (((ds.getD k default).l).headD 0)).toNat) default).kind)), (Value.slice a_137 ((xs.getD ((findA m (((ds.getD k default).l).headD 0)).toNat) default).data.length) c_138)] 48, BufRep b_21 xs most size, ShD W0 D_139, blk b59 [(Value.int .i64 ((ds.getD k default).kind)), (Value.int .i64 ((ds.getD k default).e.sector)), (Value.int .i64 ((ds.getD k default).e.kind)), (Value.slice ((ds.getD k default).e.da) ((ds.getD k default).e.data.length) ((ds.getD k default).e.dc)), (Value.slice ((ds.getD k default).la) ((ds.getD k default).l.length) ((ds.getD k default).lc))] 50, RefRep b33 ys most size, F]] w153 := sat_pack' [] [blk b150 [(Value.int .i64 ((xs.getD ((findA m (((ds.getD k default).l).headD 0)).toNat) default).sector)), (Value.int .i64 ((xs.getD ((findA m (((ds.getD k default).l).headD 0)).toNat) default).kind)), (Value.slice a_137 ((xs.getD ((findA m (((ds.getD k default).l).headD 0)).toNat) default).data.length) c_138)] 48, BufRep b_21 xs most size, ShD W0 D_139, blk b59 [(Value.int .i64 ((ds.getD k default).kind)), (Value.int .i64 ((ds.getD k default).e.sector)), (Value.int .i64 ((ds.getD k default).e.kind)), (Value.slice ((ds.getD k default).e.da) ((ds.getD k default).e.data.length) ((ds.getD k default).e.dc)), (Value.slice ((ds.getD k default).la) ((ds.getD k default).l.length) ((ds.getD k default).lc))] 50, RefRep b33 ys most size, F] hs155 (by kernel_rfl) (by kernel_rfl)
                            have hcl159 := law29_first ((ds.getD k default).la) ((ds.getD k default).lc) ((ds.getD k default).l) (by first | assumption | omega) (Ent_ro hel_.2) hs156
                            refine WL.cons rfl (?_)
                            with_reducible refine OP.call [(Value.slice ((ds.getD k default).la) ((ds.getD k default).l.length) ((ds.getD k default).lc))] gf_17 ?_ ?_ hcl159 ?_
                            · exact rfl
                            · decide
                            clear hcl159
                            rintro _ w157 ⟨_, rfl, rfl, hs158⟩
                            refine ⟨_, rfl, ?_⟩
                            have hs160 : sat W0 [blk b150 [(Value.int .i64 ((xs.getD ((findA m (((ds.getD k default).l).headD 0)).toNat) default).sector)), (Value.int .i64 ((xs.getD ((findA m (((ds.getD k default).l).headD 0)).toNat) default).kind)), (Value.slice a_137 ((xs.getD ((findA m (((ds.getD k default).l).headD 0)).toNat) default).data.length) c_138)] 48, BufRep b_21 xs most size, ShD W0 D_139, blk b59 [(Value.int .i64 ((ds.getD k default).kind)), (Value.int .i64 ((ds.getD k default).e.sector)), (Value.int .i64 ((ds.getD k default).e.kind)), (Value.slice ((ds.getD k default).e.da) ((ds.getD k default).e.data.length) ((ds.getD k default).e.dc)), (Value.slice ((ds.getD k default).la) ((ds.getD k default).l.length) ((ds.getD k default).lc))] 50, RefRep b33 ys most size, F] w157 := sat_flat' [] [blk b150 [(Value.int .i64 ((xs.getD ((findA m (((ds.getD k default).l).headD 0)).toNat) default).sector)), (Value.int .i64 ((xs.getD ((findA m (((ds.getD k default).l).headD 0)).toNat) default).kind)), (Value.slice a_137 ((xs.getD ((findA m (((ds.getD k default).l).headD 0)).toNat) default).data.length) c_138)] 48, BufRep b_21 xs most size, ShD W0 D_139, blk b59 [(Value.int .i64 ((ds.getD k default).kind)), (Value.int .i64 ((ds.getD k default).e.sector)), (Value.int .i64 ((ds.getD k default).e.kind)), (Value.slice ((ds.getD k default).e.da) ((ds.getD k default).e.data.length) ((ds.getD k default).e.dc)), (Value.slice ((ds.getD k default).la) ((ds.getD k default).l.length) ((ds.getD k default).lc))] 50, RefRep b33 ys most size, F] hs158 (by kernel_rfl) (by kernel_rfl)
                            have hs161 : sat W0 [RefRep b33 ys most size, blk b150 [(Value.int .i64 ((xs.getD ((findA m (((ds.getD k default).l).headD 0)).toNat) default).sector)), (Value.int .i64 ((xs.getD ((findA m (((ds.getD k default).l).headD 0)).toNat) default).kind)), (Value.slice a_137 ((xs.getD ((findA m (((ds.getD k default).l).headD 0)).toNat) default).data.length) c_138)] 48, BufRep b_21 xs most size, ShD W0 D_139, blk b59 [(Value.int .i64 ((ds.getD k default).kind)), (Value.int .i64 ((ds.getD k default).e.sector)), (Value.int .i64 ((ds.getD k default).e.kind)), (Value.slice ((ds.getD k default).e.da) ((ds.getD k default).e.data.length) ((ds.getD k default).e.dc)), (Value.slice ((ds.getD k default).la) ((ds.getD k default).l.length) ((ds.getD k default).lc))] 50, F] w157 := sat_sel' [4, 0, 1, 2, 3, 5] hs160 (by kernel_rfl) (by kernel_rfl)
                            have hs162 : sat W0 [RefRep b33 ys most size, stars [blk b150 [(Value.int .i64 ((xs.getD ((findA m (((ds.getD k default).l).headD 0)).toNat) default).sector)), (Value.int .i64 ((xs.getD ((findA m (((ds.getD k default).l).headD 0)).toNat) default).kind)), (Value.slice a_137 ((xs.getD ((findA m (((ds.getD k default).l).headD 0)).toNat) default).data.length) c_138)] 48, BufRep b_21 xs most size, ShD W0 D_139, blk b59 [(Value.int .i64 ((ds.getD k default).kind)), (Value.int .i64 ((ds.getD k default).e.sector)), (Value.int .i64 ((ds.getD k default).e.kind)), (Value.slice ((ds.getD k default).e.da) ((ds.getD k default).e.data.length) ((ds.getD k default).e.dc)), (Value.slice ((ds.getD k default).la) ((ds.getD k default).l.length) ((ds.getD k default).lc))] 50, F]] w157 := sat_pack' [RefRep b33 ys most size] [blk b150 [(Value.int .i64 ((xs.getD ((findA m (((ds.getD k default).l).headD 0)).toNat) default).sector)), (Value.int .i64 ((xs.getD ((findA m (((ds.getD k default).l).headD 0)).toNat) default).kind)), (Value.slice a_137 ((xs.getD ((findA m (((ds.getD k default).l).headD 0)).toNat) default).data.length) c_138)] 48, BufRep b_21 xs most size, ShD W0 D_139, blk b59 [(Value.int .i64 ((ds.getD k default).kind)), (Value.int .i64 ((ds.getD k default).e.sector)), (Value.int .i64 ((ds.getD k default).e.kind)), (Value.slice ((ds.getD k default).e.da) ((ds.getD k default).e.data.length) ((ds.getD k default).e.dc)), (Value.slice ((ds.getD k default).la) ((ds.getD k default).l.length) ((ds.getD k default).lc))] 50, F] hs161 (by kernel_rfl) (by kernel_rfl)
                            have hcl165 := Ref_Find b33 ys most size m (((ds.getD k default).l).headD 0) hmr_ (by have h_ := abs_len hmr_; have := hok_.len; have := hok_.big; omega) hs162
                            refine WL.cons rfl (?_)
                            with_reducible refine OP.call [(Value.pointer (some ⟨b33, 0, none⟩)), (Value.int .i64 (((ds.getD k default).l).headD 0))] gf_18 ?_ ?_ hcl165 ?_
                            · exact rfl
                            · decide
                            clear hcl165
                            rintro _ w163 ⟨_, rfl, rfl, hs164⟩
                            refine ⟨_, rfl, ?_⟩
                            have hs166 : sat W0 [RefRep b33 ys most size, blk b150 [(Value.int .i64 ((xs.getD ((findA m (((ds.getD k default).l).headD 0)).toNat) default).sector)), (Value.int .i64 ((xs.getD ((findA m (((ds.getD k default).l).headD 0)).toNat) default).kind)), (Value.slice a_137 ((xs.getD ((findA m (((ds.getD k default).l).headD 0)).toNat) default).data.length) c_138)] 48, BufRep b_21 xs most size, ShD W0 D_139, blk b59 [(Value.int .i64 ((ds.getD k default).kind)), (Value.int .i64 ((ds.getD k default).e.sector)), (Value.int .i64 ((ds.getD k default).e.kind)), (Value.slice ((ds.getD k default).e.da) ((ds.getD k default).e.data.length) ((ds.getD k default).e.dc)), (Value.slice ((ds.getD k default).la) ((ds.getD k default).l.length) ((ds.getD k default).lc))] 50, F] w163 := sat_flat' [RefRep b33 ys most size] [blk b150 [(Value.int .i64 ((xs.getD ((findA m (((ds.getD k default).l).headD 0)).toNat) default).sector)), (Value.int .i64 ((xs.getD ((findA m (((ds.getD k default).l).headD 0)).toNat) default).kind)), (Value.slice a_137 ((xs.getD ((findA m (((ds.getD k default).l).headD 0)).toNat) default).data.length) c_138)] 48, BufRep b_21 xs most size, ShD W0 D_139, blk b59 [(Value.int .i64 ((ds.getD k default).kind)), (Value.int .i64 ((ds.getD k default).e.sector)), (Value.int .i64 ((ds.getD k default).e.kind)), (Value.slice ((ds.getD k default).e.da) ((ds.getD k default).e.data.length) ((ds.getD k default).e.dc)), (Value.slice ((ds.getD k default).la) ((ds.getD k default).l.length) ((ds.getD k default).lc))] 50, F] hs164 (by kernel_rfl) (by kernel_rfl)
                            refine WL.cons rfl (OP.assign (Value.int .i64 (findA m (((ds.getD k default).l).headD 0))) rfl (by decide) ?_)
                            refine WL.nil (Qn.then ?_)
                            have hfr_ := findA_range (m := m) (s := (ds.getD k default).l.headD 0)
                            have hg_ : 0 ≤ findA m ((ds.getD k default).l.headD 0) := of_decide_eq_true hR129
                            obtain ⟨a1_167, c1_168, _, hs169⟩ := RefRep_open hs166
                            have hs170 : sat W0 [blk b33 [(Value.slice a1_167 ys.length c1_168), (Value.int .i64 most), (Value.int .i64 size)] 46, SL false 3 a1_167 ys.length c1_168 (ys.flatMap encB), blk b150 [(Value.int .i64 ((xs.getD ((findA m (((ds.getD k default).l).headD 0)).toNat) default).sector)), (Value.int .i64 ((xs.getD ((findA m (((ds.getD k default).l).headD 0)).toNat) default).kind)), (Value.slice a_137 ((xs.getD ((findA m (((ds.getD k default).l).headD 0)).toNat) default).data.length) c_138)] 48, BufRep b_21 xs most size, ShD W0 D_139, blk b59 [(Value.int .i64 ((ds.getD k default).kind)), (Value.int .i64 ((ds.getD k default).e.sector)), (Value.int .i64 ((ds.getD k default).e.kind)), (Value.slice ((ds.getD k default).e.da) ((ds.getD k default).e.data.length) ((ds.getD k default).e.dc)), (Value.slice ((ds.getD k default).la) ((ds.getD k default).l.length) ((ds.getD k default).lc))] 50, F] w163 := hs169
                            refine W.draw (fun w => sat W0 [blk b33 [(Value.slice a1_167 ys.length c1_168), (Value.int .i64 most), (Value.int .i64 size)] 46, SL false 3 a1_167 ys.length c1_168 (ys.flatMap encB), blk b150 [(Value.int .i64 ((xs.getD ((findA m (((ds.getD k default).l).headD 0)).toNat) default).sector)), (Value.int .i64 ((xs.getD ((findA m (((ds.getD k default).l).headD 0)).toNat) default).kind)), (Value.slice a_137 ((xs.getD ((findA m (((ds.getD k default).l).headD 0)).toNat) default).data.length) c_138)] 48, BufRep b_21 xs most size, ShD W0 D_139, blk b59 [(Value.int .i64 ((ds.getD k default).kind)), (Value.int .i64 ((ds.getD k default).e.sector)), (Value.int .i64 ((ds.getD k default).e.kind)), (Value.slice ((ds.getD k default).e.da) ((ds.getD k default).e.data.length) ((ds.getD k default).e.dc)), (Value.slice ((ds.getD k default).la) ((ds.getD k default).l.length) ((ds.getD k default).lc))] 50, F] w) (by kernel_rfl) hs170 (fun w171 hs172 => ?_)
                            refine WA.take 0 rfl rfl rfl rfl (by kernel_rfl) (by kernel_rfl) (by kernel_rfl) ?_ (by decide) (v := (Value.bool true)) (fun w174 hw173 => OP.move (Value.bool true) rfl (by decide) ⟨rfl, rfl⟩) ?_
                            · exact hs172
                            refine WA.take 1 rfl rfl rfl rfl (by kernel_rfl) (by kernel_rfl) (by kernel_rfl) ?_ (by decide) (v := (Value.int .i64 (findA m (((ds.getD k default).l).headD 0)))) (fun w176 hw175 => OP.move (Value.int .i64 (findA m (((ds.getD k default).l).headD 0))) rfl (by decide) ⟨rfl, rfl⟩) ?_
                            · exact hs172
                            refine WA.take 2 rfl rfl rfl rfl (by kernel_rfl) (by kernel_rfl) (by kernel_rfl) ?_ (by decide) (v := (Value.bool (decide (findA m (((ds.getD k default).l).headD 0) ≥ 0)))) (fun w178 hw177 => OP.geq rfl rfl (by decide) ⟨rfl, rfl⟩) ?_
                            · exact hs172
                            refine WA.take 3 rfl rfl rfl rfl (by kernel_rfl) (by kernel_rfl) (by kernel_rfl) ?_ (by decide) (v := (Value.bool true)) (fun w180 hw179 => OP.eqV (a := .bool true) (b := .bool (decide (findA m (((ds.getD k default).l).headD 0) ≥ 0))) rfl rfl rfl rfl (run_equalB Try.underlying4 _) (by decide) ⟨congrArg (upd _ _) (Eq.trans (b := (Value.bool (true == (decide (findA m (((ds.getD k default).l).headD 0) ≥ 0))))) rfl (congrArg Value.bool (show (true == (decide (findA m (((ds.getD k default).l).headD 0) ≥ 0))) = true from (by rw [show decide (findA m ((ds.getD k default).l.headD 0) ≥ 0) = true from decide_eq_true hg_]; rfl)))), rfl⟩) ?_
                            · exact hs172
                            refine WA.take 4 rfl rfl rfl rfl (by kernel_rfl) (by kernel_rfl) (by kernel_rfl) ?_ (by decide) (v := (Value.bool true)) (fun w182 hw181 => OP.move (Value.bool true) rfl (by decide) ⟨rfl, rfl⟩) ?_
                            · exact hs172
                            refine WA.takeG 5 rfl rfl rfl rfl rfl rfl (by kernel_rfl) (by kernel_rfl) (by kernel_rfl) ?_ (by decide) (v := (Value.bool true)) (fun w184 hw183 => OP.move (Value.bool true) rfl (by decide) ⟨rfl, rfl⟩) ?_
                            · exact hs172
                            refine WA.takeG 6 rfl rfl rfl rfl rfl rfl (by kernel_rfl) (by kernel_rfl) (by kernel_rfl) ?_ (by decide) (v := (Value.bool true)) (fun w186 hw185 => OP.move (Value.bool true) rfl (by decide) ⟨rfl, rfl⟩) ?_
                            · exact hs172
                            refine WA.takeG 7 rfl rfl rfl rfl rfl rfl (by kernel_rfl) (by kernel_rfl) (by kernel_rfl) ?_ (by decide) (v := (Value.agg [(Value.int .i64 ((xs.getD ((findA m (((ds.getD k default).l).headD 0)).toNat) default).sector)), (Value.int .i64 ((xs.getD ((findA m (((ds.getD k default).l).headD 0)).toNat) default).kind)), (Value.slice a_137 ((xs.getD ((findA m (((ds.getD k default).l).headD 0)).toNat) default).data.length) c_138)].toArray)) (fun w188 hw187 => OP.loadA [(Value.int .i64 ((xs.getD ((findA m (((ds.getD k default).l).headD 0)).toNat) default).sector)), (Value.int .i64 ((xs.getD ((findA m (((ds.getD k default).l).headD 0)).toNat) default).kind)), (Value.slice a_137 ((xs.getD ((findA m (((ds.getD k default).l).headD 0)).toNat) default).data.length) c_138)] ag_48 sz_48 rfl (sat_rdn 2 hw187 rfl rfl) (by decide) ⟨rfl, rfl⟩) ?_
                            · exact hs172
                            refine WA.takeG 9 rfl rfl rfl rfl rfl rfl (by kernel_rfl) (by kernel_rfl) (by kernel_rfl) ?_ (by decide) (v := (Value.pointer (some ⟨b33, 0, none⟩))) (fun w190 hw189 => OP.move (Value.pointer (some ⟨b33, 0, none⟩)) he47 (by decide) ⟨rfl, rfl⟩) ?_
                            · exact hs172
                            refine WA.takeG 10 rfl rfl rfl rfl rfl rfl (by kernel_rfl) (by kernel_rfl) (by kernel_rfl) ?_ (by decide) (v := (Value.pointer (some ⟨b33, 0, none⟩))) (fun w192 hw191 => OP.nilCheck rfl (by decide) ⟨rfl, rfl⟩) ?_
                            · exact hs172
                            refine WA.takeG 11 rfl rfl rfl rfl rfl rfl (by kernel_rfl) (by kernel_rfl) (by kernel_rfl) ?_ (by decide) (v := (Value.pointer (some ⟨b33, 0, none⟩))) (fun w194 hw193 => OP.fieldAddr 0 fo_46_0 rfl rfl (by decide) ⟨rfl, rfl⟩) ?_
                            · exact hs172
                            refine WA.takeG 12 rfl rfl rfl rfl rfl rfl (by kernel_rfl) (by kernel_rfl) (by kernel_rfl) ?_ (by decide) (v := (Value.slice a1_167 ys.length c1_168)) (fun w196 hw195 => OP.loadS (Value.slice a1_167 ys.length c1_168) sc_44 rfl (sat_cell 0 hw195 rfl rfl) (by decide) ⟨rfl, rfl⟩) ?_
                            · exact hs172
                            refine WA.takeG 13 rfl rfl rfl rfl rfl rfl (by kernel_rfl) (by kernel_rfl) (by kernel_rfl) ?_ (by decide) (v := (Value.int .i64 (findA m (((ds.getD k default).l).headD 0)))) (fun w198 hw197 => OP.move (Value.int .i64 (findA m (((ds.getD k default).l).headD 0))) rfl (by decide) ⟨rfl, rfl⟩) ?_
                            · exact hs172
                            refine WA.takeG 14 rfl rfl rfl rfl rfl rfl (by kernel_rfl) (by kernel_rfl) (by kernel_rfl) ?_ (by decide) (v := (Value.int .i64 (findA m (((ds.getD k default).l).headD 0)))) (fun w200 hw199 => OP.move (Value.int .i64 (findA m (((ds.getD k default).l).headD 0))) rfl (by decide) ⟨rfl, rfl⟩) ?_
                            · exact hs172
                            refine WA.takeG 15 rfl rfl rfl rfl rfl rfl (by kernel_rfl) (by kernel_rfl) (by kernel_rfl) ?_ (by decide) (v := (Value.int .i64 ((findA m (((ds.getD k default).l).headD 0)) + 1))) (fun w202 hw201 => OP.add ((findA m (((ds.getD k default).l).headD 0)) + 1) rfl rfl (by first | rfl | omega | simp) (by unfold inI64; omega) (by decide) ⟨rfl, rfl⟩) ?_
                            · exact hs172
                            have hnc205 : ys.length ≤ c1_168 := Ent_sat 1 rfl Ent_SLn hs172
                            have hpt206 : ((findA m ((ds.getD k default).l.headD 0)).toNat) ≤ ((findA m ((ds.getD k default).l.headD 0)).toNat + 1) ∧ ((findA m ((ds.getD k default).l.headD 0)).toNat + 1) ≤ ys.length ∧ ys.length ≤ c1_168 := ⟨by omega, (by omega), hnc205⟩
                            have hpl207 : ((ys.drop ((findA m ((ds.getD k default).l.headD 0)).toNat)).take (((findA m ((ds.getD k default).l.headD 0)).toNat + 1) - ((findA m ((ds.getD k default).l.headD 0)).toNat))).length = (((findA m ((ds.getD k default).l.headD 0)).toNat + 1) - ((findA m ((ds.getD k default).l.headD 0)).toNat)) := by rw [List.length_take, List.length_drop]; omega
                            refine WA.takeG 16 rfl rfl rfl rfl rfl rfl (by kernel_rfl) (by kernel_rfl) (by kernel_rfl) ?_ (by decide) (v := (Value.slice (subA a1_167 ((findA m ((ds.getD k default).l.headD 0)).toNat) 3 c1_168) (((ys.drop ((findA m ((ds.getD k default).l.headD 0)).toNat)).take (((findA m ((ds.getD k default).l.headD 0)).toNat + 1) - ((findA m ((ds.getD k default).l.headD 0)).toNat))).length) (c1_168 - ((findA m ((ds.getD k default).l.headD 0)).toNat)))) (fun w204 hw203 => OP.slice2 ((findA m ((ds.getD k default).l.headD 0)).toNat) ((findA m ((ds.getD k default).l.headD 0)).toNat + 1) Try.underlying44 sz_48 rfl ⟨_, (Eq.trans (b := (Value.int .i64 (findA m (((ds.getD k default).l).headD 0)))) rfl (congrArg (Value.int .i64) (by omega)))⟩ ⟨_, (Eq.trans (b := (Value.int .i64 ((findA m (((ds.getD k default).l).headD 0)) + 1))) rfl (congrArg (Value.int .i64) (by omega)))⟩ hpt206.1 hpt206.2.2 (Nat.le_trans hpt206.2.1 hpt206.2.2) (by decide) ⟨congrArg (upd _ _) (congrArg (fun n_ : Nat => Value.slice (subA a1_167 ((findA m ((ds.getD k default).l.headD 0)).toNat) 3 c1_168) n_ (c1_168 - ((findA m ((ds.getD k default).l.headD 0)).toNat))) hpl207.symm), rfl⟩) ?_
                            · exact hs172
                            refine WA.all [8] (by kernel_rfl) (by simp) ?_
                            refine WAs.consG (oi := (Go.Oper.mk (some 107) (Go.Op.buildSlice 44 1 #[(0, (Go.Operand.tmp 106))]) 44 "law.go:65" #[(Go.Edge.mk 7 Go.Ground.data), (Go.Edge.mk 6 Go.Ground.guard)] (some (6, true)))) rfl rfl rfl rfl ?_ ?_
                            · refine OP.buildSlice (el := 48) [(0, (Value.agg [(Value.int .i64 ((xs.getD ((findA m (((ds.getD k default).l).headD 0)).toNat) default).sector)), (Value.int .i64 ((xs.getD ((findA m (((ds.getD k default).l).headD 0)).toNat) default).kind)), (Value.slice a_137 ((xs.getD ((findA m (((ds.getD k default).l).headD 0)).toNat) default).data.length) c_138)].toArray))] [(Value.int .i64 ((xs.getD ((findA m (((ds.getD k default).l).headD 0)).toNat) default).sector)), (Value.int .i64 ((xs.getD ((findA m (((ds.getD k default).l).headD 0)).toNat) default).kind)), (Value.slice a_137 ((xs.getD ((findA m (((ds.getD k default).l).headD 0)).toNat) default).data.length) c_138)] hs172 rfl (fun _ => by kernel_rfl) (by decide) (fun b208 w209 hs210 => ?_)
                              have hs211 : sat W0 [SL false 3 (some ⟨b208, 0, none⟩) 1 1 ([(Value.int .i64 ((xs.getD ((findA m (((ds.getD k default).l).headD 0)).toNat) default).sector)), (Value.int .i64 ((xs.getD ((findA m (((ds.getD k default).l).headD 0)).toNat) default).kind)), (Value.slice a_137 ((xs.getD ((findA m (((ds.getD k default).l).headD 0)).toNat) default).data.length) c_138)]), blk b33 [(Value.slice a1_167 ys.length c1_168), (Value.int .i64 most), (Value.int .i64 size)] 46, SL false 3 a1_167 ys.length c1_168 (ys.flatMap encB), blk b150 [(Value.int .i64 ((xs.getD ((findA m (((ds.getD k default).l).headD 0)).toNat) default).sector)), (Value.int .i64 ((xs.getD ((findA m (((ds.getD k default).l).headD 0)).toNat) default).kind)), (Value.slice a_137 ((xs.getD ((findA m (((ds.getD k default).l).headD 0)).toNat) default).data.length) c_138)] 48, BufRep b_21 xs most size, ShD W0 D_139, blk b59 [(Value.int .i64 ((ds.getD k default).kind)), (Value.int .i64 ((ds.getD k default).e.sector)), (Value.int .i64 ((ds.getD k default).e.kind)), (Value.slice ((ds.getD k default).e.da) ((ds.getD k default).e.data.length) ((ds.getD k default).e.dc)), (Value.slice ((ds.getD k default).la) ((ds.getD k default).l.length) ((ds.getD k default).lc))] 50, F] w209 := sat_SL_blk rfl hs210
                              have hs212 : sat W0 [SL false 3 (some ⟨b208, 0, none⟩) ([(⟨(xs.getD (findA m ((ds.getD k default).l.headD 0)).toNat default).sector, (xs.getD (findA m ((ds.getD k default).l.headD 0)).toNat default).kind, a_137, c_138, (xs.getD (findA m ((ds.getD k default).l.headD 0)).toNat default).data⟩ : BEnt)].length) 1 (([(⟨(xs.getD (findA m ((ds.getD k default).l.headD 0)).toNat default).sector, (xs.getD (findA m ((ds.getD k default).l.headD 0)).toNat default).kind, a_137, c_138, (xs.getD (findA m ((ds.getD k default).l.headD 0)).toNat default).data⟩ : BEnt)]).flatMap encB), blk b33 [(Value.slice a1_167 ys.length c1_168), (Value.int .i64 most), (Value.int .i64 size)] 46, SL false 3 a1_167 ys.length c1_168 (ys.flatMap encB), blk b150 [(Value.int .i64 ((xs.getD ((findA m (((ds.getD k default).l).headD 0)).toNat) default).sector)), (Value.int .i64 ((xs.getD ((findA m (((ds.getD k default).l).headD 0)).toNat) default).kind)), (Value.slice a_137 ((xs.getD ((findA m (((ds.getD k default).l).headD 0)).toNat) default).data.length) c_138)] 48, BufRep b_21 xs most size, ShD W0 D_139, blk b59 [(Value.int .i64 ((ds.getD k default).kind)), (Value.int .i64 ((ds.getD k default).e.sector)), (Value.int .i64 ((ds.getD k default).e.kind)), (Value.slice ((ds.getD k default).e.da) ((ds.getD k default).e.data.length) ((ds.getD k default).e.dc)), (Value.slice ((ds.getD k default).la) ((ds.getD k default).l.length) ((ds.getD k default).lc))] 50, F] w209 := hs211
                              refine ⟨?_, ?_⟩
                              · exact sat_sub' [1, 2, 3, 4, 5, 6, 7] [0] hs212 (by kernel_rfl) (by kernel_rfl)
                              refine WA.all [17] (by kernel_rfl) (by simp) ?_
                              refine WAs.consG (oi := (Go.Oper.mk (some 116) (Go.Op.call (Go.Call.mk (Go.Callee.value (Go.Operand.func 19)) #[(Go.Operand.tmp 107), (Go.Operand.tmp 115)] #[44, 44])) 4 "law.go:65" #[(Go.Edge.mk 8 Go.Ground.data), (Go.Edge.mk 16 Go.Ground.data), (Go.Edge.mk 6 Go.Ground.chain), (Go.Edge.mk 6 Go.Ground.guard)] (some (6, true)))) rfl rfl rfl rfl ?_ ?_
                              · have hs213 : sat W0 [ShD W0 D_139, SL false 3 (some ⟨b208, 0, none⟩) ([(⟨(xs.getD (findA m ((ds.getD k default).l.headD 0)).toNat default).sector, (xs.getD (findA m ((ds.getD k default).l.headD 0)).toNat default).kind, a_137, c_138, (xs.getD (findA m ((ds.getD k default).l.headD 0)).toNat default).data⟩ : BEnt)].length) 1 (([(⟨(xs.getD (findA m ((ds.getD k default).l.headD 0)).toNat default).sector, (xs.getD (findA m ((ds.getD k default).l.headD 0)).toNat default).kind, a_137, c_138, (xs.getD (findA m ((ds.getD k default).l.headD 0)).toNat default).data⟩ : BEnt)]).flatMap encB), blk b33 [(Value.slice a1_167 ys.length c1_168), (Value.int .i64 most), (Value.int .i64 size)] 46, SL false 3 a1_167 ys.length c1_168 (ys.flatMap encB), blk b150 [(Value.int .i64 ((xs.getD ((findA m (((ds.getD k default).l).headD 0)).toNat) default).sector)), (Value.int .i64 ((xs.getD ((findA m (((ds.getD k default).l).headD 0)).toNat) default).kind)), (Value.slice a_137 ((xs.getD ((findA m (((ds.getD k default).l).headD 0)).toNat) default).data.length) c_138)] 48, BufRep b_21 xs most size, blk b59 [(Value.int .i64 ((ds.getD k default).kind)), (Value.int .i64 ((ds.getD k default).e.sector)), (Value.int .i64 ((ds.getD k default).e.kind)), (Value.slice ((ds.getD k default).e.da) ((ds.getD k default).e.data.length) ((ds.getD k default).e.dc)), (Value.slice ((ds.getD k default).la) ((ds.getD k default).l.length) ((ds.getD k default).lc))] 50, F] w209 := sat_sel' [5, 0, 1, 2, 3, 4, 6, 7] hs212 (by kernel_rfl) (by kernel_rfl)
                                have hs214 : sat W0 [ShD W0 D_139, stars [SL false 3 (some ⟨b208, 0, none⟩) ([(⟨(xs.getD (findA m ((ds.getD k default).l.headD 0)).toNat default).sector, (xs.getD (findA m ((ds.getD k default).l.headD 0)).toNat default).kind, a_137, c_138, (xs.getD (findA m ((ds.getD k default).l.headD 0)).toNat default).data⟩ : BEnt)].length) 1 (([(⟨(xs.getD (findA m ((ds.getD k default).l.headD 0)).toNat default).sector, (xs.getD (findA m ((ds.getD k default).l.headD 0)).toNat default).kind, a_137, c_138, (xs.getD (findA m ((ds.getD k default).l.headD 0)).toNat default).data⟩ : BEnt)]).flatMap encB), blk b33 [(Value.slice a1_167 ys.length c1_168), (Value.int .i64 most), (Value.int .i64 size)] 46, SL false 3 a1_167 ys.length c1_168 (ys.flatMap encB), blk b150 [(Value.int .i64 ((xs.getD ((findA m (((ds.getD k default).l).headD 0)).toNat) default).sector)), (Value.int .i64 ((xs.getD ((findA m (((ds.getD k default).l).headD 0)).toNat) default).kind)), (Value.slice a_137 ((xs.getD ((findA m (((ds.getD k default).l).headD 0)).toNat) default).data.length) c_138)] 48, BufRep b_21 xs most size, blk b59 [(Value.int .i64 ((ds.getD k default).kind)), (Value.int .i64 ((ds.getD k default).e.sector)), (Value.int .i64 ((ds.getD k default).e.kind)), (Value.slice ((ds.getD k default).e.da) ((ds.getD k default).e.data.length) ((ds.getD k default).e.dc)), (Value.slice ((ds.getD k default).la) ((ds.getD k default).l.length) ((ds.getD k default).lc))] 50, F]] w209 := sat_pack' [ShD W0 D_139] [SL false 3 (some ⟨b208, 0, none⟩) ([(⟨(xs.getD (findA m ((ds.getD k default).l.headD 0)).toNat default).sector, (xs.getD (findA m ((ds.getD k default).l.headD 0)).toNat default).kind, a_137, c_138, (xs.getD (findA m ((ds.getD k default).l.headD 0)).toNat default).data⟩ : BEnt)].length) 1 (([(⟨(xs.getD (findA m ((ds.getD k default).l.headD 0)).toNat default).sector, (xs.getD (findA m ((ds.getD k default).l.headD 0)).toNat default).kind, a_137, c_138, (xs.getD (findA m ((ds.getD k default).l.headD 0)).toNat default).data⟩ : BEnt)]).flatMap encB), blk b33 [(Value.slice a1_167 ys.length c1_168), (Value.int .i64 most), (Value.int .i64 size)] 46, SL false 3 a1_167 ys.length c1_168 (ys.flatMap encB), blk b150 [(Value.int .i64 ((xs.getD ((findA m (((ds.getD k default).l).headD 0)).toNat) default).sector)), (Value.int .i64 ((xs.getD ((findA m (((ds.getD k default).l).headD 0)).toNat) default).kind)), (Value.slice a_137 ((xs.getD ((findA m (((ds.getD k default).l).headD 0)).toNat) default).data.length) c_138)] 48, BufRep b_21 xs most size, blk b59 [(Value.int .i64 ((ds.getD k default).kind)), (Value.int .i64 ((ds.getD k default).e.sector)), (Value.int .i64 ((ds.getD k default).e.kind)), (Value.slice ((ds.getD k default).e.da) ((ds.getD k default).e.data.length) ((ds.getD k default).e.dc)), (Value.slice ((ds.getD k default).la) ((ds.getD k default).l.length) ((ds.getD k default).lc))] 50, F] hs213 (by kernel_rfl) (by kernel_rfl)
                                have hcl217 := ref29_Same (some ⟨b208, 0, none⟩) 1 ([(⟨(xs.getD (findA m ((ds.getD k default).l.headD 0)).toNat default).sector, (xs.getD (findA m ((ds.getD k default).l.headD 0)).toNat default).kind, a_137, c_138, (xs.getD (findA m ((ds.getD k default).l.headD 0)).toNat default).data⟩ : BEnt)]) (subA a1_167 ((findA m ((ds.getD k default).l.headD 0)).toNat) 3 c1_168) (c1_168 - ((findA m ((ds.getD k default).l.headD 0)).toNat)) ((ys.drop (findA m ((ds.getD k default).l.headD 0)).toNat).take (((findA m ((ds.getD k default).l.headD 0)).toNat + 1) - (findA m ((ds.getD k default).l.headD 0)).toNat)) D_139 (by simp) (by omega) (InD.one hq143) (InD.part hm148) (lens_one (Nat.le_trans (abs_datl hm_ hok_.dat (xs.getD (findA m ((ds.getD k default).l.headD 0)).toNat default) (getD_mem (by omega))) (by decide))) (lens_part (fun x_ hx_ => Nat.le_trans (abs_datl hmr_ hok_.dat x_ hx_) (by decide))) (Ent_stars 0 rfl Ent_SL) (fun w_ k_ => (Rd.subR (enc := encB) (fun _ => rfl) ((findA m ((ds.getD k default).l.headD 0)).toNat) ((findA m ((ds.getD k default).l.headD 0)).toNat + 1) ((Ent_stars 2 rfl Ent_SL) w_ k_) hpt206.1 hpt206.2.1 hpt206.2.2)) hs214
                                refine ?_
                                with_reducible refine OP.call [(Value.slice (some ⟨b208, 0, none⟩) ([(⟨(xs.getD (findA m ((ds.getD k default).l.headD 0)).toNat default).sector, (xs.getD (findA m ((ds.getD k default).l.headD 0)).toNat default).kind, a_137, c_138, (xs.getD (findA m ((ds.getD k default).l.headD 0)).toNat default).data⟩ : BEnt)].length) 1), (Value.slice (subA a1_167 ((findA m ((ds.getD k default).l.headD 0)).toNat) 3 c1_168) (((ys.drop ((findA m ((ds.getD k default).l.headD 0)).toNat)).take (((findA m ((ds.getD k default).l.headD 0)).toNat + 1) - ((findA m ((ds.getD k default).l.headD 0)).toNat))).length) (c1_168 - ((findA m ((ds.getD k default).l.headD 0)).toNat)))] gf_19 ?_ ?_ hcl217 ?_
                                · exact rfl
                                · decide
                                clear hcl217
                                rintro _ w215 ⟨_, rfl, rfl, hs216⟩
                                refine ⟨_, rfl, ?_⟩
                                have hs218 : sat W0 [ShD W0 D_139, SL false 3 (some ⟨b208, 0, none⟩) ([(⟨(xs.getD (findA m ((ds.getD k default).l.headD 0)).toNat default).sector, (xs.getD (findA m ((ds.getD k default).l.headD 0)).toNat default).kind, a_137, c_138, (xs.getD (findA m ((ds.getD k default).l.headD 0)).toNat default).data⟩ : BEnt)].length) 1 (([(⟨(xs.getD (findA m ((ds.getD k default).l.headD 0)).toNat default).sector, (xs.getD (findA m ((ds.getD k default).l.headD 0)).toNat default).kind, a_137, c_138, (xs.getD (findA m ((ds.getD k default).l.headD 0)).toNat default).data⟩ : BEnt)]).flatMap encB), blk b33 [(Value.slice a1_167 ys.length c1_168), (Value.int .i64 most), (Value.int .i64 size)] 46, SL false 3 a1_167 ys.length c1_168 (ys.flatMap encB), blk b150 [(Value.int .i64 ((xs.getD ((findA m (((ds.getD k default).l).headD 0)).toNat) default).sector)), (Value.int .i64 ((xs.getD ((findA m (((ds.getD k default).l).headD 0)).toNat) default).kind)), (Value.slice a_137 ((xs.getD ((findA m (((ds.getD k default).l).headD 0)).toNat) default).data.length) c_138)] 48, BufRep b_21 xs most size, blk b59 [(Value.int .i64 ((ds.getD k default).kind)), (Value.int .i64 ((ds.getD k default).e.sector)), (Value.int .i64 ((ds.getD k default).e.kind)), (Value.slice ((ds.getD k default).e.da) ((ds.getD k default).e.data.length) ((ds.getD k default).e.dc)), (Value.slice ((ds.getD k default).la) ((ds.getD k default).l.length) ((ds.getD k default).lc))] 50, F] w215 := sat_flat' [ShD W0 D_139] [SL false 3 (some ⟨b208, 0, none⟩) ([(⟨(xs.getD (findA m ((ds.getD k default).l.headD 0)).toNat default).sector, (xs.getD (findA m ((ds.getD k default).l.headD 0)).toNat default).kind, a_137, c_138, (xs.getD (findA m ((ds.getD k default).l.headD 0)).toNat default).data⟩ : BEnt)].length) 1 (([(⟨(xs.getD (findA m ((ds.getD k default).l.headD 0)).toNat default).sector, (xs.getD (findA m ((ds.getD k default).l.headD 0)).toNat default).kind, a_137, c_138, (xs.getD (findA m ((ds.getD k default).l.headD 0)).toNat default).data⟩ : BEnt)]).flatMap encB), blk b33 [(Value.slice a1_167 ys.length c1_168), (Value.int .i64 most), (Value.int .i64 size)] 46, SL false 3 a1_167 ys.length c1_168 (ys.flatMap encB), blk b150 [(Value.int .i64 ((xs.getD ((findA m (((ds.getD k default).l).headD 0)).toNat) default).sector)), (Value.int .i64 ((xs.getD ((findA m (((ds.getD k default).l).headD 0)).toNat) default).kind)), (Value.slice a_137 ((xs.getD ((findA m (((ds.getD k default).l).headD 0)).toNat) default).data.length) c_138)] 48, BufRep b_21 xs most size, blk b59 [(Value.int .i64 ((ds.getD k default).kind)), (Value.int .i64 ((ds.getD k default).e.sector)), (Value.int .i64 ((ds.getD k default).e.kind)), (Value.slice ((ds.getD k default).e.da) ((ds.getD k default).e.data.length) ((ds.getD k default).e.dc)), (Value.slice ((ds.getD k default).la) ((ds.getD k default).l.length) ((ds.getD k default).lc))] 50, F] hs216 (by kernel_rfl) (by kernel_rfl)
                                refine ⟨?_, ?_⟩
                                · exact sat_sub' [2, 3, 4, 5, 0, 6, 7] [1] hs218 (by kernel_rfl) (by kernel_rfl)
                                refine WA.takeG 18 rfl rfl rfl rfl rfl rfl (by kernel_rfl) (by kernel_rfl) (by kernel_rfl) ?_ (by decide) (v := (Value.bool true)) (fun w220 hw219 => OP.pickT (Value.bool true) rfl (Eq.trans (b := (Value.bool (decide (([(⟨(xs.getD (findA m ((ds.getD k default).l.headD 0)).toNat default).sector, (xs.getD (findA m ((ds.getD k default).l.headD 0)).toNat default).kind, a_137, c_138, (xs.getD (findA m ((ds.getD k default).l.headD 0)).toNat default).data⟩ : BEnt)]).map absB = ((ys.drop (findA m ((ds.getD k default).l.headD 0)).toNat).take (((findA m ((ds.getD k default).l.headD 0)).toNat + 1) - (findA m ((ds.getD k default).l.headD 0)).toNat)).map absB)))) rfl (congrArg Value.bool (show decide (([(⟨(xs.getD (findA m ((ds.getD k default).l.headD 0)).toNat default).sector, (xs.getD (findA m ((ds.getD k default).l.headD 0)).toNat default).kind, a_137, c_138, (xs.getD (findA m ((ds.getD k default).l.headD 0)).toNat default).data⟩ : BEnt)]).map absB = ((ys.drop (findA m ((ds.getD k default).l.headD 0)).toNat).take (((findA m ((ds.getD k default).l.headD 0)).toNat + 1) - (findA m ((ds.getD k default).l.headD 0)).toNat)).map absB) = true from (decide_eq_true (get_same hm_ hmr_ (by omega) rfl))))) (by decide) ⟨rfl, rfl⟩) ?_
                                · exact sat_sub' [2, 3, 4, 5, 0, 6, 7] [1] hs218 (by kernel_rfl) (by kernel_rfl)
                                refine WA.takeG 19 rfl rfl rfl rfl rfl rfl (by kernel_rfl) (by kernel_rfl) (by kernel_rfl) ?_ (by decide) (v := (Value.bool true)) (fun w222 hw221 => OP.move (Value.bool true) rfl (by decide) ⟨rfl, rfl⟩) ?_
                                · exact sat_sub' [2, 3, 4, 5, 0, 6, 7] [1] hs218 (by kernel_rfl) (by kernel_rfl)
                                refine WA.passG 20 rfl rfl rfl rfl rfl rfl (by kernel_rfl) (by kernel_rfl) (by kernel_rfl) ?_ (by decide) ?_
                                · exact sat_sub' [2, 3, 4, 5, 0, 6, 7] [1] hs218 (by kernel_rfl) (by kernel_rfl)
                                refine WA.passG 21 rfl rfl rfl rfl rfl rfl (by kernel_rfl) (by kernel_rfl) (by kernel_rfl) ?_ (by decide) ?_
                                · exact sat_sub' [2, 3, 4, 5, 0, 6, 7] [1] hs218 (by kernel_rfl) (by kernel_rfl)
                                refine WA.passG 22 rfl rfl rfl rfl rfl rfl (by kernel_rfl) (by kernel_rfl) (by kernel_rfl) ?_ (by decide) ?_
                                · exact sat_sub' [2, 3, 4, 5, 0, 6, 7] [1] hs218 (by kernel_rfl) (by kernel_rfl)
                                refine WA.passU 23 rfl rfl rfl rfl rfl (by kernel_rfl) (by kernel_rfl) (by kernel_rfl) ?_ (by decide) ?_
                                · exact sat_sub' [2, 3, 4, 5, 0, 6, 7] [1] hs218 (by kernel_rfl) (by kernel_rfl)
                                refine WA.passU 24 rfl rfl rfl rfl rfl (by kernel_rfl) (by kernel_rfl) (by kernel_rfl) ?_ (by decide) ?_
                                · exact sat_sub' [2, 3, 4, 5, 0, 6, 7] [1] hs218 (by kernel_rfl) (by kernel_rfl)
                                refine WA.passU 25 rfl rfl rfl rfl rfl (by kernel_rfl) (by kernel_rfl) (by kernel_rfl) ?_ (by decide) ?_
                                · exact sat_sub' [2, 3, 4, 5, 0, 6, 7] [1] hs218 (by kernel_rfl) (by kernel_rfl)
                                refine WA.passU 26 rfl rfl rfl rfl rfl (by kernel_rfl) (by kernel_rfl) (by kernel_rfl) ?_ (by decide) ?_
                                · exact sat_sub' [2, 3, 4, 5, 0, 6, 7] [1] hs218 (by kernel_rfl) (by kernel_rfl)
                                refine WA.passU 27 rfl rfl rfl rfl rfl (by kernel_rfl) (by kernel_rfl) (by kernel_rfl) ?_ (by decide) ?_
                                · exact sat_sub' [2, 3, 4, 5, 0, 6, 7] [1] hs218 (by kernel_rfl) (by kernel_rfl)
                                refine WA.passG 28 rfl rfl rfl rfl rfl rfl (by kernel_rfl) (by kernel_rfl) (by kernel_rfl) ?_ (by decide) ?_
                                · exact sat_sub' [2, 3, 4, 5, 0, 6, 7] [1] hs218 (by kernel_rfl) (by kernel_rfl)
                                refine WA.takeG 29 rfl rfl rfl rfl rfl rfl (by kernel_rfl) (by kernel_rfl) (by kernel_rfl) ?_ (by decide) (v := (Value.bool true)) (fun w224 hw223 => OP.pickT (Value.bool true) rfl rfl (by decide) ⟨rfl, rfl⟩) ?_
                                · exact sat_sub' [2, 3, 4, 5, 0, 6, 7] [1] hs218 (by kernel_rfl) (by kernel_rfl)
                                refine WA.take 30 rfl rfl rfl rfl (by kernel_rfl) (by kernel_rfl) (by kernel_rfl) ?_ (by decide) (v := (Value.bool true)) (fun w226 hw225 => OP.pickT (Value.bool true) rfl rfl (by decide) ⟨rfl, rfl⟩) ?_
                                · exact sat_sub' [2, 3, 4, 5, 0, 6, 7] [1] hs218 (by kernel_rfl) (by kernel_rfl)
                                refine WA.take 31 rfl rfl rfl rfl (by kernel_rfl) (by kernel_rfl) (by kernel_rfl) ?_ (by decide) (v := (Value.bool true)) (fun w228 hw227 => OP.assign (Value.bool true) rfl (by decide) ⟨rfl, rfl⟩) ?_
                                · exact sat_sub' [2, 3, 4, 5, 0, 6, 7] [1] hs218 (by kernel_rfl) (by kernel_rfl)
                                refine WA.done (by kernel_rfl) ?_
                                refine (Qn.blk (Qn.then ?_))
                                have hs229 : sat W0 [blk b33 [(Value.slice a1_167 ys.length c1_168), (Value.int .i64 most), (Value.int .i64 size)] 46, SL false 3 a1_167 ys.length c1_168 (ys.flatMap encB), ShD W0 D_139, SL false 3 (some ⟨b208, 0, none⟩) ([(⟨(xs.getD (findA m ((ds.getD k default).l.headD 0)).toNat default).sector, (xs.getD (findA m ((ds.getD k default).l.headD 0)).toNat default).kind, a_137, c_138, (xs.getD (findA m ((ds.getD k default).l.headD 0)).toNat default).data⟩ : BEnt)].length) 1 (([(⟨(xs.getD (findA m ((ds.getD k default).l.headD 0)).toNat default).sector, (xs.getD (findA m ((ds.getD k default).l.headD 0)).toNat default).kind, a_137, c_138, (xs.getD (findA m ((ds.getD k default).l.headD 0)).toNat default).data⟩ : BEnt)]).flatMap encB), blk b150 [(Value.int .i64 ((xs.getD ((findA m (((ds.getD k default).l).headD 0)).toNat) default).sector)), (Value.int .i64 ((xs.getD ((findA m (((ds.getD k default).l).headD 0)).toNat) default).kind)), (Value.slice a_137 ((xs.getD ((findA m (((ds.getD k default).l).headD 0)).toNat) default).data.length) c_138)] 48, BufRep b_21 xs most size, blk b59 [(Value.int .i64 ((ds.getD k default).kind)), (Value.int .i64 ((ds.getD k default).e.sector)), (Value.int .i64 ((ds.getD k default).e.kind)), (Value.slice ((ds.getD k default).e.da) ((ds.getD k default).e.data.length) ((ds.getD k default).e.dc)), (Value.slice ((ds.getD k default).la) ((ds.getD k default).l.length) ((ds.getD k default).lc))] 50, F] w215 := sat_sel' [2, 3, 0, 1, 4, 5, 6, 7] hs218 (by kernel_rfl) (by kernel_rfl)
                                have hs230 : sat W0 [RefRep b33 ys most size, ShD W0 D_139, SL false 3 (some ⟨b208, 0, none⟩) ([(⟨(xs.getD (findA m ((ds.getD k default).l.headD 0)).toNat default).sector, (xs.getD (findA m ((ds.getD k default).l.headD 0)).toNat default).kind, a_137, c_138, (xs.getD (findA m ((ds.getD k default).l.headD 0)).toNat default).data⟩ : BEnt)].length) 1 (([(⟨(xs.getD (findA m ((ds.getD k default).l.headD 0)).toNat default).sector, (xs.getD (findA m ((ds.getD k default).l.headD 0)).toNat default).kind, a_137, c_138, (xs.getD (findA m ((ds.getD k default).l.headD 0)).toNat default).data⟩ : BEnt)]).flatMap encB), blk b150 [(Value.int .i64 ((xs.getD ((findA m (((ds.getD k default).l).headD 0)).toNat) default).sector)), (Value.int .i64 ((xs.getD ((findA m (((ds.getD k default).l).headD 0)).toNat) default).kind)), (Value.slice a_137 ((xs.getD ((findA m (((ds.getD k default).l).headD 0)).toNat) default).data.length) c_138)] 48, BufRep b_21 xs most size, blk b59 [(Value.int .i64 ((ds.getD k default).kind)), (Value.int .i64 ((ds.getD k default).e.sector)), (Value.int .i64 ((ds.getD k default).e.kind)), (Value.slice ((ds.getD k default).e.da) ((ds.getD k default).e.data.length) ((ds.getD k default).e.dc)), (Value.slice ((ds.getD k default).la) ((ds.getD k default).l.length) ((ds.getD k default).lc))] 50, F] w215 := RefRep_close a1_167 c1_168 trivial hs229
                                have hs231 : sat W0 [ShD W0 D_139, RefRep b33 ys most size, BufRep b_21 xs most size, F] w215 := sat_sub' [1, 0, 4, 6] [2, 3, 5] hs230 (by kernel_rfl) (by kernel_rfl)
                                exact ⟨m, xs, ys, D_139, he45, he46, he47, rfl, rfl, he48, he49, he50, rfl, rfl, rfl, rfl, rfl, rfl, rfl, rfl, (Eq.trans (b := .bool (decide ((((ds.getD k default).e.data.length : Nat) : Int) > 200))) rfl (congrArg Value.bool (decide_eq_false hc65))), rfl, rfl, rfl, rfl, rfl, hok_, hm_, hmr_, hm147, hm148, hd149, hs231⟩
                              exact WAs.nil
                            exact WAs.nil
                          · refine W.region ?_
                            refine WL.cons rfl (OP.move (Value.pointer (some ⟨b_21, 0, none⟩)) he46 (by decide) ?_)
                            refine WL.cons rfl (OP.fieldAddr 4 fo_50_2 rfl rfl (by decide) ?_)
                            refine WL.cons rfl (OP.loadS (Value.slice ((ds.getD k default).la) ((ds.getD k default).l.length) ((ds.getD k default).lc)) sc_22 rfl (sat_cell 0 hs64 rfl rfl) (by decide) ?_)
                            have hs232 : sat W0 [stars [blk b59 [(Value.int .i64 ((ds.getD k default).kind)), (Value.int .i64 ((ds.getD k default).e.sector)), (Value.int .i64 ((ds.getD k default).e.kind)), (Value.slice ((ds.getD k default).e.da) ((ds.getD k default).e.data.length) ((ds.getD k default).e.dc)), (Value.slice ((ds.getD k default).la) ((ds.getD k default).l.length) ((ds.getD k default).lc))] 50, ShD W0 D, RefRep b33 ys most size, BufRep b_21 xs most size, F]] w62 := sat_pack' [] [blk b59 [(Value.int .i64 ((ds.getD k default).kind)), (Value.int .i64 ((ds.getD k default).e.sector)), (Value.int .i64 ((ds.getD k default).e.kind)), (Value.slice ((ds.getD k default).e.da) ((ds.getD k default).e.data.length) ((ds.getD k default).e.dc)), (Value.slice ((ds.getD k default).la) ((ds.getD k default).l.length) ((ds.getD k default).lc))] 50, ShD W0 D, RefRep b33 ys most size, BufRep b_21 xs most size, F] hs64 (by kernel_rfl) (by kernel_rfl)
                            have hcl235 := law29_first ((ds.getD k default).la) ((ds.getD k default).lc) ((ds.getD k default).l) (by first | assumption | omega) (Ent_ro hel_.2) hs232
                            refine WL.cons rfl (?_)
                            with_reducible refine OP.call [(Value.slice ((ds.getD k default).la) ((ds.getD k default).l.length) ((ds.getD k default).lc))] gf_17 ?_ ?_ hcl235 ?_
                            · exact rfl
                            · decide
                            clear hcl235
                            rintro _ w233 ⟨_, rfl, rfl, hs234⟩
                            refine ⟨_, rfl, ?_⟩
                            have hs236 : sat W0 [blk b59 [(Value.int .i64 ((ds.getD k default).kind)), (Value.int .i64 ((ds.getD k default).e.sector)), (Value.int .i64 ((ds.getD k default).e.kind)), (Value.slice ((ds.getD k default).e.da) ((ds.getD k default).e.data.length) ((ds.getD k default).e.dc)), (Value.slice ((ds.getD k default).la) ((ds.getD k default).l.length) ((ds.getD k default).lc))] 50, ShD W0 D, RefRep b33 ys most size, BufRep b_21 xs most size, F] w233 := sat_flat' [] [blk b59 [(Value.int .i64 ((ds.getD k default).kind)), (Value.int .i64 ((ds.getD k default).e.sector)), (Value.int .i64 ((ds.getD k default).e.kind)), (Value.slice ((ds.getD k default).e.da) ((ds.getD k default).e.data.length) ((ds.getD k default).e.dc)), (Value.slice ((ds.getD k default).la) ((ds.getD k default).l.length) ((ds.getD k default).lc))] 50, ShD W0 D, RefRep b33 ys most size, BufRep b_21 xs most size, F] hs234 (by kernel_rfl) (by kernel_rfl)
                            have hs237 : sat W0 [BufRep b_21 xs most size, blk b59 [(Value.int .i64 ((ds.getD k default).kind)), (Value.int .i64 ((ds.getD k default).e.sector)), (Value.int .i64 ((ds.getD k default).e.kind)), (Value.slice ((ds.getD k default).e.da) ((ds.getD k default).e.data.length) ((ds.getD k default).e.dc)), (Value.slice ((ds.getD k default).la) ((ds.getD k default).l.length) ((ds.getD k default).lc))] 50, ShD W0 D, RefRep b33 ys most size, F] w233 := sat_sel' [3, 0, 1, 2, 4] hs236 (by kernel_rfl) (by kernel_rfl)
                            have hs238 : sat W0 [BufRep b_21 xs most size, stars [blk b59 [(Value.int .i64 ((ds.getD k default).kind)), (Value.int .i64 ((ds.getD k default).e.sector)), (Value.int .i64 ((ds.getD k default).e.kind)), (Value.slice ((ds.getD k default).e.da) ((ds.getD k default).e.data.length) ((ds.getD k default).e.dc)), (Value.slice ((ds.getD k default).la) ((ds.getD k default).l.length) ((ds.getD k default).lc))] 50, ShD W0 D, RefRep b33 ys most size, F]] w233 := sat_pack' [BufRep b_21 xs most size] [blk b59 [(Value.int .i64 ((ds.getD k default).kind)), (Value.int .i64 ((ds.getD k default).e.sector)), (Value.int .i64 ((ds.getD k default).e.kind)), (Value.slice ((ds.getD k default).e.da) ((ds.getD k default).e.data.length) ((ds.getD k default).e.dc)), (Value.slice ((ds.getD k default).la) ((ds.getD k default).l.length) ((ds.getD k default).lc))] 50, ShD W0 D, RefRep b33 ys most size, F] hs237 (by kernel_rfl) (by kernel_rfl)
                            have hcl241 := Buffer_Get_none b_21 xs most size m (((ds.getD k default).l).headD 0) hm_ (by have h_ := abs_len hm_; have := hok_.len; have := hok_.big; omega) hok_.pos (by have := of_decide_eq_false hR129; omega) hs238
                            refine WL.cons rfl (?_)
                            with_reducible refine OP.call [(Value.pointer (some ⟨b_21, 0, none⟩)), (Value.int .i64 (((ds.getD k default).l).headD 0))] gf_16 ?_ ?_ hcl241 ?_
                            · exact rfl
                            · decide
                            clear hcl241
                            rintro _ w239 ⟨_, rfl, rfl, hs240⟩
                            refine ⟨_, rfl, ?_⟩
                            have hs242 : sat W0 [BufRep b_21 xs most size, blk b59 [(Value.int .i64 ((ds.getD k default).kind)), (Value.int .i64 ((ds.getD k default).e.sector)), (Value.int .i64 ((ds.getD k default).e.kind)), (Value.slice ((ds.getD k default).e.da) ((ds.getD k default).e.data.length) ((ds.getD k default).e.dc)), (Value.slice ((ds.getD k default).la) ((ds.getD k default).l.length) ((ds.getD k default).lc))] 50, ShD W0 D, RefRep b33 ys most size, F] w239 := sat_flat' [BufRep b_21 xs most size] [blk b59 [(Value.int .i64 ((ds.getD k default).kind)), (Value.int .i64 ((ds.getD k default).e.sector)), (Value.int .i64 ((ds.getD k default).e.kind)), (Value.slice ((ds.getD k default).e.da) ((ds.getD k default).e.data.length) ((ds.getD k default).e.dc)), (Value.slice ((ds.getD k default).la) ((ds.getD k default).l.length) ((ds.getD k default).lc))] 50, ShD W0 D, RefRep b33 ys most size, F] hs240 (by kernel_rfl) (by kernel_rfl)
                            refine WL.cons rfl (OP.move (Value.tuple #[(Value.agg [(Value.int .i64 0), (Value.int .i64 0), (Value.slice none 0 0)].toArray), (Value.bool false)]) rfl (by decide) ?_)
                            refine WL.cons rfl (OP.extract (Value.agg [(Value.int .i64 0), (Value.int .i64 0), (Value.slice none 0 0)].toArray) rfl rfl (by decide) ?_)
                            refine WL.cons rfl (OP.extract (Value.bool false) rfl rfl (by decide) ?_)
                            refine WL.cons rfl (OP.alloc _ [(Value.int .i64 0), (Value.int .i64 0), (Value.slice none 0 0)] hs242 ze_48 rfl (by decide) (fun b243 w244 hs245 => ?_))
                            refine WL.cons rfl (OP.store (Value.agg [(Value.int .i64 0), (Value.int .i64 0), (Value.slice none 0 0)].toArray) [(Value.int .i64 0), (Value.int .i64 0), (Value.slice none 0 0)] hs245 rfl rfl rfl sz_48 rfl (by rfl) (by simp) (fun w246 hs247 => ?_))
                            have hs248 : sat W0 [blk b243 [(Value.int .i64 0), (Value.int .i64 0), (Value.slice none 0 0)] 48, BufRep b_21 xs most size, blk b59 [(Value.int .i64 ((ds.getD k default).kind)), (Value.int .i64 ((ds.getD k default).e.sector)), (Value.int .i64 ((ds.getD k default).e.kind)), (Value.slice ((ds.getD k default).e.da) ((ds.getD k default).e.data.length) ((ds.getD k default).e.dc)), (Value.slice ((ds.getD k default).la) ((ds.getD k default).l.length) ((ds.getD k default).lc))] 50, ShD W0 D, RefRep b33 ys most size, F] w246 := hs247
                            refine WL.cons rfl (OP.assign (Value.bool false) rfl (by decide) ?_)
                            refine WL.nil (Qn.then ?_)
                            refine W.seq ?_
                            refine W.region ?_
                            refine WL.cons rfl (OP.move (Value.pointer (some ⟨b33, 0, none⟩)) he47 (by decide) ?_)
                            refine WL.cons rfl (OP.fieldAddr 4 fo_50_2 rfl rfl (by decide) ?_)
                            refine WL.cons rfl (OP.loadS (Value.slice ((ds.getD k default).la) ((ds.getD k default).l.length) ((ds.getD k default).lc)) sc_22 rfl (sat_cell 2 hs248 rfl rfl) (by decide) ?_)
                            have hs249 : sat W0 [stars [blk b243 [(Value.int .i64 0), (Value.int .i64 0), (Value.slice none 0 0)] 48, BufRep b_21 xs most size, blk b59 [(Value.int .i64 ((ds.getD k default).kind)), (Value.int .i64 ((ds.getD k default).e.sector)), (Value.int .i64 ((ds.getD k default).e.kind)), (Value.slice ((ds.getD k default).e.da) ((ds.getD k default).e.data.length) ((ds.getD k default).e.dc)), (Value.slice ((ds.getD k default).la) ((ds.getD k default).l.length) ((ds.getD k default).lc))] 50, ShD W0 D, RefRep b33 ys most size, F]] w246 := sat_pack' [] [blk b243 [(Value.int .i64 0), (Value.int .i64 0), (Value.slice none 0 0)] 48, BufRep b_21 xs most size, blk b59 [(Value.int .i64 ((ds.getD k default).kind)), (Value.int .i64 ((ds.getD k default).e.sector)), (Value.int .i64 ((ds.getD k default).e.kind)), (Value.slice ((ds.getD k default).e.da) ((ds.getD k default).e.data.length) ((ds.getD k default).e.dc)), (Value.slice ((ds.getD k default).la) ((ds.getD k default).l.length) ((ds.getD k default).lc))] 50, ShD W0 D, RefRep b33 ys most size, F] hs248 (by kernel_rfl) (by kernel_rfl)
                            have hcl252 := law29_first ((ds.getD k default).la) ((ds.getD k default).lc) ((ds.getD k default).l) (by first | assumption | omega) (Ent_ro hel_.2) hs249
                            refine WL.cons rfl (?_)
                            with_reducible refine OP.call [(Value.slice ((ds.getD k default).la) ((ds.getD k default).l.length) ((ds.getD k default).lc))] gf_17 ?_ ?_ hcl252 ?_
                            · exact rfl
                            · decide
                            clear hcl252
                            rintro _ w250 ⟨_, rfl, rfl, hs251⟩
                            refine ⟨_, rfl, ?_⟩
                            have hs253 : sat W0 [blk b243 [(Value.int .i64 0), (Value.int .i64 0), (Value.slice none 0 0)] 48, BufRep b_21 xs most size, blk b59 [(Value.int .i64 ((ds.getD k default).kind)), (Value.int .i64 ((ds.getD k default).e.sector)), (Value.int .i64 ((ds.getD k default).e.kind)), (Value.slice ((ds.getD k default).e.da) ((ds.getD k default).e.data.length) ((ds.getD k default).e.dc)), (Value.slice ((ds.getD k default).la) ((ds.getD k default).l.length) ((ds.getD k default).lc))] 50, ShD W0 D, RefRep b33 ys most size, F] w250 := sat_flat' [] [blk b243 [(Value.int .i64 0), (Value.int .i64 0), (Value.slice none 0 0)] 48, BufRep b_21 xs most size, blk b59 [(Value.int .i64 ((ds.getD k default).kind)), (Value.int .i64 ((ds.getD k default).e.sector)), (Value.int .i64 ((ds.getD k default).e.kind)), (Value.slice ((ds.getD k default).e.da) ((ds.getD k default).e.data.length) ((ds.getD k default).e.dc)), (Value.slice ((ds.getD k default).la) ((ds.getD k default).l.length) ((ds.getD k default).lc))] 50, ShD W0 D, RefRep b33 ys most size, F] hs251 (by kernel_rfl) (by kernel_rfl)
                            have hs254 : sat W0 [RefRep b33 ys most size, blk b243 [(Value.int .i64 0), (Value.int .i64 0), (Value.slice none 0 0)] 48, BufRep b_21 xs most size, blk b59 [(Value.int .i64 ((ds.getD k default).kind)), (Value.int .i64 ((ds.getD k default).e.sector)), (Value.int .i64 ((ds.getD k default).e.kind)), (Value.slice ((ds.getD k default).e.da) ((ds.getD k default).e.data.length) ((ds.getD k default).e.dc)), (Value.slice ((ds.getD k default).la) ((ds.getD k default).l.length) ((ds.getD k default).lc))] 50, ShD W0 D, F] w250 := sat_sel' [4, 0, 1, 2, 3, 5] hs253 (by kernel_rfl) (by kernel_rfl)
                            have hs255 : sat W0 [RefRep b33 ys most size, stars [blk b243 [(Value.int .i64 0), (Value.int .i64 0), (Value.slice none 0 0)] 48, BufRep b_21 xs most size, blk b59 [(Value.int .i64 ((ds.getD k default).kind)), (Value.int .i64 ((ds.getD k default).e.sector)), (Value.int .i64 ((ds.getD k default).e.kind)), (Value.slice ((ds.getD k default).e.da) ((ds.getD k default).e.data.length) ((ds.getD k default).e.dc)), (Value.slice ((ds.getD k default).la) ((ds.getD k default).l.length) ((ds.getD k default).lc))] 50, ShD W0 D, F]] w250 := sat_pack' [RefRep b33 ys most size] [blk b243 [(Value.int .i64 0), (Value.int .i64 0), (Value.slice none 0 0)] 48, BufRep b_21 xs most size, blk b59 [(Value.int .i64 ((ds.getD k default).kind)), (Value.int .i64 ((ds.getD k default).e.sector)), (Value.int .i64 ((ds.getD k default).e.kind)), (Value.slice ((ds.getD k default).e.da) ((ds.getD k default).e.data.length) ((ds.getD k default).e.dc)), (Value.slice ((ds.getD k default).la) ((ds.getD k default).l.length) ((ds.getD k default).lc))] 50, ShD W0 D, F] hs254 (by kernel_rfl) (by kernel_rfl)
                            have hcl258 := Ref_Find b33 ys most size m (((ds.getD k default).l).headD 0) hmr_ (by have h_ := abs_len hmr_; have := hok_.len; have := hok_.big; omega) hs255
                            refine WL.cons rfl (?_)
                            with_reducible refine OP.call [(Value.pointer (some ⟨b33, 0, none⟩)), (Value.int .i64 (((ds.getD k default).l).headD 0))] gf_18 ?_ ?_ hcl258 ?_
                            · exact rfl
                            · decide
                            clear hcl258
                            rintro _ w256 ⟨_, rfl, rfl, hs257⟩
                            refine ⟨_, rfl, ?_⟩
                            have hs259 : sat W0 [RefRep b33 ys most size, blk b243 [(Value.int .i64 0), (Value.int .i64 0), (Value.slice none 0 0)] 48, BufRep b_21 xs most size, blk b59 [(Value.int .i64 ((ds.getD k default).kind)), (Value.int .i64 ((ds.getD k default).e.sector)), (Value.int .i64 ((ds.getD k default).e.kind)), (Value.slice ((ds.getD k default).e.da) ((ds.getD k default).e.data.length) ((ds.getD k default).e.dc)), (Value.slice ((ds.getD k default).la) ((ds.getD k default).l.length) ((ds.getD k default).lc))] 50, ShD W0 D, F] w256 := sat_flat' [RefRep b33 ys most size] [blk b243 [(Value.int .i64 0), (Value.int .i64 0), (Value.slice none 0 0)] 48, BufRep b_21 xs most size, blk b59 [(Value.int .i64 ((ds.getD k default).kind)), (Value.int .i64 ((ds.getD k default).e.sector)), (Value.int .i64 ((ds.getD k default).e.kind)), (Value.slice ((ds.getD k default).e.da) ((ds.getD k default).e.data.length) ((ds.getD k default).e.dc)), (Value.slice ((ds.getD k default).la) ((ds.getD k default).l.length) ((ds.getD k default).lc))] 50, ShD W0 D, F] hs257 (by kernel_rfl) (by kernel_rfl)
                            refine WL.cons rfl (OP.assign (Value.int .i64 (findA m (((ds.getD k default).l).headD 0))) rfl (by decide) ?_)
                            refine WL.nil (Qn.then ?_)
                            have hfr_ := findA_range (m := m) (s := (ds.getD k default).l.headD 0)
                            have hg_ : ¬ 0 ≤ findA m ((ds.getD k default).l.headD 0) := of_decide_eq_false hR129
                            have hs260 : sat W0 [ShD W0 D, RefRep b33 ys most size, blk b243 [(Value.int .i64 0), (Value.int .i64 0), (Value.slice none 0 0)] 48, BufRep b_21 xs most size, blk b59 [(Value.int .i64 ((ds.getD k default).kind)), (Value.int .i64 ((ds.getD k default).e.sector)), (Value.int .i64 ((ds.getD k default).e.kind)), (Value.slice ((ds.getD k default).e.da) ((ds.getD k default).e.data.length) ((ds.getD k default).e.dc)), (Value.slice ((ds.getD k default).la) ((ds.getD k default).l.length) ((ds.getD k default).lc))] 50, F] w256 := sat_sel' [4, 0, 1, 2, 3, 5] hs259 (by kernel_rfl) (by kernel_rfl)
                            have hs262 : sat W0 [ShD W0 ((none, []) :: D), RefRep b33 ys most size, blk b243 [(Value.int .i64 0), (Value.int .i64 0), (Value.slice none 0 0)] 48, BufRep b_21 xs most size, blk b59 [(Value.int .i64 ((ds.getD k default).kind)), (Value.int .i64 ((ds.getD k default).e.sector)), (Value.int .i64 ((ds.getD k default).e.kind)), (Value.slice ((ds.getD k default).e.da) ((ds.getD k default).e.data.length) ((ds.getD k default).e.dc)), (Value.slice ((ds.getD k default).la) ((ds.getD k default).l.length) ((ds.getD k default).lc))] 50, F] w256 := (sat_ShD_nil hs260)
                            have hsb263 : DSub D ((none, []) :: D) := DSub.cons
                            have hm264 := hsb263 _ hex_
                            have hm265 := InD.sub hp55 hsb263
                            have hm266 := InD.sub hp56 hsb263
                            have hd267 := DSub.trans hp57 hsb263
                            have hs268 : sat W0 [RefRep b33 ys most size, ShD W0 ((none, []) :: D), blk b243 [(Value.int .i64 0), (Value.int .i64 0), (Value.slice none 0 0)] 48, BufRep b_21 xs most size, blk b59 [(Value.int .i64 ((ds.getD k default).kind)), (Value.int .i64 ((ds.getD k default).e.sector)), (Value.int .i64 ((ds.getD k default).e.kind)), (Value.slice ((ds.getD k default).e.da) ((ds.getD k default).e.data.length) ((ds.getD k default).e.dc)), (Value.slice ((ds.getD k default).la) ((ds.getD k default).l.length) ((ds.getD k default).lc))] 50, F] w256 := sat_sel' [1, 0, 2, 3, 4, 5] hs262 (by kernel_rfl) (by kernel_rfl)
                            obtain ⟨a1_269, c1_270, _, hs271⟩ := RefRep_open hs268
                            have hs272 : sat W0 [blk b33 [(Value.slice a1_269 ys.length c1_270), (Value.int .i64 most), (Value.int .i64 size)] 46, SL false 3 a1_269 ys.length c1_270 (ys.flatMap encB), ShD W0 ((none, []) :: D), blk b243 [(Value.int .i64 0), (Value.int .i64 0), (Value.slice none 0 0)] 48, BufRep b_21 xs most size, blk b59 [(Value.int .i64 ((ds.getD k default).kind)), (Value.int .i64 ((ds.getD k default).e.sector)), (Value.int .i64 ((ds.getD k default).e.kind)), (Value.slice ((ds.getD k default).e.da) ((ds.getD k default).e.data.length) ((ds.getD k default).e.dc)), (Value.slice ((ds.getD k default).la) ((ds.getD k default).l.length) ((ds.getD k default).lc))] 50, F] w256 := hs271
                            refine W.draw (fun w => sat W0 [blk b33 [(Value.slice a1_269 ys.length c1_270), (Value.int .i64 most), (Value.int .i64 size)] 46, SL false 3 a1_269 ys.length c1_270 (ys.flatMap encB), ShD W0 ((none, []) :: D), blk b243 [(Value.int .i64 0), (Value.int .i64 0), (Value.slice none 0 0)] 48, BufRep b_21 xs most size, blk b59 [(Value.int .i64 ((ds.getD k default).kind)), (Value.int .i64 ((ds.getD k default).e.sector)), (Value.int .i64 ((ds.getD k default).e.kind)), (Value.slice ((ds.getD k default).e.da) ((ds.getD k default).e.data.length) ((ds.getD k default).e.dc)), (Value.slice ((ds.getD k default).la) ((ds.getD k default).l.length) ((ds.getD k default).lc))] 50, F] w) (by kernel_rfl) hs272 (fun w273 hs274 => ?_)
                            refine WA.take 0 rfl rfl rfl rfl (by kernel_rfl) (by kernel_rfl) (by kernel_rfl) ?_ (by decide) (v := (Value.bool false)) (fun w276 hw275 => OP.move (Value.bool false) rfl (by decide) ⟨rfl, rfl⟩) ?_
                            · exact hs274
                            refine WA.take 1 rfl rfl rfl rfl (by kernel_rfl) (by kernel_rfl) (by kernel_rfl) ?_ (by decide) (v := (Value.int .i64 (findA m (((ds.getD k default).l).headD 0)))) (fun w278 hw277 => OP.move (Value.int .i64 (findA m (((ds.getD k default).l).headD 0))) rfl (by decide) ⟨rfl, rfl⟩) ?_
                            · exact hs274
                            refine WA.take 2 rfl rfl rfl rfl (by kernel_rfl) (by kernel_rfl) (by kernel_rfl) ?_ (by decide) (v := (Value.bool (decide (findA m (((ds.getD k default).l).headD 0) ≥ 0)))) (fun w280 hw279 => OP.geq rfl rfl (by decide) ⟨rfl, rfl⟩) ?_
                            · exact hs274
                            refine WA.take 3 rfl rfl rfl rfl (by kernel_rfl) (by kernel_rfl) (by kernel_rfl) ?_ (by decide) (v := (Value.bool true)) (fun w282 hw281 => OP.eqV (a := .bool false) (b := .bool (decide (findA m (((ds.getD k default).l).headD 0) ≥ 0))) rfl rfl rfl rfl (run_equalB Try.underlying4 _) (by decide) ⟨congrArg (upd _ _) (Eq.trans (b := (Value.bool (false == (decide (findA m (((ds.getD k default).l).headD 0) ≥ 0))))) rfl (congrArg Value.bool (show (false == (decide (findA m (((ds.getD k default).l).headD 0) ≥ 0))) = true from (by rw [show decide (findA m ((ds.getD k default).l.headD 0) ≥ 0) = false from decide_eq_false hg_]; rfl)))), rfl⟩) ?_
                            · exact hs274
                            refine WA.take 4 rfl rfl rfl rfl (by kernel_rfl) (by kernel_rfl) (by kernel_rfl) ?_ (by decide) (v := (Value.bool true)) (fun w284 hw283 => OP.move (Value.bool true) rfl (by decide) ⟨rfl, rfl⟩) ?_
                            · exact hs274
                            refine WA.takeG 5 rfl rfl rfl rfl rfl rfl (by kernel_rfl) (by kernel_rfl) (by kernel_rfl) ?_ (by decide) (v := (Value.bool false)) (fun w286 hw285 => OP.move (Value.bool false) rfl (by decide) ⟨rfl, rfl⟩) ?_
                            · exact hs274
                            refine WA.takeG 6 rfl rfl rfl rfl rfl rfl (by kernel_rfl) (by kernel_rfl) (by kernel_rfl) ?_ (by decide) (v := (Value.bool false)) (fun w288 hw287 => OP.move (Value.bool false) rfl (by decide) ⟨rfl, rfl⟩) ?_
                            · exact hs274
                            refine WA.passG 7 rfl rfl rfl rfl rfl rfl (by kernel_rfl) (by kernel_rfl) (by kernel_rfl) ?_ (by decide) ?_
                            · exact hs274
                            refine WA.passG 8 rfl rfl rfl rfl rfl rfl (by kernel_rfl) (by kernel_rfl) (by kernel_rfl) ?_ (by decide) ?_
                            · exact hs274
                            refine WA.passG 9 rfl rfl rfl rfl rfl rfl (by kernel_rfl) (by kernel_rfl) (by kernel_rfl) ?_ (by decide) ?_
                            · exact hs274
                            refine WA.passG 10 rfl rfl rfl rfl rfl rfl (by kernel_rfl) (by kernel_rfl) (by kernel_rfl) ?_ (by decide) ?_
                            · exact hs274
                            refine WA.passG 11 rfl rfl rfl rfl rfl rfl (by kernel_rfl) (by kernel_rfl) (by kernel_rfl) ?_ (by decide) ?_
                            · exact hs274
                            refine WA.passG 12 rfl rfl rfl rfl rfl rfl (by kernel_rfl) (by kernel_rfl) (by kernel_rfl) ?_ (by decide) ?_
                            · exact hs274
                            refine WA.passG 13 rfl rfl rfl rfl rfl rfl (by kernel_rfl) (by kernel_rfl) (by kernel_rfl) ?_ (by decide) ?_
                            · exact hs274
                            refine WA.passG 14 rfl rfl rfl rfl rfl rfl (by kernel_rfl) (by kernel_rfl) (by kernel_rfl) ?_ (by decide) ?_
                            · exact hs274
                            refine WA.passG 15 rfl rfl rfl rfl rfl rfl (by kernel_rfl) (by kernel_rfl) (by kernel_rfl) ?_ (by decide) ?_
                            · exact hs274
                            refine WA.passG 16 rfl rfl rfl rfl rfl rfl (by kernel_rfl) (by kernel_rfl) (by kernel_rfl) ?_ (by decide) ?_
                            · exact hs274
                            refine WA.passG 17 rfl rfl rfl rfl rfl rfl (by kernel_rfl) (by kernel_rfl) (by kernel_rfl) ?_ (by decide) ?_
                            · exact hs274
                            refine WA.takeG 18 rfl rfl rfl rfl rfl rfl (by kernel_rfl) (by kernel_rfl) (by kernel_rfl) ?_ (by decide) (v := (Value.bool false)) (fun w290 hw289 => OP.pickF (Value.bool false) rfl rfl (by decide) ⟨rfl, rfl⟩) ?_
                            · exact hs274
                            refine WA.takeG 19 rfl rfl rfl rfl rfl rfl (by kernel_rfl) (by kernel_rfl) (by kernel_rfl) ?_ (by decide) (v := (Value.bool false)) (fun w292 hw291 => OP.move (Value.bool false) rfl (by decide) ⟨rfl, rfl⟩) ?_
                            · exact hs274
                            refine WA.takeG 20 rfl rfl rfl rfl rfl rfl (by kernel_rfl) (by kernel_rfl) (by kernel_rfl) ?_ (by decide) (v := (Value.bool false)) (fun w294 hw293 => OP.move (Value.bool false) rfl (by decide) ⟨rfl, rfl⟩) ?_
                            · exact hs274
                            refine WA.takeG 21 rfl rfl rfl rfl rfl rfl (by kernel_rfl) (by kernel_rfl) (by kernel_rfl) ?_ (by decide) (v := (Value.bool true)) (fun w296 hw295 => OP.not rfl (by decide) ⟨rfl, rfl⟩) ?_
                            · exact hs274
                            refine WA.takeG 22 rfl rfl rfl rfl rfl rfl (by kernel_rfl) (by kernel_rfl) (by kernel_rfl) ?_ (by decide) (v := (Value.bool true)) (fun w298 hw297 => OP.move (Value.bool true) rfl (by decide) ⟨rfl, rfl⟩) ?_
                            · exact hs274
                            refine WA.takeG 23 rfl rfl rfl rfl rfl rfl (by kernel_rfl) (by kernel_rfl) (by kernel_rfl) ?_ (by decide) (v := (Value.agg [(Value.int .i64 0), (Value.int .i64 0), (Value.slice none 0 0)].toArray)) (fun w300 hw299 => OP.loadA [(Value.int .i64 0), (Value.int .i64 0), (Value.slice none 0 0)] ag_48 sz_48 rfl (sat_rdn 3 hw299 rfl rfl) (by decide) ⟨rfl, rfl⟩) ?_
                            · exact hs274
                            refine WA.takeG 25 rfl rfl rfl rfl rfl rfl (by kernel_rfl) (by kernel_rfl) (by kernel_rfl) ?_ (by decide) (v := (Value.agg [(Value.int .i64 0), (Value.int .i64 0), (Value.slice none 0 0)].toArray)) (fun w302 hw301 => OP.build [] [(Value.int .i64 0), (Value.int .i64 0), (Value.slice none 0 0)] rfl (by kernel_rfl) (by decide) ⟨rfl, rfl⟩) ?_
                            · exact hs274
                            refine WA.all [24, 26] (by kernel_rfl) (by simp) ?_
                            refine WAs.consG (oi := (Go.Oper.mk (some 123) (Go.Op.buildSlice 44 1 #[(0, (Go.Operand.tmp 122))]) 44 "law.go:65" #[(Go.Edge.mk 23 Go.Ground.data), (Go.Edge.mk 22 Go.Ground.guard)] (some (22, true)))) rfl rfl rfl rfl ?_ ?_
                            · refine OP.buildSlice (el := 48) [(0, (Value.agg [(Value.int .i64 0), (Value.int .i64 0), (Value.slice none 0 0)].toArray))] [(Value.int .i64 0), (Value.int .i64 0), (Value.slice none 0 0)] hs274 rfl (fun _ => by kernel_rfl) (by decide) (fun b303 w304 hs305 => ?_)
                              have hs306 : sat W0 [SL false 3 (some ⟨b303, 0, none⟩) 1 1 ([(Value.int .i64 0), (Value.int .i64 0), (Value.slice none 0 0)]), blk b33 [(Value.slice a1_269 ys.length c1_270), (Value.int .i64 most), (Value.int .i64 size)] 46, SL false 3 a1_269 ys.length c1_270 (ys.flatMap encB), ShD W0 ((none, []) :: D), blk b243 [(Value.int .i64 0), (Value.int .i64 0), (Value.slice none 0 0)] 48, BufRep b_21 xs most size, blk b59 [(Value.int .i64 ((ds.getD k default).kind)), (Value.int .i64 ((ds.getD k default).e.sector)), (Value.int .i64 ((ds.getD k default).e.kind)), (Value.slice ((ds.getD k default).e.da) ((ds.getD k default).e.data.length) ((ds.getD k default).e.dc)), (Value.slice ((ds.getD k default).la) ((ds.getD k default).l.length) ((ds.getD k default).lc))] 50, F] w304 := sat_SL_blk rfl hs305
                              have hs307 : sat W0 [SL false 3 (some ⟨b303, 0, none⟩) ([(⟨0, 0, none, 0, []⟩ : BEnt)].length) 1 (([(⟨0, 0, none, 0, []⟩ : BEnt)]).flatMap encB), blk b33 [(Value.slice a1_269 ys.length c1_270), (Value.int .i64 most), (Value.int .i64 size)] 46, SL false 3 a1_269 ys.length c1_270 (ys.flatMap encB), ShD W0 ((none, []) :: D), blk b243 [(Value.int .i64 0), (Value.int .i64 0), (Value.slice none 0 0)] 48, BufRep b_21 xs most size, blk b59 [(Value.int .i64 ((ds.getD k default).kind)), (Value.int .i64 ((ds.getD k default).e.sector)), (Value.int .i64 ((ds.getD k default).e.kind)), (Value.slice ((ds.getD k default).e.da) ((ds.getD k default).e.data.length) ((ds.getD k default).e.dc)), (Value.slice ((ds.getD k default).la) ((ds.getD k default).l.length) ((ds.getD k default).lc))] 50, F] w304 := hs306
                              refine ⟨?_, ?_⟩
                              · exact sat_sub' [1, 2, 3, 4, 5, 6, 7] [0] hs307 (by kernel_rfl) (by kernel_rfl)
                              refine WA.all [26] (by kernel_rfl) (by simp) ?_
                              refine WAs.consG (oi := (Go.Oper.mk (some 125) (Go.Op.buildSlice 44 1 #[(0, (Go.Operand.tmp 124))]) 44 "law.go:65" #[(Go.Edge.mk 25 Go.Ground.data), (Go.Edge.mk 22 Go.Ground.guard)] (some (22, true)))) rfl rfl rfl rfl ?_ ?_
                              · refine OP.buildSlice (el := 48) [(0, (Value.agg [(Value.int .i64 0), (Value.int .i64 0), (Value.slice none 0 0)].toArray))] [(Value.int .i64 0), (Value.int .i64 0), (Value.slice none 0 0)] hs307 rfl (fun _ => by kernel_rfl) (by decide) (fun b308 w309 hs310 => ?_)
                                have hs311 : sat W0 [SL false 3 (some ⟨b308, 0, none⟩) 1 1 ([(Value.int .i64 0), (Value.int .i64 0), (Value.slice none 0 0)]), SL false 3 (some ⟨b303, 0, none⟩) ([(⟨0, 0, none, 0, []⟩ : BEnt)].length) 1 (([(⟨0, 0, none, 0, []⟩ : BEnt)]).flatMap encB), blk b33 [(Value.slice a1_269 ys.length c1_270), (Value.int .i64 most), (Value.int .i64 size)] 46, SL false 3 a1_269 ys.length c1_270 (ys.flatMap encB), ShD W0 ((none, []) :: D), blk b243 [(Value.int .i64 0), (Value.int .i64 0), (Value.slice none 0 0)] 48, BufRep b_21 xs most size, blk b59 [(Value.int .i64 ((ds.getD k default).kind)), (Value.int .i64 ((ds.getD k default).e.sector)), (Value.int .i64 ((ds.getD k default).e.kind)), (Value.slice ((ds.getD k default).e.da) ((ds.getD k default).e.data.length) ((ds.getD k default).e.dc)), (Value.slice ((ds.getD k default).la) ((ds.getD k default).l.length) ((ds.getD k default).lc))] 50, F] w309 := sat_SL_blk rfl hs310
                                have hs312 : sat W0 [SL false 3 (some ⟨b308, 0, none⟩) ([(⟨0, 0, none, 0, []⟩ : BEnt)].length) 1 (([(⟨0, 0, none, 0, []⟩ : BEnt)]).flatMap encB), SL false 3 (some ⟨b303, 0, none⟩) ([(⟨0, 0, none, 0, []⟩ : BEnt)].length) 1 (([(⟨0, 0, none, 0, []⟩ : BEnt)]).flatMap encB), blk b33 [(Value.slice a1_269 ys.length c1_270), (Value.int .i64 most), (Value.int .i64 size)] 46, SL false 3 a1_269 ys.length c1_270 (ys.flatMap encB), ShD W0 ((none, []) :: D), blk b243 [(Value.int .i64 0), (Value.int .i64 0), (Value.slice none 0 0)] 48, BufRep b_21 xs most size, blk b59 [(Value.int .i64 ((ds.getD k default).kind)), (Value.int .i64 ((ds.getD k default).e.sector)), (Value.int .i64 ((ds.getD k default).e.kind)), (Value.slice ((ds.getD k default).e.da) ((ds.getD k default).e.data.length) ((ds.getD k default).e.dc)), (Value.slice ((ds.getD k default).la) ((ds.getD k default).l.length) ((ds.getD k default).lc))] 50, F] w309 := hs311
                                refine ⟨?_, ?_⟩
                                · exact sat_sub' [2, 3, 4, 5, 6, 7, 8] [0, 1] hs312 (by kernel_rfl) (by kernel_rfl)
                                refine WA.all [27] (by kernel_rfl) (by simp) ?_
                                refine WAs.consG (oi := (Go.Oper.mk (some 126) (Go.Op.call (Go.Call.mk (Go.Callee.value (Go.Operand.func 19)) #[(Go.Operand.tmp 123), (Go.Operand.tmp 125)] #[44, 44])) 4 "law.go:65" #[(Go.Edge.mk 24 Go.Ground.data), (Go.Edge.mk 26 Go.Ground.data), (Go.Edge.mk 22 Go.Ground.chain), (Go.Edge.mk 22 Go.Ground.guard)] (some (22, true)))) rfl rfl rfl rfl ?_ ?_
                                · have hs313 : sat W0 [ShD W0 ((none, []) :: D), SL false 3 (some ⟨b308, 0, none⟩) ([(⟨0, 0, none, 0, []⟩ : BEnt)].length) 1 (([(⟨0, 0, none, 0, []⟩ : BEnt)]).flatMap encB), SL false 3 (some ⟨b303, 0, none⟩) ([(⟨0, 0, none, 0, []⟩ : BEnt)].length) 1 (([(⟨0, 0, none, 0, []⟩ : BEnt)]).flatMap encB), blk b33 [(Value.slice a1_269 ys.length c1_270), (Value.int .i64 most), (Value.int .i64 size)] 46, SL false 3 a1_269 ys.length c1_270 (ys.flatMap encB), blk b243 [(Value.int .i64 0), (Value.int .i64 0), (Value.slice none 0 0)] 48, BufRep b_21 xs most size, blk b59 [(Value.int .i64 ((ds.getD k default).kind)), (Value.int .i64 ((ds.getD k default).e.sector)), (Value.int .i64 ((ds.getD k default).e.kind)), (Value.slice ((ds.getD k default).e.da) ((ds.getD k default).e.data.length) ((ds.getD k default).e.dc)), (Value.slice ((ds.getD k default).la) ((ds.getD k default).l.length) ((ds.getD k default).lc))] 50, F] w309 := sat_sel' [4, 0, 1, 2, 3, 5, 6, 7, 8] hs312 (by kernel_rfl) (by kernel_rfl)
                                  have hs314 : sat W0 [ShD W0 ((none, []) :: D), stars [SL false 3 (some ⟨b308, 0, none⟩) ([(⟨0, 0, none, 0, []⟩ : BEnt)].length) 1 (([(⟨0, 0, none, 0, []⟩ : BEnt)]).flatMap encB), SL false 3 (some ⟨b303, 0, none⟩) ([(⟨0, 0, none, 0, []⟩ : BEnt)].length) 1 (([(⟨0, 0, none, 0, []⟩ : BEnt)]).flatMap encB), blk b33 [(Value.slice a1_269 ys.length c1_270), (Value.int .i64 most), (Value.int .i64 size)] 46, SL false 3 a1_269 ys.length c1_270 (ys.flatMap encB), blk b243 [(Value.int .i64 0), (Value.int .i64 0), (Value.slice none 0 0)] 48, BufRep b_21 xs most size, blk b59 [(Value.int .i64 ((ds.getD k default).kind)), (Value.int .i64 ((ds.getD k default).e.sector)), (Value.int .i64 ((ds.getD k default).e.kind)), (Value.slice ((ds.getD k default).e.da) ((ds.getD k default).e.data.length) ((ds.getD k default).e.dc)), (Value.slice ((ds.getD k default).la) ((ds.getD k default).l.length) ((ds.getD k default).lc))] 50, F]] w309 := sat_pack' [ShD W0 ((none, []) :: D)] [SL false 3 (some ⟨b308, 0, none⟩) ([(⟨0, 0, none, 0, []⟩ : BEnt)].length) 1 (([(⟨0, 0, none, 0, []⟩ : BEnt)]).flatMap encB), SL false 3 (some ⟨b303, 0, none⟩) ([(⟨0, 0, none, 0, []⟩ : BEnt)].length) 1 (([(⟨0, 0, none, 0, []⟩ : BEnt)]).flatMap encB), blk b33 [(Value.slice a1_269 ys.length c1_270), (Value.int .i64 most), (Value.int .i64 size)] 46, SL false 3 a1_269 ys.length c1_270 (ys.flatMap encB), blk b243 [(Value.int .i64 0), (Value.int .i64 0), (Value.slice none 0 0)] 48, BufRep b_21 xs most size, blk b59 [(Value.int .i64 ((ds.getD k default).kind)), (Value.int .i64 ((ds.getD k default).e.sector)), (Value.int .i64 ((ds.getD k default).e.kind)), (Value.slice ((ds.getD k default).e.da) ((ds.getD k default).e.data.length) ((ds.getD k default).e.dc)), (Value.slice ((ds.getD k default).la) ((ds.getD k default).l.length) ((ds.getD k default).lc))] 50, F] hs313 (by kernel_rfl) (by kernel_rfl)
                                  have hcl317 := ref29_Same (some ⟨b303, 0, none⟩) 1 ([(⟨0, 0, none, 0, []⟩ : BEnt)]) (some ⟨b308, 0, none⟩) 1 ([(⟨0, 0, none, 0, []⟩ : BEnt)]) ((none, []) :: D) (by simp) (by simp) (InD.one (List.mem_cons_self ..)) (InD.one (List.mem_cons_self ..)) (lens_one (by decide)) (lens_one (by decide)) (Ent_stars 1 rfl Ent_SL) (Ent_stars 0 rfl Ent_SL) hs314
                                  refine ?_
                                  with_reducible refine OP.call [(Value.slice (some ⟨b303, 0, none⟩) ([(⟨0, 0, none, 0, []⟩ : BEnt)].length) 1), (Value.slice (some ⟨b308, 0, none⟩) ([(⟨0, 0, none, 0, []⟩ : BEnt)].length) 1)] gf_19 ?_ ?_ hcl317 ?_
                                  · exact rfl
                                  · decide
                                  clear hcl317
                                  rintro _ w315 ⟨_, rfl, rfl, hs316⟩
                                  refine ⟨_, rfl, ?_⟩
                                  have hs318 : sat W0 [ShD W0 ((none, []) :: D), SL false 3 (some ⟨b308, 0, none⟩) ([(⟨0, 0, none, 0, []⟩ : BEnt)].length) 1 (([(⟨0, 0, none, 0, []⟩ : BEnt)]).flatMap encB), SL false 3 (some ⟨b303, 0, none⟩) ([(⟨0, 0, none, 0, []⟩ : BEnt)].length) 1 (([(⟨0, 0, none, 0, []⟩ : BEnt)]).flatMap encB), blk b33 [(Value.slice a1_269 ys.length c1_270), (Value.int .i64 most), (Value.int .i64 size)] 46, SL false 3 a1_269 ys.length c1_270 (ys.flatMap encB), blk b243 [(Value.int .i64 0), (Value.int .i64 0), (Value.slice none 0 0)] 48, BufRep b_21 xs most size, blk b59 [(Value.int .i64 ((ds.getD k default).kind)), (Value.int .i64 ((ds.getD k default).e.sector)), (Value.int .i64 ((ds.getD k default).e.kind)), (Value.slice ((ds.getD k default).e.da) ((ds.getD k default).e.data.length) ((ds.getD k default).e.dc)), (Value.slice ((ds.getD k default).la) ((ds.getD k default).l.length) ((ds.getD k default).lc))] 50, F] w315 := sat_flat' [ShD W0 ((none, []) :: D)] [SL false 3 (some ⟨b308, 0, none⟩) ([(⟨0, 0, none, 0, []⟩ : BEnt)].length) 1 (([(⟨0, 0, none, 0, []⟩ : BEnt)]).flatMap encB), SL false 3 (some ⟨b303, 0, none⟩) ([(⟨0, 0, none, 0, []⟩ : BEnt)].length) 1 (([(⟨0, 0, none, 0, []⟩ : BEnt)]).flatMap encB), blk b33 [(Value.slice a1_269 ys.length c1_270), (Value.int .i64 most), (Value.int .i64 size)] 46, SL false 3 a1_269 ys.length c1_270 (ys.flatMap encB), blk b243 [(Value.int .i64 0), (Value.int .i64 0), (Value.slice none 0 0)] 48, BufRep b_21 xs most size, blk b59 [(Value.int .i64 ((ds.getD k default).kind)), (Value.int .i64 ((ds.getD k default).e.sector)), (Value.int .i64 ((ds.getD k default).e.kind)), (Value.slice ((ds.getD k default).e.da) ((ds.getD k default).e.data.length) ((ds.getD k default).e.dc)), (Value.slice ((ds.getD k default).la) ((ds.getD k default).l.length) ((ds.getD k default).lc))] 50, F] hs316 (by kernel_rfl) (by kernel_rfl)
                                  refine ⟨?_, ?_⟩
                                  · exact sat_sub' [3, 4, 0, 5, 6, 7, 8] [1, 2] hs318 (by kernel_rfl) (by kernel_rfl)
                                  refine WA.takeG 28 rfl rfl rfl rfl rfl rfl (by kernel_rfl) (by kernel_rfl) (by kernel_rfl) ?_ (by decide) (v := (Value.bool true)) (fun w320 hw319 => OP.pickT (Value.bool true) rfl (Eq.trans (b := (Value.bool (decide (([(⟨0, 0, none, 0, []⟩ : BEnt)]).map absB = ([(⟨0, 0, none, 0, []⟩ : BEnt)]).map absB)))) rfl (congrArg Value.bool (show decide (([(⟨0, 0, none, 0, []⟩ : BEnt)]).map absB = ([(⟨0, 0, none, 0, []⟩ : BEnt)]).map absB) = true from (decide_eq_true rfl)))) (by decide) ⟨rfl, rfl⟩) ?_
                                  · exact sat_sub' [3, 4, 0, 5, 6, 7, 8] [1, 2] hs318 (by kernel_rfl) (by kernel_rfl)
                                  refine WA.takeG 29 rfl rfl rfl rfl rfl rfl (by kernel_rfl) (by kernel_rfl) (by kernel_rfl) ?_ (by decide) (v := (Value.bool true)) (fun w322 hw321 => OP.pickF (Value.bool true) rfl rfl (by decide) ⟨rfl, rfl⟩) ?_
                                  · exact sat_sub' [3, 4, 0, 5, 6, 7, 8] [1, 2] hs318 (by kernel_rfl) (by kernel_rfl)
                                  refine WA.take 30 rfl rfl rfl rfl (by kernel_rfl) (by kernel_rfl) (by kernel_rfl) ?_ (by decide) (v := (Value.bool true)) (fun w324 hw323 => OP.pickT (Value.bool true) rfl rfl (by decide) ⟨rfl, rfl⟩) ?_
                                  · exact sat_sub' [3, 4, 0, 5, 6, 7, 8] [1, 2] hs318 (by kernel_rfl) (by kernel_rfl)
                                  refine WA.take 31 rfl rfl rfl rfl (by kernel_rfl) (by kernel_rfl) (by kernel_rfl) ?_ (by decide) (v := (Value.bool true)) (fun w326 hw325 => OP.assign (Value.bool true) rfl (by decide) ⟨rfl, rfl⟩) ?_
                                  · exact sat_sub' [3, 4, 0, 5, 6, 7, 8] [1, 2] hs318 (by kernel_rfl) (by kernel_rfl)
                                  refine WA.done (by kernel_rfl) ?_
                                  refine (Qn.blk (Qn.then ?_))
                                  have hs327 : sat W0 [blk b33 [(Value.slice a1_269 ys.length c1_270), (Value.int .i64 most), (Value.int .i64 size)] 46, SL false 3 a1_269 ys.length c1_270 (ys.flatMap encB), ShD W0 ((none, []) :: D), SL false 3 (some ⟨b308, 0, none⟩) ([(⟨0, 0, none, 0, []⟩ : BEnt)].length) 1 (([(⟨0, 0, none, 0, []⟩ : BEnt)]).flatMap encB), SL false 3 (some ⟨b303, 0, none⟩) ([(⟨0, 0, none, 0, []⟩ : BEnt)].length) 1 (([(⟨0, 0, none, 0, []⟩ : BEnt)]).flatMap encB), blk b243 [(Value.int .i64 0), (Value.int .i64 0), (Value.slice none 0 0)] 48, BufRep b_21 xs most size, blk b59 [(Value.int .i64 ((ds.getD k default).kind)), (Value.int .i64 ((ds.getD k default).e.sector)), (Value.int .i64 ((ds.getD k default).e.kind)), (Value.slice ((ds.getD k default).e.da) ((ds.getD k default).e.data.length) ((ds.getD k default).e.dc)), (Value.slice ((ds.getD k default).la) ((ds.getD k default).l.length) ((ds.getD k default).lc))] 50, F] w315 := sat_sel' [3, 4, 0, 1, 2, 5, 6, 7, 8] hs318 (by kernel_rfl) (by kernel_rfl)
                                  have hs328 : sat W0 [RefRep b33 ys most size, ShD W0 ((none, []) :: D), SL false 3 (some ⟨b308, 0, none⟩) ([(⟨0, 0, none, 0, []⟩ : BEnt)].length) 1 (([(⟨0, 0, none, 0, []⟩ : BEnt)]).flatMap encB), SL false 3 (some ⟨b303, 0, none⟩) ([(⟨0, 0, none, 0, []⟩ : BEnt)].length) 1 (([(⟨0, 0, none, 0, []⟩ : BEnt)]).flatMap encB), blk b243 [(Value.int .i64 0), (Value.int .i64 0), (Value.slice none 0 0)] 48, BufRep b_21 xs most size, blk b59 [(Value.int .i64 ((ds.getD k default).kind)), (Value.int .i64 ((ds.getD k default).e.sector)), (Value.int .i64 ((ds.getD k default).e.kind)), (Value.slice ((ds.getD k default).e.da) ((ds.getD k default).e.data.length) ((ds.getD k default).e.dc)), (Value.slice ((ds.getD k default).la) ((ds.getD k default).l.length) ((ds.getD k default).lc))] 50, F] w315 := RefRep_close a1_269 c1_270 trivial hs327
                                  have hs329 : sat W0 [ShD W0 ((none, []) :: D), RefRep b33 ys most size, BufRep b_21 xs most size, F] w315 := sat_sub' [1, 0, 5, 7] [2, 3, 4, 6] hs328 (by kernel_rfl) (by kernel_rfl)
                                  exact ⟨m, xs, ys, ((none, []) :: D), he45, he46, he47, rfl, rfl, he48, he49, he50, rfl, rfl, rfl, rfl, rfl, rfl, rfl, rfl, (Eq.trans (b := .bool (decide ((((ds.getD k default).e.data.length : Nat) : Int) > 200))) rfl (congrArg Value.bool (decide_eq_false hc65))), rfl, rfl, rfl, rfl, rfl, hok_, hm_, hmr_, hm265, hm266, hd267, hs329⟩
                                exact WAs.nil
                              exact WAs.nil
                            refine WAs.consG (oi := (Go.Oper.mk (some 125) (Go.Op.buildSlice 44 1 #[(0, (Go.Operand.tmp 124))]) 44 "law.go:65" #[(Go.Edge.mk 25 Go.Ground.data), (Go.Edge.mk 22 Go.Ground.guard)] (some (22, true)))) rfl rfl rfl rfl ?_ ?_
                            · refine OP.buildSlice (el := 48) [(0, (Value.agg [(Value.int .i64 0), (Value.int .i64 0), (Value.slice none 0 0)].toArray))] [(Value.int .i64 0), (Value.int .i64 0), (Value.slice none 0 0)] hs274 rfl (fun _ => by kernel_rfl) (by decide) (fun b330 w331 hs332 => ?_)
                              have hs333 : sat W0 [SL false 3 (some ⟨b330, 0, none⟩) 1 1 ([(Value.int .i64 0), (Value.int .i64 0), (Value.slice none 0 0)]), blk b33 [(Value.slice a1_269 ys.length c1_270), (Value.int .i64 most), (Value.int .i64 size)] 46, SL false 3 a1_269 ys.length c1_270 (ys.flatMap encB), ShD W0 ((none, []) :: D), blk b243 [(Value.int .i64 0), (Value.int .i64 0), (Value.slice none 0 0)] 48, BufRep b_21 xs most size, blk b59 [(Value.int .i64 ((ds.getD k default).kind)), (Value.int .i64 ((ds.getD k default).e.sector)), (Value.int .i64 ((ds.getD k default).e.kind)), (Value.slice ((ds.getD k default).e.da) ((ds.getD k default).e.data.length) ((ds.getD k default).e.dc)), (Value.slice ((ds.getD k default).la) ((ds.getD k default).l.length) ((ds.getD k default).lc))] 50, F] w331 := sat_SL_blk rfl hs332
                              have hs334 : sat W0 [SL false 3 (some ⟨b330, 0, none⟩) ([(⟨0, 0, none, 0, []⟩ : BEnt)].length) 1 (([(⟨0, 0, none, 0, []⟩ : BEnt)]).flatMap encB), blk b33 [(Value.slice a1_269 ys.length c1_270), (Value.int .i64 most), (Value.int .i64 size)] 46, SL false 3 a1_269 ys.length c1_270 (ys.flatMap encB), ShD W0 ((none, []) :: D), blk b243 [(Value.int .i64 0), (Value.int .i64 0), (Value.slice none 0 0)] 48, BufRep b_21 xs most size, blk b59 [(Value.int .i64 ((ds.getD k default).kind)), (Value.int .i64 ((ds.getD k default).e.sector)), (Value.int .i64 ((ds.getD k default).e.kind)), (Value.slice ((ds.getD k default).e.da) ((ds.getD k default).e.data.length) ((ds.getD k default).e.dc)), (Value.slice ((ds.getD k default).la) ((ds.getD k default).l.length) ((ds.getD k default).lc))] 50, F] w331 := hs333
                              refine ⟨?_, ?_⟩
                              · exact sat_sub' [1, 2, 3, 4, 5, 6, 7] [0] hs334 (by kernel_rfl) (by kernel_rfl)
                              refine WA.all [24] (by kernel_rfl) (by simp) ?_
                              refine WAs.consG (oi := (Go.Oper.mk (some 123) (Go.Op.buildSlice 44 1 #[(0, (Go.Operand.tmp 122))]) 44 "law.go:65" #[(Go.Edge.mk 23 Go.Ground.data), (Go.Edge.mk 22 Go.Ground.guard)] (some (22, true)))) rfl rfl rfl rfl ?_ ?_
                              · refine OP.buildSlice (el := 48) [(0, (Value.agg [(Value.int .i64 0), (Value.int .i64 0), (Value.slice none 0 0)].toArray))] [(Value.int .i64 0), (Value.int .i64 0), (Value.slice none 0 0)] hs334 rfl (fun _ => by kernel_rfl) (by decide) (fun b335 w336 hs337 => ?_)
                                have hs338 : sat W0 [SL false 3 (some ⟨b335, 0, none⟩) 1 1 ([(Value.int .i64 0), (Value.int .i64 0), (Value.slice none 0 0)]), SL false 3 (some ⟨b330, 0, none⟩) ([(⟨0, 0, none, 0, []⟩ : BEnt)].length) 1 (([(⟨0, 0, none, 0, []⟩ : BEnt)]).flatMap encB), blk b33 [(Value.slice a1_269 ys.length c1_270), (Value.int .i64 most), (Value.int .i64 size)] 46, SL false 3 a1_269 ys.length c1_270 (ys.flatMap encB), ShD W0 ((none, []) :: D), blk b243 [(Value.int .i64 0), (Value.int .i64 0), (Value.slice none 0 0)] 48, BufRep b_21 xs most size, blk b59 [(Value.int .i64 ((ds.getD k default).kind)), (Value.int .i64 ((ds.getD k default).e.sector)), (Value.int .i64 ((ds.getD k default).e.kind)), (Value.slice ((ds.getD k default).e.da) ((ds.getD k default).e.data.length) ((ds.getD k default).e.dc)), (Value.slice ((ds.getD k default).la) ((ds.getD k default).l.length) ((ds.getD k default).lc))] 50, F] w336 := sat_SL_blk rfl hs337
                                have hs339 : sat W0 [SL false 3 (some ⟨b335, 0, none⟩) ([(⟨0, 0, none, 0, []⟩ : BEnt)].length) 1 (([(⟨0, 0, none, 0, []⟩ : BEnt)]).flatMap encB), SL false 3 (some ⟨b330, 0, none⟩) ([(⟨0, 0, none, 0, []⟩ : BEnt)].length) 1 (([(⟨0, 0, none, 0, []⟩ : BEnt)]).flatMap encB), blk b33 [(Value.slice a1_269 ys.length c1_270), (Value.int .i64 most), (Value.int .i64 size)] 46, SL false 3 a1_269 ys.length c1_270 (ys.flatMap encB), ShD W0 ((none, []) :: D), blk b243 [(Value.int .i64 0), (Value.int .i64 0), (Value.slice none 0 0)] 48, BufRep b_21 xs most size, blk b59 [(Value.int .i64 ((ds.getD k default).kind)), (Value.int .i64 ((ds.getD k default).e.sector)), (Value.int .i64 ((ds.getD k default).e.kind)), (Value.slice ((ds.getD k default).e.da) ((ds.getD k default).e.data.length) ((ds.getD k default).e.dc)), (Value.slice ((ds.getD k default).la) ((ds.getD k default).l.length) ((ds.getD k default).lc))] 50, F] w336 := hs338
                                refine ⟨?_, ?_⟩
                                · exact sat_sub' [2, 3, 4, 5, 6, 7, 8] [0, 1] hs339 (by kernel_rfl) (by kernel_rfl)
                                refine WA.all [27] (by kernel_rfl) (by simp) ?_
                                refine WAs.consG (oi := (Go.Oper.mk (some 126) (Go.Op.call (Go.Call.mk (Go.Callee.value (Go.Operand.func 19)) #[(Go.Operand.tmp 123), (Go.Operand.tmp 125)] #[44, 44])) 4 "law.go:65" #[(Go.Edge.mk 24 Go.Ground.data), (Go.Edge.mk 26 Go.Ground.data), (Go.Edge.mk 22 Go.Ground.chain), (Go.Edge.mk 22 Go.Ground.guard)] (some (22, true)))) rfl rfl rfl rfl ?_ ?_
                                · have hs340 : sat W0 [ShD W0 ((none, []) :: D), SL false 3 (some ⟨b335, 0, none⟩) ([(⟨0, 0, none, 0, []⟩ : BEnt)].length) 1 (([(⟨0, 0, none, 0, []⟩ : BEnt)]).flatMap encB), SL false 3 (some ⟨b330, 0, none⟩) ([(⟨0, 0, none, 0, []⟩ : BEnt)].length) 1 (([(⟨0, 0, none, 0, []⟩ : BEnt)]).flatMap encB), blk b33 [(Value.slice a1_269 ys.length c1_270), (Value.int .i64 most), (Value.int .i64 size)] 46, SL false 3 a1_269 ys.length c1_270 (ys.flatMap encB), blk b243 [(Value.int .i64 0), (Value.int .i64 0), (Value.slice none 0 0)] 48, BufRep b_21 xs most size, blk b59 [(Value.int .i64 ((ds.getD k default).kind)), (Value.int .i64 ((ds.getD k default).e.sector)), (Value.int .i64 ((ds.getD k default).e.kind)), (Value.slice ((ds.getD k default).e.da) ((ds.getD k default).e.data.length) ((ds.getD k default).e.dc)), (Value.slice ((ds.getD k default).la) ((ds.getD k default).l.length) ((ds.getD k default).lc))] 50, F] w336 := sat_sel' [4, 0, 1, 2, 3, 5, 6, 7, 8] hs339 (by kernel_rfl) (by kernel_rfl)
                                  have hs341 : sat W0 [ShD W0 ((none, []) :: D), stars [SL false 3 (some ⟨b335, 0, none⟩) ([(⟨0, 0, none, 0, []⟩ : BEnt)].length) 1 (([(⟨0, 0, none, 0, []⟩ : BEnt)]).flatMap encB), SL false 3 (some ⟨b330, 0, none⟩) ([(⟨0, 0, none, 0, []⟩ : BEnt)].length) 1 (([(⟨0, 0, none, 0, []⟩ : BEnt)]).flatMap encB), blk b33 [(Value.slice a1_269 ys.length c1_270), (Value.int .i64 most), (Value.int .i64 size)] 46, SL false 3 a1_269 ys.length c1_270 (ys.flatMap encB), blk b243 [(Value.int .i64 0), (Value.int .i64 0), (Value.slice none 0 0)] 48, BufRep b_21 xs most size, blk b59 [(Value.int .i64 ((ds.getD k default).kind)), (Value.int .i64 ((ds.getD k default).e.sector)), (Value.int .i64 ((ds.getD k default).e.kind)), (Value.slice ((ds.getD k default).e.da) ((ds.getD k default).e.data.length) ((ds.getD k default).e.dc)), (Value.slice ((ds.getD k default).la) ((ds.getD k default).l.length) ((ds.getD k default).lc))] 50, F]] w336 := sat_pack' [ShD W0 ((none, []) :: D)] [SL false 3 (some ⟨b335, 0, none⟩) ([(⟨0, 0, none, 0, []⟩ : BEnt)].length) 1 (([(⟨0, 0, none, 0, []⟩ : BEnt)]).flatMap encB), SL false 3 (some ⟨b330, 0, none⟩) ([(⟨0, 0, none, 0, []⟩ : BEnt)].length) 1 (([(⟨0, 0, none, 0, []⟩ : BEnt)]).flatMap encB), blk b33 [(Value.slice a1_269 ys.length c1_270), (Value.int .i64 most), (Value.int .i64 size)] 46, SL false 3 a1_269 ys.length c1_270 (ys.flatMap encB), blk b243 [(Value.int .i64 0), (Value.int .i64 0), (Value.slice none 0 0)] 48, BufRep b_21 xs most size, blk b59 [(Value.int .i64 ((ds.getD k default).kind)), (Value.int .i64 ((ds.getD k default).e.sector)), (Value.int .i64 ((ds.getD k default).e.kind)), (Value.slice ((ds.getD k default).e.da) ((ds.getD k default).e.data.length) ((ds.getD k default).e.dc)), (Value.slice ((ds.getD k default).la) ((ds.getD k default).l.length) ((ds.getD k default).lc))] 50, F] hs340 (by kernel_rfl) (by kernel_rfl)
                                  have hcl344 := ref29_Same (some ⟨b335, 0, none⟩) 1 ([(⟨0, 0, none, 0, []⟩ : BEnt)]) (some ⟨b330, 0, none⟩) 1 ([(⟨0, 0, none, 0, []⟩ : BEnt)]) ((none, []) :: D) (by simp) (by simp) (InD.one (List.mem_cons_self ..)) (InD.one (List.mem_cons_self ..)) (lens_one (by decide)) (lens_one (by decide)) (Ent_stars 0 rfl Ent_SL) (Ent_stars 1 rfl Ent_SL) hs341
                                  refine ?_
                                  with_reducible refine OP.call [(Value.slice (some ⟨b335, 0, none⟩) ([(⟨0, 0, none, 0, []⟩ : BEnt)].length) 1), (Value.slice (some ⟨b330, 0, none⟩) ([(⟨0, 0, none, 0, []⟩ : BEnt)].length) 1)] gf_19 ?_ ?_ hcl344 ?_
                                  · exact rfl
                                  · decide
                                  clear hcl344
                                  rintro _ w342 ⟨_, rfl, rfl, hs343⟩
                                  refine ⟨_, rfl, ?_⟩
                                  have hs345 : sat W0 [ShD W0 ((none, []) :: D), SL false 3 (some ⟨b335, 0, none⟩) ([(⟨0, 0, none, 0, []⟩ : BEnt)].length) 1 (([(⟨0, 0, none, 0, []⟩ : BEnt)]).flatMap encB), SL false 3 (some ⟨b330, 0, none⟩) ([(⟨0, 0, none, 0, []⟩ : BEnt)].length) 1 (([(⟨0, 0, none, 0, []⟩ : BEnt)]).flatMap encB), blk b33 [(Value.slice a1_269 ys.length c1_270), (Value.int .i64 most), (Value.int .i64 size)] 46, SL false 3 a1_269 ys.length c1_270 (ys.flatMap encB), blk b243 [(Value.int .i64 0), (Value.int .i64 0), (Value.slice none 0 0)] 48, BufRep b_21 xs most size, blk b59 [(Value.int .i64 ((ds.getD k default).kind)), (Value.int .i64 ((ds.getD k default).e.sector)), (Value.int .i64 ((ds.getD k default).e.kind)), (Value.slice ((ds.getD k default).e.da) ((ds.getD k default).e.data.length) ((ds.getD k default).e.dc)), (Value.slice ((ds.getD k default).la) ((ds.getD k default).l.length) ((ds.getD k default).lc))] 50, F] w342 := sat_flat' [ShD W0 ((none, []) :: D)] [SL false 3 (some ⟨b335, 0, none⟩) ([(⟨0, 0, none, 0, []⟩ : BEnt)].length) 1 (([(⟨0, 0, none, 0, []⟩ : BEnt)]).flatMap encB), SL false 3 (some ⟨b330, 0, none⟩) ([(⟨0, 0, none, 0, []⟩ : BEnt)].length) 1 (([(⟨0, 0, none, 0, []⟩ : BEnt)]).flatMap encB), blk b33 [(Value.slice a1_269 ys.length c1_270), (Value.int .i64 most), (Value.int .i64 size)] 46, SL false 3 a1_269 ys.length c1_270 (ys.flatMap encB), blk b243 [(Value.int .i64 0), (Value.int .i64 0), (Value.slice none 0 0)] 48, BufRep b_21 xs most size, blk b59 [(Value.int .i64 ((ds.getD k default).kind)), (Value.int .i64 ((ds.getD k default).e.sector)), (Value.int .i64 ((ds.getD k default).e.kind)), (Value.slice ((ds.getD k default).e.da) ((ds.getD k default).e.data.length) ((ds.getD k default).e.dc)), (Value.slice ((ds.getD k default).la) ((ds.getD k default).l.length) ((ds.getD k default).lc))] 50, F] hs343 (by kernel_rfl) (by kernel_rfl)
                                  refine ⟨?_, ?_⟩
                                  · exact sat_sub' [3, 4, 0, 5, 6, 7, 8] [1, 2] hs345 (by kernel_rfl) (by kernel_rfl)
                                  refine WA.takeG 28 rfl rfl rfl rfl rfl rfl (by kernel_rfl) (by kernel_rfl) (by kernel_rfl) ?_ (by decide) (v := (Value.bool true)) (fun w347 hw346 => OP.pickT (Value.bool true) rfl (Eq.trans (b := (Value.bool (decide (([(⟨0, 0, none, 0, []⟩ : BEnt)]).map absB = ([(⟨0, 0, none, 0, []⟩ : BEnt)]).map absB)))) rfl (congrArg Value.bool (show decide (([(⟨0, 0, none, 0, []⟩ : BEnt)]).map absB = ([(⟨0, 0, none, 0, []⟩ : BEnt)]).map absB) = true from (decide_eq_true rfl)))) (by decide) ⟨rfl, rfl⟩) ?_
                                  · exact sat_sub' [3, 4, 0, 5, 6, 7, 8] [1, 2] hs345 (by kernel_rfl) (by kernel_rfl)
                                  refine WA.takeG 29 rfl rfl rfl rfl rfl rfl (by kernel_rfl) (by kernel_rfl) (by kernel_rfl) ?_ (by decide) (v := (Value.bool true)) (fun w349 hw348 => OP.pickF (Value.bool true) rfl rfl (by decide) ⟨rfl, rfl⟩) ?_
                                  · exact sat_sub' [3, 4, 0, 5, 6, 7, 8] [1, 2] hs345 (by kernel_rfl) (by kernel_rfl)
                                  refine WA.take 30 rfl rfl rfl rfl (by kernel_rfl) (by kernel_rfl) (by kernel_rfl) ?_ (by decide) (v := (Value.bool true)) (fun w351 hw350 => OP.pickT (Value.bool true) rfl rfl (by decide) ⟨rfl, rfl⟩) ?_
                                  · exact sat_sub' [3, 4, 0, 5, 6, 7, 8] [1, 2] hs345 (by kernel_rfl) (by kernel_rfl)
                                  refine WA.take 31 rfl rfl rfl rfl (by kernel_rfl) (by kernel_rfl) (by kernel_rfl) ?_ (by decide) (v := (Value.bool true)) (fun w353 hw352 => OP.assign (Value.bool true) rfl (by decide) ⟨rfl, rfl⟩) ?_
                                  · exact sat_sub' [3, 4, 0, 5, 6, 7, 8] [1, 2] hs345 (by kernel_rfl) (by kernel_rfl)
                                  refine WA.done (by kernel_rfl) ?_
                                  refine (Qn.blk (Qn.then ?_))
                                  have hs354 : sat W0 [blk b33 [(Value.slice a1_269 ys.length c1_270), (Value.int .i64 most), (Value.int .i64 size)] 46, SL false 3 a1_269 ys.length c1_270 (ys.flatMap encB), ShD W0 ((none, []) :: D), SL false 3 (some ⟨b335, 0, none⟩) ([(⟨0, 0, none, 0, []⟩ : BEnt)].length) 1 (([(⟨0, 0, none, 0, []⟩ : BEnt)]).flatMap encB), SL false 3 (some ⟨b330, 0, none⟩) ([(⟨0, 0, none, 0, []⟩ : BEnt)].length) 1 (([(⟨0, 0, none, 0, []⟩ : BEnt)]).flatMap encB), blk b243 [(Value.int .i64 0), (Value.int .i64 0), (Value.slice none 0 0)] 48, BufRep b_21 xs most size, blk b59 [(Value.int .i64 ((ds.getD k default).kind)), (Value.int .i64 ((ds.getD k default).e.sector)), (Value.int .i64 ((ds.getD k default).e.kind)), (Value.slice ((ds.getD k default).e.da) ((ds.getD k default).e.data.length) ((ds.getD k default).e.dc)), (Value.slice ((ds.getD k default).la) ((ds.getD k default).l.length) ((ds.getD k default).lc))] 50, F] w342 := sat_sel' [3, 4, 0, 1, 2, 5, 6, 7, 8] hs345 (by kernel_rfl) (by kernel_rfl)
                                  have hs355 : sat W0 [RefRep b33 ys most size, ShD W0 ((none, []) :: D), SL false 3 (some ⟨b335, 0, none⟩) ([(⟨0, 0, none, 0, []⟩ : BEnt)].length) 1 (([(⟨0, 0, none, 0, []⟩ : BEnt)]).flatMap encB), SL false 3 (some ⟨b330, 0, none⟩) ([(⟨0, 0, none, 0, []⟩ : BEnt)].length) 1 (([(⟨0, 0, none, 0, []⟩ : BEnt)]).flatMap encB), blk b243 [(Value.int .i64 0), (Value.int .i64 0), (Value.slice none 0 0)] 48, BufRep b_21 xs most size, blk b59 [(Value.int .i64 ((ds.getD k default).kind)), (Value.int .i64 ((ds.getD k default).e.sector)), (Value.int .i64 ((ds.getD k default).e.kind)), (Value.slice ((ds.getD k default).e.da) ((ds.getD k default).e.data.length) ((ds.getD k default).e.dc)), (Value.slice ((ds.getD k default).la) ((ds.getD k default).l.length) ((ds.getD k default).lc))] 50, F] w342 := RefRep_close a1_269 c1_270 trivial hs354
                                  have hs356 : sat W0 [ShD W0 ((none, []) :: D), RefRep b33 ys most size, BufRep b_21 xs most size, F] w342 := sat_sub' [1, 0, 5, 7] [2, 3, 4, 6] hs355 (by kernel_rfl) (by kernel_rfl)
                                  exact ⟨m, xs, ys, ((none, []) :: D), he45, he46, he47, rfl, rfl, he48, he49, he50, rfl, rfl, rfl, rfl, rfl, rfl, rfl, rfl, (Eq.trans (b := .bool (decide ((((ds.getD k default).e.data.length : Nat) : Int) > 200))) rfl (congrArg Value.bool (decide_eq_false hc65))), rfl, rfl, rfl, rfl, rfl, hok_, hm_, hmr_, hm265, hm266, hd267, hs356⟩
                                exact WAs.nil
                              exact WAs.nil
                            exact WAs.nil
                        · refine W.seq ?_
                          refine W.region ?_
                          refine WL.cons rfl (OP.eqI rfl rfl (by decide) ?_)
                          refine WL.cons rfl (OP.assign (Value.bool (decide ((ds.getD k default).kind = 3))) rfl (by decide) ?_)
                          refine WL.nil (Qn.then ?_)
                          refine W.iteP (p := (ds.getD k default).kind = 3) rfl (fun hc357 => ?_) (fun hc357 => ?_)
                          · refine W.seq ?_
                            refine W.region ?_
                            refine WL.cons rfl (OP.fieldAddr 4 fo_50_2 rfl rfl (by decide) ?_)
                            refine WL.cons rfl (OP.loadS (Value.slice ((ds.getD k default).la) ((ds.getD k default).l.length) ((ds.getD k default).lc)) sc_22 rfl (sat_cell 0 hs64 rfl rfl) (by decide) ?_)
                            have hs358 : sat W0 [stars [blk b59 [(Value.int .i64 ((ds.getD k default).kind)), (Value.int .i64 ((ds.getD k default).e.sector)), (Value.int .i64 ((ds.getD k default).e.kind)), (Value.slice ((ds.getD k default).e.da) ((ds.getD k default).e.data.length) ((ds.getD k default).e.dc)), (Value.slice ((ds.getD k default).la) ((ds.getD k default).l.length) ((ds.getD k default).lc))] 50, ShD W0 D, RefRep b33 ys most size, BufRep b_21 xs most size, F]] w62 := sat_pack' [] [blk b59 [(Value.int .i64 ((ds.getD k default).kind)), (Value.int .i64 ((ds.getD k default).e.sector)), (Value.int .i64 ((ds.getD k default).e.kind)), (Value.slice ((ds.getD k default).e.da) ((ds.getD k default).e.data.length) ((ds.getD k default).e.dc)), (Value.slice ((ds.getD k default).la) ((ds.getD k default).l.length) ((ds.getD k default).lc))] 50, ShD W0 D, RefRep b33 ys most size, BufRep b_21 xs most size, F] hs64 (by kernel_rfl) (by kernel_rfl)
                            have hcl361 := law29_first ((ds.getD k default).la) ((ds.getD k default).lc) ((ds.getD k default).l) (by first | assumption | omega) (Ent_ro hel_.2) hs358
                            refine WL.cons rfl (?_)
                            with_reducible refine OP.call [(Value.slice ((ds.getD k default).la) ((ds.getD k default).l.length) ((ds.getD k default).lc))] gf_17 ?_ ?_ hcl361 ?_
                            · exact rfl
                            · decide
                            clear hcl361
                            rintro _ w359 ⟨_, rfl, rfl, hs360⟩
                            refine ⟨_, rfl, ?_⟩
                            have hs362 : sat W0 [blk b59 [(Value.int .i64 ((ds.getD k default).kind)), (Value.int .i64 ((ds.getD k default).e.sector)), (Value.int .i64 ((ds.getD k default).e.kind)), (Value.slice ((ds.getD k default).e.da) ((ds.getD k default).e.data.length) ((ds.getD k default).e.dc)), (Value.slice ((ds.getD k default).la) ((ds.getD k default).l.length) ((ds.getD k default).lc))] 50, ShD W0 D, RefRep b33 ys most size, BufRep b_21 xs most size, F] w359 := sat_flat' [] [blk b59 [(Value.int .i64 ((ds.getD k default).kind)), (Value.int .i64 ((ds.getD k default).e.sector)), (Value.int .i64 ((ds.getD k default).e.kind)), (Value.slice ((ds.getD k default).e.da) ((ds.getD k default).e.data.length) ((ds.getD k default).e.dc)), (Value.slice ((ds.getD k default).la) ((ds.getD k default).l.length) ((ds.getD k default).lc))] 50, ShD W0 D, RefRep b33 ys most size, BufRep b_21 xs most size, F] hs360 (by kernel_rfl) (by kernel_rfl)
                            refine WL.cons rfl (OP.assign (Value.int .i64 (((ds.getD k default).l).headD 0)) rfl (by decide) ?_)
                            refine WL.nil (Qn.then ?_)
                            have hs363 : sat W0 [BufRep b_21 xs most size, blk b59 [(Value.int .i64 ((ds.getD k default).kind)), (Value.int .i64 ((ds.getD k default).e.sector)), (Value.int .i64 ((ds.getD k default).e.kind)), (Value.slice ((ds.getD k default).e.da) ((ds.getD k default).e.data.length) ((ds.getD k default).e.dc)), (Value.slice ((ds.getD k default).la) ((ds.getD k default).l.length) ((ds.getD k default).lc))] 50, ShD W0 D, RefRep b33 ys most size, F] w359 := sat_sel' [3, 0, 1, 2, 4] hs362 (by kernel_rfl) (by kernel_rfl)
                            obtain ⟨a1_364, c1_365, _, hs366⟩ := BufRep_open hs363
                            have hs367 : sat W0 [blk b_21 [(Value.slice a1_364 xs.length c1_365), (Value.int .i64 most), (Value.int .i64 size)] 92, SL false 3 a1_364 xs.length c1_365 (xs.flatMap encB), blk b59 [(Value.int .i64 ((ds.getD k default).kind)), (Value.int .i64 ((ds.getD k default).e.sector)), (Value.int .i64 ((ds.getD k default).e.kind)), (Value.slice ((ds.getD k default).e.da) ((ds.getD k default).e.data.length) ((ds.getD k default).e.dc)), (Value.slice ((ds.getD k default).la) ((ds.getD k default).l.length) ((ds.getD k default).lc))] 50, ShD W0 D, RefRep b33 ys most size, F] w359 := hs366
                            have hs368 : sat W0 [RefRep b33 ys most size, blk b_21 [(Value.slice a1_364 xs.length c1_365), (Value.int .i64 most), (Value.int .i64 size)] 92, SL false 3 a1_364 xs.length c1_365 (xs.flatMap encB), blk b59 [(Value.int .i64 ((ds.getD k default).kind)), (Value.int .i64 ((ds.getD k default).e.sector)), (Value.int .i64 ((ds.getD k default).e.kind)), (Value.slice ((ds.getD k default).e.da) ((ds.getD k default).e.data.length) ((ds.getD k default).e.dc)), (Value.slice ((ds.getD k default).la) ((ds.getD k default).l.length) ((ds.getD k default).lc))] 50, ShD W0 D, F] w359 := sat_sel' [4, 0, 1, 2, 3, 5] hs367 (by kernel_rfl) (by kernel_rfl)
                            obtain ⟨a1_369, c1_370, _, hs371⟩ := RefRep_open hs368
                            have hs372 : sat W0 [blk b33 [(Value.slice a1_369 ys.length c1_370), (Value.int .i64 most), (Value.int .i64 size)] 46, SL false 3 a1_369 ys.length c1_370 (ys.flatMap encB), blk b_21 [(Value.slice a1_364 xs.length c1_365), (Value.int .i64 most), (Value.int .i64 size)] 92, SL false 3 a1_364 xs.length c1_365 (xs.flatMap encB), blk b59 [(Value.int .i64 ((ds.getD k default).kind)), (Value.int .i64 ((ds.getD k default).e.sector)), (Value.int .i64 ((ds.getD k default).e.kind)), (Value.slice ((ds.getD k default).e.da) ((ds.getD k default).e.data.length) ((ds.getD k default).e.dc)), (Value.slice ((ds.getD k default).la) ((ds.getD k default).l.length) ((ds.getD k default).lc))] 50, ShD W0 D, F] w359 := hs371
                            refine W.draw (fun w => sat W0 [blk b33 [(Value.slice a1_369 ys.length c1_370), (Value.int .i64 most), (Value.int .i64 size)] 46, SL false 3 a1_369 ys.length c1_370 (ys.flatMap encB), blk b59 [(Value.int .i64 ((ds.getD k default).kind)), (Value.int .i64 ((ds.getD k default).e.sector)), (Value.int .i64 ((ds.getD k default).e.kind)), (Value.slice ((ds.getD k default).e.da) ((ds.getD k default).e.data.length) ((ds.getD k default).e.dc)), (Value.slice ((ds.getD k default).la) ((ds.getD k default).l.length) ((ds.getD k default).lc))] 50, F] w) (by kernel_rfl) hs372 (fun w373 hs374 => ?_)
                            refine WA.take 0 rfl rfl rfl rfl (by kernel_rfl) (by kernel_rfl) (by kernel_rfl) ?_ (by decide) (v := (Value.pointer (some ⟨b_21, 0, none⟩))) (fun w376 hw375 => OP.move (Value.pointer (some ⟨b_21, 0, none⟩)) he46 (by decide) ⟨rfl, rfl⟩) ?_
                            · exact sat_sub' [0, 1, 4, 6] [2, 3, 5] hs374 (by kernel_rfl) (by kernel_rfl)
                            refine WA.take 1 rfl rfl rfl rfl (by kernel_rfl) (by kernel_rfl) (by kernel_rfl) ?_ (by decide) (v := (Value.int .i64 (((ds.getD k default).l).headD 0))) (fun w378 hw377 => OP.move (Value.int .i64 (((ds.getD k default).l).headD 0)) rfl (by decide) ⟨rfl, rfl⟩) ?_
                            · exact sat_sub' [0, 1, 4, 6] [2, 3, 5] hs374 (by kernel_rfl) (by kernel_rfl)
                            refine WA.take 3 rfl rfl rfl rfl (by kernel_rfl) (by kernel_rfl) (by kernel_rfl) ?_ (by decide) (v := (Value.pointer (some ⟨b33, 0, none⟩))) (fun w380 hw379 => OP.move (Value.pointer (some ⟨b33, 0, none⟩)) he47 (by decide) ⟨rfl, rfl⟩) ?_
                            · exact sat_sub' [0, 1, 4, 6] [2, 3, 5] hs374 (by kernel_rfl) (by kernel_rfl)
                            refine WA.take 4 rfl rfl rfl rfl (by kernel_rfl) (by kernel_rfl) (by kernel_rfl) ?_ (by decide) (v := (Value.pointer (some ⟨b33, 0, none⟩))) (fun w382 hw381 => OP.nilCheck rfl (by decide) ⟨rfl, rfl⟩) ?_
                            · exact sat_sub' [0, 1, 4, 6] [2, 3, 5] hs374 (by kernel_rfl) (by kernel_rfl)
                            refine WA.take 5 rfl rfl rfl rfl (by kernel_rfl) (by kernel_rfl) (by kernel_rfl) ?_ (by decide) (v := (Value.pointer (some ⟨b33, 0, none⟩))) (fun w384 hw383 => OP.fieldAddr 0 fo_46_0 rfl rfl (by decide) ⟨rfl, rfl⟩) ?_
                            · exact sat_sub' [0, 1, 4, 6] [2, 3, 5] hs374 (by kernel_rfl) (by kernel_rfl)
                            refine WA.take 6 rfl rfl rfl rfl (by kernel_rfl) (by kernel_rfl) (by kernel_rfl) ?_ (by decide) (v := (Value.slice a1_369 ys.length c1_370)) (fun w386 hw385 => OP.loadS (Value.slice a1_369 ys.length c1_370) sc_44 rfl (sat_cell 0 hw385 rfl rfl) (by decide) ⟨rfl, rfl⟩) ?_
                            · exact sat_sub' [0, 1, 4, 6] [2, 3, 5] hs374 (by kernel_rfl) (by kernel_rfl)
                            refine WA.take 7 rfl rfl rfl rfl (by kernel_rfl) (by kernel_rfl) (by kernel_rfl) ?_ (by decide) (v := (Value.int .i64 (((ds.getD k default).l).headD 0))) (fun w388 hw387 => OP.move (Value.int .i64 (((ds.getD k default).l).headD 0)) rfl (by decide) ⟨rfl, rfl⟩) ?_
                            · exact sat_sub' [0, 1, 4, 6] [2, 3, 5] hs374 (by kernel_rfl) (by kernel_rfl)
                            refine WA.take 8 rfl rfl rfl rfl (by kernel_rfl) (by kernel_rfl) (by kernel_rfl) ?_ (by decide) (v := (Value.int .i64 (max (((ds.getD k default).l).headD 0) 0))) (fun w390 hw389 => OP.maxI (max (((ds.getD k default).l).headD 0) 0) rfl rfl rfl (by decide) ⟨rfl, rfl⟩) ?_
                            · exact sat_sub' [0, 1, 4, 6] [2, 3, 5] hs374 (by kernel_rfl) (by kernel_rfl)
                            refine WA.take 9 rfl rfl rfl rfl (by kernel_rfl) (by kernel_rfl) (by kernel_rfl) ?_ (by decide) (v := (Value.pointer (some ⟨b33, 0, none⟩))) (fun w392 hw391 => OP.move (Value.pointer (some ⟨b33, 0, none⟩)) he47 (by decide) ⟨rfl, rfl⟩) ?_
                            · exact sat_sub' [0, 1, 4, 6] [2, 3, 5] hs374 (by kernel_rfl) (by kernel_rfl)
                            refine WA.take 10 rfl rfl rfl rfl (by kernel_rfl) (by kernel_rfl) (by kernel_rfl) ?_ (by decide) (v := (Value.pointer (some ⟨b33, 0, none⟩))) (fun w394 hw393 => OP.nilCheck rfl (by decide) ⟨rfl, rfl⟩) ?_
                            · exact sat_sub' [0, 1, 4, 6] [2, 3, 5] hs374 (by kernel_rfl) (by kernel_rfl)
                            refine WA.take 11 rfl rfl rfl rfl (by kernel_rfl) (by kernel_rfl) (by kernel_rfl) ?_ (by decide) (v := (Value.pointer (some ⟨b33, 0, none⟩))) (fun w396 hw395 => OP.fieldAddr 0 fo_46_0 rfl rfl (by decide) ⟨rfl, rfl⟩) ?_
                            · exact sat_sub' [0, 1, 4, 6] [2, 3, 5] hs374 (by kernel_rfl) (by kernel_rfl)
                            refine WA.take 12 rfl rfl rfl rfl (by kernel_rfl) (by kernel_rfl) (by kernel_rfl) ?_ (by decide) (v := (Value.slice a1_369 ys.length c1_370)) (fun w398 hw397 => OP.loadS (Value.slice a1_369 ys.length c1_370) sc_44 rfl (sat_cell 0 hw397 rfl rfl) (by decide) ⟨rfl, rfl⟩) ?_
                            · exact sat_sub' [0, 1, 4, 6] [2, 3, 5] hs374 (by kernel_rfl) (by kernel_rfl)
                            refine WA.take 13 rfl rfl rfl rfl (by kernel_rfl) (by kernel_rfl) (by kernel_rfl) ?_ (by decide) (v := (Value.int .i64 ((ys.length : Nat) : Int))) (fun w400 hw399 => OP.len Try.underlying44 rfl rfl (by decide) ⟨rfl, rfl⟩) ?_
                            · exact sat_sub' [0, 1, 4, 6] [2, 3, 5] hs374 (by kernel_rfl) (by kernel_rfl)
                            refine WA.take 14 rfl rfl rfl rfl (by kernel_rfl) (by kernel_rfl) (by kernel_rfl) ?_ (by decide) (v := (Value.int .i64 (min (max (((ds.getD k default).l).headD 0) 0) ((ys.length : Nat) : Int)))) (fun w402 hw401 => OP.minI (min (max (((ds.getD k default).l).headD 0) 0) ((ys.length : Nat) : Int)) rfl rfl rfl (by decide) ⟨rfl, rfl⟩) ?_
                            · exact sat_sub' [0, 1, 4, 6] [2, 3, 5] hs374 (by kernel_rfl) (by kernel_rfl)
                            have hnc405 : ys.length ≤ c1_370 := Ent_sat 1 rfl Ent_SLn hs374
                            have hpt406 : ((min (max ((ds.getD k default).l.headD 0) 0) (ys.length : Int)).toNat) ≤ ys.length ∧ ys.length ≤ c1_370 := ⟨(by omega), hnc405⟩
                            have hpl407 : (ys.take ((min (max ((ds.getD k default).l.headD 0) 0) (ys.length : Int)).toNat)).length = ((min (max ((ds.getD k default).l.headD 0) 0) (ys.length : Int)).toNat) := by rw [List.length_take]; omega
                            refine WA.take 15 rfl rfl rfl rfl (by kernel_rfl) (by kernel_rfl) (by kernel_rfl) ?_ (by decide) (v := (Value.slice (takA a1_369 ((min (max ((ds.getD k default).l.headD 0) 0) (ys.length : Int)).toNat)) ((ys.take ((min (max ((ds.getD k default).l.headD 0) 0) (ys.length : Int)).toNat)).length) c1_370)) (fun w404 hw403 => OP.sliceTo ((min (max ((ds.getD k default).l.headD 0) 0) (ys.length : Int)).toNat) Try.underlying44 sz_48 rfl (Eq.trans (b := (Value.int .i64 (min (max (((ds.getD k default).l).headD 0) 0) ((ys.length : Nat) : Int)))) rfl (congrArg (Value.int .i64) (by omega))) hpt406.2 (Nat.le_trans hpt406.1 hpt406.2) (by decide) ⟨congrArg (upd _ _) (congrArg (fun n_ : Nat => Value.slice (takA a1_369 ((min (max ((ds.getD k default).l.headD 0) 0) (ys.length : Int)).toNat)) n_ c1_370) hpl407.symm), rfl⟩) ?_
                            · exact sat_sub' [0, 1, 4, 6] [2, 3, 5] hs374 (by kernel_rfl) (by kernel_rfl)
                            refine WA.all [2] (by kernel_rfl) (by simp) ?_
                            refine WAs.cons (oi := (Go.Oper.mk (some 137) (Go.Op.call (Go.Call.mk (Go.Callee.value (Go.Operand.func 20)) #[(Go.Operand.tmp 135), (Go.Operand.tmp 136)] #[40, 3])) 44 "law.go:68" #[(Go.Edge.mk 0 Go.Ground.data), (Go.Edge.mk 1 Go.Ground.data)] none)) rfl rfl ?_ ?_
                            · have hs408 : sat W0 [blk b_21 [(Value.slice a1_364 xs.length c1_365), (Value.int .i64 most), (Value.int .i64 size)] 92, SL false 3 a1_364 xs.length c1_365 (xs.flatMap encB), blk b33 [(Value.slice a1_369 ys.length c1_370), (Value.int .i64 most), (Value.int .i64 size)] 46, SL false 3 a1_369 ys.length c1_370 (ys.flatMap encB), blk b59 [(Value.int .i64 ((ds.getD k default).kind)), (Value.int .i64 ((ds.getD k default).e.sector)), (Value.int .i64 ((ds.getD k default).e.kind)), (Value.slice ((ds.getD k default).e.da) ((ds.getD k default).e.data.length) ((ds.getD k default).e.dc)), (Value.slice ((ds.getD k default).la) ((ds.getD k default).l.length) ((ds.getD k default).lc))] 50, ShD W0 D, F] w373 := sat_sel' [2, 3, 0, 1, 4, 5, 6] hs374 (by kernel_rfl) (by kernel_rfl)
                              have hs409 : sat W0 [BufRep b_21 xs most size, blk b33 [(Value.slice a1_369 ys.length c1_370), (Value.int .i64 most), (Value.int .i64 size)] 46, SL false 3 a1_369 ys.length c1_370 (ys.flatMap encB), blk b59 [(Value.int .i64 ((ds.getD k default).kind)), (Value.int .i64 ((ds.getD k default).e.sector)), (Value.int .i64 ((ds.getD k default).e.kind)), (Value.slice ((ds.getD k default).e.da) ((ds.getD k default).e.data.length) ((ds.getD k default).e.dc)), (Value.slice ((ds.getD k default).la) ((ds.getD k default).l.length) ((ds.getD k default).lc))] 50, ShD W0 D, F] w373 := BufRep_close a1_364 c1_365 trivial hs408
                              have hs410 : sat W0 [BufRep b_21 xs most size, ShD W0 D, blk b33 [(Value.slice a1_369 ys.length c1_370), (Value.int .i64 most), (Value.int .i64 size)] 46, SL false 3 a1_369 ys.length c1_370 (ys.flatMap encB), blk b59 [(Value.int .i64 ((ds.getD k default).kind)), (Value.int .i64 ((ds.getD k default).e.sector)), (Value.int .i64 ((ds.getD k default).e.kind)), (Value.slice ((ds.getD k default).e.da) ((ds.getD k default).e.data.length) ((ds.getD k default).e.dc)), (Value.slice ((ds.getD k default).la) ((ds.getD k default).l.length) ((ds.getD k default).lc))] 50, F] w373 := sat_sel' [0, 4, 1, 2, 3, 5] hs409 (by kernel_rfl) (by kernel_rfl)
                              have hs411 : sat W0 [BufRep b_21 xs most size, ShD W0 D, stars [blk b33 [(Value.slice a1_369 ys.length c1_370), (Value.int .i64 most), (Value.int .i64 size)] 46, SL false 3 a1_369 ys.length c1_370 (ys.flatMap encB), blk b59 [(Value.int .i64 ((ds.getD k default).kind)), (Value.int .i64 ((ds.getD k default).e.sector)), (Value.int .i64 ((ds.getD k default).e.kind)), (Value.slice ((ds.getD k default).e.da) ((ds.getD k default).e.data.length) ((ds.getD k default).e.dc)), (Value.slice ((ds.getD k default).la) ((ds.getD k default).l.length) ((ds.getD k default).lc))] 50, F]] w373 := sat_pack' [BufRep b_21 xs most size, ShD W0 D] [blk b33 [(Value.slice a1_369 ys.length c1_370), (Value.int .i64 most), (Value.int .i64 size)] 46, SL false 3 a1_369 ys.length c1_370 (ys.flatMap encB), blk b59 [(Value.int .i64 ((ds.getD k default).kind)), (Value.int .i64 ((ds.getD k default).e.sector)), (Value.int .i64 ((ds.getD k default).e.kind)), (Value.slice ((ds.getD k default).e.da) ((ds.getD k default).e.data.length) ((ds.getD k default).e.dc)), (Value.slice ((ds.getD k default).la) ((ds.getD k default).l.length) ((ds.getD k default).lc))] 50, F] hs410 (by kernel_rfl) (by kernel_rfl)
                              have hcl421 := Buffer_Oldest b_21 xs most size m (((ds.getD k default).l).headD 0) D hm_ (by have h_ := abs_len hm_; have := hok_.len; have := hok_.big; omega) hok_.pos hp55 (abs_datl hm_ (fun y_ hy_ => Nat.le_trans (hok_.dat y_ hy_) (by decide))) (by have := hok_.len; have := hok_.big; omega) hs411
                              refine ?_
                              with_reducible refine OP.call [(Value.pointer (some ⟨b_21, 0, none⟩)), (Value.int .i64 (((ds.getD k default).l).headD 0))] gf_20 ?_ ?_ hcl421 ?_
                              · exact rfl
                              · decide
                              clear hcl421
                              rintro _ w416 ⟨_, rfl, a_412, c_413, ys_414, D_415, rfl, hq418, hq419, hq420, hs417⟩
                              refine ⟨_, rfl, ?_⟩
                              have hs422 : sat W0 [BufRep b_21 xs most size, ShD W0 D_415, SL false 3 a_412 ys_414.length c_413 (ys_414.flatMap encB), blk b33 [(Value.slice a1_369 ys.length c1_370), (Value.int .i64 most), (Value.int .i64 size)] 46, SL false 3 a1_369 ys.length c1_370 (ys.flatMap encB), blk b59 [(Value.int .i64 ((ds.getD k default).kind)), (Value.int .i64 ((ds.getD k default).e.sector)), (Value.int .i64 ((ds.getD k default).e.kind)), (Value.slice ((ds.getD k default).e.da) ((ds.getD k default).e.data.length) ((ds.getD k default).e.dc)), (Value.slice ((ds.getD k default).la) ((ds.getD k default).l.length) ((ds.getD k default).lc))] 50, F] w416 := sat_flat' [BufRep b_21 xs most size, ShD W0 D_415, SL false 3 a_412 ys_414.length c_413 (ys_414.flatMap encB)] [blk b33 [(Value.slice a1_369 ys.length c1_370), (Value.int .i64 most), (Value.int .i64 size)] 46, SL false 3 a1_369 ys.length c1_370 (ys.flatMap encB), blk b59 [(Value.int .i64 ((ds.getD k default).kind)), (Value.int .i64 ((ds.getD k default).e.sector)), (Value.int .i64 ((ds.getD k default).e.kind)), (Value.slice ((ds.getD k default).e.da) ((ds.getD k default).e.data.length) ((ds.getD k default).e.dc)), (Value.slice ((ds.getD k default).la) ((ds.getD k default).l.length) ((ds.getD k default).lc))] 50, F] hs417 (by kernel_rfl) (by kernel_rfl)
                              have hm423 := hq418 _ hex_
                              have hm424 := InD.sub hp55 hq418
                              have hm425 := InD.sub hp56 hq418
                              have hd426 := DSub.trans hp57 hq418
                              refine ⟨?_, ?_⟩
                              · exact sat_sub' [3, 4, 5, 6] [0, 1, 2] hs422 (by kernel_rfl) (by kernel_rfl)
                              refine WA.all [16] (by kernel_rfl) (by simp) ?_
                              refine WAs.cons (oi := (Go.Oper.mk (some 151) (Go.Op.call (Go.Call.mk (Go.Callee.value (Go.Operand.func 19)) #[(Go.Operand.tmp 137), (Go.Operand.tmp 150)] #[44, 44])) 4 "law.go:68" #[(Go.Edge.mk 2 Go.Ground.data), (Go.Edge.mk 15 Go.Ground.data), (Go.Edge.mk 2 Go.Ground.chain)] none)) rfl rfl ?_ ?_
                              · have hs427 : sat W0 [ShD W0 D_415, BufRep b_21 xs most size, SL false 3 a_412 ys_414.length c_413 (ys_414.flatMap encB), blk b33 [(Value.slice a1_369 ys.length c1_370), (Value.int .i64 most), (Value.int .i64 size)] 46, SL false 3 a1_369 ys.length c1_370 (ys.flatMap encB), blk b59 [(Value.int .i64 ((ds.getD k default).kind)), (Value.int .i64 ((ds.getD k default).e.sector)), (Value.int .i64 ((ds.getD k default).e.kind)), (Value.slice ((ds.getD k default).e.da) ((ds.getD k default).e.data.length) ((ds.getD k default).e.dc)), (Value.slice ((ds.getD k default).la) ((ds.getD k default).l.length) ((ds.getD k default).lc))] 50, F] w416 := sat_sel' [1, 0, 2, 3, 4, 5, 6] hs422 (by kernel_rfl) (by kernel_rfl)
                                have hs428 : sat W0 [ShD W0 D_415, stars [BufRep b_21 xs most size, SL false 3 a_412 ys_414.length c_413 (ys_414.flatMap encB), blk b33 [(Value.slice a1_369 ys.length c1_370), (Value.int .i64 most), (Value.int .i64 size)] 46, SL false 3 a1_369 ys.length c1_370 (ys.flatMap encB), blk b59 [(Value.int .i64 ((ds.getD k default).kind)), (Value.int .i64 ((ds.getD k default).e.sector)), (Value.int .i64 ((ds.getD k default).e.kind)), (Value.slice ((ds.getD k default).e.da) ((ds.getD k default).e.data.length) ((ds.getD k default).e.dc)), (Value.slice ((ds.getD k default).la) ((ds.getD k default).l.length) ((ds.getD k default).lc))] 50, F]] w416 := sat_pack' [ShD W0 D_415] [BufRep b_21 xs most size, SL false 3 a_412 ys_414.length c_413 (ys_414.flatMap encB), blk b33 [(Value.slice a1_369 ys.length c1_370), (Value.int .i64 most), (Value.int .i64 size)] 46, SL false 3 a1_369 ys.length c1_370 (ys.flatMap encB), blk b59 [(Value.int .i64 ((ds.getD k default).kind)), (Value.int .i64 ((ds.getD k default).e.sector)), (Value.int .i64 ((ds.getD k default).e.kind)), (Value.slice ((ds.getD k default).e.da) ((ds.getD k default).e.data.length) ((ds.getD k default).e.dc)), (Value.slice ((ds.getD k default).la) ((ds.getD k default).l.length) ((ds.getD k default).lc))] 50, F] hs427 (by kernel_rfl) (by kernel_rfl)
                                have hcl431 := ref29_Same a_412 c_413 ys_414 (takA a1_369 ((min (max ((ds.getD k default).l.headD 0) 0) (ys.length : Int)).toNat)) c1_370 (ys.take (min (max ((ds.getD k default).l.headD 0) 0) (ys.length : Int)).toNat) D_415 (by have h_ := congrArg List.length hq420; rw [List.length_map, List.length_take] at h_; omega) (by omega) hq419 (InD.take hm425) (abs_datl hq420 (fun y_ hy_ => Nat.le_trans (hok_.dat y_ (List.mem_of_mem_take hy_)) (by decide))) (lens_take (fun x_ hx_ => Nat.le_trans (abs_datl hmr_ hok_.dat x_ hx_) (by decide))) (Ent_stars 1 rfl Ent_SL) (fun w_ k_ => (Rd.takeR (enc := encB) (fun _ => rfl) ((min (max ((ds.getD k default).l.headD 0) 0) (ys.length : Int)).toNat) ((Ent_stars 3 rfl Ent_SL) w_ k_) hpt406.1)) hs428
                                refine ?_
                                with_reducible refine OP.call [(Value.slice a_412 ys_414.length c_413), (Value.slice (takA a1_369 ((min (max ((ds.getD k default).l.headD 0) 0) (ys.length : Int)).toNat)) ((ys.take ((min (max ((ds.getD k default).l.headD 0) 0) (ys.length : Int)).toNat)).length) c1_370)] gf_19 ?_ ?_ hcl431 ?_
                                · exact rfl
                                · decide
                                clear hcl431
                                rintro _ w429 ⟨_, rfl, rfl, hs430⟩
                                refine ⟨_, rfl, ?_⟩
                                have hs432 : sat W0 [ShD W0 D_415, BufRep b_21 xs most size, SL false 3 a_412 ys_414.length c_413 (ys_414.flatMap encB), blk b33 [(Value.slice a1_369 ys.length c1_370), (Value.int .i64 most), (Value.int .i64 size)] 46, SL false 3 a1_369 ys.length c1_370 (ys.flatMap encB), blk b59 [(Value.int .i64 ((ds.getD k default).kind)), (Value.int .i64 ((ds.getD k default).e.sector)), (Value.int .i64 ((ds.getD k default).e.kind)), (Value.slice ((ds.getD k default).e.da) ((ds.getD k default).e.data.length) ((ds.getD k default).e.dc)), (Value.slice ((ds.getD k default).la) ((ds.getD k default).l.length) ((ds.getD k default).lc))] 50, F] w429 := sat_flat' [ShD W0 D_415] [BufRep b_21 xs most size, SL false 3 a_412 ys_414.length c_413 (ys_414.flatMap encB), blk b33 [(Value.slice a1_369 ys.length c1_370), (Value.int .i64 most), (Value.int .i64 size)] 46, SL false 3 a1_369 ys.length c1_370 (ys.flatMap encB), blk b59 [(Value.int .i64 ((ds.getD k default).kind)), (Value.int .i64 ((ds.getD k default).e.sector)), (Value.int .i64 ((ds.getD k default).e.kind)), (Value.slice ((ds.getD k default).e.da) ((ds.getD k default).e.data.length) ((ds.getD k default).e.dc)), (Value.slice ((ds.getD k default).la) ((ds.getD k default).l.length) ((ds.getD k default).lc))] 50, F] hs430 (by kernel_rfl) (by kernel_rfl)
                                refine ⟨?_, ?_⟩
                                · exact sat_sub' [3, 4, 5, 6] [0, 1, 2] hs432 (by kernel_rfl) (by kernel_rfl)
                                refine WA.take 17 rfl rfl rfl rfl (by kernel_rfl) (by kernel_rfl) (by kernel_rfl) ?_ (by decide) (v := (Value.bool true)) (fun w434 hw433 => OP.assign (Value.bool true) (Eq.trans (b := (Value.bool (decide (ys_414.map absB = (ys.take (min (max ((ds.getD k default).l.headD 0) 0) (ys.length : Int)).toNat).map absB)))) rfl (congrArg Value.bool (show decide (ys_414.map absB = (ys.take (min (max ((ds.getD k default).l.headD 0) 0) (ys.length : Int)).toNat).map absB) = true from (decide_eq_true (old_same hq420 hmr_))))) (by decide) ⟨rfl, rfl⟩) ?_
                                · exact sat_sub' [3, 4, 5, 6] [0, 1, 2] hs432 (by kernel_rfl) (by kernel_rfl)
                                refine WA.done (by kernel_rfl) ?_
                                refine (Qn.blk (Qn.then ?_))
                                have hs435 : sat W0 [blk b33 [(Value.slice a1_369 ys.length c1_370), (Value.int .i64 most), (Value.int .i64 size)] 46, SL false 3 a1_369 ys.length c1_370 (ys.flatMap encB), ShD W0 D_415, BufRep b_21 xs most size, SL false 3 a_412 ys_414.length c_413 (ys_414.flatMap encB), blk b59 [(Value.int .i64 ((ds.getD k default).kind)), (Value.int .i64 ((ds.getD k default).e.sector)), (Value.int .i64 ((ds.getD k default).e.kind)), (Value.slice ((ds.getD k default).e.da) ((ds.getD k default).e.data.length) ((ds.getD k default).e.dc)), (Value.slice ((ds.getD k default).la) ((ds.getD k default).l.length) ((ds.getD k default).lc))] 50, F] w429 := sat_sel' [3, 4, 0, 1, 2, 5, 6] hs432 (by kernel_rfl) (by kernel_rfl)
                                have hs436 : sat W0 [RefRep b33 ys most size, ShD W0 D_415, BufRep b_21 xs most size, SL false 3 a_412 ys_414.length c_413 (ys_414.flatMap encB), blk b59 [(Value.int .i64 ((ds.getD k default).kind)), (Value.int .i64 ((ds.getD k default).e.sector)), (Value.int .i64 ((ds.getD k default).e.kind)), (Value.slice ((ds.getD k default).e.da) ((ds.getD k default).e.data.length) ((ds.getD k default).e.dc)), (Value.slice ((ds.getD k default).la) ((ds.getD k default).l.length) ((ds.getD k default).lc))] 50, F] w429 := RefRep_close a1_369 c1_370 trivial hs435
                                have hs437 : sat W0 [ShD W0 D_415, RefRep b33 ys most size, BufRep b_21 xs most size, F] w429 := sat_sub' [1, 0, 2, 5] [3, 4] hs436 (by kernel_rfl) (by kernel_rfl)
                                exact ⟨m, xs, ys, D_415, he45, he46, he47, rfl, rfl, he48, he49, he50, rfl, rfl, rfl, rfl, rfl, rfl, rfl, rfl, (Eq.trans (b := .bool (decide ((((ds.getD k default).e.data.length : Nat) : Int) > 200))) rfl (congrArg Value.bool (decide_eq_false hc65))), rfl, rfl, rfl, rfl, rfl, hok_, hm_, hmr_, hm424, hm425, hd426, hs437⟩
                              exact WAs.nil
                            exact WAs.nil
                          · refine W.seq ?_
                            refine W.region ?_
                            refine WL.cons rfl (OP.eqI rfl rfl (by decide) ?_)
                            refine WL.cons rfl (OP.assign (Value.bool (decide ((ds.getD k default).kind = 4))) rfl (by decide) ?_)
                            refine WL.nil (Qn.then ?_)
                            refine W.iteP (p := (ds.getD k default).kind = 4) rfl (fun hc438 => ?_) (fun hc438 => ?_)
                            · have hs439 : sat W0 [BufRep b_21 xs most size, blk b59 [(Value.int .i64 ((ds.getD k default).kind)), (Value.int .i64 ((ds.getD k default).e.sector)), (Value.int .i64 ((ds.getD k default).e.kind)), (Value.slice ((ds.getD k default).e.da) ((ds.getD k default).e.data.length) ((ds.getD k default).e.dc)), (Value.slice ((ds.getD k default).la) ((ds.getD k default).l.length) ((ds.getD k default).lc))] 50, ShD W0 D, RefRep b33 ys most size, F] w62 := sat_sel' [3, 0, 1, 2, 4] hs64 (by kernel_rfl) (by kernel_rfl)
                              obtain ⟨a1_440, c1_441, _, hs442⟩ := BufRep_open hs439
                              have hs443 : sat W0 [blk b_21 [(Value.slice a1_440 xs.length c1_441), (Value.int .i64 most), (Value.int .i64 size)] 92, SL false 3 a1_440 xs.length c1_441 (xs.flatMap encB), blk b59 [(Value.int .i64 ((ds.getD k default).kind)), (Value.int .i64 ((ds.getD k default).e.sector)), (Value.int .i64 ((ds.getD k default).e.kind)), (Value.slice ((ds.getD k default).e.da) ((ds.getD k default).e.data.length) ((ds.getD k default).e.dc)), (Value.slice ((ds.getD k default).la) ((ds.getD k default).l.length) ((ds.getD k default).lc))] 50, ShD W0 D, RefRep b33 ys most size, F] w62 := hs442
                              have hs444 : sat W0 [RefRep b33 ys most size, blk b_21 [(Value.slice a1_440 xs.length c1_441), (Value.int .i64 most), (Value.int .i64 size)] 92, SL false 3 a1_440 xs.length c1_441 (xs.flatMap encB), blk b59 [(Value.int .i64 ((ds.getD k default).kind)), (Value.int .i64 ((ds.getD k default).e.sector)), (Value.int .i64 ((ds.getD k default).e.kind)), (Value.slice ((ds.getD k default).e.da) ((ds.getD k default).e.data.length) ((ds.getD k default).e.dc)), (Value.slice ((ds.getD k default).la) ((ds.getD k default).l.length) ((ds.getD k default).lc))] 50, ShD W0 D, F] w62 := sat_sel' [4, 0, 1, 2, 3, 5] hs443 (by kernel_rfl) (by kernel_rfl)
                              obtain ⟨a1_445, c1_446, _, hs447⟩ := RefRep_open hs444
                              have hs448 : sat W0 [blk b33 [(Value.slice a1_445 ys.length c1_446), (Value.int .i64 most), (Value.int .i64 size)] 46, SL false 3 a1_445 ys.length c1_446 (ys.flatMap encB), blk b_21 [(Value.slice a1_440 xs.length c1_441), (Value.int .i64 most), (Value.int .i64 size)] 92, SL false 3 a1_440 xs.length c1_441 (xs.flatMap encB), blk b59 [(Value.int .i64 ((ds.getD k default).kind)), (Value.int .i64 ((ds.getD k default).e.sector)), (Value.int .i64 ((ds.getD k default).e.kind)), (Value.slice ((ds.getD k default).e.da) ((ds.getD k default).e.data.length) ((ds.getD k default).e.dc)), (Value.slice ((ds.getD k default).la) ((ds.getD k default).l.length) ((ds.getD k default).lc))] 50, ShD W0 D, F] w62 := hs447
                              refine W.draw (fun w => sat W0 [blk b59 [(Value.int .i64 ((ds.getD k default).kind)), (Value.int .i64 ((ds.getD k default).e.sector)), (Value.int .i64 ((ds.getD k default).e.kind)), (Value.slice ((ds.getD k default).e.da) ((ds.getD k default).e.data.length) ((ds.getD k default).e.dc)), (Value.slice ((ds.getD k default).la) ((ds.getD k default).l.length) ((ds.getD k default).lc))] 50, ShD W0 D, F] w) (by kernel_rfl) hs448 (fun w449 hs450 => ?_)
                              refine WA.take 0 rfl rfl rfl rfl (by kernel_rfl) (by kernel_rfl) (by kernel_rfl) ?_ (by decide) (v := (Value.pointer (some ⟨b_21, 0, none⟩))) (fun w452 hw451 => OP.move (Value.pointer (some ⟨b_21, 0, none⟩)) he46 (by decide) ⟨rfl, rfl⟩) ?_
                              · exact sat_sub' [4, 5, 6] [0, 1, 2, 3] hs450 (by kernel_rfl) (by kernel_rfl)
                              refine WA.take 1 rfl rfl rfl rfl (by kernel_rfl) (by kernel_rfl) (by kernel_rfl) ?_ (by decide) (v := (Value.pointer (some ⟨b59, 4, none⟩))) (fun w454 hw453 => OP.fieldAddr 4 fo_50_2 rfl rfl (by decide) ⟨rfl, rfl⟩) ?_
                              · exact sat_sub' [4, 5, 6] [0, 1, 2, 3] hs450 (by kernel_rfl) (by kernel_rfl)
                              refine WA.take 2 rfl rfl rfl rfl (by kernel_rfl) (by kernel_rfl) (by kernel_rfl) ?_ (by decide) (v := (Value.slice ((ds.getD k default).la) ((ds.getD k default).l.length) ((ds.getD k default).lc))) (fun w456 hw455 => OP.loadS (Value.slice ((ds.getD k default).la) ((ds.getD k default).l.length) ((ds.getD k default).lc)) sc_22 rfl (sat_cell 0 hw455 rfl rfl) (by decide) ⟨rfl, rfl⟩) ?_
                              · exact sat_sub' [4, 5, 6] [0, 1, 2, 3] hs450 (by kernel_rfl) (by kernel_rfl)
                              refine WA.take 4 rfl rfl rfl rfl (by kernel_rfl) (by kernel_rfl) (by kernel_rfl) ?_ (by decide) (v := (Value.pointer (some ⟨b33, 0, none⟩))) (fun w458 hw457 => OP.move (Value.pointer (some ⟨b33, 0, none⟩)) he47 (by decide) ⟨rfl, rfl⟩) ?_
                              · exact sat_sub' [4, 5, 6] [0, 1, 2, 3] hs450 (by kernel_rfl) (by kernel_rfl)
                              refine WA.take 5 rfl rfl rfl rfl (by kernel_rfl) (by kernel_rfl) (by kernel_rfl) ?_ (by decide) (v := (Value.pointer (some ⟨b59, 4, none⟩))) (fun w460 hw459 => OP.fieldAddr 4 fo_50_2 rfl rfl (by decide) ⟨rfl, rfl⟩) ?_
                              · exact sat_sub' [4, 5, 6] [0, 1, 2, 3] hs450 (by kernel_rfl) (by kernel_rfl)
                              refine WA.take 6 rfl rfl rfl rfl (by kernel_rfl) (by kernel_rfl) (by kernel_rfl) ?_ (by decide) (v := (Value.slice ((ds.getD k default).la) ((ds.getD k default).l.length) ((ds.getD k default).lc))) (fun w462 hw461 => OP.loadS (Value.slice ((ds.getD k default).la) ((ds.getD k default).l.length) ((ds.getD k default).lc)) sc_22 rfl (sat_cell 0 hw461 rfl rfl) (by decide) ⟨rfl, rfl⟩) ?_
                              · exact sat_sub' [4, 5, 6] [0, 1, 2, 3] hs450 (by kernel_rfl) (by kernel_rfl)
                              refine WA.all [3] (by kernel_rfl) (by simp) ?_
                              refine WAs.cons (oi := (Go.Oper.mk (some 157) (Go.Op.call (Go.Call.mk (Go.Callee.value (Go.Operand.func 21)) #[(Go.Operand.tmp 154), (Go.Operand.tmp 156)] #[40, 22])) 3 "law.go:70" #[(Go.Edge.mk 0 Go.Ground.data), (Go.Edge.mk 2 Go.Ground.data)] none)) rfl rfl ?_ ?_
                              · have hs463 : sat W0 [blk b_21 [(Value.slice a1_440 xs.length c1_441), (Value.int .i64 most), (Value.int .i64 size)] 92, SL false 3 a1_440 xs.length c1_441 (xs.flatMap encB), blk b33 [(Value.slice a1_445 ys.length c1_446), (Value.int .i64 most), (Value.int .i64 size)] 46, SL false 3 a1_445 ys.length c1_446 (ys.flatMap encB), blk b59 [(Value.int .i64 ((ds.getD k default).kind)), (Value.int .i64 ((ds.getD k default).e.sector)), (Value.int .i64 ((ds.getD k default).e.kind)), (Value.slice ((ds.getD k default).e.da) ((ds.getD k default).e.data.length) ((ds.getD k default).e.dc)), (Value.slice ((ds.getD k default).la) ((ds.getD k default).l.length) ((ds.getD k default).lc))] 50, ShD W0 D, F] w449 := sat_sel' [2, 3, 0, 1, 4, 5, 6] hs450 (by kernel_rfl) (by kernel_rfl)
                                have hs464 : sat W0 [BufRep b_21 xs most size, blk b33 [(Value.slice a1_445 ys.length c1_446), (Value.int .i64 most), (Value.int .i64 size)] 46, SL false 3 a1_445 ys.length c1_446 (ys.flatMap encB), blk b59 [(Value.int .i64 ((ds.getD k default).kind)), (Value.int .i64 ((ds.getD k default).e.sector)), (Value.int .i64 ((ds.getD k default).e.kind)), (Value.slice ((ds.getD k default).e.da) ((ds.getD k default).e.data.length) ((ds.getD k default).e.dc)), (Value.slice ((ds.getD k default).la) ((ds.getD k default).l.length) ((ds.getD k default).lc))] 50, ShD W0 D, F] w449 := BufRep_close a1_440 c1_441 trivial hs463
                                have hs465 : sat W0 [BufRep b_21 xs most size, stars [blk b33 [(Value.slice a1_445 ys.length c1_446), (Value.int .i64 most), (Value.int .i64 size)] 46, SL false 3 a1_445 ys.length c1_446 (ys.flatMap encB), blk b59 [(Value.int .i64 ((ds.getD k default).kind)), (Value.int .i64 ((ds.getD k default).e.sector)), (Value.int .i64 ((ds.getD k default).e.kind)), (Value.slice ((ds.getD k default).e.da) ((ds.getD k default).e.data.length) ((ds.getD k default).e.dc)), (Value.slice ((ds.getD k default).la) ((ds.getD k default).l.length) ((ds.getD k default).lc))] 50, ShD W0 D, F]] w449 := sat_pack' [BufRep b_21 xs most size] [blk b33 [(Value.slice a1_445 ys.length c1_446), (Value.int .i64 most), (Value.int .i64 size)] 46, SL false 3 a1_445 ys.length c1_446 (ys.flatMap encB), blk b59 [(Value.int .i64 ((ds.getD k default).kind)), (Value.int .i64 ((ds.getD k default).e.sector)), (Value.int .i64 ((ds.getD k default).e.kind)), (Value.slice ((ds.getD k default).e.da) ((ds.getD k default).e.data.length) ((ds.getD k default).e.dc)), (Value.slice ((ds.getD k default).la) ((ds.getD k default).l.length) ((ds.getD k default).lc))] 50, ShD W0 D, F] hs464 (by kernel_rfl) (by kernel_rfl)
                                have hcl471 := Buffer_Drop b_21 xs most size m ((ds.getD k default).la) ((ds.getD k default).lc) ((ds.getD k default).l) hm_ (by have h_ := abs_len hm_; have := hok_.len; have := hok_.big; omega) hok_.pos hok_.uniq (by omega) (Ent_ro hel_.2) hs465
                                refine ?_
                                with_reducible refine OP.call [(Value.pointer (some ⟨b_21, 0, none⟩)), (Value.slice ((ds.getD k default).la) ((ds.getD k default).l.length) ((ds.getD k default).lc))] gf_21 ?_ ?_ hcl471 ?_
                                · exact rfl
                                · decide
                                clear hcl471
                                rintro _ w467 ⟨_, rfl, xs_466, rfl, hq469, hq470, hs468⟩
                                refine ⟨_, rfl, ?_⟩
                                have hs472 : sat W0 [BufRep b_21 xs_466 most size, blk b33 [(Value.slice a1_445 ys.length c1_446), (Value.int .i64 most), (Value.int .i64 size)] 46, SL false 3 a1_445 ys.length c1_446 (ys.flatMap encB), blk b59 [(Value.int .i64 ((ds.getD k default).kind)), (Value.int .i64 ((ds.getD k default).e.sector)), (Value.int .i64 ((ds.getD k default).e.kind)), (Value.slice ((ds.getD k default).e.da) ((ds.getD k default).e.data.length) ((ds.getD k default).e.dc)), (Value.slice ((ds.getD k default).la) ((ds.getD k default).l.length) ((ds.getD k default).lc))] 50, ShD W0 D, F] w467 := sat_flat' [BufRep b_21 xs_466 most size] [blk b33 [(Value.slice a1_445 ys.length c1_446), (Value.int .i64 most), (Value.int .i64 size)] 46, SL false 3 a1_445 ys.length c1_446 (ys.flatMap encB), blk b59 [(Value.int .i64 ((ds.getD k default).kind)), (Value.int .i64 ((ds.getD k default).e.sector)), (Value.int .i64 ((ds.getD k default).e.kind)), (Value.slice ((ds.getD k default).e.da) ((ds.getD k default).e.data.length) ((ds.getD k default).e.dc)), (Value.slice ((ds.getD k default).la) ((ds.getD k default).l.length) ((ds.getD k default).lc))] 50, ShD W0 D, F] hs468 (by kernel_rfl) (by kernel_rfl)
                                refine ⟨?_, ?_⟩
                                · exact sat_sub' [3, 4, 5] [0, 1, 2] hs472 (by kernel_rfl) (by kernel_rfl)
                                refine WA.all [7] (by kernel_rfl) (by simp) ?_
                                refine WAs.cons (oi := (Go.Oper.mk (some 161) (Go.Op.call (Go.Call.mk (Go.Callee.value (Go.Operand.func 22)) #[(Go.Operand.tmp 158), (Go.Operand.tmp 160)] #[43, 22])) 3 "law.go:70" #[(Go.Edge.mk 4 Go.Ground.data), (Go.Edge.mk 6 Go.Ground.data), (Go.Edge.mk 3 Go.Ground.chain)] none)) rfl rfl ?_ ?_
                                · have hs473 : sat W0 [blk b33 [(Value.slice a1_445 ys.length c1_446), (Value.int .i64 most), (Value.int .i64 size)] 46, SL false 3 a1_445 ys.length c1_446 (ys.flatMap encB), BufRep b_21 xs_466 most size, blk b59 [(Value.int .i64 ((ds.getD k default).kind)), (Value.int .i64 ((ds.getD k default).e.sector)), (Value.int .i64 ((ds.getD k default).e.kind)), (Value.slice ((ds.getD k default).e.da) ((ds.getD k default).e.data.length) ((ds.getD k default).e.dc)), (Value.slice ((ds.getD k default).la) ((ds.getD k default).l.length) ((ds.getD k default).lc))] 50, ShD W0 D, F] w467 := sat_sel' [1, 2, 0, 3, 4, 5] hs472 (by kernel_rfl) (by kernel_rfl)
                                  have hs474 : sat W0 [RefRep b33 ys most size, BufRep b_21 xs_466 most size, blk b59 [(Value.int .i64 ((ds.getD k default).kind)), (Value.int .i64 ((ds.getD k default).e.sector)), (Value.int .i64 ((ds.getD k default).e.kind)), (Value.slice ((ds.getD k default).e.da) ((ds.getD k default).e.data.length) ((ds.getD k default).e.dc)), (Value.slice ((ds.getD k default).la) ((ds.getD k default).l.length) ((ds.getD k default).lc))] 50, ShD W0 D, F] w467 := RefRep_close a1_445 c1_446 trivial hs473
                                  have hs475 : sat W0 [RefRep b33 ys most size, stars [BufRep b_21 xs_466 most size, blk b59 [(Value.int .i64 ((ds.getD k default).kind)), (Value.int .i64 ((ds.getD k default).e.sector)), (Value.int .i64 ((ds.getD k default).e.kind)), (Value.slice ((ds.getD k default).e.da) ((ds.getD k default).e.data.length) ((ds.getD k default).e.dc)), (Value.slice ((ds.getD k default).la) ((ds.getD k default).l.length) ((ds.getD k default).lc))] 50, ShD W0 D, F]] w467 := sat_pack' [RefRep b33 ys most size] [BufRep b_21 xs_466 most size, blk b59 [(Value.int .i64 ((ds.getD k default).kind)), (Value.int .i64 ((ds.getD k default).e.sector)), (Value.int .i64 ((ds.getD k default).e.kind)), (Value.slice ((ds.getD k default).e.da) ((ds.getD k default).e.data.length) ((ds.getD k default).e.dc)), (Value.slice ((ds.getD k default).la) ((ds.getD k default).l.length) ((ds.getD k default).lc))] 50, ShD W0 D, F] hs474 (by kernel_rfl) (by kernel_rfl)
                                  have hcl481 := Ref_Drop b33 ys most size m ((ds.getD k default).la) ((ds.getD k default).lc) ((ds.getD k default).l) hmr_ (by have h_ := abs_len hmr_; have := hok_.len; have := hok_.big; omega) (by omega) (Ent_ro hel_.2) hs475
                                  refine ?_
                                  with_reducible refine OP.call [(Value.pointer (some ⟨b33, 0, none⟩)), (Value.slice ((ds.getD k default).la) ((ds.getD k default).l.length) ((ds.getD k default).lc))] gf_22 ?_ ?_ hcl481 ?_
                                  · exact rfl
                                  · decide
                                  clear hcl481
                                  rintro _ w477 ⟨_, rfl, xs_476, rfl, hq479, hq480, hs478⟩
                                  refine ⟨_, rfl, ?_⟩
                                  have hs482 : sat W0 [RefRep b33 xs_476 most size, BufRep b_21 xs_466 most size, blk b59 [(Value.int .i64 ((ds.getD k default).kind)), (Value.int .i64 ((ds.getD k default).e.sector)), (Value.int .i64 ((ds.getD k default).e.kind)), (Value.slice ((ds.getD k default).e.da) ((ds.getD k default).e.data.length) ((ds.getD k default).e.dc)), (Value.slice ((ds.getD k default).la) ((ds.getD k default).l.length) ((ds.getD k default).lc))] 50, ShD W0 D, F] w477 := sat_flat' [RefRep b33 xs_476 most size] [BufRep b_21 xs_466 most size, blk b59 [(Value.int .i64 ((ds.getD k default).kind)), (Value.int .i64 ((ds.getD k default).e.sector)), (Value.int .i64 ((ds.getD k default).e.kind)), (Value.slice ((ds.getD k default).e.da) ((ds.getD k default).e.data.length) ((ds.getD k default).e.dc)), (Value.slice ((ds.getD k default).la) ((ds.getD k default).l.length) ((ds.getD k default).lc))] 50, ShD W0 D, F] hs478 (by kernel_rfl) (by kernel_rfl)
                                  have hokn_ : OkM most (dropM m (ds.getD k default).l) := OkM.drop hok_
                                  refine ⟨?_, ?_⟩
                                  · exact sat_sub' [2, 3, 4] [0, 1] hs482 (by kernel_rfl) (by kernel_rfl)
                                  refine WA.take 8 rfl rfl rfl rfl (by kernel_rfl) (by kernel_rfl) (by kernel_rfl) ?_ (by decide) (v := (Value.bool true)) (fun w484 hw483 => OP.eqI rfl rfl (by decide) ⟨congrArg (upd _ _) (Eq.trans (b := Value.bool (decide (((m.length : Nat) : Int) - (((dropM m ((ds.getD k default).l)).length : Nat) : Int) = ((m.length : Nat) : Int) - (((dropM m ((ds.getD k default).l)).length : Nat) : Int)))) rfl (congrArg Value.bool (show decide (((m.length : Nat) : Int) - (((dropM m ((ds.getD k default).l)).length : Nat) : Int) = ((m.length : Nat) : Int) - (((dropM m ((ds.getD k default).l)).length : Nat) : Int)) = true by simp))), rfl⟩) ?_
                                  · exact sat_sub' [2, 3, 4] [0, 1] hs482 (by kernel_rfl) (by kernel_rfl)
                                  refine WA.take 9 rfl rfl rfl rfl (by kernel_rfl) (by kernel_rfl) (by kernel_rfl) ?_ (by decide) (v := (Value.bool true)) (fun w486 hw485 => OP.assign (Value.bool true) rfl (by decide) ⟨rfl, rfl⟩) ?_
                                  · exact sat_sub' [2, 3, 4] [0, 1] hs482 (by kernel_rfl) (by kernel_rfl)
                                  refine WA.done (by kernel_rfl) ?_
                                  refine (Qn.blk (Qn.then ?_))
                                  have hs487 : sat W0 [ShD W0 D, RefRep b33 xs_476 most size, BufRep b_21 xs_466 most size, F] w477 := sat_sub' [3, 0, 1, 4] [2] hs482 (by kernel_rfl) (by kernel_rfl)
                                  exact ⟨(dropM m (ds.getD k default).l), xs_466, xs_476, D, he45, he46, he47, rfl, rfl, he48, he49, he50, rfl, rfl, rfl, rfl, rfl, rfl, rfl, rfl, (Eq.trans (b := .bool (decide ((((ds.getD k default).e.data.length : Nat) : Int) > 200))) rfl (congrArg Value.bool (decide_eq_false hc65))), rfl, rfl, rfl, rfl, rfl, hokn_, hq470, hq480, (InD.of hp55 hq469), (InD.of hp56 hq479), hp57, hs487⟩
                                exact WAs.nil
                              exact WAs.nil
                            · refine W.skip (Qn.blk (Qn.then ?_))
                              have hs488 : sat W0 [ShD W0 D, RefRep b33 ys most size, BufRep b_21 xs most size, F] w62 := sat_sub' [1, 2, 3, 4] [0] hs64 (by kernel_rfl) (by kernel_rfl)
                              exact ⟨m, xs, ys, D, he45, he46, he47, rfl, rfl, he48, he49, he50, rfl, rfl, rfl, rfl, rfl, rfl, rfl, rfl, (Eq.trans (b := .bool (decide ((((ds.getD k default).e.data.length : Nat) : Int) > 200))) rfl (congrArg Value.bool (decide_eq_false hc65))), rfl, rfl, rfl, rfl, rfl, hok_, hm_, hmr_, hp55, hp56, hp57, hs488⟩
                    · rintro e489 w490 ⟨mj, xsj, ysj, Dj, he492, he493, he494, he495, he496, he497, he498, he499, he500, he501, he502, he503, he504, he505, he506, he507, he508, he509, he510, he511, he512, he513, hp514, hp515, hp516, hp517, hp518, hp519, hs491⟩
                      have hokj_ := hp514
                      have hmj_ := hp515
                      have hmrj_ := hp516
                      have halj_ := abs_len hmj_
                      have hblj_ := abs_len hmrj_
                      have holj_ := hokj_.len
                      have hobj_ := hokj_.big
                      refine W.seq ?_
                      have hs520 : sat W0 [BufRep b_21 xsj most size, ShD W0 Dj, RefRep b33 ysj most size, F] w490 := sat_sel' [2, 0, 1, 3] hs491 (by kernel_rfl) (by kernel_rfl)
                      obtain ⟨a1_521, c1_522, _, hs523⟩ := BufRep_open hs520
                      have hs524 : sat W0 [blk b_21 [(Value.slice a1_521 xsj.length c1_522), (Value.int .i64 most), (Value.int .i64 size)] 92, SL false 3 a1_521 xsj.length c1_522 (xsj.flatMap encB), ShD W0 Dj, RefRep b33 ysj most size, F] w490 := hs523
                      have hs525 : sat W0 [RefRep b33 ysj most size, blk b_21 [(Value.slice a1_521 xsj.length c1_522), (Value.int .i64 most), (Value.int .i64 size)] 92, SL false 3 a1_521 xsj.length c1_522 (xsj.flatMap encB), ShD W0 Dj, F] w490 := sat_sel' [3, 0, 1, 2, 4] hs524 (by kernel_rfl) (by kernel_rfl)
                      obtain ⟨a1_526, c1_527, _, hs528⟩ := RefRep_open hs525
                      have hs529 : sat W0 [blk b33 [(Value.slice a1_526 ysj.length c1_527), (Value.int .i64 most), (Value.int .i64 size)] 46, SL false 3 a1_526 ysj.length c1_527 (ysj.flatMap encB), blk b_21 [(Value.slice a1_521 xsj.length c1_522), (Value.int .i64 most), (Value.int .i64 size)] 92, SL false 3 a1_521 xsj.length c1_522 (xsj.flatMap encB), ShD W0 Dj, F] w490 := hs528
                      refine W.draw (fun w => sat W0 [blk b33 [(Value.slice a1_526 ysj.length c1_527), (Value.int .i64 most), (Value.int .i64 size)] 46, SL false 3 a1_526 ysj.length c1_527 (ysj.flatMap encB), F] w) (by kernel_rfl) hs529 (fun w530 hs531 => ?_)
                      refine WA.take 0 rfl rfl rfl rfl (by kernel_rfl) (by kernel_rfl) (by kernel_rfl) ?_ (by decide) (v := (Value.bool true)) (fun w533 hw532 => OP.move (Value.bool true) he496 (by decide) ⟨rfl, rfl⟩) ?_
                      · exact sat_sub' [0, 1, 5] [2, 3, 4] hs531 (by kernel_rfl) (by kernel_rfl)
                      refine WA.take 1 rfl rfl rfl rfl (by kernel_rfl) (by kernel_rfl) (by kernel_rfl) ?_ (by decide) (v := (Value.bool false)) (fun w535 hw534 => OP.not rfl (by decide) ⟨rfl, rfl⟩) ?_
                      · exact sat_sub' [0, 1, 5] [2, 3, 4] hs531 (by kernel_rfl) (by kernel_rfl)
                      refine WA.take 2 rfl rfl rfl rfl (by kernel_rfl) (by kernel_rfl) (by kernel_rfl) ?_ (by decide) (v := (Value.bool false)) (fun w537 hw536 => OP.move (Value.bool false) rfl (by decide) ⟨rfl, rfl⟩) ?_
                      · exact sat_sub' [0, 1, 5] [2, 3, 4] hs531 (by kernel_rfl) (by kernel_rfl)
                      refine WA.takeG 3 rfl rfl rfl rfl rfl rfl (by kernel_rfl) (by kernel_rfl) (by kernel_rfl) ?_ (by decide) (v := (Value.pointer (some ⟨b_21, 0, none⟩))) (fun w539 hw538 => OP.move (Value.pointer (some ⟨b_21, 0, none⟩)) he493 (by decide) ⟨rfl, rfl⟩) ?_
                      · exact sat_sub' [0, 1, 5] [2, 3, 4] hs531 (by kernel_rfl) (by kernel_rfl)
                      refine WA.takeG 5 rfl rfl rfl rfl rfl rfl (by kernel_rfl) (by kernel_rfl) (by kernel_rfl) ?_ (by decide) (v := (Value.pointer (some ⟨b33, 0, none⟩))) (fun w541 hw540 => OP.move (Value.pointer (some ⟨b33, 0, none⟩)) he494 (by decide) ⟨rfl, rfl⟩) ?_
                      · exact sat_sub' [0, 1, 5] [2, 3, 4] hs531 (by kernel_rfl) (by kernel_rfl)
                      refine WA.takeG 6 rfl rfl rfl rfl rfl rfl (by kernel_rfl) (by kernel_rfl) (by kernel_rfl) ?_ (by decide) (v := (Value.pointer (some ⟨b33, 0, none⟩))) (fun w543 hw542 => OP.nilCheck rfl (by decide) ⟨rfl, rfl⟩) ?_
                      · exact sat_sub' [0, 1, 5] [2, 3, 4] hs531 (by kernel_rfl) (by kernel_rfl)
                      refine WA.takeG 7 rfl rfl rfl rfl rfl rfl (by kernel_rfl) (by kernel_rfl) (by kernel_rfl) ?_ (by decide) (v := (Value.pointer (some ⟨b33, 0, none⟩))) (fun w545 hw544 => OP.fieldAddr 0 fo_46_0 rfl rfl (by decide) ⟨rfl, rfl⟩) ?_
                      · exact sat_sub' [0, 1, 5] [2, 3, 4] hs531 (by kernel_rfl) (by kernel_rfl)
                      refine WA.takeG 8 rfl rfl rfl rfl rfl rfl (by kernel_rfl) (by kernel_rfl) (by kernel_rfl) ?_ (by decide) (v := (Value.slice a1_526 ysj.length c1_527)) (fun w547 hw546 => OP.loadS (Value.slice a1_526 ysj.length c1_527) sc_44 rfl (sat_cell 0 hw546 rfl rfl) (by decide) ⟨rfl, rfl⟩) ?_
                      · exact sat_sub' [0, 1, 5] [2, 3, 4] hs531 (by kernel_rfl) (by kernel_rfl)
                      refine WA.takeG 9 rfl rfl rfl rfl rfl rfl (by kernel_rfl) (by kernel_rfl) (by kernel_rfl) ?_ (by decide) (v := (Value.int .i64 ((ysj.length : Nat) : Int))) (fun w549 hw548 => OP.len Try.underlying44 rfl rfl (by decide) ⟨rfl, rfl⟩) ?_
                      · exact sat_sub' [0, 1, 5] [2, 3, 4] hs531 (by kernel_rfl) (by kernel_rfl)
                      refine WA.all [4] (by kernel_rfl) (by simp) ?_
                      refine WAs.consG (oi := (Go.Oper.mk (some 167) (Go.Op.call (Go.Call.mk (Go.Callee.value (Go.Operand.func 23)) #[(Go.Operand.tmp 166)] #[40])) 3 "law.go:73" #[(Go.Edge.mk 3 Go.Ground.data), (Go.Edge.mk 2 Go.Ground.chain), (Go.Edge.mk 2 Go.Ground.guard)] (some (2, false)))) rfl rfl rfl rfl ?_ ?_
                      · have hs550 : sat W0 [blk b_21 [(Value.slice a1_521 xsj.length c1_522), (Value.int .i64 most), (Value.int .i64 size)] 92, SL false 3 a1_521 xsj.length c1_522 (xsj.flatMap encB), blk b33 [(Value.slice a1_526 ysj.length c1_527), (Value.int .i64 most), (Value.int .i64 size)] 46, SL false 3 a1_526 ysj.length c1_527 (ysj.flatMap encB), ShD W0 Dj, F] w530 := sat_sel' [2, 3, 0, 1, 4, 5] hs531 (by kernel_rfl) (by kernel_rfl)
                        have hs551 : sat W0 [BufRep b_21 xsj most size, blk b33 [(Value.slice a1_526 ysj.length c1_527), (Value.int .i64 most), (Value.int .i64 size)] 46, SL false 3 a1_526 ysj.length c1_527 (ysj.flatMap encB), ShD W0 Dj, F] w530 := BufRep_close a1_521 c1_522 trivial hs550
                        have hs552 : sat W0 [BufRep b_21 xsj most size, stars [blk b33 [(Value.slice a1_526 ysj.length c1_527), (Value.int .i64 most), (Value.int .i64 size)] 46, SL false 3 a1_526 ysj.length c1_527 (ysj.flatMap encB), ShD W0 Dj, F]] w530 := sat_pack' [BufRep b_21 xsj most size] [blk b33 [(Value.slice a1_526 ysj.length c1_527), (Value.int .i64 most), (Value.int .i64 size)] 46, SL false 3 a1_526 ysj.length c1_527 (ysj.flatMap encB), ShD W0 Dj, F] hs551 (by kernel_rfl) (by kernel_rfl)
                        have hcl555 := Buffer_Len b_21 xsj most size mj hmj_ hokj_.pos hs552
                        refine ?_
                        with_reducible refine OP.call [(Value.pointer (some ⟨b_21, 0, none⟩))] gf_23 ?_ ?_ hcl555 ?_
                        · exact rfl
                        · decide
                        clear hcl555
                        rintro _ w553 ⟨_, rfl, rfl, hs554⟩
                        refine ⟨_, rfl, ?_⟩
                        have hs556 : sat W0 [BufRep b_21 xsj most size, blk b33 [(Value.slice a1_526 ysj.length c1_527), (Value.int .i64 most), (Value.int .i64 size)] 46, SL false 3 a1_526 ysj.length c1_527 (ysj.flatMap encB), ShD W0 Dj, F] w553 := sat_flat' [BufRep b_21 xsj most size] [blk b33 [(Value.slice a1_526 ysj.length c1_527), (Value.int .i64 most), (Value.int .i64 size)] 46, SL false 3 a1_526 ysj.length c1_527 (ysj.flatMap encB), ShD W0 Dj, F] hs554 (by kernel_rfl) (by kernel_rfl)
                        refine ⟨?_, ?_⟩
                        · exact sat_sub' [1, 2, 4] [0, 3] hs556 (by kernel_rfl) (by kernel_rfl)
                        refine WA.takeG 10 rfl rfl rfl rfl rfl rfl (by kernel_rfl) (by kernel_rfl) (by kernel_rfl) ?_ (by decide) (v := (Value.bool (decide (((mj.length : Nat) : Int) ≠ ((ysj.length : Nat) : Int))))) (fun w558 hw557 => OP.neI rfl rfl (by decide) ⟨rfl, rfl⟩) ?_
                        · exact sat_sub' [1, 2, 4] [0, 3] hs556 (by kernel_rfl) (by kernel_rfl)
                        refine WA.take 11 rfl rfl rfl rfl (by kernel_rfl) (by kernel_rfl) (by kernel_rfl) ?_ (by decide) (v := (Value.bool (decide (((mj.length : Nat) : Int) ≠ ((ysj.length : Nat) : Int))))) (fun w560 hw559 => OP.pickF (Value.bool (decide (((mj.length : Nat) : Int) ≠ ((ysj.length : Nat) : Int)))) rfl rfl (by decide) ⟨rfl, rfl⟩) ?_
                        · exact sat_sub' [1, 2, 4] [0, 3] hs556 (by kernel_rfl) (by kernel_rfl)
                        refine WA.take 12 rfl rfl rfl rfl (by kernel_rfl) (by kernel_rfl) (by kernel_rfl) ?_ (by decide) (v := (Value.bool (decide (((mj.length : Nat) : Int) ≠ ((ysj.length : Nat) : Int))))) (fun w562 hw561 => OP.move (Value.bool (decide (((mj.length : Nat) : Int) ≠ ((ysj.length : Nat) : Int)))) rfl (by decide) ⟨rfl, rfl⟩) ?_
                        · exact sat_sub' [1, 2, 4] [0, 3] hs556 (by kernel_rfl) (by kernel_rfl)
                        by_cases hc563 : ((mj.length : Nat) : Int) ≠ ((ysj.length : Nat) : Int)
                        · refine WA.passG 13 rfl rfl rfl rfl (Eq.trans (b := .bool (decide (((mj.length : Nat) : Int) ≠ ((ysj.length : Nat) : Int)))) rfl (congrArg Value.bool (decide_eq_true hc563))) rfl (by kernel_rfl) (by kernel_rfl) (by kernel_rfl) ?_ (by decide) ?_
                          · exact sat_sub' [1, 2, 4] [0, 3] hs556 (by kernel_rfl) (by kernel_rfl)
                          refine WA.passG 14 rfl rfl rfl rfl (Eq.trans (b := .bool (decide (((mj.length : Nat) : Int) ≠ ((ysj.length : Nat) : Int)))) rfl (congrArg Value.bool (decide_eq_true hc563))) rfl (by kernel_rfl) (by kernel_rfl) (by kernel_rfl) ?_ (by decide) ?_
                          · exact sat_sub' [1, 2, 4] [0, 3] hs556 (by kernel_rfl) (by kernel_rfl)
                          refine WA.passG 15 rfl rfl rfl rfl (Eq.trans (b := .bool (decide (((mj.length : Nat) : Int) ≠ ((ysj.length : Nat) : Int)))) rfl (congrArg Value.bool (decide_eq_true hc563))) rfl (by kernel_rfl) (by kernel_rfl) (by kernel_rfl) ?_ (by decide) ?_
                          · exact sat_sub' [1, 2, 4] [0, 3] hs556 (by kernel_rfl) (by kernel_rfl)
                          refine WA.passG 16 rfl rfl rfl rfl (Eq.trans (b := .bool (decide (((mj.length : Nat) : Int) ≠ ((ysj.length : Nat) : Int)))) rfl (congrArg Value.bool (decide_eq_true hc563))) rfl (by kernel_rfl) (by kernel_rfl) (by kernel_rfl) ?_ (by decide) ?_
                          · exact sat_sub' [1, 2, 4] [0, 3] hs556 (by kernel_rfl) (by kernel_rfl)
                          refine WA.passG 17 rfl rfl rfl rfl (Eq.trans (b := .bool (decide (((mj.length : Nat) : Int) ≠ ((ysj.length : Nat) : Int)))) rfl (congrArg Value.bool (decide_eq_true hc563))) rfl (by kernel_rfl) (by kernel_rfl) (by kernel_rfl) ?_ (by decide) ?_
                          · exact sat_sub' [1, 2, 4] [0, 3] hs556 (by kernel_rfl) (by kernel_rfl)
                          refine WA.passG 18 rfl rfl rfl rfl (Eq.trans (b := .bool (decide (((mj.length : Nat) : Int) ≠ ((ysj.length : Nat) : Int)))) rfl (congrArg Value.bool (decide_eq_true hc563))) rfl (by kernel_rfl) (by kernel_rfl) (by kernel_rfl) ?_ (by decide) ?_
                          · exact sat_sub' [1, 2, 4] [0, 3] hs556 (by kernel_rfl) (by kernel_rfl)
                          refine WA.passG 19 rfl rfl rfl rfl (Eq.trans (b := .bool (decide (((mj.length : Nat) : Int) ≠ ((ysj.length : Nat) : Int)))) rfl (congrArg Value.bool (decide_eq_true hc563))) rfl (by kernel_rfl) (by kernel_rfl) (by kernel_rfl) ?_ (by decide) ?_
                          · exact sat_sub' [1, 2, 4] [0, 3] hs556 (by kernel_rfl) (by kernel_rfl)
                          refine WA.passG 20 rfl rfl rfl rfl (Eq.trans (b := .bool (decide (((mj.length : Nat) : Int) ≠ ((ysj.length : Nat) : Int)))) rfl (congrArg Value.bool (decide_eq_true hc563))) rfl (by kernel_rfl) (by kernel_rfl) (by kernel_rfl) ?_ (by decide) ?_
                          · exact sat_sub' [1, 2, 4] [0, 3] hs556 (by kernel_rfl) (by kernel_rfl)
                          refine WA.passG 21 rfl rfl rfl rfl (Eq.trans (b := .bool (decide (((mj.length : Nat) : Int) ≠ ((ysj.length : Nat) : Int)))) rfl (congrArg Value.bool (decide_eq_true hc563))) rfl (by kernel_rfl) (by kernel_rfl) (by kernel_rfl) ?_ (by decide) ?_
                          · exact sat_sub' [1, 2, 4] [0, 3] hs556 (by kernel_rfl) (by kernel_rfl)
                          refine WA.passG 22 rfl rfl rfl rfl (Eq.trans (b := .bool (decide (((mj.length : Nat) : Int) ≠ ((ysj.length : Nat) : Int)))) rfl (congrArg Value.bool (decide_eq_true hc563))) rfl (by kernel_rfl) (by kernel_rfl) (by kernel_rfl) ?_ (by decide) ?_
                          · exact sat_sub' [1, 2, 4] [0, 3] hs556 (by kernel_rfl) (by kernel_rfl)
                          refine WA.take 23 rfl rfl rfl rfl (by kernel_rfl) (by kernel_rfl) (by kernel_rfl) ?_ (by decide) (v := (Value.bool true)) (fun w565 hw564 => OP.pickT (Value.bool true) (Eq.trans (b := .bool (decide (((mj.length : Nat) : Int) ≠ ((ysj.length : Nat) : Int)))) rfl (congrArg Value.bool (decide_eq_true hc563))) rfl (by decide) ⟨rfl, rfl⟩) ?_
                          · exact sat_sub' [1, 2, 4] [0, 3] hs556 (by kernel_rfl) (by kernel_rfl)
                          refine WA.take 24 rfl rfl rfl rfl (by kernel_rfl) (by kernel_rfl) (by kernel_rfl) ?_ (by decide) (v := (Value.bool true)) (fun w567 hw566 => OP.move (Value.bool true) rfl (by decide) ⟨rfl, rfl⟩) ?_
                          · exact sat_sub' [1, 2, 4] [0, 3] hs556 (by kernel_rfl) (by kernel_rfl)
                          refine WA.passG 25 rfl rfl rfl rfl rfl rfl (by kernel_rfl) (by kernel_rfl) (by kernel_rfl) ?_ (by decide) ?_
                          · exact sat_sub' [1, 2, 4] [0, 3] hs556 (by kernel_rfl) (by kernel_rfl)
                          refine WA.passG 26 rfl rfl rfl rfl rfl rfl (by kernel_rfl) (by kernel_rfl) (by kernel_rfl) ?_ (by decide) ?_
                          · exact sat_sub' [1, 2, 4] [0, 3] hs556 (by kernel_rfl) (by kernel_rfl)
                          refine WA.passG 27 rfl rfl rfl rfl rfl rfl (by kernel_rfl) (by kernel_rfl) (by kernel_rfl) ?_ (by decide) ?_
                          · exact sat_sub' [1, 2, 4] [0, 3] hs556 (by kernel_rfl) (by kernel_rfl)
                          refine WA.passG 28 rfl rfl rfl rfl rfl rfl (by kernel_rfl) (by kernel_rfl) (by kernel_rfl) ?_ (by decide) ?_
                          · exact sat_sub' [1, 2, 4] [0, 3] hs556 (by kernel_rfl) (by kernel_rfl)
                          refine WA.passG 29 rfl rfl rfl rfl rfl rfl (by kernel_rfl) (by kernel_rfl) (by kernel_rfl) ?_ (by decide) ?_
                          · exact sat_sub' [1, 2, 4] [0, 3] hs556 (by kernel_rfl) (by kernel_rfl)
                          refine WA.passG 30 rfl rfl rfl rfl rfl rfl (by kernel_rfl) (by kernel_rfl) (by kernel_rfl) ?_ (by decide) ?_
                          · exact sat_sub' [1, 2, 4] [0, 3] hs556 (by kernel_rfl) (by kernel_rfl)
                          refine WA.passG 31 rfl rfl rfl rfl rfl rfl (by kernel_rfl) (by kernel_rfl) (by kernel_rfl) ?_ (by decide) ?_
                          · exact sat_sub' [1, 2, 4] [0, 3] hs556 (by kernel_rfl) (by kernel_rfl)
                          refine WA.passG 32 rfl rfl rfl rfl rfl rfl (by kernel_rfl) (by kernel_rfl) (by kernel_rfl) ?_ (by decide) ?_
                          · exact sat_sub' [1, 2, 4] [0, 3] hs556 (by kernel_rfl) (by kernel_rfl)
                          refine WA.passG 33 rfl rfl rfl rfl rfl rfl (by kernel_rfl) (by kernel_rfl) (by kernel_rfl) ?_ (by decide) ?_
                          · exact sat_sub' [1, 2, 4] [0, 3] hs556 (by kernel_rfl) (by kernel_rfl)
                          refine WA.passG 34 rfl rfl rfl rfl rfl rfl (by kernel_rfl) (by kernel_rfl) (by kernel_rfl) ?_ (by decide) ?_
                          · exact sat_sub' [1, 2, 4] [0, 3] hs556 (by kernel_rfl) (by kernel_rfl)
                          refine WA.passG 35 rfl rfl rfl rfl rfl rfl (by kernel_rfl) (by kernel_rfl) (by kernel_rfl) ?_ (by decide) ?_
                          · exact sat_sub' [1, 2, 4] [0, 3] hs556 (by kernel_rfl) (by kernel_rfl)
                          refine WA.passG 36 rfl rfl rfl rfl rfl rfl (by kernel_rfl) (by kernel_rfl) (by kernel_rfl) ?_ (by decide) ?_
                          · exact sat_sub' [1, 2, 4] [0, 3] hs556 (by kernel_rfl) (by kernel_rfl)
                          refine WA.passG 37 rfl rfl rfl rfl rfl rfl (by kernel_rfl) (by kernel_rfl) (by kernel_rfl) ?_ (by decide) ?_
                          · exact sat_sub' [1, 2, 4] [0, 3] hs556 (by kernel_rfl) (by kernel_rfl)
                          refine WA.take 38 rfl rfl rfl rfl (by kernel_rfl) (by kernel_rfl) (by kernel_rfl) ?_ (by decide) (v := (Value.bool true)) (fun w569 hw568 => OP.pickT (Value.bool true) rfl rfl (by decide) ⟨rfl, rfl⟩) ?_
                          · exact sat_sub' [1, 2, 4] [0, 3] hs556 (by kernel_rfl) (by kernel_rfl)
                          refine WA.done (by kernel_rfl) ?_
                          refine (Qn.then ?_)
                          refine W.iteT rfl ?_
                          refine W.seq ?_
                          first | cases hc563 | (exfalso; omega)
                        · refine WA.takeG 13 rfl rfl rfl rfl rfl (Eq.trans (b := .bool (decide (((mj.length : Nat) : Int) ≠ ((ysj.length : Nat) : Int)))) rfl (congrArg Value.bool (decide_eq_false hc563))) (by kernel_rfl) (by kernel_rfl) (by kernel_rfl) ?_ (by decide) (v := (Value.pointer (some ⟨b_21, 0, none⟩))) (fun w571 hw570 => OP.move (Value.pointer (some ⟨b_21, 0, none⟩)) he493 (by decide) ⟨rfl, rfl⟩) ?_
                          · exact sat_sub' [1, 2, 4] [0, 3] hs556 (by kernel_rfl) (by kernel_rfl)
                          refine WA.takeG 15 rfl rfl rfl rfl rfl (Eq.trans (b := .bool (decide (((mj.length : Nat) : Int) ≠ ((ysj.length : Nat) : Int)))) rfl (congrArg Value.bool (decide_eq_false hc563))) (by kernel_rfl) (by kernel_rfl) (by kernel_rfl) ?_ (by decide) (v := (Value.pointer (some ⟨b33, 0, none⟩))) (fun w573 hw572 => OP.move (Value.pointer (some ⟨b33, 0, none⟩)) he494 (by decide) ⟨rfl, rfl⟩) ?_
                          · exact sat_sub' [1, 2, 4] [0, 3] hs556 (by kernel_rfl) (by kernel_rfl)
                          refine WA.takeG 16 rfl rfl rfl rfl rfl (Eq.trans (b := .bool (decide (((mj.length : Nat) : Int) ≠ ((ysj.length : Nat) : Int)))) rfl (congrArg Value.bool (decide_eq_false hc563))) (by kernel_rfl) (by kernel_rfl) (by kernel_rfl) ?_ (by decide) (v := (Value.pointer (some ⟨b33, 0, none⟩))) (fun w575 hw574 => OP.nilCheck rfl (by decide) ⟨rfl, rfl⟩) ?_
                          · exact sat_sub' [1, 2, 4] [0, 3] hs556 (by kernel_rfl) (by kernel_rfl)
                          refine WA.takeG 17 rfl rfl rfl rfl rfl (Eq.trans (b := .bool (decide (((mj.length : Nat) : Int) ≠ ((ysj.length : Nat) : Int)))) rfl (congrArg Value.bool (decide_eq_false hc563))) (by kernel_rfl) (by kernel_rfl) (by kernel_rfl) ?_ (by decide) (v := (Value.pointer (some ⟨b33, 0, none⟩))) (fun w577 hw576 => OP.fieldAddr 0 fo_46_0 rfl rfl (by decide) ⟨rfl, rfl⟩) ?_
                          · exact sat_sub' [1, 2, 4] [0, 3] hs556 (by kernel_rfl) (by kernel_rfl)
                          refine WA.takeG 18 rfl rfl rfl rfl rfl (Eq.trans (b := .bool (decide (((mj.length : Nat) : Int) ≠ ((ysj.length : Nat) : Int)))) rfl (congrArg Value.bool (decide_eq_false hc563))) (by kernel_rfl) (by kernel_rfl) (by kernel_rfl) ?_ (by decide) (v := (Value.slice a1_526 ysj.length c1_527)) (fun w579 hw578 => OP.loadS (Value.slice a1_526 ysj.length c1_527) sc_44 rfl (sat_cell 0 hw578 rfl rfl) (by decide) ⟨rfl, rfl⟩) ?_
                          · exact sat_sub' [1, 2, 4] [0, 3] hs556 (by kernel_rfl) (by kernel_rfl)
                          refine WA.takeG 19 rfl rfl rfl rfl rfl (Eq.trans (b := .bool (decide (((mj.length : Nat) : Int) ≠ ((ysj.length : Nat) : Int)))) rfl (congrArg Value.bool (decide_eq_false hc563))) (by kernel_rfl) (by kernel_rfl) (by kernel_rfl) ?_ (by decide) (v := (Value.int .i64 ((ysj.length : Nat) : Int))) (fun w581 hw580 => OP.len Try.underlying44 rfl rfl (by decide) ⟨rfl, rfl⟩) ?_
                          · exact sat_sub' [1, 2, 4] [0, 3] hs556 (by kernel_rfl) (by kernel_rfl)
                          refine WA.takeG 20 rfl rfl rfl rfl rfl (Eq.trans (b := .bool (decide (((mj.length : Nat) : Int) ≠ ((ysj.length : Nat) : Int)))) rfl (congrArg Value.bool (decide_eq_false hc563))) (by kernel_rfl) (by kernel_rfl) (by kernel_rfl) ?_ (by decide) (v := (Value.int .i64 most)) (fun w583 hw582 => OP.move (Value.int .i64 most) he492 (by decide) ⟨rfl, rfl⟩) ?_
                          · exact sat_sub' [1, 2, 4] [0, 3] hs556 (by kernel_rfl) (by kernel_rfl)
                          refine WA.takeG 21 rfl rfl rfl rfl rfl (Eq.trans (b := .bool (decide (((mj.length : Nat) : Int) ≠ ((ysj.length : Nat) : Int)))) rfl (congrArg Value.bool (decide_eq_false hc563))) (by kernel_rfl) (by kernel_rfl) (by kernel_rfl) ?_ (by decide) (v := (Value.bool (decide (((ysj.length : Nat) : Int) = most)))) (fun w585 hw584 => OP.eqI rfl rfl (by decide) ⟨rfl, rfl⟩) ?_
                          · exact sat_sub' [1, 2, 4] [0, 3] hs556 (by kernel_rfl) (by kernel_rfl)
                          refine WA.all [14] (by kernel_rfl) (by simp) ?_
                          refine WAs.consG (oi := (Go.Oper.mk (some 177) (Go.Op.call (Go.Call.mk (Go.Callee.value (Go.Operand.func 24)) #[(Go.Operand.tmp 176)] #[40])) 4 "law.go:73" #[(Go.Edge.mk 13 Go.Ground.data), (Go.Edge.mk 12 Go.Ground.chain), (Go.Edge.mk 12 Go.Ground.guard)] (some (12, false)))) rfl rfl rfl (Eq.trans (b := .bool (decide (((mj.length : Nat) : Int) ≠ ((ysj.length : Nat) : Int)))) rfl (congrArg Value.bool (decide_eq_false hc563))) ?_ ?_
                          · have hs586 : sat W0 [BufRep b_21 xsj most size, stars [blk b33 [(Value.slice a1_526 ysj.length c1_527), (Value.int .i64 most), (Value.int .i64 size)] 46, SL false 3 a1_526 ysj.length c1_527 (ysj.flatMap encB), ShD W0 Dj, F]] w553 := sat_pack' [BufRep b_21 xsj most size] [blk b33 [(Value.slice a1_526 ysj.length c1_527), (Value.int .i64 most), (Value.int .i64 size)] 46, SL false 3 a1_526 ysj.length c1_527 (ysj.flatMap encB), ShD W0 Dj, F] hs556 (by kernel_rfl) (by kernel_rfl)
                            have hcl589 := Buffer_Full b_21 xsj most size mj hmj_ hokj_.pos hs586
                            refine ?_
                            with_reducible refine OP.call [(Value.pointer (some ⟨b_21, 0, none⟩))] gf_24 ?_ ?_ hcl589 ?_
                            · exact rfl
                            · decide
                            clear hcl589
                            rintro _ w587 ⟨_, rfl, rfl, hs588⟩
                            refine ⟨_, rfl, ?_⟩
                            have hs590 : sat W0 [BufRep b_21 xsj most size, blk b33 [(Value.slice a1_526 ysj.length c1_527), (Value.int .i64 most), (Value.int .i64 size)] 46, SL false 3 a1_526 ysj.length c1_527 (ysj.flatMap encB), ShD W0 Dj, F] w587 := sat_flat' [BufRep b_21 xsj most size] [blk b33 [(Value.slice a1_526 ysj.length c1_527), (Value.int .i64 most), (Value.int .i64 size)] 46, SL false 3 a1_526 ysj.length c1_527 (ysj.flatMap encB), ShD W0 Dj, F] hs588 (by kernel_rfl) (by kernel_rfl)
                            refine ⟨?_, ?_⟩
                            · exact sat_sub' [1, 2, 4] [0, 3] hs590 (by kernel_rfl) (by kernel_rfl)
                            refine WA.takeG 22 rfl rfl rfl rfl rfl (Eq.trans (b := .bool (decide (((mj.length : Nat) : Int) ≠ ((ysj.length : Nat) : Int)))) rfl (congrArg Value.bool (decide_eq_false hc563))) (by kernel_rfl) (by kernel_rfl) (by kernel_rfl) ?_ (by decide) (v := (Value.bool false)) (fun w592 hw591 => OP.neV (a := .bool (decide (((mj.length : Nat) : Int) = most))) (b := .bool (decide (((ysj.length : Nat) : Int) = most))) rfl rfl rfl rfl (run_equalB Try.underlying4 _) (by decide) ⟨congrArg (upd _ _) (Eq.trans (b := (Value.bool (!((decide (((mj.length : Nat) : Int) = most)) == (decide (((ysj.length : Nat) : Int) = most)))))) rfl (congrArg Value.bool (show (!((decide (((mj.length : Nat) : Int) = most)) == (decide (((ysj.length : Nat) : Int) = most)))) = false from (by rw [hblj_]; simp)))), rfl⟩) ?_
                            · exact sat_sub' [1, 2, 4] [0, 3] hs590 (by kernel_rfl) (by kernel_rfl)
                            refine WA.take 23 rfl rfl rfl rfl (by kernel_rfl) (by kernel_rfl) (by kernel_rfl) ?_ (by decide) (v := (Value.bool false)) (fun w594 hw593 => OP.pickF (Value.bool false) (Eq.trans (b := .bool (decide (((mj.length : Nat) : Int) ≠ ((ysj.length : Nat) : Int)))) rfl (congrArg Value.bool (decide_eq_false hc563))) rfl (by decide) ⟨rfl, rfl⟩) ?_
                            · exact sat_sub' [1, 2, 4] [0, 3] hs590 (by kernel_rfl) (by kernel_rfl)
                            refine WA.take 24 rfl rfl rfl rfl (by kernel_rfl) (by kernel_rfl) (by kernel_rfl) ?_ (by decide) (v := (Value.bool false)) (fun w596 hw595 => OP.move (Value.bool false) rfl (by decide) ⟨rfl, rfl⟩) ?_
                            · exact sat_sub' [1, 2, 4] [0, 3] hs590 (by kernel_rfl) (by kernel_rfl)
                            refine WA.takeG 25 rfl rfl rfl rfl rfl rfl (by kernel_rfl) (by kernel_rfl) (by kernel_rfl) ?_ (by decide) (v := (Value.pointer (some ⟨b_21, 0, none⟩))) (fun w598 hw597 => OP.move (Value.pointer (some ⟨b_21, 0, none⟩)) he493 (by decide) ⟨rfl, rfl⟩) ?_
                            · exact sat_sub' [1, 2, 4] [0, 3] hs590 (by kernel_rfl) (by kernel_rfl)
                            refine WA.takeG 26 rfl rfl rfl rfl rfl rfl (by kernel_rfl) (by kernel_rfl) (by kernel_rfl) ?_ (by decide) (v := (Value.pointer (some ⟨b33, 0, none⟩))) (fun w600 hw599 => OP.move (Value.pointer (some ⟨b33, 0, none⟩)) he494 (by decide) ⟨rfl, rfl⟩) ?_
                            · exact sat_sub' [1, 2, 4] [0, 3] hs590 (by kernel_rfl) (by kernel_rfl)
                            refine WA.takeG 27 rfl rfl rfl rfl rfl rfl (by kernel_rfl) (by kernel_rfl) (by kernel_rfl) ?_ (by decide) (v := (Value.pointer (some ⟨b33, 0, none⟩))) (fun w602 hw601 => OP.nilCheck rfl (by decide) ⟨rfl, rfl⟩) ?_
                            · exact sat_sub' [1, 2, 4] [0, 3] hs590 (by kernel_rfl) (by kernel_rfl)
                            refine WA.takeG 28 rfl rfl rfl rfl rfl rfl (by kernel_rfl) (by kernel_rfl) (by kernel_rfl) ?_ (by decide) (v := (Value.pointer (some ⟨b33, 0, none⟩))) (fun w604 hw603 => OP.fieldAddr 0 fo_46_0 rfl rfl (by decide) ⟨rfl, rfl⟩) ?_
                            · exact sat_sub' [1, 2, 4] [0, 3] hs590 (by kernel_rfl) (by kernel_rfl)
                            refine WA.takeG 29 rfl rfl rfl rfl rfl rfl (by kernel_rfl) (by kernel_rfl) (by kernel_rfl) ?_ (by decide) (v := (Value.slice a1_526 ysj.length c1_527)) (fun w606 hw605 => OP.loadS (Value.slice a1_526 ysj.length c1_527) sc_44 rfl (sat_cell 0 hw605 rfl rfl) (by decide) ⟨rfl, rfl⟩) ?_
                            · exact sat_sub' [1, 2, 4] [0, 3] hs590 (by kernel_rfl) (by kernel_rfl)
                            refine WA.takeG 30 rfl rfl rfl rfl rfl rfl (by kernel_rfl) (by kernel_rfl) (by kernel_rfl) ?_ (by decide) (v := (Value.int .i64 ((ysj.length : Nat) : Int))) (fun w608 hw607 => OP.len Try.underlying44 rfl rfl (by decide) ⟨rfl, rfl⟩) ?_
                            · exact sat_sub' [1, 2, 4] [0, 3] hs590 (by kernel_rfl) (by kernel_rfl)
                            refine WA.takeG 32 rfl rfl rfl rfl rfl rfl (by kernel_rfl) (by kernel_rfl) (by kernel_rfl) ?_ (by decide) (v := (Value.pointer (some ⟨b33, 0, none⟩))) (fun w610 hw609 => OP.move (Value.pointer (some ⟨b33, 0, none⟩)) he494 (by decide) ⟨rfl, rfl⟩) ?_
                            · exact sat_sub' [1, 2, 4] [0, 3] hs590 (by kernel_rfl) (by kernel_rfl)
                            refine WA.takeG 33 rfl rfl rfl rfl rfl rfl (by kernel_rfl) (by kernel_rfl) (by kernel_rfl) ?_ (by decide) (v := (Value.pointer (some ⟨b33, 0, none⟩))) (fun w612 hw611 => OP.nilCheck rfl (by decide) ⟨rfl, rfl⟩) ?_
                            · exact sat_sub' [1, 2, 4] [0, 3] hs590 (by kernel_rfl) (by kernel_rfl)
                            refine WA.takeG 34 rfl rfl rfl rfl rfl rfl (by kernel_rfl) (by kernel_rfl) (by kernel_rfl) ?_ (by decide) (v := (Value.pointer (some ⟨b33, 0, none⟩))) (fun w614 hw613 => OP.fieldAddr 0 fo_46_0 rfl rfl (by decide) ⟨rfl, rfl⟩) ?_
                            · exact sat_sub' [1, 2, 4] [0, 3] hs590 (by kernel_rfl) (by kernel_rfl)
                            refine WA.takeG 35 rfl rfl rfl rfl rfl rfl (by kernel_rfl) (by kernel_rfl) (by kernel_rfl) ?_ (by decide) (v := (Value.slice a1_526 ysj.length c1_527)) (fun w616 hw615 => OP.loadS (Value.slice a1_526 ysj.length c1_527) sc_44 rfl (sat_cell 0 hw615 rfl rfl) (by decide) ⟨rfl, rfl⟩) ?_
                            · exact sat_sub' [1, 2, 4] [0, 3] hs590 (by kernel_rfl) (by kernel_rfl)
                            refine WA.all [31] (by kernel_rfl) (by simp) ?_
                            refine WAs.consG (oi := (Go.Oper.mk (some 194) (Go.Op.call (Go.Call.mk (Go.Callee.value (Go.Operand.func 20)) #[(Go.Operand.tmp 188), (Go.Operand.tmp 193)] #[40, 3])) 44 "law.go:73" #[(Go.Edge.mk 25 Go.Ground.data), (Go.Edge.mk 30 Go.Ground.data), (Go.Edge.mk 24 Go.Ground.chain), (Go.Edge.mk 24 Go.Ground.guard)] (some (24, false)))) rfl rfl rfl rfl ?_ ?_
                            · have hs617 : sat W0 [BufRep b_21 xsj most size, ShD W0 Dj, blk b33 [(Value.slice a1_526 ysj.length c1_527), (Value.int .i64 most), (Value.int .i64 size)] 46, SL false 3 a1_526 ysj.length c1_527 (ysj.flatMap encB), F] w587 := sat_sel' [0, 3, 1, 2, 4] hs590 (by kernel_rfl) (by kernel_rfl)
                              have hs618 : sat W0 [BufRep b_21 xsj most size, ShD W0 Dj, stars [blk b33 [(Value.slice a1_526 ysj.length c1_527), (Value.int .i64 most), (Value.int .i64 size)] 46, SL false 3 a1_526 ysj.length c1_527 (ysj.flatMap encB), F]] w587 := sat_pack' [BufRep b_21 xsj most size, ShD W0 Dj] [blk b33 [(Value.slice a1_526 ysj.length c1_527), (Value.int .i64 most), (Value.int .i64 size)] 46, SL false 3 a1_526 ysj.length c1_527 (ysj.flatMap encB), F] hs617 (by kernel_rfl) (by kernel_rfl)
                              have hcl628 := Buffer_Oldest b_21 xsj most size mj ((ysj.length : Nat) : Int) Dj hmj_ (by have h_ := abs_len hmj_; have := hokj_.len; have := hokj_.big; omega) hokj_.pos hp517 (abs_datl hmj_ (fun y_ hy_ => Nat.le_trans (hokj_.dat y_ hy_) (by decide))) (by have := hokj_.len; have := hokj_.big; omega) hs618
                              refine ?_
                              with_reducible refine OP.call [(Value.pointer (some ⟨b_21, 0, none⟩)), (Value.int .i64 ((ysj.length : Nat) : Int))] gf_20 ?_ ?_ hcl628 ?_
                              · exact rfl
                              · decide
                              clear hcl628
                              rintro _ w623 ⟨_, rfl, a_619, c_620, ys_621, D_622, rfl, hq625, hq626, hq627, hs624⟩
                              refine ⟨_, rfl, ?_⟩
                              have hs629 : sat W0 [BufRep b_21 xsj most size, ShD W0 D_622, SL false 3 a_619 ys_621.length c_620 (ys_621.flatMap encB), blk b33 [(Value.slice a1_526 ysj.length c1_527), (Value.int .i64 most), (Value.int .i64 size)] 46, SL false 3 a1_526 ysj.length c1_527 (ysj.flatMap encB), F] w623 := sat_flat' [BufRep b_21 xsj most size, ShD W0 D_622, SL false 3 a_619 ys_621.length c_620 (ys_621.flatMap encB)] [blk b33 [(Value.slice a1_526 ysj.length c1_527), (Value.int .i64 most), (Value.int .i64 size)] 46, SL false 3 a1_526 ysj.length c1_527 (ysj.flatMap encB), F] hs624 (by kernel_rfl) (by kernel_rfl)
                              have hm630 := InD.sub hp517 hq625
                              have hm631 := InD.sub hp518 hq625
                              have hd632 := DSub.trans hp519 hq625
                              refine ⟨?_, ?_⟩
                              · exact sat_sub' [3, 4, 5] [0, 1, 2] hs629 (by kernel_rfl) (by kernel_rfl)
                              refine WA.all [36] (by kernel_rfl) (by simp) ?_
                              refine WAs.consG (oi := (Go.Oper.mk (some 199) (Go.Op.call (Go.Call.mk (Go.Callee.value (Go.Operand.func 19)) #[(Go.Operand.tmp 194), (Go.Operand.tmp 198)] #[44, 44])) 4 "law.go:73" #[(Go.Edge.mk 31 Go.Ground.data), (Go.Edge.mk 35 Go.Ground.data), (Go.Edge.mk 31 Go.Ground.chain), (Go.Edge.mk 24 Go.Ground.guard)] (some (24, false)))) rfl rfl rfl rfl ?_ ?_
                              · have hs633 : sat W0 [ShD W0 D_622, BufRep b_21 xsj most size, SL false 3 a_619 ys_621.length c_620 (ys_621.flatMap encB), blk b33 [(Value.slice a1_526 ysj.length c1_527), (Value.int .i64 most), (Value.int .i64 size)] 46, SL false 3 a1_526 ysj.length c1_527 (ysj.flatMap encB), F] w623 := sat_sel' [1, 0, 2, 3, 4, 5] hs629 (by kernel_rfl) (by kernel_rfl)
                                have hs634 : sat W0 [ShD W0 D_622, stars [BufRep b_21 xsj most size, SL false 3 a_619 ys_621.length c_620 (ys_621.flatMap encB), blk b33 [(Value.slice a1_526 ysj.length c1_527), (Value.int .i64 most), (Value.int .i64 size)] 46, SL false 3 a1_526 ysj.length c1_527 (ysj.flatMap encB), F]] w623 := sat_pack' [ShD W0 D_622] [BufRep b_21 xsj most size, SL false 3 a_619 ys_621.length c_620 (ys_621.flatMap encB), blk b33 [(Value.slice a1_526 ysj.length c1_527), (Value.int .i64 most), (Value.int .i64 size)] 46, SL false 3 a1_526 ysj.length c1_527 (ysj.flatMap encB), F] hs633 (by kernel_rfl) (by kernel_rfl)
                                have hcl637 := ref29_Same a_619 c_620 ys_621 a1_526 c1_527 ysj D_622 (by have h_ := congrArg List.length hq627; rw [List.length_map, List.length_take] at h_; omega) (by omega) hq626 hm631 (abs_datl hq627 (fun y_ hy_ => Nat.le_trans (hokj_.dat y_ (List.mem_of_mem_take hy_)) (by decide))) (fun x_ hx_ => Nat.le_trans (abs_datl hmrj_ hokj_.dat x_ hx_) (by decide)) (Ent_stars 1 rfl Ent_SL) (Ent_stars 3 rfl Ent_SL) hs634
                                refine ?_
                                with_reducible refine OP.call [(Value.slice a_619 ys_621.length c_620), (Value.slice a1_526 ysj.length c1_527)] gf_19 ?_ ?_ hcl637 ?_
                                · exact rfl
                                · decide
                                clear hcl637
                                rintro _ w635 ⟨_, rfl, rfl, hs636⟩
                                refine ⟨_, rfl, ?_⟩
                                have hs638 : sat W0 [ShD W0 D_622, BufRep b_21 xsj most size, SL false 3 a_619 ys_621.length c_620 (ys_621.flatMap encB), blk b33 [(Value.slice a1_526 ysj.length c1_527), (Value.int .i64 most), (Value.int .i64 size)] 46, SL false 3 a1_526 ysj.length c1_527 (ysj.flatMap encB), F] w635 := sat_flat' [ShD W0 D_622] [BufRep b_21 xsj most size, SL false 3 a_619 ys_621.length c_620 (ys_621.flatMap encB), blk b33 [(Value.slice a1_526 ysj.length c1_527), (Value.int .i64 most), (Value.int .i64 size)] 46, SL false 3 a1_526 ysj.length c1_527 (ysj.flatMap encB), F] hs636 (by kernel_rfl) (by kernel_rfl)
                                refine ⟨?_, ?_⟩
                                · exact sat_sub' [3, 4, 5] [0, 1, 2] hs638 (by kernel_rfl) (by kernel_rfl)
                                refine WA.takeG 37 rfl rfl rfl rfl rfl rfl (by kernel_rfl) (by kernel_rfl) (by kernel_rfl) ?_ (by decide) (v := (Value.bool false)) (fun w640 hw639 => OP.not (Eq.trans (b := (Value.bool (decide (ys_621.map absB = ysj.map absB)))) rfl (congrArg Value.bool (show decide (ys_621.map absB = ysj.map absB) = true from (decide_eq_true (old_all hq627 hmrj_))))) (by decide) ⟨rfl, rfl⟩) ?_
                                · exact sat_sub' [3, 4, 5] [0, 1, 2] hs638 (by kernel_rfl) (by kernel_rfl)
                                refine WA.take 38 rfl rfl rfl rfl (by kernel_rfl) (by kernel_rfl) (by kernel_rfl) ?_ (by decide) (v := (Value.bool false)) (fun w642 hw641 => OP.pickF (Value.bool false) rfl rfl (by decide) ⟨rfl, rfl⟩) ?_
                                · exact sat_sub' [3, 4, 5] [0, 1, 2] hs638 (by kernel_rfl) (by kernel_rfl)
                                refine WA.done (by kernel_rfl) ?_
                                refine (Qn.then ?_)
                                refine W.iteF rfl ?_
                                refine W.skip (Qn.blk (Qn.then ?_))
                                refine W.region ?_
                                refine WL.cons rfl (OP.add ((k + 1 : Nat) : Int) he499 rfl (by first | rfl | omega | simp) (by unfold inI64; omega) (by decide) ?_)
                                refine WL.cons rfl (OP.move (Value.int .i64 ((k + 1 : Nat) : Int)) rfl (by decide) ?_)
                                refine WL.nil (Qn.then ?_)
                                have hs643 : sat W0 [blk b33 [(Value.slice a1_526 ysj.length c1_527), (Value.int .i64 most), (Value.int .i64 size)] 46, SL false 3 a1_526 ysj.length c1_527 (ysj.flatMap encB), ShD W0 D_622, BufRep b_21 xsj most size, SL false 3 a_619 ys_621.length c_620 (ys_621.flatMap encB), F] w635 := sat_sel' [3, 4, 0, 1, 2, 5] hs638 (by kernel_rfl) (by kernel_rfl)
                                have hs644 : sat W0 [RefRep b33 ysj most size, ShD W0 D_622, BufRep b_21 xsj most size, SL false 3 a_619 ys_621.length c_620 (ys_621.flatMap encB), F] w635 := RefRep_close a1_526 c1_527 trivial hs643
                                have hs645 : sat W0 [ShD W0 D_622, RefRep b33 ysj most size, BufRep b_21 xsj most size, F] w635 := sat_sub' [1, 0, 2, 4] [3] hs644 (by kernel_rfl) (by kernel_rfl)
                                exact ⟨_, (by omega), (k + 1), mj, xsj, ysj, D_622, rfl, he492, he493, he494, he497, he498, (Eq.trans (b := (Value.int .i64 ((k + 1 : Nat) : Int))) rfl (congrArg (Value.int .i64) (by first | rfl | omega | simp | (simp; omega)))), (by omega), hokj_, hmj_, hmrj_, hm630, hm631, hd632, hs645⟩
                              exact WAs.nil
                            exact WAs.nil
                          exact WAs.nil
                      exact WAs.nil
              · refine W.exit (Qx.then (Qx.then (Qx.hit (Qn.then ?_))))
                refine W.seq ?_
                refine W.region ?_
                refine WL.cons rfl (OP.assign (Value.bool true) rfl (by decide) ?_)
                refine WL.nil (Qn.then ?_)
                refine W.ret (RetQ.of [(Value.bool true)] (.inr rfl) Try.results4 (.cons (.tmp (by decide) rfl) .nil) ?_)
                have hs647 : sat W0 [F] w42 := sat_sub' [3] [0, 1, 2] hs43 (by kernel_rfl) (by kernel_rfl)
                exact ⟨rfl, hs647⟩

end Go.Proofs.Ytleolejhkdolpaa
