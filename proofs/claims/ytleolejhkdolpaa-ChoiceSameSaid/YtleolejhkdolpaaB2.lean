import Derived.Test.YtleolejhkdolpaaB1
import Derived.KernelRfl
set_option linter.unusedVariables false
set_option linter.unusedSimpArgs false
set_option maxRecDepth 100000
set_option maxHeartbeats 4000000
namespace Go.Proofs.Ytleolejhkdolpaa
open Go Go.RowKit Sv
theorem ChoiceSame_spec {W0 : World} {F : HProp} {w : World}  (s : Script) (n : Int) (hS : ∀ F, ScriptR W0 F s) (hL : ScriptL s) (hn0 : 0 ≤ n ∧ n ≤ 255) 
    (hs : sat W0 [F] w) :
    Calls Try.prog 6 ([(Value.agg [(Value.slice s.busyA s.busy.length s.busyC), (Value.slice s.failsA s.fails.length s.failsC), (Value.slice s.turnsA s.turns.length s.turnsC), (Value.int .i64 s.cut), (Value.slice s.tornA s.torn.length s.tornC), (Value.slice s.markedA s.marked.length s.markedC)].toArray), (Value.int .u8 n)] : List Value).toArray w (fun x_ w' => ∃ v_, x_ = .returned v_ ∧ (v_ = (Value.bool true) ∧ sat W0 [F] w')) := by
  refine W.enter Try.func6 rfl Try.ntmps6 (by simp) ?_
  refine W.seq ?_
  refine W.region ?_
  refine WL.cons rfl (OP.box (Value.agg [(Value.slice s.busyA s.busy.length s.busyC), (Value.slice s.failsA s.fails.length s.failsC), (Value.slice s.turnsA s.turns.length s.turnsC), (Value.int .i64 s.cut), (Value.slice s.tornA s.torn.length s.tornC), (Value.slice s.markedA s.marked.length s.markedC)].toArray) [(Value.slice s.busyA s.busy.length s.busyC), (Value.slice s.failsA s.fails.length s.failsC), (Value.slice s.turnsA s.turns.length s.turnsC), (Value.int .i64 s.cut), (Value.slice s.tornA s.torn.length s.tornC), (Value.slice s.markedA s.marked.length s.markedC)] hs rfl rfl (by decide) (fun b1 w2 hs3 => ?_))
  refine WL.cons rfl (OP.assign (Value.bool false) rfl (by decide) ?_)
  refine WL.nil (Qn.then ?_)
  refine W.seq ?_
  refine W.seq ?_
  refine W.region ?_
  have hs4 : sat W0 [stars [blk b1 [(Value.slice s.busyA s.busy.length s.busyC), (Value.slice s.failsA s.fails.length s.failsC), (Value.slice s.turnsA s.turns.length s.turnsC), (Value.int .i64 s.cut), (Value.slice s.tornA s.torn.length s.tornC), (Value.slice s.markedA s.marked.length s.markedC)] 26, F]] w2 := sat_pack' [] [blk b1 [(Value.slice s.busyA s.busy.length s.busyC), (Value.slice s.failsA s.fails.length s.failsC), (Value.slice s.turnsA s.turns.length s.turnsC), (Value.int .i64 s.cut), (Value.slice s.tornA s.torn.length s.tornC), (Value.slice s.markedA s.marked.length s.markedC)] 26, F] hs3 (by kernel_rfl) (by kernel_rfl)
  have hcl7 := law12_awake  hs4
  refine WL.cons rfl (?_)
  with_reducible refine OP.call [] gf_7 ?_ ?_ hcl7 ?_
  · exact rfl
  · decide
  clear hcl7
  rintro _ w5 ⟨_, rfl, rfl, hs6⟩
  refine ⟨_, rfl, ?_⟩
  have hs8 : sat W0 [blk b1 [(Value.slice s.busyA s.busy.length s.busyC), (Value.slice s.failsA s.fails.length s.failsC), (Value.slice s.turnsA s.turns.length s.turnsC), (Value.int .i64 s.cut), (Value.slice s.tornA s.torn.length s.tornC), (Value.slice s.markedA s.marked.length s.markedC)] 26, F] w5 := sat_flat' [] [blk b1 [(Value.slice s.busyA s.busy.length s.busyC), (Value.slice s.failsA s.fails.length s.failsC), (Value.slice s.turnsA s.turns.length s.turnsC), (Value.int .i64 s.cut), (Value.slice s.tornA s.torn.length s.tornC), (Value.slice s.markedA s.marked.length s.markedC)] 26, F] hs6 (by kernel_rfl) (by kernel_rfl)
  refine WL.cons rfl (OP.not rfl (by decide) ?_)
  refine WL.nil (Qn.then ?_)
  refine W.iteF rfl ?_
  refine W.skip (Qn.then ?_)
  refine W.seq ?_
  refine W.region ?_
  refine WL.cons rfl (OP.assign (Value.pointer none) rfl (by decide) ?_)
  refine WL.nil (Qn.then ?_)
  refine W.seq ?_
  refine W.seq ?_
  refine W.region ?_
  refine WL.cons rfl (OP.move (Value.pointer none) rfl (by decide) ?_)
  have hs9 : sat W0 [stars [blk b1 [(Value.slice s.busyA s.busy.length s.busyC), (Value.slice s.failsA s.fails.length s.failsC), (Value.slice s.turnsA s.turns.length s.turnsC), (Value.int .i64 s.cut), (Value.slice s.tornA s.torn.length s.tornC), (Value.slice s.markedA s.marked.length s.markedC)] 26, F]] w5 := sat_pack' [] [blk b1 [(Value.slice s.busyA s.busy.length s.busyC), (Value.slice s.failsA s.fails.length s.failsC), (Value.slice s.turnsA s.turns.length s.turnsC), (Value.int .i64 s.cut), (Value.slice s.tornA s.torn.length s.tornC), (Value.slice s.markedA s.marked.length s.markedC)] 26, F] hs8 (by kernel_rfl) (by kernel_rfl)
  have hcl12 := Teller_Done_nil  hs9
  refine WL.cons rfl (?_)
  with_reducible refine OP.call [(Value.pointer none)] gf_36 ?_ ?_ hcl12 ?_
  · exact rfl
  · decide
  clear hcl12
  rintro _ w10 ⟨_, rfl, rfl, hs11⟩
  refine ⟨_, rfl, ?_⟩
  have hs13 : sat W0 [blk b1 [(Value.slice s.busyA s.busy.length s.busyC), (Value.slice s.failsA s.fails.length s.failsC), (Value.slice s.turnsA s.turns.length s.turnsC), (Value.int .i64 s.cut), (Value.slice s.tornA s.torn.length s.tornC), (Value.slice s.markedA s.marked.length s.markedC)] 26, F] w10 := sat_flat' [] [blk b1 [(Value.slice s.busyA s.busy.length s.busyC), (Value.slice s.failsA s.fails.length s.failsC), (Value.slice s.turnsA s.turns.length s.turnsC), (Value.int .i64 s.cut), (Value.slice s.tornA s.torn.length s.tornC), (Value.slice s.markedA s.marked.length s.markedC)] 26, F] hs11 (by kernel_rfl) (by kernel_rfl)
  refine WL.cons rfl (OP.move (Value.tuple #[(Value.int .i64 0), (Value.int .i64 0)]) rfl (by decide) ?_)
  refine WL.cons rfl (OP.extract (Value.int .i64 0) rfl rfl (by decide) ?_)
  refine WL.cons rfl (OP.extract (Value.int .i64 0) rfl rfl (by decide) ?_)
  refine WL.cons rfl (OP.assign (Value.int .i64 0) rfl (by decide) ?_)
  refine WL.cons rfl (OP.assign (Value.int .i64 0) rfl (by decide) ?_)
  refine WL.nil (Qn.then ?_)
  refine W.seq ?_
  refine W.region ?_
  refine WL.cons rfl (OP.move (Value.pointer none) rfl (by decide) ?_)
  have hs14 : sat W0 [stars [blk b1 [(Value.slice s.busyA s.busy.length s.busyC), (Value.slice s.failsA s.fails.length s.failsC), (Value.slice s.turnsA s.turns.length s.turnsC), (Value.int .i64 s.cut), (Value.slice s.tornA s.torn.length s.tornC), (Value.slice s.markedA s.marked.length s.markedC)] 26, F]] w10 := sat_pack' [] [blk b1 [(Value.slice s.busyA s.busy.length s.busyC), (Value.slice s.failsA s.fails.length s.failsC), (Value.slice s.turnsA s.turns.length s.turnsC), (Value.int .i64 s.cut), (Value.slice s.tornA s.torn.length s.tornC), (Value.slice s.markedA s.marked.length s.markedC)] 26, F] hs13 (by kernel_rfl) (by kernel_rfl)
  have hcl17 := Teller_Busy_nil  hs14
  refine WL.cons rfl (?_)
  with_reducible refine OP.call [(Value.pointer none)] gf_37 ?_ ?_ hcl17 ?_
  · exact rfl
  · decide
  clear hcl17
  rintro _ w15 ⟨_, rfl, rfl, hs16⟩
  refine ⟨_, rfl, ?_⟩
  have hs18 : sat W0 [blk b1 [(Value.slice s.busyA s.busy.length s.busyC), (Value.slice s.failsA s.fails.length s.failsC), (Value.slice s.turnsA s.turns.length s.turnsC), (Value.int .i64 s.cut), (Value.slice s.tornA s.torn.length s.tornC), (Value.slice s.markedA s.marked.length s.markedC)] 26, F] w15 := sat_flat' [] [blk b1 [(Value.slice s.busyA s.busy.length s.busyC), (Value.slice s.failsA s.fails.length s.failsC), (Value.slice s.turnsA s.turns.length s.turnsC), (Value.int .i64 s.cut), (Value.slice s.tornA s.torn.length s.tornC), (Value.slice s.markedA s.marked.length s.markedC)] 26, F] hs16 (by kernel_rfl) (by kernel_rfl)
  refine WL.cons rfl (OP.neI rfl rfl (by decide) ?_)
  refine WL.cons rfl (OP.move (Value.bool false) rfl (by decide) ?_)
  refine WL.consG rfl rfl rfl (OP.move (Value.pointer none) rfl (by decide) ?_)
  have hs19 : sat W0 [stars [blk b1 [(Value.slice s.busyA s.busy.length s.busyC), (Value.slice s.failsA s.fails.length s.failsC), (Value.slice s.turnsA s.turns.length s.turnsC), (Value.int .i64 s.cut), (Value.slice s.tornA s.torn.length s.tornC), (Value.slice s.markedA s.marked.length s.markedC)] 26, F]] w15 := sat_pack' [] [blk b1 [(Value.slice s.busyA s.busy.length s.busyC), (Value.slice s.failsA s.fails.length s.failsC), (Value.slice s.turnsA s.turns.length s.turnsC), (Value.int .i64 s.cut), (Value.slice s.tornA s.torn.length s.tornC), (Value.slice s.markedA s.marked.length s.markedC)] 26, F] hs18 (by kernel_rfl) (by kernel_rfl)
  have hcl22 := Teller_Fails_nil  hs19
  refine WL.consG rfl rfl rfl (?_)
  with_reducible refine OP.call [(Value.pointer none)] gf_38 ?_ ?_ hcl22 ?_
  · exact rfl
  · decide
  clear hcl22
  rintro _ w20 ⟨_, rfl, rfl, hs21⟩
  refine ⟨_, rfl, ?_⟩
  have hs23 : sat W0 [blk b1 [(Value.slice s.busyA s.busy.length s.busyC), (Value.slice s.failsA s.fails.length s.failsC), (Value.slice s.turnsA s.turns.length s.turnsC), (Value.int .i64 s.cut), (Value.slice s.tornA s.torn.length s.tornC), (Value.slice s.markedA s.marked.length s.markedC)] 26, F] w20 := sat_flat' [] [blk b1 [(Value.slice s.busyA s.busy.length s.busyC), (Value.slice s.failsA s.fails.length s.failsC), (Value.slice s.turnsA s.turns.length s.turnsC), (Value.int .i64 s.cut), (Value.slice s.tornA s.torn.length s.tornC), (Value.slice s.markedA s.marked.length s.markedC)] 26, F] hs21 (by kernel_rfl) (by kernel_rfl)
  refine WL.cons rfl (OP.pickF (Value.bool false) rfl rfl (by decide) ?_)
  refine WL.cons rfl (OP.move (Value.bool false) rfl (by decide) ?_)
  refine WL.consG rfl rfl rfl (OP.move (Value.pointer none) rfl (by decide) ?_)
  have hs24 : sat W0 [stars [blk b1 [(Value.slice s.busyA s.busy.length s.busyC), (Value.slice s.failsA s.fails.length s.failsC), (Value.slice s.turnsA s.turns.length s.turnsC), (Value.int .i64 s.cut), (Value.slice s.tornA s.torn.length s.tornC), (Value.slice s.markedA s.marked.length s.markedC)] 26, F]] w20 := sat_pack' [] [blk b1 [(Value.slice s.busyA s.busy.length s.busyC), (Value.slice s.failsA s.fails.length s.failsC), (Value.slice s.turnsA s.turns.length s.turnsC), (Value.int .i64 s.cut), (Value.slice s.tornA s.torn.length s.tornC), (Value.slice s.markedA s.marked.length s.markedC)] 26, F] hs23 (by kernel_rfl) (by kernel_rfl)
  have hcl27 := Teller_Turns_nil 0 0 hs24
  refine WL.consG rfl rfl rfl (?_)
  with_reducible refine OP.call [(Value.pointer none), (Value.int .i64 0), (Value.int .i64 0)] gf_11 ?_ ?_ hcl27 ?_
  · exact rfl
  · decide
  clear hcl27
  rintro _ w25 ⟨_, rfl, rfl, hs26⟩
  refine ⟨_, rfl, ?_⟩
  have hs28 : sat W0 [blk b1 [(Value.slice s.busyA s.busy.length s.busyC), (Value.slice s.failsA s.fails.length s.failsC), (Value.slice s.turnsA s.turns.length s.turnsC), (Value.int .i64 s.cut), (Value.slice s.tornA s.torn.length s.tornC), (Value.slice s.markedA s.marked.length s.markedC)] 26, F] w25 := sat_flat' [] [blk b1 [(Value.slice s.busyA s.busy.length s.busyC), (Value.slice s.failsA s.fails.length s.failsC), (Value.slice s.turnsA s.turns.length s.turnsC), (Value.int .i64 s.cut), (Value.slice s.tornA s.torn.length s.tornC), (Value.slice s.markedA s.marked.length s.markedC)] 26, F] hs26 (by kernel_rfl) (by kernel_rfl)
  refine WL.consG rfl rfl rfl (OP.len Try.underlying22 rfl rfl (by decide) ?_)
  refine WL.consG rfl rfl rfl (OP.neI rfl rfl (by decide) ?_)
  refine WL.cons rfl (OP.pickF (Value.bool false) rfl rfl (by decide) ?_)
  refine WL.cons rfl (OP.move (Value.bool false) rfl (by decide) ?_)
  refine WL.consG rfl rfl rfl (OP.move (Value.pointer none) rfl (by decide) ?_)
  have hs29 : sat W0 [stars [blk b1 [(Value.slice s.busyA s.busy.length s.busyC), (Value.slice s.failsA s.fails.length s.failsC), (Value.slice s.turnsA s.turns.length s.turnsC), (Value.int .i64 s.cut), (Value.slice s.tornA s.torn.length s.tornC), (Value.slice s.markedA s.marked.length s.markedC)] 26, F]] w25 := sat_pack' [] [blk b1 [(Value.slice s.busyA s.busy.length s.busyC), (Value.slice s.failsA s.fails.length s.failsC), (Value.slice s.turnsA s.turns.length s.turnsC), (Value.int .i64 s.cut), (Value.slice s.tornA s.torn.length s.tornC), (Value.slice s.markedA s.marked.length s.markedC)] 26, F] hs28 (by kernel_rfl) (by kernel_rfl)
  have hcl32 := Teller_Torn_nil 5 hs29
  refine WL.consG rfl rfl rfl (?_)
  with_reducible refine OP.call [(Value.pointer none), (Value.int .i64 5)] gf_39 ?_ ?_ hcl32 ?_
  · exact rfl
  · decide
  clear hcl32
  rintro _ w30 ⟨_, rfl, rfl, hs31⟩
  refine ⟨_, rfl, ?_⟩
  have hs33 : sat W0 [blk b1 [(Value.slice s.busyA s.busy.length s.busyC), (Value.slice s.failsA s.fails.length s.failsC), (Value.slice s.turnsA s.turns.length s.turnsC), (Value.int .i64 s.cut), (Value.slice s.tornA s.torn.length s.tornC), (Value.slice s.markedA s.marked.length s.markedC)] 26, F] w30 := sat_flat' [] [blk b1 [(Value.slice s.busyA s.busy.length s.busyC), (Value.slice s.failsA s.fails.length s.failsC), (Value.slice s.turnsA s.turns.length s.turnsC), (Value.int .i64 s.cut), (Value.slice s.tornA s.torn.length s.tornC), (Value.slice s.markedA s.marked.length s.markedC)] 26, F] hs31 (by kernel_rfl) (by kernel_rfl)
  refine WL.consG rfl rfl rfl (OP.len Try.underlying24 rfl rfl (by decide) ?_)
  refine WL.consG rfl rfl rfl (OP.neI rfl rfl (by decide) ?_)
  refine WL.cons rfl (OP.pickF (Value.bool false) rfl rfl (by decide) ?_)
  refine WL.cons rfl (OP.move (Value.bool false) rfl (by decide) ?_)
  refine WL.consG rfl rfl rfl (OP.move (Value.int .i64 0) rfl (by decide) ?_)
  refine WL.consG rfl rfl rfl (OP.move (Value.int .i64 0) rfl (by decide) ?_)
  refine WL.consG rfl rfl rfl (OP.add 0 rfl rfl (by first | rfl | omega | simp) (by unfold inI64; omega) (by decide) ?_)
  refine WL.consG rfl rfl rfl (OP.neI rfl rfl (by decide) ?_)
  refine WL.cons rfl (OP.pickF (Value.bool false) rfl rfl (by decide) ?_)
  refine WL.nil (Qn.then ?_)
  refine W.iteF rfl ?_
  refine W.skip (Qn.then ?_)
  refine W.seq ?_
  refine W.seq ?_
  refine W.region ?_
  refine WL.cons rfl (OP.loadA [(Value.slice s.busyA s.busy.length s.busyC), (Value.slice s.failsA s.fails.length s.failsC), (Value.slice s.turnsA s.turns.length s.turnsC), (Value.int .i64 s.cut), (Value.slice s.tornA s.torn.length s.tornC), (Value.slice s.markedA s.marked.length s.markedC)] ag_26 sz_26 rfl (sat_rdn 0 hs33 rfl rfl) (by decide) ?_)
  have hs34 : sat W0 [stars [blk b1 [(Value.slice s.busyA s.busy.length s.busyC), (Value.slice s.failsA s.fails.length s.failsC), (Value.slice s.turnsA s.turns.length s.turnsC), (Value.int .i64 s.cut), (Value.slice s.tornA s.torn.length s.tornC), (Value.slice s.markedA s.marked.length s.markedC)] 26, F]] w30 := sat_pack' [] [blk b1 [(Value.slice s.busyA s.busy.length s.busyC), (Value.slice s.failsA s.fails.length s.failsC), (Value.slice s.turnsA s.turns.length s.turnsC), (Value.int .i64 s.cut), (Value.slice s.tornA s.torn.length s.tornC), (Value.slice s.markedA s.marked.length s.markedC)] 26, F] hs33 (by kernel_rfl) (by kernel_rfl)
  have hcl37 := law12_Few s hs34
  refine WL.cons rfl (?_)
  with_reducible refine OP.call [(Value.agg [(Value.slice s.busyA s.busy.length s.busyC), (Value.slice s.failsA s.fails.length s.failsC), (Value.slice s.turnsA s.turns.length s.turnsC), (Value.int .i64 s.cut), (Value.slice s.tornA s.torn.length s.tornC), (Value.slice s.markedA s.marked.length s.markedC)].toArray)] gf_8 ?_ ?_ hcl37 ?_
  · exact rfl
  · decide
  clear hcl37
  rintro _ w35 ⟨_, rfl, rfl, hs36⟩
  refine ⟨_, rfl, ?_⟩
  have hs38 : sat W0 [blk b1 [(Value.slice s.busyA s.busy.length s.busyC), (Value.slice s.failsA s.fails.length s.failsC), (Value.slice s.turnsA s.turns.length s.turnsC), (Value.int .i64 s.cut), (Value.slice s.tornA s.torn.length s.tornC), (Value.slice s.markedA s.marked.length s.markedC)] 26, F] w35 := sat_flat' [] [blk b1 [(Value.slice s.busyA s.busy.length s.busyC), (Value.slice s.failsA s.fails.length s.failsC), (Value.slice s.turnsA s.turns.length s.turnsC), (Value.int .i64 s.cut), (Value.slice s.tornA s.torn.length s.tornC), (Value.slice s.markedA s.marked.length s.markedC)] 26, F] hs36 (by kernel_rfl) (by kernel_rfl)
  refine WL.cons rfl (OP.not rfl (by decide) ?_)
  refine WL.nil (Qn.then ?_)
  refine W.ite (b := !(fewB s)) rfl (fun hc39 => ?_) (fun hc39 => ?_)
  · refine W.seq ?_
    refine W.region ?_
    refine WL.cons rfl (OP.assign (Value.bool true) rfl (by decide) ?_)
    refine WL.nil (Qn.then ?_)
    refine W.ret (Qr.then (RetQ.of [(Value.bool true)] (.inr rfl) Try.results6 (.cons (.tmp (by decide) rfl) .nil) ?_))
    have hs41 : sat W0 [F] w35 := sat_sub' [1] [0] hs38 (by kernel_rfl) (by kernel_rfl)
    exact ⟨rfl, hs41⟩
  · refine W.skip (Qn.then ?_)
    refine W.seq ?_
    have hfew_ := fewB_true (by simpa using hc39)
    rcases Bool.eq_false_or_eq_true (rightB plainG s) with hR42 | hR42
    · refine W.draw (fun w => sat W0 [blk b1 [(Value.slice s.busyA s.busy.length s.busyC), (Value.slice s.failsA s.fails.length s.failsC), (Value.slice s.turnsA s.turns.length s.turnsC), (Value.int .i64 s.cut), (Value.slice s.tornA s.torn.length s.tornC), (Value.slice s.markedA s.marked.length s.markedC)] 26, F] w) (by kernel_rfl) hs38 (fun w43 hs44 => ?_)
      refine WA.take 1 rfl rfl rfl rfl (by kernel_rfl) (by kernel_rfl) (by kernel_rfl) ?_ (by decide) (v := (Value.agg [(Value.slice s.busyA s.busy.length s.busyC), (Value.slice s.failsA s.fails.length s.failsC), (Value.slice s.turnsA s.turns.length s.turnsC), (Value.int .i64 s.cut), (Value.slice s.tornA s.torn.length s.tornC), (Value.slice s.markedA s.marked.length s.markedC)].toArray)) (fun w46 hw45 => OP.loadA [(Value.slice s.busyA s.busy.length s.busyC), (Value.slice s.failsA s.fails.length s.failsC), (Value.slice s.turnsA s.turns.length s.turnsC), (Value.int .i64 s.cut), (Value.slice s.tornA s.torn.length s.tornC), (Value.slice s.markedA s.marked.length s.markedC)] ag_26 sz_26 rfl (sat_rdn 0 hw45 rfl rfl) (by decide) ⟨rfl, rfl⟩) ?_
      · exact hs44
      refine WA.all [0] (by kernel_rfl) (by simp) ?_
      refine WAs.cons (oi := (Go.Oper.mk (some 55) (Go.Op.call (Go.Call.mk (Go.Callee.value (Go.Operand.func 10)) #[] #[])) 34 "law.go:94" #[] none)) rfl rfl ?_ ?_
      · have hs47 : sat W0 [stars [blk b1 [(Value.slice s.busyA s.busy.length s.busyC), (Value.slice s.failsA s.fails.length s.failsC), (Value.slice s.turnsA s.turns.length s.turnsC), (Value.int .i64 s.cut), (Value.slice s.tornA s.torn.length s.tornC), (Value.slice s.markedA s.marked.length s.markedC)] 26, F]] w43 := sat_pack' [] [blk b1 [(Value.slice s.busyA s.busy.length s.busyC), (Value.slice s.failsA s.fails.length s.failsC), (Value.slice s.turnsA s.turns.length s.turnsC), (Value.int .i64 s.cut), (Value.slice s.tornA s.torn.length s.tornC), (Value.slice s.markedA s.marked.length s.markedC)] 26, F] hs44 (by kernel_rfl) (by kernel_rfl)
        have hcl50 := law12_plain  hs47
        refine ?_
        with_reducible refine OP.call [] gf_10 ?_ ?_ hcl50 ?_
        · exact rfl
        · decide
        clear hcl50
        rintro _ w48 ⟨_, rfl, rfl, hs49⟩
        refine ⟨_, rfl, ?_⟩
        have hs51 : sat W0 [blk b1 [(Value.slice s.busyA s.busy.length s.busyC), (Value.slice s.failsA s.fails.length s.failsC), (Value.slice s.turnsA s.turns.length s.turnsC), (Value.int .i64 s.cut), (Value.slice s.tornA s.torn.length s.tornC), (Value.slice s.markedA s.marked.length s.markedC)] 26, F] w48 := sat_flat' [] [blk b1 [(Value.slice s.busyA s.busy.length s.busyC), (Value.slice s.failsA s.fails.length s.failsC), (Value.slice s.turnsA s.turns.length s.turnsC), (Value.int .i64 s.cut), (Value.slice s.tornA s.torn.length s.tornC), (Value.slice s.markedA s.marked.length s.markedC)] 26, F] hs49 (by kernel_rfl) (by kernel_rfl)
        refine ⟨?_, ?_⟩
        · exact hs51
        refine WA.all [2] (by kernel_rfl) (by simp) ?_
        refine WAs.cons (oi := (Go.Oper.mk (some 57) (Go.Op.call (Go.Call.mk (Go.Callee.value (Go.Operand.func 9)) #[(Go.Operand.tmp 55), (Go.Operand.tmp 56)] #[34, 26])) 31 "law.go:94" #[(Go.Edge.mk 0 Go.Ground.data), (Go.Edge.mk 1 Go.Ground.data), (Go.Edge.mk 0 Go.Ground.chain)] none)) rfl rfl ?_ ?_
        · have hs52 : sat W0 [stars [blk b1 [(Value.slice s.busyA s.busy.length s.busyC), (Value.slice s.failsA s.fails.length s.failsC), (Value.slice s.turnsA s.turns.length s.turnsC), (Value.int .i64 s.cut), (Value.slice s.tornA s.torn.length s.tornC), (Value.slice s.markedA s.marked.length s.markedC)] 26, F]] w48 := sat_pack' [] [blk b1 [(Value.slice s.busyA s.busy.length s.busyC), (Value.slice s.failsA s.fails.length s.failsC), (Value.slice s.turnsA s.turns.length s.turnsC), (Value.int .i64 s.cut), (Value.slice s.tornA s.torn.length s.tornC), (Value.slice s.markedA s.marked.length s.markedC)] 26, F] hs51 (by kernel_rfl) (by kernel_rfl)
          have hcl56 := choice_New_ok plainG s (hS _) hL (by assumption) hs52
          refine ?_
          with_reducible refine OP.call [(Value.agg [(Value.int .i64 plainG.planes), (Value.int .i64 plainG.blocks), (Value.int .i64 plainG.pages), (Value.int .i64 plainG.chunks), (Value.int .i64 plainG.chunk), (Value.int .i64 plainG.rungs), (Value.int .i64 plainG.partials)].toArray), (Value.agg [(Value.slice s.busyA s.busy.length s.busyC), (Value.slice s.failsA s.fails.length s.failsC), (Value.slice s.turnsA s.turns.length s.turnsC), (Value.int .i64 s.cut), (Value.slice s.tornA s.torn.length s.tornC), (Value.slice s.markedA s.marked.length s.markedC)].toArray)] gf_9 ?_ ?_ hcl56 ?_
          · exact rfl
          · decide
          clear hcl56
          rintro _ w54 ⟨_, rfl, b_53, rfl, hs55⟩
          refine ⟨_, rfl, ?_⟩
          have hs57 : sat W0 [TellerRep b_53 s.busy s.fails s.torn s.turns 0 0, blk b1 [(Value.slice s.busyA s.busy.length s.busyC), (Value.slice s.failsA s.fails.length s.failsC), (Value.slice s.turnsA s.turns.length s.turnsC), (Value.int .i64 s.cut), (Value.slice s.tornA s.torn.length s.tornC), (Value.slice s.markedA s.marked.length s.markedC)] 26, F] w54 := sat_flat' [TellerRep b_53 s.busy s.fails s.torn s.turns 0 0] [blk b1 [(Value.slice s.busyA s.busy.length s.busyC), (Value.slice s.failsA s.fails.length s.failsC), (Value.slice s.turnsA s.turns.length s.turnsC), (Value.int .i64 s.cut), (Value.slice s.tornA s.torn.length s.tornC), (Value.slice s.markedA s.marked.length s.markedC)] 26, F] hs55 (by kernel_rfl) (by kernel_rfl)
          refine ⟨?_, ?_⟩
          · exact sat_sub' [1, 2] [0] hs57 (by kernel_rfl) (by kernel_rfl)
          refine WA.take 3 rfl rfl rfl rfl (by kernel_rfl) (by kernel_rfl) (by kernel_rfl) ?_ (by decide) (v := (Value.tuple #[(Value.pointer (some ⟨b_53, 0, none⟩)), (Value.int .i64 0)])) (fun w59 hw58 => OP.move (Value.tuple #[(Value.pointer (some ⟨b_53, 0, none⟩)), (Value.int .i64 0)]) rfl (by decide) ⟨rfl, rfl⟩) ?_
          · exact sat_sub' [1, 2] [0] hs57 (by kernel_rfl) (by kernel_rfl)
          refine WA.take 4 rfl rfl rfl rfl (by kernel_rfl) (by kernel_rfl) (by kernel_rfl) ?_ (by decide) (v := (Value.pointer (some ⟨b_53, 0, none⟩))) (fun w61 hw60 => OP.extract (Value.pointer (some ⟨b_53, 0, none⟩)) rfl rfl (by decide) ⟨rfl, rfl⟩) ?_
          · exact sat_sub' [1, 2] [0] hs57 (by kernel_rfl) (by kernel_rfl)
          refine WA.take 5 rfl rfl rfl rfl (by kernel_rfl) (by kernel_rfl) (by kernel_rfl) ?_ (by decide) (v := (Value.int .i64 0)) (fun w63 hw62 => OP.extract (Value.int .i64 0) rfl rfl (by decide) ⟨rfl, rfl⟩) ?_
          · exact sat_sub' [1, 2] [0] hs57 (by kernel_rfl) (by kernel_rfl)
          refine WA.take 6 rfl rfl rfl rfl (by kernel_rfl) (by kernel_rfl) (by kernel_rfl) ?_ (by decide) (v := (Value.pointer (some ⟨b_53, 0, none⟩))) (fun w65 hw64 => OP.assign (Value.pointer (some ⟨b_53, 0, none⟩)) rfl (by decide) ⟨rfl, rfl⟩) ?_
          · exact sat_sub' [1, 2] [0] hs57 (by kernel_rfl) (by kernel_rfl)
          refine WA.take 7 rfl rfl rfl rfl (by kernel_rfl) (by kernel_rfl) (by kernel_rfl) ?_ (by decide) (v := (Value.int .i64 0)) (fun w67 hw66 => OP.assign (Value.int .i64 0) rfl (by decide) ⟨rfl, rfl⟩) ?_
          · exact sat_sub' [1, 2] [0] hs57 (by kernel_rfl) (by kernel_rfl)
          refine WA.done (by kernel_rfl) ?_
          refine (Qn.then ?_)
          refine W.seq ?_
          refine W.draw (fun w => sat W0 [TellerRep b_53 s.busy s.fails s.torn s.turns 0 0, blk b1 [(Value.slice s.busyA s.busy.length s.busyC), (Value.slice s.failsA s.fails.length s.failsC), (Value.slice s.turnsA s.turns.length s.turnsC), (Value.int .i64 s.cut), (Value.slice s.tornA s.torn.length s.tornC), (Value.slice s.markedA s.marked.length s.markedC)] 26, F] w) (by kernel_rfl) hs57 (fun w68 hs69 => ?_)
          refine WA.take 1 rfl rfl rfl rfl (by kernel_rfl) (by kernel_rfl) (by kernel_rfl) ?_ (by decide) (v := (Value.agg [(Value.slice s.busyA s.busy.length s.busyC), (Value.slice s.failsA s.fails.length s.failsC), (Value.slice s.turnsA s.turns.length s.turnsC), (Value.int .i64 s.cut), (Value.slice s.tornA s.torn.length s.tornC), (Value.slice s.markedA s.marked.length s.markedC)].toArray)) (fun w71 hw70 => OP.loadA [(Value.slice s.busyA s.busy.length s.busyC), (Value.slice s.failsA s.fails.length s.failsC), (Value.slice s.turnsA s.turns.length s.turnsC), (Value.int .i64 s.cut), (Value.slice s.tornA s.torn.length s.tornC), (Value.slice s.markedA s.marked.length s.markedC)] ag_26 sz_26 rfl (sat_rdn 1 hw70 rfl rfl) (by decide) ⟨rfl, rfl⟩) ?_
          · exact hs69
          refine WA.all [0] (by kernel_rfl) (by simp) ?_
          refine WAs.cons (oi := (Go.Oper.mk (some 61) (Go.Op.call (Go.Call.mk (Go.Callee.value (Go.Operand.func 10)) #[] #[])) 34 "law.go:95" #[] none)) rfl rfl ?_ ?_
          · have hs72 : sat W0 [stars [TellerRep b_53 s.busy s.fails s.torn s.turns 0 0, blk b1 [(Value.slice s.busyA s.busy.length s.busyC), (Value.slice s.failsA s.fails.length s.failsC), (Value.slice s.turnsA s.turns.length s.turnsC), (Value.int .i64 s.cut), (Value.slice s.tornA s.torn.length s.tornC), (Value.slice s.markedA s.marked.length s.markedC)] 26, F]] w68 := sat_pack' [] [TellerRep b_53 s.busy s.fails s.torn s.turns 0 0, blk b1 [(Value.slice s.busyA s.busy.length s.busyC), (Value.slice s.failsA s.fails.length s.failsC), (Value.slice s.turnsA s.turns.length s.turnsC), (Value.int .i64 s.cut), (Value.slice s.tornA s.torn.length s.tornC), (Value.slice s.markedA s.marked.length s.markedC)] 26, F] hs69 (by kernel_rfl) (by kernel_rfl)
            have hcl75 := law12_plain  hs72
            refine ?_
            with_reducible refine OP.call [] gf_10 ?_ ?_ hcl75 ?_
            · exact rfl
            · decide
            clear hcl75
            rintro _ w73 ⟨_, rfl, rfl, hs74⟩
            refine ⟨_, rfl, ?_⟩
            have hs76 : sat W0 [TellerRep b_53 s.busy s.fails s.torn s.turns 0 0, blk b1 [(Value.slice s.busyA s.busy.length s.busyC), (Value.slice s.failsA s.fails.length s.failsC), (Value.slice s.turnsA s.turns.length s.turnsC), (Value.int .i64 s.cut), (Value.slice s.tornA s.torn.length s.tornC), (Value.slice s.markedA s.marked.length s.markedC)] 26, F] w73 := sat_flat' [] [TellerRep b_53 s.busy s.fails s.torn s.turns 0 0, blk b1 [(Value.slice s.busyA s.busy.length s.busyC), (Value.slice s.failsA s.fails.length s.failsC), (Value.slice s.turnsA s.turns.length s.turnsC), (Value.int .i64 s.cut), (Value.slice s.tornA s.torn.length s.tornC), (Value.slice s.markedA s.marked.length s.markedC)] 26, F] hs74 (by kernel_rfl) (by kernel_rfl)
            refine ⟨?_, ?_⟩
            · exact hs76
            refine WA.all [2] (by kernel_rfl) (by simp) ?_
            refine WAs.cons (oi := (Go.Oper.mk (some 63) (Go.Op.call (Go.Call.mk (Go.Callee.value (Go.Operand.func 9)) #[(Go.Operand.tmp 61), (Go.Operand.tmp 62)] #[34, 26])) 31 "law.go:95" #[(Go.Edge.mk 0 Go.Ground.data), (Go.Edge.mk 1 Go.Ground.data), (Go.Edge.mk 0 Go.Ground.chain)] none)) rfl rfl ?_ ?_
            · have hs77 : sat W0 [stars [TellerRep b_53 s.busy s.fails s.torn s.turns 0 0, blk b1 [(Value.slice s.busyA s.busy.length s.busyC), (Value.slice s.failsA s.fails.length s.failsC), (Value.slice s.turnsA s.turns.length s.turnsC), (Value.int .i64 s.cut), (Value.slice s.tornA s.torn.length s.tornC), (Value.slice s.markedA s.marked.length s.markedC)] 26, F]] w73 := sat_pack' [] [TellerRep b_53 s.busy s.fails s.torn s.turns 0 0, blk b1 [(Value.slice s.busyA s.busy.length s.busyC), (Value.slice s.failsA s.fails.length s.failsC), (Value.slice s.turnsA s.turns.length s.turnsC), (Value.int .i64 s.cut), (Value.slice s.tornA s.torn.length s.tornC), (Value.slice s.markedA s.marked.length s.markedC)] 26, F] hs76 (by kernel_rfl) (by kernel_rfl)
              have hcl81 := choice_New_ok plainG s (hS _) hL (by assumption) hs77
              refine ?_
              with_reducible refine OP.call [(Value.agg [(Value.int .i64 plainG.planes), (Value.int .i64 plainG.blocks), (Value.int .i64 plainG.pages), (Value.int .i64 plainG.chunks), (Value.int .i64 plainG.chunk), (Value.int .i64 plainG.rungs), (Value.int .i64 plainG.partials)].toArray), (Value.agg [(Value.slice s.busyA s.busy.length s.busyC), (Value.slice s.failsA s.fails.length s.failsC), (Value.slice s.turnsA s.turns.length s.turnsC), (Value.int .i64 s.cut), (Value.slice s.tornA s.torn.length s.tornC), (Value.slice s.markedA s.marked.length s.markedC)].toArray)] gf_9 ?_ ?_ hcl81 ?_
              · exact rfl
              · decide
              clear hcl81
              rintro _ w79 ⟨_, rfl, b_78, rfl, hs80⟩
              refine ⟨_, rfl, ?_⟩
              have hs82 : sat W0 [TellerRep b_78 s.busy s.fails s.torn s.turns 0 0, TellerRep b_53 s.busy s.fails s.torn s.turns 0 0, blk b1 [(Value.slice s.busyA s.busy.length s.busyC), (Value.slice s.failsA s.fails.length s.failsC), (Value.slice s.turnsA s.turns.length s.turnsC), (Value.int .i64 s.cut), (Value.slice s.tornA s.torn.length s.tornC), (Value.slice s.markedA s.marked.length s.markedC)] 26, F] w79 := sat_flat' [TellerRep b_78 s.busy s.fails s.torn s.turns 0 0] [TellerRep b_53 s.busy s.fails s.torn s.turns 0 0, blk b1 [(Value.slice s.busyA s.busy.length s.busyC), (Value.slice s.failsA s.fails.length s.failsC), (Value.slice s.turnsA s.turns.length s.turnsC), (Value.int .i64 s.cut), (Value.slice s.tornA s.torn.length s.tornC), (Value.slice s.markedA s.marked.length s.markedC)] 26, F] hs80 (by kernel_rfl) (by kernel_rfl)
              refine ⟨?_, ?_⟩
              · exact sat_sub' [1, 2, 3] [0] hs82 (by kernel_rfl) (by kernel_rfl)
              refine WA.take 3 rfl rfl rfl rfl (by kernel_rfl) (by kernel_rfl) (by kernel_rfl) ?_ (by decide) (v := (Value.tuple #[(Value.pointer (some ⟨b_78, 0, none⟩)), (Value.int .i64 0)])) (fun w84 hw83 => OP.move (Value.tuple #[(Value.pointer (some ⟨b_78, 0, none⟩)), (Value.int .i64 0)]) rfl (by decide) ⟨rfl, rfl⟩) ?_
              · exact sat_sub' [1, 2, 3] [0] hs82 (by kernel_rfl) (by kernel_rfl)
              refine WA.take 4 rfl rfl rfl rfl (by kernel_rfl) (by kernel_rfl) (by kernel_rfl) ?_ (by decide) (v := (Value.pointer (some ⟨b_78, 0, none⟩))) (fun w86 hw85 => OP.extract (Value.pointer (some ⟨b_78, 0, none⟩)) rfl rfl (by decide) ⟨rfl, rfl⟩) ?_
              · exact sat_sub' [1, 2, 3] [0] hs82 (by kernel_rfl) (by kernel_rfl)
              refine WA.take 5 rfl rfl rfl rfl (by kernel_rfl) (by kernel_rfl) (by kernel_rfl) ?_ (by decide) (v := (Value.int .i64 0)) (fun w88 hw87 => OP.extract (Value.int .i64 0) rfl rfl (by decide) ⟨rfl, rfl⟩) ?_
              · exact sat_sub' [1, 2, 3] [0] hs82 (by kernel_rfl) (by kernel_rfl)
              refine WA.take 6 rfl rfl rfl rfl (by kernel_rfl) (by kernel_rfl) (by kernel_rfl) ?_ (by decide) (v := (Value.pointer (some ⟨b_78, 0, none⟩))) (fun w90 hw89 => OP.assign (Value.pointer (some ⟨b_78, 0, none⟩)) rfl (by decide) ⟨rfl, rfl⟩) ?_
              · exact sat_sub' [1, 2, 3] [0] hs82 (by kernel_rfl) (by kernel_rfl)
              refine WA.take 7 rfl rfl rfl rfl (by kernel_rfl) (by kernel_rfl) (by kernel_rfl) ?_ (by decide) (v := (Value.int .i64 0)) (fun w92 hw91 => OP.assign (Value.int .i64 0) rfl (by decide) ⟨rfl, rfl⟩) ?_
              · exact sat_sub' [1, 2, 3] [0] hs82 (by kernel_rfl) (by kernel_rfl)
              refine WA.done (by kernel_rfl) ?_
              refine (Qn.then ?_)
              refine W.seq ?_
              refine W.seq ?_
              refine W.region ?_
              refine WL.cons rfl (OP.move (Value.int .i64 0) rfl (by decide) ?_)
              refine WL.cons rfl (OP.neI rfl rfl (by decide) ?_)
              refine WL.cons rfl (OP.move (Value.bool false) rfl (by decide) ?_)
              refine WL.consG rfl rfl rfl (OP.move (Value.int .i64 0) rfl (by decide) ?_)
              refine WL.consG rfl rfl rfl (OP.neI rfl rfl (by decide) ?_)
              refine WL.cons rfl (OP.pickF (Value.bool false) rfl rfl (by decide) ?_)
              refine WL.nil (Qn.then ?_)
              refine W.iteF rfl ?_
              refine W.skip (Qn.then ?_)
              refine W.seq ?_
              refine W.region ?_
              refine WL.cons rfl (OP.assign (Value.int .i64 0) rfl (by decide) ?_)
              refine WL.cons rfl (OP.assign (Value.int .i64 0) rfl (by decide) ?_)
              refine WL.nil (Qn.then ?_)
              refine W.seq ?_
              refine W.seq ?_
              refine W.region ?_
              refine WL.cons rfl (OP.move (Value.int .u8 n) rfl (by decide) ?_)
              refine WL.cons rfl (OP.conv n Try.underlying5 Try.underlying3 rfl (by unfold IntKind.wrap; simp [IntKind.bits, IntKind.signed]; omega) (by decide) ?_)
              refine WL.cons rfl (OP.move (Value.int .i64 0) rfl (by decide) ?_)
              refine WL.nil (Qn.then ?_)
              refine W.block ?_
              have hs93 : sat W0 [TellerRep b_78 s.busy s.fails s.torn s.turns ((0 : Nat) : Int) ((0 : Nat) : Int), TellerRep b_53 s.busy s.fails s.torn s.turns ((0 : Nat) : Int) ((0 : Nat) : Int), blk b1 [(Value.slice s.busyA s.busy.length s.busyC), (Value.slice s.failsA s.fails.length s.failsC), (Value.slice s.turnsA s.turns.length s.turnsC), (Value.int .i64 s.cut), (Value.slice s.tornA s.torn.length s.tornC), (Value.slice s.markedA s.marked.length s.markedC)] 26, F] w79 := hs82
              refine W.loop (fun n_ e_ w_ => ∃ k : Nat, n_ = n.toNat - k ∧ e_ 1 = (Value.int .u8 n) ∧ e_ 2 = (Value.pointer (some ⟨b1, 0, none⟩)) ∧ e_ 8 = (Value.pointer (some ⟨b_53, 0, none⟩)) ∧ e_ 10 = (Value.pointer (some ⟨b_78, 0, none⟩)) ∧ e_ 12 = (Value.int .i64 (cntF s.fails k)) ∧ e_ 13 = (Value.int .i64 0) ∧ e_ 84 = (Value.int .i64 n) ∧ e_ 85 = (Value.int .i64 ((k : Nat) : Int)) ∧ (k : Int) ≤ n ∧ sat W0 [TellerRep b_78 s.busy s.fails s.torn s.turns ((k : Nat) : Int) ((k : Nat) : Int), TellerRep b_53 s.busy s.fails s.torn s.turns ((k : Nat) : Int) ((k : Nat) : Int), blk b1 [(Value.slice s.busyA s.busy.length s.busyC), (Value.slice s.failsA s.fails.length s.failsC), (Value.slice s.turnsA s.turns.length s.turnsC), (Value.int .i64 s.cut), (Value.slice s.tornA s.torn.length s.tornC), (Value.slice s.markedA s.marked.length s.markedC)] 26, F] w_) (n.toNat - 0) ⟨0, rfl, rfl, rfl, rfl, rfl, (Eq.trans (b := (Value.int .i64 0)) rfl (congrArg (Value.int .i64) (cntF_zero s.fails).symm)), rfl, rfl, (Eq.trans (b := (Value.int .i64 0)) rfl (congrArg (Value.int .i64) (by first | rfl | omega | simp | (simp; omega)))), (by omega), hs93⟩ ?_
              rintro n94 e95 w96 ⟨k, hn98, he99, he100, he101, he102, he103, he104, he105, he106, hp107, hs97⟩
              have hcf_ := cntF_le s.fails k
              refine W.seq ?_
              refine W.region ?_
              refine WL.cons rfl (OP.lss he106 he105 (by decide) ?_)
              refine WL.nil (Qn.then ?_)
              refine W.seq ?_
              refine W.iteP (p := ((k : Nat) : Int) < n) rfl (fun hc108 => ?_) (fun hc108 => ?_)
              · refine W.skip (Qn.then ?_)
                refine W.seq ?_
                refine W.block ?_
                refine W.seq ?_
                refine W.region ?_
                refine WL.cons rfl (OP.move (Value.int .i64 ((k : Nat) : Int)) he106 (by decide) ?_)
                refine WL.cons rfl (OP.assign (Value.int .i64 ((k : Nat) : Int)) rfl (by decide) ?_)
                refine WL.nil (Qn.then ?_)
                refine W.seq ?_
                refine W.region ?_
                refine WL.cons rfl (OP.move (Value.pointer (some ⟨b_53, 0, none⟩)) he101 (by decide) ?_)
                have hs109 : sat W0 [TellerRep b_53 s.busy s.fails s.torn s.turns ((k : Nat) : Int) ((k : Nat) : Int), TellerRep b_78 s.busy s.fails s.torn s.turns ((k : Nat) : Int) ((k : Nat) : Int), blk b1 [(Value.slice s.busyA s.busy.length s.busyC), (Value.slice s.failsA s.fails.length s.failsC), (Value.slice s.turnsA s.turns.length s.turnsC), (Value.int .i64 s.cut), (Value.slice s.tornA s.torn.length s.tornC), (Value.slice s.markedA s.marked.length s.markedC)] 26, F] w96 := sat_sel' [1, 0, 2, 3] hs97 (by kernel_rfl) (by kernel_rfl)
                have hs110 : sat W0 [TellerRep b_53 s.busy s.fails s.torn s.turns ((k : Nat) : Int) ((k : Nat) : Int), stars [TellerRep b_78 s.busy s.fails s.torn s.turns ((k : Nat) : Int) ((k : Nat) : Int), blk b1 [(Value.slice s.busyA s.busy.length s.busyC), (Value.slice s.failsA s.fails.length s.failsC), (Value.slice s.turnsA s.turns.length s.turnsC), (Value.int .i64 s.cut), (Value.slice s.tornA s.torn.length s.tornC), (Value.slice s.markedA s.marked.length s.markedC)] 26, F]] w96 := sat_pack' [TellerRep b_53 s.busy s.fails s.torn s.turns ((k : Nat) : Int) ((k : Nat) : Int)] [TellerRep b_78 s.busy s.fails s.torn s.turns ((k : Nat) : Int) ((k : Nat) : Int), blk b1 [(Value.slice s.busyA s.busy.length s.busyC), (Value.slice s.failsA s.fails.length s.failsC), (Value.slice s.turnsA s.turns.length s.turnsC), (Value.int .i64 s.cut), (Value.slice s.tornA s.torn.length s.tornC), (Value.slice s.markedA s.marked.length s.markedC)] 26, F] hs109 (by kernel_rfl) (by kernel_rfl)
                have hcl113 := Teller_Busy b_53 s.busy s.fails s.torn s.turns ((k : Nat) : Int) ((k : Nat) : Int) (by omega) (by omega) hs110
                refine WL.cons rfl (?_)
                with_reducible refine OP.call [(Value.pointer (some ⟨b_53, 0, none⟩))] gf_37 ?_ ?_ hcl113 ?_
                · exact rfl
                · decide
                clear hcl113
                rintro _ w111 ⟨_, rfl, rfl, hs112⟩
                refine ⟨_, rfl, ?_⟩
                have hs114 : sat W0 [TellerRep b_53 s.busy s.fails s.torn s.turns (((k : Nat) : Int) + 1) ((k : Nat) : Int), TellerRep b_78 s.busy s.fails s.torn s.turns ((k : Nat) : Int) ((k : Nat) : Int), blk b1 [(Value.slice s.busyA s.busy.length s.busyC), (Value.slice s.failsA s.fails.length s.failsC), (Value.slice s.turnsA s.turns.length s.turnsC), (Value.int .i64 s.cut), (Value.slice s.tornA s.torn.length s.tornC), (Value.slice s.markedA s.marked.length s.markedC)] 26, F] w111 := sat_flat' [TellerRep b_53 s.busy s.fails s.torn s.turns (((k : Nat) : Int) + 1) ((k : Nat) : Int)] [TellerRep b_78 s.busy s.fails s.torn s.turns ((k : Nat) : Int) ((k : Nat) : Int), blk b1 [(Value.slice s.busyA s.busy.length s.busyC), (Value.slice s.failsA s.fails.length s.failsC), (Value.slice s.turnsA s.turns.length s.turnsC), (Value.int .i64 s.cut), (Value.slice s.tornA s.torn.length s.tornC), (Value.slice s.markedA s.marked.length s.markedC)] 26, F] hs112 (by kernel_rfl) (by kernel_rfl)
                refine WL.cons rfl (OP.move (Value.pointer (some ⟨b_53, 0, none⟩)) he101 (by decide) ?_)
                have hs115 : sat W0 [TellerRep b_53 s.busy s.fails s.torn s.turns (((k : Nat) : Int) + 1) ((k : Nat) : Int), stars [TellerRep b_78 s.busy s.fails s.torn s.turns ((k : Nat) : Int) ((k : Nat) : Int), blk b1 [(Value.slice s.busyA s.busy.length s.busyC), (Value.slice s.failsA s.fails.length s.failsC), (Value.slice s.turnsA s.turns.length s.turnsC), (Value.int .i64 s.cut), (Value.slice s.tornA s.torn.length s.tornC), (Value.slice s.markedA s.marked.length s.markedC)] 26, F]] w111 := sat_pack' [TellerRep b_53 s.busy s.fails s.torn s.turns (((k : Nat) : Int) + 1) ((k : Nat) : Int)] [TellerRep b_78 s.busy s.fails s.torn s.turns ((k : Nat) : Int) ((k : Nat) : Int), blk b1 [(Value.slice s.busyA s.busy.length s.busyC), (Value.slice s.failsA s.fails.length s.failsC), (Value.slice s.turnsA s.turns.length s.turnsC), (Value.int .i64 s.cut), (Value.slice s.tornA s.torn.length s.tornC), (Value.slice s.markedA s.marked.length s.markedC)] 26, F] hs114 (by kernel_rfl) (by kernel_rfl)
                have hcl118 := Teller_Fails b_53 s.busy s.fails s.torn s.turns (((k : Nat) : Int) + 1) ((k : Nat) : Int) (by omega) (by omega) hs115
                refine WL.cons rfl (?_)
                with_reducible refine OP.call [(Value.pointer (some ⟨b_53, 0, none⟩))] gf_38 ?_ ?_ hcl118 ?_
                · exact rfl
                · decide
                clear hcl118
                rintro _ w116 ⟨_, rfl, rfl, hs117⟩
                refine ⟨_, rfl, ?_⟩
                have hs119 : sat W0 [TellerRep b_53 s.busy s.fails s.torn s.turns (((k : Nat) : Int) + 1) (((k : Nat) : Int) + 1), TellerRep b_78 s.busy s.fails s.torn s.turns ((k : Nat) : Int) ((k : Nat) : Int), blk b1 [(Value.slice s.busyA s.busy.length s.busyC), (Value.slice s.failsA s.fails.length s.failsC), (Value.slice s.turnsA s.turns.length s.turnsC), (Value.int .i64 s.cut), (Value.slice s.tornA s.torn.length s.tornC), (Value.slice s.markedA s.marked.length s.markedC)] 26, F] w116 := sat_flat' [TellerRep b_53 s.busy s.fails s.torn s.turns (((k : Nat) : Int) + 1) (((k : Nat) : Int) + 1)] [TellerRep b_78 s.busy s.fails s.torn s.turns ((k : Nat) : Int) ((k : Nat) : Int), blk b1 [(Value.slice s.busyA s.busy.length s.busyC), (Value.slice s.failsA s.fails.length s.failsC), (Value.slice s.turnsA s.turns.length s.turnsC), (Value.int .i64 s.cut), (Value.slice s.tornA s.torn.length s.tornC), (Value.slice s.markedA s.marked.length s.markedC)] 26, F] hs117 (by kernel_rfl) (by kernel_rfl)
                refine WL.cons rfl (OP.assign (Value.int .i64 (busyAt s.busy ((k : Nat) : Int))) rfl (by decide) ?_)
                refine WL.cons rfl (OP.assign (Value.bool (decide (((k : Nat) : Int) ∈ s.fails))) rfl (by decide) ?_)
                refine WL.nil (Qn.then ?_)
                refine W.seq ?_
                refine W.seq ?_
                refine W.region ?_
                refine WL.cons rfl (OP.move (Value.int .i64 (busyAt s.busy ((k : Nat) : Int))) rfl (by decide) ?_)
                refine WL.cons rfl (OP.move (Value.pointer (some ⟨b_78, 0, none⟩)) he102 (by decide) ?_)
                have hs120 : sat W0 [TellerRep b_78 s.busy s.fails s.torn s.turns ((k : Nat) : Int) ((k : Nat) : Int), TellerRep b_53 s.busy s.fails s.torn s.turns (((k : Nat) : Int) + 1) (((k : Nat) : Int) + 1), blk b1 [(Value.slice s.busyA s.busy.length s.busyC), (Value.slice s.failsA s.fails.length s.failsC), (Value.slice s.turnsA s.turns.length s.turnsC), (Value.int .i64 s.cut), (Value.slice s.tornA s.torn.length s.tornC), (Value.slice s.markedA s.marked.length s.markedC)] 26, F] w116 := sat_sel' [1, 0, 2, 3] hs119 (by kernel_rfl) (by kernel_rfl)
                have hs121 : sat W0 [TellerRep b_78 s.busy s.fails s.torn s.turns ((k : Nat) : Int) ((k : Nat) : Int), stars [TellerRep b_53 s.busy s.fails s.torn s.turns (((k : Nat) : Int) + 1) (((k : Nat) : Int) + 1), blk b1 [(Value.slice s.busyA s.busy.length s.busyC), (Value.slice s.failsA s.fails.length s.failsC), (Value.slice s.turnsA s.turns.length s.turnsC), (Value.int .i64 s.cut), (Value.slice s.tornA s.torn.length s.tornC), (Value.slice s.markedA s.marked.length s.markedC)] 26, F]] w116 := sat_pack' [TellerRep b_78 s.busy s.fails s.torn s.turns ((k : Nat) : Int) ((k : Nat) : Int)] [TellerRep b_53 s.busy s.fails s.torn s.turns (((k : Nat) : Int) + 1) (((k : Nat) : Int) + 1), blk b1 [(Value.slice s.busyA s.busy.length s.busyC), (Value.slice s.failsA s.fails.length s.failsC), (Value.slice s.turnsA s.turns.length s.turnsC), (Value.int .i64 s.cut), (Value.slice s.tornA s.torn.length s.tornC), (Value.slice s.markedA s.marked.length s.markedC)] 26, F] hs120 (by kernel_rfl) (by kernel_rfl)
                have hcl124 := Teller_Busy b_78 s.busy s.fails s.torn s.turns ((k : Nat) : Int) ((k : Nat) : Int) (by omega) (by omega) hs121
                refine WL.cons rfl (?_)
                with_reducible refine OP.call [(Value.pointer (some ⟨b_78, 0, none⟩))] gf_37 ?_ ?_ hcl124 ?_
                · exact rfl
                · decide
                clear hcl124
                rintro _ w122 ⟨_, rfl, rfl, hs123⟩
                refine ⟨_, rfl, ?_⟩
                have hs125 : sat W0 [TellerRep b_78 s.busy s.fails s.torn s.turns (((k : Nat) : Int) + 1) ((k : Nat) : Int), TellerRep b_53 s.busy s.fails s.torn s.turns (((k : Nat) : Int) + 1) (((k : Nat) : Int) + 1), blk b1 [(Value.slice s.busyA s.busy.length s.busyC), (Value.slice s.failsA s.fails.length s.failsC), (Value.slice s.turnsA s.turns.length s.turnsC), (Value.int .i64 s.cut), (Value.slice s.tornA s.torn.length s.tornC), (Value.slice s.markedA s.marked.length s.markedC)] 26, F] w122 := sat_flat' [TellerRep b_78 s.busy s.fails s.torn s.turns (((k : Nat) : Int) + 1) ((k : Nat) : Int)] [TellerRep b_53 s.busy s.fails s.torn s.turns (((k : Nat) : Int) + 1) (((k : Nat) : Int) + 1), blk b1 [(Value.slice s.busyA s.busy.length s.busyC), (Value.slice s.failsA s.fails.length s.failsC), (Value.slice s.turnsA s.turns.length s.turnsC), (Value.int .i64 s.cut), (Value.slice s.tornA s.torn.length s.tornC), (Value.slice s.markedA s.marked.length s.markedC)] 26, F] hs123 (by kernel_rfl) (by kernel_rfl)
                refine WL.cons rfl (OP.neI rfl rfl (by decide) ?_)
                refine WL.cons rfl (OP.move (Value.bool false) (Eq.trans (b := Value.bool (decide (busyAt s.busy ((k : Nat) : Int) ≠ busyAt s.busy ((k : Nat) : Int)))) rfl (congrArg Value.bool (show decide (busyAt s.busy ((k : Nat) : Int) ≠ busyAt s.busy ((k : Nat) : Int)) = false by simp))) (by decide) ?_)
                refine WL.consG rfl rfl rfl (OP.move (Value.bool (decide (((k : Nat) : Int) ∈ s.fails))) rfl (by decide) ?_)
                refine WL.consG rfl rfl rfl (OP.move (Value.pointer (some ⟨b_78, 0, none⟩)) he102 (by decide) ?_)
                have hs126 : sat W0 [TellerRep b_78 s.busy s.fails s.torn s.turns (((k : Nat) : Int) + 1) ((k : Nat) : Int), stars [TellerRep b_53 s.busy s.fails s.torn s.turns (((k : Nat) : Int) + 1) (((k : Nat) : Int) + 1), blk b1 [(Value.slice s.busyA s.busy.length s.busyC), (Value.slice s.failsA s.fails.length s.failsC), (Value.slice s.turnsA s.turns.length s.turnsC), (Value.int .i64 s.cut), (Value.slice s.tornA s.torn.length s.tornC), (Value.slice s.markedA s.marked.length s.markedC)] 26, F]] w122 := sat_pack' [TellerRep b_78 s.busy s.fails s.torn s.turns (((k : Nat) : Int) + 1) ((k : Nat) : Int)] [TellerRep b_53 s.busy s.fails s.torn s.turns (((k : Nat) : Int) + 1) (((k : Nat) : Int) + 1), blk b1 [(Value.slice s.busyA s.busy.length s.busyC), (Value.slice s.failsA s.fails.length s.failsC), (Value.slice s.turnsA s.turns.length s.turnsC), (Value.int .i64 s.cut), (Value.slice s.tornA s.torn.length s.tornC), (Value.slice s.markedA s.marked.length s.markedC)] 26, F] hs125 (by kernel_rfl) (by kernel_rfl)
                have hcl129 := Teller_Fails b_78 s.busy s.fails s.torn s.turns (((k : Nat) : Int) + 1) ((k : Nat) : Int) (by omega) (by omega) hs126
                refine WL.consG rfl rfl rfl (?_)
                with_reducible refine OP.call [(Value.pointer (some ⟨b_78, 0, none⟩))] gf_38 ?_ ?_ hcl129 ?_
                · exact rfl
                · decide
                clear hcl129
                rintro _ w127 ⟨_, rfl, rfl, hs128⟩
                refine ⟨_, rfl, ?_⟩
                have hs130 : sat W0 [TellerRep b_78 s.busy s.fails s.torn s.turns (((k : Nat) : Int) + 1) (((k : Nat) : Int) + 1), TellerRep b_53 s.busy s.fails s.torn s.turns (((k : Nat) : Int) + 1) (((k : Nat) : Int) + 1), blk b1 [(Value.slice s.busyA s.busy.length s.busyC), (Value.slice s.failsA s.fails.length s.failsC), (Value.slice s.turnsA s.turns.length s.turnsC), (Value.int .i64 s.cut), (Value.slice s.tornA s.torn.length s.tornC), (Value.slice s.markedA s.marked.length s.markedC)] 26, F] w127 := sat_flat' [TellerRep b_78 s.busy s.fails s.torn s.turns (((k : Nat) : Int) + 1) (((k : Nat) : Int) + 1)] [TellerRep b_53 s.busy s.fails s.torn s.turns (((k : Nat) : Int) + 1) (((k : Nat) : Int) + 1), blk b1 [(Value.slice s.busyA s.busy.length s.busyC), (Value.slice s.failsA s.fails.length s.failsC), (Value.slice s.turnsA s.turns.length s.turnsC), (Value.int .i64 s.cut), (Value.slice s.tornA s.torn.length s.tornC), (Value.slice s.markedA s.marked.length s.markedC)] 26, F] hs128 (by kernel_rfl) (by kernel_rfl)
                refine WL.consG rfl rfl rfl (OP.neV (a := .bool (decide (((k : Nat) : Int) ∈ s.fails))) (b := .bool (decide (((k : Nat) : Int) ∈ s.fails))) rfl rfl rfl rfl (run_equalB Try.underlying4 _) (by decide) ?_)
                refine WL.cons rfl (OP.pickF (Value.bool false) rfl (Eq.trans (b := Value.bool (!((decide (((k : Nat) : Int) ∈ s.fails)) == (decide (((k : Nat) : Int) ∈ s.fails))))) rfl (congrArg Value.bool (show (!((decide (((k : Nat) : Int) ∈ s.fails)) == (decide (((k : Nat) : Int) ∈ s.fails)))) = false by simp))) (by decide) ?_)
                refine WL.cons rfl (OP.move (Value.bool false) rfl (by decide) ?_)
                refine WL.consG rfl rfl rfl (OP.move (Value.pointer (some ⟨b_53, 0, none⟩)) he101 (by decide) ?_)
                refine WL.consG rfl rfl rfl (OP.move (Value.int .i64 ((k : Nat) : Int)) rfl (by decide) ?_)
                refine WL.consG rfl rfl rfl (OP.rem rfl rfl (by omega) (by omega) (by unfold inI64; omega) (by decide) ?_)
                refine WL.consG rfl rfl rfl (OP.move (Value.int .i64 ((k : Nat) : Int)) rfl (by decide) ?_)
                refine WL.consG rfl rfl rfl (OP.rem rfl rfl (by omega) (by omega) (by unfold inI64; omega) (by decide) ?_)
                have hs131 : sat W0 [TellerRep b_53 s.busy s.fails s.torn s.turns (((k : Nat) : Int) + 1) (((k : Nat) : Int) + 1), TellerRep b_78 s.busy s.fails s.torn s.turns (((k : Nat) : Int) + 1) (((k : Nat) : Int) + 1), blk b1 [(Value.slice s.busyA s.busy.length s.busyC), (Value.slice s.failsA s.fails.length s.failsC), (Value.slice s.turnsA s.turns.length s.turnsC), (Value.int .i64 s.cut), (Value.slice s.tornA s.torn.length s.tornC), (Value.slice s.markedA s.marked.length s.markedC)] 26, F] w127 := sat_sel' [1, 0, 2, 3] hs130 (by kernel_rfl) (by kernel_rfl)
                have hs132 : sat W0 [TellerRep b_53 s.busy s.fails s.torn s.turns (((k : Nat) : Int) + 1) (((k : Nat) : Int) + 1), stars [TellerRep b_78 s.busy s.fails s.torn s.turns (((k : Nat) : Int) + 1) (((k : Nat) : Int) + 1), blk b1 [(Value.slice s.busyA s.busy.length s.busyC), (Value.slice s.failsA s.fails.length s.failsC), (Value.slice s.turnsA s.turns.length s.turnsC), (Value.int .i64 s.cut), (Value.slice s.tornA s.torn.length s.tornC), (Value.slice s.markedA s.marked.length s.markedC)] 26, F]] w127 := sat_pack' [TellerRep b_53 s.busy s.fails s.torn s.turns (((k : Nat) : Int) + 1) (((k : Nat) : Int) + 1)] [TellerRep b_78 s.busy s.fails s.torn s.turns (((k : Nat) : Int) + 1) (((k : Nat) : Int) + 1), blk b1 [(Value.slice s.busyA s.busy.length s.busyC), (Value.slice s.failsA s.fails.length s.failsC), (Value.slice s.turnsA s.turns.length s.turnsC), (Value.int .i64 s.cut), (Value.slice s.tornA s.torn.length s.tornC), (Value.slice s.markedA s.marked.length s.markedC)] 26, F] hs131 (by kernel_rfl) (by kernel_rfl)
                have hcl137 := Teller_Turns b_53 s.busy s.fails s.torn s.turns (((k : Nat) : Int) + 1) (((k : Nat) : Int) + 1) (((k : Nat) : Int) % 16) (((k : Nat) : Int) % 2) (by omega) hs132
                refine WL.consG rfl rfl rfl (?_)
                with_reducible refine OP.call [(Value.pointer (some ⟨b_53, 0, none⟩)), (Value.int .i64 (((k : Nat) : Int) % 16)), (Value.int .i64 (((k : Nat) : Int) % 2))] gf_11 ?_ ?_ hcl137 ?_
                · exact rfl
                · decide
                clear hcl137
                rintro _ w135 ⟨_, rfl, a_133, c_134, rfl, hs136⟩
                refine ⟨_, rfl, ?_⟩
                have hs138 : sat W0 [TellerRep b_53 s.busy s.fails s.torn s.turns (((k : Nat) : Int) + 1) (((k : Nat) : Int) + 1), SL false 1 a_133 ((bitsOf ((((k : Nat) : Int) % 16), (((k : Nat) : Int) % 2)) s.turns).length) c_134 ((bitsOf ((((k : Nat) : Int) % 16), (((k : Nat) : Int) % 2)) s.turns).map (Value.int .i64)), TellerRep b_78 s.busy s.fails s.torn s.turns (((k : Nat) : Int) + 1) (((k : Nat) : Int) + 1), blk b1 [(Value.slice s.busyA s.busy.length s.busyC), (Value.slice s.failsA s.fails.length s.failsC), (Value.slice s.turnsA s.turns.length s.turnsC), (Value.int .i64 s.cut), (Value.slice s.tornA s.torn.length s.tornC), (Value.slice s.markedA s.marked.length s.markedC)] 26, F] w135 := sat_flat' [TellerRep b_53 s.busy s.fails s.torn s.turns (((k : Nat) : Int) + 1) (((k : Nat) : Int) + 1), SL false 1 a_133 ((bitsOf ((((k : Nat) : Int) % 16), (((k : Nat) : Int) % 2)) s.turns).length) c_134 ((bitsOf ((((k : Nat) : Int) % 16), (((k : Nat) : Int) % 2)) s.turns).map (Value.int .i64))] [TellerRep b_78 s.busy s.fails s.torn s.turns (((k : Nat) : Int) + 1) (((k : Nat) : Int) + 1), blk b1 [(Value.slice s.busyA s.busy.length s.busyC), (Value.slice s.failsA s.fails.length s.failsC), (Value.slice s.turnsA s.turns.length s.turnsC), (Value.int .i64 s.cut), (Value.slice s.tornA s.torn.length s.tornC), (Value.slice s.markedA s.marked.length s.markedC)] 26, F] hs136 (by kernel_rfl) (by kernel_rfl)
                refine WL.consG rfl rfl rfl (OP.move (Value.pointer (some ⟨b_78, 0, none⟩)) he102 (by decide) ?_)
                refine WL.consG rfl rfl rfl (OP.move (Value.int .i64 ((k : Nat) : Int)) rfl (by decide) ?_)
                refine WL.consG rfl rfl rfl (OP.rem rfl rfl (by omega) (by omega) (by unfold inI64; omega) (by decide) ?_)
                refine WL.consG rfl rfl rfl (OP.move (Value.int .i64 ((k : Nat) : Int)) rfl (by decide) ?_)
                refine WL.consG rfl rfl rfl (OP.rem rfl rfl (by omega) (by omega) (by unfold inI64; omega) (by decide) ?_)
                have hs139 : sat W0 [TellerRep b_78 s.busy s.fails s.torn s.turns (((k : Nat) : Int) + 1) (((k : Nat) : Int) + 1), TellerRep b_53 s.busy s.fails s.torn s.turns (((k : Nat) : Int) + 1) (((k : Nat) : Int) + 1), SL false 1 a_133 ((bitsOf ((((k : Nat) : Int) % 16), (((k : Nat) : Int) % 2)) s.turns).length) c_134 ((bitsOf ((((k : Nat) : Int) % 16), (((k : Nat) : Int) % 2)) s.turns).map (Value.int .i64)), blk b1 [(Value.slice s.busyA s.busy.length s.busyC), (Value.slice s.failsA s.fails.length s.failsC), (Value.slice s.turnsA s.turns.length s.turnsC), (Value.int .i64 s.cut), (Value.slice s.tornA s.torn.length s.tornC), (Value.slice s.markedA s.marked.length s.markedC)] 26, F] w135 := sat_sel' [2, 0, 1, 3, 4] hs138 (by kernel_rfl) (by kernel_rfl)
                have hs140 : sat W0 [TellerRep b_78 s.busy s.fails s.torn s.turns (((k : Nat) : Int) + 1) (((k : Nat) : Int) + 1), stars [TellerRep b_53 s.busy s.fails s.torn s.turns (((k : Nat) : Int) + 1) (((k : Nat) : Int) + 1), SL false 1 a_133 ((bitsOf ((((k : Nat) : Int) % 16), (((k : Nat) : Int) % 2)) s.turns).length) c_134 ((bitsOf ((((k : Nat) : Int) % 16), (((k : Nat) : Int) % 2)) s.turns).map (Value.int .i64)), blk b1 [(Value.slice s.busyA s.busy.length s.busyC), (Value.slice s.failsA s.fails.length s.failsC), (Value.slice s.turnsA s.turns.length s.turnsC), (Value.int .i64 s.cut), (Value.slice s.tornA s.torn.length s.tornC), (Value.slice s.markedA s.marked.length s.markedC)] 26, F]] w135 := sat_pack' [TellerRep b_78 s.busy s.fails s.torn s.turns (((k : Nat) : Int) + 1) (((k : Nat) : Int) + 1)] [TellerRep b_53 s.busy s.fails s.torn s.turns (((k : Nat) : Int) + 1) (((k : Nat) : Int) + 1), SL false 1 a_133 ((bitsOf ((((k : Nat) : Int) % 16), (((k : Nat) : Int) % 2)) s.turns).length) c_134 ((bitsOf ((((k : Nat) : Int) % 16), (((k : Nat) : Int) % 2)) s.turns).map (Value.int .i64)), blk b1 [(Value.slice s.busyA s.busy.length s.busyC), (Value.slice s.failsA s.fails.length s.failsC), (Value.slice s.turnsA s.turns.length s.turnsC), (Value.int .i64 s.cut), (Value.slice s.tornA s.torn.length s.tornC), (Value.slice s.markedA s.marked.length s.markedC)] 26, F] hs139 (by kernel_rfl) (by kernel_rfl)
                have hcl145 := Teller_Turns b_78 s.busy s.fails s.torn s.turns (((k : Nat) : Int) + 1) (((k : Nat) : Int) + 1) (((k : Nat) : Int) % 16) (((k : Nat) : Int) % 2) (by omega) hs140
                refine WL.consG rfl rfl rfl (?_)
                with_reducible refine OP.call [(Value.pointer (some ⟨b_78, 0, none⟩)), (Value.int .i64 (((k : Nat) : Int) % 16)), (Value.int .i64 (((k : Nat) : Int) % 2))] gf_11 ?_ ?_ hcl145 ?_
                · exact rfl
                · decide
                clear hcl145
                rintro _ w143 ⟨_, rfl, a_141, c_142, rfl, hs144⟩
                refine ⟨_, rfl, ?_⟩
                have hs146 : sat W0 [TellerRep b_78 s.busy s.fails s.torn s.turns (((k : Nat) : Int) + 1) (((k : Nat) : Int) + 1), SL false 1 a_141 ((bitsOf ((((k : Nat) : Int) % 16), (((k : Nat) : Int) % 2)) s.turns).length) c_142 ((bitsOf ((((k : Nat) : Int) % 16), (((k : Nat) : Int) % 2)) s.turns).map (Value.int .i64)), TellerRep b_53 s.busy s.fails s.torn s.turns (((k : Nat) : Int) + 1) (((k : Nat) : Int) + 1), SL false 1 a_133 ((bitsOf ((((k : Nat) : Int) % 16), (((k : Nat) : Int) % 2)) s.turns).length) c_134 ((bitsOf ((((k : Nat) : Int) % 16), (((k : Nat) : Int) % 2)) s.turns).map (Value.int .i64)), blk b1 [(Value.slice s.busyA s.busy.length s.busyC), (Value.slice s.failsA s.fails.length s.failsC), (Value.slice s.turnsA s.turns.length s.turnsC), (Value.int .i64 s.cut), (Value.slice s.tornA s.torn.length s.tornC), (Value.slice s.markedA s.marked.length s.markedC)] 26, F] w143 := sat_flat' [TellerRep b_78 s.busy s.fails s.torn s.turns (((k : Nat) : Int) + 1) (((k : Nat) : Int) + 1), SL false 1 a_141 ((bitsOf ((((k : Nat) : Int) % 16), (((k : Nat) : Int) % 2)) s.turns).length) c_142 ((bitsOf ((((k : Nat) : Int) % 16), (((k : Nat) : Int) % 2)) s.turns).map (Value.int .i64))] [TellerRep b_53 s.busy s.fails s.torn s.turns (((k : Nat) : Int) + 1) (((k : Nat) : Int) + 1), SL false 1 a_133 ((bitsOf ((((k : Nat) : Int) % 16), (((k : Nat) : Int) % 2)) s.turns).length) c_134 ((bitsOf ((((k : Nat) : Int) % 16), (((k : Nat) : Int) % 2)) s.turns).map (Value.int .i64)), blk b1 [(Value.slice s.busyA s.busy.length s.busyC), (Value.slice s.failsA s.fails.length s.failsC), (Value.slice s.turnsA s.turns.length s.turnsC), (Value.int .i64 s.cut), (Value.slice s.tornA s.torn.length s.tornC), (Value.slice s.markedA s.marked.length s.markedC)] 26, F] hs144 (by kernel_rfl) (by kernel_rfl)
                have hs147 : sat W0 [stars [TellerRep b_78 s.busy s.fails s.torn s.turns (((k : Nat) : Int) + 1) (((k : Nat) : Int) + 1), SL false 1 a_141 ((bitsOf ((((k : Nat) : Int) % 16), (((k : Nat) : Int) % 2)) s.turns).length) c_142 ((bitsOf ((((k : Nat) : Int) % 16), (((k : Nat) : Int) % 2)) s.turns).map (Value.int .i64)), TellerRep b_53 s.busy s.fails s.torn s.turns (((k : Nat) : Int) + 1) (((k : Nat) : Int) + 1), SL false 1 a_133 ((bitsOf ((((k : Nat) : Int) % 16), (((k : Nat) : Int) % 2)) s.turns).length) c_134 ((bitsOf ((((k : Nat) : Int) % 16), (((k : Nat) : Int) % 2)) s.turns).map (Value.int .i64)), blk b1 [(Value.slice s.busyA s.busy.length s.busyC), (Value.slice s.failsA s.fails.length s.failsC), (Value.slice s.turnsA s.turns.length s.turnsC), (Value.int .i64 s.cut), (Value.slice s.tornA s.torn.length s.tornC), (Value.slice s.markedA s.marked.length s.markedC)] 26, F]] w143 := sat_pack' [] [TellerRep b_78 s.busy s.fails s.torn s.turns (((k : Nat) : Int) + 1) (((k : Nat) : Int) + 1), SL false 1 a_141 ((bitsOf ((((k : Nat) : Int) % 16), (((k : Nat) : Int) % 2)) s.turns).length) c_142 ((bitsOf ((((k : Nat) : Int) % 16), (((k : Nat) : Int) % 2)) s.turns).map (Value.int .i64)), TellerRep b_53 s.busy s.fails s.torn s.turns (((k : Nat) : Int) + 1) (((k : Nat) : Int) + 1), SL false 1 a_133 ((bitsOf ((((k : Nat) : Int) % 16), (((k : Nat) : Int) % 2)) s.turns).length) c_134 ((bitsOf ((((k : Nat) : Int) % 16), (((k : Nat) : Int) % 2)) s.turns).map (Value.int .i64)), blk b1 [(Value.slice s.busyA s.busy.length s.busyC), (Value.slice s.failsA s.fails.length s.failsC), (Value.slice s.turnsA s.turns.length s.turnsC), (Value.int .i64 s.cut), (Value.slice s.tornA s.torn.length s.tornC), (Value.slice s.markedA s.marked.length s.markedC)] 26, F] hs146 (by kernel_rfl) (by kernel_rfl)
                have hcl150 := ref01_Ints a_133 c_134 (bitsOf ((((k : Nat) : Int) % 16), (((k : Nat) : Int) % 2)) s.turns) a_141 c_142 (bitsOf ((((k : Nat) : Int) % 16), (((k : Nat) : Int) % 2)) s.turns) (by have := bitsOf_length (((k : Nat) : Int) % 16, ((k : Nat) : Int) % 2) s.turns; omega) (by have := bitsOf_length (((k : Nat) : Int) % 16, ((k : Nat) : Int) % 2) s.turns; omega) (Ent_stars 3 rfl Ent_SL) (Ent_stars 1 rfl Ent_SL) hs147
                refine WL.consG rfl rfl rfl (?_)
                with_reducible refine OP.call [(Value.slice a_133 ((bitsOf ((((k : Nat) : Int) % 16), (((k : Nat) : Int) % 2)) s.turns).length) c_134), (Value.slice a_141 ((bitsOf ((((k : Nat) : Int) % 16), (((k : Nat) : Int) % 2)) s.turns).length) c_142)] gf_40 ?_ ?_ hcl150 ?_
                · exact rfl
                · decide
                clear hcl150
                rintro _ w148 ⟨_, rfl, rfl, hs149⟩
                refine ⟨_, rfl, ?_⟩
                have hs151 : sat W0 [TellerRep b_78 s.busy s.fails s.torn s.turns (((k : Nat) : Int) + 1) (((k : Nat) : Int) + 1), SL false 1 a_141 ((bitsOf ((((k : Nat) : Int) % 16), (((k : Nat) : Int) % 2)) s.turns).length) c_142 ((bitsOf ((((k : Nat) : Int) % 16), (((k : Nat) : Int) % 2)) s.turns).map (Value.int .i64)), TellerRep b_53 s.busy s.fails s.torn s.turns (((k : Nat) : Int) + 1) (((k : Nat) : Int) + 1), SL false 1 a_133 ((bitsOf ((((k : Nat) : Int) % 16), (((k : Nat) : Int) % 2)) s.turns).length) c_134 ((bitsOf ((((k : Nat) : Int) % 16), (((k : Nat) : Int) % 2)) s.turns).map (Value.int .i64)), blk b1 [(Value.slice s.busyA s.busy.length s.busyC), (Value.slice s.failsA s.fails.length s.failsC), (Value.slice s.turnsA s.turns.length s.turnsC), (Value.int .i64 s.cut), (Value.slice s.tornA s.torn.length s.tornC), (Value.slice s.markedA s.marked.length s.markedC)] 26, F] w148 := sat_flat' [] [TellerRep b_78 s.busy s.fails s.torn s.turns (((k : Nat) : Int) + 1) (((k : Nat) : Int) + 1), SL false 1 a_141 ((bitsOf ((((k : Nat) : Int) % 16), (((k : Nat) : Int) % 2)) s.turns).length) c_142 ((bitsOf ((((k : Nat) : Int) % 16), (((k : Nat) : Int) % 2)) s.turns).map (Value.int .i64)), TellerRep b_53 s.busy s.fails s.torn s.turns (((k : Nat) : Int) + 1) (((k : Nat) : Int) + 1), SL false 1 a_133 ((bitsOf ((((k : Nat) : Int) % 16), (((k : Nat) : Int) % 2)) s.turns).length) c_134 ((bitsOf ((((k : Nat) : Int) % 16), (((k : Nat) : Int) % 2)) s.turns).map (Value.int .i64)), blk b1 [(Value.slice s.busyA s.busy.length s.busyC), (Value.slice s.failsA s.fails.length s.failsC), (Value.slice s.turnsA s.turns.length s.turnsC), (Value.int .i64 s.cut), (Value.slice s.tornA s.torn.length s.tornC), (Value.slice s.markedA s.marked.length s.markedC)] 26, F] hs149 (by kernel_rfl) (by kernel_rfl)
                refine WL.consG rfl rfl rfl (OP.not (Eq.trans (b := (Value.bool (decide ((bitsOf ((((k : Nat) : Int) % 16), (((k : Nat) : Int) % 2)) s.turns) = (bitsOf ((((k : Nat) : Int) % 16), (((k : Nat) : Int) % 2)) s.turns))))) rfl (congrArg Value.bool (show decide ((bitsOf ((((k : Nat) : Int) % 16), (((k : Nat) : Int) % 2)) s.turns) = (bitsOf ((((k : Nat) : Int) % 16), (((k : Nat) : Int) % 2)) s.turns)) = true by simp))) (by decide) ?_)
                refine WL.cons rfl (OP.pickF (Value.bool false) rfl rfl (by decide) ?_)
                refine WL.cons rfl (OP.move (Value.bool false) rfl (by decide) ?_)
                refine WL.consG rfl rfl rfl (OP.move (Value.pointer (some ⟨b_53, 0, none⟩)) he101 (by decide) ?_)
                refine WL.consG rfl rfl rfl (OP.move (Value.int .i64 ((k : Nat) : Int)) rfl (by decide) ?_)
                have hs152 : sat W0 [TellerRep b_53 s.busy s.fails s.torn s.turns (((k : Nat) : Int) + 1) (((k : Nat) : Int) + 1), TellerRep b_78 s.busy s.fails s.torn s.turns (((k : Nat) : Int) + 1) (((k : Nat) : Int) + 1), SL false 1 a_141 ((bitsOf ((((k : Nat) : Int) % 16), (((k : Nat) : Int) % 2)) s.turns).length) c_142 ((bitsOf ((((k : Nat) : Int) % 16), (((k : Nat) : Int) % 2)) s.turns).map (Value.int .i64)), SL false 1 a_133 ((bitsOf ((((k : Nat) : Int) % 16), (((k : Nat) : Int) % 2)) s.turns).length) c_134 ((bitsOf ((((k : Nat) : Int) % 16), (((k : Nat) : Int) % 2)) s.turns).map (Value.int .i64)), blk b1 [(Value.slice s.busyA s.busy.length s.busyC), (Value.slice s.failsA s.fails.length s.failsC), (Value.slice s.turnsA s.turns.length s.turnsC), (Value.int .i64 s.cut), (Value.slice s.tornA s.torn.length s.tornC), (Value.slice s.markedA s.marked.length s.markedC)] 26, F] w148 := sat_sel' [2, 0, 1, 3, 4, 5] hs151 (by kernel_rfl) (by kernel_rfl)
                have hs153 : sat W0 [TellerRep b_53 s.busy s.fails s.torn s.turns (((k : Nat) : Int) + 1) (((k : Nat) : Int) + 1), stars [TellerRep b_78 s.busy s.fails s.torn s.turns (((k : Nat) : Int) + 1) (((k : Nat) : Int) + 1), SL false 1 a_141 ((bitsOf ((((k : Nat) : Int) % 16), (((k : Nat) : Int) % 2)) s.turns).length) c_142 ((bitsOf ((((k : Nat) : Int) % 16), (((k : Nat) : Int) % 2)) s.turns).map (Value.int .i64)), SL false 1 a_133 ((bitsOf ((((k : Nat) : Int) % 16), (((k : Nat) : Int) % 2)) s.turns).length) c_134 ((bitsOf ((((k : Nat) : Int) % 16), (((k : Nat) : Int) % 2)) s.turns).map (Value.int .i64)), blk b1 [(Value.slice s.busyA s.busy.length s.busyC), (Value.slice s.failsA s.fails.length s.failsC), (Value.slice s.turnsA s.turns.length s.turnsC), (Value.int .i64 s.cut), (Value.slice s.tornA s.torn.length s.tornC), (Value.slice s.markedA s.marked.length s.markedC)] 26, F]] w148 := sat_pack' [TellerRep b_53 s.busy s.fails s.torn s.turns (((k : Nat) : Int) + 1) (((k : Nat) : Int) + 1)] [TellerRep b_78 s.busy s.fails s.torn s.turns (((k : Nat) : Int) + 1) (((k : Nat) : Int) + 1), SL false 1 a_141 ((bitsOf ((((k : Nat) : Int) % 16), (((k : Nat) : Int) % 2)) s.turns).length) c_142 ((bitsOf ((((k : Nat) : Int) % 16), (((k : Nat) : Int) % 2)) s.turns).map (Value.int .i64)), SL false 1 a_133 ((bitsOf ((((k : Nat) : Int) % 16), (((k : Nat) : Int) % 2)) s.turns).length) c_134 ((bitsOf ((((k : Nat) : Int) % 16), (((k : Nat) : Int) % 2)) s.turns).map (Value.int .i64)), blk b1 [(Value.slice s.busyA s.busy.length s.busyC), (Value.slice s.failsA s.fails.length s.failsC), (Value.slice s.turnsA s.turns.length s.turnsC), (Value.int .i64 s.cut), (Value.slice s.tornA s.torn.length s.tornC), (Value.slice s.markedA s.marked.length s.markedC)] 26, F] hs152 (by kernel_rfl) (by kernel_rfl)
                have hcl158 := Teller_Torn b_53 s.busy s.fails s.torn s.turns (((k : Nat) : Int) + 1) (((k : Nat) : Int) + 1) k (by omega) (by omega) hs153
                refine WL.consG rfl rfl rfl (?_)
                with_reducible refine OP.call [(Value.pointer (some ⟨b_53, 0, none⟩)), (Value.int .i64 ((k : Nat) : Int))] gf_39 ?_ ?_ hcl158 ?_
                · exact rfl
                · decide
                clear hcl158
                rintro _ w156 ⟨_, rfl, a_154, c_155, rfl, hs157⟩
                refine ⟨_, rfl, ?_⟩
                have hs159 : sat W0 [TellerRep b_53 s.busy s.fails s.torn s.turns (((k : Nat) : Int) + 1) (((k : Nat) : Int) + 1), SL false 1 a_154 k c_155 ((tornL s.torn k).map (Value.int .u8)), TellerRep b_78 s.busy s.fails s.torn s.turns (((k : Nat) : Int) + 1) (((k : Nat) : Int) + 1), SL false 1 a_141 ((bitsOf ((((k : Nat) : Int) % 16), (((k : Nat) : Int) % 2)) s.turns).length) c_142 ((bitsOf ((((k : Nat) : Int) % 16), (((k : Nat) : Int) % 2)) s.turns).map (Value.int .i64)), SL false 1 a_133 ((bitsOf ((((k : Nat) : Int) % 16), (((k : Nat) : Int) % 2)) s.turns).length) c_134 ((bitsOf ((((k : Nat) : Int) % 16), (((k : Nat) : Int) % 2)) s.turns).map (Value.int .i64)), blk b1 [(Value.slice s.busyA s.busy.length s.busyC), (Value.slice s.failsA s.fails.length s.failsC), (Value.slice s.turnsA s.turns.length s.turnsC), (Value.int .i64 s.cut), (Value.slice s.tornA s.torn.length s.tornC), (Value.slice s.markedA s.marked.length s.markedC)] 26, F] w156 := sat_flat' [TellerRep b_53 s.busy s.fails s.torn s.turns (((k : Nat) : Int) + 1) (((k : Nat) : Int) + 1), SL false 1 a_154 k c_155 ((tornL s.torn k).map (Value.int .u8))] [TellerRep b_78 s.busy s.fails s.torn s.turns (((k : Nat) : Int) + 1) (((k : Nat) : Int) + 1), SL false 1 a_141 ((bitsOf ((((k : Nat) : Int) % 16), (((k : Nat) : Int) % 2)) s.turns).length) c_142 ((bitsOf ((((k : Nat) : Int) % 16), (((k : Nat) : Int) % 2)) s.turns).map (Value.int .i64)), SL false 1 a_133 ((bitsOf ((((k : Nat) : Int) % 16), (((k : Nat) : Int) % 2)) s.turns).length) c_134 ((bitsOf ((((k : Nat) : Int) % 16), (((k : Nat) : Int) % 2)) s.turns).map (Value.int .i64)), blk b1 [(Value.slice s.busyA s.busy.length s.busyC), (Value.slice s.failsA s.fails.length s.failsC), (Value.slice s.turnsA s.turns.length s.turnsC), (Value.int .i64 s.cut), (Value.slice s.tornA s.torn.length s.tornC), (Value.slice s.markedA s.marked.length s.markedC)] 26, F] hs157 (by kernel_rfl) (by kernel_rfl)
                have hs160 : sat W0 [TellerRep b_53 s.busy s.fails s.torn s.turns (((k : Nat) : Int) + 1) (((k : Nat) : Int) + 1), SL false 1 a_154 ((tornL s.torn k).length) c_155 ((tornL s.torn k).map (Value.int .u8)), TellerRep b_78 s.busy s.fails s.torn s.turns (((k : Nat) : Int) + 1) (((k : Nat) : Int) + 1), SL false 1 a_141 ((bitsOf ((((k : Nat) : Int) % 16), (((k : Nat) : Int) % 2)) s.turns).length) c_142 ((bitsOf ((((k : Nat) : Int) % 16), (((k : Nat) : Int) % 2)) s.turns).map (Value.int .i64)), SL false 1 a_133 ((bitsOf ((((k : Nat) : Int) % 16), (((k : Nat) : Int) % 2)) s.turns).length) c_134 ((bitsOf ((((k : Nat) : Int) % 16), (((k : Nat) : Int) % 2)) s.turns).map (Value.int .i64)), blk b1 [(Value.slice s.busyA s.busy.length s.busyC), (Value.slice s.failsA s.fails.length s.failsC), (Value.slice s.turnsA s.turns.length s.turnsC), (Value.int .i64 s.cut), (Value.slice s.tornA s.torn.length s.tornC), (Value.slice s.markedA s.marked.length s.markedC)] 26, F] w156 := (by have h_ := hs159; simp only [tornL_length] at h_ ⊢; exact h_)
                refine WL.consG rfl rfl rfl (OP.move (Value.pointer (some ⟨b_78, 0, none⟩)) he102 (by decide) ?_)
                refine WL.consG rfl rfl rfl (OP.move (Value.int .i64 ((k : Nat) : Int)) rfl (by decide) ?_)
                have hs161 : sat W0 [TellerRep b_78 s.busy s.fails s.torn s.turns (((k : Nat) : Int) + 1) (((k : Nat) : Int) + 1), TellerRep b_53 s.busy s.fails s.torn s.turns (((k : Nat) : Int) + 1) (((k : Nat) : Int) + 1), SL false 1 a_154 ((tornL s.torn k).length) c_155 ((tornL s.torn k).map (Value.int .u8)), SL false 1 a_141 ((bitsOf ((((k : Nat) : Int) % 16), (((k : Nat) : Int) % 2)) s.turns).length) c_142 ((bitsOf ((((k : Nat) : Int) % 16), (((k : Nat) : Int) % 2)) s.turns).map (Value.int .i64)), SL false 1 a_133 ((bitsOf ((((k : Nat) : Int) % 16), (((k : Nat) : Int) % 2)) s.turns).length) c_134 ((bitsOf ((((k : Nat) : Int) % 16), (((k : Nat) : Int) % 2)) s.turns).map (Value.int .i64)), blk b1 [(Value.slice s.busyA s.busy.length s.busyC), (Value.slice s.failsA s.fails.length s.failsC), (Value.slice s.turnsA s.turns.length s.turnsC), (Value.int .i64 s.cut), (Value.slice s.tornA s.torn.length s.tornC), (Value.slice s.markedA s.marked.length s.markedC)] 26, F] w156 := sat_sel' [2, 0, 1, 3, 4, 5, 6] hs160 (by kernel_rfl) (by kernel_rfl)
                have hs162 : sat W0 [TellerRep b_78 s.busy s.fails s.torn s.turns (((k : Nat) : Int) + 1) (((k : Nat) : Int) + 1), stars [TellerRep b_53 s.busy s.fails s.torn s.turns (((k : Nat) : Int) + 1) (((k : Nat) : Int) + 1), SL false 1 a_154 ((tornL s.torn k).length) c_155 ((tornL s.torn k).map (Value.int .u8)), SL false 1 a_141 ((bitsOf ((((k : Nat) : Int) % 16), (((k : Nat) : Int) % 2)) s.turns).length) c_142 ((bitsOf ((((k : Nat) : Int) % 16), (((k : Nat) : Int) % 2)) s.turns).map (Value.int .i64)), SL false 1 a_133 ((bitsOf ((((k : Nat) : Int) % 16), (((k : Nat) : Int) % 2)) s.turns).length) c_134 ((bitsOf ((((k : Nat) : Int) % 16), (((k : Nat) : Int) % 2)) s.turns).map (Value.int .i64)), blk b1 [(Value.slice s.busyA s.busy.length s.busyC), (Value.slice s.failsA s.fails.length s.failsC), (Value.slice s.turnsA s.turns.length s.turnsC), (Value.int .i64 s.cut), (Value.slice s.tornA s.torn.length s.tornC), (Value.slice s.markedA s.marked.length s.markedC)] 26, F]] w156 := sat_pack' [TellerRep b_78 s.busy s.fails s.torn s.turns (((k : Nat) : Int) + 1) (((k : Nat) : Int) + 1)] [TellerRep b_53 s.busy s.fails s.torn s.turns (((k : Nat) : Int) + 1) (((k : Nat) : Int) + 1), SL false 1 a_154 ((tornL s.torn k).length) c_155 ((tornL s.torn k).map (Value.int .u8)), SL false 1 a_141 ((bitsOf ((((k : Nat) : Int) % 16), (((k : Nat) : Int) % 2)) s.turns).length) c_142 ((bitsOf ((((k : Nat) : Int) % 16), (((k : Nat) : Int) % 2)) s.turns).map (Value.int .i64)), SL false 1 a_133 ((bitsOf ((((k : Nat) : Int) % 16), (((k : Nat) : Int) % 2)) s.turns).length) c_134 ((bitsOf ((((k : Nat) : Int) % 16), (((k : Nat) : Int) % 2)) s.turns).map (Value.int .i64)), blk b1 [(Value.slice s.busyA s.busy.length s.busyC), (Value.slice s.failsA s.fails.length s.failsC), (Value.slice s.turnsA s.turns.length s.turnsC), (Value.int .i64 s.cut), (Value.slice s.tornA s.torn.length s.tornC), (Value.slice s.markedA s.marked.length s.markedC)] 26, F] hs161 (by kernel_rfl) (by kernel_rfl)
                have hcl167 := Teller_Torn b_78 s.busy s.fails s.torn s.turns (((k : Nat) : Int) + 1) (((k : Nat) : Int) + 1) k (by omega) (by omega) hs162
                refine WL.consG rfl rfl rfl (?_)
                with_reducible refine OP.call [(Value.pointer (some ⟨b_78, 0, none⟩)), (Value.int .i64 ((k : Nat) : Int))] gf_39 ?_ ?_ hcl167 ?_
                · exact rfl
                · decide
                clear hcl167
                rintro _ w165 ⟨_, rfl, a_163, c_164, rfl, hs166⟩
                refine ⟨_, rfl, ?_⟩
                have hs168 : sat W0 [TellerRep b_78 s.busy s.fails s.torn s.turns (((k : Nat) : Int) + 1) (((k : Nat) : Int) + 1), SL false 1 a_163 k c_164 ((tornL s.torn k).map (Value.int .u8)), TellerRep b_53 s.busy s.fails s.torn s.turns (((k : Nat) : Int) + 1) (((k : Nat) : Int) + 1), SL false 1 a_154 ((tornL s.torn k).length) c_155 ((tornL s.torn k).map (Value.int .u8)), SL false 1 a_141 ((bitsOf ((((k : Nat) : Int) % 16), (((k : Nat) : Int) % 2)) s.turns).length) c_142 ((bitsOf ((((k : Nat) : Int) % 16), (((k : Nat) : Int) % 2)) s.turns).map (Value.int .i64)), SL false 1 a_133 ((bitsOf ((((k : Nat) : Int) % 16), (((k : Nat) : Int) % 2)) s.turns).length) c_134 ((bitsOf ((((k : Nat) : Int) % 16), (((k : Nat) : Int) % 2)) s.turns).map (Value.int .i64)), blk b1 [(Value.slice s.busyA s.busy.length s.busyC), (Value.slice s.failsA s.fails.length s.failsC), (Value.slice s.turnsA s.turns.length s.turnsC), (Value.int .i64 s.cut), (Value.slice s.tornA s.torn.length s.tornC), (Value.slice s.markedA s.marked.length s.markedC)] 26, F] w165 := sat_flat' [TellerRep b_78 s.busy s.fails s.torn s.turns (((k : Nat) : Int) + 1) (((k : Nat) : Int) + 1), SL false 1 a_163 k c_164 ((tornL s.torn k).map (Value.int .u8))] [TellerRep b_53 s.busy s.fails s.torn s.turns (((k : Nat) : Int) + 1) (((k : Nat) : Int) + 1), SL false 1 a_154 ((tornL s.torn k).length) c_155 ((tornL s.torn k).map (Value.int .u8)), SL false 1 a_141 ((bitsOf ((((k : Nat) : Int) % 16), (((k : Nat) : Int) % 2)) s.turns).length) c_142 ((bitsOf ((((k : Nat) : Int) % 16), (((k : Nat) : Int) % 2)) s.turns).map (Value.int .i64)), SL false 1 a_133 ((bitsOf ((((k : Nat) : Int) % 16), (((k : Nat) : Int) % 2)) s.turns).length) c_134 ((bitsOf ((((k : Nat) : Int) % 16), (((k : Nat) : Int) % 2)) s.turns).map (Value.int .i64)), blk b1 [(Value.slice s.busyA s.busy.length s.busyC), (Value.slice s.failsA s.fails.length s.failsC), (Value.slice s.turnsA s.turns.length s.turnsC), (Value.int .i64 s.cut), (Value.slice s.tornA s.torn.length s.tornC), (Value.slice s.markedA s.marked.length s.markedC)] 26, F] hs166 (by kernel_rfl) (by kernel_rfl)
                have hs169 : sat W0 [TellerRep b_78 s.busy s.fails s.torn s.turns (((k : Nat) : Int) + 1) (((k : Nat) : Int) + 1), SL false 1 a_163 ((tornL s.torn k).length) c_164 ((tornL s.torn k).map (Value.int .u8)), TellerRep b_53 s.busy s.fails s.torn s.turns (((k : Nat) : Int) + 1) (((k : Nat) : Int) + 1), SL false 1 a_154 ((tornL s.torn k).length) c_155 ((tornL s.torn k).map (Value.int .u8)), SL false 1 a_141 ((bitsOf ((((k : Nat) : Int) % 16), (((k : Nat) : Int) % 2)) s.turns).length) c_142 ((bitsOf ((((k : Nat) : Int) % 16), (((k : Nat) : Int) % 2)) s.turns).map (Value.int .i64)), SL false 1 a_133 ((bitsOf ((((k : Nat) : Int) % 16), (((k : Nat) : Int) % 2)) s.turns).length) c_134 ((bitsOf ((((k : Nat) : Int) % 16), (((k : Nat) : Int) % 2)) s.turns).map (Value.int .i64)), blk b1 [(Value.slice s.busyA s.busy.length s.busyC), (Value.slice s.failsA s.fails.length s.failsC), (Value.slice s.turnsA s.turns.length s.turnsC), (Value.int .i64 s.cut), (Value.slice s.tornA s.torn.length s.tornC), (Value.slice s.markedA s.marked.length s.markedC)] 26, F] w165 := (by have h_ := hs168; simp only [tornL_length] at h_ ⊢; exact h_)
                have hs170 : sat W0 [stars [TellerRep b_78 s.busy s.fails s.torn s.turns (((k : Nat) : Int) + 1) (((k : Nat) : Int) + 1), SL false 1 a_163 ((tornL s.torn k).length) c_164 ((tornL s.torn k).map (Value.int .u8)), TellerRep b_53 s.busy s.fails s.torn s.turns (((k : Nat) : Int) + 1) (((k : Nat) : Int) + 1), SL false 1 a_154 ((tornL s.torn k).length) c_155 ((tornL s.torn k).map (Value.int .u8)), SL false 1 a_141 ((bitsOf ((((k : Nat) : Int) % 16), (((k : Nat) : Int) % 2)) s.turns).length) c_142 ((bitsOf ((((k : Nat) : Int) % 16), (((k : Nat) : Int) % 2)) s.turns).map (Value.int .i64)), SL false 1 a_133 ((bitsOf ((((k : Nat) : Int) % 16), (((k : Nat) : Int) % 2)) s.turns).length) c_134 ((bitsOf ((((k : Nat) : Int) % 16), (((k : Nat) : Int) % 2)) s.turns).map (Value.int .i64)), blk b1 [(Value.slice s.busyA s.busy.length s.busyC), (Value.slice s.failsA s.fails.length s.failsC), (Value.slice s.turnsA s.turns.length s.turnsC), (Value.int .i64 s.cut), (Value.slice s.tornA s.torn.length s.tornC), (Value.slice s.markedA s.marked.length s.markedC)] 26, F]] w165 := sat_pack' [] [TellerRep b_78 s.busy s.fails s.torn s.turns (((k : Nat) : Int) + 1) (((k : Nat) : Int) + 1), SL false 1 a_163 ((tornL s.torn k).length) c_164 ((tornL s.torn k).map (Value.int .u8)), TellerRep b_53 s.busy s.fails s.torn s.turns (((k : Nat) : Int) + 1) (((k : Nat) : Int) + 1), SL false 1 a_154 ((tornL s.torn k).length) c_155 ((tornL s.torn k).map (Value.int .u8)), SL false 1 a_141 ((bitsOf ((((k : Nat) : Int) % 16), (((k : Nat) : Int) % 2)) s.turns).length) c_142 ((bitsOf ((((k : Nat) : Int) % 16), (((k : Nat) : Int) % 2)) s.turns).map (Value.int .i64)), SL false 1 a_133 ((bitsOf ((((k : Nat) : Int) % 16), (((k : Nat) : Int) % 2)) s.turns).length) c_134 ((bitsOf ((((k : Nat) : Int) % 16), (((k : Nat) : Int) % 2)) s.turns).map (Value.int .i64)), blk b1 [(Value.slice s.busyA s.busy.length s.busyC), (Value.slice s.failsA s.fails.length s.failsC), (Value.slice s.turnsA s.turns.length s.turnsC), (Value.int .i64 s.cut), (Value.slice s.tornA s.torn.length s.tornC), (Value.slice s.markedA s.marked.length s.markedC)] 26, F] hs169 (by kernel_rfl) (by kernel_rfl)
                have hcl173 := ref01_Same a_154 c_155 (tornL s.torn k) a_163 c_164 (tornL s.torn k) (by rw [tornL_length]; omega) (by rw [tornL_length]; omega) (Ent_stars 3 rfl Ent_SL) (Ent_stars 1 rfl Ent_SL) hs170
                refine WL.consG rfl rfl rfl (?_)
                with_reducible refine OP.call [(Value.slice a_154 ((tornL s.torn k).length) c_155), (Value.slice a_163 ((tornL s.torn k).length) c_164)] gf_28 ?_ ?_ hcl173 ?_
                · exact (congr (congrArg List.cons (Eq.trans (b := (Value.slice a_154 k c_155)) rfl (by rw [tornL_length]))) (congr (congrArg List.cons (Eq.trans (b := (Value.slice a_163 k c_164)) rfl (by rw [tornL_length]))) (rfl)))
                · decide
                clear hcl173
                rintro _ w171 ⟨_, rfl, rfl, hs172⟩
                refine ⟨_, rfl, ?_⟩
                have hs174 : sat W0 [TellerRep b_78 s.busy s.fails s.torn s.turns (((k : Nat) : Int) + 1) (((k : Nat) : Int) + 1), SL false 1 a_163 ((tornL s.torn k).length) c_164 ((tornL s.torn k).map (Value.int .u8)), TellerRep b_53 s.busy s.fails s.torn s.turns (((k : Nat) : Int) + 1) (((k : Nat) : Int) + 1), SL false 1 a_154 ((tornL s.torn k).length) c_155 ((tornL s.torn k).map (Value.int .u8)), SL false 1 a_141 ((bitsOf ((((k : Nat) : Int) % 16), (((k : Nat) : Int) % 2)) s.turns).length) c_142 ((bitsOf ((((k : Nat) : Int) % 16), (((k : Nat) : Int) % 2)) s.turns).map (Value.int .i64)), SL false 1 a_133 ((bitsOf ((((k : Nat) : Int) % 16), (((k : Nat) : Int) % 2)) s.turns).length) c_134 ((bitsOf ((((k : Nat) : Int) % 16), (((k : Nat) : Int) % 2)) s.turns).map (Value.int .i64)), blk b1 [(Value.slice s.busyA s.busy.length s.busyC), (Value.slice s.failsA s.fails.length s.failsC), (Value.slice s.turnsA s.turns.length s.turnsC), (Value.int .i64 s.cut), (Value.slice s.tornA s.torn.length s.tornC), (Value.slice s.markedA s.marked.length s.markedC)] 26, F] w171 := sat_flat' [] [TellerRep b_78 s.busy s.fails s.torn s.turns (((k : Nat) : Int) + 1) (((k : Nat) : Int) + 1), SL false 1 a_163 ((tornL s.torn k).length) c_164 ((tornL s.torn k).map (Value.int .u8)), TellerRep b_53 s.busy s.fails s.torn s.turns (((k : Nat) : Int) + 1) (((k : Nat) : Int) + 1), SL false 1 a_154 ((tornL s.torn k).length) c_155 ((tornL s.torn k).map (Value.int .u8)), SL false 1 a_141 ((bitsOf ((((k : Nat) : Int) % 16), (((k : Nat) : Int) % 2)) s.turns).length) c_142 ((bitsOf ((((k : Nat) : Int) % 16), (((k : Nat) : Int) % 2)) s.turns).map (Value.int .i64)), SL false 1 a_133 ((bitsOf ((((k : Nat) : Int) % 16), (((k : Nat) : Int) % 2)) s.turns).length) c_134 ((bitsOf ((((k : Nat) : Int) % 16), (((k : Nat) : Int) % 2)) s.turns).map (Value.int .i64)), blk b1 [(Value.slice s.busyA s.busy.length s.busyC), (Value.slice s.failsA s.fails.length s.failsC), (Value.slice s.turnsA s.turns.length s.turnsC), (Value.int .i64 s.cut), (Value.slice s.tornA s.torn.length s.tornC), (Value.slice s.markedA s.marked.length s.markedC)] 26, F] hs172 (by kernel_rfl) (by kernel_rfl)
                refine WL.consG rfl rfl rfl (OP.not (Eq.trans (b := (Value.bool (decide ((tornL s.torn k) = (tornL s.torn k))))) rfl (congrArg Value.bool (show decide ((tornL s.torn k) = (tornL s.torn k)) = true by simp))) (by decide) ?_)
                refine WL.cons rfl (OP.pickF (Value.bool false) rfl rfl (by decide) ?_)
                refine WL.nil (Qn.then ?_)
                refine W.iteF rfl ?_
                refine W.skip (Qn.then ?_)
                refine W.seq ?_
                refine W.region ?_
                refine WL.cons rfl (OP.move (Value.bool (decide (((k : Nat) : Int) ∈ s.fails))) rfl (by decide) ?_)
                refine WL.nil (Qn.then ?_)
                refine W.iteP (p := ((k : Nat) : Int) ∈ s.fails) rfl (fun hc175 => ?_) (fun hc175 => ?_)
                · refine W.region ?_
                  refine WL.cons rfl (OP.move (Value.int .i64 (cntF s.fails k)) he103 (by decide) ?_)
                  refine WL.cons rfl (OP.add ((cntF s.fails k) + 1) rfl rfl (by first | rfl | omega | simp) (by unfold inI64; omega) (by decide) ?_)
                  refine WL.cons rfl (OP.assign (Value.int .i64 ((cntF s.fails k) + 1)) rfl (by decide) ?_)
                  refine WL.nil (Qn.blk (Qn.then ?_))
                  refine W.region ?_
                  refine WL.cons rfl (OP.add ((k + 1 : Nat) : Int) he106 rfl (by first | rfl | omega | simp) (by unfold inI64; omega) (by decide) ?_)
                  refine WL.cons rfl (OP.move (Value.int .i64 ((k + 1 : Nat) : Int)) rfl (by decide) ?_)
                  refine WL.nil (Qn.then ?_)
                  have hs176 : sat W0 [TellerRep b_78 s.busy s.fails s.torn s.turns (((k + 1) : Nat) : Int) (((k + 1) : Nat) : Int), SL false 1 a_163 ((tornL s.torn k).length) c_164 ((tornL s.torn k).map (Value.int .u8)), TellerRep b_53 s.busy s.fails s.torn s.turns (((k + 1) : Nat) : Int) (((k + 1) : Nat) : Int), SL false 1 a_154 ((tornL s.torn k).length) c_155 ((tornL s.torn k).map (Value.int .u8)), SL false 1 a_141 ((bitsOf ((((k : Nat) : Int) % 16), (((k : Nat) : Int) % 2)) s.turns).length) c_142 ((bitsOf ((((k : Nat) : Int) % 16), (((k : Nat) : Int) % 2)) s.turns).map (Value.int .i64)), SL false 1 a_133 ((bitsOf ((((k : Nat) : Int) % 16), (((k : Nat) : Int) % 2)) s.turns).length) c_134 ((bitsOf ((((k : Nat) : Int) % 16), (((k : Nat) : Int) % 2)) s.turns).map (Value.int .i64)), blk b1 [(Value.slice s.busyA s.busy.length s.busyC), (Value.slice s.failsA s.fails.length s.failsC), (Value.slice s.turnsA s.turns.length s.turnsC), (Value.int .i64 s.cut), (Value.slice s.tornA s.torn.length s.tornC), (Value.slice s.markedA s.marked.length s.markedC)] 26, F] w171 := (by rw [show ((k + 1 : Nat) : Int) = ((k : Nat) : Int) + 1 by omega]; exact hs174)
                  have hs177 : sat W0 [TellerRep b_78 s.busy s.fails s.torn s.turns (((k + 1) : Nat) : Int) (((k + 1) : Nat) : Int), TellerRep b_53 s.busy s.fails s.torn s.turns (((k + 1) : Nat) : Int) (((k + 1) : Nat) : Int), blk b1 [(Value.slice s.busyA s.busy.length s.busyC), (Value.slice s.failsA s.fails.length s.failsC), (Value.slice s.turnsA s.turns.length s.turnsC), (Value.int .i64 s.cut), (Value.slice s.tornA s.torn.length s.tornC), (Value.slice s.markedA s.marked.length s.markedC)] 26, F] w171 := sat_sub' [0, 2, 6, 7] [1, 3, 4, 5] hs176 (by kernel_rfl) (by kernel_rfl)
                  exact ⟨_, (by omega), (k + 1), rfl, he99, he100, he101, he102, (Eq.trans (b := (Value.int .i64 ((cntF s.fails k) + 1))) rfl (congrArg (Value.int .i64) (by first | exact (cntF_yes (by assumption)).symm | exact (cntF_no (by assumption)).symm))), he104, he105, (Eq.trans (b := (Value.int .i64 ((k + 1 : Nat) : Int))) rfl (congrArg (Value.int .i64) (by first | rfl | omega | simp | (simp; omega)))), (by omega), hs177⟩
                · refine W.skip (Qn.blk (Qn.then ?_))
                  refine W.region ?_
                  refine WL.cons rfl (OP.add ((k + 1 : Nat) : Int) he106 rfl (by first | rfl | omega | simp) (by unfold inI64; omega) (by decide) ?_)
                  refine WL.cons rfl (OP.move (Value.int .i64 ((k + 1 : Nat) : Int)) rfl (by decide) ?_)
                  refine WL.nil (Qn.then ?_)
                  have hs178 : sat W0 [TellerRep b_78 s.busy s.fails s.torn s.turns (((k + 1) : Nat) : Int) (((k + 1) : Nat) : Int), SL false 1 a_163 ((tornL s.torn k).length) c_164 ((tornL s.torn k).map (Value.int .u8)), TellerRep b_53 s.busy s.fails s.torn s.turns (((k + 1) : Nat) : Int) (((k + 1) : Nat) : Int), SL false 1 a_154 ((tornL s.torn k).length) c_155 ((tornL s.torn k).map (Value.int .u8)), SL false 1 a_141 ((bitsOf ((((k : Nat) : Int) % 16), (((k : Nat) : Int) % 2)) s.turns).length) c_142 ((bitsOf ((((k : Nat) : Int) % 16), (((k : Nat) : Int) % 2)) s.turns).map (Value.int .i64)), SL false 1 a_133 ((bitsOf ((((k : Nat) : Int) % 16), (((k : Nat) : Int) % 2)) s.turns).length) c_134 ((bitsOf ((((k : Nat) : Int) % 16), (((k : Nat) : Int) % 2)) s.turns).map (Value.int .i64)), blk b1 [(Value.slice s.busyA s.busy.length s.busyC), (Value.slice s.failsA s.fails.length s.failsC), (Value.slice s.turnsA s.turns.length s.turnsC), (Value.int .i64 s.cut), (Value.slice s.tornA s.torn.length s.tornC), (Value.slice s.markedA s.marked.length s.markedC)] 26, F] w171 := (by rw [show ((k + 1 : Nat) : Int) = ((k : Nat) : Int) + 1 by omega]; exact hs174)
                  have hs179 : sat W0 [TellerRep b_78 s.busy s.fails s.torn s.turns (((k + 1) : Nat) : Int) (((k + 1) : Nat) : Int), TellerRep b_53 s.busy s.fails s.torn s.turns (((k + 1) : Nat) : Int) (((k + 1) : Nat) : Int), blk b1 [(Value.slice s.busyA s.busy.length s.busyC), (Value.slice s.failsA s.fails.length s.failsC), (Value.slice s.turnsA s.turns.length s.turnsC), (Value.int .i64 s.cut), (Value.slice s.tornA s.torn.length s.tornC), (Value.slice s.markedA s.marked.length s.markedC)] 26, F] w171 := sat_sub' [0, 2, 6, 7] [1, 3, 4, 5] hs178 (by kernel_rfl) (by kernel_rfl)
                  exact ⟨_, (by omega), (k + 1), rfl, he99, he100, he101, he102, (Eq.trans (b := (Value.int .i64 (cntF s.fails k))) he103 (congrArg (Value.int .i64) (by first | exact (cntF_yes (by assumption)).symm | exact (cntF_no (by assumption)).symm))), he104, he105, (Eq.trans (b := (Value.int .i64 ((k + 1 : Nat) : Int))) rfl (congrArg (Value.int .i64) (by first | rfl | omega | simp | (simp; omega)))), (by omega), hs179⟩
              · refine W.exit (Qx.then (Qx.then (Qx.hit (Qn.then ?_))))
                refine W.seq ?_
                refine W.seq ?_
                refine W.region ?_
                refine WL.cons rfl (OP.fieldAddr 1 fo_26_1 he100 rfl (by decide) ?_)
                refine WL.cons rfl (OP.loadS (Value.slice s.failsA s.fails.length s.failsC) sc_22 rfl (sat_cell 2 hs97 rfl rfl) (by decide) ?_)
                refine WL.cons rfl (OP.len Try.underlying22 rfl rfl (by decide) ?_)
                refine WL.cons rfl (OP.move (Value.int .i64 0) rfl (by decide) ?_)
                refine WL.nil (Qn.then ?_)
                refine W.block ?_
                refine W.loop (fun n_ e_ w_ => ∃ m : Nat, n_ = s.fails.length - m ∧ e_ 1 = (Value.int .u8 n) ∧ e_ 12 = (Value.int .i64 (cntF s.fails k)) ∧ e_ 13 = (Value.int .i64 (cntLt (s.fails.take m) n)) ∧ e_ 133 = (Value.slice s.failsA s.fails.length s.failsC) ∧ e_ 134 = (Value.int .i64 ((s.fails.length : Nat) : Int)) ∧ e_ 135 = (Value.int .i64 ((m : Nat) : Int)) ∧ m ≤ s.fails.length ∧ sat W0 [TellerRep b_78 s.busy s.fails s.torn s.turns ((k : Nat) : Int) ((k : Nat) : Int), TellerRep b_53 s.busy s.fails s.torn s.turns ((k : Nat) : Int) ((k : Nat) : Int), blk b1 [(Value.slice s.busyA s.busy.length s.busyC), (Value.slice s.failsA s.fails.length s.failsC), (Value.slice s.turnsA s.turns.length s.turnsC), (Value.int .i64 s.cut), (Value.slice s.tornA s.torn.length s.tornC), (Value.slice s.markedA s.marked.length s.markedC)] 26, F] w_) (s.fails.length - 0) ⟨0, rfl, he99, he103, (Eq.trans (b := (Value.int .i64 0)) he104 (congrArg (Value.int .i64) (cntLt_nil n).symm)), rfl, rfl, (Eq.trans (b := (Value.int .i64 0)) rfl (congrArg (Value.int .i64) (by first | rfl | omega | simp | (simp; omega)))), (by omega), hs97⟩ ?_
                rintro n180 e181 w182 ⟨m, hn184, he185, he186, he187, he188, he189, he190, hp191, hs183⟩
                have hcl_ := cntLt_le s.fails m n
                refine W.seq ?_
                refine W.region ?_
                refine WL.cons rfl (OP.lss he190 he189 (by decide) ?_)
                refine WL.nil (Qn.then ?_)
                refine W.seq ?_
                refine W.iteP (p := ((m : Nat) : Int) < ((s.fails.length : Nat) : Int)) rfl (fun hc192 => ?_) (fun hc192 => ?_)
                · refine W.skip (Qn.then ?_)
                  refine W.seq ?_
                  refine W.block ?_
                  refine W.seq ?_
                  refine W.region ?_
                  have hi137_ : m < s.fails.length := by omega
                  refine WL.cons rfl (OP.indexR m (Ent_sat 3 rfl (hS F).fails hs183) Try.underlying22 sz_3 he188 he190 rfl hi137_ (by decide) ?_)
                  refine WL.cons rfl (OP.loadSR (Value.int .i64 (s.fails.getD m 0)) (Ent_sat 3 rfl (hS F).fails hs183) (ints_get hi137_) sc_3 rfl (by decide) ?_)
                  refine WL.cons rfl (OP.assign (Value.int .i64 (s.fails.getD m 0)) rfl (by decide) ?_)
                  refine WL.nil (Qn.then ?_)
                  refine W.seq ?_
                  refine W.region ?_
                  refine WL.cons rfl (OP.move (Value.int .i64 (s.fails.getD m 0)) rfl (by decide) ?_)
                  refine WL.cons rfl (OP.move (Value.int .u8 n) he185 (by decide) ?_)
                  refine WL.cons rfl (OP.conv n Try.underlying5 Try.underlying3 rfl (by unfold IntKind.wrap; simp [IntKind.bits, IntKind.signed]; omega) (by decide) ?_)
                  refine WL.cons rfl (OP.lss rfl rfl (by decide) ?_)
                  refine WL.nil (Qn.then ?_)
                  refine W.iteP (p := s.fails.getD m 0 < n) rfl (fun hc193 => ?_) (fun hc193 => ?_)
                  · refine W.region ?_
                    refine WL.cons rfl (OP.move (Value.int .i64 (cntLt (s.fails.take m) n)) he187 (by decide) ?_)
                    refine WL.cons rfl (OP.add ((cntLt (s.fails.take m) n) + 1) rfl rfl (by first | rfl | omega | simp) (by unfold inI64; omega) (by decide) ?_)
                    refine WL.cons rfl (OP.assign (Value.int .i64 ((cntLt (s.fails.take m) n) + 1)) rfl (by decide) ?_)
                    refine WL.nil (Qn.blk (Qn.then ?_))
                    refine W.region ?_
                    refine WL.cons rfl (OP.add ((m + 1 : Nat) : Int) he190 rfl (by first | rfl | omega | simp) (by unfold inI64; omega) (by decide) ?_)
                    refine WL.cons rfl (OP.move (Value.int .i64 ((m + 1 : Nat) : Int)) rfl (by decide) ?_)
                    refine WL.nil (Qn.then ?_)
                    exact ⟨_, (by omega), (m + 1), rfl, he185, he186, (Eq.trans (b := (Value.int .i64 ((cntLt (s.fails.take m) n) + 1))) rfl (congrArg (Value.int .i64) (by first | exact (cntLt_yes (by omega) (by assumption)).symm | exact (cntLt_no (by omega) (by assumption)).symm))), he188, he189, (Eq.trans (b := (Value.int .i64 ((m + 1 : Nat) : Int))) rfl (congrArg (Value.int .i64) (by first | rfl | omega | simp | (simp; omega)))), (by omega), hs183⟩
                  · refine W.skip (Qn.blk (Qn.then ?_))
                    refine W.region ?_
                    refine WL.cons rfl (OP.add ((m + 1 : Nat) : Int) he190 rfl (by first | rfl | omega | simp) (by unfold inI64; omega) (by decide) ?_)
                    refine WL.cons rfl (OP.move (Value.int .i64 ((m + 1 : Nat) : Int)) rfl (by decide) ?_)
                    refine WL.nil (Qn.then ?_)
                    exact ⟨_, (by omega), (m + 1), rfl, he185, he186, (Eq.trans (b := (Value.int .i64 (cntLt (s.fails.take m) n))) he187 (congrArg (Value.int .i64) (by first | exact (cntLt_yes (by omega) (by assumption)).symm | exact (cntLt_no (by omega) (by assumption)).symm))), he188, he189, (Eq.trans (b := (Value.int .i64 ((m + 1 : Nat) : Int))) rfl (congrArg (Value.int .i64) (by first | rfl | omega | simp | (simp; omega)))), (by omega), hs183⟩
                · refine W.exit (Qx.then (Qx.then (Qx.hit (Qn.then ?_))))
                  refine W.seq ?_
                  refine W.region ?_
                  refine WL.cons rfl (OP.move (Value.int .i64 (cntF s.fails k)) he186 (by decide) ?_)
                  refine WL.cons rfl (OP.move (Value.int .i64 (cntLt (s.fails.take m) n)) he187 (by decide) ?_)
                  refine WL.cons rfl (OP.eqI rfl rfl (by decide) ?_)
                  refine WL.cons rfl (OP.assign (Value.bool (decide (cntF s.fails k = cntLt (s.fails.take m) n))) rfl (by decide) ?_)
                  refine WL.nil (Qn.then ?_)
                  refine W.ret (RetQ.of [(Value.bool (decide (cntF s.fails k = cntLt (s.fails.take m) n)))] (.inr rfl) Try.results6 (.cons (.tmp (by decide) rfl) .nil) ?_)
                  have hs195 : sat W0 [F] w182 := sat_sub' [3] [0, 1, 2] hs183 (by kernel_rfl) (by kernel_rfl)
                  exact ⟨(by first | rfl | exact (congrArg Value.bool (decide_eq_true (cnt_end (k := k) (m := m) (by assumption) (by omega) (by omega))))), hs195⟩
            exact WAs.nil
          exact WAs.nil
        exact WAs.nil
      exact WAs.nil
    · refine W.draw (fun w => sat W0 [blk b1 [(Value.slice s.busyA s.busy.length s.busyC), (Value.slice s.failsA s.fails.length s.failsC), (Value.slice s.turnsA s.turns.length s.turnsC), (Value.int .i64 s.cut), (Value.slice s.tornA s.torn.length s.tornC), (Value.slice s.markedA s.marked.length s.markedC)] 26, F] w) (by kernel_rfl) hs38 (fun w196 hs197 => ?_)
      refine WA.take 1 rfl rfl rfl rfl (by kernel_rfl) (by kernel_rfl) (by kernel_rfl) ?_ (by decide) (v := (Value.agg [(Value.slice s.busyA s.busy.length s.busyC), (Value.slice s.failsA s.fails.length s.failsC), (Value.slice s.turnsA s.turns.length s.turnsC), (Value.int .i64 s.cut), (Value.slice s.tornA s.torn.length s.tornC), (Value.slice s.markedA s.marked.length s.markedC)].toArray)) (fun w199 hw198 => OP.loadA [(Value.slice s.busyA s.busy.length s.busyC), (Value.slice s.failsA s.fails.length s.failsC), (Value.slice s.turnsA s.turns.length s.turnsC), (Value.int .i64 s.cut), (Value.slice s.tornA s.torn.length s.tornC), (Value.slice s.markedA s.marked.length s.markedC)] ag_26 sz_26 rfl (sat_rdn 0 hw198 rfl rfl) (by decide) ⟨rfl, rfl⟩) ?_
      · exact hs197
      refine WA.all [0] (by kernel_rfl) (by simp) ?_
      refine WAs.cons (oi := (Go.Oper.mk (some 55) (Go.Op.call (Go.Call.mk (Go.Callee.value (Go.Operand.func 10)) #[] #[])) 34 "law.go:94" #[] none)) rfl rfl ?_ ?_
      · have hs200 : sat W0 [stars [blk b1 [(Value.slice s.busyA s.busy.length s.busyC), (Value.slice s.failsA s.fails.length s.failsC), (Value.slice s.turnsA s.turns.length s.turnsC), (Value.int .i64 s.cut), (Value.slice s.tornA s.torn.length s.tornC), (Value.slice s.markedA s.marked.length s.markedC)] 26, F]] w196 := sat_pack' [] [blk b1 [(Value.slice s.busyA s.busy.length s.busyC), (Value.slice s.failsA s.fails.length s.failsC), (Value.slice s.turnsA s.turns.length s.turnsC), (Value.int .i64 s.cut), (Value.slice s.tornA s.torn.length s.tornC), (Value.slice s.markedA s.marked.length s.markedC)] 26, F] hs197 (by kernel_rfl) (by kernel_rfl)
        have hcl203 := law12_plain  hs200
        refine ?_
        with_reducible refine OP.call [] gf_10 ?_ ?_ hcl203 ?_
        · exact rfl
        · decide
        clear hcl203
        rintro _ w201 ⟨_, rfl, rfl, hs202⟩
        refine ⟨_, rfl, ?_⟩
        have hs204 : sat W0 [blk b1 [(Value.slice s.busyA s.busy.length s.busyC), (Value.slice s.failsA s.fails.length s.failsC), (Value.slice s.turnsA s.turns.length s.turnsC), (Value.int .i64 s.cut), (Value.slice s.tornA s.torn.length s.tornC), (Value.slice s.markedA s.marked.length s.markedC)] 26, F] w201 := sat_flat' [] [blk b1 [(Value.slice s.busyA s.busy.length s.busyC), (Value.slice s.failsA s.fails.length s.failsC), (Value.slice s.turnsA s.turns.length s.turnsC), (Value.int .i64 s.cut), (Value.slice s.tornA s.torn.length s.tornC), (Value.slice s.markedA s.marked.length s.markedC)] 26, F] hs202 (by kernel_rfl) (by kernel_rfl)
        refine ⟨?_, ?_⟩
        · exact hs204
        refine WA.all [2] (by kernel_rfl) (by simp) ?_
        refine WAs.cons (oi := (Go.Oper.mk (some 57) (Go.Op.call (Go.Call.mk (Go.Callee.value (Go.Operand.func 9)) #[(Go.Operand.tmp 55), (Go.Operand.tmp 56)] #[34, 26])) 31 "law.go:94" #[(Go.Edge.mk 0 Go.Ground.data), (Go.Edge.mk 1 Go.Ground.data), (Go.Edge.mk 0 Go.Ground.chain)] none)) rfl rfl ?_ ?_
        · have hs205 : sat W0 [stars [blk b1 [(Value.slice s.busyA s.busy.length s.busyC), (Value.slice s.failsA s.fails.length s.failsC), (Value.slice s.turnsA s.turns.length s.turnsC), (Value.int .i64 s.cut), (Value.slice s.tornA s.torn.length s.tornC), (Value.slice s.markedA s.marked.length s.markedC)] 26, F]] w201 := sat_pack' [] [blk b1 [(Value.slice s.busyA s.busy.length s.busyC), (Value.slice s.failsA s.fails.length s.failsC), (Value.slice s.turnsA s.turns.length s.turnsC), (Value.int .i64 s.cut), (Value.slice s.tornA s.torn.length s.tornC), (Value.slice s.markedA s.marked.length s.markedC)] 26, F] hs204 (by kernel_rfl) (by kernel_rfl)
          have hcl208 := choice_New_bad plainG s (hS _) hL (by assumption) hs205
          refine ?_
          with_reducible refine OP.call [(Value.agg [(Value.int .i64 plainG.planes), (Value.int .i64 plainG.blocks), (Value.int .i64 plainG.pages), (Value.int .i64 plainG.chunks), (Value.int .i64 plainG.chunk), (Value.int .i64 plainG.rungs), (Value.int .i64 plainG.partials)].toArray), (Value.agg [(Value.slice s.busyA s.busy.length s.busyC), (Value.slice s.failsA s.fails.length s.failsC), (Value.slice s.turnsA s.turns.length s.turnsC), (Value.int .i64 s.cut), (Value.slice s.tornA s.torn.length s.tornC), (Value.slice s.markedA s.marked.length s.markedC)].toArray)] gf_9 ?_ ?_ hcl208 ?_
          · exact rfl
          · decide
          clear hcl208
          rintro _ w206 ⟨_, rfl, rfl, hs207⟩
          refine ⟨_, rfl, ?_⟩
          have hs209 : sat W0 [blk b1 [(Value.slice s.busyA s.busy.length s.busyC), (Value.slice s.failsA s.fails.length s.failsC), (Value.slice s.turnsA s.turns.length s.turnsC), (Value.int .i64 s.cut), (Value.slice s.tornA s.torn.length s.tornC), (Value.slice s.markedA s.marked.length s.markedC)] 26, F] w206 := sat_flat' [] [blk b1 [(Value.slice s.busyA s.busy.length s.busyC), (Value.slice s.failsA s.fails.length s.failsC), (Value.slice s.turnsA s.turns.length s.turnsC), (Value.int .i64 s.cut), (Value.slice s.tornA s.torn.length s.tornC), (Value.slice s.markedA s.marked.length s.markedC)] 26, F] hs207 (by kernel_rfl) (by kernel_rfl)
          refine ⟨?_, ?_⟩
          · exact hs209
          refine WA.take 3 rfl rfl rfl rfl (by kernel_rfl) (by kernel_rfl) (by kernel_rfl) ?_ (by decide) (v := (Value.tuple #[(Value.pointer none), (Value.int .i64 2)])) (fun w211 hw210 => OP.move (Value.tuple #[(Value.pointer none), (Value.int .i64 2)]) rfl (by decide) ⟨rfl, rfl⟩) ?_
          · exact hs209
          refine WA.take 4 rfl rfl rfl rfl (by kernel_rfl) (by kernel_rfl) (by kernel_rfl) ?_ (by decide) (v := (Value.pointer none)) (fun w213 hw212 => OP.extract (Value.pointer none) rfl rfl (by decide) ⟨rfl, rfl⟩) ?_
          · exact hs209
          refine WA.take 5 rfl rfl rfl rfl (by kernel_rfl) (by kernel_rfl) (by kernel_rfl) ?_ (by decide) (v := (Value.int .i64 2)) (fun w215 hw214 => OP.extract (Value.int .i64 2) rfl rfl (by decide) ⟨rfl, rfl⟩) ?_
          · exact hs209
          refine WA.take 6 rfl rfl rfl rfl (by kernel_rfl) (by kernel_rfl) (by kernel_rfl) ?_ (by decide) (v := (Value.pointer none)) (fun w217 hw216 => OP.assign (Value.pointer none) rfl (by decide) ⟨rfl, rfl⟩) ?_
          · exact hs209
          refine WA.take 7 rfl rfl rfl rfl (by kernel_rfl) (by kernel_rfl) (by kernel_rfl) ?_ (by decide) (v := (Value.int .i64 2)) (fun w219 hw218 => OP.assign (Value.int .i64 2) rfl (by decide) ⟨rfl, rfl⟩) ?_
          · exact hs209
          refine WA.done (by kernel_rfl) ?_
          refine (Qn.then ?_)
          refine W.seq ?_
          refine W.draw (fun w => sat W0 [blk b1 [(Value.slice s.busyA s.busy.length s.busyC), (Value.slice s.failsA s.fails.length s.failsC), (Value.slice s.turnsA s.turns.length s.turnsC), (Value.int .i64 s.cut), (Value.slice s.tornA s.torn.length s.tornC), (Value.slice s.markedA s.marked.length s.markedC)] 26, F] w) (by kernel_rfl) hs209 (fun w220 hs221 => ?_)
          refine WA.take 1 rfl rfl rfl rfl (by kernel_rfl) (by kernel_rfl) (by kernel_rfl) ?_ (by decide) (v := (Value.agg [(Value.slice s.busyA s.busy.length s.busyC), (Value.slice s.failsA s.fails.length s.failsC), (Value.slice s.turnsA s.turns.length s.turnsC), (Value.int .i64 s.cut), (Value.slice s.tornA s.torn.length s.tornC), (Value.slice s.markedA s.marked.length s.markedC)].toArray)) (fun w223 hw222 => OP.loadA [(Value.slice s.busyA s.busy.length s.busyC), (Value.slice s.failsA s.fails.length s.failsC), (Value.slice s.turnsA s.turns.length s.turnsC), (Value.int .i64 s.cut), (Value.slice s.tornA s.torn.length s.tornC), (Value.slice s.markedA s.marked.length s.markedC)] ag_26 sz_26 rfl (sat_rdn 0 hw222 rfl rfl) (by decide) ⟨rfl, rfl⟩) ?_
          · exact hs221
          refine WA.all [0] (by kernel_rfl) (by simp) ?_
          refine WAs.cons (oi := (Go.Oper.mk (some 61) (Go.Op.call (Go.Call.mk (Go.Callee.value (Go.Operand.func 10)) #[] #[])) 34 "law.go:95" #[] none)) rfl rfl ?_ ?_
          · have hs224 : sat W0 [stars [blk b1 [(Value.slice s.busyA s.busy.length s.busyC), (Value.slice s.failsA s.fails.length s.failsC), (Value.slice s.turnsA s.turns.length s.turnsC), (Value.int .i64 s.cut), (Value.slice s.tornA s.torn.length s.tornC), (Value.slice s.markedA s.marked.length s.markedC)] 26, F]] w220 := sat_pack' [] [blk b1 [(Value.slice s.busyA s.busy.length s.busyC), (Value.slice s.failsA s.fails.length s.failsC), (Value.slice s.turnsA s.turns.length s.turnsC), (Value.int .i64 s.cut), (Value.slice s.tornA s.torn.length s.tornC), (Value.slice s.markedA s.marked.length s.markedC)] 26, F] hs221 (by kernel_rfl) (by kernel_rfl)
            have hcl227 := law12_plain  hs224
            refine ?_
            with_reducible refine OP.call [] gf_10 ?_ ?_ hcl227 ?_
            · exact rfl
            · decide
            clear hcl227
            rintro _ w225 ⟨_, rfl, rfl, hs226⟩
            refine ⟨_, rfl, ?_⟩
            have hs228 : sat W0 [blk b1 [(Value.slice s.busyA s.busy.length s.busyC), (Value.slice s.failsA s.fails.length s.failsC), (Value.slice s.turnsA s.turns.length s.turnsC), (Value.int .i64 s.cut), (Value.slice s.tornA s.torn.length s.tornC), (Value.slice s.markedA s.marked.length s.markedC)] 26, F] w225 := sat_flat' [] [blk b1 [(Value.slice s.busyA s.busy.length s.busyC), (Value.slice s.failsA s.fails.length s.failsC), (Value.slice s.turnsA s.turns.length s.turnsC), (Value.int .i64 s.cut), (Value.slice s.tornA s.torn.length s.tornC), (Value.slice s.markedA s.marked.length s.markedC)] 26, F] hs226 (by kernel_rfl) (by kernel_rfl)
            refine ⟨?_, ?_⟩
            · exact hs228
            refine WA.all [2] (by kernel_rfl) (by simp) ?_
            refine WAs.cons (oi := (Go.Oper.mk (some 63) (Go.Op.call (Go.Call.mk (Go.Callee.value (Go.Operand.func 9)) #[(Go.Operand.tmp 61), (Go.Operand.tmp 62)] #[34, 26])) 31 "law.go:95" #[(Go.Edge.mk 0 Go.Ground.data), (Go.Edge.mk 1 Go.Ground.data), (Go.Edge.mk 0 Go.Ground.chain)] none)) rfl rfl ?_ ?_
            · have hs229 : sat W0 [stars [blk b1 [(Value.slice s.busyA s.busy.length s.busyC), (Value.slice s.failsA s.fails.length s.failsC), (Value.slice s.turnsA s.turns.length s.turnsC), (Value.int .i64 s.cut), (Value.slice s.tornA s.torn.length s.tornC), (Value.slice s.markedA s.marked.length s.markedC)] 26, F]] w225 := sat_pack' [] [blk b1 [(Value.slice s.busyA s.busy.length s.busyC), (Value.slice s.failsA s.fails.length s.failsC), (Value.slice s.turnsA s.turns.length s.turnsC), (Value.int .i64 s.cut), (Value.slice s.tornA s.torn.length s.tornC), (Value.slice s.markedA s.marked.length s.markedC)] 26, F] hs228 (by kernel_rfl) (by kernel_rfl)
              have hcl232 := choice_New_bad plainG s (hS _) hL (by assumption) hs229
              refine ?_
              with_reducible refine OP.call [(Value.agg [(Value.int .i64 plainG.planes), (Value.int .i64 plainG.blocks), (Value.int .i64 plainG.pages), (Value.int .i64 plainG.chunks), (Value.int .i64 plainG.chunk), (Value.int .i64 plainG.rungs), (Value.int .i64 plainG.partials)].toArray), (Value.agg [(Value.slice s.busyA s.busy.length s.busyC), (Value.slice s.failsA s.fails.length s.failsC), (Value.slice s.turnsA s.turns.length s.turnsC), (Value.int .i64 s.cut), (Value.slice s.tornA s.torn.length s.tornC), (Value.slice s.markedA s.marked.length s.markedC)].toArray)] gf_9 ?_ ?_ hcl232 ?_
              · exact rfl
              · decide
              clear hcl232
              rintro _ w230 ⟨_, rfl, rfl, hs231⟩
              refine ⟨_, rfl, ?_⟩
              have hs233 : sat W0 [blk b1 [(Value.slice s.busyA s.busy.length s.busyC), (Value.slice s.failsA s.fails.length s.failsC), (Value.slice s.turnsA s.turns.length s.turnsC), (Value.int .i64 s.cut), (Value.slice s.tornA s.torn.length s.tornC), (Value.slice s.markedA s.marked.length s.markedC)] 26, F] w230 := sat_flat' [] [blk b1 [(Value.slice s.busyA s.busy.length s.busyC), (Value.slice s.failsA s.fails.length s.failsC), (Value.slice s.turnsA s.turns.length s.turnsC), (Value.int .i64 s.cut), (Value.slice s.tornA s.torn.length s.tornC), (Value.slice s.markedA s.marked.length s.markedC)] 26, F] hs231 (by kernel_rfl) (by kernel_rfl)
              refine ⟨?_, ?_⟩
              · exact hs233
              refine WA.take 3 rfl rfl rfl rfl (by kernel_rfl) (by kernel_rfl) (by kernel_rfl) ?_ (by decide) (v := (Value.tuple #[(Value.pointer none), (Value.int .i64 2)])) (fun w235 hw234 => OP.move (Value.tuple #[(Value.pointer none), (Value.int .i64 2)]) rfl (by decide) ⟨rfl, rfl⟩) ?_
              · exact hs233
              refine WA.take 4 rfl rfl rfl rfl (by kernel_rfl) (by kernel_rfl) (by kernel_rfl) ?_ (by decide) (v := (Value.pointer none)) (fun w237 hw236 => OP.extract (Value.pointer none) rfl rfl (by decide) ⟨rfl, rfl⟩) ?_
              · exact hs233
              refine WA.take 5 rfl rfl rfl rfl (by kernel_rfl) (by kernel_rfl) (by kernel_rfl) ?_ (by decide) (v := (Value.int .i64 2)) (fun w239 hw238 => OP.extract (Value.int .i64 2) rfl rfl (by decide) ⟨rfl, rfl⟩) ?_
              · exact hs233
              refine WA.take 6 rfl rfl rfl rfl (by kernel_rfl) (by kernel_rfl) (by kernel_rfl) ?_ (by decide) (v := (Value.pointer none)) (fun w241 hw240 => OP.assign (Value.pointer none) rfl (by decide) ⟨rfl, rfl⟩) ?_
              · exact hs233
              refine WA.take 7 rfl rfl rfl rfl (by kernel_rfl) (by kernel_rfl) (by kernel_rfl) ?_ (by decide) (v := (Value.int .i64 2)) (fun w243 hw242 => OP.assign (Value.int .i64 2) rfl (by decide) ⟨rfl, rfl⟩) ?_
              · exact hs233
              refine WA.done (by kernel_rfl) ?_
              refine (Qn.then ?_)
              refine W.seq ?_
              refine W.seq ?_
              refine W.region ?_
              refine WL.cons rfl (OP.move (Value.int .i64 2) rfl (by decide) ?_)
              refine WL.cons rfl (OP.neI rfl rfl (by decide) ?_)
              refine WL.cons rfl (OP.move (Value.bool true) rfl (by decide) ?_)
              refine WL.pass rfl rfl rfl rfl rfl (by decide) ?_
              refine WL.pass rfl rfl rfl rfl rfl (by decide) ?_
              refine WL.cons rfl (OP.pickT (Value.bool true) rfl rfl (by decide) ?_)
              refine WL.nil (Qn.then ?_)
              refine W.iteT rfl ?_
              refine W.seq ?_
              refine W.region ?_
              refine WL.cons rfl (OP.move (Value.int .i64 2) rfl (by decide) ?_)
              refine WL.cons rfl (OP.move (Value.int .i64 2) rfl (by decide) ?_)
              refine WL.cons rfl (OP.eqI rfl rfl (by decide) ?_)
              refine WL.cons rfl (OP.move (Value.bool true) rfl (by decide) ?_)
              refine WL.consG rfl rfl rfl (OP.move (Value.pointer none) rfl (by decide) ?_)
              refine WL.consG rfl rfl rfl (OP.eqV rfl rfl rfl rfl (run_equalPN Try.underlying29 _) (by decide) ?_)
              refine WL.cons rfl (OP.pickT (Value.bool true) rfl rfl (by decide) ?_)
              refine WL.cons rfl (OP.move (Value.bool true) rfl (by decide) ?_)
              refine WL.consG rfl rfl rfl (OP.move (Value.pointer none) rfl (by decide) ?_)
              refine WL.consG rfl rfl rfl (OP.eqV rfl rfl rfl rfl (run_equalPN Try.underlying29 _) (by decide) ?_)
              refine WL.cons rfl (OP.pickT (Value.bool true) rfl rfl (by decide) ?_)
              refine WL.cons rfl (OP.assign (Value.bool true) rfl (by decide) ?_)
              refine WL.nil (Qn.then ?_)
              refine W.ret (Qr.then (RetQ.of [(Value.bool true)] (.inr rfl) Try.results6 (.cons (.tmp (by decide) rfl) .nil) ?_))
              have hs245 : sat W0 [F] w230 := sat_sub' [1] [0] hs233 (by kernel_rfl) (by kernel_rfl)
              exact ⟨rfl, hs245⟩
            exact WAs.nil
          exact WAs.nil
        exact WAs.nil
      exact WAs.nil

end Go.Proofs.Ytleolejhkdolpaa
