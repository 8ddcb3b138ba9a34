import Derived.Test.YtleolejhkdolpaaA5
import Derived.Test.YtleolejhkdolpaaA6
import Derived.Test.YtleolejhkdolpaaA7
import Derived.Test.YtleolejhkdolpaaModC
import Derived.KernelRfl
set_option linter.unusedVariables false
set_option linter.unusedSimpArgs false
set_option maxRecDepth 100000
set_option maxHeartbeats 4000000
namespace Go.Proofs.Ytleolejhkdolpaa
open Go Go.RowKit Sv
theorem law12_plain {W0 : World} {F : HProp} {w : World}    
    (hs : sat W0 [F] w) :
    Calls Try.prog 10 ([] : List Value).toArray w (fun x_ w' => ∃ v_, x_ = .returned v_ ∧ (v_ = (Value.agg [(Value.int .i64 plainG.planes), (Value.int .i64 plainG.blocks), (Value.int .i64 plainG.pages), (Value.int .i64 plainG.chunks), (Value.int .i64 plainG.chunk), (Value.int .i64 plainG.rungs), (Value.int .i64 plainG.partials)].toArray) ∧ sat W0 [F] w')) := by
  refine W.enter Try.func10 rfl Try.ntmps10 (by simp) ?_
  refine W.seq ?_
  refine W.region ?_
  refine WL.cons rfl (OP.alloc _ [(Value.int .i64 0), (Value.int .i64 0), (Value.int .i64 0), (Value.int .i64 0), (Value.int .i64 0), (Value.int .i64 0), (Value.int .i64 0)] hs ze_34 rfl (by decide) (fun b1 w2 hs3 => ?_))
  refine WL.nil (Qn.then ?_)
  refine W.seq ?_
  refine W.region ?_
  refine WL.cons rfl (OP.build [(0, (Value.int .i64 1)), (1, (Value.int .i64 4)), (2, (Value.int .i64 4)), (3, (Value.int .i64 1)), (4, (Value.int .i64 4)), (5, (Value.int .i64 2)), (6, (Value.int .i64 1))] [(Value.int .i64 1), (Value.int .i64 4), (Value.int .i64 4), (Value.int .i64 1), (Value.int .i64 4), (Value.int .i64 2), (Value.int .i64 1)] rfl (by kernel_rfl) (by decide) ?_)
  refine WL.cons rfl (OP.store (Value.agg [(Value.int .i64 1), (Value.int .i64 4), (Value.int .i64 4), (Value.int .i64 1), (Value.int .i64 4), (Value.int .i64 2), (Value.int .i64 1)].toArray) [(Value.int .i64 1), (Value.int .i64 4), (Value.int .i64 4), (Value.int .i64 1), (Value.int .i64 4), (Value.int .i64 2), (Value.int .i64 1)] hs3 rfl rfl rfl sz_34 rfl (by rfl) (by simp) (fun w4 hs5 => ?_))
  have hs6 : sat W0 [blk b1 [(Value.int .i64 1), (Value.int .i64 4), (Value.int .i64 4), (Value.int .i64 1), (Value.int .i64 4), (Value.int .i64 2), (Value.int .i64 1)] 34, F] w4 := hs5
  refine WL.nil (Qn.then ?_)
  refine W.ret (RetQ.of [(Value.agg [(Value.int .i64 1), (Value.int .i64 4), (Value.int .i64 4), (Value.int .i64 1), (Value.int .i64 4), (Value.int .i64 2), (Value.int .i64 1)].toArray)] (.inr rfl) Try.results10 (.cons (.cell (by decide) rfl (run_loadA (vs := [(Value.int .i64 1), (Value.int .i64 4), (Value.int .i64 4), (Value.int .i64 1), (Value.int .i64 4), (Value.int .i64 2), (Value.int .i64 1)]) ag_34 sz_34 (sat_rdn 0 hs6 rfl rfl))) .nil) ?_)
  have hs8 : sat W0 [F] w4 := sat_sub' [1] [0] hs6 (by kernel_rfl) (by kernel_rfl)
  exact ⟨rfl, hs8⟩

theorem law12_Few {W0 : World} {F : HProp} {w : World}  (s : Script)  
    (hs : sat W0 [F] w) :
    Calls Try.prog 8 ([(Value.agg [(Value.slice s.busyA s.busy.length s.busyC), (Value.slice s.failsA s.fails.length s.failsC), (Value.slice s.turnsA s.turns.length s.turnsC), (Value.int .i64 s.cut), (Value.slice s.tornA s.torn.length s.tornC), (Value.slice s.markedA s.marked.length s.markedC)].toArray)] : List Value).toArray w (fun x_ w' => ∃ v_, x_ = .returned v_ ∧ (v_ = (Value.bool (fewB s)) ∧ sat W0 [F] w')) := by
  refine W.enter Try.func8 rfl Try.ntmps8 (by simp) ?_
  refine W.seq ?_
  refine W.region ?_
  refine WL.cons rfl (OP.box (Value.agg [(Value.slice s.busyA s.busy.length s.busyC), (Value.slice s.failsA s.fails.length s.failsC), (Value.slice s.turnsA s.turns.length s.turnsC), (Value.int .i64 s.cut), (Value.slice s.tornA s.torn.length s.tornC), (Value.slice s.markedA s.marked.length s.markedC)].toArray) [(Value.slice s.busyA s.busy.length s.busyC), (Value.slice s.failsA s.fails.length s.failsC), (Value.slice s.turnsA s.turns.length s.turnsC), (Value.int .i64 s.cut), (Value.slice s.tornA s.torn.length s.tornC), (Value.slice s.markedA s.marked.length s.markedC)] hs rfl rfl (by decide) (fun b1 w2 hs3 => ?_))
  refine WL.cons rfl (OP.assign (Value.bool false) rfl (by decide) ?_)
  refine WL.nil (Qn.then ?_)
  refine W.seq ?_
  refine W.region ?_
  refine WL.cons rfl (OP.fieldAddr 0 fo_26_0 rfl rfl (by decide) ?_)
  refine WL.cons rfl (OP.loadS (Value.slice s.busyA s.busy.length s.busyC) sc_22 rfl (sat_cell 0 hs3 rfl rfl) (by decide) ?_)
  refine WL.cons rfl (OP.len Try.underlying22 rfl rfl (by decide) ?_)
  refine WL.cons rfl (OP.leq rfl rfl (by decide) ?_)
  refine WL.cons rfl (OP.move (Value.bool (decide (((s.busy.length : Nat) : Int) ≤ 200))) rfl (by decide) ?_)
  by_cases hc4 : ((s.busy.length : Nat) : Int) ≤ 200
  · refine WL.consG rfl rfl (Eq.trans (b := .bool (decide (((s.busy.length : Nat) : Int) ≤ 200))) rfl (congrArg Value.bool (decide_eq_true hc4))) (OP.fieldAddr 1 fo_26_1 rfl rfl (by decide) ?_)
    refine WL.consG rfl rfl (Eq.trans (b := .bool (decide (((s.busy.length : Nat) : Int) ≤ 200))) rfl (congrArg Value.bool (decide_eq_true hc4))) (OP.loadS (Value.slice s.failsA s.fails.length s.failsC) sc_22 rfl (sat_cell 0 hs3 rfl rfl) (by decide) ?_)
    refine WL.consG rfl rfl (Eq.trans (b := .bool (decide (((s.busy.length : Nat) : Int) ≤ 200))) rfl (congrArg Value.bool (decide_eq_true hc4))) (OP.len Try.underlying22 rfl rfl (by decide) ?_)
    refine WL.consG rfl rfl (Eq.trans (b := .bool (decide (((s.busy.length : Nat) : Int) ≤ 200))) rfl (congrArg Value.bool (decide_eq_true hc4))) (OP.leq rfl rfl (by decide) ?_)
    refine WL.cons rfl (OP.pickT (Value.bool (decide (((s.fails.length : Nat) : Int) ≤ 50))) (Eq.trans (b := .bool (decide (((s.busy.length : Nat) : Int) ≤ 200))) rfl (congrArg Value.bool (decide_eq_true hc4))) rfl (by decide) ?_)
    refine WL.cons rfl (OP.move (Value.bool (decide (((s.fails.length : Nat) : Int) ≤ 50))) rfl (by decide) ?_)
    by_cases hc5 : ((s.fails.length : Nat) : Int) ≤ 50
    · refine WL.consG rfl rfl (Eq.trans (b := .bool (decide (((s.fails.length : Nat) : Int) ≤ 50))) rfl (congrArg Value.bool (decide_eq_true hc5))) (OP.fieldAddr 2 fo_26_2 rfl rfl (by decide) ?_)
      refine WL.consG rfl rfl (Eq.trans (b := .bool (decide (((s.fails.length : Nat) : Int) ≤ 50))) rfl (congrArg Value.bool (decide_eq_true hc5))) (OP.loadS (Value.slice s.turnsA s.turns.length s.turnsC) sc_23 rfl (sat_cell 0 hs3 rfl rfl) (by decide) ?_)
      refine WL.consG rfl rfl (Eq.trans (b := .bool (decide (((s.fails.length : Nat) : Int) ≤ 50))) rfl (congrArg Value.bool (decide_eq_true hc5))) (OP.len Try.underlying23 rfl rfl (by decide) ?_)
      refine WL.consG rfl rfl (Eq.trans (b := .bool (decide (((s.fails.length : Nat) : Int) ≤ 50))) rfl (congrArg Value.bool (decide_eq_true hc5))) (OP.leq rfl rfl (by decide) ?_)
      refine WL.cons rfl (OP.pickT (Value.bool (decide (((s.turns.length : Nat) : Int) ≤ 100))) (Eq.trans (b := .bool (decide (((s.fails.length : Nat) : Int) ≤ 50))) rfl (congrArg Value.bool (decide_eq_true hc5))) rfl (by decide) ?_)
      refine WL.cons rfl (OP.move (Value.bool (decide (((s.turns.length : Nat) : Int) ≤ 100))) rfl (by decide) ?_)
      by_cases hc6 : ((s.turns.length : Nat) : Int) ≤ 100
      · refine WL.consG rfl rfl (Eq.trans (b := .bool (decide (((s.turns.length : Nat) : Int) ≤ 100))) rfl (congrArg Value.bool (decide_eq_true hc6))) (OP.fieldAddr 4 fo_26_4 rfl rfl (by decide) ?_)
        refine WL.consG rfl rfl (Eq.trans (b := .bool (decide (((s.turns.length : Nat) : Int) ≤ 100))) rfl (congrArg Value.bool (decide_eq_true hc6))) (OP.loadS (Value.slice s.tornA s.torn.length s.tornC) sc_24 rfl (sat_cell 0 hs3 rfl rfl) (by decide) ?_)
        refine WL.consG rfl rfl (Eq.trans (b := .bool (decide (((s.turns.length : Nat) : Int) ≤ 100))) rfl (congrArg Value.bool (decide_eq_true hc6))) (OP.len Try.underlying24 rfl rfl (by decide) ?_)
        refine WL.consG rfl rfl (Eq.trans (b := .bool (decide (((s.turns.length : Nat) : Int) ≤ 100))) rfl (congrArg Value.bool (decide_eq_true hc6))) (OP.leq rfl rfl (by decide) ?_)
        refine WL.cons rfl (OP.pickT (Value.bool (decide (((s.torn.length : Nat) : Int) ≤ 200))) (Eq.trans (b := .bool (decide (((s.turns.length : Nat) : Int) ≤ 100))) rfl (congrArg Value.bool (decide_eq_true hc6))) rfl (by decide) ?_)
        refine WL.cons rfl (OP.move (Value.bool (decide (((s.torn.length : Nat) : Int) ≤ 200))) rfl (by decide) ?_)
        by_cases hc7 : ((s.torn.length : Nat) : Int) ≤ 200
        · refine WL.consG rfl rfl (Eq.trans (b := .bool (decide (((s.torn.length : Nat) : Int) ≤ 200))) rfl (congrArg Value.bool (decide_eq_true hc7))) (OP.fieldAddr 5 fo_26_5 rfl rfl (by decide) ?_)
          refine WL.consG rfl rfl (Eq.trans (b := .bool (decide (((s.torn.length : Nat) : Int) ≤ 200))) rfl (congrArg Value.bool (decide_eq_true hc7))) (OP.loadS (Value.slice s.markedA s.marked.length s.markedC) sc_22 rfl (sat_cell 0 hs3 rfl rfl) (by decide) ?_)
          refine WL.consG rfl rfl (Eq.trans (b := .bool (decide (((s.torn.length : Nat) : Int) ≤ 200))) rfl (congrArg Value.bool (decide_eq_true hc7))) (OP.len Try.underlying22 rfl rfl (by decide) ?_)
          refine WL.consG rfl rfl (Eq.trans (b := .bool (decide (((s.torn.length : Nat) : Int) ≤ 200))) rfl (congrArg Value.bool (decide_eq_true hc7))) (OP.leq rfl rfl (by decide) ?_)
          refine WL.cons rfl (OP.pickT (Value.bool (decide (((s.marked.length : Nat) : Int) ≤ 50))) (Eq.trans (b := .bool (decide (((s.torn.length : Nat) : Int) ≤ 200))) rfl (congrArg Value.bool (decide_eq_true hc7))) rfl (by decide) ?_)
          refine WL.cons rfl (OP.assign (Value.bool (decide (((s.marked.length : Nat) : Int) ≤ 50))) rfl (by decide) ?_)
          refine WL.nil (Qn.then ?_)
          refine W.ret (RetQ.of [(Value.bool (decide (((s.marked.length : Nat) : Int) ≤ 50)))] (.inr rfl) Try.results8 (.cons (.tmp (by decide) rfl) .nil) ?_)
          have hs9 : sat W0 [F] w2 := sat_sub' [1] [0] hs3 (by kernel_rfl) (by kernel_rfl)
          exact ⟨(congrArg Value.bool (by unfold fewB; simp [hc4, hc5, hc6, hc7])), hs9⟩
        · refine WL.pass rfl rfl (Eq.trans (b := .bool (decide (((s.torn.length : Nat) : Int) ≤ 200))) rfl (congrArg Value.bool (decide_eq_false hc7))) rfl rfl (by decide) ?_
          refine WL.pass rfl rfl (Eq.trans (b := .bool (decide (((s.torn.length : Nat) : Int) ≤ 200))) rfl (congrArg Value.bool (decide_eq_false hc7))) rfl rfl (by decide) ?_
          refine WL.pass rfl rfl (Eq.trans (b := .bool (decide (((s.torn.length : Nat) : Int) ≤ 200))) rfl (congrArg Value.bool (decide_eq_false hc7))) rfl rfl (by decide) ?_
          refine WL.pass rfl rfl (Eq.trans (b := .bool (decide (((s.torn.length : Nat) : Int) ≤ 200))) rfl (congrArg Value.bool (decide_eq_false hc7))) rfl rfl (by decide) ?_
          refine WL.cons rfl (OP.pickF (Value.bool false) (Eq.trans (b := .bool (decide (((s.torn.length : Nat) : Int) ≤ 200))) rfl (congrArg Value.bool (decide_eq_false hc7))) rfl (by decide) ?_)
          refine WL.cons rfl (OP.assign (Value.bool false) rfl (by decide) ?_)
          refine WL.nil (Qn.then ?_)
          refine W.ret (RetQ.of [(Value.bool false)] (.inr rfl) Try.results8 (.cons (.tmp (by decide) rfl) .nil) ?_)
          have hs11 : sat W0 [F] w2 := sat_sub' [1] [0] hs3 (by kernel_rfl) (by kernel_rfl)
          exact ⟨(congrArg Value.bool (by unfold fewB; simp [hc4, hc5, hc6, hc7])), hs11⟩
      · refine WL.pass rfl rfl (Eq.trans (b := .bool (decide (((s.turns.length : Nat) : Int) ≤ 100))) rfl (congrArg Value.bool (decide_eq_false hc6))) rfl rfl (by decide) ?_
        refine WL.pass rfl rfl (Eq.trans (b := .bool (decide (((s.turns.length : Nat) : Int) ≤ 100))) rfl (congrArg Value.bool (decide_eq_false hc6))) rfl rfl (by decide) ?_
        refine WL.pass rfl rfl (Eq.trans (b := .bool (decide (((s.turns.length : Nat) : Int) ≤ 100))) rfl (congrArg Value.bool (decide_eq_false hc6))) rfl rfl (by decide) ?_
        refine WL.pass rfl rfl (Eq.trans (b := .bool (decide (((s.turns.length : Nat) : Int) ≤ 100))) rfl (congrArg Value.bool (decide_eq_false hc6))) rfl rfl (by decide) ?_
        refine WL.cons rfl (OP.pickF (Value.bool false) (Eq.trans (b := .bool (decide (((s.turns.length : Nat) : Int) ≤ 100))) rfl (congrArg Value.bool (decide_eq_false hc6))) rfl (by decide) ?_)
        refine WL.cons rfl (OP.move (Value.bool false) rfl (by decide) ?_)
        refine WL.pass rfl rfl rfl rfl rfl (by decide) ?_
        refine WL.pass rfl rfl rfl rfl rfl (by decide) ?_
        refine WL.pass rfl rfl rfl rfl rfl (by decide) ?_
        refine WL.pass rfl rfl rfl rfl rfl (by decide) ?_
        refine WL.cons rfl (OP.pickF (Value.bool false) rfl rfl (by decide) ?_)
        refine WL.cons rfl (OP.assign (Value.bool false) rfl (by decide) ?_)
        refine WL.nil (Qn.then ?_)
        refine W.ret (RetQ.of [(Value.bool false)] (.inr rfl) Try.results8 (.cons (.tmp (by decide) rfl) .nil) ?_)
        have hs13 : sat W0 [F] w2 := sat_sub' [1] [0] hs3 (by kernel_rfl) (by kernel_rfl)
        exact ⟨(congrArg Value.bool (by unfold fewB; simp [hc4, hc5, hc6])), hs13⟩
    · refine WL.pass rfl rfl (Eq.trans (b := .bool (decide (((s.fails.length : Nat) : Int) ≤ 50))) rfl (congrArg Value.bool (decide_eq_false hc5))) rfl rfl (by decide) ?_
      refine WL.pass rfl rfl (Eq.trans (b := .bool (decide (((s.fails.length : Nat) : Int) ≤ 50))) rfl (congrArg Value.bool (decide_eq_false hc5))) rfl rfl (by decide) ?_
      refine WL.pass rfl rfl (Eq.trans (b := .bool (decide (((s.fails.length : Nat) : Int) ≤ 50))) rfl (congrArg Value.bool (decide_eq_false hc5))) rfl rfl (by decide) ?_
      refine WL.pass rfl rfl (Eq.trans (b := .bool (decide (((s.fails.length : Nat) : Int) ≤ 50))) rfl (congrArg Value.bool (decide_eq_false hc5))) rfl rfl (by decide) ?_
      refine WL.cons rfl (OP.pickF (Value.bool false) (Eq.trans (b := .bool (decide (((s.fails.length : Nat) : Int) ≤ 50))) rfl (congrArg Value.bool (decide_eq_false hc5))) rfl (by decide) ?_)
      refine WL.cons rfl (OP.move (Value.bool false) rfl (by decide) ?_)
      refine WL.pass rfl rfl rfl rfl rfl (by decide) ?_
      refine WL.pass rfl rfl rfl rfl rfl (by decide) ?_
      refine WL.pass rfl rfl rfl rfl rfl (by decide) ?_
      refine WL.pass rfl rfl rfl rfl rfl (by decide) ?_
      refine WL.cons rfl (OP.pickF (Value.bool false) rfl rfl (by decide) ?_)
      refine WL.cons rfl (OP.move (Value.bool false) rfl (by decide) ?_)
      refine WL.pass rfl rfl rfl rfl rfl (by decide) ?_
      refine WL.pass rfl rfl rfl rfl rfl (by decide) ?_
      refine WL.pass rfl rfl rfl rfl rfl (by decide) ?_
      refine WL.pass rfl rfl rfl rfl rfl (by decide) ?_
      refine WL.cons rfl (OP.pickF (Value.bool false) rfl rfl (by decide) ?_)
      refine WL.cons rfl (OP.assign (Value.bool false) rfl (by decide) ?_)
      refine WL.nil (Qn.then ?_)
      refine W.ret (RetQ.of [(Value.bool false)] (.inr rfl) Try.results8 (.cons (.tmp (by decide) rfl) .nil) ?_)
      have hs15 : sat W0 [F] w2 := sat_sub' [1] [0] hs3 (by kernel_rfl) (by kernel_rfl)
      exact ⟨(congrArg Value.bool (by unfold fewB; simp [hc4, hc5])), hs15⟩
  · refine WL.pass rfl rfl (Eq.trans (b := .bool (decide (((s.busy.length : Nat) : Int) ≤ 200))) rfl (congrArg Value.bool (decide_eq_false hc4))) rfl rfl (by decide) ?_
    refine WL.pass rfl rfl (Eq.trans (b := .bool (decide (((s.busy.length : Nat) : Int) ≤ 200))) rfl (congrArg Value.bool (decide_eq_false hc4))) rfl rfl (by decide) ?_
    refine WL.pass rfl rfl (Eq.trans (b := .bool (decide (((s.busy.length : Nat) : Int) ≤ 200))) rfl (congrArg Value.bool (decide_eq_false hc4))) rfl rfl (by decide) ?_
    refine WL.pass rfl rfl (Eq.trans (b := .bool (decide (((s.busy.length : Nat) : Int) ≤ 200))) rfl (congrArg Value.bool (decide_eq_false hc4))) rfl rfl (by decide) ?_
    refine WL.cons rfl (OP.pickF (Value.bool false) (Eq.trans (b := .bool (decide (((s.busy.length : Nat) : Int) ≤ 200))) rfl (congrArg Value.bool (decide_eq_false hc4))) rfl (by decide) ?_)
    refine WL.cons rfl (OP.move (Value.bool false) rfl (by decide) ?_)
    refine WL.pass rfl rfl rfl rfl rfl (by decide) ?_
    refine WL.pass rfl rfl rfl rfl rfl (by decide) ?_
    refine WL.pass rfl rfl rfl rfl rfl (by decide) ?_
    refine WL.pass rfl rfl rfl rfl rfl (by decide) ?_
    refine WL.cons rfl (OP.pickF (Value.bool false) rfl rfl (by decide) ?_)
    refine WL.cons rfl (OP.move (Value.bool false) rfl (by decide) ?_)
    refine WL.pass rfl rfl rfl rfl rfl (by decide) ?_
    refine WL.pass rfl rfl rfl rfl rfl (by decide) ?_
    refine WL.pass rfl rfl rfl rfl rfl (by decide) ?_
    refine WL.pass rfl rfl rfl rfl rfl (by decide) ?_
    refine WL.cons rfl (OP.pickF (Value.bool false) rfl rfl (by decide) ?_)
    refine WL.cons rfl (OP.move (Value.bool false) rfl (by decide) ?_)
    refine WL.pass rfl rfl rfl rfl rfl (by decide) ?_
    refine WL.pass rfl rfl rfl rfl rfl (by decide) ?_
    refine WL.pass rfl rfl rfl rfl rfl (by decide) ?_
    refine WL.pass rfl rfl rfl rfl rfl (by decide) ?_
    refine WL.cons rfl (OP.pickF (Value.bool false) rfl rfl (by decide) ?_)
    refine WL.cons rfl (OP.assign (Value.bool false) rfl (by decide) ?_)
    refine WL.nil (Qn.then ?_)
    refine W.ret (RetQ.of [(Value.bool false)] (.inr rfl) Try.results8 (.cons (.tmp (by decide) rfl) .nil) ?_)
    have hs17 : sat W0 [F] w2 := sat_sub' [1] [0] hs3 (by kernel_rfl) (by kernel_rfl)
    exact ⟨(congrArg Value.bool (by unfold fewB; simp [hc4])), hs17⟩

theorem ref01_Ints {W0 : World} {F : HProp} {w : World}  (a : Option Addr) (c : Nat) (xs : List Int) (a2 : Option Addr) (c2 : Nat) (ys : List Int) (hn : xs.length ≤ 9223372036854775807) (hn2 : ys.length ≤ 9223372036854775807) (hr : Ent W0 F (fun w => Rd w 1 a xs.length (xs.map (Value.int .i64)))) (hr2 : Ent W0 F (fun w => Rd w 1 a2 ys.length (ys.map (Value.int .i64))))
    (hs : sat W0 [F] w) :
    Calls Try.prog 40 ([(Value.slice a xs.length c), (Value.slice a2 ys.length c2)] : List Value).toArray w (fun x_ w' => ∃ v_, x_ = .returned v_ ∧ (v_ = (Value.bool (decide (xs = ys))) ∧ sat W0 [F] w')) := by
  refine W.enter Try.func40 rfl Try.ntmps40 (by simp) ?_
  refine W.seq ?_
  refine W.region ?_
  refine WL.cons rfl (OP.assign (Value.bool false) rfl (by decide) ?_)
  refine WL.nil (Qn.then ?_)
  refine W.seq ?_
  refine W.seq ?_
  refine W.region ?_
  refine WL.cons rfl (OP.move (Value.slice a xs.length c) rfl (by decide) ?_)
  refine WL.cons rfl (OP.len Try.underlying22 rfl rfl (by decide) ?_)
  refine WL.cons rfl (OP.move (Value.slice a2 ys.length c2) rfl (by decide) ?_)
  refine WL.cons rfl (OP.len Try.underlying22 rfl rfl (by decide) ?_)
  refine WL.cons rfl (OP.neI rfl rfl (by decide) ?_)
  refine WL.nil (Qn.then ?_)
  refine W.iteP (p := ((xs.length : Nat) : Int) ≠ ((ys.length : Nat) : Int)) rfl (fun hc1 => ?_) (fun hc1 => ?_)
  · refine W.seq ?_
    refine W.region ?_
    refine WL.cons rfl (OP.assign (Value.bool false) rfl (by decide) ?_)
    refine WL.nil (Qn.then ?_)
    refine W.ret (Qr.then (RetQ.of [(Value.bool false)] (.inr rfl) Try.results40 (.cons (.tmp (by decide) rfl) .nil) ?_))
    exact ⟨(congrArg Value.bool (decide_eq_false (fun h_ => hc1 (by rw [h_]))).symm), hs⟩
  · refine W.skip (Qn.then ?_)
    refine W.seq ?_
    refine W.seq ?_
    refine W.region ?_
    refine WL.cons rfl (OP.assign (Value.int .i64 0) rfl (by decide) ?_)
    refine WL.nil (Qn.then ?_)
    refine W.block ?_
    refine W.loop (fun n_ e_ w_ => ∃ k : Nat, n_ = xs.length - k ∧ e_ 0 = (Value.slice a xs.length c) ∧ e_ 1 = (Value.slice a2 ys.length c2) ∧ e_ 5 = (Value.int .i64 ((k : Nat) : Int)) ∧ k ≤ xs.length ∧ xs.take k = ys.take k ∧ sat W0 [F] w_) (xs.length - 0) ⟨0, rfl, rfl, rfl, (Eq.trans (b := (Value.int .i64 0)) rfl (congrArg (Value.int .i64) (by first | rfl | omega | simp | (simp; omega)))), (by omega), rfl, hs⟩ ?_
    rintro n3 e4 w5 ⟨k, hn7, he8, he9, he10, hp11, hp12, hs6⟩
    refine W.seq ?_
    refine W.seq ?_
    refine W.region ?_
    refine WL.cons rfl (OP.move (Value.int .i64 ((k : Nat) : Int)) he10 (by decide) ?_)
    refine WL.cons rfl (OP.move (Value.slice a xs.length c) he8 (by decide) ?_)
    refine WL.cons rfl (OP.len Try.underlying22 rfl rfl (by decide) ?_)
    refine WL.cons rfl (OP.lss rfl rfl (by decide) ?_)
    refine WL.nil (Qn.then ?_)
    refine W.iteP (p := ((k : Nat) : Int) < ((xs.length : Nat) : Int)) rfl (fun hc13 => ?_) (fun hc13 => ?_)
    · refine W.skip (Qn.then ?_)
      refine W.seq ?_
      refine W.block ?_
      refine W.seq ?_
      refine W.draw (fun w => sat W0 [F] w) (by kernel_rfl) hs6 (fun w14 hs15 => ?_)
      refine WA.take 0 rfl rfl rfl rfl (by kernel_rfl) (by kernel_rfl) (by kernel_rfl) ?_ (by decide) (v := (Value.slice a xs.length c)) (fun w17 hw16 => OP.move (Value.slice a xs.length c) he8 (by decide) ⟨rfl, rfl⟩) ?_
      · exact hs15
      refine WA.take 1 rfl rfl rfl rfl (by kernel_rfl) (by kernel_rfl) (by kernel_rfl) ?_ (by decide) (v := (Value.int .i64 ((k : Nat) : Int))) (fun w19 hw18 => OP.move (Value.int .i64 ((k : Nat) : Int)) he10 (by decide) ⟨rfl, rfl⟩) ?_
      · exact hs15
      have hi19_ : k < xs.length := by omega
      refine WA.take 2 rfl rfl rfl rfl (by kernel_rfl) (by kernel_rfl) (by kernel_rfl) ?_ (by decide) (v := (Value.pointer (some (adr a (k * 1))))) (fun w21 hw20 => OP.indexR k (Ent_sat 0 rfl hr hw20) Try.underlying22 sz_3 rfl rfl rfl hi19_ (by decide) ⟨rfl, rfl⟩) ?_
      · exact hs15
      refine WA.take 3 rfl rfl rfl rfl (by kernel_rfl) (by kernel_rfl) (by kernel_rfl) ?_ (by decide) (v := (Value.int .i64 (xs.getD k 0))) (fun w23 hw22 => OP.loadSR (Value.int .i64 (xs.getD k 0)) (Ent_sat 0 rfl hr hw22) (ints_get hi19_) sc_3 rfl (by decide) ⟨rfl, rfl⟩) ?_
      · exact hs15
      refine WA.take 4 rfl rfl rfl rfl (by kernel_rfl) (by kernel_rfl) (by kernel_rfl) ?_ (by decide) (v := (Value.slice a2 ys.length c2)) (fun w25 hw24 => OP.move (Value.slice a2 ys.length c2) he9 (by decide) ⟨rfl, rfl⟩) ?_
      · exact hs15
      refine WA.take 5 rfl rfl rfl rfl (by kernel_rfl) (by kernel_rfl) (by kernel_rfl) ?_ (by decide) (v := (Value.int .i64 ((k : Nat) : Int))) (fun w27 hw26 => OP.move (Value.int .i64 ((k : Nat) : Int)) he10 (by decide) ⟨rfl, rfl⟩) ?_
      · exact hs15
      have hi23_ : k < ys.length := by omega
      refine WA.take 6 rfl rfl rfl rfl (by kernel_rfl) (by kernel_rfl) (by kernel_rfl) ?_ (by decide) (v := (Value.pointer (some (adr a2 (k * 1))))) (fun w29 hw28 => OP.indexR k (Ent_sat 0 rfl hr2 hw28) Try.underlying22 sz_3 rfl rfl rfl hi23_ (by decide) ⟨rfl, rfl⟩) ?_
      · exact hs15
      refine WA.take 7 rfl rfl rfl rfl (by kernel_rfl) (by kernel_rfl) (by kernel_rfl) ?_ (by decide) (v := (Value.int .i64 (ys.getD k 0))) (fun w31 hw30 => OP.loadSR (Value.int .i64 (ys.getD k 0)) (Ent_sat 0 rfl hr2 hw30) (ints_get hi23_) sc_3 rfl (by decide) ⟨rfl, rfl⟩) ?_
      · exact hs15
      refine WA.take 8 rfl rfl rfl rfl (by kernel_rfl) (by kernel_rfl) (by kernel_rfl) ?_ (by decide) (v := (Value.bool (decide (xs.getD k 0 ≠ ys.getD k 0)))) (fun w33 hw32 => OP.neI rfl rfl (by decide) ⟨rfl, rfl⟩) ?_
      · exact hs15
      refine WA.done (by kernel_rfl) ?_
      refine (Qn.then ?_)
      refine W.iteP (p := xs.getD k 0 ≠ ys.getD k 0) rfl (fun hc34 => ?_) (fun hc34 => ?_)
      · refine W.seq ?_
        refine W.region ?_
        refine WL.cons rfl (OP.assign (Value.bool false) rfl (by decide) ?_)
        refine WL.nil (Qn.then ?_)
        refine W.ret (Qr.blk (Qr.then (Qr.then (Qr.blk (Qr.then (RetQ.of [(Value.bool false)] (.inr rfl) Try.results40 (.cons (.tmp (by decide) rfl) .nil) ?_))))))
        exact ⟨(congrArg Value.bool (decide_eq_false (fun h_ => hc34 (by rw [h_]))).symm), hs15⟩
      · refine W.skip (Qn.blk (Qn.then ?_))
        refine W.region ?_
        refine WL.cons rfl (OP.move (Value.int .i64 ((k : Nat) : Int)) he10 (by decide) ?_)
        refine WL.cons rfl (OP.add ((k + 1 : Nat) : Int) rfl rfl (by first | rfl | omega | simp) (by unfold inI64; omega) (by decide) ?_)
        refine WL.cons rfl (OP.assign (Value.int .i64 ((k + 1 : Nat) : Int)) rfl (by decide) ?_)
        refine WL.nil (Qn.then ?_)
        exact ⟨_, (by omega), (k + 1), rfl, he8, he9, (Eq.trans (b := (Value.int .i64 ((k + 1 : Nat) : Int))) rfl (congrArg (Value.int .i64) (by first | rfl | omega | simp | (simp; omega)))), (by omega), (take_eq_next (by omega) (by omega) (by assumption) (Decidable.not_not.mp (by assumption))), hs15⟩
    · refine W.exit (Qx.then (Qx.then (Qx.hit (Qn.then ?_))))
      refine W.seq ?_
      refine W.region ?_
      refine WL.cons rfl (OP.assign (Value.bool true) rfl (by decide) ?_)
      refine WL.nil (Qn.then ?_)
      refine W.ret (RetQ.of [(Value.bool true)] (.inr rfl) Try.results40 (.cons (.tmp (by decide) rfl) .nil) ?_)
      exact ⟨(congrArg Value.bool (decide_eq_true (take_eq_all (k := k) (by omega) (by omega) (by assumption))).symm), hs6⟩

theorem law12_awake {W0 : World} {F : HProp} {w : World}    
    (hs : sat W0 [F] w) :
    Calls Try.prog 7 ([] : List Value).toArray w (fun x_ w' => ∃ v_, x_ = .returned v_ ∧ (v_ = (Value.bool true) ∧ sat W0 [F] w')) := by
  refine W.enter Try.func7 rfl Try.ntmps7 (by simp) ?_
  refine W.seq ?_
  refine W.region ?_
  refine WL.cons rfl (OP.assign (Value.bool false) rfl (by decide) ?_)
  refine WL.nil (Qn.then ?_)
  refine W.seq ?_
  refine W.region ?_
  have hs1 : sat W0 [stars [F]] w := sat_pack' [] [F] hs (by kernel_rfl) (by kernel_rfl)
  have hcl4 := law12_plain  hs1
  refine WL.cons rfl (?_)
  with_reducible refine OP.call [] gf_10 ?_ ?_ hcl4 ?_
  · exact rfl
  · decide
  clear hcl4
  rintro _ w2 ⟨_, rfl, rfl, hs3⟩
  refine ⟨_, rfl, ?_⟩
  have hs5 : sat W0 [F] w2 := sat_flat' [] [F] hs3 (by kernel_rfl) (by kernel_rfl)
  refine WL.cons rfl (OP.buildSlice (el := 3) [(0, (Value.int .i64 3)), (1, (Value.int .i64 1))] [(Value.int .i64 3), (Value.int .i64 1)] hs5 rfl (fun _ => by kernel_rfl) (by decide) (fun b6 w7 hs8 => ?_))
  have hs9 : sat W0 [SL false 1 (some ⟨b6, 0, none⟩) 2 2 ([(Value.int .i64 3), (Value.int .i64 1)]), F] w7 := sat_SL_blk rfl hs8
  refine WL.cons rfl (OP.build [(0, (Value.slice (some ⟨b6, 0, none⟩) 2 2)), (3, (Value.int .i64 (-1)))] [(Value.slice (some ⟨b6, 0, none⟩) 2 2), (Value.slice none 0 0), (Value.slice none 0 0), (Value.int .i64 (-1)), (Value.slice none 0 0), (Value.slice none 0 0)] rfl (by kernel_rfl) (by decide) ?_)
  have hs10 : sat W0 [stars [SL false 1 (some ⟨b6, 0, none⟩) 2 2 ([(Value.int .i64 3), (Value.int .i64 1)]), F]] w7 := sat_pack' [] [SL false 1 (some ⟨b6, 0, none⟩) 2 2 ([(Value.int .i64 3), (Value.int .i64 1)]), F] hs9 (by kernel_rfl) (by kernel_rfl)
  have hcl14 := choice_New_ok plainG (awakeS b6) ⟨Ent_stars 0 rfl Ent_SL, fun _ _ => Rd_nil, fun _ _ => Rd_nil, fun _ _ => Rd_nil, fun _ _ => Rd_nil⟩ (awakeS_L b6) (awakeS_right _) hs10
  refine WL.cons rfl (?_)
  with_reducible refine OP.call [(Value.agg [(Value.int .i64 plainG.planes), (Value.int .i64 plainG.blocks), (Value.int .i64 plainG.pages), (Value.int .i64 plainG.chunks), (Value.int .i64 plainG.chunk), (Value.int .i64 plainG.rungs), (Value.int .i64 plainG.partials)].toArray), (Value.agg [(Value.slice ((awakeS b6).busyA) ((awakeS b6).busy.length) ((awakeS b6).busyC)), (Value.slice ((awakeS b6).failsA) ((awakeS b6).fails.length) ((awakeS b6).failsC)), (Value.slice ((awakeS b6).turnsA) ((awakeS b6).turns.length) ((awakeS b6).turnsC)), (Value.int .i64 ((awakeS b6).cut)), (Value.slice ((awakeS b6).tornA) ((awakeS b6).torn.length) ((awakeS b6).tornC)), (Value.slice ((awakeS b6).markedA) ((awakeS b6).marked.length) ((awakeS b6).markedC))].toArray)] gf_9 ?_ ?_ hcl14 ?_
  · exact rfl
  · decide
  clear hcl14
  rintro _ w12 ⟨_, rfl, b_11, rfl, hs13⟩
  refine ⟨_, rfl, ?_⟩
  have hs15 : sat W0 [TellerRep b_11 ((awakeS b6).busy) ((awakeS b6).fails) ((awakeS b6).torn) ((awakeS b6).turns) 0 0, SL false 1 (some ⟨b6, 0, none⟩) 2 2 ([(Value.int .i64 3), (Value.int .i64 1)]), F] w12 := sat_flat' [TellerRep b_11 ((awakeS b6).busy) ((awakeS b6).fails) ((awakeS b6).torn) ((awakeS b6).turns) 0 0] [SL false 1 (some ⟨b6, 0, none⟩) 2 2 ([(Value.int .i64 3), (Value.int .i64 1)]), F] hs13 (by kernel_rfl) (by kernel_rfl)
  refine WL.cons rfl (OP.move (Value.tuple #[(Value.pointer (some ⟨b_11, 0, none⟩)), (Value.int .i64 0)]) rfl (by decide) ?_)
  refine WL.cons rfl (OP.extract (Value.pointer (some ⟨b_11, 0, none⟩)) rfl rfl (by decide) ?_)
  refine WL.cons rfl (OP.extract (Value.int .i64 0) rfl rfl (by decide) ?_)
  refine WL.cons rfl (OP.assign (Value.pointer (some ⟨b_11, 0, none⟩)) rfl (by decide) ?_)
  refine WL.cons rfl (OP.assign (Value.int .i64 0) rfl (by decide) ?_)
  refine WL.nil (Qn.then ?_)
  refine W.seq ?_
  refine W.region ?_
  refine WL.cons rfl (OP.move (Value.int .i64 0) rfl (by decide) ?_)
  refine WL.cons rfl (OP.eqI rfl rfl (by decide) ?_)
  refine WL.cons rfl (OP.move (Value.bool true) rfl (by decide) ?_)
  refine WL.consG rfl rfl rfl (OP.move (Value.pointer (some ⟨b_11, 0, none⟩)) rfl (by decide) ?_)
  have hs16 : sat W0 [TellerRep b_11 ((awakeS b6).busy) ((awakeS b6).fails) ((awakeS b6).torn) ((awakeS b6).turns) 0 0, stars [SL false 1 (some ⟨b6, 0, none⟩) 2 2 ([(Value.int .i64 3), (Value.int .i64 1)]), F]] w12 := sat_pack' [TellerRep b_11 ((awakeS b6).busy) ((awakeS b6).fails) ((awakeS b6).torn) ((awakeS b6).turns) 0 0] [SL false 1 (some ⟨b6, 0, none⟩) 2 2 ([(Value.int .i64 3), (Value.int .i64 1)]), F] hs15 (by kernel_rfl) (by kernel_rfl)
  have hcl19 := Teller_Busy b_11 ((awakeS b6).busy) ((awakeS b6).fails) ((awakeS b6).torn) ((awakeS b6).turns) 0 0 (by omega) (by simp [awakeS]) hs16
  refine WL.consG rfl rfl rfl (?_)
  with_reducible refine OP.call [(Value.pointer (some ⟨b_11, 0, none⟩))] gf_37 ?_ ?_ hcl19 ?_
  · exact rfl
  · decide
  clear hcl19
  rintro _ w17 ⟨_, rfl, rfl, hs18⟩
  refine ⟨_, rfl, ?_⟩
  have hs20 : sat W0 [TellerRep b_11 ((awakeS b6).busy) ((awakeS b6).fails) ((awakeS b6).torn) ((awakeS b6).turns) (0 + 1) 0, SL false 1 (some ⟨b6, 0, none⟩) 2 2 ([(Value.int .i64 3), (Value.int .i64 1)]), F] w17 := sat_flat' [TellerRep b_11 ((awakeS b6).busy) ((awakeS b6).fails) ((awakeS b6).torn) ((awakeS b6).turns) (0 + 1) 0] [SL false 1 (some ⟨b6, 0, none⟩) 2 2 ([(Value.int .i64 3), (Value.int .i64 1)]), F] hs18 (by kernel_rfl) (by kernel_rfl)
  refine WL.consG rfl rfl rfl (OP.eqI rfl rfl (by decide) ?_)
  refine WL.cons rfl (OP.pickT (Value.bool (decide (busyAt ((awakeS b6).busy) 0 = 3))) rfl rfl (by decide) ?_)
  refine WL.cons rfl (OP.move (Value.bool (decide (busyAt ((awakeS b6).busy) 0 = 3))) rfl (by decide) ?_)
  by_cases hc21 : busyAt ((awakeS b6).busy) 0 = 3
  · refine WL.consG rfl rfl (Eq.trans (b := .bool (decide (busyAt ((awakeS b6).busy) 0 = 3))) rfl (congrArg Value.bool (decide_eq_true hc21))) (OP.move (Value.pointer (some ⟨b_11, 0, none⟩)) rfl (by decide) ?_)
    have hs22 : sat W0 [TellerRep b_11 ((awakeS b6).busy) ((awakeS b6).fails) ((awakeS b6).torn) ((awakeS b6).turns) (0 + 1) 0, stars [SL false 1 (some ⟨b6, 0, none⟩) 2 2 ([(Value.int .i64 3), (Value.int .i64 1)]), F]] w17 := sat_pack' [TellerRep b_11 ((awakeS b6).busy) ((awakeS b6).fails) ((awakeS b6).torn) ((awakeS b6).turns) (0 + 1) 0] [SL false 1 (some ⟨b6, 0, none⟩) 2 2 ([(Value.int .i64 3), (Value.int .i64 1)]), F] hs20 (by kernel_rfl) (by kernel_rfl)
    have hcl25 := Teller_Busy b_11 ((awakeS b6).busy) ((awakeS b6).fails) ((awakeS b6).torn) ((awakeS b6).turns) (0 + 1) 0 (by omega) (by simp [awakeS]) hs22
    refine WL.consG rfl rfl (Eq.trans (b := .bool (decide (busyAt ((awakeS b6).busy) 0 = 3))) rfl (congrArg Value.bool (decide_eq_true hc21))) (?_)
    with_reducible refine OP.call [(Value.pointer (some ⟨b_11, 0, none⟩))] gf_37 ?_ ?_ hcl25 ?_
    · exact rfl
    · decide
    clear hcl25
    rintro _ w23 ⟨_, rfl, rfl, hs24⟩
    refine ⟨_, rfl, ?_⟩
    have hs26 : sat W0 [TellerRep b_11 ((awakeS b6).busy) ((awakeS b6).fails) ((awakeS b6).torn) ((awakeS b6).turns) ((0 + 1) + 1) 0, SL false 1 (some ⟨b6, 0, none⟩) 2 2 ([(Value.int .i64 3), (Value.int .i64 1)]), F] w23 := sat_flat' [TellerRep b_11 ((awakeS b6).busy) ((awakeS b6).fails) ((awakeS b6).torn) ((awakeS b6).turns) ((0 + 1) + 1) 0] [SL false 1 (some ⟨b6, 0, none⟩) 2 2 ([(Value.int .i64 3), (Value.int .i64 1)]), F] hs24 (by kernel_rfl) (by kernel_rfl)
    refine WL.consG rfl rfl (Eq.trans (b := .bool (decide (busyAt ((awakeS b6).busy) 0 = 3))) rfl (congrArg Value.bool (decide_eq_true hc21))) (OP.eqI rfl rfl (by decide) ?_)
    refine WL.cons rfl (OP.pickT (Value.bool (decide (busyAt ((awakeS b6).busy) (0 + 1) = 1))) (Eq.trans (b := .bool (decide (busyAt ((awakeS b6).busy) 0 = 3))) rfl (congrArg Value.bool (decide_eq_true hc21))) rfl (by decide) ?_)
    refine WL.cons rfl (OP.move (Value.bool (decide (busyAt ((awakeS b6).busy) (0 + 1) = 1))) rfl (by decide) ?_)
    by_cases hc27 : busyAt ((awakeS b6).busy) (0 + 1) = 1
    · refine WL.consG rfl rfl (Eq.trans (b := .bool (decide (busyAt ((awakeS b6).busy) (0 + 1) = 1))) rfl (congrArg Value.bool (decide_eq_true hc27))) (OP.move (Value.pointer (some ⟨b_11, 0, none⟩)) rfl (by decide) ?_)
      have hs28 : sat W0 [TellerRep b_11 ((awakeS b6).busy) ((awakeS b6).fails) ((awakeS b6).torn) ((awakeS b6).turns) ((0 + 1) + 1) 0, stars [SL false 1 (some ⟨b6, 0, none⟩) 2 2 ([(Value.int .i64 3), (Value.int .i64 1)]), F]] w23 := sat_pack' [TellerRep b_11 ((awakeS b6).busy) ((awakeS b6).fails) ((awakeS b6).torn) ((awakeS b6).turns) ((0 + 1) + 1) 0] [SL false 1 (some ⟨b6, 0, none⟩) 2 2 ([(Value.int .i64 3), (Value.int .i64 1)]), F] hs26 (by kernel_rfl) (by kernel_rfl)
      have hcl31 := Teller_Busy b_11 ((awakeS b6).busy) ((awakeS b6).fails) ((awakeS b6).torn) ((awakeS b6).turns) ((0 + 1) + 1) 0 (by omega) (by simp [awakeS]) hs28
      refine WL.consG rfl rfl (Eq.trans (b := .bool (decide (busyAt ((awakeS b6).busy) (0 + 1) = 1))) rfl (congrArg Value.bool (decide_eq_true hc27))) (?_)
      with_reducible refine OP.call [(Value.pointer (some ⟨b_11, 0, none⟩))] gf_37 ?_ ?_ hcl31 ?_
      · exact rfl
      · decide
      clear hcl31
      rintro _ w29 ⟨_, rfl, rfl, hs30⟩
      refine ⟨_, rfl, ?_⟩
      have hs32 : sat W0 [TellerRep b_11 ((awakeS b6).busy) ((awakeS b6).fails) ((awakeS b6).torn) ((awakeS b6).turns) (((0 + 1) + 1) + 1) 0, SL false 1 (some ⟨b6, 0, none⟩) 2 2 ([(Value.int .i64 3), (Value.int .i64 1)]), F] w29 := sat_flat' [TellerRep b_11 ((awakeS b6).busy) ((awakeS b6).fails) ((awakeS b6).torn) ((awakeS b6).turns) (((0 + 1) + 1) + 1) 0] [SL false 1 (some ⟨b6, 0, none⟩) 2 2 ([(Value.int .i64 3), (Value.int .i64 1)]), F] hs30 (by kernel_rfl) (by kernel_rfl)
      refine WL.consG rfl rfl (Eq.trans (b := .bool (decide (busyAt ((awakeS b6).busy) (0 + 1) = 1))) rfl (congrArg Value.bool (decide_eq_true hc27))) (OP.eqI rfl rfl (by decide) ?_)
      refine WL.cons rfl (OP.pickT (Value.bool (decide (busyAt ((awakeS b6).busy) ((0 + 1) + 1) = 0))) (Eq.trans (b := .bool (decide (busyAt ((awakeS b6).busy) (0 + 1) = 1))) rfl (congrArg Value.bool (decide_eq_true hc27))) rfl (by decide) ?_)
      refine WL.cons rfl (OP.move (Value.bool (decide (busyAt ((awakeS b6).busy) ((0 + 1) + 1) = 0))) rfl (by decide) ?_)
      by_cases hc33 : busyAt ((awakeS b6).busy) ((0 + 1) + 1) = 0
      · refine WL.consG rfl rfl (Eq.trans (b := .bool (decide (busyAt ((awakeS b6).busy) ((0 + 1) + 1) = 0))) rfl (congrArg Value.bool (decide_eq_true hc33))) (OP.move (Value.pointer (some ⟨b_11, 0, none⟩)) rfl (by decide) ?_)
        have hs34 : sat W0 [TellerRep b_11 ((awakeS b6).busy) ((awakeS b6).fails) ((awakeS b6).torn) ((awakeS b6).turns) (((0 + 1) + 1) + 1) 0, stars [SL false 1 (some ⟨b6, 0, none⟩) 2 2 ([(Value.int .i64 3), (Value.int .i64 1)]), F]] w29 := sat_pack' [TellerRep b_11 ((awakeS b6).busy) ((awakeS b6).fails) ((awakeS b6).torn) ((awakeS b6).turns) (((0 + 1) + 1) + 1) 0] [SL false 1 (some ⟨b6, 0, none⟩) 2 2 ([(Value.int .i64 3), (Value.int .i64 1)]), F] hs32 (by kernel_rfl) (by kernel_rfl)
        have hcl37 := Teller_Busy b_11 ((awakeS b6).busy) ((awakeS b6).fails) ((awakeS b6).torn) ((awakeS b6).turns) (((0 + 1) + 1) + 1) 0 (by omega) (by simp [awakeS]) hs34
        refine WL.consG rfl rfl (Eq.trans (b := .bool (decide (busyAt ((awakeS b6).busy) ((0 + 1) + 1) = 0))) rfl (congrArg Value.bool (decide_eq_true hc33))) (?_)
        with_reducible refine OP.call [(Value.pointer (some ⟨b_11, 0, none⟩))] gf_37 ?_ ?_ hcl37 ?_
        · exact rfl
        · decide
        clear hcl37
        rintro _ w35 ⟨_, rfl, rfl, hs36⟩
        refine ⟨_, rfl, ?_⟩
        have hs38 : sat W0 [TellerRep b_11 ((awakeS b6).busy) ((awakeS b6).fails) ((awakeS b6).torn) ((awakeS b6).turns) ((((0 + 1) + 1) + 1) + 1) 0, SL false 1 (some ⟨b6, 0, none⟩) 2 2 ([(Value.int .i64 3), (Value.int .i64 1)]), F] w35 := sat_flat' [TellerRep b_11 ((awakeS b6).busy) ((awakeS b6).fails) ((awakeS b6).torn) ((awakeS b6).turns) ((((0 + 1) + 1) + 1) + 1) 0] [SL false 1 (some ⟨b6, 0, none⟩) 2 2 ([(Value.int .i64 3), (Value.int .i64 1)]), F] hs36 (by kernel_rfl) (by kernel_rfl)
        refine WL.consG rfl rfl (Eq.trans (b := .bool (decide (busyAt ((awakeS b6).busy) ((0 + 1) + 1) = 0))) rfl (congrArg Value.bool (decide_eq_true hc33))) (OP.eqI rfl rfl (by decide) ?_)
        refine WL.cons rfl (OP.pickT (Value.bool (decide (busyAt ((awakeS b6).busy) (((0 + 1) + 1) + 1) = 0))) (Eq.trans (b := .bool (decide (busyAt ((awakeS b6).busy) ((0 + 1) + 1) = 0))) rfl (congrArg Value.bool (decide_eq_true hc33))) rfl (by decide) ?_)
        refine WL.cons rfl (OP.assign (Value.bool (decide (busyAt ((awakeS b6).busy) (((0 + 1) + 1) + 1) = 0))) rfl (by decide) ?_)
        refine WL.nil (Qn.then ?_)
        refine W.ret (RetQ.of [(Value.bool (decide (busyAt ((awakeS b6).busy) (((0 + 1) + 1) + 1) = 0)))] (.inr rfl) Try.results7 (.cons (.tmp (by decide) rfl) .nil) ?_)
        have hs40 : sat W0 [F] w35 := sat_sub' [2] [0, 1] hs38 (by kernel_rfl) (by kernel_rfl)
        exact ⟨(by first | rfl | exact absurd rfl hc33), hs40⟩
      · refine WL.pass rfl rfl (Eq.trans (b := .bool (decide (busyAt ((awakeS b6).busy) ((0 + 1) + 1) = 0))) rfl (congrArg Value.bool (decide_eq_false hc33))) rfl rfl (by decide) ?_
        refine WL.pass rfl rfl (Eq.trans (b := .bool (decide (busyAt ((awakeS b6).busy) ((0 + 1) + 1) = 0))) rfl (congrArg Value.bool (decide_eq_false hc33))) rfl rfl (by decide) ?_
        refine WL.pass rfl rfl (Eq.trans (b := .bool (decide (busyAt ((awakeS b6).busy) ((0 + 1) + 1) = 0))) rfl (congrArg Value.bool (decide_eq_false hc33))) rfl rfl (by decide) ?_
        refine WL.cons rfl (OP.pickF (Value.bool false) (Eq.trans (b := .bool (decide (busyAt ((awakeS b6).busy) ((0 + 1) + 1) = 0))) rfl (congrArg Value.bool (decide_eq_false hc33))) rfl (by decide) ?_)
        refine WL.cons rfl (OP.assign (Value.bool false) rfl (by decide) ?_)
        refine WL.nil (Qn.then ?_)
        refine W.ret (RetQ.of [(Value.bool false)] (.inr rfl) Try.results7 (.cons (.tmp (by decide) rfl) .nil) ?_)
        have hs42 : sat W0 [F] w29 := sat_sub' [2] [0, 1] hs32 (by kernel_rfl) (by kernel_rfl)
        exact ⟨(by first | rfl | exact absurd rfl hc33), hs42⟩
    · refine WL.pass rfl rfl (Eq.trans (b := .bool (decide (busyAt ((awakeS b6).busy) (0 + 1) = 1))) rfl (congrArg Value.bool (decide_eq_false hc27))) rfl rfl (by decide) ?_
      refine WL.pass rfl rfl (Eq.trans (b := .bool (decide (busyAt ((awakeS b6).busy) (0 + 1) = 1))) rfl (congrArg Value.bool (decide_eq_false hc27))) rfl rfl (by decide) ?_
      refine WL.pass rfl rfl (Eq.trans (b := .bool (decide (busyAt ((awakeS b6).busy) (0 + 1) = 1))) rfl (congrArg Value.bool (decide_eq_false hc27))) rfl rfl (by decide) ?_
      refine WL.cons rfl (OP.pickF (Value.bool false) (Eq.trans (b := .bool (decide (busyAt ((awakeS b6).busy) (0 + 1) = 1))) rfl (congrArg Value.bool (decide_eq_false hc27))) rfl (by decide) ?_)
      refine WL.cons rfl (OP.move (Value.bool false) rfl (by decide) ?_)
      refine WL.pass rfl rfl rfl rfl rfl (by decide) ?_
      refine WL.pass rfl rfl rfl rfl rfl (by decide) ?_
      refine WL.pass rfl rfl rfl rfl rfl (by decide) ?_
      refine WL.cons rfl (OP.pickF (Value.bool false) rfl rfl (by decide) ?_)
      refine WL.cons rfl (OP.assign (Value.bool false) rfl (by decide) ?_)
      refine WL.nil (Qn.then ?_)
      refine W.ret (RetQ.of [(Value.bool false)] (.inr rfl) Try.results7 (.cons (.tmp (by decide) rfl) .nil) ?_)
      have hs44 : sat W0 [F] w23 := sat_sub' [2] [0, 1] hs26 (by kernel_rfl) (by kernel_rfl)
      exact ⟨(by first | rfl | exact absurd rfl hc27), hs44⟩
  · refine WL.pass rfl rfl (Eq.trans (b := .bool (decide (busyAt ((awakeS b6).busy) 0 = 3))) rfl (congrArg Value.bool (decide_eq_false hc21))) rfl rfl (by decide) ?_
    refine WL.pass rfl rfl (Eq.trans (b := .bool (decide (busyAt ((awakeS b6).busy) 0 = 3))) rfl (congrArg Value.bool (decide_eq_false hc21))) rfl rfl (by decide) ?_
    refine WL.pass rfl rfl (Eq.trans (b := .bool (decide (busyAt ((awakeS b6).busy) 0 = 3))) rfl (congrArg Value.bool (decide_eq_false hc21))) rfl rfl (by decide) ?_
    refine WL.cons rfl (OP.pickF (Value.bool false) (Eq.trans (b := .bool (decide (busyAt ((awakeS b6).busy) 0 = 3))) rfl (congrArg Value.bool (decide_eq_false hc21))) rfl (by decide) ?_)
    refine WL.cons rfl (OP.move (Value.bool false) rfl (by decide) ?_)
    refine WL.pass rfl rfl rfl rfl rfl (by decide) ?_
    refine WL.pass rfl rfl rfl rfl rfl (by decide) ?_
    refine WL.pass rfl rfl rfl rfl rfl (by decide) ?_
    refine WL.cons rfl (OP.pickF (Value.bool false) rfl rfl (by decide) ?_)
    refine WL.cons rfl (OP.move (Value.bool false) rfl (by decide) ?_)
    refine WL.pass rfl rfl rfl rfl rfl (by decide) ?_
    refine WL.pass rfl rfl rfl rfl rfl (by decide) ?_
    refine WL.pass rfl rfl rfl rfl rfl (by decide) ?_
    refine WL.cons rfl (OP.pickF (Value.bool false) rfl rfl (by decide) ?_)
    refine WL.cons rfl (OP.assign (Value.bool false) rfl (by decide) ?_)
    refine WL.nil (Qn.then ?_)
    refine W.ret (RetQ.of [(Value.bool false)] (.inr rfl) Try.results7 (.cons (.tmp (by decide) rfl) .nil) ?_)
    have hs46 : sat W0 [F] w17 := sat_sub' [2] [0, 1] hs20 (by kernel_rfl) (by kernel_rfl)
    exact ⟨(by first | rfl | exact absurd rfl hc21), hs46⟩

end Go.Proofs.Ytleolejhkdolpaa
