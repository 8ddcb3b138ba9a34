import Derived.Test.YtleolejhkdolpaaA8
import Derived.KernelRfl
set_option linter.unusedVariables false
set_option linter.unusedSimpArgs false
set_option maxRecDepth 100000
set_option maxHeartbeats 4000000
namespace Go.Proofs.Ytleolejhkdolpaa
open Go Go.RowKit Sv
theorem ChoiceTurns_spec {W0 : World} {F : HProp} {w : World}  (s : Script) (hS : ∀ F, ScriptR W0 F s) (hL : ScriptL s) 
    (hs : sat W0 [F] w) :
    Calls Try.prog 3 ([(Value.agg [(Value.slice s.busyA s.busy.length s.busyC), (Value.slice s.failsA s.fails.length s.failsC), (Value.slice s.turnsA s.turns.length s.turnsC), (Value.int .i64 s.cut), (Value.slice s.tornA s.torn.length s.tornC), (Value.slice s.markedA s.marked.length s.markedC)].toArray)] : List Value).toArray w (fun x_ w' => ∃ v_, x_ = .returned v_ ∧ (v_ = (Value.bool true) ∧ sat W0 [F] w')) := by
  refine W.enter Try.func3 rfl Try.ntmps3 (by simp) ?_
  refine W.seq ?_
  refine W.region ?_
  refine WL.cons rfl (OP.box (Value.agg [(Value.slice s.busyA s.busy.length s.busyC), (Value.slice s.failsA s.fails.length s.failsC), (Value.slice s.turnsA s.turns.length s.turnsC), (Value.int .i64 s.cut), (Value.slice s.tornA s.torn.length s.tornC), (Value.slice s.markedA s.marked.length s.markedC)].toArray) [(Value.slice s.busyA s.busy.length s.busyC), (Value.slice s.failsA s.fails.length s.failsC), (Value.slice s.turnsA s.turns.length s.turnsC), (Value.int .i64 s.cut), (Value.slice s.tornA s.torn.length s.tornC), (Value.slice s.markedA s.marked.length s.markedC)] hs rfl rfl (by decide) (fun b1 w2 hs3 => ?_))
  refine WL.cons rfl (OP.assign (Value.bool false) rfl (by decide) ?_)
  refine WL.nil (Qn.then ?_)
  refine W.seq ?_
  refine W.seq ?_
  refine W.region ?_
  have hs4 : sat W0 [stars [blk b1 [(Value.slice s.busyA s.busy.length s.busyC), (Value.slice s.failsA s.fails.length s.failsC), (Value.slice s.turnsA s.turns.length s.turnsC), (Value.int .i64 s.cut), (Value.slice s.tornA s.torn.length s.tornC), (Value.slice s.markedA s.marked.length s.markedC)] 26, F]] w2 := sat_pack' [] [blk b1 [(Value.slice s.busyA s.busy.length s.busyC), (Value.slice s.failsA s.fails.length s.failsC), (Value.slice s.turnsA s.turns.length s.turnsC), (Value.int .i64 s.cut), (Value.slice s.tornA s.torn.length s.tornC), (Value.slice s.markedA s.marked.length s.markedC)] 26, F] hs3 (by kernel_rfl) (by kernel_rfl)
  have hcl7 := law12_awake  hs4
  refine WL.cons rfl (?_)
  with_reducible refine OP.call [] gf_7 ?_ ?_ hcl7 ?_
  · exact rfl
  · decide
  clear hcl7
  rintro _ w5 ⟨_, rfl, rfl, hs6⟩
  refine ⟨_, rfl, ?_⟩
  have hs8 : sat W0 [blk b1 [(Value.slice s.busyA s.busy.length s.busyC), (Value.slice s.failsA s.fails.length s.failsC), (Value.slice s.turnsA s.turns.length s.turnsC), (Value.int .i64 s.cut), (Value.slice s.tornA s.torn.length s.tornC), (Value.slice s.markedA s.marked.length s.markedC)] 26, F] w5 := sat_flat' [] [blk b1 [(Value.slice s.busyA s.busy.length s.busyC), (Value.slice s.failsA s.fails.length s.failsC), (Value.slice s.turnsA s.turns.length s.turnsC), (Value.int .i64 s.cut), (Value.slice s.tornA s.torn.length s.tornC), (Value.slice s.markedA s.marked.length s.markedC)] 26, F] hs6 (by kernel_rfl) (by kernel_rfl)
  refine WL.cons rfl (OP.not rfl (by decide) ?_)
  refine WL.nil (Qn.then ?_)
  refine W.iteF rfl ?_
  refine W.skip (Qn.then ?_)
  refine W.seq ?_
  refine W.seq ?_
  refine W.region ?_
  refine WL.cons rfl (OP.loadA [(Value.slice s.busyA s.busy.length s.busyC), (Value.slice s.failsA s.fails.length s.failsC), (Value.slice s.turnsA s.turns.length s.turnsC), (Value.int .i64 s.cut), (Value.slice s.tornA s.torn.length s.tornC), (Value.slice s.markedA s.marked.length s.markedC)] ag_26 sz_26 rfl (sat_rdn 0 hs8 rfl rfl) (by decide) ?_)
  have hs9 : sat W0 [stars [blk b1 [(Value.slice s.busyA s.busy.length s.busyC), (Value.slice s.failsA s.fails.length s.failsC), (Value.slice s.turnsA s.turns.length s.turnsC), (Value.int .i64 s.cut), (Value.slice s.tornA s.torn.length s.tornC), (Value.slice s.markedA s.marked.length s.markedC)] 26, F]] w5 := sat_pack' [] [blk b1 [(Value.slice s.busyA s.busy.length s.busyC), (Value.slice s.failsA s.fails.length s.failsC), (Value.slice s.turnsA s.turns.length s.turnsC), (Value.int .i64 s.cut), (Value.slice s.tornA s.torn.length s.tornC), (Value.slice s.markedA s.marked.length s.markedC)] 26, F] hs8 (by kernel_rfl) (by kernel_rfl)
  have hcl12 := law12_Few s hs9
  refine WL.cons rfl (?_)
  with_reducible refine OP.call [(Value.agg [(Value.slice s.busyA s.busy.length s.busyC), (Value.slice s.failsA s.fails.length s.failsC), (Value.slice s.turnsA s.turns.length s.turnsC), (Value.int .i64 s.cut), (Value.slice s.tornA s.torn.length s.tornC), (Value.slice s.markedA s.marked.length s.markedC)].toArray)] gf_8 ?_ ?_ hcl12 ?_
  · exact rfl
  · decide
  clear hcl12
  rintro _ w10 ⟨_, rfl, rfl, hs11⟩
  refine ⟨_, rfl, ?_⟩
  have hs13 : sat W0 [blk b1 [(Value.slice s.busyA s.busy.length s.busyC), (Value.slice s.failsA s.fails.length s.failsC), (Value.slice s.turnsA s.turns.length s.turnsC), (Value.int .i64 s.cut), (Value.slice s.tornA s.torn.length s.tornC), (Value.slice s.markedA s.marked.length s.markedC)] 26, F] w10 := sat_flat' [] [blk b1 [(Value.slice s.busyA s.busy.length s.busyC), (Value.slice s.failsA s.fails.length s.failsC), (Value.slice s.turnsA s.turns.length s.turnsC), (Value.int .i64 s.cut), (Value.slice s.tornA s.torn.length s.tornC), (Value.slice s.markedA s.marked.length s.markedC)] 26, F] hs11 (by kernel_rfl) (by kernel_rfl)
  refine WL.cons rfl (OP.not rfl (by decide) ?_)
  refine WL.nil (Qn.then ?_)
  refine W.ite (b := !(fewB s)) rfl (fun hc14 => ?_) (fun hc14 => ?_)
  · refine W.seq ?_
    refine W.region ?_
    refine WL.cons rfl (OP.assign (Value.bool true) rfl (by decide) ?_)
    refine WL.nil (Qn.then ?_)
    refine W.ret (Qr.then (RetQ.of [(Value.bool true)] (.inr rfl) Try.results3 (.cons (.tmp (by decide) rfl) .nil) ?_))
    have hs16 : sat W0 [F] w10 := sat_sub' [1] [0] hs13 (by kernel_rfl) (by kernel_rfl)
    exact ⟨rfl, hs16⟩
  · refine W.skip (Qn.then ?_)
    refine W.seq ?_
    have hfew_ := fewB_true (by simpa using hc14)
    rcases Bool.eq_false_or_eq_true (rightB plainG s) with hR17 | hR17
    · refine W.draw (fun w => sat W0 [blk b1 [(Value.slice s.busyA s.busy.length s.busyC), (Value.slice s.failsA s.fails.length s.failsC), (Value.slice s.turnsA s.turns.length s.turnsC), (Value.int .i64 s.cut), (Value.slice s.tornA s.torn.length s.tornC), (Value.slice s.markedA s.marked.length s.markedC)] 26, F] w) (by kernel_rfl) hs13 (fun w18 hs19 => ?_)
      refine WA.take 1 rfl rfl rfl rfl (by kernel_rfl) (by kernel_rfl) (by kernel_rfl) ?_ (by decide) (v := (Value.agg [(Value.slice s.busyA s.busy.length s.busyC), (Value.slice s.failsA s.fails.length s.failsC), (Value.slice s.turnsA s.turns.length s.turnsC), (Value.int .i64 s.cut), (Value.slice s.tornA s.torn.length s.tornC), (Value.slice s.markedA s.marked.length s.markedC)].toArray)) (fun w21 hw20 => OP.loadA [(Value.slice s.busyA s.busy.length s.busyC), (Value.slice s.failsA s.fails.length s.failsC), (Value.slice s.turnsA s.turns.length s.turnsC), (Value.int .i64 s.cut), (Value.slice s.tornA s.torn.length s.tornC), (Value.slice s.markedA s.marked.length s.markedC)] ag_26 sz_26 rfl (sat_rdn 0 hw20 rfl rfl) (by decide) ⟨rfl, rfl⟩) ?_
      · exact hs19
      refine WA.all [0] (by kernel_rfl) (by simp) ?_
      refine WAs.cons (oi := (Go.Oper.mk (some 19) (Go.Op.call (Go.Call.mk (Go.Callee.value (Go.Operand.func 10)) #[] #[])) 34 "outright.go:16" #[] none)) rfl rfl ?_ ?_
      · have hs22 : sat W0 [stars [blk b1 [(Value.slice s.busyA s.busy.length s.busyC), (Value.slice s.failsA s.fails.length s.failsC), (Value.slice s.turnsA s.turns.length s.turnsC), (Value.int .i64 s.cut), (Value.slice s.tornA s.torn.length s.tornC), (Value.slice s.markedA s.marked.length s.markedC)] 26, F]] w18 := sat_pack' [] [blk b1 [(Value.slice s.busyA s.busy.length s.busyC), (Value.slice s.failsA s.fails.length s.failsC), (Value.slice s.turnsA s.turns.length s.turnsC), (Value.int .i64 s.cut), (Value.slice s.tornA s.torn.length s.tornC), (Value.slice s.markedA s.marked.length s.markedC)] 26, F] hs19 (by kernel_rfl) (by kernel_rfl)
        have hcl25 := law12_plain  hs22
        refine ?_
        with_reducible refine OP.call [] gf_10 ?_ ?_ hcl25 ?_
        · exact rfl
        · decide
        clear hcl25
        rintro _ w23 ⟨_, rfl, rfl, hs24⟩
        refine ⟨_, rfl, ?_⟩
        have hs26 : sat W0 [blk b1 [(Value.slice s.busyA s.busy.length s.busyC), (Value.slice s.failsA s.fails.length s.failsC), (Value.slice s.turnsA s.turns.length s.turnsC), (Value.int .i64 s.cut), (Value.slice s.tornA s.torn.length s.tornC), (Value.slice s.markedA s.marked.length s.markedC)] 26, F] w23 := sat_flat' [] [blk b1 [(Value.slice s.busyA s.busy.length s.busyC), (Value.slice s.failsA s.fails.length s.failsC), (Value.slice s.turnsA s.turns.length s.turnsC), (Value.int .i64 s.cut), (Value.slice s.tornA s.torn.length s.tornC), (Value.slice s.markedA s.marked.length s.markedC)] 26, F] hs24 (by kernel_rfl) (by kernel_rfl)
        refine ⟨?_, ?_⟩
        · exact hs26
        refine WA.all [2] (by kernel_rfl) (by simp) ?_
        refine WAs.cons (oi := (Go.Oper.mk (some 21) (Go.Op.call (Go.Call.mk (Go.Callee.value (Go.Operand.func 9)) #[(Go.Operand.tmp 19), (Go.Operand.tmp 20)] #[34, 26])) 31 "outright.go:16" #[(Go.Edge.mk 0 Go.Ground.data), (Go.Edge.mk 1 Go.Ground.data), (Go.Edge.mk 0 Go.Ground.chain)] none)) rfl rfl ?_ ?_
        · have hs27 : sat W0 [stars [blk b1 [(Value.slice s.busyA s.busy.length s.busyC), (Value.slice s.failsA s.fails.length s.failsC), (Value.slice s.turnsA s.turns.length s.turnsC), (Value.int .i64 s.cut), (Value.slice s.tornA s.torn.length s.tornC), (Value.slice s.markedA s.marked.length s.markedC)] 26, F]] w23 := sat_pack' [] [blk b1 [(Value.slice s.busyA s.busy.length s.busyC), (Value.slice s.failsA s.fails.length s.failsC), (Value.slice s.turnsA s.turns.length s.turnsC), (Value.int .i64 s.cut), (Value.slice s.tornA s.torn.length s.tornC), (Value.slice s.markedA s.marked.length s.markedC)] 26, F] hs26 (by kernel_rfl) (by kernel_rfl)
          have hcl31 := choice_New_ok plainG s (hS _) hL (by assumption) hs27
          refine ?_
          with_reducible refine OP.call [(Value.agg [(Value.int .i64 plainG.planes), (Value.int .i64 plainG.blocks), (Value.int .i64 plainG.pages), (Value.int .i64 plainG.chunks), (Value.int .i64 plainG.chunk), (Value.int .i64 plainG.rungs), (Value.int .i64 plainG.partials)].toArray), (Value.agg [(Value.slice s.busyA s.busy.length s.busyC), (Value.slice s.failsA s.fails.length s.failsC), (Value.slice s.turnsA s.turns.length s.turnsC), (Value.int .i64 s.cut), (Value.slice s.tornA s.torn.length s.tornC), (Value.slice s.markedA s.marked.length s.markedC)].toArray)] gf_9 ?_ ?_ hcl31 ?_
          · exact rfl
          · decide
          clear hcl31
          rintro _ w29 ⟨_, rfl, b_28, rfl, hs30⟩
          refine ⟨_, rfl, ?_⟩
          have hs32 : sat W0 [TellerRep b_28 s.busy s.fails s.torn s.turns 0 0, blk b1 [(Value.slice s.busyA s.busy.length s.busyC), (Value.slice s.failsA s.fails.length s.failsC), (Value.slice s.turnsA s.turns.length s.turnsC), (Value.int .i64 s.cut), (Value.slice s.tornA s.torn.length s.tornC), (Value.slice s.markedA s.marked.length s.markedC)] 26, F] w29 := sat_flat' [TellerRep b_28 s.busy s.fails s.torn s.turns 0 0] [blk b1 [(Value.slice s.busyA s.busy.length s.busyC), (Value.slice s.failsA s.fails.length s.failsC), (Value.slice s.turnsA s.turns.length s.turnsC), (Value.int .i64 s.cut), (Value.slice s.tornA s.torn.length s.tornC), (Value.slice s.markedA s.marked.length s.markedC)] 26, F] hs30 (by kernel_rfl) (by kernel_rfl)
          refine ⟨?_, ?_⟩
          · exact sat_sub' [1, 2] [0] hs32 (by kernel_rfl) (by kernel_rfl)
          refine WA.take 3 rfl rfl rfl rfl (by kernel_rfl) (by kernel_rfl) (by kernel_rfl) ?_ (by decide) (v := (Value.tuple #[(Value.pointer (some ⟨b_28, 0, none⟩)), (Value.int .i64 0)])) (fun w34 hw33 => OP.move (Value.tuple #[(Value.pointer (some ⟨b_28, 0, none⟩)), (Value.int .i64 0)]) rfl (by decide) ⟨rfl, rfl⟩) ?_
          · exact sat_sub' [1, 2] [0] hs32 (by kernel_rfl) (by kernel_rfl)
          refine WA.take 4 rfl rfl rfl rfl (by kernel_rfl) (by kernel_rfl) (by kernel_rfl) ?_ (by decide) (v := (Value.pointer (some ⟨b_28, 0, none⟩))) (fun w36 hw35 => OP.extract (Value.pointer (some ⟨b_28, 0, none⟩)) rfl rfl (by decide) ⟨rfl, rfl⟩) ?_
          · exact sat_sub' [1, 2] [0] hs32 (by kernel_rfl) (by kernel_rfl)
          refine WA.take 5 rfl rfl rfl rfl (by kernel_rfl) (by kernel_rfl) (by kernel_rfl) ?_ (by decide) (v := (Value.int .i64 0)) (fun w38 hw37 => OP.extract (Value.int .i64 0) rfl rfl (by decide) ⟨rfl, rfl⟩) ?_
          · exact sat_sub' [1, 2] [0] hs32 (by kernel_rfl) (by kernel_rfl)
          refine WA.take 6 rfl rfl rfl rfl (by kernel_rfl) (by kernel_rfl) (by kernel_rfl) ?_ (by decide) (v := (Value.pointer (some ⟨b_28, 0, none⟩))) (fun w40 hw39 => OP.assign (Value.pointer (some ⟨b_28, 0, none⟩)) rfl (by decide) ⟨rfl, rfl⟩) ?_
          · exact sat_sub' [1, 2] [0] hs32 (by kernel_rfl) (by kernel_rfl)
          refine WA.take 7 rfl rfl rfl rfl (by kernel_rfl) (by kernel_rfl) (by kernel_rfl) ?_ (by decide) (v := (Value.int .i64 0)) (fun w42 hw41 => OP.assign (Value.int .i64 0) rfl (by decide) ⟨rfl, rfl⟩) ?_
          · exact sat_sub' [1, 2] [0] hs32 (by kernel_rfl) (by kernel_rfl)
          refine WA.done (by kernel_rfl) ?_
          refine (Qn.then ?_)
          refine W.seq ?_
          refine W.seq ?_
          refine W.region ?_
          refine WL.cons rfl (OP.move (Value.int .i64 0) rfl (by decide) ?_)
          refine WL.cons rfl (OP.neI rfl rfl (by decide) ?_)
          refine WL.nil (Qn.then ?_)
          refine W.iteF rfl ?_
          refine W.skip (Qn.then ?_)
          refine W.seq ?_
          refine W.region ?_
          refine WL.cons rfl (OP.assign (Value.int .i64 0) rfl (by decide) ?_)
          refine WL.nil (Qn.then ?_)
          refine W.seq ?_
          refine W.seq ?_
          refine W.region ?_
          refine WL.cons rfl (OP.move (Value.int .i64 0) rfl (by decide) ?_)
          refine WL.nil (Qn.then ?_)
          refine W.block ?_
          refine W.loop (fun n_ e_ w_ => ∃ row : Nat, n_ = 16 - row ∧ e_ 1 = (Value.pointer (some ⟨b1, 0, none⟩)) ∧ e_ 3 = (Value.pointer (some ⟨b_28, 0, none⟩)) ∧ e_ 5 = (Value.int .i64 (cntRows s.turns ((row : Nat) : Int))) ∧ e_ 28 = (Value.int .i64 ((row : Nat) : Int)) ∧ row ≤ 16 ∧ sat W0 [TellerRep b_28 s.busy s.fails s.torn s.turns 0 0, blk b1 [(Value.slice s.busyA s.busy.length s.busyC), (Value.slice s.failsA s.fails.length s.failsC), (Value.slice s.turnsA s.turns.length s.turnsC), (Value.int .i64 s.cut), (Value.slice s.tornA s.torn.length s.tornC), (Value.slice s.markedA s.marked.length s.markedC)] 26, F] w_) (16 - 0) ⟨0, rfl, rfl, rfl, (Eq.trans (b := (Value.int .i64 0)) rfl (congrArg (Value.int .i64) (cntRows_zero s.turns).symm)), (Eq.trans (b := (Value.int .i64 0)) rfl (congrArg (Value.int .i64) (by first | rfl | omega | simp | (simp; omega)))), (by omega), hs32⟩ ?_
          rintro n43 e44 w45 ⟨row, hn47, he48, he49, he50, he51, hp52, hs46⟩
          have hcr_ := cntRows_le s.turns ((row : Nat) : Int)
          refine W.seq ?_
          refine W.region ?_
          refine WL.cons rfl (OP.lss he51 rfl (by decide) ?_)
          refine WL.nil (Qn.then ?_)
          refine W.seq ?_
          refine W.iteP (p := ((row : Nat) : Int) < 16) rfl (fun hc53 => ?_) (fun hc53 => ?_)
          · refine W.skip (Qn.then ?_)
            refine W.seq ?_
            refine W.block ?_
            refine W.seq ?_
            refine W.region ?_
            refine WL.cons rfl (OP.move (Value.int .i64 ((row : Nat) : Int)) he51 (by decide) ?_)
            refine WL.cons rfl (OP.assign (Value.int .i64 ((row : Nat) : Int)) rfl (by decide) ?_)
            refine WL.nil (Qn.then ?_)
            refine W.seq ?_
            refine W.region ?_
            refine WL.cons rfl (OP.move (Value.int .i64 0) rfl (by decide) ?_)
            refine WL.nil (Qn.then ?_)
            refine W.block ?_
            refine W.loop (fun n_ e_ w_ => ∃ rung : Nat, n_ = 2 - rung ∧ e_ 1 = (Value.pointer (some ⟨b1, 0, none⟩)) ∧ e_ 3 = (Value.pointer (some ⟨b_28, 0, none⟩)) ∧ e_ 5 = (Value.int .i64 (cntRows s.turns ((row : Nat) : Int) + cntRung s.turns ((row : Nat) : Int) ((rung : Nat) : Int))) ∧ e_ 6 = (Value.int .i64 ((row : Nat) : Int)) ∧ e_ 28 = (Value.int .i64 ((row : Nat) : Int)) ∧ e_ 29 = (Value.bool (decide (((row : Nat) : Int) < 16))) ∧ e_ 30 = (Value.int .i64 ((row : Nat) : Int)) ∧ e_ 31 = (Value.int .i64 ((rung : Nat) : Int)) ∧ rung ≤ 2 ∧ sat W0 [TellerRep b_28 s.busy s.fails s.torn s.turns 0 0, blk b1 [(Value.slice s.busyA s.busy.length s.busyC), (Value.slice s.failsA s.fails.length s.failsC), (Value.slice s.turnsA s.turns.length s.turnsC), (Value.int .i64 s.cut), (Value.slice s.tornA s.torn.length s.tornC), (Value.slice s.markedA s.marked.length s.markedC)] 26, F] w_) (2 - 0) ⟨0, rfl, he48, he49, (Eq.trans (b := (Value.int .i64 (cntRows s.turns ((row : Nat) : Int)))) he50 (congrArg (Value.int .i64) (cr_zero s.turns _))), rfl, he51, rfl, rfl, (Eq.trans (b := (Value.int .i64 0)) rfl (congrArg (Value.int .i64) (by first | rfl | omega | simp | (simp; omega)))), (by omega), hs46⟩ ?_
            rintro n54 e55 w56 ⟨rung, hn58, he59, he60, he61, he62, he63, he64, he65, he66, hp67, hs57⟩
            have hcg_ := cntRung_le s.turns ((row : Nat) : Int) ((rung : Nat) : Int)
            refine W.seq ?_
            refine W.region ?_
            refine WL.cons rfl (OP.lss he66 rfl (by decide) ?_)
            refine WL.nil (Qn.then ?_)
            refine W.seq ?_
            refine W.iteP (p := ((rung : Nat) : Int) < 2) rfl (fun hc68 => ?_) (fun hc68 => ?_)
            · refine W.skip (Qn.then ?_)
              refine W.seq ?_
              refine W.block ?_
              refine W.seq ?_
              refine W.region ?_
              refine WL.cons rfl (OP.move (Value.int .i64 ((rung : Nat) : Int)) he66 (by decide) ?_)
              refine WL.cons rfl (OP.assign (Value.int .i64 ((rung : Nat) : Int)) rfl (by decide) ?_)
              refine WL.nil (Qn.then ?_)
              refine W.seq ?_
              refine W.region ?_
              refine WL.cons rfl (OP.move (Value.pointer (some ⟨b_28, 0, none⟩)) he60 (by decide) ?_)
              refine WL.cons rfl (OP.move (Value.int .i64 ((row : Nat) : Int)) he62 (by decide) ?_)
              refine WL.cons rfl (OP.move (Value.int .i64 ((rung : Nat) : Int)) rfl (by decide) ?_)
              have hs69 : sat W0 [TellerRep b_28 s.busy s.fails s.torn s.turns 0 0, stars [blk b1 [(Value.slice s.busyA s.busy.length s.busyC), (Value.slice s.failsA s.fails.length s.failsC), (Value.slice s.turnsA s.turns.length s.turnsC), (Value.int .i64 s.cut), (Value.slice s.tornA s.torn.length s.tornC), (Value.slice s.markedA s.marked.length s.markedC)] 26, F]] w56 := sat_pack' [TellerRep b_28 s.busy s.fails s.torn s.turns 0 0] [blk b1 [(Value.slice s.busyA s.busy.length s.busyC), (Value.slice s.failsA s.fails.length s.failsC), (Value.slice s.turnsA s.turns.length s.turnsC), (Value.int .i64 s.cut), (Value.slice s.tornA s.torn.length s.tornC), (Value.slice s.markedA s.marked.length s.markedC)] 26, F] hs57 (by kernel_rfl) (by kernel_rfl)
              have hcl74 := Teller_Turns b_28 s.busy s.fails s.torn s.turns 0 0 ((row : Nat) : Int) ((rung : Nat) : Int) (by omega) hs69
              refine WL.cons rfl (?_)
              with_reducible refine OP.call [(Value.pointer (some ⟨b_28, 0, none⟩)), (Value.int .i64 ((row : Nat) : Int)), (Value.int .i64 ((rung : Nat) : Int))] gf_11 ?_ ?_ hcl74 ?_
              · exact rfl
              · decide
              clear hcl74
              rintro _ w72 ⟨_, rfl, a_70, c_71, rfl, hs73⟩
              refine ⟨_, rfl, ?_⟩
              have hs75 : sat W0 [TellerRep b_28 s.busy s.fails s.torn s.turns 0 0, SL false 1 a_70 ((bitsOf (((row : Nat) : Int), ((rung : Nat) : Int)) s.turns).length) c_71 ((bitsOf (((row : Nat) : Int), ((rung : Nat) : Int)) s.turns).map (Value.int .i64)), blk b1 [(Value.slice s.busyA s.busy.length s.busyC), (Value.slice s.failsA s.fails.length s.failsC), (Value.slice s.turnsA s.turns.length s.turnsC), (Value.int .i64 s.cut), (Value.slice s.tornA s.torn.length s.tornC), (Value.slice s.markedA s.marked.length s.markedC)] 26, F] w72 := sat_flat' [TellerRep b_28 s.busy s.fails s.torn s.turns 0 0, SL false 1 a_70 ((bitsOf (((row : Nat) : Int), ((rung : Nat) : Int)) s.turns).length) c_71 ((bitsOf (((row : Nat) : Int), ((rung : Nat) : Int)) s.turns).map (Value.int .i64))] [blk b1 [(Value.slice s.busyA s.busy.length s.busyC), (Value.slice s.failsA s.fails.length s.failsC), (Value.slice s.turnsA s.turns.length s.turnsC), (Value.int .i64 s.cut), (Value.slice s.tornA s.torn.length s.tornC), (Value.slice s.markedA s.marked.length s.markedC)] 26, F] hs73 (by kernel_rfl) (by kernel_rfl)
              refine WL.cons rfl (OP.len Try.underlying22 rfl rfl (by decide) ?_)
              refine WL.cons rfl (OP.move (Value.int .i64 0) rfl (by decide) ?_)
              refine WL.nil (Qn.then ?_)
              refine W.block ?_
              refine W.loop (fun n_ e_ w_ => ∃ j : Nat, n_ = (bitsOf (((row : Nat) : Int), ((rung : Nat) : Int)) s.turns).length - j ∧ e_ 1 = (Value.pointer (some ⟨b1, 0, none⟩)) ∧ e_ 3 = (Value.pointer (some ⟨b_28, 0, none⟩)) ∧ e_ 5 = (Value.int .i64 (cntRows s.turns ((row : Nat) : Int) + cntRung s.turns ((row : Nat) : Int) ((rung : Nat) : Int) + ((j : Nat) : Int))) ∧ e_ 6 = (Value.int .i64 ((row : Nat) : Int)) ∧ e_ 7 = (Value.int .i64 ((rung : Nat) : Int)) ∧ e_ 28 = (Value.int .i64 ((row : Nat) : Int)) ∧ e_ 29 = (Value.bool (decide (((row : Nat) : Int) < 16))) ∧ e_ 30 = (Value.int .i64 ((row : Nat) : Int)) ∧ e_ 31 = (Value.int .i64 ((rung : Nat) : Int)) ∧ e_ 32 = (Value.bool (decide (((rung : Nat) : Int) < 2))) ∧ e_ 33 = (Value.int .i64 ((rung : Nat) : Int)) ∧ e_ 34 = (Value.pointer (some ⟨b_28, 0, none⟩)) ∧ e_ 35 = (Value.int .i64 ((row : Nat) : Int)) ∧ e_ 36 = (Value.int .i64 ((rung : Nat) : Int)) ∧ e_ 37 = (Value.slice a_70 ((bitsOf (((row : Nat) : Int), ((rung : Nat) : Int)) s.turns).length) c_71) ∧ e_ 38 = (Value.int .i64 (((bitsOf (((row : Nat) : Int), ((rung : Nat) : Int)) s.turns).length : Nat) : Int)) ∧ e_ 39 = (Value.int .i64 ((j : Nat) : Int)) ∧ j ≤ (bitsOf (((row : Nat) : Int), ((rung : Nat) : Int)) s.turns).length ∧ sat W0 [TellerRep b_28 s.busy s.fails s.torn s.turns 0 0, SL false 1 a_70 ((bitsOf (((row : Nat) : Int), ((rung : Nat) : Int)) s.turns).length) c_71 ((bitsOf (((row : Nat) : Int), ((rung : Nat) : Int)) s.turns).map (Value.int .i64)), blk b1 [(Value.slice s.busyA s.busy.length s.busyC), (Value.slice s.failsA s.fails.length s.failsC), (Value.slice s.turnsA s.turns.length s.turnsC), (Value.int .i64 s.cut), (Value.slice s.tornA s.torn.length s.tornC), (Value.slice s.markedA s.marked.length s.markedC)] 26, F] w_) ((bitsOf (((row : Nat) : Int), ((rung : Nat) : Int)) s.turns).length - 0) ⟨0, rfl, he59, he60, (Eq.trans (b := (Value.int .i64 (cntRows s.turns ((row : Nat) : Int) + cntRung s.turns ((row : Nat) : Int) ((rung : Nat) : Int)))) he61 (congrArg (Value.int .i64) (by first | rfl | omega | simp | (simp; omega)))), he62, rfl, he63, he64, he65, he66, rfl, rfl, rfl, rfl, rfl, rfl, rfl, (Eq.trans (b := (Value.int .i64 0)) rfl (congrArg (Value.int .i64) (by first | rfl | omega | simp | (simp; omega)))), (by omega), hs75⟩ ?_
              rintro n76 e77 w78 ⟨j, hn80, he81, he82, he83, he84, he85, he86, he87, he88, he89, he90, he91, he92, he93, he94, he95, he96, he97, hp98, hs79⟩
              have hbl_ := bitsOf_length (((row : Nat) : Int), ((rung : Nat) : Int)) s.turns
              refine W.seq ?_
              refine W.region ?_
              refine WL.cons rfl (OP.lss he97 he96 (by decide) ?_)
              refine WL.nil (Qn.then ?_)
              refine W.seq ?_
              refine W.iteP (p := ((j : Nat) : Int) < (((bitsOf (((row : Nat) : Int), ((rung : Nat) : Int)) s.turns).length : Nat) : Int)) rfl (fun hc99 => ?_) (fun hc99 => ?_)
              · refine W.skip (Qn.then ?_)
                refine W.seq ?_
                refine W.block ?_
                refine W.seq ?_
                refine W.region ?_
                have hi41_ : j < (bitsOf (((row : Nat) : Int), ((rung : Nat) : Int)) s.turns).length := by omega
                refine WL.cons rfl (OP.indexR j (Ent_sat 1 rfl Ent_SL hs79) Try.underlying22 sz_3 he95 he97 rfl hi41_ (by decide) ?_)
                refine WL.cons rfl (OP.loadSR (Value.int .i64 ((bitsOf (((row : Nat) : Int), ((rung : Nat) : Int)) s.turns).getD j 0)) (Ent_sat 1 rfl Ent_SL hs79) (ints_get hi41_) sc_3 rfl (by decide) ?_)
                refine WL.cons rfl (OP.assign (Value.int .i64 ((bitsOf (((row : Nat) : Int), ((rung : Nat) : Int)) s.turns).getD j 0)) rfl (by decide) ?_)
                refine WL.nil (Qn.then ?_)
                refine W.seq ?_
                refine W.region ?_
                refine WL.cons rfl (OP.assign (Value.bool false) rfl (by decide) ?_)
                refine WL.nil (Qn.then ?_)
                refine W.seq ?_
                refine W.seq ?_
                refine W.region ?_
                refine WL.cons rfl (OP.fieldAddr 2 fo_26_2 he81 rfl (by decide) ?_)
                refine WL.cons rfl (OP.loadS (Value.slice s.turnsA s.turns.length s.turnsC) sc_23 rfl (sat_cell 2 hs79 rfl rfl) (by decide) ?_)
                refine WL.cons rfl (OP.len Try.underlying23 rfl rfl (by decide) ?_)
                refine WL.cons rfl (OP.move (Value.int .i64 0) rfl (by decide) ?_)
                refine WL.nil (Qn.then ?_)
                refine W.block ?_
                refine W.loop (fun n_ e_ w_ => ∃ m : Nat, n_ = s.turns.length - m ∧ e_ 1 = (Value.pointer (some ⟨b1, 0, none⟩)) ∧ e_ 3 = (Value.pointer (some ⟨b_28, 0, none⟩)) ∧ e_ 5 = (Value.int .i64 (cntRows s.turns ((row : Nat) : Int) + cntRung s.turns ((row : Nat) : Int) ((rung : Nat) : Int) + ((j : Nat) : Int))) ∧ e_ 6 = (Value.int .i64 ((row : Nat) : Int)) ∧ e_ 7 = (Value.int .i64 ((rung : Nat) : Int)) ∧ e_ 9 = (Value.int .i64 ((bitsOf (((row : Nat) : Int), ((rung : Nat) : Int)) s.turns).getD j 0)) ∧ e_ 10 = (Value.bool (foundB (s.turns.take m) ((row : Nat) : Int) ((rung : Nat) : Int) ((bitsOf (((row : Nat) : Int), ((rung : Nat) : Int)) s.turns).getD j 0))) ∧ e_ 28 = (Value.int .i64 ((row : Nat) : Int)) ∧ e_ 29 = (Value.bool (decide (((row : Nat) : Int) < 16))) ∧ e_ 30 = (Value.int .i64 ((row : Nat) : Int)) ∧ e_ 31 = (Value.int .i64 ((rung : Nat) : Int)) ∧ e_ 32 = (Value.bool (decide (((rung : Nat) : Int) < 2))) ∧ e_ 33 = (Value.int .i64 ((rung : Nat) : Int)) ∧ e_ 34 = (Value.pointer (some ⟨b_28, 0, none⟩)) ∧ e_ 35 = (Value.int .i64 ((row : Nat) : Int)) ∧ e_ 36 = (Value.int .i64 ((rung : Nat) : Int)) ∧ e_ 37 = (Value.slice a_70 ((bitsOf (((row : Nat) : Int), ((rung : Nat) : Int)) s.turns).length) c_71) ∧ e_ 38 = (Value.int .i64 (((bitsOf (((row : Nat) : Int), ((rung : Nat) : Int)) s.turns).length : Nat) : Int)) ∧ e_ 39 = (Value.int .i64 ((j : Nat) : Int)) ∧ e_ 40 = (Value.bool (decide (((j : Nat) : Int) < (((bitsOf (((row : Nat) : Int), ((rung : Nat) : Int)) s.turns).length : Nat) : Int)))) ∧ e_ 41 = (Value.pointer (some (adr a_70 (j * 1)))) ∧ e_ 42 = (Value.int .i64 ((bitsOf (((row : Nat) : Int), ((rung : Nat) : Int)) s.turns).getD j 0)) ∧ e_ 43 = (Value.pointer (some ⟨b1, 2, none⟩)) ∧ e_ 44 = (Value.slice s.turnsA s.turns.length s.turnsC) ∧ e_ 45 = (Value.int .i64 ((s.turns.length : Nat) : Int)) ∧ e_ 46 = (Value.int .i64 ((m : Nat) : Int)) ∧ m ≤ s.turns.length ∧ sat W0 [TellerRep b_28 s.busy s.fails s.torn s.turns 0 0, SL false 1 a_70 ((bitsOf (((row : Nat) : Int), ((rung : Nat) : Int)) s.turns).length) c_71 ((bitsOf (((row : Nat) : Int), ((rung : Nat) : Int)) s.turns).map (Value.int .i64)), blk b1 [(Value.slice s.busyA s.busy.length s.busyC), (Value.slice s.failsA s.fails.length s.failsC), (Value.slice s.turnsA s.turns.length s.turnsC), (Value.int .i64 s.cut), (Value.slice s.tornA s.torn.length s.tornC), (Value.slice s.markedA s.marked.length s.markedC)] 26, F] w_) (s.turns.length - 0) ⟨0, rfl, he81, he82, he83, he84, he85, rfl, (Eq.trans (b := (Value.bool false)) rfl (congrArg Value.bool (by first | rfl | assumption | simp_all))), he86, he87, he88, he89, he90, he91, he92, he93, he94, he95, he96, he97, rfl, rfl, rfl, rfl, rfl, rfl, (Eq.trans (b := (Value.int .i64 0)) rfl (congrArg (Value.int .i64) (by first | rfl | omega | simp | (simp; omega)))), (by omega), hs79⟩ ?_
                rintro n100 e101 w102 ⟨m, hn104, he105, he106, he107, he108, he109, he110, he111, he112, he113, he114, he115, he116, he117, he118, he119, he120, he121, he122, he123, he124, he125, he126, he127, he128, he129, he130, hp131, hs103⟩
                refine W.seq ?_
                refine W.region ?_
                refine WL.cons rfl (OP.lss he130 he129 (by decide) ?_)
                refine WL.nil (Qn.then ?_)
                refine W.seq ?_
                refine W.iteP (p := ((m : Nat) : Int) < ((s.turns.length : Nat) : Int)) rfl (fun hc132 => ?_) (fun hc132 => ?_)
                · refine W.skip (Qn.then ?_)
                  refine W.seq ?_
                  refine W.block ?_
                  refine W.seq ?_
                  refine W.region ?_
                  have hi48_ : m < s.turns.length := by omega
                  refine WL.cons rfl (OP.indexR m (Ent_sat 3 rfl (hS F).turns hs103) Try.underlying23 sz_38 he128 he130 rfl hi48_ (by decide) ?_)
                  refine WL.cons rfl (OP.loadAR (encTurn (s.turns.getD m default)) (Ent_sat 3 rfl (hS F).turns hs103) (recs_take (enc := encTurn) (fun _ => rfl) hi48_) ag_38 sz_38 rfl (by decide) ?_)
                  refine WL.cons rfl (OP.alloc _ [(Value.int .i64 0), (Value.int .i64 0), (Value.int .i64 0)] hs103 ze_38 rfl (by decide) (fun b133 w134 hs135 => ?_))
                  refine WL.cons rfl (OP.store (Value.agg [(Value.int .i64 ((s.turns.getD m default).row)), (Value.int .i64 ((s.turns.getD m default).rung)), (Value.int .i64 ((s.turns.getD m default).bit))].toArray) [(Value.int .i64 ((s.turns.getD m default).row)), (Value.int .i64 ((s.turns.getD m default).rung)), (Value.int .i64 ((s.turns.getD m default).bit))] hs135 rfl rfl rfl sz_38 rfl (by rfl) (by simp) (fun w136 hs137 => ?_))
                  have hs138 : sat W0 [blk b133 [(Value.int .i64 ((s.turns.getD m default).row)), (Value.int .i64 ((s.turns.getD m default).rung)), (Value.int .i64 ((s.turns.getD m default).bit))] 38, TellerRep b_28 s.busy s.fails s.torn s.turns 0 0, SL false 1 a_70 ((bitsOf (((row : Nat) : Int), ((rung : Nat) : Int)) s.turns).length) c_71 ((bitsOf (((row : Nat) : Int), ((rung : Nat) : Int)) s.turns).map (Value.int .i64)), blk b1 [(Value.slice s.busyA s.busy.length s.busyC), (Value.slice s.failsA s.fails.length s.failsC), (Value.slice s.turnsA s.turns.length s.turnsC), (Value.int .i64 s.cut), (Value.slice s.tornA s.torn.length s.tornC), (Value.slice s.markedA s.marked.length s.markedC)] 26, F] w136 := hs137
                  refine WL.nil (Qn.then ?_)
                  refine W.region ?_
                  refine WL.cons rfl (OP.move (Value.bool (foundB (s.turns.take m) ((row : Nat) : Int) ((rung : Nat) : Int) ((bitsOf (((row : Nat) : Int), ((rung : Nat) : Int)) s.turns).getD j 0))) he111 (by decide) ?_)
                  refine WL.cons rfl (OP.move (Value.bool (foundB (s.turns.take m) ((row : Nat) : Int) ((rung : Nat) : Int) ((bitsOf (((row : Nat) : Int), ((rung : Nat) : Int)) s.turns).getD j 0))) rfl (by decide) ?_)
                  rcases Bool.eq_false_or_eq_true (foundB (s.turns.take m) ((row : Nat) : Int) ((rung : Nat) : Int) ((bitsOf (((row : Nat) : Int), ((rung : Nat) : Int)) s.turns).getD j 0)) with hc139 | hc139
                  · refine WL.pass rfl rfl (Eq.trans (b := .bool (foundB (s.turns.take m) ((row : Nat) : Int) ((rung : Nat) : Int) ((bitsOf (((row : Nat) : Int), ((rung : Nat) : Int)) s.turns).getD j 0))) rfl (congrArg Value.bool (hc139))) rfl rfl (by decide) ?_
                    refine WL.pass rfl rfl (Eq.trans (b := .bool (foundB (s.turns.take m) ((row : Nat) : Int) ((rung : Nat) : Int) ((bitsOf (((row : Nat) : Int), ((rung : Nat) : Int)) s.turns).getD j 0))) rfl (congrArg Value.bool (hc139))) rfl rfl (by decide) ?_
                    refine WL.pass rfl rfl (Eq.trans (b := .bool (foundB (s.turns.take m) ((row : Nat) : Int) ((rung : Nat) : Int) ((bitsOf (((row : Nat) : Int), ((rung : Nat) : Int)) s.turns).getD j 0))) rfl (congrArg Value.bool (hc139))) rfl rfl (by decide) ?_
                    refine WL.pass rfl rfl (Eq.trans (b := .bool (foundB (s.turns.take m) ((row : Nat) : Int) ((rung : Nat) : Int) ((bitsOf (((row : Nat) : Int), ((rung : Nat) : Int)) s.turns).getD j 0))) rfl (congrArg Value.bool (hc139))) rfl rfl (by decide) ?_
                    refine WL.pass rfl rfl (Eq.trans (b := .bool (foundB (s.turns.take m) ((row : Nat) : Int) ((rung : Nat) : Int) ((bitsOf (((row : Nat) : Int), ((rung : Nat) : Int)) s.turns).getD j 0))) rfl (congrArg Value.bool (hc139))) rfl rfl (by decide) ?_
                    refine WL.pass rfl rfl (Eq.trans (b := .bool (foundB (s.turns.take m) ((row : Nat) : Int) ((rung : Nat) : Int) ((bitsOf (((row : Nat) : Int), ((rung : Nat) : Int)) s.turns).getD j 0))) rfl (congrArg Value.bool (hc139))) rfl rfl (by decide) ?_
                    refine WL.cons rfl (OP.pickT (Value.bool true) (Eq.trans (b := .bool (foundB (s.turns.take m) ((row : Nat) : Int) ((rung : Nat) : Int) ((bitsOf (((row : Nat) : Int), ((rung : Nat) : Int)) s.turns).getD j 0))) rfl (congrArg Value.bool (hc139))) rfl (by decide) ?_)
                    refine WL.cons rfl (OP.assign (Value.bool true) rfl (by decide) ?_)
                    refine WL.nil (Qn.blk (Qn.then ?_))
                    refine W.region ?_
                    refine WL.cons rfl (OP.add ((m + 1 : Nat) : Int) he130 rfl (by first | rfl | omega | simp) (by unfold inI64; omega) (by decide) ?_)
                    refine WL.cons rfl (OP.move (Value.int .i64 ((m + 1 : Nat) : Int)) rfl (by decide) ?_)
                    refine WL.nil (Qn.then ?_)
                    have hs140 : sat W0 [TellerRep b_28 s.busy s.fails s.torn s.turns 0 0, SL false 1 a_70 ((bitsOf (((row : Nat) : Int), ((rung : Nat) : Int)) s.turns).length) c_71 ((bitsOf (((row : Nat) : Int), ((rung : Nat) : Int)) s.turns).map (Value.int .i64)), blk b1 [(Value.slice s.busyA s.busy.length s.busyC), (Value.slice s.failsA s.fails.length s.failsC), (Value.slice s.turnsA s.turns.length s.turnsC), (Value.int .i64 s.cut), (Value.slice s.tornA s.torn.length s.tornC), (Value.slice s.markedA s.marked.length s.markedC)] 26, F] w136 := sat_sub' [1, 2, 3, 4] [0] hs138 (by kernel_rfl) (by kernel_rfl)
                    exact ⟨_, (by omega), (m + 1), rfl, he105, he106, he107, he108, he109, he110, (Eq.trans (b := (Value.bool true)) rfl (congrArg Value.bool (by first | exact found_true (by omega) (by assumption) | exact found_next (by omega) (by assumption)))), he112, he113, he114, he115, he116, he117, he118, he119, he120, he121, he122, he123, he124, he125, he126, he127, he128, he129, (Eq.trans (b := (Value.int .i64 ((m + 1 : Nat) : Int))) rfl (congrArg (Value.int .i64) (by first | rfl | omega | simp | (simp; omega)))), (by omega), hs140⟩
                  · refine WL.consG rfl rfl (Eq.trans (b := .bool (foundB (s.turns.take m) ((row : Nat) : Int) ((rung : Nat) : Int) ((bitsOf (((row : Nat) : Int), ((rung : Nat) : Int)) s.turns).getD j 0))) rfl (congrArg Value.bool (hc139))) (OP.loadA [(Value.int .i64 ((s.turns.getD m default).row)), (Value.int .i64 ((s.turns.getD m default).rung)), (Value.int .i64 ((s.turns.getD m default).bit))] ag_38 sz_38 rfl (sat_rdn 0 hs138 rfl rfl) (by decide) ?_)
                    refine WL.consG rfl rfl (Eq.trans (b := .bool (foundB (s.turns.take m) ((row : Nat) : Int) ((rung : Nat) : Int) ((bitsOf (((row : Nat) : Int), ((rung : Nat) : Int)) s.turns).getD j 0))) rfl (congrArg Value.bool (hc139))) (OP.move (Value.int .i64 ((row : Nat) : Int)) he108 (by decide) ?_)
                    refine WL.consG rfl rfl (Eq.trans (b := .bool (foundB (s.turns.take m) ((row : Nat) : Int) ((rung : Nat) : Int) ((bitsOf (((row : Nat) : Int), ((rung : Nat) : Int)) s.turns).getD j 0))) rfl (congrArg Value.bool (hc139))) (OP.move (Value.int .i64 ((rung : Nat) : Int)) he109 (by decide) ?_)
                    refine WL.consG rfl rfl (Eq.trans (b := .bool (foundB (s.turns.take m) ((row : Nat) : Int) ((rung : Nat) : Int) ((bitsOf (((row : Nat) : Int), ((rung : Nat) : Int)) s.turns).getD j 0))) rfl (congrArg Value.bool (hc139))) (OP.move (Value.int .i64 ((bitsOf (((row : Nat) : Int), ((rung : Nat) : Int)) s.turns).getD j 0)) he110 (by decide) ?_)
                    refine WL.consG rfl rfl (Eq.trans (b := .bool (foundB (s.turns.take m) ((row : Nat) : Int) ((rung : Nat) : Int) ((bitsOf (((row : Nat) : Int), ((rung : Nat) : Int)) s.turns).getD j 0))) rfl (congrArg Value.bool (hc139))) (OP.build [(0, (Value.int .i64 ((row : Nat) : Int))), (1, (Value.int .i64 ((rung : Nat) : Int))), (2, (Value.int .i64 ((bitsOf (((row : Nat) : Int), ((rung : Nat) : Int)) s.turns).getD j 0)))] [(Value.int .i64 ((row : Nat) : Int)), (Value.int .i64 ((rung : Nat) : Int)), (Value.int .i64 ((bitsOf (((row : Nat) : Int), ((rung : Nat) : Int)) s.turns).getD j 0))] rfl (by kernel_rfl) (by decide) ?_)
                    refine WL.consG rfl rfl (Eq.trans (b := .bool (foundB (s.turns.take m) ((row : Nat) : Int) ((rung : Nat) : Int) ((bitsOf (((row : Nat) : Int), ((rung : Nat) : Int)) s.turns).getD j 0))) rfl (congrArg Value.bool (hc139))) (OP.eqStruct (kd := .i64) [(s.turns.getD m default).row, (s.turns.getD m default).rung, (s.turns.getD m default).bit] [((row : Nat) : Int), ((rung : Nat) : Int), (bitsOf (((row : Nat) : Int), ((rung : Nat) : Int)) s.turns).getD j 0] ei_38 sz_38 rfl rfl (fun fs_ h_ => by rw [Try.underlying38] at h_; cases h_; rfl) rfl rfl (by decide) ?_)
                    refine WL.cons rfl (OP.pickF (Value.bool (decide ([(s.turns.getD m default).row, (s.turns.getD m default).rung, (s.turns.getD m default).bit] = [((row : Nat) : Int), ((rung : Nat) : Int), (bitsOf (((row : Nat) : Int), ((rung : Nat) : Int)) s.turns).getD j 0]))) (Eq.trans (b := .bool (foundB (s.turns.take m) ((row : Nat) : Int) ((rung : Nat) : Int) ((bitsOf (((row : Nat) : Int), ((rung : Nat) : Int)) s.turns).getD j 0))) rfl (congrArg Value.bool (hc139))) rfl (by decide) ?_)
                    refine WL.cons rfl (OP.assign (Value.bool (decide ([(s.turns.getD m default).row, (s.turns.getD m default).rung, (s.turns.getD m default).bit] = [((row : Nat) : Int), ((rung : Nat) : Int), (bitsOf (((row : Nat) : Int), ((rung : Nat) : Int)) s.turns).getD j 0]))) rfl (by decide) ?_)
                    refine WL.nil (Qn.blk (Qn.then ?_))
                    refine W.region ?_
                    refine WL.cons rfl (OP.add ((m + 1 : Nat) : Int) he130 rfl (by first | rfl | omega | simp) (by unfold inI64; omega) (by decide) ?_)
                    refine WL.cons rfl (OP.move (Value.int .i64 ((m + 1 : Nat) : Int)) rfl (by decide) ?_)
                    refine WL.nil (Qn.then ?_)
                    have hs141 : sat W0 [TellerRep b_28 s.busy s.fails s.torn s.turns 0 0, SL false 1 a_70 ((bitsOf (((row : Nat) : Int), ((rung : Nat) : Int)) s.turns).length) c_71 ((bitsOf (((row : Nat) : Int), ((rung : Nat) : Int)) s.turns).map (Value.int .i64)), blk b1 [(Value.slice s.busyA s.busy.length s.busyC), (Value.slice s.failsA s.fails.length s.failsC), (Value.slice s.turnsA s.turns.length s.turnsC), (Value.int .i64 s.cut), (Value.slice s.tornA s.torn.length s.tornC), (Value.slice s.markedA s.marked.length s.markedC)] 26, F] w136 := sat_sub' [1, 2, 3, 4] [0] hs138 (by kernel_rfl) (by kernel_rfl)
                    exact ⟨_, (by omega), (m + 1), rfl, he105, he106, he107, he108, he109, he110, (Eq.trans (b := (Value.bool (decide ([(s.turns.getD m default).row, (s.turns.getD m default).rung, (s.turns.getD m default).bit] = [((row : Nat) : Int), ((rung : Nat) : Int), (bitsOf (((row : Nat) : Int), ((rung : Nat) : Int)) s.turns).getD j 0])))) rfl (congrArg Value.bool (by first | exact found_true (by omega) (by assumption) | exact found_next (by omega) (by assumption)))), he112, he113, he114, he115, he116, he117, he118, he119, he120, he121, he122, he123, he124, he125, he126, he127, he128, he129, (Eq.trans (b := (Value.int .i64 ((m + 1 : Nat) : Int))) rfl (congrArg (Value.int .i64) (by first | rfl | omega | simp | (simp; omega)))), (by omega), hs141⟩
                · refine W.exit (Qx.then (Qx.then (Qx.hit (Qn.then ?_))))
                  refine W.seq ?_
                  refine W.seq ?_
                  refine W.region ?_
                  refine WL.cons rfl (OP.move (Value.bool (foundB (s.turns.take m) ((row : Nat) : Int) ((rung : Nat) : Int) ((bitsOf (((row : Nat) : Int), ((rung : Nat) : Int)) s.turns).getD j 0))) he111 (by decide) ?_)
                  refine WL.cons rfl (OP.not rfl (by decide) ?_)
                  refine WL.nil (Qn.then ?_)
                  refine W.ite (b := !(foundB (s.turns.take m) ((row : Nat) : Int) ((rung : Nat) : Int) ((bitsOf (((row : Nat) : Int), ((rung : Nat) : Int)) s.turns).getD j 0))) rfl (fun hc142 => ?_) (fun hc142 => ?_)
                  · refine W.seq ?_
                    exact absurd (found_all (r := ((row : Nat) : Int)) (g := ((rung : Nat) : Int)) (j := j) (by omega)) (found_not (m := m) (by omega) hc142)
                  · refine W.skip (Qn.then ?_)
                    refine W.region ?_
                    refine WL.cons rfl (OP.move (Value.int .i64 (cntRows s.turns ((row : Nat) : Int) + cntRung s.turns ((row : Nat) : Int) ((rung : Nat) : Int) + ((j : Nat) : Int))) he107 (by decide) ?_)
                    refine WL.cons rfl (OP.add ((cntRows s.turns ((row : Nat) : Int) + cntRung s.turns ((row : Nat) : Int) ((rung : Nat) : Int) + ((j : Nat) : Int)) + 1) rfl rfl (by first | rfl | omega | simp) (by unfold inI64; omega) (by decide) ?_)
                    refine WL.cons rfl (OP.assign (Value.int .i64 ((cntRows s.turns ((row : Nat) : Int) + cntRung s.turns ((row : Nat) : Int) ((rung : Nat) : Int) + ((j : Nat) : Int)) + 1)) rfl (by decide) ?_)
                    refine WL.nil (Qn.blk (Qn.then ?_))
                    refine W.region ?_
                    refine WL.cons rfl (OP.add ((j + 1 : Nat) : Int) he123 rfl (by first | rfl | omega | simp) (by unfold inI64; omega) (by decide) ?_)
                    refine WL.cons rfl (OP.move (Value.int .i64 ((j + 1 : Nat) : Int)) rfl (by decide) ?_)
                    refine WL.nil (Qn.then ?_)
                    exact ⟨_, (by omega), (j + 1), rfl, he105, he106, (Eq.trans (b := (Value.int .i64 ((cntRows s.turns ((row : Nat) : Int) + cntRung s.turns ((row : Nat) : Int) ((rung : Nat) : Int) + ((j : Nat) : Int)) + 1))) rfl (congrArg (Value.int .i64) (by first | rfl | omega | simp | (simp; omega)))), he108, he109, he112, he113, he114, he115, he116, he117, he118, he119, he120, he121, he122, (Eq.trans (b := (Value.int .i64 ((j + 1 : Nat) : Int))) rfl (congrArg (Value.int .i64) (by first | rfl | omega | simp | (simp; omega)))), (by omega), hs103⟩
              · refine W.exit (Qx.then (Qx.then (Qx.hit (Qn.blk (Qn.then ?_)))))
                refine W.region ?_
                refine WL.cons rfl (OP.add ((rung + 1 : Nat) : Int) he89 rfl (by first | rfl | omega | simp) (by unfold inI64; omega) (by decide) ?_)
                refine WL.cons rfl (OP.move (Value.int .i64 ((rung + 1 : Nat) : Int)) rfl (by decide) ?_)
                refine WL.nil (Qn.then ?_)
                have hs143 : sat W0 [TellerRep b_28 s.busy s.fails s.torn s.turns 0 0, blk b1 [(Value.slice s.busyA s.busy.length s.busyC), (Value.slice s.failsA s.fails.length s.failsC), (Value.slice s.turnsA s.turns.length s.turnsC), (Value.int .i64 s.cut), (Value.slice s.tornA s.torn.length s.tornC), (Value.slice s.markedA s.marked.length s.markedC)] 26, F] w78 := sat_sub' [0, 2, 3] [1] hs79 (by kernel_rfl) (by kernel_rfl)
                exact ⟨_, (by omega), (rung + 1), rfl, he81, he82, (Eq.trans (b := (Value.int .i64 (cntRows s.turns ((row : Nat) : Int) + cntRung s.turns ((row : Nat) : Int) ((rung : Nat) : Int) + ((j : Nat) : Int)))) he83 (congrArg (Value.int .i64) (by rw [cntRung_succ]; omega))), he84, he86, he87, he88, (Eq.trans (b := (Value.int .i64 ((rung + 1 : Nat) : Int))) rfl (congrArg (Value.int .i64) (by first | rfl | omega | simp | (simp; omega)))), (by omega), hs143⟩
            · refine W.exit (Qx.then (Qx.then (Qx.hit (Qn.blk (Qn.then ?_)))))
              refine W.region ?_
              refine WL.cons rfl (OP.add ((row + 1 : Nat) : Int) he63 rfl (by first | rfl | omega | simp) (by unfold inI64; omega) (by decide) ?_)
              refine WL.cons rfl (OP.move (Value.int .i64 ((row + 1 : Nat) : Int)) rfl (by decide) ?_)
              refine WL.nil (Qn.then ?_)
              exact ⟨_, (by omega), (row + 1), rfl, he59, he60, (Eq.trans (b := (Value.int .i64 (cntRows s.turns ((row : Nat) : Int) + cntRung s.turns ((row : Nat) : Int) ((rung : Nat) : Int)))) he61 (congrArg (Value.int .i64) (by rw [cntRows_succ, show ((rung : Nat) : Int) = 2 by omega]))), (Eq.trans (b := (Value.int .i64 ((row + 1 : Nat) : Int))) rfl (congrArg (Value.int .i64) (by first | rfl | omega | simp | (simp; omega)))), (by omega), hs57⟩
          · refine W.exit (Qx.then (Qx.then (Qx.hit (Qn.then ?_))))
            refine W.seq ?_
            refine W.region ?_
            refine WL.cons rfl (OP.move (Value.int .i64 (cntRows s.turns ((row : Nat) : Int))) he50 (by decide) ?_)
            refine WL.cons rfl (OP.fieldAddr 2 fo_26_2 he48 rfl (by decide) ?_)
            refine WL.cons rfl (OP.loadS (Value.slice s.turnsA s.turns.length s.turnsC) sc_23 rfl (sat_cell 1 hs46 rfl rfl) (by decide) ?_)
            refine WL.cons rfl (OP.len Try.underlying23 rfl rfl (by decide) ?_)
            refine WL.cons rfl (OP.eqI rfl rfl (by decide) ?_)
            refine WL.cons rfl (OP.move (Value.bool (decide (cntRows s.turns ((row : Nat) : Int) = ((s.turns.length : Nat) : Int)))) rfl (by decide) ?_)
            by_cases hc144 : cntRows s.turns ((row : Nat) : Int) = ((s.turns.length : Nat) : Int)
            · refine WL.consG rfl rfl (Eq.trans (b := .bool (decide (cntRows s.turns ((row : Nat) : Int) = ((s.turns.length : Nat) : Int)))) rfl (congrArg Value.bool (decide_eq_true hc144))) (OP.move (Value.pointer (some ⟨b_28, 0, none⟩)) he49 (by decide) ?_)
              have hs145 : sat W0 [TellerRep b_28 s.busy s.fails s.torn s.turns 0 0, stars [blk b1 [(Value.slice s.busyA s.busy.length s.busyC), (Value.slice s.failsA s.fails.length s.failsC), (Value.slice s.turnsA s.turns.length s.turnsC), (Value.int .i64 s.cut), (Value.slice s.tornA s.torn.length s.tornC), (Value.slice s.markedA s.marked.length s.markedC)] 26, F]] w45 := sat_pack' [TellerRep b_28 s.busy s.fails s.torn s.turns 0 0] [blk b1 [(Value.slice s.busyA s.busy.length s.busyC), (Value.slice s.failsA s.fails.length s.failsC), (Value.slice s.turnsA s.turns.length s.turnsC), (Value.int .i64 s.cut), (Value.slice s.tornA s.torn.length s.tornC), (Value.slice s.markedA s.marked.length s.markedC)] 26, F] hs46 (by kernel_rfl) (by kernel_rfl)
              have hcl150 := Teller_Turns b_28 s.busy s.fails s.torn s.turns 0 0 16 0 (by omega) hs145
              refine WL.consG rfl rfl (Eq.trans (b := .bool (decide (cntRows s.turns ((row : Nat) : Int) = ((s.turns.length : Nat) : Int)))) rfl (congrArg Value.bool (decide_eq_true hc144))) (?_)
              with_reducible refine OP.call [(Value.pointer (some ⟨b_28, 0, none⟩)), (Value.int .i64 16), (Value.int .i64 0)] gf_11 ?_ ?_ hcl150 ?_
              · exact rfl
              · decide
              clear hcl150
              rintro _ w148 ⟨_, rfl, a_146, c_147, rfl, hs149⟩
              refine ⟨_, rfl, ?_⟩
              have hs151 : sat W0 [TellerRep b_28 s.busy s.fails s.torn s.turns 0 0, SL false 1 a_146 ((bitsOf (16, 0) s.turns).length) c_147 ((bitsOf (16, 0) s.turns).map (Value.int .i64)), blk b1 [(Value.slice s.busyA s.busy.length s.busyC), (Value.slice s.failsA s.fails.length s.failsC), (Value.slice s.turnsA s.turns.length s.turnsC), (Value.int .i64 s.cut), (Value.slice s.tornA s.torn.length s.tornC), (Value.slice s.markedA s.marked.length s.markedC)] 26, F] w148 := sat_flat' [TellerRep b_28 s.busy s.fails s.torn s.turns 0 0, SL false 1 a_146 ((bitsOf (16, 0) s.turns).length) c_147 ((bitsOf (16, 0) s.turns).map (Value.int .i64))] [blk b1 [(Value.slice s.busyA s.busy.length s.busyC), (Value.slice s.failsA s.fails.length s.failsC), (Value.slice s.turnsA s.turns.length s.turnsC), (Value.int .i64 s.cut), (Value.slice s.tornA s.torn.length s.tornC), (Value.slice s.markedA s.marked.length s.markedC)] 26, F] hs149 (by kernel_rfl) (by kernel_rfl)
              refine WL.consG rfl rfl (Eq.trans (b := .bool (decide (cntRows s.turns ((row : Nat) : Int) = ((s.turns.length : Nat) : Int)))) rfl (congrArg Value.bool (decide_eq_true hc144))) (OP.len Try.underlying22 rfl rfl (by decide) ?_)
              refine WL.consG rfl rfl (Eq.trans (b := .bool (decide (cntRows s.turns ((row : Nat) : Int) = ((s.turns.length : Nat) : Int)))) rfl (congrArg Value.bool (decide_eq_true hc144))) (OP.eqI rfl rfl (by decide) ?_)
              refine WL.cons rfl (OP.pickT (Value.bool (decide ((((bitsOf (16, 0) s.turns).length : Nat) : Int) = 0))) (Eq.trans (b := .bool (decide (cntRows s.turns ((row : Nat) : Int) = ((s.turns.length : Nat) : Int)))) rfl (congrArg Value.bool (decide_eq_true hc144))) rfl (by decide) ?_)
              refine WL.cons rfl (OP.move (Value.bool (decide ((((bitsOf (16, 0) s.turns).length : Nat) : Int) = 0))) rfl (by decide) ?_)
              by_cases hc152 : (((bitsOf (16, 0) s.turns).length : Nat) : Int) = 0
              · refine WL.consG rfl rfl (Eq.trans (b := .bool (decide ((((bitsOf (16, 0) s.turns).length : Nat) : Int) = 0))) rfl (congrArg Value.bool (decide_eq_true hc152))) (OP.move (Value.pointer (some ⟨b_28, 0, none⟩)) he49 (by decide) ?_)
                have hs153 : sat W0 [TellerRep b_28 s.busy s.fails s.torn s.turns 0 0, stars [SL false 1 a_146 ((bitsOf (16, 0) s.turns).length) c_147 ((bitsOf (16, 0) s.turns).map (Value.int .i64)), blk b1 [(Value.slice s.busyA s.busy.length s.busyC), (Value.slice s.failsA s.fails.length s.failsC), (Value.slice s.turnsA s.turns.length s.turnsC), (Value.int .i64 s.cut), (Value.slice s.tornA s.torn.length s.tornC), (Value.slice s.markedA s.marked.length s.markedC)] 26, F]] w148 := sat_pack' [TellerRep b_28 s.busy s.fails s.torn s.turns 0 0] [SL false 1 a_146 ((bitsOf (16, 0) s.turns).length) c_147 ((bitsOf (16, 0) s.turns).map (Value.int .i64)), blk b1 [(Value.slice s.busyA s.busy.length s.busyC), (Value.slice s.failsA s.fails.length s.failsC), (Value.slice s.turnsA s.turns.length s.turnsC), (Value.int .i64 s.cut), (Value.slice s.tornA s.torn.length s.tornC), (Value.slice s.markedA s.marked.length s.markedC)] 26, F] hs151 (by kernel_rfl) (by kernel_rfl)
                have hcl158 := Teller_Turns b_28 s.busy s.fails s.torn s.turns 0 0 (-1) 0 (by omega) hs153
                refine WL.consG rfl rfl (Eq.trans (b := .bool (decide ((((bitsOf (16, 0) s.turns).length : Nat) : Int) = 0))) rfl (congrArg Value.bool (decide_eq_true hc152))) (?_)
                with_reducible refine OP.call [(Value.pointer (some ⟨b_28, 0, none⟩)), (Value.int .i64 (-1)), (Value.int .i64 0)] gf_11 ?_ ?_ hcl158 ?_
                · exact rfl
                · decide
                clear hcl158
                rintro _ w156 ⟨_, rfl, a_154, c_155, rfl, hs157⟩
                refine ⟨_, rfl, ?_⟩
                have hs159 : sat W0 [TellerRep b_28 s.busy s.fails s.torn s.turns 0 0, SL false 1 a_154 ((bitsOf ((-1), 0) s.turns).length) c_155 ((bitsOf ((-1), 0) s.turns).map (Value.int .i64)), SL false 1 a_146 ((bitsOf (16, 0) s.turns).length) c_147 ((bitsOf (16, 0) s.turns).map (Value.int .i64)), blk b1 [(Value.slice s.busyA s.busy.length s.busyC), (Value.slice s.failsA s.fails.length s.failsC), (Value.slice s.turnsA s.turns.length s.turnsC), (Value.int .i64 s.cut), (Value.slice s.tornA s.torn.length s.tornC), (Value.slice s.markedA s.marked.length s.markedC)] 26, F] w156 := sat_flat' [TellerRep b_28 s.busy s.fails s.torn s.turns 0 0, SL false 1 a_154 ((bitsOf ((-1), 0) s.turns).length) c_155 ((bitsOf ((-1), 0) s.turns).map (Value.int .i64))] [SL false 1 a_146 ((bitsOf (16, 0) s.turns).length) c_147 ((bitsOf (16, 0) s.turns).map (Value.int .i64)), blk b1 [(Value.slice s.busyA s.busy.length s.busyC), (Value.slice s.failsA s.fails.length s.failsC), (Value.slice s.turnsA s.turns.length s.turnsC), (Value.int .i64 s.cut), (Value.slice s.tornA s.torn.length s.tornC), (Value.slice s.markedA s.marked.length s.markedC)] 26, F] hs157 (by kernel_rfl) (by kernel_rfl)
                refine WL.consG rfl rfl (Eq.trans (b := .bool (decide ((((bitsOf (16, 0) s.turns).length : Nat) : Int) = 0))) rfl (congrArg Value.bool (decide_eq_true hc152))) (OP.len Try.underlying22 rfl rfl (by decide) ?_)
                refine WL.consG rfl rfl (Eq.trans (b := .bool (decide ((((bitsOf (16, 0) s.turns).length : Nat) : Int) = 0))) rfl (congrArg Value.bool (decide_eq_true hc152))) (OP.eqI rfl rfl (by decide) ?_)
                refine WL.cons rfl (OP.pickT (Value.bool (decide ((((bitsOf ((-1), 0) s.turns).length : Nat) : Int) = 0))) (Eq.trans (b := .bool (decide ((((bitsOf (16, 0) s.turns).length : Nat) : Int) = 0))) rfl (congrArg Value.bool (decide_eq_true hc152))) rfl (by decide) ?_)
                refine WL.cons rfl (OP.assign (Value.bool (decide ((((bitsOf ((-1), 0) s.turns).length : Nat) : Int) = 0))) rfl (by decide) ?_)
                refine WL.nil (Qn.then ?_)
                refine W.ret (RetQ.of [(Value.bool (decide ((((bitsOf ((-1), 0) s.turns).length : Nat) : Int) = 0)))] (.inr rfl) Try.results3 (.cons (.tmp (by decide) rfl) .nil) ?_)
                have hs161 : sat W0 [F] w156 := sat_sub' [4] [0, 1, 2, 3] hs159 (by kernel_rfl) (by kernel_rfl)
                exact ⟨(by first | rfl | exact absurd (by first | exact (by rw [show ((row : Nat) : Int) = 16 by omega]; exact cntRows_all (by assumption)) | (rw [bitsOf_out (by assumption) (by omega)]; rfl)) hc152 | (rw [bitsOf_out (by assumption) (by omega)]; rfl)), hs161⟩
              · refine WL.pass rfl rfl (Eq.trans (b := .bool (decide ((((bitsOf (16, 0) s.turns).length : Nat) : Int) = 0))) rfl (congrArg Value.bool (decide_eq_false hc152))) rfl rfl (by decide) ?_
                refine WL.pass rfl rfl (Eq.trans (b := .bool (decide ((((bitsOf (16, 0) s.turns).length : Nat) : Int) = 0))) rfl (congrArg Value.bool (decide_eq_false hc152))) rfl rfl (by decide) ?_
                refine WL.pass rfl rfl (Eq.trans (b := .bool (decide ((((bitsOf (16, 0) s.turns).length : Nat) : Int) = 0))) rfl (congrArg Value.bool (decide_eq_false hc152))) rfl rfl (by decide) ?_
                refine WL.pass rfl rfl (Eq.trans (b := .bool (decide ((((bitsOf (16, 0) s.turns).length : Nat) : Int) = 0))) rfl (congrArg Value.bool (decide_eq_false hc152))) rfl rfl (by decide) ?_
                refine WL.cons rfl (OP.pickF (Value.bool false) (Eq.trans (b := .bool (decide ((((bitsOf (16, 0) s.turns).length : Nat) : Int) = 0))) rfl (congrArg Value.bool (decide_eq_false hc152))) rfl (by decide) ?_)
                refine WL.cons rfl (OP.assign (Value.bool false) rfl (by decide) ?_)
                refine WL.nil (Qn.then ?_)
                refine W.ret (RetQ.of [(Value.bool false)] (.inr rfl) Try.results3 (.cons (.tmp (by decide) rfl) .nil) ?_)
                have hs163 : sat W0 [F] w148 := sat_sub' [3] [0, 1, 2] hs151 (by kernel_rfl) (by kernel_rfl)
                exact ⟨(by first | rfl | exact absurd (by first | exact (by rw [show ((row : Nat) : Int) = 16 by omega]; exact cntRows_all (by assumption)) | (rw [bitsOf_out (by assumption) (by omega)]; rfl)) hc152 | (rw [bitsOf_out (by assumption) (by omega)]; rfl)), hs163⟩
            · refine WL.pass rfl rfl (Eq.trans (b := .bool (decide (cntRows s.turns ((row : Nat) : Int) = ((s.turns.length : Nat) : Int)))) rfl (congrArg Value.bool (decide_eq_false hc144))) rfl rfl (by decide) ?_
              refine WL.pass rfl rfl (Eq.trans (b := .bool (decide (cntRows s.turns ((row : Nat) : Int) = ((s.turns.length : Nat) : Int)))) rfl (congrArg Value.bool (decide_eq_false hc144))) rfl rfl (by decide) ?_
              refine WL.pass rfl rfl (Eq.trans (b := .bool (decide (cntRows s.turns ((row : Nat) : Int) = ((s.turns.length : Nat) : Int)))) rfl (congrArg Value.bool (decide_eq_false hc144))) rfl rfl (by decide) ?_
              refine WL.pass rfl rfl (Eq.trans (b := .bool (decide (cntRows s.turns ((row : Nat) : Int) = ((s.turns.length : Nat) : Int)))) rfl (congrArg Value.bool (decide_eq_false hc144))) rfl rfl (by decide) ?_
              refine WL.cons rfl (OP.pickF (Value.bool false) (Eq.trans (b := .bool (decide (cntRows s.turns ((row : Nat) : Int) = ((s.turns.length : Nat) : Int)))) rfl (congrArg Value.bool (decide_eq_false hc144))) rfl (by decide) ?_)
              refine WL.cons rfl (OP.move (Value.bool false) rfl (by decide) ?_)
              refine WL.pass rfl rfl rfl rfl rfl (by decide) ?_
              refine WL.pass rfl rfl rfl rfl rfl (by decide) ?_
              refine WL.pass rfl rfl rfl rfl rfl (by decide) ?_
              refine WL.pass rfl rfl rfl rfl rfl (by decide) ?_
              refine WL.cons rfl (OP.pickF (Value.bool false) rfl rfl (by decide) ?_)
              refine WL.cons rfl (OP.assign (Value.bool false) rfl (by decide) ?_)
              refine WL.nil (Qn.then ?_)
              refine W.ret (RetQ.of [(Value.bool false)] (.inr rfl) Try.results3 (.cons (.tmp (by decide) rfl) .nil) ?_)
              have hs165 : sat W0 [F] w45 := sat_sub' [2] [0, 1] hs46 (by kernel_rfl) (by kernel_rfl)
              exact ⟨(by first | rfl | exact absurd (by first | exact (by rw [show ((row : Nat) : Int) = 16 by omega]; exact cntRows_all (by assumption)) | (rw [bitsOf_out (by assumption) (by omega)]; rfl)) hc144 | (rw [bitsOf_out (by assumption) (by omega)]; rfl)), hs165⟩
        exact WAs.nil
      exact WAs.nil
    · refine W.draw (fun w => sat W0 [blk b1 [(Value.slice s.busyA s.busy.length s.busyC), (Value.slice s.failsA s.fails.length s.failsC), (Value.slice s.turnsA s.turns.length s.turnsC), (Value.int .i64 s.cut), (Value.slice s.tornA s.torn.length s.tornC), (Value.slice s.markedA s.marked.length s.markedC)] 26, F] w) (by kernel_rfl) hs13 (fun w166 hs167 => ?_)
      refine WA.take 1 rfl rfl rfl rfl (by kernel_rfl) (by kernel_rfl) (by kernel_rfl) ?_ (by decide) (v := (Value.agg [(Value.slice s.busyA s.busy.length s.busyC), (Value.slice s.failsA s.fails.length s.failsC), (Value.slice s.turnsA s.turns.length s.turnsC), (Value.int .i64 s.cut), (Value.slice s.tornA s.torn.length s.tornC), (Value.slice s.markedA s.marked.length s.markedC)].toArray)) (fun w169 hw168 => OP.loadA [(Value.slice s.busyA s.busy.length s.busyC), (Value.slice s.failsA s.fails.length s.failsC), (Value.slice s.turnsA s.turns.length s.turnsC), (Value.int .i64 s.cut), (Value.slice s.tornA s.torn.length s.tornC), (Value.slice s.markedA s.marked.length s.markedC)] ag_26 sz_26 rfl (sat_rdn 0 hw168 rfl rfl) (by decide) ⟨rfl, rfl⟩) ?_
      · exact hs167
      refine WA.all [0] (by kernel_rfl) (by simp) ?_
      refine WAs.cons (oi := (Go.Oper.mk (some 19) (Go.Op.call (Go.Call.mk (Go.Callee.value (Go.Operand.func 10)) #[] #[])) 34 "outright.go:16" #[] none)) rfl rfl ?_ ?_
      · have hs170 : sat W0 [stars [blk b1 [(Value.slice s.busyA s.busy.length s.busyC), (Value.slice s.failsA s.fails.length s.failsC), (Value.slice s.turnsA s.turns.length s.turnsC), (Value.int .i64 s.cut), (Value.slice s.tornA s.torn.length s.tornC), (Value.slice s.markedA s.marked.length s.markedC)] 26, F]] w166 := sat_pack' [] [blk b1 [(Value.slice s.busyA s.busy.length s.busyC), (Value.slice s.failsA s.fails.length s.failsC), (Value.slice s.turnsA s.turns.length s.turnsC), (Value.int .i64 s.cut), (Value.slice s.tornA s.torn.length s.tornC), (Value.slice s.markedA s.marked.length s.markedC)] 26, F] hs167 (by kernel_rfl) (by kernel_rfl)
        have hcl173 := law12_plain  hs170
        refine ?_
        with_reducible refine OP.call [] gf_10 ?_ ?_ hcl173 ?_
        · exact rfl
        · decide
        clear hcl173
        rintro _ w171 ⟨_, rfl, rfl, hs172⟩
        refine ⟨_, rfl, ?_⟩
        have hs174 : sat W0 [blk b1 [(Value.slice s.busyA s.busy.length s.busyC), (Value.slice s.failsA s.fails.length s.failsC), (Value.slice s.turnsA s.turns.length s.turnsC), (Value.int .i64 s.cut), (Value.slice s.tornA s.torn.length s.tornC), (Value.slice s.markedA s.marked.length s.markedC)] 26, F] w171 := sat_flat' [] [blk b1 [(Value.slice s.busyA s.busy.length s.busyC), (Value.slice s.failsA s.fails.length s.failsC), (Value.slice s.turnsA s.turns.length s.turnsC), (Value.int .i64 s.cut), (Value.slice s.tornA s.torn.length s.tornC), (Value.slice s.markedA s.marked.length s.markedC)] 26, F] hs172 (by kernel_rfl) (by kernel_rfl)
        refine ⟨?_, ?_⟩
        · exact hs174
        refine WA.all [2] (by kernel_rfl) (by simp) ?_
        refine WAs.cons (oi := (Go.Oper.mk (some 21) (Go.Op.call (Go.Call.mk (Go.Callee.value (Go.Operand.func 9)) #[(Go.Operand.tmp 19), (Go.Operand.tmp 20)] #[34, 26])) 31 "outright.go:16" #[(Go.Edge.mk 0 Go.Ground.data), (Go.Edge.mk 1 Go.Ground.data), (Go.Edge.mk 0 Go.Ground.chain)] none)) rfl rfl ?_ ?_
        · have hs175 : sat W0 [stars [blk b1 [(Value.slice s.busyA s.busy.length s.busyC), (Value.slice s.failsA s.fails.length s.failsC), (Value.slice s.turnsA s.turns.length s.turnsC), (Value.int .i64 s.cut), (Value.slice s.tornA s.torn.length s.tornC), (Value.slice s.markedA s.marked.length s.markedC)] 26, F]] w171 := sat_pack' [] [blk b1 [(Value.slice s.busyA s.busy.length s.busyC), (Value.slice s.failsA s.fails.length s.failsC), (Value.slice s.turnsA s.turns.length s.turnsC), (Value.int .i64 s.cut), (Value.slice s.tornA s.torn.length s.tornC), (Value.slice s.markedA s.marked.length s.markedC)] 26, F] hs174 (by kernel_rfl) (by kernel_rfl)
          have hcl178 := choice_New_bad plainG s (hS _) hL (by assumption) hs175
          refine ?_
          with_reducible refine OP.call [(Value.agg [(Value.int .i64 plainG.planes), (Value.int .i64 plainG.blocks), (Value.int .i64 plainG.pages), (Value.int .i64 plainG.chunks), (Value.int .i64 plainG.chunk), (Value.int .i64 plainG.rungs), (Value.int .i64 plainG.partials)].toArray), (Value.agg [(Value.slice s.busyA s.busy.length s.busyC), (Value.slice s.failsA s.fails.length s.failsC), (Value.slice s.turnsA s.turns.length s.turnsC), (Value.int .i64 s.cut), (Value.slice s.tornA s.torn.length s.tornC), (Value.slice s.markedA s.marked.length s.markedC)].toArray)] gf_9 ?_ ?_ hcl178 ?_
          · exact rfl
          · decide
          clear hcl178
          rintro _ w176 ⟨_, rfl, rfl, hs177⟩
          refine ⟨_, rfl, ?_⟩
          have hs179 : sat W0 [blk b1 [(Value.slice s.busyA s.busy.length s.busyC), (Value.slice s.failsA s.fails.length s.failsC), (Value.slice s.turnsA s.turns.length s.turnsC), (Value.int .i64 s.cut), (Value.slice s.tornA s.torn.length s.tornC), (Value.slice s.markedA s.marked.length s.markedC)] 26, F] w176 := sat_flat' [] [blk b1 [(Value.slice s.busyA s.busy.length s.busyC), (Value.slice s.failsA s.fails.length s.failsC), (Value.slice s.turnsA s.turns.length s.turnsC), (Value.int .i64 s.cut), (Value.slice s.tornA s.torn.length s.tornC), (Value.slice s.markedA s.marked.length s.markedC)] 26, F] hs177 (by kernel_rfl) (by kernel_rfl)
          refine ⟨?_, ?_⟩
          · exact hs179
          refine WA.take 3 rfl rfl rfl rfl (by kernel_rfl) (by kernel_rfl) (by kernel_rfl) ?_ (by decide) (v := (Value.tuple #[(Value.pointer none), (Value.int .i64 2)])) (fun w181 hw180 => OP.move (Value.tuple #[(Value.pointer none), (Value.int .i64 2)]) rfl (by decide) ⟨rfl, rfl⟩) ?_
          · exact hs179
          refine WA.take 4 rfl rfl rfl rfl (by kernel_rfl) (by kernel_rfl) (by kernel_rfl) ?_ (by decide) (v := (Value.pointer none)) (fun w183 hw182 => OP.extract (Value.pointer none) rfl rfl (by decide) ⟨rfl, rfl⟩) ?_
          · exact hs179
          refine WA.take 5 rfl rfl rfl rfl (by kernel_rfl) (by kernel_rfl) (by kernel_rfl) ?_ (by decide) (v := (Value.int .i64 2)) (fun w185 hw184 => OP.extract (Value.int .i64 2) rfl rfl (by decide) ⟨rfl, rfl⟩) ?_
          · exact hs179
          refine WA.take 6 rfl rfl rfl rfl (by kernel_rfl) (by kernel_rfl) (by kernel_rfl) ?_ (by decide) (v := (Value.pointer none)) (fun w187 hw186 => OP.assign (Value.pointer none) rfl (by decide) ⟨rfl, rfl⟩) ?_
          · exact hs179
          refine WA.take 7 rfl rfl rfl rfl (by kernel_rfl) (by kernel_rfl) (by kernel_rfl) ?_ (by decide) (v := (Value.int .i64 2)) (fun w189 hw188 => OP.assign (Value.int .i64 2) rfl (by decide) ⟨rfl, rfl⟩) ?_
          · exact hs179
          refine WA.done (by kernel_rfl) ?_
          refine (Qn.then ?_)
          refine W.seq ?_
          refine W.seq ?_
          refine W.region ?_
          refine WL.cons rfl (OP.move (Value.int .i64 2) rfl (by decide) ?_)
          refine WL.cons rfl (OP.neI rfl rfl (by decide) ?_)
          refine WL.nil (Qn.then ?_)
          refine W.iteT rfl ?_
          refine W.seq ?_
          refine W.region ?_
          refine WL.cons rfl (OP.move (Value.pointer none) rfl (by decide) ?_)
          refine WL.cons rfl (OP.eqV rfl rfl rfl rfl (run_equalPN Try.underlying29 _) (by decide) ?_)
          refine WL.cons rfl (OP.assign (Value.bool true) rfl (by decide) ?_)
          refine WL.nil (Qn.then ?_)
          refine W.ret (Qr.then (RetQ.of [(Value.bool true)] (.inr rfl) Try.results3 (.cons (.tmp (by decide) rfl) .nil) ?_))
          have hs191 : sat W0 [F] w176 := sat_sub' [1] [0] hs179 (by kernel_rfl) (by kernel_rfl)
          exact ⟨rfl, hs191⟩
        exact WAs.nil
      exact WAs.nil

end Go.Proofs.Ytleolejhkdolpaa
