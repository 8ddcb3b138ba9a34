import Derived.Test.YtleolejhkdolpaaModA
import Derived.Test.YtleolejhkdolpaaFacts
import Derived.KernelRfl
set_option linter.unusedVariables false
set_option linter.unusedSimpArgs false
set_option maxRecDepth 100000
set_option maxHeartbeats 4000000
namespace Go.Proofs.Ytleolejhkdolpaa
open Go Go.RowKit Sv
theorem choice_within {W0 : World} {F : HProp} {w : World}  (n : Int) (lo : Int) (hi : Int)  
    (hs : sat W0 [F] w) :
    Calls Try.prog 58 ([(Value.int .i64 n), (Value.int .i64 lo), (Value.int .i64 hi)] : List Value).toArray w (fun x_ w' => ∃ v_, x_ = .returned v_ ∧ (v_ = (Value.bool (withinB n lo hi)) ∧ sat W0 [F] w')) := by
  refine W.enter Try.func58 rfl Try.ntmps58 (by simp) ?_
  refine W.seq ?_
  refine W.region ?_
  refine WL.cons rfl (OP.assign (Value.bool false) rfl (by decide) ?_)
  refine WL.nil (Qn.then ?_)
  refine W.seq ?_
  refine W.region ?_
  refine WL.cons rfl (OP.move (Value.int .i64 n) rfl (by decide) ?_)
  refine WL.cons rfl (OP.move (Value.int .i64 lo) rfl (by decide) ?_)
  refine WL.cons rfl (OP.geq rfl rfl (by decide) ?_)
  refine WL.cons rfl (OP.move (Value.bool (decide (n ≥ lo))) rfl (by decide) ?_)
  by_cases hc1 : n ≥ lo
  · refine WL.consG rfl rfl (Eq.trans (b := .bool (decide (n ≥ lo))) rfl (congrArg Value.bool (decide_eq_true hc1))) (OP.move (Value.int .i64 n) rfl (by decide) ?_)
    refine WL.consG rfl rfl (Eq.trans (b := .bool (decide (n ≥ lo))) rfl (congrArg Value.bool (decide_eq_true hc1))) (OP.move (Value.int .i64 hi) rfl (by decide) ?_)
    refine WL.consG rfl rfl (Eq.trans (b := .bool (decide (n ≥ lo))) rfl (congrArg Value.bool (decide_eq_true hc1))) (OP.leq rfl rfl (by decide) ?_)
    refine WL.cons rfl (OP.pickT (Value.bool (decide (n ≤ hi))) (Eq.trans (b := .bool (decide (n ≥ lo))) rfl (congrArg Value.bool (decide_eq_true hc1))) rfl (by decide) ?_)
    refine WL.cons rfl (OP.assign (Value.bool (decide (n ≤ hi))) rfl (by decide) ?_)
    refine WL.nil (Qn.then ?_)
    refine W.ret (RetQ.of [(Value.bool (decide (n ≤ hi)))] (.inr rfl) Try.results58 (.cons (.tmp (by decide) rfl) .nil) ?_)
    exact ⟨(congrArg Value.bool (by unfold withinB; first | rfl | (simp; omega))), hs⟩
  · refine WL.pass rfl rfl (Eq.trans (b := .bool (decide (n ≥ lo))) rfl (congrArg Value.bool (decide_eq_false hc1))) rfl rfl (by decide) ?_
    refine WL.pass rfl rfl (Eq.trans (b := .bool (decide (n ≥ lo))) rfl (congrArg Value.bool (decide_eq_false hc1))) rfl rfl (by decide) ?_
    refine WL.pass rfl rfl (Eq.trans (b := .bool (decide (n ≥ lo))) rfl (congrArg Value.bool (decide_eq_false hc1))) rfl rfl (by decide) ?_
    refine WL.cons rfl (OP.pickF (Value.bool false) (Eq.trans (b := .bool (decide (n ≥ lo))) rfl (congrArg Value.bool (decide_eq_false hc1))) rfl (by decide) ?_)
    refine WL.cons rfl (OP.assign (Value.bool false) rfl (by decide) ?_)
    refine WL.nil (Qn.then ?_)
    refine W.ret (RetQ.of [(Value.bool false)] (.inr rfl) Try.results58 (.cons (.tmp (by decide) rfl) .nil) ?_)
    exact ⟨(congrArg Value.bool (by unfold withinB; first | rfl | (simp; omega))), hs⟩

theorem geom_Check {W0 : World} {F : HProp} {w : World}  (g : Geom)  
    (hs : sat W0 [F] w) :
    Calls Try.prog 59 ([(Value.agg [(Value.int .i64 g.planes), (Value.int .i64 g.blocks), (Value.int .i64 g.pages), (Value.int .i64 g.chunks), (Value.int .i64 g.chunk), (Value.int .i64 g.rungs), (Value.int .i64 g.partials)].toArray)] : List Value).toArray w (fun x_ w' => ∃ v_, x_ = .returned v_ ∧ (v_ = (Value.int .i64 (checkE g)) ∧ sat W0 [F] w')) := by
  refine W.enter Try.func59 rfl Try.ntmps59 (by simp) ?_
  refine W.seq ?_
  refine W.region ?_
  refine WL.cons rfl (OP.box (Value.agg [(Value.int .i64 g.planes), (Value.int .i64 g.blocks), (Value.int .i64 g.pages), (Value.int .i64 g.chunks), (Value.int .i64 g.chunk), (Value.int .i64 g.rungs), (Value.int .i64 g.partials)].toArray) [(Value.int .i64 g.planes), (Value.int .i64 g.blocks), (Value.int .i64 g.pages), (Value.int .i64 g.chunks), (Value.int .i64 g.chunk), (Value.int .i64 g.rungs), (Value.int .i64 g.partials)] hs rfl rfl (by decide) (fun b1 w2 hs3 => ?_))
  refine WL.cons rfl (OP.assign (Value.int .i64 0) rfl (by decide) ?_)
  refine WL.nil (Qn.then ?_)
  refine W.seq ?_
  refine W.seq ?_
  refine W.region ?_
  refine WL.cons rfl (OP.fieldAddr 0 fo_34_0 rfl rfl (by decide) ?_)
  refine WL.cons rfl (OP.loadS (Value.int .i64 g.planes) sc_3 rfl (sat_cell 0 hs3 rfl rfl) (by decide) ?_)
  refine WL.cons rfl (OP.build [(0, (Value.int .i64 g.planes)), (1, (Value.int .i64 1)), (2, (Value.int .i64 4))] [(Value.int .i64 g.planes), (Value.int .i64 1), (Value.int .i64 4)] rfl (by kernel_rfl) (by decide) ?_)
  refine WL.cons rfl (OP.fieldAddr 1 fo_34_1 rfl rfl (by decide) ?_)
  refine WL.cons rfl (OP.loadS (Value.int .i64 g.blocks) sc_3 rfl (sat_cell 0 hs3 rfl rfl) (by decide) ?_)
  refine WL.cons rfl (OP.build [(0, (Value.int .i64 g.blocks)), (1, (Value.int .i64 2)), (2, (Value.int .i64 256))] [(Value.int .i64 g.blocks), (Value.int .i64 2), (Value.int .i64 256)] rfl (by kernel_rfl) (by decide) ?_)
  refine WL.cons rfl (OP.fieldAddr 2 fo_34_2 rfl rfl (by decide) ?_)
  refine WL.cons rfl (OP.loadS (Value.int .i64 g.pages) sc_3 rfl (sat_cell 0 hs3 rfl rfl) (by decide) ?_)
  refine WL.cons rfl (OP.build [(0, (Value.int .i64 g.pages)), (1, (Value.int .i64 4)), (2, (Value.int .i64 64))] [(Value.int .i64 g.pages), (Value.int .i64 4), (Value.int .i64 64)] rfl (by kernel_rfl) (by decide) ?_)
  refine WL.cons rfl (OP.fieldAddr 3 fo_34_3 rfl rfl (by decide) ?_)
  refine WL.cons rfl (OP.loadS (Value.int .i64 g.chunks) sc_3 rfl (sat_cell 0 hs3 rfl rfl) (by decide) ?_)
  refine WL.cons rfl (OP.build [(0, (Value.int .i64 g.chunks)), (1, (Value.int .i64 1)), (2, (Value.int .i64 16))] [(Value.int .i64 g.chunks), (Value.int .i64 1), (Value.int .i64 16)] rfl (by kernel_rfl) (by decide) ?_)
  refine WL.cons rfl (OP.fieldAddr 4 fo_34_4 rfl rfl (by decide) ?_)
  refine WL.cons rfl (OP.loadS (Value.int .i64 g.chunk) sc_3 rfl (sat_cell 0 hs3 rfl rfl) (by decide) ?_)
  refine WL.cons rfl (OP.build [(0, (Value.int .i64 g.chunk)), (1, (Value.int .i64 4)), (2, (Value.int .i64 512))] [(Value.int .i64 g.chunk), (Value.int .i64 4), (Value.int .i64 512)] rfl (by kernel_rfl) (by decide) ?_)
  refine WL.cons rfl (OP.fieldAddr 5 fo_34_5 rfl rfl (by decide) ?_)
  refine WL.cons rfl (OP.loadS (Value.int .i64 g.rungs) sc_3 rfl (sat_cell 0 hs3 rfl rfl) (by decide) ?_)
  refine WL.cons rfl (OP.build [(0, (Value.int .i64 g.rungs)), (1, (Value.int .i64 1)), (2, (Value.int .i64 8))] [(Value.int .i64 g.rungs), (Value.int .i64 1), (Value.int .i64 8)] rfl (by kernel_rfl) (by decide) ?_)
  refine WL.cons rfl (OP.fieldAddr 6 fo_34_6 rfl rfl (by decide) ?_)
  refine WL.cons rfl (OP.loadS (Value.int .i64 g.partials) sc_3 rfl (sat_cell 0 hs3 rfl rfl) (by decide) ?_)
  refine WL.cons rfl (OP.build [(0, (Value.int .i64 g.partials)), (1, (Value.int .i64 1)), (2, (Value.int .i64 8))] [(Value.int .i64 g.partials), (Value.int .i64 1), (Value.int .i64 8)] rfl (by kernel_rfl) (by decide) ?_)
  refine WL.cons rfl (OP.build [(0, (Value.agg [(Value.int .i64 g.planes), (Value.int .i64 1), (Value.int .i64 4)].toArray)), (1, (Value.agg [(Value.int .i64 g.blocks), (Value.int .i64 2), (Value.int .i64 256)].toArray)), (2, (Value.agg [(Value.int .i64 g.pages), (Value.int .i64 4), (Value.int .i64 64)].toArray)), (3, (Value.agg [(Value.int .i64 g.chunks), (Value.int .i64 1), (Value.int .i64 16)].toArray)), (4, (Value.agg [(Value.int .i64 g.chunk), (Value.int .i64 4), (Value.int .i64 512)].toArray)), (5, (Value.agg [(Value.int .i64 g.rungs), (Value.int .i64 1), (Value.int .i64 8)].toArray)), (6, (Value.agg [(Value.int .i64 g.partials), (Value.int .i64 1), (Value.int .i64 8)].toArray))] [(Value.int .i64 g.planes), (Value.int .i64 1), (Value.int .i64 4), (Value.int .i64 g.blocks), (Value.int .i64 2), (Value.int .i64 256), (Value.int .i64 g.pages), (Value.int .i64 4), (Value.int .i64 64), (Value.int .i64 g.chunks), (Value.int .i64 1), (Value.int .i64 16), (Value.int .i64 g.chunk), (Value.int .i64 4), (Value.int .i64 512), (Value.int .i64 g.rungs), (Value.int .i64 1), (Value.int .i64 8), (Value.int .i64 g.partials), (Value.int .i64 1), (Value.int .i64 8)] rfl (by kernel_rfl) (by decide) ?_)
  refine WL.cons rfl (OP.move (Value.int .i64 0) rfl (by decide) ?_)
  refine WL.nil (Qn.then ?_)
  refine W.block ?_
  refine W.unroll 9 (rnds.go ?_)
  refine W.seq ?_
  refine W.region ?_
  refine WL.cons rfl (OP.lss rfl rfl (by decide) ?_)
  refine WL.nil (Qn.then ?_)
  refine W.seq ?_
  refine W.iteT rfl ?_
  refine W.skip (Qn.then ?_)
  refine W.seq ?_
  refine W.block ?_
  refine W.seq ?_
  refine W.region ?_
  refine WL.cons rfl (OP.val (v := (Value.agg [(Value.int .i64 g.planes), (Value.int .i64 1), (Value.int .i64 4)].toArray)) (w' := w2) (by decide) (by kernel_rfl) ?_)
  refine WL.cons rfl (OP.alloc _ [(Value.int .i64 0), (Value.int .i64 0), (Value.int .i64 0)] hs3 ze_116 rfl (by decide) (fun b4 w5 hs6 => ?_))
  refine WL.cons rfl (OP.store (Value.agg [(Value.int .i64 g.planes), (Value.int .i64 1), (Value.int .i64 4)].toArray) [(Value.int .i64 g.planes), (Value.int .i64 1), (Value.int .i64 4)] hs6 rfl rfl rfl sz_116 rfl (by rfl) (by simp) (fun w7 hs8 => ?_))
  have hs9 : sat W0 [blk b4 [(Value.int .i64 g.planes), (Value.int .i64 1), (Value.int .i64 4)] 116, blk b1 [(Value.int .i64 g.planes), (Value.int .i64 g.blocks), (Value.int .i64 g.pages), (Value.int .i64 g.chunks), (Value.int .i64 g.chunk), (Value.int .i64 g.rungs), (Value.int .i64 g.partials)] 34, F] w7 := hs8
  refine WL.nil (Qn.then ?_)
  refine W.seq ?_
  refine W.region ?_
  refine WL.cons rfl (OP.indexAddrA' 0 0 Try.underlying116 sz_3 rfl rfl rfl (by decide) rfl (by decide) ?_)
  refine WL.cons rfl (OP.loadS (Value.int .i64 g.planes) sc_3 rfl (sat_cell 0 hs9 rfl rfl) (by decide) ?_)
  refine WL.cons rfl (OP.indexAddrA' 1 1 Try.underlying116 sz_3 rfl rfl rfl (by decide) rfl (by decide) ?_)
  refine WL.cons rfl (OP.loadS (Value.int .i64 1) sc_3 rfl (sat_cell 0 hs9 rfl rfl) (by decide) ?_)
  refine WL.cons rfl (OP.lss rfl rfl (by decide) ?_)
  refine WL.cons rfl (OP.move (Value.bool (decide (g.planes < 1))) rfl (by decide) ?_)
  by_cases hc10 : g.planes < 1
  · refine WL.pass rfl rfl (Eq.trans (b := .bool (decide (g.planes < 1))) rfl (congrArg Value.bool (decide_eq_true hc10))) rfl rfl (by decide) ?_
    refine WL.pass rfl rfl (Eq.trans (b := .bool (decide (g.planes < 1))) rfl (congrArg Value.bool (decide_eq_true hc10))) rfl rfl (by decide) ?_
    refine WL.pass rfl rfl (Eq.trans (b := .bool (decide (g.planes < 1))) rfl (congrArg Value.bool (decide_eq_true hc10))) rfl rfl (by decide) ?_
    refine WL.pass rfl rfl (Eq.trans (b := .bool (decide (g.planes < 1))) rfl (congrArg Value.bool (decide_eq_true hc10))) rfl rfl (by decide) ?_
    refine WL.pass rfl rfl (Eq.trans (b := .bool (decide (g.planes < 1))) rfl (congrArg Value.bool (decide_eq_true hc10))) rfl rfl (by decide) ?_
    refine WL.cons rfl (OP.pickT (Value.bool true) (Eq.trans (b := .bool (decide (g.planes < 1))) rfl (congrArg Value.bool (decide_eq_true hc10))) rfl (by decide) ?_)
    refine WL.nil (Qn.then ?_)
    refine W.iteT rfl ?_
    refine W.seq ?_
    refine W.region ?_
    refine WL.cons rfl (OP.assign (Value.int .i64 2) rfl (by decide) ?_)
    refine WL.nil (Qn.then ?_)
    refine W.ret (Qr.blk (Qr.then (Qr.then (Qr.blk (Qr.then (RetQ.of [(Value.int .i64 2)] (.inr rfl) Try.results59 (.cons (.tmp (by decide) rfl) .nil) ?_))))))
    have hs12 : sat W0 [F] w7 := sat_sub' [2] [0, 1] hs9 (by kernel_rfl) (by kernel_rfl)
    exact ⟨(congrArg (Value.int .i64) (checkE_bad (fun hk_ => by have := hk_.planes; have := hk_.blocks; have := hk_.pages; have := hk_.chunks; have := hk_.chunk; have := hk_.rungs; have := hk_.partials; have := hk_.div; have := hk_.even; omega))), hs12⟩
  · refine WL.consG rfl rfl (Eq.trans (b := .bool (decide (g.planes < 1))) rfl (congrArg Value.bool (decide_eq_false hc10))) (OP.indexAddrA' 0 0 Try.underlying116 sz_3 rfl rfl rfl (by decide) rfl (by decide) ?_)
    refine WL.consG rfl rfl (Eq.trans (b := .bool (decide (g.planes < 1))) rfl (congrArg Value.bool (decide_eq_false hc10))) (OP.loadS (Value.int .i64 g.planes) sc_3 rfl (sat_cell 0 hs9 rfl rfl) (by decide) ?_)
    refine WL.consG rfl rfl (Eq.trans (b := .bool (decide (g.planes < 1))) rfl (congrArg Value.bool (decide_eq_false hc10))) (OP.indexAddrA' 2 2 Try.underlying116 sz_3 rfl rfl rfl (by decide) rfl (by decide) ?_)
    refine WL.consG rfl rfl (Eq.trans (b := .bool (decide (g.planes < 1))) rfl (congrArg Value.bool (decide_eq_false hc10))) (OP.loadS (Value.int .i64 4) sc_3 rfl (sat_cell 0 hs9 rfl rfl) (by decide) ?_)
    refine WL.consG rfl rfl (Eq.trans (b := .bool (decide (g.planes < 1))) rfl (congrArg Value.bool (decide_eq_false hc10))) (OP.gtr rfl rfl (by decide) ?_)
    refine WL.cons rfl (OP.pickF (Value.bool (decide (g.planes > 4))) (Eq.trans (b := .bool (decide (g.planes < 1))) rfl (congrArg Value.bool (decide_eq_false hc10))) rfl (by decide) ?_)
    refine WL.nil (Qn.then ?_)
    refine W.iteP (p := g.planes > 4) rfl (fun hc13 => ?_) (fun hc13 => ?_)
    · refine W.seq ?_
      refine W.region ?_
      refine WL.cons rfl (OP.assign (Value.int .i64 2) rfl (by decide) ?_)
      refine WL.nil (Qn.then ?_)
      refine W.ret (Qr.blk (Qr.then (Qr.then (Qr.blk (Qr.then (RetQ.of [(Value.int .i64 2)] (.inr rfl) Try.results59 (.cons (.tmp (by decide) rfl) .nil) ?_))))))
      have hs15 : sat W0 [F] w7 := sat_sub' [2] [0, 1] hs9 (by kernel_rfl) (by kernel_rfl)
      exact ⟨(congrArg (Value.int .i64) (checkE_bad (fun hk_ => by have := hk_.planes; have := hk_.blocks; have := hk_.pages; have := hk_.chunks; have := hk_.chunk; have := hk_.rungs; have := hk_.partials; have := hk_.div; have := hk_.even; omega))), hs15⟩
    · refine W.skip (Qn.blk (Qn.then ?_))
      refine W.region ?_
      refine WL.cons rfl (OP.add 1 rfl rfl (by first | rfl | omega | simp) (by unfold inI64; omega) (by decide) ?_)
      refine WL.cons rfl (OP.move (Value.int .i64 1) rfl (by decide) ?_)
      refine WL.nil (Qn.then ?_)
      refine rnds.go ?_
      refine W.seq ?_
      refine W.region ?_
      refine WL.cons rfl (OP.lss rfl rfl (by decide) ?_)
      refine WL.nil (Qn.then ?_)
      refine W.seq ?_
      refine W.iteT rfl ?_
      refine W.skip (Qn.then ?_)
      refine W.seq ?_
      refine W.block ?_
      refine W.seq ?_
      refine W.region ?_
      refine WL.cons rfl (OP.val (v := (Value.agg [(Value.int .i64 g.blocks), (Value.int .i64 2), (Value.int .i64 256)].toArray)) (w' := w7) (by decide) (by kernel_rfl) ?_)
      refine WL.cons rfl (OP.alloc _ [(Value.int .i64 0), (Value.int .i64 0), (Value.int .i64 0)] hs9 ze_116 rfl (by decide) (fun b16 w17 hs18 => ?_))
      refine WL.cons rfl (OP.store (Value.agg [(Value.int .i64 g.blocks), (Value.int .i64 2), (Value.int .i64 256)].toArray) [(Value.int .i64 g.blocks), (Value.int .i64 2), (Value.int .i64 256)] hs18 rfl rfl rfl sz_116 rfl (by rfl) (by simp) (fun w19 hs20 => ?_))
      have hs21 : sat W0 [blk b16 [(Value.int .i64 g.blocks), (Value.int .i64 2), (Value.int .i64 256)] 116, blk b4 [(Value.int .i64 g.planes), (Value.int .i64 1), (Value.int .i64 4)] 116, blk b1 [(Value.int .i64 g.planes), (Value.int .i64 g.blocks), (Value.int .i64 g.pages), (Value.int .i64 g.chunks), (Value.int .i64 g.chunk), (Value.int .i64 g.rungs), (Value.int .i64 g.partials)] 34, F] w19 := hs20
      refine WL.nil (Qn.then ?_)
      refine W.seq ?_
      refine W.region ?_
      refine WL.cons rfl (OP.indexAddrA' 0 0 Try.underlying116 sz_3 rfl rfl rfl (by decide) rfl (by decide) ?_)
      refine WL.cons rfl (OP.loadS (Value.int .i64 g.blocks) sc_3 rfl (sat_cell 0 hs21 rfl rfl) (by decide) ?_)
      refine WL.cons rfl (OP.indexAddrA' 1 1 Try.underlying116 sz_3 rfl rfl rfl (by decide) rfl (by decide) ?_)
      refine WL.cons rfl (OP.loadS (Value.int .i64 2) sc_3 rfl (sat_cell 0 hs21 rfl rfl) (by decide) ?_)
      refine WL.cons rfl (OP.lss rfl rfl (by decide) ?_)
      refine WL.cons rfl (OP.move (Value.bool (decide (g.blocks < 2))) rfl (by decide) ?_)
      by_cases hc22 : g.blocks < 2
      · refine WL.pass rfl rfl (Eq.trans (b := .bool (decide (g.blocks < 2))) rfl (congrArg Value.bool (decide_eq_true hc22))) rfl rfl (by decide) ?_
        refine WL.pass rfl rfl (Eq.trans (b := .bool (decide (g.blocks < 2))) rfl (congrArg Value.bool (decide_eq_true hc22))) rfl rfl (by decide) ?_
        refine WL.pass rfl rfl (Eq.trans (b := .bool (decide (g.blocks < 2))) rfl (congrArg Value.bool (decide_eq_true hc22))) rfl rfl (by decide) ?_
        refine WL.pass rfl rfl (Eq.trans (b := .bool (decide (g.blocks < 2))) rfl (congrArg Value.bool (decide_eq_true hc22))) rfl rfl (by decide) ?_
        refine WL.pass rfl rfl (Eq.trans (b := .bool (decide (g.blocks < 2))) rfl (congrArg Value.bool (decide_eq_true hc22))) rfl rfl (by decide) ?_
        refine WL.cons rfl (OP.pickT (Value.bool true) (Eq.trans (b := .bool (decide (g.blocks < 2))) rfl (congrArg Value.bool (decide_eq_true hc22))) rfl (by decide) ?_)
        refine WL.nil (Qn.then ?_)
        refine W.iteT rfl ?_
        refine W.seq ?_
        refine W.region ?_
        refine WL.cons rfl (OP.assign (Value.int .i64 2) rfl (by decide) ?_)
        refine WL.nil (Qn.then ?_)
        refine W.ret (Qr.blk (Qr.then (Qr.then (Qr.blk (Qr.then (RetQ.of [(Value.int .i64 2)] (.inr rfl) Try.results59 (.cons (.tmp (by decide) rfl) .nil) ?_))))))
        have hs24 : sat W0 [F] w19 := sat_sub' [3] [0, 1, 2] hs21 (by kernel_rfl) (by kernel_rfl)
        exact ⟨(congrArg (Value.int .i64) (checkE_bad (fun hk_ => by have := hk_.planes; have := hk_.blocks; have := hk_.pages; have := hk_.chunks; have := hk_.chunk; have := hk_.rungs; have := hk_.partials; have := hk_.div; have := hk_.even; omega))), hs24⟩
      · refine WL.consG rfl rfl (Eq.trans (b := .bool (decide (g.blocks < 2))) rfl (congrArg Value.bool (decide_eq_false hc22))) (OP.indexAddrA' 0 0 Try.underlying116 sz_3 rfl rfl rfl (by decide) rfl (by decide) ?_)
        refine WL.consG rfl rfl (Eq.trans (b := .bool (decide (g.blocks < 2))) rfl (congrArg Value.bool (decide_eq_false hc22))) (OP.loadS (Value.int .i64 g.blocks) sc_3 rfl (sat_cell 0 hs21 rfl rfl) (by decide) ?_)
        refine WL.consG rfl rfl (Eq.trans (b := .bool (decide (g.blocks < 2))) rfl (congrArg Value.bool (decide_eq_false hc22))) (OP.indexAddrA' 2 2 Try.underlying116 sz_3 rfl rfl rfl (by decide) rfl (by decide) ?_)
        refine WL.consG rfl rfl (Eq.trans (b := .bool (decide (g.blocks < 2))) rfl (congrArg Value.bool (decide_eq_false hc22))) (OP.loadS (Value.int .i64 256) sc_3 rfl (sat_cell 0 hs21 rfl rfl) (by decide) ?_)
        refine WL.consG rfl rfl (Eq.trans (b := .bool (decide (g.blocks < 2))) rfl (congrArg Value.bool (decide_eq_false hc22))) (OP.gtr rfl rfl (by decide) ?_)
        refine WL.cons rfl (OP.pickF (Value.bool (decide (g.blocks > 256))) (Eq.trans (b := .bool (decide (g.blocks < 2))) rfl (congrArg Value.bool (decide_eq_false hc22))) rfl (by decide) ?_)
        refine WL.nil (Qn.then ?_)
        refine W.iteP (p := g.blocks > 256) rfl (fun hc25 => ?_) (fun hc25 => ?_)
        · refine W.seq ?_
          refine W.region ?_
          refine WL.cons rfl (OP.assign (Value.int .i64 2) rfl (by decide) ?_)
          refine WL.nil (Qn.then ?_)
          refine W.ret (Qr.blk (Qr.then (Qr.then (Qr.blk (Qr.then (RetQ.of [(Value.int .i64 2)] (.inr rfl) Try.results59 (.cons (.tmp (by decide) rfl) .nil) ?_))))))
          have hs27 : sat W0 [F] w19 := sat_sub' [3] [0, 1, 2] hs21 (by kernel_rfl) (by kernel_rfl)
          exact ⟨(congrArg (Value.int .i64) (checkE_bad (fun hk_ => by have := hk_.planes; have := hk_.blocks; have := hk_.pages; have := hk_.chunks; have := hk_.chunk; have := hk_.rungs; have := hk_.partials; have := hk_.div; have := hk_.even; omega))), hs27⟩
        · refine W.skip (Qn.blk (Qn.then ?_))
          refine W.region ?_
          refine WL.cons rfl (OP.add 2 rfl rfl (by first | rfl | omega | simp) (by unfold inI64; omega) (by decide) ?_)
          refine WL.cons rfl (OP.move (Value.int .i64 2) rfl (by decide) ?_)
          refine WL.nil (Qn.then ?_)
          refine rnds.go ?_
          refine W.seq ?_
          refine W.region ?_
          refine WL.cons rfl (OP.lss rfl rfl (by decide) ?_)
          refine WL.nil (Qn.then ?_)
          refine W.seq ?_
          refine W.iteT rfl ?_
          refine W.skip (Qn.then ?_)
          refine W.seq ?_
          refine W.block ?_
          refine W.seq ?_
          refine W.region ?_
          refine WL.cons rfl (OP.val (v := (Value.agg [(Value.int .i64 g.pages), (Value.int .i64 4), (Value.int .i64 64)].toArray)) (w' := w19) (by decide) (by kernel_rfl) ?_)
          refine WL.cons rfl (OP.alloc _ [(Value.int .i64 0), (Value.int .i64 0), (Value.int .i64 0)] hs21 ze_116 rfl (by decide) (fun b28 w29 hs30 => ?_))
          refine WL.cons rfl (OP.store (Value.agg [(Value.int .i64 g.pages), (Value.int .i64 4), (Value.int .i64 64)].toArray) [(Value.int .i64 g.pages), (Value.int .i64 4), (Value.int .i64 64)] hs30 rfl rfl rfl sz_116 rfl (by rfl) (by simp) (fun w31 hs32 => ?_))
          have hs33 : sat W0 [blk b28 [(Value.int .i64 g.pages), (Value.int .i64 4), (Value.int .i64 64)] 116, blk b16 [(Value.int .i64 g.blocks), (Value.int .i64 2), (Value.int .i64 256)] 116, blk b4 [(Value.int .i64 g.planes), (Value.int .i64 1), (Value.int .i64 4)] 116, blk b1 [(Value.int .i64 g.planes), (Value.int .i64 g.blocks), (Value.int .i64 g.pages), (Value.int .i64 g.chunks), (Value.int .i64 g.chunk), (Value.int .i64 g.rungs), (Value.int .i64 g.partials)] 34, F] w31 := hs32
          refine WL.nil (Qn.then ?_)
          refine W.seq ?_
          refine W.region ?_
          refine WL.cons rfl (OP.indexAddrA' 0 0 Try.underlying116 sz_3 rfl rfl rfl (by decide) rfl (by decide) ?_)
          refine WL.cons rfl (OP.loadS (Value.int .i64 g.pages) sc_3 rfl (sat_cell 0 hs33 rfl rfl) (by decide) ?_)
          refine WL.cons rfl (OP.indexAddrA' 1 1 Try.underlying116 sz_3 rfl rfl rfl (by decide) rfl (by decide) ?_)
          refine WL.cons rfl (OP.loadS (Value.int .i64 4) sc_3 rfl (sat_cell 0 hs33 rfl rfl) (by decide) ?_)
          refine WL.cons rfl (OP.lss rfl rfl (by decide) ?_)
          refine WL.cons rfl (OP.move (Value.bool (decide (g.pages < 4))) rfl (by decide) ?_)
          by_cases hc34 : g.pages < 4
          · refine WL.pass rfl rfl (Eq.trans (b := .bool (decide (g.pages < 4))) rfl (congrArg Value.bool (decide_eq_true hc34))) rfl rfl (by decide) ?_
            refine WL.pass rfl rfl (Eq.trans (b := .bool (decide (g.pages < 4))) rfl (congrArg Value.bool (decide_eq_true hc34))) rfl rfl (by decide) ?_
            refine WL.pass rfl rfl (Eq.trans (b := .bool (decide (g.pages < 4))) rfl (congrArg Value.bool (decide_eq_true hc34))) rfl rfl (by decide) ?_
            refine WL.pass rfl rfl (Eq.trans (b := .bool (decide (g.pages < 4))) rfl (congrArg Value.bool (decide_eq_true hc34))) rfl rfl (by decide) ?_
            refine WL.pass rfl rfl (Eq.trans (b := .bool (decide (g.pages < 4))) rfl (congrArg Value.bool (decide_eq_true hc34))) rfl rfl (by decide) ?_
            refine WL.cons rfl (OP.pickT (Value.bool true) (Eq.trans (b := .bool (decide (g.pages < 4))) rfl (congrArg Value.bool (decide_eq_true hc34))) rfl (by decide) ?_)
            refine WL.nil (Qn.then ?_)
            refine W.iteT rfl ?_
            refine W.seq ?_
            refine W.region ?_
            refine WL.cons rfl (OP.assign (Value.int .i64 2) rfl (by decide) ?_)
            refine WL.nil (Qn.then ?_)
            refine W.ret (Qr.blk (Qr.then (Qr.then (Qr.blk (Qr.then (RetQ.of [(Value.int .i64 2)] (.inr rfl) Try.results59 (.cons (.tmp (by decide) rfl) .nil) ?_))))))
            have hs36 : sat W0 [F] w31 := sat_sub' [4] [0, 1, 2, 3] hs33 (by kernel_rfl) (by kernel_rfl)
            exact ⟨(congrArg (Value.int .i64) (checkE_bad (fun hk_ => by have := hk_.planes; have := hk_.blocks; have := hk_.pages; have := hk_.chunks; have := hk_.chunk; have := hk_.rungs; have := hk_.partials; have := hk_.div; have := hk_.even; omega))), hs36⟩
          · refine WL.consG rfl rfl (Eq.trans (b := .bool (decide (g.pages < 4))) rfl (congrArg Value.bool (decide_eq_false hc34))) (OP.indexAddrA' 0 0 Try.underlying116 sz_3 rfl rfl rfl (by decide) rfl (by decide) ?_)
            refine WL.consG rfl rfl (Eq.trans (b := .bool (decide (g.pages < 4))) rfl (congrArg Value.bool (decide_eq_false hc34))) (OP.loadS (Value.int .i64 g.pages) sc_3 rfl (sat_cell 0 hs33 rfl rfl) (by decide) ?_)
            refine WL.consG rfl rfl (Eq.trans (b := .bool (decide (g.pages < 4))) rfl (congrArg Value.bool (decide_eq_false hc34))) (OP.indexAddrA' 2 2 Try.underlying116 sz_3 rfl rfl rfl (by decide) rfl (by decide) ?_)
            refine WL.consG rfl rfl (Eq.trans (b := .bool (decide (g.pages < 4))) rfl (congrArg Value.bool (decide_eq_false hc34))) (OP.loadS (Value.int .i64 64) sc_3 rfl (sat_cell 0 hs33 rfl rfl) (by decide) ?_)
            refine WL.consG rfl rfl (Eq.trans (b := .bool (decide (g.pages < 4))) rfl (congrArg Value.bool (decide_eq_false hc34))) (OP.gtr rfl rfl (by decide) ?_)
            refine WL.cons rfl (OP.pickF (Value.bool (decide (g.pages > 64))) (Eq.trans (b := .bool (decide (g.pages < 4))) rfl (congrArg Value.bool (decide_eq_false hc34))) rfl (by decide) ?_)
            refine WL.nil (Qn.then ?_)
            refine W.iteP (p := g.pages > 64) rfl (fun hc37 => ?_) (fun hc37 => ?_)
            · refine W.seq ?_
              refine W.region ?_
              refine WL.cons rfl (OP.assign (Value.int .i64 2) rfl (by decide) ?_)
              refine WL.nil (Qn.then ?_)
              refine W.ret (Qr.blk (Qr.then (Qr.then (Qr.blk (Qr.then (RetQ.of [(Value.int .i64 2)] (.inr rfl) Try.results59 (.cons (.tmp (by decide) rfl) .nil) ?_))))))
              have hs39 : sat W0 [F] w31 := sat_sub' [4] [0, 1, 2, 3] hs33 (by kernel_rfl) (by kernel_rfl)
              exact ⟨(congrArg (Value.int .i64) (checkE_bad (fun hk_ => by have := hk_.planes; have := hk_.blocks; have := hk_.pages; have := hk_.chunks; have := hk_.chunk; have := hk_.rungs; have := hk_.partials; have := hk_.div; have := hk_.even; omega))), hs39⟩
            · refine W.skip (Qn.blk (Qn.then ?_))
              refine W.region ?_
              refine WL.cons rfl (OP.add 3 rfl rfl (by first | rfl | omega | simp) (by unfold inI64; omega) (by decide) ?_)
              refine WL.cons rfl (OP.move (Value.int .i64 3) rfl (by decide) ?_)
              refine WL.nil (Qn.then ?_)
              refine rnds.go ?_
              refine W.seq ?_
              refine W.region ?_
              refine WL.cons rfl (OP.lss rfl rfl (by decide) ?_)
              refine WL.nil (Qn.then ?_)
              refine W.seq ?_
              refine W.iteT rfl ?_
              refine W.skip (Qn.then ?_)
              refine W.seq ?_
              refine W.block ?_
              refine W.seq ?_
              refine W.region ?_
              refine WL.cons rfl (OP.val (v := (Value.agg [(Value.int .i64 g.chunks), (Value.int .i64 1), (Value.int .i64 16)].toArray)) (w' := w31) (by decide) (by kernel_rfl) ?_)
              refine WL.cons rfl (OP.alloc _ [(Value.int .i64 0), (Value.int .i64 0), (Value.int .i64 0)] hs33 ze_116 rfl (by decide) (fun b40 w41 hs42 => ?_))
              refine WL.cons rfl (OP.store (Value.agg [(Value.int .i64 g.chunks), (Value.int .i64 1), (Value.int .i64 16)].toArray) [(Value.int .i64 g.chunks), (Value.int .i64 1), (Value.int .i64 16)] hs42 rfl rfl rfl sz_116 rfl (by rfl) (by simp) (fun w43 hs44 => ?_))
              have hs45 : sat W0 [blk b40 [(Value.int .i64 g.chunks), (Value.int .i64 1), (Value.int .i64 16)] 116, blk b28 [(Value.int .i64 g.pages), (Value.int .i64 4), (Value.int .i64 64)] 116, blk b16 [(Value.int .i64 g.blocks), (Value.int .i64 2), (Value.int .i64 256)] 116, blk b4 [(Value.int .i64 g.planes), (Value.int .i64 1), (Value.int .i64 4)] 116, blk b1 [(Value.int .i64 g.planes), (Value.int .i64 g.blocks), (Value.int .i64 g.pages), (Value.int .i64 g.chunks), (Value.int .i64 g.chunk), (Value.int .i64 g.rungs), (Value.int .i64 g.partials)] 34, F] w43 := hs44
              refine WL.nil (Qn.then ?_)
              refine W.seq ?_
              refine W.region ?_
              refine WL.cons rfl (OP.indexAddrA' 0 0 Try.underlying116 sz_3 rfl rfl rfl (by decide) rfl (by decide) ?_)
              refine WL.cons rfl (OP.loadS (Value.int .i64 g.chunks) sc_3 rfl (sat_cell 0 hs45 rfl rfl) (by decide) ?_)
              refine WL.cons rfl (OP.indexAddrA' 1 1 Try.underlying116 sz_3 rfl rfl rfl (by decide) rfl (by decide) ?_)
              refine WL.cons rfl (OP.loadS (Value.int .i64 1) sc_3 rfl (sat_cell 0 hs45 rfl rfl) (by decide) ?_)
              refine WL.cons rfl (OP.lss rfl rfl (by decide) ?_)
              refine WL.cons rfl (OP.move (Value.bool (decide (g.chunks < 1))) rfl (by decide) ?_)
              by_cases hc46 : g.chunks < 1
              · refine WL.pass rfl rfl (Eq.trans (b := .bool (decide (g.chunks < 1))) rfl (congrArg Value.bool (decide_eq_true hc46))) rfl rfl (by decide) ?_
                refine WL.pass rfl rfl (Eq.trans (b := .bool (decide (g.chunks < 1))) rfl (congrArg Value.bool (decide_eq_true hc46))) rfl rfl (by decide) ?_
                refine WL.pass rfl rfl (Eq.trans (b := .bool (decide (g.chunks < 1))) rfl (congrArg Value.bool (decide_eq_true hc46))) rfl rfl (by decide) ?_
                refine WL.pass rfl rfl (Eq.trans (b := .bool (decide (g.chunks < 1))) rfl (congrArg Value.bool (decide_eq_true hc46))) rfl rfl (by decide) ?_
                refine WL.pass rfl rfl (Eq.trans (b := .bool (decide (g.chunks < 1))) rfl (congrArg Value.bool (decide_eq_true hc46))) rfl rfl (by decide) ?_
                refine WL.cons rfl (OP.pickT (Value.bool true) (Eq.trans (b := .bool (decide (g.chunks < 1))) rfl (congrArg Value.bool (decide_eq_true hc46))) rfl (by decide) ?_)
                refine WL.nil (Qn.then ?_)
                refine W.iteT rfl ?_
                refine W.seq ?_
                refine W.region ?_
                refine WL.cons rfl (OP.assign (Value.int .i64 2) rfl (by decide) ?_)
                refine WL.nil (Qn.then ?_)
                refine W.ret (Qr.blk (Qr.then (Qr.then (Qr.blk (Qr.then (RetQ.of [(Value.int .i64 2)] (.inr rfl) Try.results59 (.cons (.tmp (by decide) rfl) .nil) ?_))))))
                have hs48 : sat W0 [F] w43 := sat_sub' [5] [0, 1, 2, 3, 4] hs45 (by kernel_rfl) (by kernel_rfl)
                exact ⟨(congrArg (Value.int .i64) (checkE_bad (fun hk_ => by have := hk_.planes; have := hk_.blocks; have := hk_.pages; have := hk_.chunks; have := hk_.chunk; have := hk_.rungs; have := hk_.partials; have := hk_.div; have := hk_.even; omega))), hs48⟩
              · refine WL.consG rfl rfl (Eq.trans (b := .bool (decide (g.chunks < 1))) rfl (congrArg Value.bool (decide_eq_false hc46))) (OP.indexAddrA' 0 0 Try.underlying116 sz_3 rfl rfl rfl (by decide) rfl (by decide) ?_)
                refine WL.consG rfl rfl (Eq.trans (b := .bool (decide (g.chunks < 1))) rfl (congrArg Value.bool (decide_eq_false hc46))) (OP.loadS (Value.int .i64 g.chunks) sc_3 rfl (sat_cell 0 hs45 rfl rfl) (by decide) ?_)
                refine WL.consG rfl rfl (Eq.trans (b := .bool (decide (g.chunks < 1))) rfl (congrArg Value.bool (decide_eq_false hc46))) (OP.indexAddrA' 2 2 Try.underlying116 sz_3 rfl rfl rfl (by decide) rfl (by decide) ?_)
                refine WL.consG rfl rfl (Eq.trans (b := .bool (decide (g.chunks < 1))) rfl (congrArg Value.bool (decide_eq_false hc46))) (OP.loadS (Value.int .i64 16) sc_3 rfl (sat_cell 0 hs45 rfl rfl) (by decide) ?_)
                refine WL.consG rfl rfl (Eq.trans (b := .bool (decide (g.chunks < 1))) rfl (congrArg Value.bool (decide_eq_false hc46))) (OP.gtr rfl rfl (by decide) ?_)
                refine WL.cons rfl (OP.pickF (Value.bool (decide (g.chunks > 16))) (Eq.trans (b := .bool (decide (g.chunks < 1))) rfl (congrArg Value.bool (decide_eq_false hc46))) rfl (by decide) ?_)
                refine WL.nil (Qn.then ?_)
                refine W.iteP (p := g.chunks > 16) rfl (fun hc49 => ?_) (fun hc49 => ?_)
                · refine W.seq ?_
                  refine W.region ?_
                  refine WL.cons rfl (OP.assign (Value.int .i64 2) rfl (by decide) ?_)
                  refine WL.nil (Qn.then ?_)
                  refine W.ret (Qr.blk (Qr.then (Qr.then (Qr.blk (Qr.then (RetQ.of [(Value.int .i64 2)] (.inr rfl) Try.results59 (.cons (.tmp (by decide) rfl) .nil) ?_))))))
                  have hs51 : sat W0 [F] w43 := sat_sub' [5] [0, 1, 2, 3, 4] hs45 (by kernel_rfl) (by kernel_rfl)
                  exact ⟨(congrArg (Value.int .i64) (checkE_bad (fun hk_ => by have := hk_.planes; have := hk_.blocks; have := hk_.pages; have := hk_.chunks; have := hk_.chunk; have := hk_.rungs; have := hk_.partials; have := hk_.div; have := hk_.even; omega))), hs51⟩
                · refine W.skip (Qn.blk (Qn.then ?_))
                  refine W.region ?_
                  refine WL.cons rfl (OP.add 4 rfl rfl (by first | rfl | omega | simp) (by unfold inI64; omega) (by decide) ?_)
                  refine WL.cons rfl (OP.move (Value.int .i64 4) rfl (by decide) ?_)
                  refine WL.nil (Qn.then ?_)
                  refine rnds.go ?_
                  refine W.seq ?_
                  refine W.region ?_
                  refine WL.cons rfl (OP.lss rfl rfl (by decide) ?_)
                  refine WL.nil (Qn.then ?_)
                  refine W.seq ?_
                  refine W.iteT rfl ?_
                  refine W.skip (Qn.then ?_)
                  refine W.seq ?_
                  refine W.block ?_
                  refine W.seq ?_
                  refine W.region ?_
                  refine WL.cons rfl (OP.val (v := (Value.agg [(Value.int .i64 g.chunk), (Value.int .i64 4), (Value.int .i64 512)].toArray)) (w' := w43) (by decide) (by kernel_rfl) ?_)
                  refine WL.cons rfl (OP.alloc _ [(Value.int .i64 0), (Value.int .i64 0), (Value.int .i64 0)] hs45 ze_116 rfl (by decide) (fun b52 w53 hs54 => ?_))
                  refine WL.cons rfl (OP.store (Value.agg [(Value.int .i64 g.chunk), (Value.int .i64 4), (Value.int .i64 512)].toArray) [(Value.int .i64 g.chunk), (Value.int .i64 4), (Value.int .i64 512)] hs54 rfl rfl rfl sz_116 rfl (by rfl) (by simp) (fun w55 hs56 => ?_))
                  have hs57 : sat W0 [blk b52 [(Value.int .i64 g.chunk), (Value.int .i64 4), (Value.int .i64 512)] 116, blk b40 [(Value.int .i64 g.chunks), (Value.int .i64 1), (Value.int .i64 16)] 116, blk b28 [(Value.int .i64 g.pages), (Value.int .i64 4), (Value.int .i64 64)] 116, blk b16 [(Value.int .i64 g.blocks), (Value.int .i64 2), (Value.int .i64 256)] 116, blk b4 [(Value.int .i64 g.planes), (Value.int .i64 1), (Value.int .i64 4)] 116, blk b1 [(Value.int .i64 g.planes), (Value.int .i64 g.blocks), (Value.int .i64 g.pages), (Value.int .i64 g.chunks), (Value.int .i64 g.chunk), (Value.int .i64 g.rungs), (Value.int .i64 g.partials)] 34, F] w55 := hs56
                  refine WL.nil (Qn.then ?_)
                  refine W.seq ?_
                  refine W.region ?_
                  refine WL.cons rfl (OP.indexAddrA' 0 0 Try.underlying116 sz_3 rfl rfl rfl (by decide) rfl (by decide) ?_)
                  refine WL.cons rfl (OP.loadS (Value.int .i64 g.chunk) sc_3 rfl (sat_cell 0 hs57 rfl rfl) (by decide) ?_)
                  refine WL.cons rfl (OP.indexAddrA' 1 1 Try.underlying116 sz_3 rfl rfl rfl (by decide) rfl (by decide) ?_)
                  refine WL.cons rfl (OP.loadS (Value.int .i64 4) sc_3 rfl (sat_cell 0 hs57 rfl rfl) (by decide) ?_)
                  refine WL.cons rfl (OP.lss rfl rfl (by decide) ?_)
                  refine WL.cons rfl (OP.move (Value.bool (decide (g.chunk < 4))) rfl (by decide) ?_)
                  by_cases hc58 : g.chunk < 4
                  · refine WL.pass rfl rfl (Eq.trans (b := .bool (decide (g.chunk < 4))) rfl (congrArg Value.bool (decide_eq_true hc58))) rfl rfl (by decide) ?_
                    refine WL.pass rfl rfl (Eq.trans (b := .bool (decide (g.chunk < 4))) rfl (congrArg Value.bool (decide_eq_true hc58))) rfl rfl (by decide) ?_
                    refine WL.pass rfl rfl (Eq.trans (b := .bool (decide (g.chunk < 4))) rfl (congrArg Value.bool (decide_eq_true hc58))) rfl rfl (by decide) ?_
                    refine WL.pass rfl rfl (Eq.trans (b := .bool (decide (g.chunk < 4))) rfl (congrArg Value.bool (decide_eq_true hc58))) rfl rfl (by decide) ?_
                    refine WL.pass rfl rfl (Eq.trans (b := .bool (decide (g.chunk < 4))) rfl (congrArg Value.bool (decide_eq_true hc58))) rfl rfl (by decide) ?_
                    refine WL.cons rfl (OP.pickT (Value.bool true) (Eq.trans (b := .bool (decide (g.chunk < 4))) rfl (congrArg Value.bool (decide_eq_true hc58))) rfl (by decide) ?_)
                    refine WL.nil (Qn.then ?_)
                    refine W.iteT rfl ?_
                    refine W.seq ?_
                    refine W.region ?_
                    refine WL.cons rfl (OP.assign (Value.int .i64 2) rfl (by decide) ?_)
                    refine WL.nil (Qn.then ?_)
                    refine W.ret (Qr.blk (Qr.then (Qr.then (Qr.blk (Qr.then (RetQ.of [(Value.int .i64 2)] (.inr rfl) Try.results59 (.cons (.tmp (by decide) rfl) .nil) ?_))))))
                    have hs60 : sat W0 [F] w55 := sat_sub' [6] [0, 1, 2, 3, 4, 5] hs57 (by kernel_rfl) (by kernel_rfl)
                    exact ⟨(congrArg (Value.int .i64) (checkE_bad (fun hk_ => by have := hk_.planes; have := hk_.blocks; have := hk_.pages; have := hk_.chunks; have := hk_.chunk; have := hk_.rungs; have := hk_.partials; have := hk_.div; have := hk_.even; omega))), hs60⟩
                  · refine WL.consG rfl rfl (Eq.trans (b := .bool (decide (g.chunk < 4))) rfl (congrArg Value.bool (decide_eq_false hc58))) (OP.indexAddrA' 0 0 Try.underlying116 sz_3 rfl rfl rfl (by decide) rfl (by decide) ?_)
                    refine WL.consG rfl rfl (Eq.trans (b := .bool (decide (g.chunk < 4))) rfl (congrArg Value.bool (decide_eq_false hc58))) (OP.loadS (Value.int .i64 g.chunk) sc_3 rfl (sat_cell 0 hs57 rfl rfl) (by decide) ?_)
                    refine WL.consG rfl rfl (Eq.trans (b := .bool (decide (g.chunk < 4))) rfl (congrArg Value.bool (decide_eq_false hc58))) (OP.indexAddrA' 2 2 Try.underlying116 sz_3 rfl rfl rfl (by decide) rfl (by decide) ?_)
                    refine WL.consG rfl rfl (Eq.trans (b := .bool (decide (g.chunk < 4))) rfl (congrArg Value.bool (decide_eq_false hc58))) (OP.loadS (Value.int .i64 512) sc_3 rfl (sat_cell 0 hs57 rfl rfl) (by decide) ?_)
                    refine WL.consG rfl rfl (Eq.trans (b := .bool (decide (g.chunk < 4))) rfl (congrArg Value.bool (decide_eq_false hc58))) (OP.gtr rfl rfl (by decide) ?_)
                    refine WL.cons rfl (OP.pickF (Value.bool (decide (g.chunk > 512))) (Eq.trans (b := .bool (decide (g.chunk < 4))) rfl (congrArg Value.bool (decide_eq_false hc58))) rfl (by decide) ?_)
                    refine WL.nil (Qn.then ?_)
                    refine W.iteP (p := g.chunk > 512) rfl (fun hc61 => ?_) (fun hc61 => ?_)
                    · refine W.seq ?_
                      refine W.region ?_
                      refine WL.cons rfl (OP.assign (Value.int .i64 2) rfl (by decide) ?_)
                      refine WL.nil (Qn.then ?_)
                      refine W.ret (Qr.blk (Qr.then (Qr.then (Qr.blk (Qr.then (RetQ.of [(Value.int .i64 2)] (.inr rfl) Try.results59 (.cons (.tmp (by decide) rfl) .nil) ?_))))))
                      have hs63 : sat W0 [F] w55 := sat_sub' [6] [0, 1, 2, 3, 4, 5] hs57 (by kernel_rfl) (by kernel_rfl)
                      exact ⟨(congrArg (Value.int .i64) (checkE_bad (fun hk_ => by have := hk_.planes; have := hk_.blocks; have := hk_.pages; have := hk_.chunks; have := hk_.chunk; have := hk_.rungs; have := hk_.partials; have := hk_.div; have := hk_.even; omega))), hs63⟩
                    · refine W.skip (Qn.blk (Qn.then ?_))
                      refine W.region ?_
                      refine WL.cons rfl (OP.add 5 rfl rfl (by first | rfl | omega | simp) (by unfold inI64; omega) (by decide) ?_)
                      refine WL.cons rfl (OP.move (Value.int .i64 5) rfl (by decide) ?_)
                      refine WL.nil (Qn.then ?_)
                      refine rnds.go ?_
                      refine W.seq ?_
                      refine W.region ?_
                      refine WL.cons rfl (OP.lss rfl rfl (by decide) ?_)
                      refine WL.nil (Qn.then ?_)
                      refine W.seq ?_
                      refine W.iteT rfl ?_
                      refine W.skip (Qn.then ?_)
                      refine W.seq ?_
                      refine W.block ?_
                      refine W.seq ?_
                      refine W.region ?_
                      refine WL.cons rfl (OP.val (v := (Value.agg [(Value.int .i64 g.rungs), (Value.int .i64 1), (Value.int .i64 8)].toArray)) (w' := w55) (by decide) (by kernel_rfl) ?_)
                      refine WL.cons rfl (OP.alloc _ [(Value.int .i64 0), (Value.int .i64 0), (Value.int .i64 0)] hs57 ze_116 rfl (by decide) (fun b64 w65 hs66 => ?_))
                      refine WL.cons rfl (OP.store (Value.agg [(Value.int .i64 g.rungs), (Value.int .i64 1), (Value.int .i64 8)].toArray) [(Value.int .i64 g.rungs), (Value.int .i64 1), (Value.int .i64 8)] hs66 rfl rfl rfl sz_116 rfl (by rfl) (by simp) (fun w67 hs68 => ?_))
                      have hs69 : sat W0 [blk b64 [(Value.int .i64 g.rungs), (Value.int .i64 1), (Value.int .i64 8)] 116, blk b52 [(Value.int .i64 g.chunk), (Value.int .i64 4), (Value.int .i64 512)] 116, blk b40 [(Value.int .i64 g.chunks), (Value.int .i64 1), (Value.int .i64 16)] 116, blk b28 [(Value.int .i64 g.pages), (Value.int .i64 4), (Value.int .i64 64)] 116, blk b16 [(Value.int .i64 g.blocks), (Value.int .i64 2), (Value.int .i64 256)] 116, blk b4 [(Value.int .i64 g.planes), (Value.int .i64 1), (Value.int .i64 4)] 116, blk b1 [(Value.int .i64 g.planes), (Value.int .i64 g.blocks), (Value.int .i64 g.pages), (Value.int .i64 g.chunks), (Value.int .i64 g.chunk), (Value.int .i64 g.rungs), (Value.int .i64 g.partials)] 34, F] w67 := hs68
                      refine WL.nil (Qn.then ?_)
                      refine W.seq ?_
                      refine W.region ?_
                      refine WL.cons rfl (OP.indexAddrA' 0 0 Try.underlying116 sz_3 rfl rfl rfl (by decide) rfl (by decide) ?_)
                      refine WL.cons rfl (OP.loadS (Value.int .i64 g.rungs) sc_3 rfl (sat_cell 0 hs69 rfl rfl) (by decide) ?_)
                      refine WL.cons rfl (OP.indexAddrA' 1 1 Try.underlying116 sz_3 rfl rfl rfl (by decide) rfl (by decide) ?_)
                      refine WL.cons rfl (OP.loadS (Value.int .i64 1) sc_3 rfl (sat_cell 0 hs69 rfl rfl) (by decide) ?_)
                      refine WL.cons rfl (OP.lss rfl rfl (by decide) ?_)
                      refine WL.cons rfl (OP.move (Value.bool (decide (g.rungs < 1))) rfl (by decide) ?_)
                      by_cases hc70 : g.rungs < 1
                      · refine WL.pass rfl rfl (Eq.trans (b := .bool (decide (g.rungs < 1))) rfl (congrArg Value.bool (decide_eq_true hc70))) rfl rfl (by decide) ?_
                        refine WL.pass rfl rfl (Eq.trans (b := .bool (decide (g.rungs < 1))) rfl (congrArg Value.bool (decide_eq_true hc70))) rfl rfl (by decide) ?_
                        refine WL.pass rfl rfl (Eq.trans (b := .bool (decide (g.rungs < 1))) rfl (congrArg Value.bool (decide_eq_true hc70))) rfl rfl (by decide) ?_
                        refine WL.pass rfl rfl (Eq.trans (b := .bool (decide (g.rungs < 1))) rfl (congrArg Value.bool (decide_eq_true hc70))) rfl rfl (by decide) ?_
                        refine WL.pass rfl rfl (Eq.trans (b := .bool (decide (g.rungs < 1))) rfl (congrArg Value.bool (decide_eq_true hc70))) rfl rfl (by decide) ?_
                        refine WL.cons rfl (OP.pickT (Value.bool true) (Eq.trans (b := .bool (decide (g.rungs < 1))) rfl (congrArg Value.bool (decide_eq_true hc70))) rfl (by decide) ?_)
                        refine WL.nil (Qn.then ?_)
                        refine W.iteT rfl ?_
                        refine W.seq ?_
                        refine W.region ?_
                        refine WL.cons rfl (OP.assign (Value.int .i64 2) rfl (by decide) ?_)
                        refine WL.nil (Qn.then ?_)
                        refine W.ret (Qr.blk (Qr.then (Qr.then (Qr.blk (Qr.then (RetQ.of [(Value.int .i64 2)] (.inr rfl) Try.results59 (.cons (.tmp (by decide) rfl) .nil) ?_))))))
                        have hs72 : sat W0 [F] w67 := sat_sub' [7] [0, 1, 2, 3, 4, 5, 6] hs69 (by kernel_rfl) (by kernel_rfl)
                        exact ⟨(congrArg (Value.int .i64) (checkE_bad (fun hk_ => by have := hk_.planes; have := hk_.blocks; have := hk_.pages; have := hk_.chunks; have := hk_.chunk; have := hk_.rungs; have := hk_.partials; have := hk_.div; have := hk_.even; omega))), hs72⟩
                      · refine WL.consG rfl rfl (Eq.trans (b := .bool (decide (g.rungs < 1))) rfl (congrArg Value.bool (decide_eq_false hc70))) (OP.indexAddrA' 0 0 Try.underlying116 sz_3 rfl rfl rfl (by decide) rfl (by decide) ?_)
                        refine WL.consG rfl rfl (Eq.trans (b := .bool (decide (g.rungs < 1))) rfl (congrArg Value.bool (decide_eq_false hc70))) (OP.loadS (Value.int .i64 g.rungs) sc_3 rfl (sat_cell 0 hs69 rfl rfl) (by decide) ?_)
                        refine WL.consG rfl rfl (Eq.trans (b := .bool (decide (g.rungs < 1))) rfl (congrArg Value.bool (decide_eq_false hc70))) (OP.indexAddrA' 2 2 Try.underlying116 sz_3 rfl rfl rfl (by decide) rfl (by decide) ?_)
                        refine WL.consG rfl rfl (Eq.trans (b := .bool (decide (g.rungs < 1))) rfl (congrArg Value.bool (decide_eq_false hc70))) (OP.loadS (Value.int .i64 8) sc_3 rfl (sat_cell 0 hs69 rfl rfl) (by decide) ?_)
                        refine WL.consG rfl rfl (Eq.trans (b := .bool (decide (g.rungs < 1))) rfl (congrArg Value.bool (decide_eq_false hc70))) (OP.gtr rfl rfl (by decide) ?_)
                        refine WL.cons rfl (OP.pickF (Value.bool (decide (g.rungs > 8))) (Eq.trans (b := .bool (decide (g.rungs < 1))) rfl (congrArg Value.bool (decide_eq_false hc70))) rfl (by decide) ?_)
                        refine WL.nil (Qn.then ?_)
                        refine W.iteP (p := g.rungs > 8) rfl (fun hc73 => ?_) (fun hc73 => ?_)
                        · refine W.seq ?_
                          refine W.region ?_
                          refine WL.cons rfl (OP.assign (Value.int .i64 2) rfl (by decide) ?_)
                          refine WL.nil (Qn.then ?_)
                          refine W.ret (Qr.blk (Qr.then (Qr.then (Qr.blk (Qr.then (RetQ.of [(Value.int .i64 2)] (.inr rfl) Try.results59 (.cons (.tmp (by decide) rfl) .nil) ?_))))))
                          have hs75 : sat W0 [F] w67 := sat_sub' [7] [0, 1, 2, 3, 4, 5, 6] hs69 (by kernel_rfl) (by kernel_rfl)
                          exact ⟨(congrArg (Value.int .i64) (checkE_bad (fun hk_ => by have := hk_.planes; have := hk_.blocks; have := hk_.pages; have := hk_.chunks; have := hk_.chunk; have := hk_.rungs; have := hk_.partials; have := hk_.div; have := hk_.even; omega))), hs75⟩
                        · refine W.skip (Qn.blk (Qn.then ?_))
                          refine W.region ?_
                          refine WL.cons rfl (OP.add 6 rfl rfl (by first | rfl | omega | simp) (by unfold inI64; omega) (by decide) ?_)
                          refine WL.cons rfl (OP.move (Value.int .i64 6) rfl (by decide) ?_)
                          refine WL.nil (Qn.then ?_)
                          refine rnds.go ?_
                          refine W.seq ?_
                          refine W.region ?_
                          refine WL.cons rfl (OP.lss rfl rfl (by decide) ?_)
                          refine WL.nil (Qn.then ?_)
                          refine W.seq ?_
                          refine W.iteT rfl ?_
                          refine W.skip (Qn.then ?_)
                          refine W.seq ?_
                          refine W.block ?_
                          refine W.seq ?_
                          refine W.region ?_
                          refine WL.cons rfl (OP.val (v := (Value.agg [(Value.int .i64 g.partials), (Value.int .i64 1), (Value.int .i64 8)].toArray)) (w' := w67) (by decide) (by kernel_rfl) ?_)
                          refine WL.cons rfl (OP.alloc _ [(Value.int .i64 0), (Value.int .i64 0), (Value.int .i64 0)] hs69 ze_116 rfl (by decide) (fun b76 w77 hs78 => ?_))
                          refine WL.cons rfl (OP.store (Value.agg [(Value.int .i64 g.partials), (Value.int .i64 1), (Value.int .i64 8)].toArray) [(Value.int .i64 g.partials), (Value.int .i64 1), (Value.int .i64 8)] hs78 rfl rfl rfl sz_116 rfl (by rfl) (by simp) (fun w79 hs80 => ?_))
                          have hs81 : sat W0 [blk b76 [(Value.int .i64 g.partials), (Value.int .i64 1), (Value.int .i64 8)] 116, blk b64 [(Value.int .i64 g.rungs), (Value.int .i64 1), (Value.int .i64 8)] 116, blk b52 [(Value.int .i64 g.chunk), (Value.int .i64 4), (Value.int .i64 512)] 116, blk b40 [(Value.int .i64 g.chunks), (Value.int .i64 1), (Value.int .i64 16)] 116, blk b28 [(Value.int .i64 g.pages), (Value.int .i64 4), (Value.int .i64 64)] 116, blk b16 [(Value.int .i64 g.blocks), (Value.int .i64 2), (Value.int .i64 256)] 116, blk b4 [(Value.int .i64 g.planes), (Value.int .i64 1), (Value.int .i64 4)] 116, blk b1 [(Value.int .i64 g.planes), (Value.int .i64 g.blocks), (Value.int .i64 g.pages), (Value.int .i64 g.chunks), (Value.int .i64 g.chunk), (Value.int .i64 g.rungs), (Value.int .i64 g.partials)] 34, F] w79 := hs80
                          refine WL.nil (Qn.then ?_)
                          refine W.seq ?_
                          refine W.region ?_
                          refine WL.cons rfl (OP.indexAddrA' 0 0 Try.underlying116 sz_3 rfl rfl rfl (by decide) rfl (by decide) ?_)
                          refine WL.cons rfl (OP.loadS (Value.int .i64 g.partials) sc_3 rfl (sat_cell 0 hs81 rfl rfl) (by decide) ?_)
                          refine WL.cons rfl (OP.indexAddrA' 1 1 Try.underlying116 sz_3 rfl rfl rfl (by decide) rfl (by decide) ?_)
                          refine WL.cons rfl (OP.loadS (Value.int .i64 1) sc_3 rfl (sat_cell 0 hs81 rfl rfl) (by decide) ?_)
                          refine WL.cons rfl (OP.lss rfl rfl (by decide) ?_)
                          refine WL.cons rfl (OP.move (Value.bool (decide (g.partials < 1))) rfl (by decide) ?_)
                          by_cases hc82 : g.partials < 1
                          · refine WL.pass rfl rfl (Eq.trans (b := .bool (decide (g.partials < 1))) rfl (congrArg Value.bool (decide_eq_true hc82))) rfl rfl (by decide) ?_
                            refine WL.pass rfl rfl (Eq.trans (b := .bool (decide (g.partials < 1))) rfl (congrArg Value.bool (decide_eq_true hc82))) rfl rfl (by decide) ?_
                            refine WL.pass rfl rfl (Eq.trans (b := .bool (decide (g.partials < 1))) rfl (congrArg Value.bool (decide_eq_true hc82))) rfl rfl (by decide) ?_
                            refine WL.pass rfl rfl (Eq.trans (b := .bool (decide (g.partials < 1))) rfl (congrArg Value.bool (decide_eq_true hc82))) rfl rfl (by decide) ?_
                            refine WL.pass rfl rfl (Eq.trans (b := .bool (decide (g.partials < 1))) rfl (congrArg Value.bool (decide_eq_true hc82))) rfl rfl (by decide) ?_
                            refine WL.cons rfl (OP.pickT (Value.bool true) (Eq.trans (b := .bool (decide (g.partials < 1))) rfl (congrArg Value.bool (decide_eq_true hc82))) rfl (by decide) ?_)
                            refine WL.nil (Qn.then ?_)
                            refine W.iteT rfl ?_
                            refine W.seq ?_
                            refine W.region ?_
                            refine WL.cons rfl (OP.assign (Value.int .i64 2) rfl (by decide) ?_)
                            refine WL.nil (Qn.then ?_)
                            refine W.ret (Qr.blk (Qr.then (Qr.then (Qr.blk (Qr.then (RetQ.of [(Value.int .i64 2)] (.inr rfl) Try.results59 (.cons (.tmp (by decide) rfl) .nil) ?_))))))
                            have hs84 : sat W0 [F] w79 := sat_sub' [8] [0, 1, 2, 3, 4, 5, 6, 7] hs81 (by kernel_rfl) (by kernel_rfl)
                            exact ⟨(congrArg (Value.int .i64) (checkE_bad (fun hk_ => by have := hk_.planes; have := hk_.blocks; have := hk_.pages; have := hk_.chunks; have := hk_.chunk; have := hk_.rungs; have := hk_.partials; have := hk_.div; have := hk_.even; omega))), hs84⟩
                          · refine WL.consG rfl rfl (Eq.trans (b := .bool (decide (g.partials < 1))) rfl (congrArg Value.bool (decide_eq_false hc82))) (OP.indexAddrA' 0 0 Try.underlying116 sz_3 rfl rfl rfl (by decide) rfl (by decide) ?_)
                            refine WL.consG rfl rfl (Eq.trans (b := .bool (decide (g.partials < 1))) rfl (congrArg Value.bool (decide_eq_false hc82))) (OP.loadS (Value.int .i64 g.partials) sc_3 rfl (sat_cell 0 hs81 rfl rfl) (by decide) ?_)
                            refine WL.consG rfl rfl (Eq.trans (b := .bool (decide (g.partials < 1))) rfl (congrArg Value.bool (decide_eq_false hc82))) (OP.indexAddrA' 2 2 Try.underlying116 sz_3 rfl rfl rfl (by decide) rfl (by decide) ?_)
                            refine WL.consG rfl rfl (Eq.trans (b := .bool (decide (g.partials < 1))) rfl (congrArg Value.bool (decide_eq_false hc82))) (OP.loadS (Value.int .i64 8) sc_3 rfl (sat_cell 0 hs81 rfl rfl) (by decide) ?_)
                            refine WL.consG rfl rfl (Eq.trans (b := .bool (decide (g.partials < 1))) rfl (congrArg Value.bool (decide_eq_false hc82))) (OP.gtr rfl rfl (by decide) ?_)
                            refine WL.cons rfl (OP.pickF (Value.bool (decide (g.partials > 8))) (Eq.trans (b := .bool (decide (g.partials < 1))) rfl (congrArg Value.bool (decide_eq_false hc82))) rfl (by decide) ?_)
                            refine WL.nil (Qn.then ?_)
                            refine W.iteP (p := g.partials > 8) rfl (fun hc85 => ?_) (fun hc85 => ?_)
                            · refine W.seq ?_
                              refine W.region ?_
                              refine WL.cons rfl (OP.assign (Value.int .i64 2) rfl (by decide) ?_)
                              refine WL.nil (Qn.then ?_)
                              refine W.ret (Qr.blk (Qr.then (Qr.then (Qr.blk (Qr.then (RetQ.of [(Value.int .i64 2)] (.inr rfl) Try.results59 (.cons (.tmp (by decide) rfl) .nil) ?_))))))
                              have hs87 : sat W0 [F] w79 := sat_sub' [8] [0, 1, 2, 3, 4, 5, 6, 7] hs81 (by kernel_rfl) (by kernel_rfl)
                              exact ⟨(congrArg (Value.int .i64) (checkE_bad (fun hk_ => by have := hk_.planes; have := hk_.blocks; have := hk_.pages; have := hk_.chunks; have := hk_.chunk; have := hk_.rungs; have := hk_.partials; have := hk_.div; have := hk_.even; omega))), hs87⟩
                            · refine W.skip (Qn.blk (Qn.then ?_))
                              refine W.region ?_
                              refine WL.cons rfl (OP.add 7 rfl rfl (by first | rfl | omega | simp) (by unfold inI64; omega) (by decide) ?_)
                              refine WL.cons rfl (OP.move (Value.int .i64 7) rfl (by decide) ?_)
                              refine WL.nil (Qn.then ?_)
                              refine rnds.go ?_
                              refine W.seq ?_
                              refine W.region ?_
                              refine WL.cons rfl (OP.lss rfl rfl (by decide) ?_)
                              refine WL.nil (Qn.then ?_)
                              refine W.seq ?_
                              refine W.iteF rfl ?_
                              refine W.exit (Qx.then (Qx.then (Qx.hit (Qn.then ?_))))
                              refine W.seq ?_
                              refine W.seq ?_
                              refine W.region ?_
                              refine WL.cons rfl (OP.fieldAddr 1 fo_34_1 rfl rfl (by decide) ?_)
                              refine WL.cons rfl (OP.loadS (Value.int .i64 g.blocks) sc_3 rfl (sat_cell 7 hs81 rfl rfl) (by decide) ?_)
                              refine WL.cons rfl (OP.fieldAddr 0 fo_34_0 rfl rfl (by decide) ?_)
                              refine WL.cons rfl (OP.loadS (Value.int .i64 g.planes) sc_3 rfl (sat_cell 7 hs81 rfl rfl) (by decide) ?_)
                              refine WL.cons rfl (OP.rem rfl rfl (by omega) (by omega) (by unfold inI64; omega) (by decide) ?_)
                              refine WL.cons rfl (OP.neI rfl rfl (by decide) ?_)
                              refine WL.cons rfl (OP.move (Value.bool (decide (g.blocks % g.planes ≠ 0))) rfl (by decide) ?_)
                              by_cases hc88 : g.blocks % g.planes ≠ 0
                              · refine WL.pass rfl rfl (Eq.trans (b := .bool (decide (g.blocks % g.planes ≠ 0))) rfl (congrArg Value.bool (decide_eq_true hc88))) rfl rfl (by decide) ?_
                                refine WL.pass rfl rfl (Eq.trans (b := .bool (decide (g.blocks % g.planes ≠ 0))) rfl (congrArg Value.bool (decide_eq_true hc88))) rfl rfl (by decide) ?_
                                refine WL.pass rfl rfl (Eq.trans (b := .bool (decide (g.blocks % g.planes ≠ 0))) rfl (congrArg Value.bool (decide_eq_true hc88))) rfl rfl (by decide) ?_
                                refine WL.pass rfl rfl (Eq.trans (b := .bool (decide (g.blocks % g.planes ≠ 0))) rfl (congrArg Value.bool (decide_eq_true hc88))) rfl rfl (by decide) ?_
                                refine WL.cons rfl (OP.pickT (Value.bool true) (Eq.trans (b := .bool (decide (g.blocks % g.planes ≠ 0))) rfl (congrArg Value.bool (decide_eq_true hc88))) rfl (by decide) ?_)
                                refine WL.nil (Qn.then ?_)
                                refine W.iteT rfl ?_
                                refine W.seq ?_
                                refine W.region ?_
                                refine WL.cons rfl (OP.assign (Value.int .i64 2) rfl (by decide) ?_)
                                refine WL.nil (Qn.then ?_)
                                refine W.ret (Qr.then (RetQ.of [(Value.int .i64 2)] (.inr rfl) Try.results59 (.cons (.tmp (by decide) rfl) .nil) ?_))
                                have hs90 : sat W0 [F] w79 := sat_sub' [8] [0, 1, 2, 3, 4, 5, 6, 7] hs81 (by kernel_rfl) (by kernel_rfl)
                                exact ⟨(congrArg (Value.int .i64) (checkE_bad (fun hk_ => by have := hk_.planes; have := hk_.blocks; have := hk_.pages; have := hk_.chunks; have := hk_.chunk; have := hk_.rungs; have := hk_.partials; have := hk_.div; have := hk_.even; omega))), hs90⟩
                              · refine WL.consG rfl rfl (Eq.trans (b := .bool (decide (g.blocks % g.planes ≠ 0))) rfl (congrArg Value.bool (decide_eq_false hc88))) (OP.fieldAddr 2 fo_34_2 rfl rfl (by decide) ?_)
                                refine WL.consG rfl rfl (Eq.trans (b := .bool (decide (g.blocks % g.planes ≠ 0))) rfl (congrArg Value.bool (decide_eq_false hc88))) (OP.loadS (Value.int .i64 g.pages) sc_3 rfl (sat_cell 7 hs81 rfl rfl) (by decide) ?_)
                                refine WL.consG rfl rfl (Eq.trans (b := .bool (decide (g.blocks % g.planes ≠ 0))) rfl (congrArg Value.bool (decide_eq_false hc88))) (OP.rem rfl rfl (by omega) (by omega) (by unfold inI64; omega) (by decide) ?_)
                                refine WL.consG rfl rfl (Eq.trans (b := .bool (decide (g.blocks % g.planes ≠ 0))) rfl (congrArg Value.bool (decide_eq_false hc88))) (OP.neI rfl rfl (by decide) ?_)
                                refine WL.cons rfl (OP.pickF (Value.bool (decide (g.pages % 2 ≠ 0))) (Eq.trans (b := .bool (decide (g.blocks % g.planes ≠ 0))) rfl (congrArg Value.bool (decide_eq_false hc88))) rfl (by decide) ?_)
                                refine WL.nil (Qn.then ?_)
                                refine W.iteP (p := g.pages % 2 ≠ 0) rfl (fun hc91 => ?_) (fun hc91 => ?_)
                                · refine W.seq ?_
                                  refine W.region ?_
                                  refine WL.cons rfl (OP.assign (Value.int .i64 2) rfl (by decide) ?_)
                                  refine WL.nil (Qn.then ?_)
                                  refine W.ret (Qr.then (RetQ.of [(Value.int .i64 2)] (.inr rfl) Try.results59 (.cons (.tmp (by decide) rfl) .nil) ?_))
                                  have hs93 : sat W0 [F] w79 := sat_sub' [8] [0, 1, 2, 3, 4, 5, 6, 7] hs81 (by kernel_rfl) (by kernel_rfl)
                                  exact ⟨(congrArg (Value.int .i64) (checkE_bad (fun hk_ => by have := hk_.planes; have := hk_.blocks; have := hk_.pages; have := hk_.chunks; have := hk_.chunk; have := hk_.rungs; have := hk_.partials; have := hk_.div; have := hk_.even; omega))), hs93⟩
                                · refine W.skip (Qn.then ?_)
                                  refine W.seq ?_
                                  refine W.region ?_
                                  refine WL.cons rfl (OP.assign (Value.int .i64 0) rfl (by decide) ?_)
                                  refine WL.nil (Qn.then ?_)
                                  refine W.ret (RetQ.of [(Value.int .i64 0)] (.inr rfl) Try.results59 (.cons (.tmp (by decide) rfl) .nil) ?_)
                                  have hs95 : sat W0 [F] w79 := sat_sub' [8] [0, 1, 2, 3, 4, 5, 6, 7] hs81 (by kernel_rfl) (by kernel_rfl)
                                  exact ⟨(congrArg (Value.int .i64) (checkE_ok ⟨by omega, by omega, by omega, by omega, by omega, by omega, by omega, by omega, by omega⟩)), hs95⟩

end Go.Proofs.Ytleolejhkdolpaa
