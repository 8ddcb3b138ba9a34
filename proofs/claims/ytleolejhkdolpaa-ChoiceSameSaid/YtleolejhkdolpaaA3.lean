import Derived.Test.YtleolejhkdolpaaA2
import Derived.Test.YtleolejhkdolpaaModT
import Derived.KernelRfl
set_option linter.unusedVariables false
set_option linter.unusedSimpArgs false
set_option maxRecDepth 100000
set_option maxHeartbeats 4000000
namespace Go.Proofs.Ytleolejhkdolpaa
open Go Go.RowKit Sv
theorem choice_Right_1 {W0 : World} {F : HProp} {w : World}  (n : Int)  
    (hs : sat W0 [F] w) :
    Calls Try.prog 61 ([(Value.int .i64 n)] : List Value).toArray w (fun x_ w' => ∃ v_, x_ = .returned v_ ∧ (v_ = (Value.bool (!withinB n 0 65536)) ∧ sat W0 [F] w')) := by
  refine W.enter Try.func61 rfl Try.ntmps61 (by simp) ?_
  refine W.seq ?_
  refine W.region ?_
  refine WL.cons rfl (OP.assign (Value.bool false) rfl (by decide) ?_)
  refine WL.nil (Qn.then ?_)
  refine W.seq ?_
  refine W.region ?_
  refine WL.cons rfl (OP.move (Value.int .i64 n) rfl (by decide) ?_)
  have hs1 : sat W0 [stars [F]] w := sat_pack' [] [F] hs (by kernel_rfl) (by kernel_rfl)
  have hcl4 := choice_within n 0 65536 hs1
  refine WL.cons rfl (?_)
  with_reducible refine OP.call [(Value.int .i64 n), (Value.int .i64 0), (Value.int .i64 65536)] gf_58 ?_ ?_ hcl4 ?_
  · exact rfl
  · decide
  clear hcl4
  rintro _ w2 ⟨_, rfl, rfl, hs3⟩
  refine ⟨_, rfl, ?_⟩
  have hs5 : sat W0 [F] w2 := sat_flat' [] [F] hs3 (by kernel_rfl) (by kernel_rfl)
  refine WL.cons rfl (OP.not rfl (by decide) ?_)
  refine WL.cons rfl (OP.assign (Value.bool (!(withinB n 0 65536))) rfl (by decide) ?_)
  refine WL.nil (Qn.then ?_)
  refine W.ret (RetQ.of [(Value.bool (!(withinB n 0 65536)))] (.inr rfl) Try.results61 (.cons (.tmp (by decide) rfl) .nil) ?_)
  exact ⟨(by first | rfl | simp_all), hs5⟩

theorem choice_Right_2 {W0 : World} {F : HProp} {w : World}  (g : Geom) (t : Turn) (b : Nat) (hok : g.Ok) (hb : Ent W0 F (fun w => Rdn w b 0 (encGeom g))) 
    (hs : sat W0 [F] w) :
    Calls Try.prog 63 ([(Value.agg [(Value.int .i64 t.row), (Value.int .i64 t.rung), (Value.int .i64 t.bit)].toArray), (Value.pointer (some ⟨b, 0, none⟩))] : List Value).toArray w (fun x_ w' => ∃ v_, x_ = .returned v_ ∧ (v_ = (Value.bool (badTurn g t)) ∧ sat W0 [F] w')) := by
  have hk1_ := hok.blocks
  have hk2_ := hok.pages
  have hk3_ := hok.rungs
  have hk4_ := mul_bound (a := g.blocks) (b := g.pages) (A := 256) (B := 64) (by omega) (by omega) (by omega) (by omega)
  have hk5_ := rawN_bound g
  refine W.enter Try.func63 rfl Try.ntmps63 (by simp) ?_
  refine W.seq ?_
  refine W.region ?_
  refine WL.cons rfl (OP.box (Value.agg [(Value.int .i64 t.row), (Value.int .i64 t.rung), (Value.int .i64 t.bit)].toArray) [(Value.int .i64 t.row), (Value.int .i64 t.rung), (Value.int .i64 t.bit)] hs rfl rfl (by decide) (fun b1 w2 hs3 => ?_))
  refine WL.cons rfl (OP.assign (Value.bool false) rfl (by decide) ?_)
  refine WL.nil (Qn.then ?_)
  refine W.seq ?_
  refine W.draw (fun w => sat W0 [blk b1 [(Value.int .i64 t.row), (Value.int .i64 t.rung), (Value.int .i64 t.bit)] 38, F] w) (by kernel_rfl) hs3 (fun w4 hs5 => ?_)
  refine WA.take 0 rfl rfl rfl rfl (by kernel_rfl) (by kernel_rfl) (by kernel_rfl) ?_ (by decide) (v := (Value.pointer (some ⟨b1, 0, none⟩))) (fun w7 hw6 => OP.fieldAddr 0 fo_38_0 rfl rfl (by decide) ⟨rfl, rfl⟩) ?_
  · exact hs5
  refine WA.take 1 rfl rfl rfl rfl (by kernel_rfl) (by kernel_rfl) (by kernel_rfl) ?_ (by decide) (v := (Value.int .i64 t.row)) (fun w9 hw8 => OP.loadS (Value.int .i64 t.row) sc_3 rfl (sat_cell 0 hw8 rfl rfl) (by decide) ⟨rfl, rfl⟩) ?_
  · exact hs5
  refine WA.take 2 rfl rfl rfl rfl (by kernel_rfl) (by kernel_rfl) (by kernel_rfl) ?_ (by decide) (v := (Value.pointer (some ⟨b, 1, none⟩))) (fun w11 hw10 => OP.fieldAddr 1 fo_34_1 rfl rfl (by decide) ⟨rfl, rfl⟩) ?_
  · exact hs5
  refine WA.take 3 rfl rfl rfl rfl (by kernel_rfl) (by kernel_rfl) (by kernel_rfl) ?_ (by decide) (v := (Value.int .i64 g.blocks)) (fun w13 hw12 => OP.loadS (Value.int .i64 g.blocks) sc_3 rfl (rdn_cell (Ent_sat 1 rfl hb hw12) rfl) (by decide) ⟨rfl, rfl⟩) ?_
  · exact hs5
  refine WA.take 4 rfl rfl rfl rfl (by kernel_rfl) (by kernel_rfl) (by kernel_rfl) ?_ (by decide) (v := (Value.pointer (some ⟨b, 2, none⟩))) (fun w15 hw14 => OP.fieldAddr 2 fo_34_2 rfl rfl (by decide) ⟨rfl, rfl⟩) ?_
  · exact hs5
  refine WA.take 5 rfl rfl rfl rfl (by kernel_rfl) (by kernel_rfl) (by kernel_rfl) ?_ (by decide) (v := (Value.int .i64 g.pages)) (fun w17 hw16 => OP.loadS (Value.int .i64 g.pages) sc_3 rfl (rdn_cell (Ent_sat 1 rfl hb hw16) rfl) (by decide) ⟨rfl, rfl⟩) ?_
  · exact hs5
  refine WA.take 6 rfl rfl rfl rfl (by kernel_rfl) (by kernel_rfl) (by kernel_rfl) ?_ (by decide) (v := (Value.int .i64 (g.blocks * g.pages))) (fun w19 hw18 => OP.mul (g.blocks * g.pages) rfl rfl (by first | rfl | omega | simp) (by unfold inI64; omega) (by decide) ⟨rfl, rfl⟩) ?_
  · exact hs5
  refine WA.take 7 rfl rfl rfl rfl (by kernel_rfl) (by kernel_rfl) (by kernel_rfl) ?_ (by decide) (v := (Value.int .i64 ((g.blocks * g.pages) - 1))) (fun w21 hw20 => OP.sub ((g.blocks * g.pages) - 1) rfl rfl (by first | rfl | omega | simp) (by unfold inI64; omega) (by decide) ⟨rfl, rfl⟩) ?_
  · exact hs5
  refine WA.all [8] (by kernel_rfl) (by simp) ?_
  refine WAs.cons (oi := (Go.Oper.mk (some 12) (Go.Op.call (Go.Call.mk (Go.Callee.value (Go.Operand.func 58)) #[(Go.Operand.tmp 5), (Go.Operand.const (Go.Value.int Go.IntKind.i64 0)), (Go.Operand.tmp 11)] #[3, 3, 3])) 4 "choice.go:49" #[(Go.Edge.mk 1 Go.Ground.data), (Go.Edge.mk 7 Go.Ground.data)] none)) rfl rfl ?_ ?_
  · have hs22 : sat W0 [stars [blk b1 [(Value.int .i64 t.row), (Value.int .i64 t.rung), (Value.int .i64 t.bit)] 38, F]] w4 := sat_pack' [] [blk b1 [(Value.int .i64 t.row), (Value.int .i64 t.rung), (Value.int .i64 t.bit)] 38, F] hs5 (by kernel_rfl) (by kernel_rfl)
    have hcl25 := choice_within t.row 0 ((g.blocks * g.pages) - 1) hs22
    refine ?_
    with_reducible refine OP.call [(Value.int .i64 t.row), (Value.int .i64 0), (Value.int .i64 ((g.blocks * g.pages) - 1))] gf_58 ?_ ?_ hcl25 ?_
    · exact rfl
    · decide
    clear hcl25
    rintro _ w23 ⟨_, rfl, rfl, hs24⟩
    refine ⟨_, rfl, ?_⟩
    have hs26 : sat W0 [blk b1 [(Value.int .i64 t.row), (Value.int .i64 t.rung), (Value.int .i64 t.bit)] 38, F] w23 := sat_flat' [] [blk b1 [(Value.int .i64 t.row), (Value.int .i64 t.rung), (Value.int .i64 t.bit)] 38, F] hs24 (by kernel_rfl) (by kernel_rfl)
    refine ⟨?_, ?_⟩
    · exact hs26
    refine WA.take 9 rfl rfl rfl rfl (by kernel_rfl) (by kernel_rfl) (by kernel_rfl) ?_ (by decide) (v := (Value.bool (!(withinB t.row 0 ((g.blocks * g.pages) - 1))))) (fun w28 hw27 => OP.not rfl (by decide) ⟨rfl, rfl⟩) ?_
    · exact hs26
    refine WA.take 10 rfl rfl rfl rfl (by kernel_rfl) (by kernel_rfl) (by kernel_rfl) ?_ (by decide) (v := (Value.bool (!(withinB t.row 0 ((g.blocks * g.pages) - 1))))) (fun w30 hw29 => OP.move (Value.bool (!(withinB t.row 0 ((g.blocks * g.pages) - 1)))) rfl (by decide) ⟨rfl, rfl⟩) ?_
    · exact hs26
    rcases Bool.eq_false_or_eq_true (!(withinB t.row 0 ((g.blocks * g.pages) - 1))) with hc31 | hc31
    · refine WA.passG 11 rfl rfl rfl rfl (Eq.trans (b := .bool (!(withinB t.row 0 ((g.blocks * g.pages) - 1)))) rfl (congrArg Value.bool (hc31))) rfl (by kernel_rfl) (by kernel_rfl) (by kernel_rfl) ?_ (by decide) ?_
      · exact hs26
      refine WA.passG 12 rfl rfl rfl rfl (Eq.trans (b := .bool (!(withinB t.row 0 ((g.blocks * g.pages) - 1)))) rfl (congrArg Value.bool (hc31))) rfl (by kernel_rfl) (by kernel_rfl) (by kernel_rfl) ?_ (by decide) ?_
      · exact hs26
      refine WA.passG 13 rfl rfl rfl rfl (Eq.trans (b := .bool (!(withinB t.row 0 ((g.blocks * g.pages) - 1)))) rfl (congrArg Value.bool (hc31))) rfl (by kernel_rfl) (by kernel_rfl) (by kernel_rfl) ?_ (by decide) ?_
      · exact hs26
      refine WA.passG 14 rfl rfl rfl rfl (Eq.trans (b := .bool (!(withinB t.row 0 ((g.blocks * g.pages) - 1)))) rfl (congrArg Value.bool (hc31))) rfl (by kernel_rfl) (by kernel_rfl) (by kernel_rfl) ?_ (by decide) ?_
      · exact hs26
      refine WA.passG 15 rfl rfl rfl rfl (Eq.trans (b := .bool (!(withinB t.row 0 ((g.blocks * g.pages) - 1)))) rfl (congrArg Value.bool (hc31))) rfl (by kernel_rfl) (by kernel_rfl) (by kernel_rfl) ?_ (by decide) ?_
      · exact hs26
      refine WA.passG 16 rfl rfl rfl rfl (Eq.trans (b := .bool (!(withinB t.row 0 ((g.blocks * g.pages) - 1)))) rfl (congrArg Value.bool (hc31))) rfl (by kernel_rfl) (by kernel_rfl) (by kernel_rfl) ?_ (by decide) ?_
      · exact hs26
      refine WA.passG 17 rfl rfl rfl rfl (Eq.trans (b := .bool (!(withinB t.row 0 ((g.blocks * g.pages) - 1)))) rfl (congrArg Value.bool (hc31))) rfl (by kernel_rfl) (by kernel_rfl) (by kernel_rfl) ?_ (by decide) ?_
      · exact hs26
      refine WA.take 18 rfl rfl rfl rfl (by kernel_rfl) (by kernel_rfl) (by kernel_rfl) ?_ (by decide) (v := (Value.bool true)) (fun w33 hw32 => OP.pickT (Value.bool true) (Eq.trans (b := .bool (!(withinB t.row 0 ((g.blocks * g.pages) - 1)))) rfl (congrArg Value.bool (hc31))) rfl (by decide) ⟨rfl, rfl⟩) ?_
      · exact hs26
      refine WA.take 19 rfl rfl rfl rfl (by kernel_rfl) (by kernel_rfl) (by kernel_rfl) ?_ (by decide) (v := (Value.bool true)) (fun w35 hw34 => OP.move (Value.bool true) rfl (by decide) ⟨rfl, rfl⟩) ?_
      · exact hs26
      refine WA.passG 20 rfl rfl rfl rfl rfl rfl (by kernel_rfl) (by kernel_rfl) (by kernel_rfl) ?_ (by decide) ?_
      · exact hs26
      refine WA.passG 21 rfl rfl rfl rfl rfl rfl (by kernel_rfl) (by kernel_rfl) (by kernel_rfl) ?_ (by decide) ?_
      · exact hs26
      refine WA.passG 22 rfl rfl rfl rfl rfl rfl (by kernel_rfl) (by kernel_rfl) (by kernel_rfl) ?_ (by decide) ?_
      · exact hs26
      refine WA.passG 23 rfl rfl rfl rfl rfl rfl (by kernel_rfl) (by kernel_rfl) (by kernel_rfl) ?_ (by decide) ?_
      · exact hs26
      refine WA.passG 24 rfl rfl rfl rfl rfl rfl (by kernel_rfl) (by kernel_rfl) (by kernel_rfl) ?_ (by decide) ?_
      · exact hs26
      refine WA.passG 25 rfl rfl rfl rfl rfl rfl (by kernel_rfl) (by kernel_rfl) (by kernel_rfl) ?_ (by decide) ?_
      · exact hs26
      refine WA.passG 26 rfl rfl rfl rfl rfl rfl (by kernel_rfl) (by kernel_rfl) (by kernel_rfl) ?_ (by decide) ?_
      · exact hs26
      refine WA.passG 27 rfl rfl rfl rfl rfl rfl (by kernel_rfl) (by kernel_rfl) (by kernel_rfl) ?_ (by decide) ?_
      · exact hs26
      refine WA.take 28 rfl rfl rfl rfl (by kernel_rfl) (by kernel_rfl) (by kernel_rfl) ?_ (by decide) (v := (Value.bool true)) (fun w37 hw36 => OP.pickT (Value.bool true) rfl rfl (by decide) ⟨rfl, rfl⟩) ?_
      · exact hs26
      refine WA.take 29 rfl rfl rfl rfl (by kernel_rfl) (by kernel_rfl) (by kernel_rfl) ?_ (by decide) (v := (Value.bool true)) (fun w39 hw38 => OP.assign (Value.bool true) rfl (by decide) ⟨rfl, rfl⟩) ?_
      · exact hs26
      refine WA.done (by kernel_rfl) ?_
      refine (Qn.then ?_)
      refine W.ret (RetQ.of [(Value.bool true)] (.inr rfl) Try.results63 (.cons (.tmp (by decide) rfl) .nil) ?_)
      have hs41 : sat W0 [F] w23 := sat_sub' [1] [0] hs26 (by kernel_rfl) (by kernel_rfl)
      exact ⟨(congrArg Value.bool (by unfold badTurn; simp [hc31])), hs41⟩
    · refine WA.takeG 11 rfl rfl rfl rfl rfl (Eq.trans (b := .bool (!(withinB t.row 0 ((g.blocks * g.pages) - 1)))) rfl (congrArg Value.bool (hc31))) (by kernel_rfl) (by kernel_rfl) (by kernel_rfl) ?_ (by decide) (v := (Value.pointer (some ⟨b1, 1, none⟩))) (fun w43 hw42 => OP.fieldAddr 1 fo_38_1 rfl rfl (by decide) ⟨rfl, rfl⟩) ?_
      · exact hs26
      refine WA.takeG 12 rfl rfl rfl rfl rfl (Eq.trans (b := .bool (!(withinB t.row 0 ((g.blocks * g.pages) - 1)))) rfl (congrArg Value.bool (hc31))) (by kernel_rfl) (by kernel_rfl) (by kernel_rfl) ?_ (by decide) (v := (Value.int .i64 t.rung)) (fun w45 hw44 => OP.loadS (Value.int .i64 t.rung) sc_3 rfl (sat_cell 0 hw44 rfl rfl) (by decide) ⟨rfl, rfl⟩) ?_
      · exact hs26
      refine WA.takeG 13 rfl rfl rfl rfl rfl (Eq.trans (b := .bool (!(withinB t.row 0 ((g.blocks * g.pages) - 1)))) rfl (congrArg Value.bool (hc31))) (by kernel_rfl) (by kernel_rfl) (by kernel_rfl) ?_ (by decide) (v := (Value.pointer (some ⟨b, 5, none⟩))) (fun w47 hw46 => OP.fieldAddr 5 fo_34_5 rfl rfl (by decide) ⟨rfl, rfl⟩) ?_
      · exact hs26
      refine WA.takeG 14 rfl rfl rfl rfl rfl (Eq.trans (b := .bool (!(withinB t.row 0 ((g.blocks * g.pages) - 1)))) rfl (congrArg Value.bool (hc31))) (by kernel_rfl) (by kernel_rfl) (by kernel_rfl) ?_ (by decide) (v := (Value.int .i64 g.rungs)) (fun w49 hw48 => OP.loadS (Value.int .i64 g.rungs) sc_3 rfl (rdn_cell (Ent_sat 1 rfl hb hw48) rfl) (by decide) ⟨rfl, rfl⟩) ?_
      · exact hs26
      refine WA.takeG 15 rfl rfl rfl rfl rfl (Eq.trans (b := .bool (!(withinB t.row 0 ((g.blocks * g.pages) - 1)))) rfl (congrArg Value.bool (hc31))) (by kernel_rfl) (by kernel_rfl) (by kernel_rfl) ?_ (by decide) (v := (Value.int .i64 (g.rungs - 1))) (fun w51 hw50 => OP.sub (g.rungs - 1) rfl rfl (by first | rfl | omega | simp) (by unfold inI64; omega) (by decide) ⟨rfl, rfl⟩) ?_
      · exact hs26
      refine WA.all [16] (by kernel_rfl) (by simp) ?_
      refine WAs.consG (oi := (Go.Oper.mk (some 20) (Go.Op.call (Go.Call.mk (Go.Callee.value (Go.Operand.func 58)) #[(Go.Operand.tmp 16), (Go.Operand.const (Go.Value.int Go.IntKind.i64 0)), (Go.Operand.tmp 19)] #[3, 3, 3])) 4 "choice.go:49" #[(Go.Edge.mk 12 Go.Ground.data), (Go.Edge.mk 15 Go.Ground.data), (Go.Edge.mk 10 Go.Ground.chain), (Go.Edge.mk 10 Go.Ground.guard)] (some (10, false)))) rfl rfl rfl (Eq.trans (b := .bool (!(withinB t.row 0 ((g.blocks * g.pages) - 1)))) rfl (congrArg Value.bool (hc31))) ?_ ?_
      · have hs52 : sat W0 [stars [blk b1 [(Value.int .i64 t.row), (Value.int .i64 t.rung), (Value.int .i64 t.bit)] 38, F]] w23 := sat_pack' [] [blk b1 [(Value.int .i64 t.row), (Value.int .i64 t.rung), (Value.int .i64 t.bit)] 38, F] hs26 (by kernel_rfl) (by kernel_rfl)
        have hcl55 := choice_within t.rung 0 (g.rungs - 1) hs52
        refine ?_
        with_reducible refine OP.call [(Value.int .i64 t.rung), (Value.int .i64 0), (Value.int .i64 (g.rungs - 1))] gf_58 ?_ ?_ hcl55 ?_
        · exact rfl
        · decide
        clear hcl55
        rintro _ w53 ⟨_, rfl, rfl, hs54⟩
        refine ⟨_, rfl, ?_⟩
        have hs56 : sat W0 [blk b1 [(Value.int .i64 t.row), (Value.int .i64 t.rung), (Value.int .i64 t.bit)] 38, F] w53 := sat_flat' [] [blk b1 [(Value.int .i64 t.row), (Value.int .i64 t.rung), (Value.int .i64 t.bit)] 38, F] hs54 (by kernel_rfl) (by kernel_rfl)
        refine ⟨?_, ?_⟩
        · exact hs56
        refine WA.takeG 17 rfl rfl rfl rfl rfl (Eq.trans (b := .bool (!(withinB t.row 0 ((g.blocks * g.pages) - 1)))) rfl (congrArg Value.bool (hc31))) (by kernel_rfl) (by kernel_rfl) (by kernel_rfl) ?_ (by decide) (v := (Value.bool (!(withinB t.rung 0 (g.rungs - 1))))) (fun w58 hw57 => OP.not rfl (by decide) ⟨rfl, rfl⟩) ?_
        · exact hs56
        refine WA.take 18 rfl rfl rfl rfl (by kernel_rfl) (by kernel_rfl) (by kernel_rfl) ?_ (by decide) (v := (Value.bool (!(withinB t.rung 0 (g.rungs - 1))))) (fun w60 hw59 => OP.pickF (Value.bool (!(withinB t.rung 0 (g.rungs - 1)))) (Eq.trans (b := .bool (!(withinB t.row 0 ((g.blocks * g.pages) - 1)))) rfl (congrArg Value.bool (hc31))) rfl (by decide) ⟨rfl, rfl⟩) ?_
        · exact hs56
        refine WA.take 19 rfl rfl rfl rfl (by kernel_rfl) (by kernel_rfl) (by kernel_rfl) ?_ (by decide) (v := (Value.bool (!(withinB t.rung 0 (g.rungs - 1))))) (fun w62 hw61 => OP.move (Value.bool (!(withinB t.rung 0 (g.rungs - 1)))) rfl (by decide) ⟨rfl, rfl⟩) ?_
        · exact hs56
        rcases Bool.eq_false_or_eq_true (!(withinB t.rung 0 (g.rungs - 1))) with hc63 | hc63
        · refine WA.passG 20 rfl rfl rfl rfl (Eq.trans (b := .bool (!(withinB t.rung 0 (g.rungs - 1)))) rfl (congrArg Value.bool (hc63))) rfl (by kernel_rfl) (by kernel_rfl) (by kernel_rfl) ?_ (by decide) ?_
          · exact hs56
          refine WA.passG 21 rfl rfl rfl rfl (Eq.trans (b := .bool (!(withinB t.rung 0 (g.rungs - 1)))) rfl (congrArg Value.bool (hc63))) rfl (by kernel_rfl) (by kernel_rfl) (by kernel_rfl) ?_ (by decide) ?_
          · exact hs56
          refine WA.passG 22 rfl rfl rfl rfl (Eq.trans (b := .bool (!(withinB t.rung 0 (g.rungs - 1)))) rfl (congrArg Value.bool (hc63))) rfl (by kernel_rfl) (by kernel_rfl) (by kernel_rfl) ?_ (by decide) ?_
          · exact hs56
          refine WA.passG 23 rfl rfl rfl rfl (Eq.trans (b := .bool (!(withinB t.rung 0 (g.rungs - 1)))) rfl (congrArg Value.bool (hc63))) rfl (by kernel_rfl) (by kernel_rfl) (by kernel_rfl) ?_ (by decide) ?_
          · exact hs56
          refine WA.passG 24 rfl rfl rfl rfl (Eq.trans (b := .bool (!(withinB t.rung 0 (g.rungs - 1)))) rfl (congrArg Value.bool (hc63))) rfl (by kernel_rfl) (by kernel_rfl) (by kernel_rfl) ?_ (by decide) ?_
          · exact hs56
          refine WA.passG 25 rfl rfl rfl rfl (Eq.trans (b := .bool (!(withinB t.rung 0 (g.rungs - 1)))) rfl (congrArg Value.bool (hc63))) rfl (by kernel_rfl) (by kernel_rfl) (by kernel_rfl) ?_ (by decide) ?_
          · exact hs56
          refine WA.passG 26 rfl rfl rfl rfl (Eq.trans (b := .bool (!(withinB t.rung 0 (g.rungs - 1)))) rfl (congrArg Value.bool (hc63))) rfl (by kernel_rfl) (by kernel_rfl) (by kernel_rfl) ?_ (by decide) ?_
          · exact hs56
          refine WA.passG 27 rfl rfl rfl rfl (Eq.trans (b := .bool (!(withinB t.rung 0 (g.rungs - 1)))) rfl (congrArg Value.bool (hc63))) rfl (by kernel_rfl) (by kernel_rfl) (by kernel_rfl) ?_ (by decide) ?_
          · exact hs56
          refine WA.take 28 rfl rfl rfl rfl (by kernel_rfl) (by kernel_rfl) (by kernel_rfl) ?_ (by decide) (v := (Value.bool true)) (fun w65 hw64 => OP.pickT (Value.bool true) (Eq.trans (b := .bool (!(withinB t.rung 0 (g.rungs - 1)))) rfl (congrArg Value.bool (hc63))) rfl (by decide) ⟨rfl, rfl⟩) ?_
          · exact hs56
          refine WA.take 29 rfl rfl rfl rfl (by kernel_rfl) (by kernel_rfl) (by kernel_rfl) ?_ (by decide) (v := (Value.bool true)) (fun w67 hw66 => OP.assign (Value.bool true) rfl (by decide) ⟨rfl, rfl⟩) ?_
          · exact hs56
          refine WA.done (by kernel_rfl) ?_
          refine (Qn.then ?_)
          refine W.ret (RetQ.of [(Value.bool true)] (.inr rfl) Try.results63 (.cons (.tmp (by decide) rfl) .nil) ?_)
          have hs69 : sat W0 [F] w53 := sat_sub' [1] [0] hs56 (by kernel_rfl) (by kernel_rfl)
          exact ⟨(congrArg Value.bool (by unfold badTurn; simp [hc31, hc63])), hs69⟩
        · refine WA.takeG 20 rfl rfl rfl rfl rfl (Eq.trans (b := .bool (!(withinB t.rung 0 (g.rungs - 1)))) rfl (congrArg Value.bool (hc63))) (by kernel_rfl) (by kernel_rfl) (by kernel_rfl) ?_ (by decide) (v := (Value.pointer (some ⟨b1, 2, none⟩))) (fun w71 hw70 => OP.fieldAddr 2 fo_38_2 rfl rfl (by decide) ⟨rfl, rfl⟩) ?_
          · exact hs56
          refine WA.takeG 21 rfl rfl rfl rfl rfl (Eq.trans (b := .bool (!(withinB t.rung 0 (g.rungs - 1)))) rfl (congrArg Value.bool (hc63))) (by kernel_rfl) (by kernel_rfl) (by kernel_rfl) ?_ (by decide) (v := (Value.int .i64 t.bit)) (fun w73 hw72 => OP.loadS (Value.int .i64 t.bit) sc_3 rfl (sat_cell 0 hw72 rfl rfl) (by decide) ⟨rfl, rfl⟩) ?_
          · exact hs56
          refine WA.takeG 22 rfl rfl rfl rfl rfl (Eq.trans (b := .bool (!(withinB t.rung 0 (g.rungs - 1)))) rfl (congrArg Value.bool (hc63))) (by kernel_rfl) (by kernel_rfl) (by kernel_rfl) ?_ (by decide) (v := (Value.agg [(Value.int .i64 g.planes), (Value.int .i64 g.blocks), (Value.int .i64 g.pages), (Value.int .i64 g.chunks), (Value.int .i64 g.chunk), (Value.int .i64 g.rungs), (Value.int .i64 g.partials)].toArray)) (fun w75 hw74 => OP.loadA [(Value.int .i64 g.planes), (Value.int .i64 g.blocks), (Value.int .i64 g.pages), (Value.int .i64 g.chunks), (Value.int .i64 g.chunk), (Value.int .i64 g.rungs), (Value.int .i64 g.partials)] ag_34 sz_34 rfl (rdn_part (Ent_sat 1 rfl hb hw74) rfl) (by decide) ⟨rfl, rfl⟩) ?_
          · exact hs56
          refine WA.all [23] (by kernel_rfl) (by simp) ?_
          refine WAs.consG (oi := (Go.Oper.mk (some 27) (Go.Op.call (Go.Call.mk (Go.Callee.value (Go.Operand.func 64)) #[(Go.Operand.tmp 26)] #[34])) 3 "choice.go:49" #[(Go.Edge.mk 22 Go.Ground.data), (Go.Edge.mk 19 Go.Ground.chain), (Go.Edge.mk 19 Go.Ground.guard)] (some (19, false)))) rfl rfl rfl (Eq.trans (b := .bool (!(withinB t.rung 0 (g.rungs - 1)))) rfl (congrArg Value.bool (hc63))) ?_ ?_
          · have hs76 : sat W0 [stars [blk b1 [(Value.int .i64 t.row), (Value.int .i64 t.rung), (Value.int .i64 t.bit)] 38, F]] w53 := sat_pack' [] [blk b1 [(Value.int .i64 t.row), (Value.int .i64 t.rung), (Value.int .i64 t.bit)] 38, F] hs56 (by kernel_rfl) (by kernel_rfl)
            have hcl79 := geom_Raw g hs76
            refine ?_
            with_reducible refine OP.call [(Value.agg [(Value.int .i64 g.planes), (Value.int .i64 g.blocks), (Value.int .i64 g.pages), (Value.int .i64 g.chunks), (Value.int .i64 g.chunk), (Value.int .i64 g.rungs), (Value.int .i64 g.partials)].toArray)] gf_64 ?_ ?_ hcl79 ?_
            · exact rfl
            · decide
            clear hcl79
            rintro _ w77 ⟨_, rfl, rfl, hs78⟩
            refine ⟨_, rfl, ?_⟩
            have hs80 : sat W0 [blk b1 [(Value.int .i64 t.row), (Value.int .i64 t.rung), (Value.int .i64 t.bit)] 38, F] w77 := sat_flat' [] [blk b1 [(Value.int .i64 t.row), (Value.int .i64 t.rung), (Value.int .i64 t.bit)] 38, F] hs78 (by kernel_rfl) (by kernel_rfl)
            refine ⟨?_, ?_⟩
            · exact hs80
            refine WA.takeG 24 rfl rfl rfl rfl rfl (Eq.trans (b := .bool (!(withinB t.rung 0 (g.rungs - 1)))) rfl (congrArg Value.bool (hc63))) (by kernel_rfl) (by kernel_rfl) (by kernel_rfl) ?_ (by decide) (v := (Value.int .i64 (8 * (rawN g)))) (fun w82 hw81 => OP.mul (8 * (rawN g)) rfl rfl (by first | rfl | omega | simp) (by unfold inI64; omega) (by decide) ⟨rfl, rfl⟩) ?_
            · exact hs80
            refine WA.takeG 25 rfl rfl rfl rfl rfl (Eq.trans (b := .bool (!(withinB t.rung 0 (g.rungs - 1)))) rfl (congrArg Value.bool (hc63))) (by kernel_rfl) (by kernel_rfl) (by kernel_rfl) ?_ (by decide) (v := (Value.int .i64 ((8 * (rawN g)) - 1))) (fun w84 hw83 => OP.sub ((8 * (rawN g)) - 1) rfl rfl (by first | rfl | omega | simp) (by unfold inI64; omega) (by decide) ⟨rfl, rfl⟩) ?_
            · exact hs80
            refine WA.all [26] (by kernel_rfl) (by simp) ?_
            refine WAs.consG (oi := (Go.Oper.mk (some 30) (Go.Op.call (Go.Call.mk (Go.Callee.value (Go.Operand.func 58)) #[(Go.Operand.tmp 25), (Go.Operand.const (Go.Value.int Go.IntKind.i64 0)), (Go.Operand.tmp 29)] #[3, 3, 3])) 4 "choice.go:49" #[(Go.Edge.mk 21 Go.Ground.data), (Go.Edge.mk 25 Go.Ground.data), (Go.Edge.mk 23 Go.Ground.chain), (Go.Edge.mk 19 Go.Ground.guard)] (some (19, false)))) rfl rfl rfl (Eq.trans (b := .bool (!(withinB t.rung 0 (g.rungs - 1)))) rfl (congrArg Value.bool (hc63))) ?_ ?_
            · have hs85 : sat W0 [stars [blk b1 [(Value.int .i64 t.row), (Value.int .i64 t.rung), (Value.int .i64 t.bit)] 38, F]] w77 := sat_pack' [] [blk b1 [(Value.int .i64 t.row), (Value.int .i64 t.rung), (Value.int .i64 t.bit)] 38, F] hs80 (by kernel_rfl) (by kernel_rfl)
              have hcl88 := choice_within t.bit 0 ((8 * (rawN g)) - 1) hs85
              refine ?_
              with_reducible refine OP.call [(Value.int .i64 t.bit), (Value.int .i64 0), (Value.int .i64 ((8 * (rawN g)) - 1))] gf_58 ?_ ?_ hcl88 ?_
              · exact rfl
              · decide
              clear hcl88
              rintro _ w86 ⟨_, rfl, rfl, hs87⟩
              refine ⟨_, rfl, ?_⟩
              have hs89 : sat W0 [blk b1 [(Value.int .i64 t.row), (Value.int .i64 t.rung), (Value.int .i64 t.bit)] 38, F] w86 := sat_flat' [] [blk b1 [(Value.int .i64 t.row), (Value.int .i64 t.rung), (Value.int .i64 t.bit)] 38, F] hs87 (by kernel_rfl) (by kernel_rfl)
              refine ⟨?_, ?_⟩
              · exact hs89
              refine WA.takeG 27 rfl rfl rfl rfl rfl (Eq.trans (b := .bool (!(withinB t.rung 0 (g.rungs - 1)))) rfl (congrArg Value.bool (hc63))) (by kernel_rfl) (by kernel_rfl) (by kernel_rfl) ?_ (by decide) (v := (Value.bool (!(withinB t.bit 0 ((8 * (rawN g)) - 1))))) (fun w91 hw90 => OP.not rfl (by decide) ⟨rfl, rfl⟩) ?_
              · exact hs89
              refine WA.take 28 rfl rfl rfl rfl (by kernel_rfl) (by kernel_rfl) (by kernel_rfl) ?_ (by decide) (v := (Value.bool (!(withinB t.bit 0 ((8 * (rawN g)) - 1))))) (fun w93 hw92 => OP.pickF (Value.bool (!(withinB t.bit 0 ((8 * (rawN g)) - 1)))) (Eq.trans (b := .bool (!(withinB t.rung 0 (g.rungs - 1)))) rfl (congrArg Value.bool (hc63))) rfl (by decide) ⟨rfl, rfl⟩) ?_
              · exact hs89
              refine WA.take 29 rfl rfl rfl rfl (by kernel_rfl) (by kernel_rfl) (by kernel_rfl) ?_ (by decide) (v := (Value.bool (!(withinB t.bit 0 ((8 * (rawN g)) - 1))))) (fun w95 hw94 => OP.assign (Value.bool (!(withinB t.bit 0 ((8 * (rawN g)) - 1)))) rfl (by decide) ⟨rfl, rfl⟩) ?_
              · exact hs89
              refine WA.done (by kernel_rfl) ?_
              refine (Qn.then ?_)
              refine W.ret (RetQ.of [(Value.bool (!(withinB t.bit 0 ((8 * (rawN g)) - 1))))] (.inr rfl) Try.results63 (.cons (.tmp (by decide) rfl) .nil) ?_)
              have hs97 : sat W0 [F] w86 := sat_sub' [1] [0] hs89 (by kernel_rfl) (by kernel_rfl)
              exact ⟨(congrArg Value.bool (by unfold badTurn; simp [hc31, hc63])), hs97⟩
            exact WAs.nil
          exact WAs.nil
      exact WAs.nil
  exact WAs.nil

theorem choice_Right {W0 : World} {F : HProp} {w : World}  (g : Geom) (s : Script) (hS : ScriptR W0 F s) (hL : ScriptL s) 
    (hs : sat W0 [F] w) :
    Calls Try.prog 41 ([(Value.agg [(Value.int .i64 g.planes), (Value.int .i64 g.blocks), (Value.int .i64 g.pages), (Value.int .i64 g.chunks), (Value.int .i64 g.chunk), (Value.int .i64 g.rungs), (Value.int .i64 g.partials)].toArray), (Value.agg [(Value.slice s.busyA s.busy.length s.busyC), (Value.slice s.failsA s.fails.length s.failsC), (Value.slice s.turnsA s.turns.length s.turnsC), (Value.int .i64 s.cut), (Value.slice s.tornA s.torn.length s.tornC), (Value.slice s.markedA s.marked.length s.markedC)].toArray)] : List Value).toArray w (fun x_ w' => ∃ v_, x_ = .returned v_ ∧ (v_ = (Value.bool (rightB g s)) ∧ sat W0 [F] w')) := by
  have hl1_ := hL.busy
  have hl2_ := hL.fails
  have hl3_ := hL.turns
  have hl4_ := hL.torn
  have hl5_ := hL.marked
  refine W.enter Try.func41 rfl Try.ntmps41 (by simp) ?_
  refine W.seq ?_
  refine W.region ?_
  refine WL.cons rfl (OP.box (Value.agg [(Value.int .i64 g.planes), (Value.int .i64 g.blocks), (Value.int .i64 g.pages), (Value.int .i64 g.chunks), (Value.int .i64 g.chunk), (Value.int .i64 g.rungs), (Value.int .i64 g.partials)].toArray) [(Value.int .i64 g.planes), (Value.int .i64 g.blocks), (Value.int .i64 g.pages), (Value.int .i64 g.chunks), (Value.int .i64 g.chunk), (Value.int .i64 g.rungs), (Value.int .i64 g.partials)] hs rfl rfl (by decide) (fun b1 w2 hs3 => ?_))
  refine WL.cons rfl (OP.box (Value.agg [(Value.slice s.busyA s.busy.length s.busyC), (Value.slice s.failsA s.fails.length s.failsC), (Value.slice s.turnsA s.turns.length s.turnsC), (Value.int .i64 s.cut), (Value.slice s.tornA s.torn.length s.tornC), (Value.slice s.markedA s.marked.length s.markedC)].toArray) [(Value.slice s.busyA s.busy.length s.busyC), (Value.slice s.failsA s.fails.length s.failsC), (Value.slice s.turnsA s.turns.length s.turnsC), (Value.int .i64 s.cut), (Value.slice s.tornA s.torn.length s.tornC), (Value.slice s.markedA s.marked.length s.markedC)] hs3 rfl rfl (by decide) (fun b4 w5 hs6 => ?_))
  refine WL.cons rfl (OP.assign (Value.bool false) rfl (by decide) ?_)
  refine WL.nil (Qn.then ?_)
  refine W.seq ?_
  refine W.seq ?_
  refine W.region ?_
  refine WL.cons rfl (OP.loadA [(Value.int .i64 g.planes), (Value.int .i64 g.blocks), (Value.int .i64 g.pages), (Value.int .i64 g.chunks), (Value.int .i64 g.chunk), (Value.int .i64 g.rungs), (Value.int .i64 g.partials)] ag_34 sz_34 rfl (sat_rdn 1 hs6 rfl rfl) (by decide) ?_)
  have hs7 : sat W0 [stars [blk b4 [(Value.slice s.busyA s.busy.length s.busyC), (Value.slice s.failsA s.fails.length s.failsC), (Value.slice s.turnsA s.turns.length s.turnsC), (Value.int .i64 s.cut), (Value.slice s.tornA s.torn.length s.tornC), (Value.slice s.markedA s.marked.length s.markedC)] 26, blk b1 [(Value.int .i64 g.planes), (Value.int .i64 g.blocks), (Value.int .i64 g.pages), (Value.int .i64 g.chunks), (Value.int .i64 g.chunk), (Value.int .i64 g.rungs), (Value.int .i64 g.partials)] 34, F]] w5 := sat_pack' [] [blk b4 [(Value.slice s.busyA s.busy.length s.busyC), (Value.slice s.failsA s.fails.length s.failsC), (Value.slice s.turnsA s.turns.length s.turnsC), (Value.int .i64 s.cut), (Value.slice s.tornA s.torn.length s.tornC), (Value.slice s.markedA s.marked.length s.markedC)] 26, blk b1 [(Value.int .i64 g.planes), (Value.int .i64 g.blocks), (Value.int .i64 g.pages), (Value.int .i64 g.chunks), (Value.int .i64 g.chunk), (Value.int .i64 g.rungs), (Value.int .i64 g.partials)] 34, F] hs6 (by kernel_rfl) (by kernel_rfl)
  have hcl10 := geom_Check g hs7
  refine WL.cons rfl (?_)
  with_reducible refine OP.call [(Value.agg [(Value.int .i64 g.planes), (Value.int .i64 g.blocks), (Value.int .i64 g.pages), (Value.int .i64 g.chunks), (Value.int .i64 g.chunk), (Value.int .i64 g.rungs), (Value.int .i64 g.partials)].toArray)] gf_59 ?_ ?_ hcl10 ?_
  · exact rfl
  · decide
  clear hcl10
  rintro _ w8 ⟨_, rfl, rfl, hs9⟩
  refine ⟨_, rfl, ?_⟩
  have hs11 : sat W0 [blk b4 [(Value.slice s.busyA s.busy.length s.busyC), (Value.slice s.failsA s.fails.length s.failsC), (Value.slice s.turnsA s.turns.length s.turnsC), (Value.int .i64 s.cut), (Value.slice s.tornA s.torn.length s.tornC), (Value.slice s.markedA s.marked.length s.markedC)] 26, blk b1 [(Value.int .i64 g.planes), (Value.int .i64 g.blocks), (Value.int .i64 g.pages), (Value.int .i64 g.chunks), (Value.int .i64 g.chunk), (Value.int .i64 g.rungs), (Value.int .i64 g.partials)] 34, F] w8 := sat_flat' [] [blk b4 [(Value.slice s.busyA s.busy.length s.busyC), (Value.slice s.failsA s.fails.length s.failsC), (Value.slice s.turnsA s.turns.length s.turnsC), (Value.int .i64 s.cut), (Value.slice s.tornA s.torn.length s.tornC), (Value.slice s.markedA s.marked.length s.markedC)] 26, blk b1 [(Value.int .i64 g.planes), (Value.int .i64 g.blocks), (Value.int .i64 g.pages), (Value.int .i64 g.chunks), (Value.int .i64 g.chunk), (Value.int .i64 g.rungs), (Value.int .i64 g.partials)] 34, F] hs9 (by kernel_rfl) (by kernel_rfl)
  refine WL.cons rfl (OP.neI rfl rfl (by decide) ?_)
  refine WL.nil (Qn.then ?_)
  refine W.iteP (p := checkE g ≠ 0) rfl (fun hc12 => ?_) (fun hc12 => ?_)
  · refine W.seq ?_
    refine W.region ?_
    refine WL.cons rfl (OP.assign (Value.bool false) rfl (by decide) ?_)
    refine WL.nil (Qn.then ?_)
    refine W.ret (Qr.then (RetQ.of [(Value.bool false)] (.inr rfl) Try.results41 (.cons (.tmp (by decide) rfl) .nil) ?_))
    have hs14 : sat W0 [F] w8 := sat_sub' [2] [0, 1] hs11 (by kernel_rfl) (by kernel_rfl)
    exact ⟨(congrArg Value.bool (rightB_bad (checkE_ne0 (by assumption)))), hs14⟩
  · refine W.skip (Qn.then ?_)
    refine W.seq ?_
    refine W.seq ?_
    refine W.region ?_
    refine WL.cons rfl (OP.fieldAddr 0 fo_26_0 rfl rfl (by decide) ?_)
    refine WL.cons rfl (OP.loadS (Value.slice s.busyA s.busy.length s.busyC) sc_22 rfl (sat_cell 0 hs11 rfl rfl) (by decide) ?_)
    refine WL.cons rfl (OP.len Try.underlying22 rfl rfl (by decide) ?_)
    refine WL.cons rfl (OP.fieldAddr 1 fo_26_1 rfl rfl (by decide) ?_)
    refine WL.cons rfl (OP.loadS (Value.slice s.failsA s.fails.length s.failsC) sc_22 rfl (sat_cell 0 hs11 rfl rfl) (by decide) ?_)
    refine WL.cons rfl (OP.len Try.underlying22 rfl rfl (by decide) ?_)
    refine WL.cons rfl (OP.fieldAddr 2 fo_26_2 rfl rfl (by decide) ?_)
    refine WL.cons rfl (OP.loadS (Value.slice s.turnsA s.turns.length s.turnsC) sc_23 rfl (sat_cell 0 hs11 rfl rfl) (by decide) ?_)
    refine WL.cons rfl (OP.len Try.underlying23 rfl rfl (by decide) ?_)
    refine WL.cons rfl (OP.fieldAddr 4 fo_26_4 rfl rfl (by decide) ?_)
    refine WL.cons rfl (OP.loadS (Value.slice s.tornA s.torn.length s.tornC) sc_24 rfl (sat_cell 0 hs11 rfl rfl) (by decide) ?_)
    refine WL.cons rfl (OP.len Try.underlying24 rfl rfl (by decide) ?_)
    refine WL.cons rfl (OP.fieldAddr 5 fo_26_5 rfl rfl (by decide) ?_)
    refine WL.cons rfl (OP.loadS (Value.slice s.markedA s.marked.length s.markedC) sc_22 rfl (sat_cell 0 hs11 rfl rfl) (by decide) ?_)
    refine WL.cons rfl (OP.len Try.underlying22 rfl rfl (by decide) ?_)
    refine WL.cons rfl (OP.build [(0, (Value.int .i64 ((s.busy.length : Nat) : Int))), (1, (Value.int .i64 ((s.fails.length : Nat) : Int))), (2, (Value.int .i64 ((s.turns.length : Nat) : Int))), (3, (Value.int .i64 ((s.torn.length : Nat) : Int))), (4, (Value.int .i64 ((s.marked.length : Nat) : Int)))] [(Value.int .i64 ((s.busy.length : Nat) : Int)), (Value.int .i64 ((s.fails.length : Nat) : Int)), (Value.int .i64 ((s.turns.length : Nat) : Int)), (Value.int .i64 ((s.torn.length : Nat) : Int)), (Value.int .i64 ((s.marked.length : Nat) : Int))] rfl (by kernel_rfl) (by decide) ?_)
    refine WL.cons rfl (OP.move (Value.int .i64 0) rfl (by decide) ?_)
    refine WL.nil (Qn.then ?_)
    refine W.block ?_
    refine W.unroll 7 (rnds.go ?_)
    refine W.seq ?_
    refine W.region ?_
    refine WL.cons rfl (OP.lss rfl rfl (by decide) ?_)
    refine WL.nil (Qn.then ?_)
    refine W.seq ?_
    refine W.iteT rfl ?_
    refine W.skip (Qn.then ?_)
    refine W.seq ?_
    refine W.block ?_
    refine W.seq ?_
    refine W.region ?_
    refine WL.cons rfl (OP.index 0 (Value.int .i64 ((s.busy.length : Nat) : Int)) Try.underlying106 sc_3 sz_3 rfl rfl rfl (by decide) rfl (by decide) ?_)
    refine WL.cons rfl (OP.assign (Value.int .i64 ((s.busy.length : Nat) : Int)) rfl (by decide) ?_)
    refine WL.nil (Qn.then ?_)
    refine W.seq ?_
    refine W.region ?_
    refine WL.cons rfl (OP.move (Value.int .i64 ((s.busy.length : Nat) : Int)) rfl (by decide) ?_)
    refine WL.cons rfl (OP.gtr rfl rfl (by decide) ?_)
    refine WL.nil (Qn.then ?_)
    refine W.iteP (p := ((s.busy.length : Nat) : Int) > 4096) rfl (fun hc15 => ?_) (fun hc15 => ?_)
    · refine W.seq ?_
      refine W.region ?_
      refine WL.cons rfl (OP.assign (Value.bool false) rfl (by decide) ?_)
      refine WL.nil (Qn.then ?_)
      refine W.ret (Qr.blk (Qr.then (Qr.then (Qr.blk (Qr.then (RetQ.of [(Value.bool false)] (.inr rfl) Try.results41 (.cons (.tmp (by decide) rfl) .nil) ?_))))))
      have hs17 : sat W0 [F] w8 := sat_sub' [2] [0, 1] hs11 (by kernel_rfl) (by kernel_rfl)
      exact ⟨(congrArg Value.bool (rightB_len (by omega))), hs17⟩
    · refine W.skip (Qn.blk (Qn.then ?_))
      refine W.region ?_
      refine WL.cons rfl (OP.add 1 rfl rfl (by first | rfl | omega | simp) (by unfold inI64; omega) (by decide) ?_)
      refine WL.cons rfl (OP.move (Value.int .i64 1) rfl (by decide) ?_)
      refine WL.nil (Qn.then ?_)
      refine rnds.go ?_
      refine W.seq ?_
      refine W.region ?_
      refine WL.cons rfl (OP.lss rfl rfl (by decide) ?_)
      refine WL.nil (Qn.then ?_)
      refine W.seq ?_
      refine W.iteT rfl ?_
      refine W.skip (Qn.then ?_)
      refine W.seq ?_
      refine W.block ?_
      refine W.seq ?_
      refine W.region ?_
      refine WL.cons rfl (OP.index 1 (Value.int .i64 ((s.fails.length : Nat) : Int)) Try.underlying106 sc_3 sz_3 rfl rfl rfl (by decide) rfl (by decide) ?_)
      refine WL.cons rfl (OP.assign (Value.int .i64 ((s.fails.length : Nat) : Int)) rfl (by decide) ?_)
      refine WL.nil (Qn.then ?_)
      refine W.seq ?_
      refine W.region ?_
      refine WL.cons rfl (OP.move (Value.int .i64 ((s.fails.length : Nat) : Int)) rfl (by decide) ?_)
      refine WL.cons rfl (OP.gtr rfl rfl (by decide) ?_)
      refine WL.nil (Qn.then ?_)
      refine W.iteP (p := ((s.fails.length : Nat) : Int) > 4096) rfl (fun hc18 => ?_) (fun hc18 => ?_)
      · refine W.seq ?_
        refine W.region ?_
        refine WL.cons rfl (OP.assign (Value.bool false) rfl (by decide) ?_)
        refine WL.nil (Qn.then ?_)
        refine W.ret (Qr.blk (Qr.then (Qr.then (Qr.blk (Qr.then (RetQ.of [(Value.bool false)] (.inr rfl) Try.results41 (.cons (.tmp (by decide) rfl) .nil) ?_))))))
        have hs20 : sat W0 [F] w8 := sat_sub' [2] [0, 1] hs11 (by kernel_rfl) (by kernel_rfl)
        exact ⟨(congrArg Value.bool (rightB_len (by omega))), hs20⟩
      · refine W.skip (Qn.blk (Qn.then ?_))
        refine W.region ?_
        refine WL.cons rfl (OP.add 2 rfl rfl (by first | rfl | omega | simp) (by unfold inI64; omega) (by decide) ?_)
        refine WL.cons rfl (OP.move (Value.int .i64 2) rfl (by decide) ?_)
        refine WL.nil (Qn.then ?_)
        refine rnds.go ?_
        refine W.seq ?_
        refine W.region ?_
        refine WL.cons rfl (OP.lss rfl rfl (by decide) ?_)
        refine WL.nil (Qn.then ?_)
        refine W.seq ?_
        refine W.iteT rfl ?_
        refine W.skip (Qn.then ?_)
        refine W.seq ?_
        refine W.block ?_
        refine W.seq ?_
        refine W.region ?_
        refine WL.cons rfl (OP.index 2 (Value.int .i64 ((s.turns.length : Nat) : Int)) Try.underlying106 sc_3 sz_3 rfl rfl rfl (by decide) rfl (by decide) ?_)
        refine WL.cons rfl (OP.assign (Value.int .i64 ((s.turns.length : Nat) : Int)) rfl (by decide) ?_)
        refine WL.nil (Qn.then ?_)
        refine W.seq ?_
        refine W.region ?_
        refine WL.cons rfl (OP.move (Value.int .i64 ((s.turns.length : Nat) : Int)) rfl (by decide) ?_)
        refine WL.cons rfl (OP.gtr rfl rfl (by decide) ?_)
        refine WL.nil (Qn.then ?_)
        refine W.iteP (p := ((s.turns.length : Nat) : Int) > 4096) rfl (fun hc21 => ?_) (fun hc21 => ?_)
        · refine W.seq ?_
          refine W.region ?_
          refine WL.cons rfl (OP.assign (Value.bool false) rfl (by decide) ?_)
          refine WL.nil (Qn.then ?_)
          refine W.ret (Qr.blk (Qr.then (Qr.then (Qr.blk (Qr.then (RetQ.of [(Value.bool false)] (.inr rfl) Try.results41 (.cons (.tmp (by decide) rfl) .nil) ?_))))))
          have hs23 : sat W0 [F] w8 := sat_sub' [2] [0, 1] hs11 (by kernel_rfl) (by kernel_rfl)
          exact ⟨(congrArg Value.bool (rightB_len (by omega))), hs23⟩
        · refine W.skip (Qn.blk (Qn.then ?_))
          refine W.region ?_
          refine WL.cons rfl (OP.add 3 rfl rfl (by first | rfl | omega | simp) (by unfold inI64; omega) (by decide) ?_)
          refine WL.cons rfl (OP.move (Value.int .i64 3) rfl (by decide) ?_)
          refine WL.nil (Qn.then ?_)
          refine rnds.go ?_
          refine W.seq ?_
          refine W.region ?_
          refine WL.cons rfl (OP.lss rfl rfl (by decide) ?_)
          refine WL.nil (Qn.then ?_)
          refine W.seq ?_
          refine W.iteT rfl ?_
          refine W.skip (Qn.then ?_)
          refine W.seq ?_
          refine W.block ?_
          refine W.seq ?_
          refine W.region ?_
          refine WL.cons rfl (OP.index 3 (Value.int .i64 ((s.torn.length : Nat) : Int)) Try.underlying106 sc_3 sz_3 rfl rfl rfl (by decide) rfl (by decide) ?_)
          refine WL.cons rfl (OP.assign (Value.int .i64 ((s.torn.length : Nat) : Int)) rfl (by decide) ?_)
          refine WL.nil (Qn.then ?_)
          refine W.seq ?_
          refine W.region ?_
          refine WL.cons rfl (OP.move (Value.int .i64 ((s.torn.length : Nat) : Int)) rfl (by decide) ?_)
          refine WL.cons rfl (OP.gtr rfl rfl (by decide) ?_)
          refine WL.nil (Qn.then ?_)
          refine W.iteP (p := ((s.torn.length : Nat) : Int) > 4096) rfl (fun hc24 => ?_) (fun hc24 => ?_)
          · refine W.seq ?_
            refine W.region ?_
            refine WL.cons rfl (OP.assign (Value.bool false) rfl (by decide) ?_)
            refine WL.nil (Qn.then ?_)
            refine W.ret (Qr.blk (Qr.then (Qr.then (Qr.blk (Qr.then (RetQ.of [(Value.bool false)] (.inr rfl) Try.results41 (.cons (.tmp (by decide) rfl) .nil) ?_))))))
            have hs26 : sat W0 [F] w8 := sat_sub' [2] [0, 1] hs11 (by kernel_rfl) (by kernel_rfl)
            exact ⟨(congrArg Value.bool (rightB_len (by omega))), hs26⟩
          · refine W.skip (Qn.blk (Qn.then ?_))
            refine W.region ?_
            refine WL.cons rfl (OP.add 4 rfl rfl (by first | rfl | omega | simp) (by unfold inI64; omega) (by decide) ?_)
            refine WL.cons rfl (OP.move (Value.int .i64 4) rfl (by decide) ?_)
            refine WL.nil (Qn.then ?_)
            refine rnds.go ?_
            refine W.seq ?_
            refine W.region ?_
            refine WL.cons rfl (OP.lss rfl rfl (by decide) ?_)
            refine WL.nil (Qn.then ?_)
            refine W.seq ?_
            refine W.iteT rfl ?_
            refine W.skip (Qn.then ?_)
            refine W.seq ?_
            refine W.block ?_
            refine W.seq ?_
            refine W.region ?_
            refine WL.cons rfl (OP.index 4 (Value.int .i64 ((s.marked.length : Nat) : Int)) Try.underlying106 sc_3 sz_3 rfl rfl rfl (by decide) rfl (by decide) ?_)
            refine WL.cons rfl (OP.assign (Value.int .i64 ((s.marked.length : Nat) : Int)) rfl (by decide) ?_)
            refine WL.nil (Qn.then ?_)
            refine W.seq ?_
            refine W.region ?_
            refine WL.cons rfl (OP.move (Value.int .i64 ((s.marked.length : Nat) : Int)) rfl (by decide) ?_)
            refine WL.cons rfl (OP.gtr rfl rfl (by decide) ?_)
            refine WL.nil (Qn.then ?_)
            refine W.iteP (p := ((s.marked.length : Nat) : Int) > 4096) rfl (fun hc27 => ?_) (fun hc27 => ?_)
            · refine W.seq ?_
              refine W.region ?_
              refine WL.cons rfl (OP.assign (Value.bool false) rfl (by decide) ?_)
              refine WL.nil (Qn.then ?_)
              refine W.ret (Qr.blk (Qr.then (Qr.then (Qr.blk (Qr.then (RetQ.of [(Value.bool false)] (.inr rfl) Try.results41 (.cons (.tmp (by decide) rfl) .nil) ?_))))))
              have hs29 : sat W0 [F] w8 := sat_sub' [2] [0, 1] hs11 (by kernel_rfl) (by kernel_rfl)
              exact ⟨(congrArg Value.bool (rightB_len (by omega))), hs29⟩
            · refine W.skip (Qn.blk (Qn.then ?_))
              refine W.region ?_
              refine WL.cons rfl (OP.add 5 rfl rfl (by first | rfl | omega | simp) (by unfold inI64; omega) (by decide) ?_)
              refine WL.cons rfl (OP.move (Value.int .i64 5) rfl (by decide) ?_)
              refine WL.nil (Qn.then ?_)
              refine rnds.go ?_
              refine W.seq ?_
              refine W.region ?_
              refine WL.cons rfl (OP.lss rfl rfl (by decide) ?_)
              refine WL.nil (Qn.then ?_)
              refine W.seq ?_
              refine W.iteF rfl ?_
              refine W.exit (Qx.then (Qx.then (Qx.hit (Qn.then ?_))))
              refine W.seq ?_
              have hlen_ : s.busy.length ≤ 4096 ∧ s.fails.length ≤ 4096 ∧ s.turns.length ≤ 4096 ∧ s.torn.length ≤ 4096 ∧ s.marked.length ≤ 4096 := ⟨by omega, by omega, by omega, by omega, by omega⟩
              refine W.region ?_
              refine WL.cons rfl (OP.fieldAddr 0 fo_26_0 rfl rfl (by decide) ?_)
              refine WL.cons rfl (OP.loadS (Value.slice s.busyA s.busy.length s.busyC) sc_22 rfl (sat_cell 0 hs11 rfl rfl) (by decide) ?_)
              have hs30 : sat W0 [stars [blk b4 [(Value.slice s.busyA s.busy.length s.busyC), (Value.slice s.failsA s.fails.length s.failsC), (Value.slice s.turnsA s.turns.length s.turnsC), (Value.int .i64 s.cut), (Value.slice s.tornA s.torn.length s.tornC), (Value.slice s.markedA s.marked.length s.markedC)] 26, blk b1 [(Value.int .i64 g.planes), (Value.int .i64 g.blocks), (Value.int .i64 g.pages), (Value.int .i64 g.chunks), (Value.int .i64 g.chunk), (Value.int .i64 g.rungs), (Value.int .i64 g.partials)] 34, F]] w8 := sat_pack' [] [blk b4 [(Value.slice s.busyA s.busy.length s.busyC), (Value.slice s.failsA s.fails.length s.failsC), (Value.slice s.turnsA s.turns.length s.turnsC), (Value.int .i64 s.cut), (Value.slice s.tornA s.torn.length s.tornC), (Value.slice s.markedA s.marked.length s.markedC)] 26, blk b1 [(Value.int .i64 g.planes), (Value.int .i64 g.blocks), (Value.int .i64 g.pages), (Value.int .i64 g.chunks), (Value.int .i64 g.chunk), (Value.int .i64 g.rungs), (Value.int .i64 g.partials)] 34, F] hs11 (by kernel_rfl) (by kernel_rfl)
              have hcl33 := slices_ContainsFunc_int s.busyA s.busyC s.busy 61 ([]) (fun n => !withinB n 0 65536) (by first | assumption | omega) gf_61 (fun w x hx h => choice_Right_1 x h) (Ent_stars 2 rfl hS.busy) hs30
              refine WL.cons rfl (?_)
              with_reducible refine OP.call [(Value.slice s.busyA s.busy.length s.busyC), (Value.func (Fn.func 61) #[] [].toArray)] gf_60 ?_ ?_ hcl33 ?_
              · exact rfl
              · decide
              clear hcl33
              rintro _ w31 ⟨_, rfl, rfl, hs32⟩
              refine ⟨_, rfl, ?_⟩
              have hs34 : sat W0 [blk b4 [(Value.slice s.busyA s.busy.length s.busyC), (Value.slice s.failsA s.fails.length s.failsC), (Value.slice s.turnsA s.turns.length s.turnsC), (Value.int .i64 s.cut), (Value.slice s.tornA s.torn.length s.tornC), (Value.slice s.markedA s.marked.length s.markedC)] 26, blk b1 [(Value.int .i64 g.planes), (Value.int .i64 g.blocks), (Value.int .i64 g.pages), (Value.int .i64 g.chunks), (Value.int .i64 g.chunk), (Value.int .i64 g.rungs), (Value.int .i64 g.partials)] 34, F] w31 := sat_flat' [] [blk b4 [(Value.slice s.busyA s.busy.length s.busyC), (Value.slice s.failsA s.fails.length s.failsC), (Value.slice s.turnsA s.turns.length s.turnsC), (Value.int .i64 s.cut), (Value.slice s.tornA s.torn.length s.tornC), (Value.slice s.markedA s.marked.length s.markedC)] 26, blk b1 [(Value.int .i64 g.planes), (Value.int .i64 g.blocks), (Value.int .i64 g.pages), (Value.int .i64 g.chunks), (Value.int .i64 g.chunk), (Value.int .i64 g.rungs), (Value.int .i64 g.partials)] 34, F] hs32 (by kernel_rfl) (by kernel_rfl)
              refine WL.cons rfl (OP.move (Value.bool (s.busy.any (fun n => !withinB n 0 65536))) rfl (by decide) ?_)
              rcases Bool.eq_false_or_eq_true (s.busy.any (fun n => !withinB n 0 65536)) with hc35 | hc35
              · refine WL.pass rfl rfl (Eq.trans (b := .bool (s.busy.any (fun n => !withinB n 0 65536))) rfl (congrArg Value.bool (hc35))) rfl rfl (by decide) ?_
                refine WL.pass rfl rfl (Eq.trans (b := .bool (s.busy.any (fun n => !withinB n 0 65536))) rfl (congrArg Value.bool (hc35))) rfl rfl (by decide) ?_
                refine WL.pass rfl rfl (Eq.trans (b := .bool (s.busy.any (fun n => !withinB n 0 65536))) rfl (congrArg Value.bool (hc35))) rfl rfl (by decide) ?_
                refine WL.pass rfl rfl (Eq.trans (b := .bool (s.busy.any (fun n => !withinB n 0 65536))) rfl (congrArg Value.bool (hc35))) rfl rfl (by decide) ?_
                refine WL.cons rfl (OP.pickT (Value.bool true) (Eq.trans (b := .bool (s.busy.any (fun n => !withinB n 0 65536))) rfl (congrArg Value.bool (hc35))) rfl (by decide) ?_)
                refine WL.cons rfl (OP.assign (Value.bool true) rfl (by decide) ?_)
                refine WL.nil (Qn.then ?_)
                refine W.seq ?_
                have hok_ := checkE_eq0 (Decidable.not_not.mp (by assumption))
                have hk1_ := hok_.blocks
                refine W.region ?_
                refine WL.cons rfl (OP.move (Value.bool true) rfl (by decide) ?_)
                refine WL.cons rfl (OP.not rfl (by decide) ?_)
                refine WL.cons rfl (OP.move (Value.bool false) rfl (by decide) ?_)
                refine WL.pass rfl rfl rfl rfl rfl (by decide) ?_
                refine WL.pass rfl rfl rfl rfl rfl (by decide) ?_
                refine WL.pass rfl rfl rfl rfl rfl (by decide) ?_
                refine WL.cons rfl (OP.pickF (Value.bool false) rfl rfl (by decide) ?_)
                refine WL.cons rfl (OP.move (Value.bool false) rfl (by decide) ?_)
                refine WL.pass rfl rfl rfl rfl rfl (by decide) ?_
                refine WL.pass rfl rfl rfl rfl rfl (by decide) ?_
                refine WL.pass rfl rfl rfl rfl rfl (by decide) ?_
                refine WL.pass rfl rfl rfl rfl rfl (by decide) ?_
                refine WL.pass rfl rfl rfl rfl rfl (by decide) ?_
                refine WL.pass rfl rfl rfl rfl rfl (by decide) ?_
                refine WL.cons rfl (OP.pickF (Value.bool false) rfl rfl (by decide) ?_)
                refine WL.cons rfl (OP.move (Value.bool false) rfl (by decide) ?_)
                refine WL.pass rfl rfl rfl rfl rfl (by decide) ?_
                refine WL.pass rfl rfl rfl rfl rfl (by decide) ?_
                refine WL.pass rfl rfl rfl rfl rfl (by decide) ?_
                refine WL.cons rfl (OP.pickF (Value.bool false) rfl rfl (by decide) ?_)
                refine WL.cons rfl (OP.assign (Value.bool false) rfl (by decide) ?_)
                refine WL.nil (Qn.then ?_)
                refine W.ret (RetQ.of [(Value.bool false)] (.inr rfl) Try.results41 (.cons (.tmp (by decide) rfl) .nil) ?_)
                have hs37 : sat W0 [F] w31 := sat_sub' [2] [0, 1] hs34 (by kernel_rfl) (by kernel_rfl)
                exact ⟨(congrArg Value.bool (by rw [rightB_eq hok_ hlen_]; simp [hc12, hc15, hc18, hc21, hc24, hc27, hc35])), hs37⟩
              · refine WL.consG rfl rfl (Eq.trans (b := .bool (s.busy.any (fun n => !withinB n 0 65536))) rfl (congrArg Value.bool (hc35))) (OP.fieldAddr 2 fo_26_2 rfl rfl (by decide) ?_)
                refine WL.consG rfl rfl (Eq.trans (b := .bool (s.busy.any (fun n => !withinB n 0 65536))) rfl (congrArg Value.bool (hc35))) (OP.loadS (Value.slice s.turnsA s.turns.length s.turnsC) sc_23 rfl (sat_cell 0 hs34 rfl rfl) (by decide) ?_)
                refine WL.consG rfl rfl (Eq.trans (b := .bool (s.busy.any (fun n => !withinB n 0 65536))) rfl (congrArg Value.bool (hc35))) (OP.makeFunc [(Value.pointer (some ⟨b1, 0, none⟩))] rfl rfl (by decide) ?_)
                have hs38 : sat W0 [stars [blk b4 [(Value.slice s.busyA s.busy.length s.busyC), (Value.slice s.failsA s.fails.length s.failsC), (Value.slice s.turnsA s.turns.length s.turnsC), (Value.int .i64 s.cut), (Value.slice s.tornA s.torn.length s.tornC), (Value.slice s.markedA s.marked.length s.markedC)] 26, blk b1 [(Value.int .i64 g.planes), (Value.int .i64 g.blocks), (Value.int .i64 g.pages), (Value.int .i64 g.chunks), (Value.int .i64 g.chunk), (Value.int .i64 g.rungs), (Value.int .i64 g.partials)] 34, F]] w31 := sat_pack' [] [blk b4 [(Value.slice s.busyA s.busy.length s.busyC), (Value.slice s.failsA s.fails.length s.failsC), (Value.slice s.turnsA s.turns.length s.turnsC), (Value.int .i64 s.cut), (Value.slice s.tornA s.torn.length s.tornC), (Value.slice s.markedA s.marked.length s.markedC)] 26, blk b1 [(Value.int .i64 g.planes), (Value.int .i64 g.blocks), (Value.int .i64 g.pages), (Value.int .i64 g.chunks), (Value.int .i64 g.chunk), (Value.int .i64 g.rungs), (Value.int .i64 g.partials)] 34, F] hs34 (by kernel_rfl) (by kernel_rfl)
                have hcl41 := slices_ContainsFunc_turn s.turnsA s.turnsC s.turns 63 ([(Value.pointer (some ⟨b1, 0, none⟩))]) (badTurn g) (by first | assumption | omega) gf_63 (fun w x hx h => choice_Right_2 (F := stars [blk b4 [(Value.slice s.busyA s.busy.length s.busyC), (Value.slice s.failsA s.fails.length s.failsC), (Value.slice s.turnsA s.turns.length s.turnsC), (Value.int .i64 s.cut), (Value.slice s.tornA s.torn.length s.tornC), (Value.slice s.markedA s.marked.length s.markedC)] 26, blk b1 [(Value.int .i64 g.planes), (Value.int .i64 g.blocks), (Value.int .i64 g.pages), (Value.int .i64 g.chunks), (Value.int .i64 g.chunk), (Value.int .i64 g.rungs), (Value.int .i64 g.partials)] 34, F]) g x b1 (checkE_eq0 (Decidable.not_not.mp (by assumption))) (Ent_stars 1 rfl Ent_blk) h) (Ent_stars 2 rfl hS.turns) hs38
                refine WL.consG rfl rfl (Eq.trans (b := .bool (s.busy.any (fun n => !withinB n 0 65536))) rfl (congrArg Value.bool (hc35))) (?_)
                with_reducible refine OP.call [(Value.slice s.turnsA s.turns.length s.turnsC), (Value.func (Fn.func 63) #[] [(Value.pointer (some ⟨b1, 0, none⟩))].toArray)] gf_62 ?_ ?_ hcl41 ?_
                · exact rfl
                · decide
                clear hcl41
                rintro _ w39 ⟨_, rfl, rfl, hs40⟩
                refine ⟨_, rfl, ?_⟩
                have hs42 : sat W0 [blk b4 [(Value.slice s.busyA s.busy.length s.busyC), (Value.slice s.failsA s.fails.length s.failsC), (Value.slice s.turnsA s.turns.length s.turnsC), (Value.int .i64 s.cut), (Value.slice s.tornA s.torn.length s.tornC), (Value.slice s.markedA s.marked.length s.markedC)] 26, blk b1 [(Value.int .i64 g.planes), (Value.int .i64 g.blocks), (Value.int .i64 g.pages), (Value.int .i64 g.chunks), (Value.int .i64 g.chunk), (Value.int .i64 g.rungs), (Value.int .i64 g.partials)] 34, F] w39 := sat_flat' [] [blk b4 [(Value.slice s.busyA s.busy.length s.busyC), (Value.slice s.failsA s.fails.length s.failsC), (Value.slice s.turnsA s.turns.length s.turnsC), (Value.int .i64 s.cut), (Value.slice s.tornA s.torn.length s.tornC), (Value.slice s.markedA s.marked.length s.markedC)] 26, blk b1 [(Value.int .i64 g.planes), (Value.int .i64 g.blocks), (Value.int .i64 g.pages), (Value.int .i64 g.chunks), (Value.int .i64 g.chunk), (Value.int .i64 g.rungs), (Value.int .i64 g.partials)] 34, F] hs40 (by kernel_rfl) (by kernel_rfl)
                refine WL.cons rfl (OP.pickF (Value.bool (s.turns.any (badTurn g))) (Eq.trans (b := .bool (s.busy.any (fun n => !withinB n 0 65536))) rfl (congrArg Value.bool (hc35))) rfl (by decide) ?_)
                refine WL.cons rfl (OP.assign (Value.bool (s.turns.any (badTurn g))) rfl (by decide) ?_)
                refine WL.nil (Qn.then ?_)
                refine W.seq ?_
                have hok_ := checkE_eq0 (Decidable.not_not.mp (by assumption))
                have hk1_ := hok_.blocks
                refine W.region ?_
                refine WL.cons rfl (OP.move (Value.bool (s.turns.any (badTurn g))) rfl (by decide) ?_)
                refine WL.cons rfl (OP.not rfl (by decide) ?_)
                refine WL.cons rfl (OP.move (Value.bool (!(s.turns.any (badTurn g)))) rfl (by decide) ?_)
                rcases Bool.eq_false_or_eq_true (!(s.turns.any (badTurn g))) with hc43 | hc43
                · refine WL.consG rfl rfl (Eq.trans (b := .bool (!(s.turns.any (badTurn g)))) rfl (congrArg Value.bool (hc43))) (OP.fieldAddr 1 fo_26_1 rfl rfl (by decide) ?_)
                  refine WL.consG rfl rfl (Eq.trans (b := .bool (!(s.turns.any (badTurn g)))) rfl (congrArg Value.bool (hc43))) (OP.loadS (Value.slice s.failsA s.fails.length s.failsC) sc_22 rfl (sat_cell 0 hs42 rfl rfl) (by decide) ?_)
                  have hs44 : sat W0 [stars [blk b4 [(Value.slice s.busyA s.busy.length s.busyC), (Value.slice s.failsA s.fails.length s.failsC), (Value.slice s.turnsA s.turns.length s.turnsC), (Value.int .i64 s.cut), (Value.slice s.tornA s.torn.length s.tornC), (Value.slice s.markedA s.marked.length s.markedC)] 26, blk b1 [(Value.int .i64 g.planes), (Value.int .i64 g.blocks), (Value.int .i64 g.pages), (Value.int .i64 g.chunks), (Value.int .i64 g.chunk), (Value.int .i64 g.rungs), (Value.int .i64 g.partials)] 34, F]] w39 := sat_pack' [] [blk b4 [(Value.slice s.busyA s.busy.length s.busyC), (Value.slice s.failsA s.fails.length s.failsC), (Value.slice s.turnsA s.turns.length s.turnsC), (Value.int .i64 s.cut), (Value.slice s.tornA s.torn.length s.tornC), (Value.slice s.markedA s.marked.length s.markedC)] 26, blk b1 [(Value.int .i64 g.planes), (Value.int .i64 g.blocks), (Value.int .i64 g.pages), (Value.int .i64 g.chunks), (Value.int .i64 g.chunk), (Value.int .i64 g.rungs), (Value.int .i64 g.partials)] 34, F] hs42 (by kernel_rfl) (by kernel_rfl)
                  have hcl47 := choice_rising s.failsA s.failsC s.fails 4611686018427387904 (by first | assumption | omega) (Ent_stars 2 rfl hS.fails) hs44
                  refine WL.consG rfl rfl (Eq.trans (b := .bool (!(s.turns.any (badTurn g)))) rfl (congrArg Value.bool (hc43))) (?_)
                  with_reducible refine OP.call [(Value.slice s.failsA s.fails.length s.failsC), (Value.int .i64 4611686018427387904)] gf_65 ?_ ?_ hcl47 ?_
                  · exact rfl
                  · decide
                  clear hcl47
                  rintro _ w45 ⟨_, rfl, rfl, hs46⟩
                  refine ⟨_, rfl, ?_⟩
                  have hs48 : sat W0 [blk b4 [(Value.slice s.busyA s.busy.length s.busyC), (Value.slice s.failsA s.fails.length s.failsC), (Value.slice s.turnsA s.turns.length s.turnsC), (Value.int .i64 s.cut), (Value.slice s.tornA s.torn.length s.tornC), (Value.slice s.markedA s.marked.length s.markedC)] 26, blk b1 [(Value.int .i64 g.planes), (Value.int .i64 g.blocks), (Value.int .i64 g.pages), (Value.int .i64 g.chunks), (Value.int .i64 g.chunk), (Value.int .i64 g.rungs), (Value.int .i64 g.partials)] 34, F] w45 := sat_flat' [] [blk b4 [(Value.slice s.busyA s.busy.length s.busyC), (Value.slice s.failsA s.fails.length s.failsC), (Value.slice s.turnsA s.turns.length s.turnsC), (Value.int .i64 s.cut), (Value.slice s.tornA s.torn.length s.tornC), (Value.slice s.markedA s.marked.length s.markedC)] 26, blk b1 [(Value.int .i64 g.planes), (Value.int .i64 g.blocks), (Value.int .i64 g.pages), (Value.int .i64 g.chunks), (Value.int .i64 g.chunk), (Value.int .i64 g.rungs), (Value.int .i64 g.partials)] 34, F] hs46 (by kernel_rfl) (by kernel_rfl)
                  refine WL.cons rfl (OP.pickT (Value.bool (risingB (-1) 4611686018427387904 s.fails)) (Eq.trans (b := .bool (!(s.turns.any (badTurn g)))) rfl (congrArg Value.bool (hc43))) rfl (by decide) ?_)
                  refine WL.cons rfl (OP.move (Value.bool (risingB (-1) 4611686018427387904 s.fails)) rfl (by decide) ?_)
                  rcases Bool.eq_false_or_eq_true (risingB (-1) 4611686018427387904 s.fails) with hc49 | hc49
                  · refine WL.consG rfl rfl (Eq.trans (b := .bool (risingB (-1) 4611686018427387904 s.fails)) rfl (congrArg Value.bool (hc49))) (OP.fieldAddr 5 fo_26_5 rfl rfl (by decide) ?_)
                    refine WL.consG rfl rfl (Eq.trans (b := .bool (risingB (-1) 4611686018427387904 s.fails)) rfl (congrArg Value.bool (hc49))) (OP.loadS (Value.slice s.markedA s.marked.length s.markedC) sc_22 rfl (sat_cell 0 hs48 rfl rfl) (by decide) ?_)
                    refine WL.consG rfl rfl (Eq.trans (b := .bool (risingB (-1) 4611686018427387904 s.fails)) rfl (congrArg Value.bool (hc49))) (OP.fieldAddr 1 fo_34_1 rfl rfl (by decide) ?_)
                    refine WL.consG rfl rfl (Eq.trans (b := .bool (risingB (-1) 4611686018427387904 s.fails)) rfl (congrArg Value.bool (hc49))) (OP.loadS (Value.int .i64 g.blocks) sc_3 rfl (sat_cell 1 hs48 rfl rfl) (by decide) ?_)
                    refine WL.consG rfl rfl (Eq.trans (b := .bool (risingB (-1) 4611686018427387904 s.fails)) rfl (congrArg Value.bool (hc49))) (OP.sub (g.blocks - 1) rfl rfl (by first | rfl | omega | simp) (by unfold inI64; omega) (by decide) ?_)
                    have hs50 : sat W0 [stars [blk b4 [(Value.slice s.busyA s.busy.length s.busyC), (Value.slice s.failsA s.fails.length s.failsC), (Value.slice s.turnsA s.turns.length s.turnsC), (Value.int .i64 s.cut), (Value.slice s.tornA s.torn.length s.tornC), (Value.slice s.markedA s.marked.length s.markedC)] 26, blk b1 [(Value.int .i64 g.planes), (Value.int .i64 g.blocks), (Value.int .i64 g.pages), (Value.int .i64 g.chunks), (Value.int .i64 g.chunk), (Value.int .i64 g.rungs), (Value.int .i64 g.partials)] 34, F]] w45 := sat_pack' [] [blk b4 [(Value.slice s.busyA s.busy.length s.busyC), (Value.slice s.failsA s.fails.length s.failsC), (Value.slice s.turnsA s.turns.length s.turnsC), (Value.int .i64 s.cut), (Value.slice s.tornA s.torn.length s.tornC), (Value.slice s.markedA s.marked.length s.markedC)] 26, blk b1 [(Value.int .i64 g.planes), (Value.int .i64 g.blocks), (Value.int .i64 g.pages), (Value.int .i64 g.chunks), (Value.int .i64 g.chunk), (Value.int .i64 g.rungs), (Value.int .i64 g.partials)] 34, F] hs48 (by kernel_rfl) (by kernel_rfl)
                    have hcl53 := choice_rising s.markedA s.markedC s.marked (g.blocks - 1) (by first | assumption | omega) (Ent_stars 2 rfl hS.marked) hs50
                    refine WL.consG rfl rfl (Eq.trans (b := .bool (risingB (-1) 4611686018427387904 s.fails)) rfl (congrArg Value.bool (hc49))) (?_)
                    with_reducible refine OP.call [(Value.slice s.markedA s.marked.length s.markedC), (Value.int .i64 (g.blocks - 1))] gf_65 ?_ ?_ hcl53 ?_
                    · exact rfl
                    · decide
                    clear hcl53
                    rintro _ w51 ⟨_, rfl, rfl, hs52⟩
                    refine ⟨_, rfl, ?_⟩
                    have hs54 : sat W0 [blk b4 [(Value.slice s.busyA s.busy.length s.busyC), (Value.slice s.failsA s.fails.length s.failsC), (Value.slice s.turnsA s.turns.length s.turnsC), (Value.int .i64 s.cut), (Value.slice s.tornA s.torn.length s.tornC), (Value.slice s.markedA s.marked.length s.markedC)] 26, blk b1 [(Value.int .i64 g.planes), (Value.int .i64 g.blocks), (Value.int .i64 g.pages), (Value.int .i64 g.chunks), (Value.int .i64 g.chunk), (Value.int .i64 g.rungs), (Value.int .i64 g.partials)] 34, F] w51 := sat_flat' [] [blk b4 [(Value.slice s.busyA s.busy.length s.busyC), (Value.slice s.failsA s.fails.length s.failsC), (Value.slice s.turnsA s.turns.length s.turnsC), (Value.int .i64 s.cut), (Value.slice s.tornA s.torn.length s.tornC), (Value.slice s.markedA s.marked.length s.markedC)] 26, blk b1 [(Value.int .i64 g.planes), (Value.int .i64 g.blocks), (Value.int .i64 g.pages), (Value.int .i64 g.chunks), (Value.int .i64 g.chunk), (Value.int .i64 g.rungs), (Value.int .i64 g.partials)] 34, F] hs52 (by kernel_rfl) (by kernel_rfl)
                    refine WL.cons rfl (OP.pickT (Value.bool (risingB (-1) (g.blocks - 1) s.marked)) (Eq.trans (b := .bool (risingB (-1) 4611686018427387904 s.fails)) rfl (congrArg Value.bool (hc49))) rfl (by decide) ?_)
                    refine WL.cons rfl (OP.move (Value.bool (risingB (-1) (g.blocks - 1) s.marked)) rfl (by decide) ?_)
                    rcases Bool.eq_false_or_eq_true (risingB (-1) (g.blocks - 1) s.marked) with hc55 | hc55
                    · refine WL.consG rfl rfl (Eq.trans (b := .bool (risingB (-1) (g.blocks - 1) s.marked)) rfl (congrArg Value.bool (hc55))) (OP.fieldAddr 3 fo_26_3 rfl rfl (by decide) ?_)
                      refine WL.consG rfl rfl (Eq.trans (b := .bool (risingB (-1) (g.blocks - 1) s.marked)) rfl (congrArg Value.bool (hc55))) (OP.loadS (Value.int .i64 s.cut) sc_3 rfl (sat_cell 0 hs54 rfl rfl) (by decide) ?_)
                      have hs56 : sat W0 [stars [blk b4 [(Value.slice s.busyA s.busy.length s.busyC), (Value.slice s.failsA s.fails.length s.failsC), (Value.slice s.turnsA s.turns.length s.turnsC), (Value.int .i64 s.cut), (Value.slice s.tornA s.torn.length s.tornC), (Value.slice s.markedA s.marked.length s.markedC)] 26, blk b1 [(Value.int .i64 g.planes), (Value.int .i64 g.blocks), (Value.int .i64 g.pages), (Value.int .i64 g.chunks), (Value.int .i64 g.chunk), (Value.int .i64 g.rungs), (Value.int .i64 g.partials)] 34, F]] w51 := sat_pack' [] [blk b4 [(Value.slice s.busyA s.busy.length s.busyC), (Value.slice s.failsA s.fails.length s.failsC), (Value.slice s.turnsA s.turns.length s.turnsC), (Value.int .i64 s.cut), (Value.slice s.tornA s.torn.length s.tornC), (Value.slice s.markedA s.marked.length s.markedC)] 26, blk b1 [(Value.int .i64 g.planes), (Value.int .i64 g.blocks), (Value.int .i64 g.pages), (Value.int .i64 g.chunks), (Value.int .i64 g.chunk), (Value.int .i64 g.rungs), (Value.int .i64 g.partials)] 34, F] hs54 (by kernel_rfl) (by kernel_rfl)
                      have hcl59 := choice_within s.cut (-1) 16777216 hs56
                      refine WL.consG rfl rfl (Eq.trans (b := .bool (risingB (-1) (g.blocks - 1) s.marked)) rfl (congrArg Value.bool (hc55))) (?_)
                      with_reducible refine OP.call [(Value.int .i64 s.cut), (Value.int .i64 (-1)), (Value.int .i64 16777216)] gf_58 ?_ ?_ hcl59 ?_
                      · exact rfl
                      · decide
                      clear hcl59
                      rintro _ w57 ⟨_, rfl, rfl, hs58⟩
                      refine ⟨_, rfl, ?_⟩
                      have hs60 : sat W0 [blk b4 [(Value.slice s.busyA s.busy.length s.busyC), (Value.slice s.failsA s.fails.length s.failsC), (Value.slice s.turnsA s.turns.length s.turnsC), (Value.int .i64 s.cut), (Value.slice s.tornA s.torn.length s.tornC), (Value.slice s.markedA s.marked.length s.markedC)] 26, blk b1 [(Value.int .i64 g.planes), (Value.int .i64 g.blocks), (Value.int .i64 g.pages), (Value.int .i64 g.chunks), (Value.int .i64 g.chunk), (Value.int .i64 g.rungs), (Value.int .i64 g.partials)] 34, F] w57 := sat_flat' [] [blk b4 [(Value.slice s.busyA s.busy.length s.busyC), (Value.slice s.failsA s.fails.length s.failsC), (Value.slice s.turnsA s.turns.length s.turnsC), (Value.int .i64 s.cut), (Value.slice s.tornA s.torn.length s.tornC), (Value.slice s.markedA s.marked.length s.markedC)] 26, blk b1 [(Value.int .i64 g.planes), (Value.int .i64 g.blocks), (Value.int .i64 g.pages), (Value.int .i64 g.chunks), (Value.int .i64 g.chunk), (Value.int .i64 g.rungs), (Value.int .i64 g.partials)] 34, F] hs58 (by kernel_rfl) (by kernel_rfl)
                      refine WL.cons rfl (OP.pickT (Value.bool (withinB s.cut (-1) 16777216)) (Eq.trans (b := .bool (risingB (-1) (g.blocks - 1) s.marked)) rfl (congrArg Value.bool (hc55))) rfl (by decide) ?_)
                      refine WL.cons rfl (OP.assign (Value.bool (withinB s.cut (-1) 16777216)) rfl (by decide) ?_)
                      refine WL.nil (Qn.then ?_)
                      refine W.ret (RetQ.of [(Value.bool (withinB s.cut (-1) 16777216))] (.inr rfl) Try.results41 (.cons (.tmp (by decide) rfl) .nil) ?_)
                      have hs62 : sat W0 [F] w57 := sat_sub' [2] [0, 1] hs60 (by kernel_rfl) (by kernel_rfl)
                      exact ⟨(congrArg Value.bool (by rw [rightB_eq hok_ hlen_]; simp [hc12, hc15, hc18, hc21, hc24, hc27, hc35, hc43, hc49, hc55])), hs62⟩
                    · refine WL.pass rfl rfl (Eq.trans (b := .bool (risingB (-1) (g.blocks - 1) s.marked)) rfl (congrArg Value.bool (hc55))) rfl rfl (by decide) ?_
                      refine WL.pass rfl rfl (Eq.trans (b := .bool (risingB (-1) (g.blocks - 1) s.marked)) rfl (congrArg Value.bool (hc55))) rfl rfl (by decide) ?_
                      refine WL.pass rfl rfl (Eq.trans (b := .bool (risingB (-1) (g.blocks - 1) s.marked)) rfl (congrArg Value.bool (hc55))) rfl rfl (by decide) ?_
                      refine WL.cons rfl (OP.pickF (Value.bool false) (Eq.trans (b := .bool (risingB (-1) (g.blocks - 1) s.marked)) rfl (congrArg Value.bool (hc55))) rfl (by decide) ?_)
                      refine WL.cons rfl (OP.assign (Value.bool false) rfl (by decide) ?_)
                      refine WL.nil (Qn.then ?_)
                      refine W.ret (RetQ.of [(Value.bool false)] (.inr rfl) Try.results41 (.cons (.tmp (by decide) rfl) .nil) ?_)
                      have hs64 : sat W0 [F] w51 := sat_sub' [2] [0, 1] hs54 (by kernel_rfl) (by kernel_rfl)
                      exact ⟨(congrArg Value.bool (by rw [rightB_eq hok_ hlen_]; simp [hc12, hc15, hc18, hc21, hc24, hc27, hc35, hc43, hc49, hc55])), hs64⟩
                  · refine WL.pass rfl rfl (Eq.trans (b := .bool (risingB (-1) 4611686018427387904 s.fails)) rfl (congrArg Value.bool (hc49))) rfl rfl (by decide) ?_
                    refine WL.pass rfl rfl (Eq.trans (b := .bool (risingB (-1) 4611686018427387904 s.fails)) rfl (congrArg Value.bool (hc49))) rfl rfl (by decide) ?_
                    refine WL.pass rfl rfl (Eq.trans (b := .bool (risingB (-1) 4611686018427387904 s.fails)) rfl (congrArg Value.bool (hc49))) rfl rfl (by decide) ?_
                    refine WL.pass rfl rfl (Eq.trans (b := .bool (risingB (-1) 4611686018427387904 s.fails)) rfl (congrArg Value.bool (hc49))) rfl rfl (by decide) ?_
                    refine WL.pass rfl rfl (Eq.trans (b := .bool (risingB (-1) 4611686018427387904 s.fails)) rfl (congrArg Value.bool (hc49))) rfl rfl (by decide) ?_
                    refine WL.pass rfl rfl (Eq.trans (b := .bool (risingB (-1) 4611686018427387904 s.fails)) rfl (congrArg Value.bool (hc49))) rfl rfl (by decide) ?_
                    refine WL.cons rfl (OP.pickF (Value.bool false) (Eq.trans (b := .bool (risingB (-1) 4611686018427387904 s.fails)) rfl (congrArg Value.bool (hc49))) rfl (by decide) ?_)
                    refine WL.cons rfl (OP.move (Value.bool false) rfl (by decide) ?_)
                    refine WL.pass rfl rfl rfl rfl rfl (by decide) ?_
                    refine WL.pass rfl rfl rfl rfl rfl (by decide) ?_
                    refine WL.pass rfl rfl rfl rfl rfl (by decide) ?_
                    refine WL.cons rfl (OP.pickF (Value.bool false) rfl rfl (by decide) ?_)
                    refine WL.cons rfl (OP.assign (Value.bool false) rfl (by decide) ?_)
                    refine WL.nil (Qn.then ?_)
                    refine W.ret (RetQ.of [(Value.bool false)] (.inr rfl) Try.results41 (.cons (.tmp (by decide) rfl) .nil) ?_)
                    have hs66 : sat W0 [F] w45 := sat_sub' [2] [0, 1] hs48 (by kernel_rfl) (by kernel_rfl)
                    exact ⟨(congrArg Value.bool (by rw [rightB_eq hok_ hlen_]; simp [hc12, hc15, hc18, hc21, hc24, hc27, hc35, hc43, hc49])), hs66⟩
                · refine WL.pass rfl rfl (Eq.trans (b := .bool (!(s.turns.any (badTurn g)))) rfl (congrArg Value.bool (hc43))) rfl rfl (by decide) ?_
                  refine WL.pass rfl rfl (Eq.trans (b := .bool (!(s.turns.any (badTurn g)))) rfl (congrArg Value.bool (hc43))) rfl rfl (by decide) ?_
                  refine WL.pass rfl rfl (Eq.trans (b := .bool (!(s.turns.any (badTurn g)))) rfl (congrArg Value.bool (hc43))) rfl rfl (by decide) ?_
                  refine WL.cons rfl (OP.pickF (Value.bool false) (Eq.trans (b := .bool (!(s.turns.any (badTurn g)))) rfl (congrArg Value.bool (hc43))) rfl (by decide) ?_)
                  refine WL.cons rfl (OP.move (Value.bool false) rfl (by decide) ?_)
                  refine WL.pass rfl rfl rfl rfl rfl (by decide) ?_
                  refine WL.pass rfl rfl rfl rfl rfl (by decide) ?_
                  refine WL.pass rfl rfl rfl rfl rfl (by decide) ?_
                  refine WL.pass rfl rfl rfl rfl rfl (by decide) ?_
                  refine WL.pass rfl rfl rfl rfl rfl (by decide) ?_
                  refine WL.pass rfl rfl rfl rfl rfl (by decide) ?_
                  refine WL.cons rfl (OP.pickF (Value.bool false) rfl rfl (by decide) ?_)
                  refine WL.cons rfl (OP.move (Value.bool false) rfl (by decide) ?_)
                  refine WL.pass rfl rfl rfl rfl rfl (by decide) ?_
                  refine WL.pass rfl rfl rfl rfl rfl (by decide) ?_
                  refine WL.pass rfl rfl rfl rfl rfl (by decide) ?_
                  refine WL.cons rfl (OP.pickF (Value.bool false) rfl rfl (by decide) ?_)
                  refine WL.cons rfl (OP.assign (Value.bool false) rfl (by decide) ?_)
                  refine WL.nil (Qn.then ?_)
                  refine W.ret (RetQ.of [(Value.bool false)] (.inr rfl) Try.results41 (.cons (.tmp (by decide) rfl) .nil) ?_)
                  have hs68 : sat W0 [F] w39 := sat_sub' [2] [0, 1] hs42 (by kernel_rfl) (by kernel_rfl)
                  exact ⟨(congrArg Value.bool (by rw [rightB_eq hok_ hlen_]; simp [hc12, hc15, hc18, hc21, hc24, hc27, hc35, hc43])), hs68⟩

end Go.Proofs.Ytleolejhkdolpaa
