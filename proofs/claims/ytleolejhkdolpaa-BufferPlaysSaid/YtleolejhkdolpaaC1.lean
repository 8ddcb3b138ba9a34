import Derived.Test.YtleolejhkdolpaaC0
import Derived.Test.YtleolejhkdolpaaModB
import Derived.KernelRfl
set_option linter.unusedVariables false
set_option linter.unusedSimpArgs false
set_option maxRecDepth 100000
set_option maxHeartbeats 4000000
namespace Go.Proofs.Ytleolejhkdolpaa
open Go Go.RowKit Sv
theorem buffer_copied {W0 : World} {F : HProp} {w : World}  (x : BEnt) (D : List (Option Addr × List Int)) (hx : (x.da, x.data) ∈ D) (hn : x.data.length ≤ 1099511627) 
    (hs : sat W0 [ShD W0 D, F] w) :
    Calls Try.prog 48 ([(Value.agg [(Value.int .i64 x.sector), (Value.int .i64 x.kind), (Value.slice x.da x.data.length x.dc)].toArray)] : List Value).toArray w (fun x_ w' => ∃ v_, x_ = .returned v_ ∧ (∃ a_ : Option Addr, ∃ c_ : Nat, ∃ D_ : List (Option Addr × List Int), v_ = (Value.agg [(Value.int .i64 x.sector), (Value.int .i64 x.kind), (Value.slice a_ x.data.length c_)].toArray) ∧ DSub D D_ ∧ (a_, x.data) ∈ D_ ∧ sat W0 [ShD W0 D_, F] w')) := by
  refine W.enter Try.func48 rfl Try.ntmps48 (by simp) ?_
  refine W.seq ?_
  refine W.region ?_
  refine WL.cons rfl (OP.box (Value.agg [(Value.int .i64 x.sector), (Value.int .i64 x.kind), (Value.slice x.da x.data.length x.dc)].toArray) [(Value.int .i64 x.sector), (Value.int .i64 x.kind), (Value.slice x.da x.data.length x.dc)] hs rfl rfl (by decide) (fun b1 w2 hs3 => ?_))
  refine WL.cons rfl (OP.alloc _ [(Value.int .i64 0), (Value.int .i64 0), (Value.slice none 0 0)] hs3 ze_48 rfl (by decide) (fun b4 w5 hs6 => ?_))
  refine WL.nil (Qn.then ?_)
  refine W.seq ?_
  refine W.region ?_
  refine WL.cons rfl (OP.fieldAddr 2 fo_48_2 rfl rfl (by decide) ?_)
  refine WL.cons rfl (OP.loadS (Value.slice x.da x.data.length x.dc) sc_24 rfl (sat_cell 1 hs6 rfl rfl) (by decide) ?_)
  have hs7 : sat W0 [stars [blk b4 [(Value.int .i64 0), (Value.int .i64 0), (Value.slice none 0 0)] 48, blk b1 [(Value.int .i64 x.sector), (Value.int .i64 x.kind), (Value.slice x.da x.data.length x.dc)] 48, ShD W0 D, F]] w5 := sat_pack' [] [blk b4 [(Value.int .i64 0), (Value.int .i64 0), (Value.slice none 0 0)] 48, blk b1 [(Value.int .i64 x.sector), (Value.int .i64 x.kind), (Value.slice x.da x.data.length x.dc)] 48, ShD W0 D, F] hs6 (by kernel_rfl) (by kernel_rfl)
  have hcl12 := clone_bytes29 x.da x.dc x.data (by first | assumption | omega) (Ent_stars 2 rfl (Ent_ShDm hx)) hs7
  refine WL.cons rfl (?_)
  with_reducible refine OP.call [(Value.slice x.da x.data.length x.dc)] gf_43 ?_ ?_ hcl12 ?_
  · exact rfl
  · decide
  clear hcl12
  rintro _ w10 ⟨_, rfl, a_8, c_9, rfl, hs11⟩
  refine ⟨_, rfl, ?_⟩
  have hs13 : sat W0 [SL false 1 a_8 x.data.length c_9 (x.data.map (Value.int .u8)), blk b4 [(Value.int .i64 0), (Value.int .i64 0), (Value.slice none 0 0)] 48, blk b1 [(Value.int .i64 x.sector), (Value.int .i64 x.kind), (Value.slice x.da x.data.length x.dc)] 48, ShD W0 D, F] w10 := sat_flat' [SL false 1 a_8 x.data.length c_9 (x.data.map (Value.int .u8))] [blk b4 [(Value.int .i64 0), (Value.int .i64 0), (Value.slice none 0 0)] 48, blk b1 [(Value.int .i64 x.sector), (Value.int .i64 x.kind), (Value.slice x.da x.data.length x.dc)] 48, ShD W0 D, F] hs11 (by kernel_rfl) (by kernel_rfl)
  refine WL.cons rfl (OP.fieldAddr 2 fo_48_2 rfl rfl (by decide) ?_)
  have hs14 : sat W0 [blk b1 [(Value.int .i64 x.sector), (Value.int .i64 x.kind), (Value.slice x.da x.data.length x.dc)] 48, SL false 1 a_8 x.data.length c_9 (x.data.map (Value.int .u8)), blk b4 [(Value.int .i64 0), (Value.int .i64 0), (Value.slice none 0 0)] 48, ShD W0 D, F] w10 := sat_sel' [2, 0, 1, 3, 4] hs13 (by kernel_rfl) (by kernel_rfl)
  refine WL.cons rfl (OP.store (Value.slice a_8 x.data.length c_9) [(Value.slice a_8 x.data.length c_9)] hs14 rfl rfl rfl sz_24 rfl (by rfl) (by simp) (fun w15 hs16 => ?_))
  have hs17 : sat W0 [blk b1 [(Value.int .i64 x.sector), (Value.int .i64 x.kind), (Value.slice a_8 x.data.length c_9)] 48, SL false 1 a_8 x.data.length c_9 (x.data.map (Value.int .u8)), blk b4 [(Value.int .i64 0), (Value.int .i64 0), (Value.slice none 0 0)] 48, ShD W0 D, F] w15 := hs16
  refine WL.nil (Qn.then ?_)
  refine W.seq ?_
  have hs18 : sat W0 [SL false 1 a_8 x.data.length c_9 (x.data.map (Value.int .u8)), ShD W0 D, blk b1 [(Value.int .i64 x.sector), (Value.int .i64 x.kind), (Value.slice a_8 x.data.length c_9)] 48, blk b4 [(Value.int .i64 0), (Value.int .i64 0), (Value.slice none 0 0)] 48, F] w15 := sat_sel' [1, 3, 0, 2, 4] hs17 (by kernel_rfl) (by kernel_rfl)
  have hs19 : sat W0 [ShD W0 ((a_8, x.data) :: D), blk b1 [(Value.int .i64 x.sector), (Value.int .i64 x.kind), (Value.slice a_8 x.data.length c_9)] 48, blk b4 [(Value.int .i64 0), (Value.int .i64 0), (Value.slice none 0 0)] 48, F] w15 := (sat_ShD_add (c := c_9) hs18)
  refine W.region ?_
  refine WL.cons rfl (OP.loadA [(Value.int .i64 x.sector), (Value.int .i64 x.kind), (Value.slice a_8 x.data.length c_9)] ag_48 sz_48 rfl (sat_rdn 1 hs19 rfl rfl) (by decide) ?_)
  have hs20 : sat W0 [blk b4 [(Value.int .i64 0), (Value.int .i64 0), (Value.slice none 0 0)] 48, ShD W0 ((a_8, x.data) :: D), blk b1 [(Value.int .i64 x.sector), (Value.int .i64 x.kind), (Value.slice a_8 x.data.length c_9)] 48, F] w15 := sat_sel' [2, 0, 1, 3] hs19 (by kernel_rfl) (by kernel_rfl)
  refine WL.cons rfl (OP.store (Value.agg [(Value.int .i64 x.sector), (Value.int .i64 x.kind), (Value.slice a_8 x.data.length c_9)].toArray) [(Value.int .i64 x.sector), (Value.int .i64 x.kind), (Value.slice a_8 x.data.length c_9)] hs20 rfl rfl rfl sz_48 rfl (by rfl) (by simp) (fun w21 hs22 => ?_))
  have hs23 : sat W0 [blk b4 [(Value.int .i64 x.sector), (Value.int .i64 x.kind), (Value.slice a_8 x.data.length c_9)] 48, ShD W0 ((a_8, x.data) :: D), blk b1 [(Value.int .i64 x.sector), (Value.int .i64 x.kind), (Value.slice a_8 x.data.length c_9)] 48, F] w21 := hs22
  refine WL.nil (Qn.then ?_)
  refine W.ret (RetQ.of [(Value.agg [(Value.int .i64 x.sector), (Value.int .i64 x.kind), (Value.slice a_8 x.data.length c_9)].toArray)] (.inr rfl) Try.results48 (.cons (.cell (by decide) rfl (run_loadA (vs := [(Value.int .i64 x.sector), (Value.int .i64 x.kind), (Value.slice a_8 x.data.length c_9)]) ag_48 sz_48 (sat_rdn 0 hs23 rfl rfl))) .nil) ?_)
  have hs25 : sat W0 [ShD W0 ((a_8, x.data) :: D), F] w21 := sat_sub' [1, 3] [0, 2] hs23 (by kernel_rfl) (by kernel_rfl)
  exact ⟨a_8, c_9, ((a_8, x.data) :: D), rfl, DSub.cons, (List.mem_cons_self ..), hs25⟩

end Go.Proofs.Ytleolejhkdolpaa
