import Derived.Test.YtleolejhkdolpaaA4
import Derived.KernelRfl
set_option linter.unusedVariables false
set_option linter.unusedSimpArgs false
set_option maxRecDepth 100000
set_option maxHeartbeats 4000000
namespace Go.Proofs.Ytleolejhkdolpaa
open Go Go.RowKit Sv
theorem Teller_Turns {W0 : World} {F : HProp} {w : World}  (p : Nat) (busy : List Int) (fails : List Int) (torn : List Int) (ts : List Turn) (asked : Int) (work : Int) (row : Int) (rung : Int) (hn : ts.length ≤ 1099511) 
    (hs : sat W0 [TellerRep p busy fails torn ts asked work, F] w) :
    Calls Try.prog 11 ([(Value.pointer (some ⟨p, 0, none⟩)), (Value.int .i64 row), (Value.int .i64 rung)] : List Value).toArray w (fun x_ w' => ∃ v_, x_ = .returned v_ ∧ (∃ a_ : Option Addr, ∃ c_ : Nat, v_ = (Value.slice a_ ((bitsOf (row, rung) ts).length) c_) ∧ sat W0 [TellerRep p busy fails torn ts asked work, SL false 1 a_ ((bitsOf (row, rung) ts).length) c_ ((bitsOf (row, rung) ts).map (Value.int .i64)), F] w')) := by
  refine W.enter Try.func11 rfl Try.ntmps11 (by simp) ?_
  refine W.seq ?_
  refine W.region ?_
  refine WL.cons rfl (OP.assign (Value.slice none 0 0) rfl (by decide) ?_)
  refine WL.nil (Qn.then ?_)
  refine W.seq ?_
  refine W.seq ?_
  refine W.region ?_
  refine WL.cons rfl (OP.move (Value.pointer (some ⟨p, 0, none⟩)) rfl (by decide) ?_)
  have hs1 : sat W0 [TellerRep p busy fails torn ts asked work, stars [F]] w := sat_pack' [TellerRep p busy fails torn ts asked work] [F] hs (by kernel_rfl) (by kernel_rfl)
  have hcl4 := Teller_is p busy fails torn ts asked work hs1
  refine WL.cons rfl (?_)
  with_reducible refine OP.call [(Value.pointer (some ⟨p, 0, none⟩))] gf_44 ?_ ?_ hcl4 ?_
  · exact rfl
  · decide
  clear hcl4
  rintro _ w2 ⟨_, rfl, rfl, hs3⟩
  refine ⟨_, rfl, ?_⟩
  have hs5 : sat W0 [TellerRep p busy fails torn ts asked work, F] w2 := sat_flat' [TellerRep p busy fails torn ts asked work] [F] hs3 (by kernel_rfl) (by kernel_rfl)
  refine WL.cons rfl (OP.not rfl (by decide) ?_)
  refine WL.nil (Qn.then ?_)
  refine W.iteF rfl ?_
  refine W.skip (Qn.then ?_)
  refine W.seq ?_
  obtain ⟨a1_6, c1_7, a2_8, c2_9, a3_10, c3_11, r_12, rows_13, clk_14, hp15, hs16⟩ := TellerRep_open hs5
  have hs17 : sat W0 [blk p [(Value.slice a1_6 busy.length c1_7), (Value.slice a2_8 fails.length c2_9), (Value.map (some r_12)), (Value.slice a3_10 torn.length c3_11), (Value.int .i64 asked), (Value.int .i64 work)] 88, SL false 1 a1_6 busy.length c1_7 (busy.map (Value.int .i64)), SL false 1 a2_8 fails.length c2_9 (fails.map (Value.int .i64)), SL false 1 a3_10 torn.length c3_11 (torn.map (Value.int .u8)), MP encPair r_12 (rows_13.map tRow) clk_14, stars (rows_13.map rowSL), F] w2 := hs16
  have hbl_ := bitsOf_length (row, rung) ts
  refine W.region ?_
  refine WL.cons rfl (OP.move (Value.pointer (some ⟨p, 0, none⟩)) rfl (by decide) ?_)
  refine WL.cons rfl (OP.nilCheck rfl (by decide) ?_)
  refine WL.cons rfl (OP.fieldAddr 2 fo_88_2 rfl rfl (by decide) ?_)
  refine WL.cons rfl (OP.loadS (Value.map (some r_12)) sc_86 rfl (sat_cell 0 hs17 rfl rfl) (by decide) ?_)
  refine WL.cons rfl (OP.move (Value.int .i64 row) rfl (by decide) ?_)
  refine WL.cons rfl (OP.move (Value.int .i64 rung) rfl (by decide) ?_)
  refine WL.cons rfl (OP.build [(0, (Value.int .i64 row)), (1, (Value.int .i64 rung))] [(Value.int .i64 row), (Value.int .i64 rung)] rfl (by kernel_rfl) (by decide) ?_)
  have hs18 : sat W0 [MP encPair r_12 (rows_13.map tRow) clk_14, blk p [(Value.slice a1_6 busy.length c1_7), (Value.slice a2_8 fails.length c2_9), (Value.map (some r_12)), (Value.slice a3_10 torn.length c3_11), (Value.int .i64 asked), (Value.int .i64 work)] 88, SL false 1 a1_6 busy.length c1_7 (busy.map (Value.int .i64)), SL false 1 a2_8 fails.length c2_9 (fails.map (Value.int .i64)), SL false 1 a3_10 torn.length c3_11 (torn.map (Value.int .u8)), stars (rows_13.map rowSL), F] w2 := sat_sel' [4, 0, 1, 2, 3, 5, 6] hs17 (by kernel_rfl) (by kernel_rfl)
  rcases hfr : findRow (row, rung) (rows_13.map tRow) 0 with _ | ⟨i_, u_⟩
  · have hx0 : bitsOf (row, rung) ts = [] := ((findRow_tRow_none hfr).1.symm.trans (hp15 _)).symm
    refine WL.cons rfl (OP.lookup (kenc := encPair) (k := (row, rung)) (Value.slice none ((bitsOf (row, rung) ts).length) 0) (keyPair Try.underlying90 Try.underlying3 sz_3) Try.underlying86 hs18 ze_22 rfl rfl (by rw [hfr, hx0]; rfl) (by decide) ?_)
    have hs19 : sat W0 [stars [MP encPair r_12 (rows_13.map tRow) clk_14, blk p [(Value.slice a1_6 busy.length c1_7), (Value.slice a2_8 fails.length c2_9), (Value.map (some r_12)), (Value.slice a3_10 torn.length c3_11), (Value.int .i64 asked), (Value.int .i64 work)] 88, SL false 1 a1_6 busy.length c1_7 (busy.map (Value.int .i64)), SL false 1 a2_8 fails.length c2_9 (fails.map (Value.int .i64)), SL false 1 a3_10 torn.length c3_11 (torn.map (Value.int .u8)), stars (rows_13.map rowSL), F]] w2 := sat_pack' [] [MP encPair r_12 (rows_13.map tRow) clk_14, blk p [(Value.slice a1_6 busy.length c1_7), (Value.slice a2_8 fails.length c2_9), (Value.map (some r_12)), (Value.slice a3_10 torn.length c3_11), (Value.int .i64 asked), (Value.int .i64 work)] 88, SL false 1 a1_6 busy.length c1_7 (busy.map (Value.int .i64)), SL false 1 a2_8 fails.length c2_9 (fails.map (Value.int .i64)), SL false 1 a3_10 torn.length c3_11 (torn.map (Value.int .u8)), stars (rows_13.map rowSL), F] hs18 (by kernel_rfl) (by kernel_rfl)
    have hcl24 := clone_ints none 0 (bitsOf (row, rung) ts) (by first | assumption | omega) (fun _ _ => by rw [hx0]; exact Rd_nil) hs19
    refine WL.cons rfl (?_)
    with_reducible refine OP.call [(Value.slice none ((bitsOf (row, rung) ts).length) 0)] gf_42 ?_ ?_ hcl24 ?_
    · exact rfl
    · decide
    clear hcl24
    rintro _ w22 ⟨_, rfl, a_20, c_21, rfl, hs23⟩
    refine ⟨_, rfl, ?_⟩
    have hs25 : sat W0 [SL false 1 a_20 ((bitsOf (row, rung) ts).length) c_21 ((bitsOf (row, rung) ts).map (Value.int .i64)), MP encPair r_12 (rows_13.map tRow) clk_14, blk p [(Value.slice a1_6 busy.length c1_7), (Value.slice a2_8 fails.length c2_9), (Value.map (some r_12)), (Value.slice a3_10 torn.length c3_11), (Value.int .i64 asked), (Value.int .i64 work)] 88, SL false 1 a1_6 busy.length c1_7 (busy.map (Value.int .i64)), SL false 1 a2_8 fails.length c2_9 (fails.map (Value.int .i64)), SL false 1 a3_10 torn.length c3_11 (torn.map (Value.int .u8)), stars (rows_13.map rowSL), F] w22 := sat_flat' [SL false 1 a_20 ((bitsOf (row, rung) ts).length) c_21 ((bitsOf (row, rung) ts).map (Value.int .i64))] [MP encPair r_12 (rows_13.map tRow) clk_14, blk p [(Value.slice a1_6 busy.length c1_7), (Value.slice a2_8 fails.length c2_9), (Value.map (some r_12)), (Value.slice a3_10 torn.length c3_11), (Value.int .i64 asked), (Value.int .i64 work)] 88, SL false 1 a1_6 busy.length c1_7 (busy.map (Value.int .i64)), SL false 1 a2_8 fails.length c2_9 (fails.map (Value.int .i64)), SL false 1 a3_10 torn.length c3_11 (torn.map (Value.int .u8)), stars (rows_13.map rowSL), F] hs23 (by kernel_rfl) (by kernel_rfl)
    refine WL.cons rfl (OP.assign (Value.slice a_20 ((bitsOf (row, rung) ts).length) c_21) rfl (by decide) ?_)
    refine WL.nil (Qn.then ?_)
    refine W.ret (RetQ.of [(Value.slice a_20 ((bitsOf (row, rung) ts).length) c_21)] (.inr rfl) Try.results11 (.cons (.tmp (by decide) rfl) .nil) ?_)
    have hs27 : sat W0 [blk p [(Value.slice a1_6 busy.length c1_7), (Value.slice a2_8 fails.length c2_9), (Value.map (some r_12)), (Value.slice a3_10 torn.length c3_11), (Value.int .i64 asked), (Value.int .i64 work)] 88, SL false 1 a1_6 busy.length c1_7 (busy.map (Value.int .i64)), SL false 1 a2_8 fails.length c2_9 (fails.map (Value.int .i64)), SL false 1 a3_10 torn.length c3_11 (torn.map (Value.int .u8)), MP encPair r_12 (rows_13.map tRow) clk_14, stars (rows_13.map rowSL), SL false 1 a_20 ((bitsOf (row, rung) ts).length) c_21 ((bitsOf (row, rung) ts).map (Value.int .i64)), F] w22 := sat_sel' [2, 3, 4, 5, 1, 6, 0, 7] hs25 (by kernel_rfl) (by kernel_rfl)
    have hs28 : sat W0 [TellerRep p busy fails torn ts asked work, SL false 1 a_20 ((bitsOf (row, rung) ts).length) c_21 ((bitsOf (row, rung) ts).map (Value.int .i64)), F] w22 := TellerRep_close a1_6 c1_7 a2_8 c2_9 a3_10 c3_11 r_12 rows_13 clk_14 (by assumption) hs27
    exact ⟨a_20, c_21, rfl, hs28⟩
  · obtain ⟨r0, hr0, hk0, rfl, hg0, _⟩ := findRow_tRow_some hfr
    have hx0 : r0.xs = bitsOf (row, rung) ts := hg0.symm.trans (hp15 _)
    refine WL.cons rfl (OP.lookup (kenc := encPair) (k := (row, rung)) (Value.slice r0.a ((bitsOf (row, rung) ts).length) r0.c) (keyPair Try.underlying90 Try.underlying3 sz_3) Try.underlying86 hs18 ze_22 rfl rfl (by rw [hfr, ← hx0]) (by decide) ?_)
    have hs29 : sat W0 [stars [MP encPair r_12 (rows_13.map tRow) clk_14, blk p [(Value.slice a1_6 busy.length c1_7), (Value.slice a2_8 fails.length c2_9), (Value.map (some r_12)), (Value.slice a3_10 torn.length c3_11), (Value.int .i64 asked), (Value.int .i64 work)] 88, SL false 1 a1_6 busy.length c1_7 (busy.map (Value.int .i64)), SL false 1 a2_8 fails.length c2_9 (fails.map (Value.int .i64)), SL false 1 a3_10 torn.length c3_11 (torn.map (Value.int .u8)), stars (rows_13.map rowSL), F]] w2 := sat_pack' [] [MP encPair r_12 (rows_13.map tRow) clk_14, blk p [(Value.slice a1_6 busy.length c1_7), (Value.slice a2_8 fails.length c2_9), (Value.map (some r_12)), (Value.slice a3_10 torn.length c3_11), (Value.int .i64 asked), (Value.int .i64 work)] 88, SL false 1 a1_6 busy.length c1_7 (busy.map (Value.int .i64)), SL false 1 a2_8 fails.length c2_9 (fails.map (Value.int .i64)), SL false 1 a3_10 torn.length c3_11 (torn.map (Value.int .u8)), stars (rows_13.map rowSL), F] hs18 (by kernel_rfl) (by kernel_rfl)
    have hcl34 := clone_ints r0.a r0.c (bitsOf (row, rung) ts) (by first | assumption | omega) (Ent_stars 5 rfl (hx0 ▸ Ent_row hr0)) hs29
    refine WL.cons rfl (?_)
    with_reducible refine OP.call [(Value.slice r0.a ((bitsOf (row, rung) ts).length) r0.c)] gf_42 ?_ ?_ hcl34 ?_
    · exact rfl
    · decide
    clear hcl34
    rintro _ w32 ⟨_, rfl, a_30, c_31, rfl, hs33⟩
    refine ⟨_, rfl, ?_⟩
    have hs35 : sat W0 [SL false 1 a_30 ((bitsOf (row, rung) ts).length) c_31 ((bitsOf (row, rung) ts).map (Value.int .i64)), MP encPair r_12 (rows_13.map tRow) clk_14, blk p [(Value.slice a1_6 busy.length c1_7), (Value.slice a2_8 fails.length c2_9), (Value.map (some r_12)), (Value.slice a3_10 torn.length c3_11), (Value.int .i64 asked), (Value.int .i64 work)] 88, SL false 1 a1_6 busy.length c1_7 (busy.map (Value.int .i64)), SL false 1 a2_8 fails.length c2_9 (fails.map (Value.int .i64)), SL false 1 a3_10 torn.length c3_11 (torn.map (Value.int .u8)), stars (rows_13.map rowSL), F] w32 := sat_flat' [SL false 1 a_30 ((bitsOf (row, rung) ts).length) c_31 ((bitsOf (row, rung) ts).map (Value.int .i64))] [MP encPair r_12 (rows_13.map tRow) clk_14, blk p [(Value.slice a1_6 busy.length c1_7), (Value.slice a2_8 fails.length c2_9), (Value.map (some r_12)), (Value.slice a3_10 torn.length c3_11), (Value.int .i64 asked), (Value.int .i64 work)] 88, SL false 1 a1_6 busy.length c1_7 (busy.map (Value.int .i64)), SL false 1 a2_8 fails.length c2_9 (fails.map (Value.int .i64)), SL false 1 a3_10 torn.length c3_11 (torn.map (Value.int .u8)), stars (rows_13.map rowSL), F] hs33 (by kernel_rfl) (by kernel_rfl)
    refine WL.cons rfl (OP.assign (Value.slice a_30 ((bitsOf (row, rung) ts).length) c_31) rfl (by decide) ?_)
    refine WL.nil (Qn.then ?_)
    refine W.ret (RetQ.of [(Value.slice a_30 ((bitsOf (row, rung) ts).length) c_31)] (.inr rfl) Try.results11 (.cons (.tmp (by decide) rfl) .nil) ?_)
    have hs37 : sat W0 [blk p [(Value.slice a1_6 busy.length c1_7), (Value.slice a2_8 fails.length c2_9), (Value.map (some r_12)), (Value.slice a3_10 torn.length c3_11), (Value.int .i64 asked), (Value.int .i64 work)] 88, SL false 1 a1_6 busy.length c1_7 (busy.map (Value.int .i64)), SL false 1 a2_8 fails.length c2_9 (fails.map (Value.int .i64)), SL false 1 a3_10 torn.length c3_11 (torn.map (Value.int .u8)), MP encPair r_12 (rows_13.map tRow) clk_14, stars (rows_13.map rowSL), SL false 1 a_30 ((bitsOf (row, rung) ts).length) c_31 ((bitsOf (row, rung) ts).map (Value.int .i64)), F] w32 := sat_sel' [2, 3, 4, 5, 1, 6, 0, 7] hs35 (by kernel_rfl) (by kernel_rfl)
    have hs38 : sat W0 [TellerRep p busy fails torn ts asked work, SL false 1 a_30 ((bitsOf (row, rung) ts).length) c_31 ((bitsOf (row, rung) ts).map (Value.int .i64)), F] w32 := TellerRep_close a1_6 c1_7 a2_8 c2_9 a3_10 c3_11 r_12 rows_13 clk_14 (by assumption) hs37
    exact ⟨a_30, c_31, rfl, hs38⟩

end Go.Proofs.Ytleolejhkdolpaa
