import Derived.Test.YtleolejhkdolpaaA3
import Derived.KernelRfl
set_option linter.unusedVariables false
set_option linter.unusedSimpArgs false
set_option maxRecDepth 100000
set_option maxHeartbeats 4000000
namespace Go.Proofs.Ytleolejhkdolpaa
open Go Go.RowKit Sv
def TellerRep (p : Nat) (busy : List Int) (fails : List Int) (torn : List Int) (ts : List Turn) (asked : Int) (work : Int) : HProp := fun h => ∃ a1 : Option Addr, ∃ c1 : Nat, ∃ a2 : Option Addr, ∃ c2 : Nat, ∃ a3 : Option Addr, ∃ c3 : Nat, ∃ r : Nat, ∃ rows : List TRow, ∃ clk : Nat, (∀ k, rowsGet k rows = bitsOf k ts) ∧ stars [blk p [(Value.slice a1 busy.length c1), (Value.slice a2 fails.length c2), (Value.map (some r)), (Value.slice a3 torn.length c3), (Value.int .i64 asked), (Value.int .i64 work)] 88, SL false 1 a1 busy.length c1 (busy.map (Value.int .i64)), SL false 1 a2 fails.length c2 (fails.map (Value.int .i64)), SL false 1 a3 torn.length c3 (torn.map (Value.int .u8)), MP encPair r (rows.map tRow) clk, stars (rows.map rowSL)] h
theorem TellerRep_open {W0 w : World} {L : List HProp} {p : Nat} {busy : List Int} {fails : List Int} {torn : List Int} {ts : List Turn} {asked : Int} {work : Int} (k : sat W0 (TellerRep p busy fails torn ts asked work :: L) w) : ∃ a1 : Option Addr, ∃ c1 : Nat, ∃ a2 : Option Addr, ∃ c2 : Nat, ∃ a3 : Option Addr, ∃ c3 : Nat, ∃ r : Nat, ∃ rows : List TRow, ∃ clk : Nat, (∀ k, rowsGet k rows = bitsOf k ts) ∧ sat W0 ([blk p [(Value.slice a1 busy.length c1), (Value.slice a2 fails.length c2), (Value.map (some r)), (Value.slice a3 torn.length c3), (Value.int .i64 asked), (Value.int .i64 work)] 88, SL false 1 a1 busy.length c1 (busy.map (Value.int .i64)), SL false 1 a2 fails.length c2 (fails.map (Value.int .i64)), SL false 1 a3 torn.length c3 (torn.map (Value.int .u8)), MP encPair r (rows.map tRow) clk, stars (rows.map rowSL)] ++ L) w := by
  obtain ⟨hb, h, hh, h1, h2, d, l1, l2, ⟨a1, c1, a2, c2, a3, c3, r, rows, clk, hp, s1⟩, s2⟩ := k
  exact ⟨a1, c1, a2, c2, a3, c3, r, rows, clk, hp, hb, h, hh, append_stars d l1 l2 s1 s2⟩
theorem TellerRep_close {W0 w : World} {L : List HProp} {p : Nat} {busy : List Int} {fails : List Int} {torn : List Int} {ts : List Turn} {asked : Int} {work : Int} (a1 : Option Addr) (c1 : Nat) (a2 : Option Addr) (c2 : Nat) (a3 : Option Addr) (c3 : Nat) (r : Nat) (rows : List TRow) (clk : Nat) (hp : ∀ k, rowsGet k rows = bitsOf k ts) (k : sat W0 ([blk p [(Value.slice a1 busy.length c1), (Value.slice a2 fails.length c2), (Value.map (some r)), (Value.slice a3 torn.length c3), (Value.int .i64 asked), (Value.int .i64 work)] 88, SL false 1 a1 busy.length c1 (busy.map (Value.int .i64)), SL false 1 a2 fails.length c2 (fails.map (Value.int .i64)), SL false 1 a3 torn.length c3 (torn.map (Value.int .u8)), MP encPair r (rows.map tRow) clk, stars (rows.map rowSL)] ++ L) w) : sat W0 (TellerRep p busy fails torn ts asked work :: L) w := by
  obtain ⟨hb, h, hh, s⟩ := k
  obtain ⟨h1, h2, d, l1, l2, s1, s2⟩ := stars_append s
  exact ⟨hb, h, hh, h1, h2, d, l1, l2, ⟨a1, c1, a2, c2, a3, c3, r, rows, clk, hp, s1⟩, s2⟩

theorem Teller_is {W0 : World} {F : HProp} {w : World}  (p : Nat) (busy : List Int) (fails : List Int) (torn : List Int) (ts : List Turn) (asked : Int) (work : Int)  
    (hs : sat W0 [TellerRep p busy fails torn ts asked work, F] w) :
    Calls Try.prog 44 ([(Value.pointer (some ⟨p, 0, none⟩))] : List Value).toArray w (fun x_ w' => ∃ v_, x_ = .returned v_ ∧ (v_ = (Value.bool true) ∧ sat W0 [TellerRep p busy fails torn ts asked work, F] w')) := by
  refine W.enter Try.func44 rfl Try.ntmps44 (by simp) ?_
  refine W.seq ?_
  refine W.region ?_
  refine WL.cons rfl (OP.assign (Value.bool false) rfl (by decide) ?_)
  refine WL.nil (Qn.then ?_)
  refine W.seq ?_
  refine W.region ?_
  refine WL.cons rfl (OP.move (Value.pointer (some ⟨p, 0, none⟩)) rfl (by decide) ?_)
  refine WL.cons rfl (OP.neV rfl rfl rfl rfl (run_equalPN Try.underlying29 _) (by decide) ?_)
  refine WL.cons rfl (OP.move (Value.bool true) rfl (by decide) ?_)
  refine WL.consG rfl rfl rfl (OP.move (Value.pointer (some ⟨p, 0, none⟩)) rfl (by decide) ?_)
  refine WL.consG rfl rfl rfl (OP.nilCheck rfl (by decide) ?_)
  refine WL.consG rfl rfl rfl (OP.fieldAddr 2 fo_88_2 rfl rfl (by decide) ?_)
  obtain ⟨a1_1, c1_2, a2_3, c2_4, a3_5, c3_6, r_7, rows_8, clk_9, hp10, hs11⟩ := TellerRep_open hs
  have hs12 : sat W0 [blk p [(Value.slice a1_1 busy.length c1_2), (Value.slice a2_3 fails.length c2_4), (Value.map (some r_7)), (Value.slice a3_5 torn.length c3_6), (Value.int .i64 asked), (Value.int .i64 work)] 88, SL false 1 a1_1 busy.length c1_2 (busy.map (Value.int .i64)), SL false 1 a2_3 fails.length c2_4 (fails.map (Value.int .i64)), SL false 1 a3_5 torn.length c3_6 (torn.map (Value.int .u8)), MP encPair r_7 (rows_8.map tRow) clk_9, stars (rows_8.map rowSL), F] w := hs11
  refine WL.consG rfl rfl rfl (OP.loadS (Value.map (some r_7)) sc_86 rfl (sat_cell 0 hs12 rfl rfl) (by decide) ?_)
  refine WL.consG rfl rfl rfl (OP.neV rfl rfl rfl rfl (run_equalMN Try.underlying86 _) (by decide) ?_)
  refine WL.cons rfl (OP.pickT (Value.bool true) rfl rfl (by decide) ?_)
  refine WL.cons rfl (OP.assign (Value.bool true) rfl (by decide) ?_)
  refine WL.nil (Qn.then ?_)
  refine W.ret (RetQ.of [(Value.bool true)] (.inr rfl) Try.results44 (.cons (.tmp (by decide) rfl) .nil) ?_)
  have hs14 : sat W0 [TellerRep p busy fails torn ts asked work, F] w := TellerRep_close a1_1 c1_2 a2_3 c2_4 a3_5 c3_6 r_7 rows_8 clk_9 (by assumption) hs12
  exact ⟨rfl, hs14⟩

theorem Teller_is_nil {W0 : World} {F : HProp} {w : World}    
    (hs : sat W0 [F] w) :
    Calls Try.prog 44 ([(Value.pointer none)] : List Value).toArray w (fun x_ w' => ∃ v_, x_ = .returned v_ ∧ (v_ = (Value.bool false) ∧ sat W0 [F] w')) := by
  refine W.enter Try.func44 rfl Try.ntmps44 (by simp) ?_
  refine W.seq ?_
  refine W.region ?_
  refine WL.cons rfl (OP.assign (Value.bool false) rfl (by decide) ?_)
  refine WL.nil (Qn.then ?_)
  refine W.seq ?_
  refine W.region ?_
  refine WL.cons rfl (OP.move (Value.pointer none) rfl (by decide) ?_)
  refine WL.cons rfl (OP.neV rfl rfl rfl rfl (run_equalPN Try.underlying29 _) (by decide) ?_)
  refine WL.cons rfl (OP.move (Value.bool false) rfl (by decide) ?_)
  refine WL.pass rfl rfl rfl rfl rfl (by decide) ?_
  refine WL.pass rfl rfl rfl rfl rfl (by decide) ?_
  refine WL.pass rfl rfl rfl rfl rfl (by decide) ?_
  refine WL.pass rfl rfl rfl rfl rfl (by decide) ?_
  refine WL.pass rfl rfl rfl rfl rfl (by decide) ?_
  refine WL.cons rfl (OP.pickF (Value.bool false) rfl rfl (by decide) ?_)
  refine WL.cons rfl (OP.assign (Value.bool false) rfl (by decide) ?_)
  refine WL.nil (Qn.then ?_)
  refine W.ret (RetQ.of [(Value.bool false)] (.inr rfl) Try.results44 (.cons (.tmp (by decide) rfl) .nil) ?_)
  exact ⟨rfl, hs⟩

theorem Teller_Done {W0 : World} {F : HProp} {w : World}  (p : Nat) (busy : List Int) (fails : List Int) (torn : List Int) (ts : List Turn) (asked : Int) (work : Int)  
    (hs : sat W0 [TellerRep p busy fails torn ts asked work, F] w) :
    Calls Try.prog 36 ([(Value.pointer (some ⟨p, 0, none⟩))] : List Value).toArray w (fun x_ w' => ∃ v_, x_ = .returned v_ ∧ (v_ = (Value.tuple #[(Value.int .i64 asked), (Value.int .i64 work)]) ∧ sat W0 [TellerRep p busy fails torn ts asked work, F] w')) := by
  refine W.enter Try.func36 rfl Try.ntmps36 (by simp) ?_
  refine W.seq ?_
  refine W.region ?_
  refine WL.cons rfl (OP.assign (Value.int .i64 0) rfl (by decide) ?_)
  refine WL.cons rfl (OP.assign (Value.int .i64 0) rfl (by decide) ?_)
  refine WL.nil (Qn.then ?_)
  refine W.seq ?_
  refine W.seq ?_
  refine W.region ?_
  refine WL.cons rfl (OP.move (Value.pointer (some ⟨p, 0, none⟩)) rfl (by decide) ?_)
  have hs1 : sat W0 [TellerRep p busy fails torn ts asked work, stars [F]] w := sat_pack' [TellerRep p busy fails torn ts asked work] [F] hs (by kernel_rfl) (by kernel_rfl)
  have hcl4 := Teller_is p busy fails torn ts asked work hs1
  refine WL.cons rfl (?_)
  with_reducible refine OP.call [(Value.pointer (some ⟨p, 0, none⟩))] gf_44 ?_ ?_ hcl4 ?_
  · exact rfl
  · decide
  clear hcl4
  rintro _ w2 ⟨_, rfl, rfl, hs3⟩
  refine ⟨_, rfl, ?_⟩
  have hs5 : sat W0 [TellerRep p busy fails torn ts asked work, F] w2 := sat_flat' [TellerRep p busy fails torn ts asked work] [F] hs3 (by kernel_rfl) (by kernel_rfl)
  refine WL.cons rfl (OP.not rfl (by decide) ?_)
  refine WL.nil (Qn.then ?_)
  refine W.iteF rfl ?_
  refine W.skip (Qn.then ?_)
  refine W.seq ?_
  obtain ⟨a1_6, c1_7, a2_8, c2_9, a3_10, c3_11, r_12, rows_13, clk_14, hp15, hs16⟩ := TellerRep_open hs5
  have hs17 : sat W0 [blk p [(Value.slice a1_6 busy.length c1_7), (Value.slice a2_8 fails.length c2_9), (Value.map (some r_12)), (Value.slice a3_10 torn.length c3_11), (Value.int .i64 asked), (Value.int .i64 work)] 88, SL false 1 a1_6 busy.length c1_7 (busy.map (Value.int .i64)), SL false 1 a2_8 fails.length c2_9 (fails.map (Value.int .i64)), SL false 1 a3_10 torn.length c3_11 (torn.map (Value.int .u8)), MP encPair r_12 (rows_13.map tRow) clk_14, stars (rows_13.map rowSL), F] w2 := hs16
  refine W.draw (fun w => sat W0 [blk p [(Value.slice a1_6 busy.length c1_7), (Value.slice a2_8 fails.length c2_9), (Value.map (some r_12)), (Value.slice a3_10 torn.length c3_11), (Value.int .i64 asked), (Value.int .i64 work)] 88, SL false 1 a1_6 busy.length c1_7 (busy.map (Value.int .i64)), SL false 1 a2_8 fails.length c2_9 (fails.map (Value.int .i64)), SL false 1 a3_10 torn.length c3_11 (torn.map (Value.int .u8)), MP encPair r_12 (rows_13.map tRow) clk_14, stars (rows_13.map rowSL), F] w) (by kernel_rfl) hs17 (fun w18 hs19 => ?_)
  refine WA.take 0 rfl rfl rfl rfl (by kernel_rfl) (by kernel_rfl) (by kernel_rfl) ?_ (by decide) (v := (Value.pointer (some ⟨p, 0, none⟩))) (fun w21 hw20 => OP.move (Value.pointer (some ⟨p, 0, none⟩)) rfl (by decide) ⟨rfl, rfl⟩) ?_
  · exact hs19
  refine WA.take 1 rfl rfl rfl rfl (by kernel_rfl) (by kernel_rfl) (by kernel_rfl) ?_ (by decide) (v := (Value.pointer (some ⟨p, 0, none⟩))) (fun w23 hw22 => OP.nilCheck rfl (by decide) ⟨rfl, rfl⟩) ?_
  · exact hs19
  refine WA.take 2 rfl rfl rfl rfl (by kernel_rfl) (by kernel_rfl) (by kernel_rfl) ?_ (by decide) (v := (Value.pointer (some ⟨p, 4, none⟩))) (fun w25 hw24 => OP.fieldAddr 4 fo_88_4 rfl rfl (by decide) ⟨rfl, rfl⟩) ?_
  · exact hs19
  refine WA.take 3 rfl rfl rfl rfl (by kernel_rfl) (by kernel_rfl) (by kernel_rfl) ?_ (by decide) (v := (Value.int .i64 asked)) (fun w27 hw26 => OP.loadS (Value.int .i64 asked) sc_3 rfl (sat_cell 0 hw26 rfl rfl) (by decide) ⟨rfl, rfl⟩) ?_
  · exact hs19
  refine WA.take 4 rfl rfl rfl rfl (by kernel_rfl) (by kernel_rfl) (by kernel_rfl) ?_ (by decide) (v := (Value.pointer (some ⟨p, 0, none⟩))) (fun w29 hw28 => OP.move (Value.pointer (some ⟨p, 0, none⟩)) rfl (by decide) ⟨rfl, rfl⟩) ?_
  · exact hs19
  refine WA.take 5 rfl rfl rfl rfl (by kernel_rfl) (by kernel_rfl) (by kernel_rfl) ?_ (by decide) (v := (Value.pointer (some ⟨p, 0, none⟩))) (fun w31 hw30 => OP.nilCheck rfl (by decide) ⟨rfl, rfl⟩) ?_
  · exact hs19
  refine WA.take 6 rfl rfl rfl rfl (by kernel_rfl) (by kernel_rfl) (by kernel_rfl) ?_ (by decide) (v := (Value.pointer (some ⟨p, 5, none⟩))) (fun w33 hw32 => OP.fieldAddr 5 fo_88_5 rfl rfl (by decide) ⟨rfl, rfl⟩) ?_
  · exact hs19
  refine WA.take 7 rfl rfl rfl rfl (by kernel_rfl) (by kernel_rfl) (by kernel_rfl) ?_ (by decide) (v := (Value.int .i64 work)) (fun w35 hw34 => OP.loadS (Value.int .i64 work) sc_3 rfl (sat_cell 0 hw34 rfl rfl) (by decide) ⟨rfl, rfl⟩) ?_
  · exact hs19
  refine WA.take 8 rfl rfl rfl rfl (by kernel_rfl) (by kernel_rfl) (by kernel_rfl) ?_ (by decide) (v := (Value.int .i64 asked)) (fun w37 hw36 => OP.assign (Value.int .i64 asked) rfl (by decide) ⟨rfl, rfl⟩) ?_
  · exact hs19
  refine WA.take 9 rfl rfl rfl rfl (by kernel_rfl) (by kernel_rfl) (by kernel_rfl) ?_ (by decide) (v := (Value.int .i64 work)) (fun w39 hw38 => OP.assign (Value.int .i64 work) rfl (by decide) ⟨rfl, rfl⟩) ?_
  · exact hs19
  refine WA.done (by kernel_rfl) ?_
  refine (Qn.then ?_)
  refine W.ret (RetQ.of [(Value.int .i64 asked), (Value.int .i64 work)] (.inr rfl) Try.results36 (.cons (.tmp (by decide) rfl) (.cons (.tmp (by decide) rfl) .nil)) ?_)
  have hs41 : sat W0 [TellerRep p busy fails torn ts asked work, F] w18 := TellerRep_close a1_6 c1_7 a2_8 c2_9 a3_10 c3_11 r_12 rows_13 clk_14 (by assumption) hs19
  exact ⟨rfl, hs41⟩

theorem Teller_Busy {W0 : World} {F : HProp} {w : World}  (p : Nat) (busy : List Int) (fails : List Int) (torn : List Int) (ts : List Turn) (asked : Int) (work : Int) (h0 : 0 ≤ asked ∧ asked ≤ 1099511627) (hn : busy.length ≤ 1099511627) 
    (hs : sat W0 [TellerRep p busy fails torn ts asked work, F] w) :
    Calls Try.prog 37 ([(Value.pointer (some ⟨p, 0, none⟩))] : List Value).toArray w (fun x_ w' => ∃ v_, x_ = .returned v_ ∧ (v_ = (Value.int .i64 (busyAt busy asked)) ∧ sat W0 [TellerRep p busy fails torn ts (asked + 1) work, F] w')) := by
  refine W.enter Try.func37 rfl Try.ntmps37 (by simp) ?_
  refine W.seq ?_
  refine W.region ?_
  refine WL.cons rfl (OP.assign (Value.int .i64 0) rfl (by decide) ?_)
  refine WL.nil (Qn.then ?_)
  refine W.seq ?_
  refine W.seq ?_
  refine W.region ?_
  refine WL.cons rfl (OP.move (Value.pointer (some ⟨p, 0, none⟩)) rfl (by decide) ?_)
  have hs1 : sat W0 [TellerRep p busy fails torn ts asked work, stars [F]] w := sat_pack' [TellerRep p busy fails torn ts asked work] [F] hs (by kernel_rfl) (by kernel_rfl)
  have hcl4 := Teller_is p busy fails torn ts asked work hs1
  refine WL.cons rfl (?_)
  with_reducible refine OP.call [(Value.pointer (some ⟨p, 0, none⟩))] gf_44 ?_ ?_ hcl4 ?_
  · exact rfl
  · decide
  clear hcl4
  rintro _ w2 ⟨_, rfl, rfl, hs3⟩
  refine ⟨_, rfl, ?_⟩
  have hs5 : sat W0 [TellerRep p busy fails torn ts asked work, F] w2 := sat_flat' [TellerRep p busy fails torn ts asked work] [F] hs3 (by kernel_rfl) (by kernel_rfl)
  refine WL.cons rfl (OP.not rfl (by decide) ?_)
  refine WL.nil (Qn.then ?_)
  refine W.iteF rfl ?_
  refine W.skip (Qn.then ?_)
  refine W.seq ?_
  refine W.region ?_
  refine WL.cons rfl (OP.move (Value.pointer (some ⟨p, 0, none⟩)) rfl (by decide) ?_)
  refine WL.cons rfl (OP.nilCheck rfl (by decide) ?_)
  refine WL.cons rfl (OP.fieldAddr 4 fo_88_4 rfl rfl (by decide) ?_)
  obtain ⟨a1_6, c1_7, a2_8, c2_9, a3_10, c3_11, r_12, rows_13, clk_14, hp15, hs16⟩ := TellerRep_open hs5
  have hs17 : sat W0 [blk p [(Value.slice a1_6 busy.length c1_7), (Value.slice a2_8 fails.length c2_9), (Value.map (some r_12)), (Value.slice a3_10 torn.length c3_11), (Value.int .i64 asked), (Value.int .i64 work)] 88, SL false 1 a1_6 busy.length c1_7 (busy.map (Value.int .i64)), SL false 1 a2_8 fails.length c2_9 (fails.map (Value.int .i64)), SL false 1 a3_10 torn.length c3_11 (torn.map (Value.int .u8)), MP encPair r_12 (rows_13.map tRow) clk_14, stars (rows_13.map rowSL), F] w2 := hs16
  refine WL.cons rfl (OP.loadS (Value.int .i64 asked) sc_3 rfl (sat_cell 0 hs17 rfl rfl) (by decide) ?_)
  refine WL.cons rfl (OP.add (asked + 1) rfl rfl (by first | rfl | omega | simp) (by unfold inI64; omega) (by decide) ?_)
  refine WL.cons rfl (OP.nilCheck rfl (by decide) ?_)
  refine WL.cons rfl (OP.fieldAddr 4 fo_88_4 rfl rfl (by decide) ?_)
  refine WL.cons rfl (OP.store (Value.int .i64 (asked + 1)) [(Value.int .i64 (asked + 1))] hs17 rfl rfl rfl sz_3 rfl (by rfl) (by simp) (fun w18 hs19 => ?_))
  have hs20 : sat W0 [blk p [(Value.slice a1_6 busy.length c1_7), (Value.slice a2_8 fails.length c2_9), (Value.map (some r_12)), (Value.slice a3_10 torn.length c3_11), (Value.int .i64 (asked + 1)), (Value.int .i64 work)] 88, SL false 1 a1_6 busy.length c1_7 (busy.map (Value.int .i64)), SL false 1 a2_8 fails.length c2_9 (fails.map (Value.int .i64)), SL false 1 a3_10 torn.length c3_11 (torn.map (Value.int .u8)), MP encPair r_12 (rows_13.map tRow) clk_14, stars (rows_13.map rowSL), F] w18 := hs19
  refine WL.nil (Qn.then ?_)
  refine W.seq ?_
  refine W.seq ?_
  refine W.draw (fun w => sat W0 [blk p [(Value.slice a1_6 busy.length c1_7), (Value.slice a2_8 fails.length c2_9), (Value.map (some r_12)), (Value.slice a3_10 torn.length c3_11), (Value.int .i64 (asked + 1)), (Value.int .i64 work)] 88, SL false 1 a1_6 busy.length c1_7 (busy.map (Value.int .i64)), SL false 1 a2_8 fails.length c2_9 (fails.map (Value.int .i64)), SL false 1 a3_10 torn.length c3_11 (torn.map (Value.int .u8)), MP encPair r_12 (rows_13.map tRow) clk_14, stars (rows_13.map rowSL), F] w) (by kernel_rfl) hs20 (fun w21 hs22 => ?_)
  refine WA.take 0 rfl rfl rfl rfl (by kernel_rfl) (by kernel_rfl) (by kernel_rfl) ?_ (by decide) (v := (Value.pointer (some ⟨p, 0, none⟩))) (fun w24 hw23 => OP.move (Value.pointer (some ⟨p, 0, none⟩)) rfl (by decide) ⟨rfl, rfl⟩) ?_
  · exact hs22
  refine WA.take 1 rfl rfl rfl rfl (by kernel_rfl) (by kernel_rfl) (by kernel_rfl) ?_ (by decide) (v := (Value.pointer (some ⟨p, 0, none⟩))) (fun w26 hw25 => OP.nilCheck rfl (by decide) ⟨rfl, rfl⟩) ?_
  · exact hs22
  refine WA.take 2 rfl rfl rfl rfl (by kernel_rfl) (by kernel_rfl) (by kernel_rfl) ?_ (by decide) (v := (Value.pointer (some ⟨p, 4, none⟩))) (fun w28 hw27 => OP.fieldAddr 4 fo_88_4 rfl rfl (by decide) ⟨rfl, rfl⟩) ?_
  · exact hs22
  refine WA.take 3 rfl rfl rfl rfl (by kernel_rfl) (by kernel_rfl) (by kernel_rfl) ?_ (by decide) (v := (Value.int .i64 (asked + 1))) (fun w30 hw29 => OP.loadS (Value.int .i64 (asked + 1)) sc_3 rfl (sat_cell 0 hw29 rfl rfl) (by decide) ⟨rfl, rfl⟩) ?_
  · exact hs22
  refine WA.take 4 rfl rfl rfl rfl (by kernel_rfl) (by kernel_rfl) (by kernel_rfl) ?_ (by decide) (v := (Value.pointer (some ⟨p, 0, none⟩))) (fun w32 hw31 => OP.move (Value.pointer (some ⟨p, 0, none⟩)) rfl (by decide) ⟨rfl, rfl⟩) ?_
  · exact hs22
  refine WA.take 5 rfl rfl rfl rfl (by kernel_rfl) (by kernel_rfl) (by kernel_rfl) ?_ (by decide) (v := (Value.pointer (some ⟨p, 0, none⟩))) (fun w34 hw33 => OP.nilCheck rfl (by decide) ⟨rfl, rfl⟩) ?_
  · exact hs22
  refine WA.take 6 rfl rfl rfl rfl (by kernel_rfl) (by kernel_rfl) (by kernel_rfl) ?_ (by decide) (v := (Value.pointer (some ⟨p, 0, none⟩))) (fun w36 hw35 => OP.fieldAddr 0 fo_88_0 rfl rfl (by decide) ⟨rfl, rfl⟩) ?_
  · exact hs22
  refine WA.take 7 rfl rfl rfl rfl (by kernel_rfl) (by kernel_rfl) (by kernel_rfl) ?_ (by decide) (v := (Value.slice a1_6 busy.length c1_7)) (fun w38 hw37 => OP.loadS (Value.slice a1_6 busy.length c1_7) sc_22 rfl (sat_cell 0 hw37 rfl rfl) (by decide) ⟨rfl, rfl⟩) ?_
  · exact hs22
  refine WA.take 8 rfl rfl rfl rfl (by kernel_rfl) (by kernel_rfl) (by kernel_rfl) ?_ (by decide) (v := (Value.int .i64 ((busy.length : Nat) : Int))) (fun w40 hw39 => OP.len Try.underlying22 rfl rfl (by decide) ⟨rfl, rfl⟩) ?_
  · exact hs22
  refine WA.take 9 rfl rfl rfl rfl (by kernel_rfl) (by kernel_rfl) (by kernel_rfl) ?_ (by decide) (v := (Value.bool (decide (asked + 1 > ((busy.length : Nat) : Int))))) (fun w42 hw41 => OP.gtr rfl rfl (by decide) ⟨rfl, rfl⟩) ?_
  · exact hs22
  refine WA.done (by kernel_rfl) ?_
  refine (Qn.then ?_)
  refine W.iteP (p := asked + 1 > ((busy.length : Nat) : Int)) rfl (fun hc43 => ?_) (fun hc43 => ?_)
  · refine W.seq ?_
    refine W.region ?_
    refine WL.cons rfl (OP.assign (Value.int .i64 0) rfl (by decide) ?_)
    refine WL.nil (Qn.then ?_)
    refine W.ret (Qr.then (RetQ.of [(Value.int .i64 0)] (.inr rfl) Try.results37 (.cons (.tmp (by decide) rfl) .nil) ?_))
    have hs45 : sat W0 [TellerRep p busy fails torn ts (asked + 1) work, F] w21 := TellerRep_close a1_6 c1_7 a2_8 c2_9 a3_10 c3_11 r_12 rows_13 clk_14 (by assumption) hs22
    exact ⟨(congrArg (Value.int .i64) (by unfold busyAt; rw [List.getD_eq_getElem?_getD, List.getElem?_eq_none (by omega)]; rfl)), hs45⟩
  · refine W.skip (Qn.then ?_)
    refine W.seq ?_
    refine W.draw (fun w => sat W0 [blk p [(Value.slice a1_6 busy.length c1_7), (Value.slice a2_8 fails.length c2_9), (Value.map (some r_12)), (Value.slice a3_10 torn.length c3_11), (Value.int .i64 (asked + 1)), (Value.int .i64 work)] 88, SL false 1 a1_6 busy.length c1_7 (busy.map (Value.int .i64)), SL false 1 a2_8 fails.length c2_9 (fails.map (Value.int .i64)), SL false 1 a3_10 torn.length c3_11 (torn.map (Value.int .u8)), MP encPair r_12 (rows_13.map tRow) clk_14, stars (rows_13.map rowSL), F] w) (by kernel_rfl) hs22 (fun w46 hs47 => ?_)
    refine WA.take 0 rfl rfl rfl rfl (by kernel_rfl) (by kernel_rfl) (by kernel_rfl) ?_ (by decide) (v := (Value.pointer (some ⟨p, 0, none⟩))) (fun w49 hw48 => OP.move (Value.pointer (some ⟨p, 0, none⟩)) rfl (by decide) ⟨rfl, rfl⟩) ?_
    · exact hs47
    refine WA.take 1 rfl rfl rfl rfl (by kernel_rfl) (by kernel_rfl) (by kernel_rfl) ?_ (by decide) (v := (Value.pointer (some ⟨p, 0, none⟩))) (fun w51 hw50 => OP.nilCheck rfl (by decide) ⟨rfl, rfl⟩) ?_
    · exact hs47
    refine WA.take 2 rfl rfl rfl rfl (by kernel_rfl) (by kernel_rfl) (by kernel_rfl) ?_ (by decide) (v := (Value.pointer (some ⟨p, 0, none⟩))) (fun w53 hw52 => OP.fieldAddr 0 fo_88_0 rfl rfl (by decide) ⟨rfl, rfl⟩) ?_
    · exact hs47
    refine WA.take 3 rfl rfl rfl rfl (by kernel_rfl) (by kernel_rfl) (by kernel_rfl) ?_ (by decide) (v := (Value.slice a1_6 busy.length c1_7)) (fun w55 hw54 => OP.loadS (Value.slice a1_6 busy.length c1_7) sc_22 rfl (sat_cell 0 hw54 rfl rfl) (by decide) ⟨rfl, rfl⟩) ?_
    · exact hs47
    refine WA.take 4 rfl rfl rfl rfl (by kernel_rfl) (by kernel_rfl) (by kernel_rfl) ?_ (by decide) (v := (Value.pointer (some ⟨p, 0, none⟩))) (fun w57 hw56 => OP.move (Value.pointer (some ⟨p, 0, none⟩)) rfl (by decide) ⟨rfl, rfl⟩) ?_
    · exact hs47
    refine WA.take 5 rfl rfl rfl rfl (by kernel_rfl) (by kernel_rfl) (by kernel_rfl) ?_ (by decide) (v := (Value.pointer (some ⟨p, 0, none⟩))) (fun w59 hw58 => OP.nilCheck rfl (by decide) ⟨rfl, rfl⟩) ?_
    · exact hs47
    refine WA.take 6 rfl rfl rfl rfl (by kernel_rfl) (by kernel_rfl) (by kernel_rfl) ?_ (by decide) (v := (Value.pointer (some ⟨p, 4, none⟩))) (fun w61 hw60 => OP.fieldAddr 4 fo_88_4 rfl rfl (by decide) ⟨rfl, rfl⟩) ?_
    · exact hs47
    refine WA.take 7 rfl rfl rfl rfl (by kernel_rfl) (by kernel_rfl) (by kernel_rfl) ?_ (by decide) (v := (Value.int .i64 (asked + 1))) (fun w63 hw62 => OP.loadS (Value.int .i64 (asked + 1)) sc_3 rfl (sat_cell 0 hw62 rfl rfl) (by decide) ⟨rfl, rfl⟩) ?_
    · exact hs47
    refine WA.take 8 rfl rfl rfl rfl (by kernel_rfl) (by kernel_rfl) (by kernel_rfl) ?_ (by decide) (v := (Value.int .i64 ((asked + 1) - 1))) (fun w65 hw64 => OP.sub ((asked + 1) - 1) rfl rfl (by first | rfl | omega | simp) (by unfold inI64; omega) (by decide) ⟨rfl, rfl⟩) ?_
    · exact hs47
    have hi32_ : asked.toNat < busy.length := by omega
    refine WA.take 9 rfl rfl rfl rfl (by kernel_rfl) (by kernel_rfl) (by kernel_rfl) ?_ (by decide) (v := (Value.pointer (some (adr a1_6 (asked.toNat * 1))))) (fun w67 hw66 => OP.indexR asked.toNat (Ent_sat 1 rfl Ent_SL hw66) Try.underlying22 sz_3 rfl rfl (by omega) hi32_ (by decide) ⟨rfl, rfl⟩) ?_
    · exact hs47
    refine WA.take 10 rfl rfl rfl rfl (by kernel_rfl) (by kernel_rfl) (by kernel_rfl) ?_ (by decide) (v := (Value.int .i64 (busy.getD asked.toNat 0))) (fun w69 hw68 => OP.loadSR (Value.int .i64 (busy.getD asked.toNat 0)) (Ent_sat 1 rfl Ent_SL hw68) (ints_get hi32_) sc_3 rfl (by decide) ⟨rfl, rfl⟩) ?_
    · exact hs47
    refine WA.take 11 rfl rfl rfl rfl (by kernel_rfl) (by kernel_rfl) (by kernel_rfl) ?_ (by decide) (v := (Value.int .i64 (busy.getD asked.toNat 0))) (fun w71 hw70 => OP.assign (Value.int .i64 (busy.getD asked.toNat 0)) rfl (by decide) ⟨rfl, rfl⟩) ?_
    · exact hs47
    refine WA.done (by kernel_rfl) ?_
    refine (Qn.then ?_)
    refine W.ret (RetQ.of [(Value.int .i64 (busy.getD asked.toNat 0))] (.inr rfl) Try.results37 (.cons (.tmp (by decide) rfl) .nil) ?_)
    have hs73 : sat W0 [TellerRep p busy fails torn ts (asked + 1) work, F] w46 := TellerRep_close a1_6 c1_7 a2_8 c2_9 a3_10 c3_11 r_12 rows_13 clk_14 (by assumption) hs47
    exact ⟨(congrArg (Value.int .i64) (by unfold busyAt; rfl)), hs73⟩

theorem Teller_Fails {W0 : World} {F : HProp} {w : World}  (p : Nat) (busy : List Int) (fails : List Int) (torn : List Int) (ts : List Turn) (asked : Int) (work : Int) (h0 : 0 ≤ work ∧ work ≤ 1099511627) (hn : fails.length ≤ 1099511627) 
    (hs : sat W0 [TellerRep p busy fails torn ts asked work, F] w) :
    Calls Try.prog 38 ([(Value.pointer (some ⟨p, 0, none⟩))] : List Value).toArray w (fun x_ w' => ∃ v_, x_ = .returned v_ ∧ (v_ = (Value.bool (decide (work ∈ fails))) ∧ sat W0 [TellerRep p busy fails torn ts asked (work + 1), F] w')) := by
  refine W.enter Try.func38 rfl Try.ntmps38 (by simp) ?_
  refine W.seq ?_
  refine W.region ?_
  refine WL.cons rfl (OP.assign (Value.bool false) rfl (by decide) ?_)
  refine WL.nil (Qn.then ?_)
  refine W.seq ?_
  refine W.seq ?_
  refine W.region ?_
  refine WL.cons rfl (OP.move (Value.pointer (some ⟨p, 0, none⟩)) rfl (by decide) ?_)
  have hs1 : sat W0 [TellerRep p busy fails torn ts asked work, stars [F]] w := sat_pack' [TellerRep p busy fails torn ts asked work] [F] hs (by kernel_rfl) (by kernel_rfl)
  have hcl4 := Teller_is p busy fails torn ts asked work hs1
  refine WL.cons rfl (?_)
  with_reducible refine OP.call [(Value.pointer (some ⟨p, 0, none⟩))] gf_44 ?_ ?_ hcl4 ?_
  · exact rfl
  · decide
  clear hcl4
  rintro _ w2 ⟨_, rfl, rfl, hs3⟩
  refine ⟨_, rfl, ?_⟩
  have hs5 : sat W0 [TellerRep p busy fails torn ts asked work, F] w2 := sat_flat' [TellerRep p busy fails torn ts asked work] [F] hs3 (by kernel_rfl) (by kernel_rfl)
  refine WL.cons rfl (OP.not rfl (by decide) ?_)
  refine WL.nil (Qn.then ?_)
  refine W.iteF rfl ?_
  refine W.skip (Qn.then ?_)
  refine W.seq ?_
  refine W.region ?_
  refine WL.cons rfl (OP.move (Value.pointer (some ⟨p, 0, none⟩)) rfl (by decide) ?_)
  refine WL.cons rfl (OP.nilCheck rfl (by decide) ?_)
  refine WL.cons rfl (OP.fieldAddr 5 fo_88_5 rfl rfl (by decide) ?_)
  obtain ⟨a1_6, c1_7, a2_8, c2_9, a3_10, c3_11, r_12, rows_13, clk_14, hp15, hs16⟩ := TellerRep_open hs5
  have hs17 : sat W0 [blk p [(Value.slice a1_6 busy.length c1_7), (Value.slice a2_8 fails.length c2_9), (Value.map (some r_12)), (Value.slice a3_10 torn.length c3_11), (Value.int .i64 asked), (Value.int .i64 work)] 88, SL false 1 a1_6 busy.length c1_7 (busy.map (Value.int .i64)), SL false 1 a2_8 fails.length c2_9 (fails.map (Value.int .i64)), SL false 1 a3_10 torn.length c3_11 (torn.map (Value.int .u8)), MP encPair r_12 (rows_13.map tRow) clk_14, stars (rows_13.map rowSL), F] w2 := hs16
  refine WL.cons rfl (OP.loadS (Value.int .i64 work) sc_3 rfl (sat_cell 0 hs17 rfl rfl) (by decide) ?_)
  refine WL.cons rfl (OP.add (work + 1) rfl rfl (by first | rfl | omega | simp) (by unfold inI64; omega) (by decide) ?_)
  refine WL.cons rfl (OP.nilCheck rfl (by decide) ?_)
  refine WL.cons rfl (OP.fieldAddr 5 fo_88_5 rfl rfl (by decide) ?_)
  refine WL.cons rfl (OP.store (Value.int .i64 (work + 1)) [(Value.int .i64 (work + 1))] hs17 rfl rfl rfl sz_3 rfl (by rfl) (by simp) (fun w18 hs19 => ?_))
  have hs20 : sat W0 [blk p [(Value.slice a1_6 busy.length c1_7), (Value.slice a2_8 fails.length c2_9), (Value.map (some r_12)), (Value.slice a3_10 torn.length c3_11), (Value.int .i64 asked), (Value.int .i64 (work + 1))] 88, SL false 1 a1_6 busy.length c1_7 (busy.map (Value.int .i64)), SL false 1 a2_8 fails.length c2_9 (fails.map (Value.int .i64)), SL false 1 a3_10 torn.length c3_11 (torn.map (Value.int .u8)), MP encPair r_12 (rows_13.map tRow) clk_14, stars (rows_13.map rowSL), F] w18 := hs19
  refine WL.nil (Qn.then ?_)
  refine W.seq ?_
  refine W.draw (fun w => sat W0 [blk p [(Value.slice a1_6 busy.length c1_7), (Value.slice a2_8 fails.length c2_9), (Value.map (some r_12)), (Value.slice a3_10 torn.length c3_11), (Value.int .i64 asked), (Value.int .i64 (work + 1))] 88, SL false 1 a1_6 busy.length c1_7 (busy.map (Value.int .i64)), SL false 1 a2_8 fails.length c2_9 (fails.map (Value.int .i64)), SL false 1 a3_10 torn.length c3_11 (torn.map (Value.int .u8)), MP encPair r_12 (rows_13.map tRow) clk_14, stars (rows_13.map rowSL), F] w) (by kernel_rfl) hs20 (fun w21 hs22 => ?_)
  refine WA.take 0 rfl rfl rfl rfl (by kernel_rfl) (by kernel_rfl) (by kernel_rfl) ?_ (by decide) (v := (Value.pointer (some ⟨p, 0, none⟩))) (fun w24 hw23 => OP.move (Value.pointer (some ⟨p, 0, none⟩)) rfl (by decide) ⟨rfl, rfl⟩) ?_
  · exact hs22
  refine WA.take 1 rfl rfl rfl rfl (by kernel_rfl) (by kernel_rfl) (by kernel_rfl) ?_ (by decide) (v := (Value.pointer (some ⟨p, 0, none⟩))) (fun w26 hw25 => OP.nilCheck rfl (by decide) ⟨rfl, rfl⟩) ?_
  · exact hs22
  refine WA.take 2 rfl rfl rfl rfl (by kernel_rfl) (by kernel_rfl) (by kernel_rfl) ?_ (by decide) (v := (Value.pointer (some ⟨p, 1, none⟩))) (fun w28 hw27 => OP.fieldAddr 1 fo_88_1 rfl rfl (by decide) ⟨rfl, rfl⟩) ?_
  · exact hs22
  refine WA.take 3 rfl rfl rfl rfl (by kernel_rfl) (by kernel_rfl) (by kernel_rfl) ?_ (by decide) (v := (Value.slice a2_8 fails.length c2_9)) (fun w30 hw29 => OP.loadS (Value.slice a2_8 fails.length c2_9) sc_22 rfl (sat_cell 0 hw29 rfl rfl) (by decide) ⟨rfl, rfl⟩) ?_
  · exact hs22
  refine WA.take 4 rfl rfl rfl rfl (by kernel_rfl) (by kernel_rfl) (by kernel_rfl) ?_ (by decide) (v := (Value.pointer (some ⟨p, 0, none⟩))) (fun w32 hw31 => OP.move (Value.pointer (some ⟨p, 0, none⟩)) rfl (by decide) ⟨rfl, rfl⟩) ?_
  · exact hs22
  refine WA.take 5 rfl rfl rfl rfl (by kernel_rfl) (by kernel_rfl) (by kernel_rfl) ?_ (by decide) (v := (Value.pointer (some ⟨p, 0, none⟩))) (fun w34 hw33 => OP.nilCheck rfl (by decide) ⟨rfl, rfl⟩) ?_
  · exact hs22
  refine WA.take 6 rfl rfl rfl rfl (by kernel_rfl) (by kernel_rfl) (by kernel_rfl) ?_ (by decide) (v := (Value.pointer (some ⟨p, 5, none⟩))) (fun w36 hw35 => OP.fieldAddr 5 fo_88_5 rfl rfl (by decide) ⟨rfl, rfl⟩) ?_
  · exact hs22
  refine WA.take 7 rfl rfl rfl rfl (by kernel_rfl) (by kernel_rfl) (by kernel_rfl) ?_ (by decide) (v := (Value.int .i64 (work + 1))) (fun w38 hw37 => OP.loadS (Value.int .i64 (work + 1)) sc_3 rfl (sat_cell 0 hw37 rfl rfl) (by decide) ⟨rfl, rfl⟩) ?_
  · exact hs22
  refine WA.take 8 rfl rfl rfl rfl (by kernel_rfl) (by kernel_rfl) (by kernel_rfl) ?_ (by decide) (v := (Value.int .i64 ((work + 1) - 1))) (fun w40 hw39 => OP.sub ((work + 1) - 1) rfl rfl (by first | rfl | omega | simp) (by unfold inI64; omega) (by decide) ⟨rfl, rfl⟩) ?_
  · exact hs22
  refine WA.all [9] (by kernel_rfl) (by simp) ?_
  refine WAs.cons (oi := (Go.Oper.mk (some 22) (Go.Op.call (Go.Call.mk (Go.Callee.value (Go.Operand.func 57)) #[(Go.Operand.tmp 16), (Go.Operand.tmp 21)] #[22, 3])) 4 "choice.go:87" #[(Go.Edge.mk 3 Go.Ground.data), (Go.Edge.mk 8 Go.Ground.data)] none)) rfl rfl ?_ ?_
  · have hs41 : sat W0 [stars [blk p [(Value.slice a1_6 busy.length c1_7), (Value.slice a2_8 fails.length c2_9), (Value.map (some r_12)), (Value.slice a3_10 torn.length c3_11), (Value.int .i64 asked), (Value.int .i64 (work + 1))] 88, SL false 1 a1_6 busy.length c1_7 (busy.map (Value.int .i64)), SL false 1 a2_8 fails.length c2_9 (fails.map (Value.int .i64)), SL false 1 a3_10 torn.length c3_11 (torn.map (Value.int .u8)), MP encPair r_12 (rows_13.map tRow) clk_14, stars (rows_13.map rowSL), F]] w21 := sat_pack' [] [blk p [(Value.slice a1_6 busy.length c1_7), (Value.slice a2_8 fails.length c2_9), (Value.map (some r_12)), (Value.slice a3_10 torn.length c3_11), (Value.int .i64 asked), (Value.int .i64 (work + 1))] 88, SL false 1 a1_6 busy.length c1_7 (busy.map (Value.int .i64)), SL false 1 a2_8 fails.length c2_9 (fails.map (Value.int .i64)), SL false 1 a3_10 torn.length c3_11 (torn.map (Value.int .u8)), MP encPair r_12 (rows_13.map tRow) clk_14, stars (rows_13.map rowSL), F] hs22 (by kernel_rfl) (by kernel_rfl)
    have hcl44 := slices_Contains a2_8 c2_9 fails ((work + 1) - 1) (by first | assumption | omega) (Ent_stars 2 rfl Ent_SL) hs41
    refine ?_
    with_reducible refine OP.call [(Value.slice a2_8 fails.length c2_9), (Value.int .i64 ((work + 1) - 1))] gf_57 ?_ ?_ hcl44 ?_
    · exact rfl
    · decide
    clear hcl44
    rintro _ w42 ⟨_, rfl, rfl, hs43⟩
    refine ⟨_, rfl, ?_⟩
    have hs45 : sat W0 [blk p [(Value.slice a1_6 busy.length c1_7), (Value.slice a2_8 fails.length c2_9), (Value.map (some r_12)), (Value.slice a3_10 torn.length c3_11), (Value.int .i64 asked), (Value.int .i64 (work + 1))] 88, SL false 1 a1_6 busy.length c1_7 (busy.map (Value.int .i64)), SL false 1 a2_8 fails.length c2_9 (fails.map (Value.int .i64)), SL false 1 a3_10 torn.length c3_11 (torn.map (Value.int .u8)), MP encPair r_12 (rows_13.map tRow) clk_14, stars (rows_13.map rowSL), F] w42 := sat_flat' [] [blk p [(Value.slice a1_6 busy.length c1_7), (Value.slice a2_8 fails.length c2_9), (Value.map (some r_12)), (Value.slice a3_10 torn.length c3_11), (Value.int .i64 asked), (Value.int .i64 (work + 1))] 88, SL false 1 a1_6 busy.length c1_7 (busy.map (Value.int .i64)), SL false 1 a2_8 fails.length c2_9 (fails.map (Value.int .i64)), SL false 1 a3_10 torn.length c3_11 (torn.map (Value.int .u8)), MP encPair r_12 (rows_13.map tRow) clk_14, stars (rows_13.map rowSL), F] hs43 (by kernel_rfl) (by kernel_rfl)
    refine ⟨?_, ?_⟩
    · exact hs45
    refine WA.take 10 rfl rfl rfl rfl (by kernel_rfl) (by kernel_rfl) (by kernel_rfl) ?_ (by decide) (v := (Value.bool (decide (((work + 1) - 1) ∈ fails)))) (fun w47 hw46 => OP.assign (Value.bool (decide (((work + 1) - 1) ∈ fails))) rfl (by decide) ⟨rfl, rfl⟩) ?_
    · exact hs45
    refine WA.done (by kernel_rfl) ?_
    refine (Qn.then ?_)
    refine W.ret (RetQ.of [(Value.bool (decide (((work + 1) - 1) ∈ fails)))] (.inr rfl) Try.results38 (.cons (.tmp (by decide) rfl) .nil) ?_)
    have hs49 : sat W0 [TellerRep p busy fails torn ts asked (work + 1), F] w42 := TellerRep_close a1_6 c1_7 a2_8 c2_9 a3_10 c3_11 r_12 rows_13 clk_14 (by assumption) hs45
    exact ⟨(congrArg Value.bool (by rw [show work + 1 - 1 = work by omega])), hs49⟩
  exact WAs.nil

end Go.Proofs.Ytleolejhkdolpaa
