import Derived.Test.YtleolejhkdolpaaA4
import Derived.KernelRfl
set_option linter.unusedVariables false
set_option linter.unusedSimpArgs false
set_option maxRecDepth 100000
set_option maxHeartbeats 4000000
namespace Go.Proofs.Ytleolejhkdolpaa
open Go Go.RowKit Sv
theorem Teller_Torn {W0 : World} {F : HProp} {w : World}  (p : Nat) (busy : List Int) (fails : List Int) (torn : List Int) (ts : List Turn) (asked : Int) (work : Int) (size : Nat) (hsz : size ≤ 65536) (hn : torn.length ≤ 1099511627) 
    (hs : sat W0 [TellerRep p busy fails torn ts asked work, F] w) :
    Calls Try.prog 39 ([(Value.pointer (some ⟨p, 0, none⟩)), (Value.int .i64 ((size : Nat) : Int))] : List Value).toArray w (fun x_ w' => ∃ v_, x_ = .returned v_ ∧ (∃ a_ : Option Addr, ∃ c_ : Nat, v_ = (Value.slice a_ size c_) ∧ sat W0 [TellerRep p busy fails torn ts asked work, SL false 1 a_ size c_ ((tornL torn size).map (Value.int .u8)), F] w')) := by
  refine W.enter Try.func39 rfl Try.ntmps39 (by simp) ?_
  refine W.seq ?_
  refine W.region ?_
  refine WL.cons rfl (OP.assign (Value.slice none 0 0) rfl (by decide) ?_)
  refine WL.nil (Qn.then ?_)
  refine W.seq ?_
  refine W.seq ?_
  refine W.region ?_
  refine WL.cons rfl (OP.move (Value.pointer (some ⟨p, 0, none⟩)) rfl (by decide) ?_)
  have hs1 : sat W0 [TellerRep p busy fails torn ts asked work, stars [F]] w := sat_pack' [TellerRep p busy fails torn ts asked work] [F] hs (by kernel_rfl) (by kernel_rfl)
  have hcl4 := Teller_is p busy fails torn ts asked work hs1
  refine WL.cons rfl (?_)
  with_reducible refine OP.call [(Value.pointer (some ⟨p, 0, none⟩))] gf_44 ?_ ?_ hcl4 ?_
  · exact rfl
  · decide
  clear hcl4
  rintro _ w2 ⟨_, rfl, rfl, hs3⟩
  refine ⟨_, rfl, ?_⟩
  have hs5 : sat W0 [TellerRep p busy fails torn ts asked work, F] w2 := sat_flat' [TellerRep p busy fails torn ts asked work] [F] hs3 (by kernel_rfl) (by kernel_rfl)
  refine WL.cons rfl (OP.not rfl (by decide) ?_)
  refine WL.cons rfl (OP.move (Value.bool false) rfl (by decide) ?_)
  refine WL.consG rfl rfl rfl (OP.move (Value.int .i64 ((size : Nat) : Int)) rfl (by decide) ?_)
  have hs6 : sat W0 [stars [TellerRep p busy fails torn ts asked work, F]] w2 := sat_pack' [] [TellerRep p busy fails torn ts asked work, F] hs5 (by kernel_rfl) (by kernel_rfl)
  have hcl9 := choice_within ((size : Nat) : Int) 0 65536 hs6
  refine WL.consG rfl rfl rfl (?_)
  with_reducible refine OP.call [(Value.int .i64 ((size : Nat) : Int)), (Value.int .i64 0), (Value.int .i64 65536)] gf_58 ?_ ?_ hcl9 ?_
  · exact rfl
  · decide
  clear hcl9
  rintro _ w7 ⟨_, rfl, rfl, hs8⟩
  refine ⟨_, rfl, ?_⟩
  have hs10 : sat W0 [TellerRep p busy fails torn ts asked work, F] w7 := sat_flat' [] [TellerRep p busy fails torn ts asked work, F] hs8 (by kernel_rfl) (by kernel_rfl)
  refine WL.consG rfl rfl rfl (OP.not rfl (by decide) ?_)
  refine WL.cons rfl (OP.pickF (Value.bool (!(withinB ((size : Nat) : Int) 0 65536))) rfl rfl (by decide) ?_)
  refine WL.nil (Qn.then ?_)
  refine W.ite (b := !(withinB ((size : Nat) : Int) 0 65536)) rfl (fun hc11 => ?_) (fun hc11 => ?_)
  · refine W.seq ?_
    exact absurd hc11 (by simp [withinB]; omega)
  · refine W.skip (Qn.then ?_)
    refine W.seq ?_
    refine W.region ?_
    refine WL.cons rfl (OP.move (Value.int .i64 ((size : Nat) : Int)) rfl (by decide) ?_)
    refine WL.cons rfl (OP.makeSlice (n := size) (z := [(Value.int .u8 0)]) hs10 Try.underlying24 sz_5 by_5 ze_5 rfl rfl (by omega) (by omega) rfl rfl rfl rfl (by decide) (fun b12 w13 hs14 => ?_))
    have hs15 : sat W0 [SL false 1 (some ⟨b12, 0, none⟩) size size ((tornUpto torn size 0).map (Value.int .u8)), TellerRep p busy fails torn ts asked work, F] w13 := (by rw [tornUpto_zero, ← reps_ints]; exact hs14)
    refine WL.cons rfl (OP.assign (Value.slice (some ⟨b12, 0, none⟩) size size) rfl (by decide) ?_)
    refine WL.nil (Qn.then ?_)
    refine W.seq ?_
    refine W.seq ?_
    refine W.region ?_
    refine WL.cons rfl (OP.move (Value.slice (some ⟨b12, 0, none⟩) size size) rfl (by decide) ?_)
    refine WL.cons rfl (OP.len Try.underlying24 rfl rfl (by decide) ?_)
    refine WL.cons rfl (OP.move (Value.int .i64 0) rfl (by decide) ?_)
    refine WL.nil (Qn.then ?_)
    refine W.block ?_
    refine W.loop (fun n_ e_ w_ => ∃ k : Nat, n_ = size - k ∧ e_ 0 = (Value.pointer (some ⟨p, 0, none⟩)) ∧ e_ 4 = (Value.slice none 0 0) ∧ e_ 5 = (Value.slice (some ⟨b12, 0, none⟩) size size) ∧ e_ 18 = (Value.int .i64 ((size : Nat) : Int)) ∧ e_ 19 = (Value.int .i64 ((k : Nat) : Int)) ∧ k ≤ size ∧ sat W0 [SL false 1 (some ⟨b12, 0, none⟩) size size ((tornUpto torn size k).map (Value.int .u8)), TellerRep p busy fails torn ts asked work, F] w_) (size - 0) ⟨0, rfl, rfl, rfl, rfl, rfl, (Eq.trans (b := (Value.int .i64 0)) rfl (congrArg (Value.int .i64) (by first | rfl | omega | simp | (simp; omega)))), (by first | trivial | omega | simp), hs15⟩ ?_
    rintro n16 e17 w18 ⟨k, hn20, he21, he22, he23, he24, he25, hp26, hs19⟩
    refine W.seq ?_
    refine W.region ?_
    refine WL.cons rfl (OP.lss he25 he24 (by decide) ?_)
    refine WL.nil (Qn.then ?_)
    refine W.seq ?_
    refine W.iteP (p := ((k : Nat) : Int) < ((size : Nat) : Int)) rfl (fun hc27 => ?_) (fun hc27 => ?_)
    · refine W.skip (Qn.then ?_)
      refine W.seq ?_
      refine W.block ?_
      refine W.seq ?_
      refine W.region ?_
      refine WL.cons rfl (OP.move (Value.int .i64 ((k : Nat) : Int)) he25 (by decide) ?_)
      refine WL.cons rfl (OP.assign (Value.int .i64 ((k : Nat) : Int)) rfl (by decide) ?_)
      refine WL.nil (Qn.then ?_)
      refine W.seq ?_
      refine W.region ?_
      refine WL.cons rfl (OP.move (Value.pointer (some ⟨p, 0, none⟩)) he21 (by decide) ?_)
      refine WL.cons rfl (OP.nilCheck rfl (by decide) ?_)
      refine WL.cons rfl (OP.fieldAddr 3 fo_88_3 rfl rfl (by decide) ?_)
      have hs28 : sat W0 [TellerRep p busy fails torn ts asked work, SL false 1 (some ⟨b12, 0, none⟩) size size ((tornUpto torn size k).map (Value.int .u8)), F] w18 := sat_sel' [1, 0, 2] hs19 (by kernel_rfl) (by kernel_rfl)
      obtain ⟨a1_29, c1_30, a2_31, c2_32, a3_33, c3_34, r_35, rows_36, clk_37, hp38, hs39⟩ := TellerRep_open hs28
      have hs40 : sat W0 [blk p [(Value.slice a1_29 busy.length c1_30), (Value.slice a2_31 fails.length c2_32), (Value.map (some r_35)), (Value.slice a3_33 torn.length c3_34), (Value.int .i64 asked), (Value.int .i64 work)] 88, SL false 1 a1_29 busy.length c1_30 (busy.map (Value.int .i64)), SL false 1 a2_31 fails.length c2_32 (fails.map (Value.int .i64)), SL false 1 a3_33 torn.length c3_34 (torn.map (Value.int .u8)), MP encPair r_35 (rows_36.map tRow) clk_37, stars (rows_36.map rowSL), SL false 1 (some ⟨b12, 0, none⟩) size size ((tornUpto torn size k).map (Value.int .u8)), F] w18 := hs39
      refine WL.cons rfl (OP.loadS (Value.slice a3_33 torn.length c3_34) sc_24 rfl (sat_cell 0 hs40 rfl rfl) (by decide) ?_)
      refine WL.cons rfl (OP.len Try.underlying24 rfl rfl (by decide) ?_)
      refine WL.cons rfl (OP.gtr rfl rfl (by decide) ?_)
      refine WL.nil (Qn.then ?_)
      refine W.iteP (p := ((torn.length : Nat) : Int) > 0) rfl (fun hc41 => ?_) (fun hc41 => ?_)
      · refine W.draw (fun w => sat W0 [blk p [(Value.slice a1_29 busy.length c1_30), (Value.slice a2_31 fails.length c2_32), (Value.map (some r_35)), (Value.slice a3_33 torn.length c3_34), (Value.int .i64 asked), (Value.int .i64 work)] 88, SL false 1 a1_29 busy.length c1_30 (busy.map (Value.int .i64)), SL false 1 a2_31 fails.length c2_32 (fails.map (Value.int .i64)), SL false 1 a3_33 torn.length c3_34 (torn.map (Value.int .u8)), MP encPair r_35 (rows_36.map tRow) clk_37, stars (rows_36.map rowSL), F] w) (by kernel_rfl) hs40 (fun w42 hs43 => ?_)
        refine WA.take 0 rfl rfl rfl rfl (by kernel_rfl) (by kernel_rfl) (by kernel_rfl) ?_ (by decide) (v := (Value.slice (some ⟨b12, 0, none⟩) size size)) (fun w45 hw44 => OP.move (Value.slice (some ⟨b12, 0, none⟩) size size) he23 (by decide) ⟨rfl, rfl⟩) ?_
        · exact sat_sub' [0, 1, 2, 3, 4, 5, 7] [6] hs43 (by kernel_rfl) (by kernel_rfl)
        refine WA.take 1 rfl rfl rfl rfl (by kernel_rfl) (by kernel_rfl) (by kernel_rfl) ?_ (by decide) (v := (Value.int .i64 ((k : Nat) : Int))) (fun w47 hw46 => OP.move (Value.int .i64 ((k : Nat) : Int)) rfl (by decide) ⟨rfl, rfl⟩) ?_
        · exact sat_sub' [0, 1, 2, 3, 4, 5, 7] [6] hs43 (by kernel_rfl) (by kernel_rfl)
        refine WA.take 2 rfl rfl rfl rfl (by kernel_rfl) (by kernel_rfl) (by kernel_rfl) ?_ (by decide) (v := (Value.pointer (some ⟨p, 0, none⟩))) (fun w49 hw48 => OP.move (Value.pointer (some ⟨p, 0, none⟩)) he21 (by decide) ⟨rfl, rfl⟩) ?_
        · exact sat_sub' [0, 1, 2, 3, 4, 5, 7] [6] hs43 (by kernel_rfl) (by kernel_rfl)
        refine WA.take 3 rfl rfl rfl rfl (by kernel_rfl) (by kernel_rfl) (by kernel_rfl) ?_ (by decide) (v := (Value.pointer (some ⟨p, 0, none⟩))) (fun w51 hw50 => OP.nilCheck rfl (by decide) ⟨rfl, rfl⟩) ?_
        · exact sat_sub' [0, 1, 2, 3, 4, 5, 7] [6] hs43 (by kernel_rfl) (by kernel_rfl)
        refine WA.take 4 rfl rfl rfl rfl (by kernel_rfl) (by kernel_rfl) (by kernel_rfl) ?_ (by decide) (v := (Value.pointer (some ⟨p, 3, none⟩))) (fun w53 hw52 => OP.fieldAddr 3 fo_88_3 rfl rfl (by decide) ⟨rfl, rfl⟩) ?_
        · exact sat_sub' [0, 1, 2, 3, 4, 5, 7] [6] hs43 (by kernel_rfl) (by kernel_rfl)
        refine WA.take 5 rfl rfl rfl rfl (by kernel_rfl) (by kernel_rfl) (by kernel_rfl) ?_ (by decide) (v := (Value.slice a3_33 torn.length c3_34)) (fun w55 hw54 => OP.loadS (Value.slice a3_33 torn.length c3_34) sc_24 rfl (sat_cell 0 hw54 rfl rfl) (by decide) ⟨rfl, rfl⟩) ?_
        · exact sat_sub' [0, 1, 2, 3, 4, 5, 7] [6] hs43 (by kernel_rfl) (by kernel_rfl)
        refine WA.take 6 rfl rfl rfl rfl (by kernel_rfl) (by kernel_rfl) (by kernel_rfl) ?_ (by decide) (v := (Value.int .i64 ((k : Nat) : Int))) (fun w57 hw56 => OP.move (Value.int .i64 ((k : Nat) : Int)) rfl (by decide) ⟨rfl, rfl⟩) ?_
        · exact sat_sub' [0, 1, 2, 3, 4, 5, 7] [6] hs43 (by kernel_rfl) (by kernel_rfl)
        refine WA.take 7 rfl rfl rfl rfl (by kernel_rfl) (by kernel_rfl) (by kernel_rfl) ?_ (by decide) (v := (Value.pointer (some ⟨p, 0, none⟩))) (fun w59 hw58 => OP.move (Value.pointer (some ⟨p, 0, none⟩)) he21 (by decide) ⟨rfl, rfl⟩) ?_
        · exact sat_sub' [0, 1, 2, 3, 4, 5, 7] [6] hs43 (by kernel_rfl) (by kernel_rfl)
        refine WA.take 8 rfl rfl rfl rfl (by kernel_rfl) (by kernel_rfl) (by kernel_rfl) ?_ (by decide) (v := (Value.pointer (some ⟨p, 0, none⟩))) (fun w61 hw60 => OP.nilCheck rfl (by decide) ⟨rfl, rfl⟩) ?_
        · exact sat_sub' [0, 1, 2, 3, 4, 5, 7] [6] hs43 (by kernel_rfl) (by kernel_rfl)
        refine WA.take 9 rfl rfl rfl rfl (by kernel_rfl) (by kernel_rfl) (by kernel_rfl) ?_ (by decide) (v := (Value.pointer (some ⟨p, 3, none⟩))) (fun w63 hw62 => OP.fieldAddr 3 fo_88_3 rfl rfl (by decide) ⟨rfl, rfl⟩) ?_
        · exact sat_sub' [0, 1, 2, 3, 4, 5, 7] [6] hs43 (by kernel_rfl) (by kernel_rfl)
        refine WA.take 10 rfl rfl rfl rfl (by kernel_rfl) (by kernel_rfl) (by kernel_rfl) ?_ (by decide) (v := (Value.slice a3_33 torn.length c3_34)) (fun w65 hw64 => OP.loadS (Value.slice a3_33 torn.length c3_34) sc_24 rfl (sat_cell 0 hw64 rfl rfl) (by decide) ⟨rfl, rfl⟩) ?_
        · exact sat_sub' [0, 1, 2, 3, 4, 5, 7] [6] hs43 (by kernel_rfl) (by kernel_rfl)
        refine WA.take 11 rfl rfl rfl rfl (by kernel_rfl) (by kernel_rfl) (by kernel_rfl) ?_ (by decide) (v := (Value.int .i64 ((torn.length : Nat) : Int))) (fun w67 hw66 => OP.len Try.underlying24 rfl rfl (by decide) ⟨rfl, rfl⟩) ?_
        · exact sat_sub' [0, 1, 2, 3, 4, 5, 7] [6] hs43 (by kernel_rfl) (by kernel_rfl)
        refine WA.take 12 rfl rfl rfl rfl (by kernel_rfl) (by kernel_rfl) (by kernel_rfl) ?_ (by decide) (v := (Value.int .i64 (((k : Nat) : Int) % ((torn.length : Nat) : Int)))) (fun w69 hw68 => OP.rem rfl rfl (by omega) (by omega) (by unfold inI64; omega) (by decide) ⟨rfl, rfl⟩) ?_
        · exact sat_sub' [0, 1, 2, 3, 4, 5, 7] [6] hs43 (by kernel_rfl) (by kernel_rfl)
        have hi41_ : (k % torn.length) < torn.length := by apply Nat.mod_lt; omega
        refine WA.take 13 rfl rfl rfl rfl (by kernel_rfl) (by kernel_rfl) (by kernel_rfl) ?_ (by decide) (v := (Value.pointer (some (adr a3_33 ((k % torn.length) * 1))))) (fun w71 hw70 => OP.indexR (k % torn.length) (Ent_sat 3 rfl Ent_SL hw70) Try.underlying24 sz_5 rfl rfl (by omega) hi41_ (by decide) ⟨rfl, rfl⟩) ?_
        · exact sat_sub' [0, 1, 2, 3, 4, 5, 7] [6] hs43 (by kernel_rfl) (by kernel_rfl)
        refine WA.take 14 rfl rfl rfl rfl (by kernel_rfl) (by kernel_rfl) (by kernel_rfl) ?_ (by decide) (v := (Value.int .u8 (torn.getD (k % torn.length) 0))) (fun w73 hw72 => OP.loadSR (Value.int .u8 (torn.getD (k % torn.length) 0)) (Ent_sat 3 rfl Ent_SL hw72) (ints_get hi41_) sc_5 rfl (by decide) ⟨rfl, rfl⟩) ?_
        · exact sat_sub' [0, 1, 2, 3, 4, 5, 7] [6] hs43 (by kernel_rfl) (by kernel_rfl)
        have hi43_ : k < size := by omega
        refine WA.take 15 rfl rfl rfl rfl (by kernel_rfl) (by kernel_rfl) (by kernel_rfl) ?_ (by decide) (v := (Value.pointer (some (adr (some ⟨b12, 0, none⟩) (k * 1))))) (fun w75 hw74 => OP.indexS k ⟨_, _, rfl⟩ Try.underlying24 sz_5 rfl rfl rfl hi43_ (by decide) ⟨rfl, rfl⟩) ?_
        · exact sat_sub' [0, 1, 2, 3, 4, 5, 7] [6] hs43 (by kernel_rfl) (by kernel_rfl)
        refine WA.all [16] (by kernel_rfl) (by simp) ?_
        refine WAs.cons (oi := (Go.Oper.mk none (Go.Op.store 5 (Go.Operand.tmp 43) (Go.Operand.tmp 42)) 0 "choice.go:106" #[(Go.Edge.mk 15 Go.Ground.data), (Go.Edge.mk 14 Go.Ground.data), (Go.Edge.mk 0 Go.Ground.phase), (Go.Edge.mk 1 Go.Ground.phase), (Go.Edge.mk 2 Go.Ground.phase), (Go.Edge.mk 3 Go.Ground.phase), (Go.Edge.mk 4 Go.Ground.phase), (Go.Edge.mk 5 Go.Ground.phase), (Go.Edge.mk 6 Go.Ground.phase), (Go.Edge.mk 7 Go.Ground.phase), (Go.Edge.mk 8 Go.Ground.phase), (Go.Edge.mk 9 Go.Ground.phase), (Go.Edge.mk 10 Go.Ground.phase), (Go.Edge.mk 11 Go.Ground.phase), (Go.Edge.mk 12 Go.Ground.phase), (Go.Edge.mk 13 Go.Ground.phase), (Go.Edge.mk 14 Go.Ground.phase)] none)) rfl rfl ?_ ?_
        · have hs76 : sat W0 [SL false 1 (some ⟨b12, 0, none⟩) size size ((tornUpto torn size k).map (Value.int .u8)), blk p [(Value.slice a1_29 busy.length c1_30), (Value.slice a2_31 fails.length c2_32), (Value.map (some r_35)), (Value.slice a3_33 torn.length c3_34), (Value.int .i64 asked), (Value.int .i64 work)] 88, SL false 1 a1_29 busy.length c1_30 (busy.map (Value.int .i64)), SL false 1 a2_31 fails.length c2_32 (fails.map (Value.int .i64)), SL false 1 a3_33 torn.length c3_34 (torn.map (Value.int .u8)), MP encPair r_35 (rows_36.map tRow) clk_37, stars (rows_36.map rowSL), F] w42 := sat_sel' [6, 0, 1, 2, 3, 4, 5, 7] hs43 (by kernel_rfl) (by kernel_rfl)
          refine OP.storeSL (Value.int .u8 (torn.getD (k % torn.length) 0)) [(Value.int .u8 (torn.getD (k % torn.length) 0))] hs76 rfl rfl rfl sz_5 rfl (by rfl) (by rw [(sat_SL_len hs76).1]; simp only [List.length_cons, List.length_nil]; omega) (fun w77 hs78 => ?_)
          have hs79 : sat W0 [SL false 1 (some ⟨b12, 0, none⟩) size size (((tornUpto torn size k).set k (torn.getD (k % torn.length) 0)).map (Value.int .u8)), blk p [(Value.slice a1_29 busy.length c1_30), (Value.slice a2_31 fails.length c2_32), (Value.map (some r_35)), (Value.slice a3_33 torn.length c3_34), (Value.int .i64 asked), (Value.int .i64 work)] 88, SL false 1 a1_29 busy.length c1_30 (busy.map (Value.int .i64)), SL false 1 a2_31 fails.length c2_32 (fails.map (Value.int .i64)), SL false 1 a3_33 torn.length c3_34 (torn.map (Value.int .u8)), MP encPair r_35 (rows_36.map tRow) clk_37, stars (rows_36.map rowSL), F] w77 := (ints_put ▸ hs78)
          refine ⟨?_, ?_⟩
          · exact sat_sub' [1, 2, 3, 4, 5, 6, 7] [0] hs79 (by kernel_rfl) (by kernel_rfl)
          refine WA.done (by kernel_rfl) ?_
          refine (Qn.blk (Qn.then ?_))
          refine W.region ?_
          refine WL.cons rfl (OP.add ((k + 1 : Nat) : Int) he25 rfl (by first | rfl | omega | simp) (by unfold inI64; omega) (by decide) ?_)
          refine WL.cons rfl (OP.move (Value.int .i64 ((k + 1 : Nat) : Int)) rfl (by decide) ?_)
          refine WL.nil (Qn.then ?_)
          have hs80 : sat W0 [SL false 1 (some ⟨b12, 0, none⟩) size size ((tornUpto torn size (k + 1)).map (Value.int .u8)), blk p [(Value.slice a1_29 busy.length c1_30), (Value.slice a2_31 fails.length c2_32), (Value.map (some r_35)), (Value.slice a3_33 torn.length c3_34), (Value.int .i64 asked), (Value.int .i64 work)] 88, SL false 1 a1_29 busy.length c1_30 (busy.map (Value.int .i64)), SL false 1 a2_31 fails.length c2_32 (fails.map (Value.int .i64)), SL false 1 a3_33 torn.length c3_34 (torn.map (Value.int .u8)), MP encPair r_35 (rows_36.map tRow) clk_37, stars (rows_36.map rowSL), F] w77 := (by have e_ := tornUpto_setB (torn := torn) (n := size) (k := k) (by omega) (by omega); rw [← e_]; exact hs79)
          have hs81 : sat W0 [blk p [(Value.slice a1_29 busy.length c1_30), (Value.slice a2_31 fails.length c2_32), (Value.map (some r_35)), (Value.slice a3_33 torn.length c3_34), (Value.int .i64 asked), (Value.int .i64 work)] 88, SL false 1 a1_29 busy.length c1_30 (busy.map (Value.int .i64)), SL false 1 a2_31 fails.length c2_32 (fails.map (Value.int .i64)), SL false 1 a3_33 torn.length c3_34 (torn.map (Value.int .u8)), MP encPair r_35 (rows_36.map tRow) clk_37, stars (rows_36.map rowSL), SL false 1 (some ⟨b12, 0, none⟩) size size ((tornUpto torn size (k + 1)).map (Value.int .u8)), F] w77 := sat_sel' [1, 2, 3, 4, 5, 6, 0, 7] hs80 (by kernel_rfl) (by kernel_rfl)
          have hs82 : sat W0 [TellerRep p busy fails torn ts asked work, SL false 1 (some ⟨b12, 0, none⟩) size size ((tornUpto torn size (k + 1)).map (Value.int .u8)), F] w77 := TellerRep_close a1_29 c1_30 a2_31 c2_32 a3_33 c3_34 r_35 rows_36 clk_37 (by assumption) hs81
          have hs83 : sat W0 [SL false 1 (some ⟨b12, 0, none⟩) size size ((tornUpto torn size (k + 1)).map (Value.int .u8)), TellerRep p busy fails torn ts asked work, F] w77 := sat_sel' [1, 0, 2] hs82 (by kernel_rfl) (by kernel_rfl)
          exact ⟨_, (by omega), (k + 1), rfl, he21, he22, he23, he24, (Eq.trans (b := (Value.int .i64 ((k + 1 : Nat) : Int))) rfl (congrArg (Value.int .i64) (by first | rfl | omega | simp | (simp; omega)))), (by first | assumption | omega | simp_all), hs83⟩
        exact WAs.nil
      · refine W.skip (Qn.blk (Qn.then ?_))
        refine W.region ?_
        refine WL.cons rfl (OP.add ((k + 1 : Nat) : Int) he25 rfl (by first | rfl | omega | simp) (by unfold inI64; omega) (by decide) ?_)
        refine WL.cons rfl (OP.move (Value.int .i64 ((k + 1 : Nat) : Int)) rfl (by decide) ?_)
        refine WL.nil (Qn.then ?_)
        have hs84 : sat W0 [SL false 1 (some ⟨b12, 0, none⟩) size size ((tornUpto torn size k).map (Value.int .u8)), blk p [(Value.slice a1_29 busy.length c1_30), (Value.slice a2_31 fails.length c2_32), (Value.map (some r_35)), (Value.slice a3_33 torn.length c3_34), (Value.int .i64 asked), (Value.int .i64 work)] 88, SL false 1 a1_29 busy.length c1_30 (busy.map (Value.int .i64)), SL false 1 a2_31 fails.length c2_32 (fails.map (Value.int .i64)), SL false 1 a3_33 torn.length c3_34 (torn.map (Value.int .u8)), MP encPair r_35 (rows_36.map tRow) clk_37, stars (rows_36.map rowSL), F] w18 := sat_sel' [6, 0, 1, 2, 3, 4, 5, 7] hs40 (by kernel_rfl) (by kernel_rfl)
        have hs85 : sat W0 [SL false 1 (some ⟨b12, 0, none⟩) size size ((tornUpto torn size (k + 1)).map (Value.int .u8)), blk p [(Value.slice a1_29 busy.length c1_30), (Value.slice a2_31 fails.length c2_32), (Value.map (some r_35)), (Value.slice a3_33 torn.length c3_34), (Value.int .i64 asked), (Value.int .i64 work)] 88, SL false 1 a1_29 busy.length c1_30 (busy.map (Value.int .i64)), SL false 1 a2_31 fails.length c2_32 (fails.map (Value.int .i64)), SL false 1 a3_33 torn.length c3_34 (torn.map (Value.int .u8)), MP encPair r_35 (rows_36.map tRow) clk_37, stars (rows_36.map rowSL), F] w18 := (by rw [← tornUpto_skip (torn := torn) (List.length_eq_zero_iff.1 (by omega))]; exact hs84)
        have hs86 : sat W0 [blk p [(Value.slice a1_29 busy.length c1_30), (Value.slice a2_31 fails.length c2_32), (Value.map (some r_35)), (Value.slice a3_33 torn.length c3_34), (Value.int .i64 asked), (Value.int .i64 work)] 88, SL false 1 a1_29 busy.length c1_30 (busy.map (Value.int .i64)), SL false 1 a2_31 fails.length c2_32 (fails.map (Value.int .i64)), SL false 1 a3_33 torn.length c3_34 (torn.map (Value.int .u8)), MP encPair r_35 (rows_36.map tRow) clk_37, stars (rows_36.map rowSL), SL false 1 (some ⟨b12, 0, none⟩) size size ((tornUpto torn size (k + 1)).map (Value.int .u8)), F] w18 := sat_sel' [1, 2, 3, 4, 5, 6, 0, 7] hs85 (by kernel_rfl) (by kernel_rfl)
        have hs87 : sat W0 [TellerRep p busy fails torn ts asked work, SL false 1 (some ⟨b12, 0, none⟩) size size ((tornUpto torn size (k + 1)).map (Value.int .u8)), F] w18 := TellerRep_close a1_29 c1_30 a2_31 c2_32 a3_33 c3_34 r_35 rows_36 clk_37 (by assumption) hs86
        have hs88 : sat W0 [SL false 1 (some ⟨b12, 0, none⟩) size size ((tornUpto torn size (k + 1)).map (Value.int .u8)), TellerRep p busy fails torn ts asked work, F] w18 := sat_sel' [1, 0, 2] hs87 (by kernel_rfl) (by kernel_rfl)
        exact ⟨_, (by omega), (k + 1), rfl, he21, he22, he23, he24, (Eq.trans (b := (Value.int .i64 ((k + 1 : Nat) : Int))) rfl (congrArg (Value.int .i64) (by first | rfl | omega | simp | (simp; omega)))), (by first | assumption | omega | simp_all), hs88⟩
    · refine W.exit (Qx.then (Qx.then (Qx.hit (Qn.then ?_))))
      refine W.seq ?_
      refine W.region ?_
      refine WL.cons rfl (OP.move (Value.slice (some ⟨b12, 0, none⟩) size size) he23 (by decide) ?_)
      refine WL.cons rfl (OP.assign (Value.slice (some ⟨b12, 0, none⟩) size size) rfl (by decide) ?_)
      refine WL.nil (Qn.then ?_)
      have e_ := tornUpto_all (torn := torn) (n := size) (k := k) (by omega)
      have hs89 : sat W0 [SL false 1 (some ⟨b12, 0, none⟩) size size ((tornL torn size).map (Value.int .u8)), TellerRep p busy fails torn ts asked work, F] w18 := (by rw [← e_]; exact hs19)
      refine W.ret (RetQ.of [(Value.slice (some ⟨b12, 0, none⟩) size size)] (.inr rfl) Try.results39 (.cons (.tmp (by decide) rfl) .nil) ?_)
      have hs91 : sat W0 [TellerRep p busy fails torn ts asked work, SL false 1 (some ⟨b12, 0, none⟩) size size ((tornL torn size).map (Value.int .u8)), F] w18 := sat_sel' [1, 0, 2] hs89 (by kernel_rfl) (by kernel_rfl)
      exact ⟨(some ⟨b12, 0, none⟩), size, rfl, hs91⟩

end Go.Proofs.Ytleolejhkdolpaa
