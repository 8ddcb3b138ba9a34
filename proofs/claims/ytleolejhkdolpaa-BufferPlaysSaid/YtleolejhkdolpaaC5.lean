import Derived.Test.YtleolejhkdolpaaC4
import Derived.KernelRfl
set_option linter.unusedVariables false
set_option linter.unusedSimpArgs false
set_option maxRecDepth 100000
set_option maxHeartbeats 4000000
namespace Go.Proofs.Ytleolejhkdolpaa
open Go Go.RowKit Sv
theorem Buffer_Put {W0 : World} {F : HProp} {w : World}  (p : Nat) (xs : List BEnt) (most : Int) (size : Int) (m : List AEnt) (x : BEnt) (D : List (Option Addr × List Int)) (hm : xs.map absB = m) (hn : xs.length ≤ 1099511627) (hp : 0 < most) (hml : (m.length : Int) ≤ most) (hxs : InD D xs) (hx : (x.da, x.data) ∈ D) (hxn : x.data.length ≤ 1099511627) 
    (hs : sat W0 [BufRep p xs most size, ShD W0 D, F] w) :
    Calls Try.prog 14 ([(Value.pointer (some ⟨p, 0, none⟩)), (Value.agg [(Value.int .i64 x.sector), (Value.int .i64 x.kind), (Value.slice x.da x.data.length x.dc)].toArray)] : List Value).toArray w (fun x_ w' => ∃ v_, x_ = .returned v_ ∧ (∃ xs_ : List BEnt, ∃ D_ : List (Option Addr × List Int), v_ = (Value.int .i64 (putE most size m (absB x))) ∧ DSub D D_ ∧ InD D_ xs_ ∧ xs_.map absB = putM most size m (absB x) ∧ sat W0 [BufRep p xs_ most size, ShD W0 D_, F] w')) := by
  refine W.enter Try.func14 rfl Try.ntmps14 (by simp) ?_
  refine W.seq ?_
  refine W.region ?_
  refine WL.cons rfl (OP.box (Value.agg [(Value.int .i64 x.sector), (Value.int .i64 x.kind), (Value.slice x.da x.data.length x.dc)].toArray) [(Value.int .i64 x.sector), (Value.int .i64 x.kind), (Value.slice x.da x.data.length x.dc)] hs rfl rfl (by decide) (fun b1 w2 hs3 => ?_))
  refine WL.cons rfl (OP.assign (Value.int .i64 0) rfl (by decide) ?_)
  refine WL.nil (Qn.then ?_)
  refine W.seq ?_
  refine W.block ?_
  refine W.seq ?_
  refine W.region ?_
  refine WL.cons rfl (OP.move (Value.pointer (some ⟨p, 0, none⟩)) rfl (by decide) ?_)
  have hs4 : sat W0 [BufRep p xs most size, blk b1 [(Value.int .i64 x.sector), (Value.int .i64 x.kind), (Value.slice x.da x.data.length x.dc)] 48, ShD W0 D, F] w2 := sat_sel' [1, 0, 2, 3] hs3 (by kernel_rfl) (by kernel_rfl)
  obtain ⟨a1_5, c1_6, _, hs7⟩ := BufRep_open hs4
  have hs8 : sat W0 [blk p [(Value.slice a1_5 xs.length c1_6), (Value.int .i64 most), (Value.int .i64 size)] 92, SL false 3 a1_5 xs.length c1_6 (xs.flatMap encB), blk b1 [(Value.int .i64 x.sector), (Value.int .i64 x.kind), (Value.slice x.da x.data.length x.dc)] 48, ShD W0 D, F] w2 := hs7
  have hs9 : sat W0 [blk p [(Value.slice a1_5 xs.length c1_6), (Value.int .i64 most), (Value.int .i64 size)] 92, stars [SL false 3 a1_5 xs.length c1_6 (xs.flatMap encB), blk b1 [(Value.int .i64 x.sector), (Value.int .i64 x.kind), (Value.slice x.da x.data.length x.dc)] 48, ShD W0 D, F]] w2 := sat_pack' [blk p [(Value.slice a1_5 xs.length c1_6), (Value.int .i64 most), (Value.int .i64 size)] 92] [SL false 3 a1_5 xs.length c1_6 (xs.flatMap encB), blk b1 [(Value.int .i64 x.sector), (Value.int .i64 x.kind), (Value.slice x.da x.data.length x.dc)] 48, ShD W0 D, F] hs8 (by kernel_rfl) (by kernel_rfl)
  have hcl12 := Buffer_is p a1_5 xs.length c1_6 most size hs9
  refine WL.cons rfl (?_)
  with_reducible refine OP.call [(Value.pointer (some ⟨p, 0, none⟩))] gf_45 ?_ ?_ hcl12 ?_
  · exact rfl
  · decide
  clear hcl12
  rintro _ w10 ⟨_, rfl, rfl, hs11⟩
  refine ⟨_, rfl, ?_⟩
  have hs13 : sat W0 [blk p [(Value.slice a1_5 xs.length c1_6), (Value.int .i64 most), (Value.int .i64 size)] 92, SL false 3 a1_5 xs.length c1_6 (xs.flatMap encB), blk b1 [(Value.int .i64 x.sector), (Value.int .i64 x.kind), (Value.slice x.da x.data.length x.dc)] 48, ShD W0 D, F] w10 := sat_flat' [blk p [(Value.slice a1_5 xs.length c1_6), (Value.int .i64 most), (Value.int .i64 size)] 92] [SL false 3 a1_5 xs.length c1_6 (xs.flatMap encB), blk b1 [(Value.int .i64 x.sector), (Value.int .i64 x.kind), (Value.slice x.da x.data.length x.dc)] 48, ShD W0 D, F] hs11 (by kernel_rfl) (by kernel_rfl)
  refine WL.cons rfl (OP.notP (most > 0) rfl (by decide) ?_)
  refine WL.cons rfl (OP.assign (Value.bool (decide (¬ (most > 0)))) rfl (by decide) ?_)
  refine WL.nil (Qn.then ?_)
  refine W.iteP (p := ¬ (most > 0)) rfl (fun hc14 => ?_) (fun hc14 => ?_)
  · refine W.seq ?_
    exact absurd hc14 (by simp; omega)
  · refine W.seq ?_
    refine W.region ?_
    refine WL.cons rfl (OP.move (Value.pointer (some ⟨p, 0, none⟩)) rfl (by decide) ?_)
    refine WL.cons rfl (OP.loadA [(Value.int .i64 x.sector), (Value.int .i64 x.kind), (Value.slice x.da x.data.length x.dc)] ag_48 sz_48 rfl (sat_rdn 2 hs13 rfl rfl) (by decide) ?_)
    have hs15 : sat W0 [BufRep p xs most size, blk b1 [(Value.int .i64 x.sector), (Value.int .i64 x.kind), (Value.slice x.da x.data.length x.dc)] 48, ShD W0 D, F] w10 := BufRep_close a1_5 c1_6 trivial hs13
    have hs16 : sat W0 [BufRep p xs most size, stars [blk b1 [(Value.int .i64 x.sector), (Value.int .i64 x.kind), (Value.slice x.da x.data.length x.dc)] 48, ShD W0 D, F]] w10 := sat_pack' [BufRep p xs most size] [blk b1 [(Value.int .i64 x.sector), (Value.int .i64 x.kind), (Value.slice x.da x.data.length x.dc)] 48, ShD W0 D, F] hs15 (by kernel_rfl) (by kernel_rfl)
    have hcl19 := Buffer_right p xs most size x hs16
    refine WL.cons rfl (?_)
    with_reducible refine OP.call [(Value.pointer (some ⟨p, 0, none⟩)), (Value.agg [(Value.int .i64 x.sector), (Value.int .i64 x.kind), (Value.slice x.da x.data.length x.dc)].toArray)] gf_46 ?_ ?_ hcl19 ?_
    · exact rfl
    · decide
    clear hcl19
    rintro _ w17 ⟨_, rfl, rfl, hs18⟩
    refine ⟨_, rfl, ?_⟩
    have hs20 : sat W0 [BufRep p xs most size, blk b1 [(Value.int .i64 x.sector), (Value.int .i64 x.kind), (Value.slice x.da x.data.length x.dc)] 48, ShD W0 D, F] w17 := sat_flat' [BufRep p xs most size] [blk b1 [(Value.int .i64 x.sector), (Value.int .i64 x.kind), (Value.slice x.da x.data.length x.dc)] 48, ShD W0 D, F] hs18 (by kernel_rfl) (by kernel_rfl)
    refine WL.cons rfl (OP.not rfl (by decide) ?_)
    refine WL.cons rfl (OP.assign (Value.bool (!(rightA size (absB x)))) rfl (by decide) ?_)
    refine WL.nil (Qn.then ?_)
    refine W.ite (b := !(rightA size (absB x))) rfl (fun hc21 => ?_) (fun hc21 => ?_)
    · refine W.seq ?_
      refine W.region ?_
      refine WL.cons rfl (OP.assign (Value.int .i64 2) rfl (by decide) ?_)
      refine WL.nil (Qn.then ?_)
      refine W.ret (Qr.blk (Qr.then (RetQ.of [(Value.int .i64 2)] (.inr rfl) Try.results14 (.cons (.tmp (by decide) rfl) .nil) ?_)))
      have hs23 : sat W0 [BufRep p xs most size, ShD W0 D, F] w17 := sat_sub' [0, 2, 3] [1] hs20 (by kernel_rfl) (by kernel_rfl)
      exact ⟨xs, D, (congrArg (Value.int .i64) (show _ = putE most size m (absB x) from ((by first | exact put_bad (by assumption) | exact put_full (by assumption) (by assumption) (by omega)) : putE most size m (absB x) = _ ∧ putM most size m (absB x) = m).1.symm)), DSub.refl, hxs, (hm.trans ((by first | exact put_bad (by assumption) | exact put_full (by assumption) (by assumption) (by omega)) : putE most size m (absB x) = 2 ∧ putM most size m (absB x) = m).2.symm), hs23⟩
    · refine W.skip (Qn.blk (Qn.then ?_))
      refine W.seq ?_
      refine W.seq ?_
      refine W.region ?_
      refine WL.cons rfl (OP.move (Value.pointer (some ⟨p, 0, none⟩)) rfl (by decide) ?_)
      refine WL.cons rfl (OP.fieldAddr 0 fo_48_0 rfl rfl (by decide) ?_)
      refine WL.cons rfl (OP.loadS (Value.int .i64 x.sector) sc_3 rfl (sat_cell 1 hs20 rfl rfl) (by decide) ?_)
      have hs24 : sat W0 [BufRep p xs most size, stars [blk b1 [(Value.int .i64 x.sector), (Value.int .i64 x.kind), (Value.slice x.da x.data.length x.dc)] 48, ShD W0 D, F]] w17 := sat_pack' [BufRep p xs most size] [blk b1 [(Value.int .i64 x.sector), (Value.int .i64 x.kind), (Value.slice x.da x.data.length x.dc)] 48, ShD W0 D, F] hs20 (by kernel_rfl) (by kernel_rfl)
      have hcl27 := Buffer_place p xs most size m x.sector (by first | assumption | omega) (by first | assumption | omega) (by first | assumption | omega) hs24
      refine WL.cons rfl (?_)
      with_reducible refine OP.call [(Value.pointer (some ⟨p, 0, none⟩)), (Value.int .i64 x.sector)] gf_47 ?_ ?_ hcl27 ?_
      · exact rfl
      · decide
      clear hcl27
      rintro _ w25 ⟨_, rfl, rfl, hs26⟩
      refine ⟨_, rfl, ?_⟩
      have hs28 : sat W0 [BufRep p xs most size, blk b1 [(Value.int .i64 x.sector), (Value.int .i64 x.kind), (Value.slice x.da x.data.length x.dc)] 48, ShD W0 D, F] w25 := sat_flat' [BufRep p xs most size] [blk b1 [(Value.int .i64 x.sector), (Value.int .i64 x.kind), (Value.slice x.da x.data.length x.dc)] 48, ShD W0 D, F] hs26 (by kernel_rfl) (by kernel_rfl)
      refine WL.cons rfl (OP.assign (Value.int .i64 (findA m x.sector)) rfl (by decide) ?_)
      refine WL.nil (Qn.then ?_)
      refine W.seq ?_
      have hfr_ := findA_range (m := m) (s := x.sector)
      have hal_ := abs_len hm
      refine W.region ?_
      refine WL.cons rfl (OP.move (Value.int .i64 (findA m x.sector)) rfl (by decide) ?_)
      refine WL.cons rfl (OP.geq rfl rfl (by decide) ?_)
      refine WL.nil (Qn.then ?_)
      refine W.iteP (p := findA m x.sector ≥ 0) rfl (fun hc29 => ?_) (fun hc29 => ?_)
      · refine W.seq ?_
        obtain ⟨a1_30, c1_31, _, hs32⟩ := BufRep_open hs28
        have hs33 : sat W0 [blk p [(Value.slice a1_30 xs.length c1_31), (Value.int .i64 most), (Value.int .i64 size)] 92, SL false 3 a1_30 xs.length c1_31 (xs.flatMap encB), blk b1 [(Value.int .i64 x.sector), (Value.int .i64 x.kind), (Value.slice x.da x.data.length x.dc)] 48, ShD W0 D, F] w25 := hs32
        have hs34 : sat W0 [SL false 3 a1_30 xs.length c1_31 (xs.flatMap encB), blk p [(Value.slice a1_30 xs.length c1_31), (Value.int .i64 most), (Value.int .i64 size)] 92, blk b1 [(Value.int .i64 x.sector), (Value.int .i64 x.kind), (Value.slice x.da x.data.length x.dc)] 48, ShD W0 D, F] w25 := sat_sel' [1, 0, 2, 3, 4] hs33 (by kernel_rfl) (by kernel_rfl)
        have hlha35 := sat_SL_len hs34
        have ha35 : ∃ b o, a1_30 = some ⟨b, o, none⟩ := sat_SL_some (by omega) hs34
        refine W.draw (fun w => sat W0 [blk p [(Value.slice a1_30 xs.length c1_31), (Value.int .i64 most), (Value.int .i64 size)] 92, blk b1 [(Value.int .i64 x.sector), (Value.int .i64 x.kind), (Value.slice x.da x.data.length x.dc)] 48, F] w) (by kernel_rfl) hs34 (fun w36 hs37 => ?_)
        refine WA.take 0 rfl rfl rfl rfl (by kernel_rfl) (by kernel_rfl) (by kernel_rfl) ?_ (by decide) (v := (Value.pointer (some ⟨p, 0, none⟩))) (fun w39 hw38 => OP.move (Value.pointer (some ⟨p, 0, none⟩)) rfl (by decide) ⟨rfl, rfl⟩) ?_
        · exact sat_sub' [1, 2, 4] [0, 3] hs37 (by kernel_rfl) (by kernel_rfl)
        refine WA.take 1 rfl rfl rfl rfl (by kernel_rfl) (by kernel_rfl) (by kernel_rfl) ?_ (by decide) (v := (Value.pointer (some ⟨p, 0, none⟩))) (fun w41 hw40 => OP.nilCheck rfl (by decide) ⟨rfl, rfl⟩) ?_
        · exact sat_sub' [1, 2, 4] [0, 3] hs37 (by kernel_rfl) (by kernel_rfl)
        refine WA.take 2 rfl rfl rfl rfl (by kernel_rfl) (by kernel_rfl) (by kernel_rfl) ?_ (by decide) (v := (Value.pointer (some ⟨p, 0, none⟩))) (fun w43 hw42 => OP.fieldAddr 0 fo_92_0 rfl rfl (by decide) ⟨rfl, rfl⟩) ?_
        · exact sat_sub' [1, 2, 4] [0, 3] hs37 (by kernel_rfl) (by kernel_rfl)
        refine WA.take 3 rfl rfl rfl rfl (by kernel_rfl) (by kernel_rfl) (by kernel_rfl) ?_ (by decide) (v := (Value.slice a1_30 xs.length c1_31)) (fun w45 hw44 => OP.loadS (Value.slice a1_30 xs.length c1_31) sc_44 rfl (sat_cell 0 hw44 rfl rfl) (by decide) ⟨rfl, rfl⟩) ?_
        · exact sat_sub' [1, 2, 4] [0, 3] hs37 (by kernel_rfl) (by kernel_rfl)
        refine WA.take 4 rfl rfl rfl rfl (by kernel_rfl) (by kernel_rfl) (by kernel_rfl) ?_ (by decide) (v := (Value.int .i64 (findA m x.sector))) (fun w47 hw46 => OP.move (Value.int .i64 (findA m x.sector)) rfl (by decide) ⟨rfl, rfl⟩) ?_
        · exact sat_sub' [1, 2, 4] [0, 3] hs37 (by kernel_rfl) (by kernel_rfl)
        refine WA.take 5 rfl rfl rfl rfl (by kernel_rfl) (by kernel_rfl) (by kernel_rfl) ?_ (by decide) (v := (Value.agg [(Value.int .i64 x.sector), (Value.int .i64 x.kind), (Value.slice x.da x.data.length x.dc)].toArray)) (fun w49 hw48 => OP.loadA [(Value.int .i64 x.sector), (Value.int .i64 x.kind), (Value.slice x.da x.data.length x.dc)] ag_48 sz_48 rfl (sat_rdn 1 hw48 rfl rfl) (by decide) ⟨rfl, rfl⟩) ?_
        · exact sat_sub' [1, 2, 4] [0, 3] hs37 (by kernel_rfl) (by kernel_rfl)
        refine WA.all [6] (by kernel_rfl) (by simp) ?_
        refine WAs.cons (oi := (Go.Oper.mk (some 27) (Go.Op.call (Go.Call.mk (Go.Callee.value (Go.Operand.func 48)) #[(Go.Operand.tmp 26)] #[48])) 48 "buffer.go:62" #[(Go.Edge.mk 5 Go.Ground.data)] none)) rfl rfl ?_ ?_
        · have hs50 : sat W0 [ShD W0 D, SL false 3 a1_30 xs.length c1_31 (xs.flatMap encB), blk p [(Value.slice a1_30 xs.length c1_31), (Value.int .i64 most), (Value.int .i64 size)] 92, blk b1 [(Value.int .i64 x.sector), (Value.int .i64 x.kind), (Value.slice x.da x.data.length x.dc)] 48, F] w36 := sat_sel' [3, 0, 1, 2, 4] hs37 (by kernel_rfl) (by kernel_rfl)
          have hs51 : sat W0 [ShD W0 D, stars [SL false 3 a1_30 xs.length c1_31 (xs.flatMap encB), blk p [(Value.slice a1_30 xs.length c1_31), (Value.int .i64 most), (Value.int .i64 size)] 92, blk b1 [(Value.int .i64 x.sector), (Value.int .i64 x.kind), (Value.slice x.da x.data.length x.dc)] 48, F]] w36 := sat_pack' [ShD W0 D] [SL false 3 a1_30 xs.length c1_31 (xs.flatMap encB), blk p [(Value.slice a1_30 xs.length c1_31), (Value.int .i64 most), (Value.int .i64 size)] 92, blk b1 [(Value.int .i64 x.sector), (Value.int .i64 x.kind), (Value.slice x.da x.data.length x.dc)] 48, F] hs50 (by kernel_rfl) (by kernel_rfl)
          have hcl59 := buffer_copied x D hx (by first | assumption | omega) hs51
          refine ?_
          with_reducible refine OP.call [(Value.agg [(Value.int .i64 x.sector), (Value.int .i64 x.kind), (Value.slice x.da x.data.length x.dc)].toArray)] gf_48 ?_ ?_ hcl59 ?_
          · exact rfl
          · decide
          clear hcl59
          rintro _ w55 ⟨_, rfl, a_52, c_53, D_54, rfl, hq57, hq58, hs56⟩
          refine ⟨_, rfl, ?_⟩
          have hs60 : sat W0 [ShD W0 D_54, SL false 3 a1_30 xs.length c1_31 (xs.flatMap encB), blk p [(Value.slice a1_30 xs.length c1_31), (Value.int .i64 most), (Value.int .i64 size)] 92, blk b1 [(Value.int .i64 x.sector), (Value.int .i64 x.kind), (Value.slice x.da x.data.length x.dc)] 48, F] w55 := sat_flat' [ShD W0 D_54] [SL false 3 a1_30 xs.length c1_31 (xs.flatMap encB), blk p [(Value.slice a1_30 xs.length c1_31), (Value.int .i64 most), (Value.int .i64 size)] 92, blk b1 [(Value.int .i64 x.sector), (Value.int .i64 x.kind), (Value.slice x.da x.data.length x.dc)] 48, F] hs56 (by kernel_rfl) (by kernel_rfl)
          have hm61 := hq57 _ hx
          have hm62 := InD.sub hxs hq57
          refine ⟨?_, ?_⟩
          · exact sat_sub' [2, 3, 4] [0, 1] hs60 (by kernel_rfl) (by kernel_rfl)
          have hi28_ : (findA m x.sector).toNat < xs.length := by have := findA_range (m := m) (s := x.sector); have := abs_len hm; omega
          refine WA.take 7 rfl rfl rfl rfl (by kernel_rfl) (by kernel_rfl) (by kernel_rfl) ?_ (by decide) (v := (Value.pointer (some (adr a1_30 (((findA m x.sector).toNat) * 3))))) (fun w64 hw63 => OP.indexS ((findA m x.sector).toNat) ha35 Try.underlying44 sz_48 rfl rfl (by omega) hi28_ (by decide) ⟨rfl, rfl⟩) ?_
          · exact sat_sub' [2, 3, 4] [0, 1] hs60 (by kernel_rfl) (by kernel_rfl)
          refine WA.all [8] (by kernel_rfl) (by simp) ?_
          refine WAs.cons (oi := (Go.Oper.mk none (Go.Op.store 48 (Go.Operand.tmp 28) (Go.Operand.tmp 27)) 0 "buffer.go:62" #[(Go.Edge.mk 7 Go.Ground.data), (Go.Edge.mk 6 Go.Ground.data), (Go.Edge.mk 6 Go.Ground.chain), (Go.Edge.mk 0 Go.Ground.phase), (Go.Edge.mk 1 Go.Ground.phase), (Go.Edge.mk 2 Go.Ground.phase), (Go.Edge.mk 3 Go.Ground.phase), (Go.Edge.mk 4 Go.Ground.phase), (Go.Edge.mk 5 Go.Ground.phase), (Go.Edge.mk 6 Go.Ground.phase)] none)) rfl rfl ?_ ?_
          · have hs65 : sat W0 [SL false 3 a1_30 xs.length c1_31 (xs.flatMap encB), ShD W0 D_54, blk p [(Value.slice a1_30 xs.length c1_31), (Value.int .i64 most), (Value.int .i64 size)] 92, blk b1 [(Value.int .i64 x.sector), (Value.int .i64 x.kind), (Value.slice x.da x.data.length x.dc)] 48, F] w55 := sat_sel' [1, 0, 2, 3, 4] hs60 (by kernel_rfl) (by kernel_rfl)
            refine OP.storeSL (Value.agg [(Value.int .i64 x.sector), (Value.int .i64 x.kind), (Value.slice a_52 x.data.length c_53)].toArray) [(Value.int .i64 x.sector), (Value.int .i64 x.kind), (Value.slice a_52 x.data.length c_53)] hs65 rfl rfl rfl sz_48 rfl (by rfl) (by rw [(sat_SL_len hs65).1]; simp only [List.length_cons, List.length_nil]; omega) (fun w66 hs67 => ?_)
            have hs68 : sat W0 [SL false 3 a1_30 xs.length c1_31 ((xs.set ((findA m x.sector).toNat) (⟨x.sector, x.kind, a_52, c_53, x.data⟩ : BEnt)).flatMap encB), ShD W0 D_54, blk p [(Value.slice a1_30 xs.length c1_31), (Value.int .i64 most), (Value.int .i64 size)] 92, blk b1 [(Value.int .i64 x.sector), (Value.int .i64 x.kind), (Value.slice x.da x.data.length x.dc)] 48, F] w66 := (recs_put (sz := 3) (enc := encB) (fun _ => rfl) (x := (⟨x.sector, x.kind, a_52, c_53, x.data⟩ : BEnt)) hi28_ ▸ hs67)
            refine ⟨?_, ?_⟩
            · exact sat_sub' [2, 3, 4] [0, 1] hs68 (by kernel_rfl) (by kernel_rfl)
            refine WA.done (by kernel_rfl) ?_
            refine (Qn.then ?_)
            refine W.seq ?_
            refine W.region ?_
            refine WL.cons rfl (OP.assign (Value.int .i64 0) rfl (by decide) ?_)
            refine WL.nil (Qn.then ?_)
            have hs69 : sat W0 [SL false 3 a1_30 ((xs.set ((findA m x.sector).toNat) (⟨x.sector, x.kind, a_52, c_53, x.data⟩ : BEnt)).length) c1_31 ((xs.set ((findA m x.sector).toNat) (⟨x.sector, x.kind, a_52, c_53, x.data⟩ : BEnt)).flatMap encB), ShD W0 D_54, blk p [(Value.slice a1_30 ((xs.set ((findA m x.sector).toNat) (⟨x.sector, x.kind, a_52, c_53, x.data⟩ : BEnt)).length) c1_31), (Value.int .i64 most), (Value.int .i64 size)] 92, blk b1 [(Value.int .i64 x.sector), (Value.int .i64 x.kind), (Value.slice x.da x.data.length x.dc)] 48, F] w66 := (by rw [show ((xs.set ((findA m x.sector).toNat) (⟨x.sector, x.kind, a_52, c_53, x.data⟩ : BEnt)).length) = xs.length by simp]; exact hs68)
            refine W.ret (Qr.then (RetQ.of [(Value.int .i64 0)] (.inr rfl) Try.results14 (.cons (.tmp (by decide) rfl) .nil) ?_))
            have hs71 : sat W0 [blk p [(Value.slice a1_30 ((xs.set ((findA m x.sector).toNat) (⟨x.sector, x.kind, a_52, c_53, x.data⟩ : BEnt)).length) c1_31), (Value.int .i64 most), (Value.int .i64 size)] 92, SL false 3 a1_30 ((xs.set ((findA m x.sector).toNat) (⟨x.sector, x.kind, a_52, c_53, x.data⟩ : BEnt)).length) c1_31 ((xs.set ((findA m x.sector).toNat) (⟨x.sector, x.kind, a_52, c_53, x.data⟩ : BEnt)).flatMap encB), ShD W0 D_54, blk b1 [(Value.int .i64 x.sector), (Value.int .i64 x.kind), (Value.slice x.da x.data.length x.dc)] 48, F] w66 := sat_sel' [2, 0, 1, 3, 4] hs69 (by kernel_rfl) (by kernel_rfl)
            have hs72 : sat W0 [BufRep p (xs.set ((findA m x.sector).toNat) (⟨x.sector, x.kind, a_52, c_53, x.data⟩ : BEnt)) most size, ShD W0 D_54, blk b1 [(Value.int .i64 x.sector), (Value.int .i64 x.kind), (Value.slice x.da x.data.length x.dc)] 48, F] w66 := BufRep_close a1_30 c1_31 trivial hs71
            have hs73 : sat W0 [BufRep p (xs.set ((findA m x.sector).toNat) (⟨x.sector, x.kind, a_52, c_53, x.data⟩ : BEnt)) most size, ShD W0 D_54, F] w66 := sat_sub' [0, 1, 3] [2] hs72 (by kernel_rfl) (by kernel_rfl)
            exact ⟨(xs.set ((findA m x.sector).toNat) (⟨x.sector, x.kind, a_52, c_53, x.data⟩ : BEnt)), D_54, (congrArg (Value.int .i64) (put_set (m := m) (x := absB x) (most := most) (size := size) (by assumption) (by assumption)).1.symm), hq57, (InD.set hm62 hq58), ((abs_set hm rfl).trans (put_set (m := m) (x := absB x) (most := most) (size := size) (by assumption) (by assumption)).2.symm), hs73⟩
          exact WAs.nil
        exact WAs.nil
      · refine W.skip (Qn.then ?_)
        refine W.seq ?_
        refine W.seq ?_
        refine W.region ?_
        refine WL.cons rfl (OP.move (Value.pointer (some ⟨p, 0, none⟩)) rfl (by decide) ?_)
        have hs74 : sat W0 [BufRep p xs most size, stars [blk b1 [(Value.int .i64 x.sector), (Value.int .i64 x.kind), (Value.slice x.da x.data.length x.dc)] 48, ShD W0 D, F]] w25 := sat_pack' [BufRep p xs most size] [blk b1 [(Value.int .i64 x.sector), (Value.int .i64 x.kind), (Value.slice x.da x.data.length x.dc)] 48, ShD W0 D, F] hs28 (by kernel_rfl) (by kernel_rfl)
        have hcl77 := Buffer_Full p xs most size m (by first | assumption | omega) (by first | assumption | omega) hs74
        refine WL.cons rfl (?_)
        with_reducible refine OP.call [(Value.pointer (some ⟨p, 0, none⟩))] gf_24 ?_ ?_ hcl77 ?_
        · exact rfl
        · decide
        clear hcl77
        rintro _ w75 ⟨_, rfl, rfl, hs76⟩
        refine ⟨_, rfl, ?_⟩
        have hs78 : sat W0 [BufRep p xs most size, blk b1 [(Value.int .i64 x.sector), (Value.int .i64 x.kind), (Value.slice x.da x.data.length x.dc)] 48, ShD W0 D, F] w75 := sat_flat' [BufRep p xs most size] [blk b1 [(Value.int .i64 x.sector), (Value.int .i64 x.kind), (Value.slice x.da x.data.length x.dc)] 48, ShD W0 D, F] hs76 (by kernel_rfl) (by kernel_rfl)
        refine WL.nil (Qn.then ?_)
        refine W.iteP (p := ((m.length : Nat) : Int) = most) rfl (fun hc79 => ?_) (fun hc79 => ?_)
        · refine W.seq ?_
          refine W.region ?_
          refine WL.cons rfl (OP.assign (Value.int .i64 3) rfl (by decide) ?_)
          refine WL.nil (Qn.then ?_)
          refine W.ret (Qr.then (RetQ.of [(Value.int .i64 3)] (.inr rfl) Try.results14 (.cons (.tmp (by decide) rfl) .nil) ?_))
          have hs81 : sat W0 [BufRep p xs most size, ShD W0 D, F] w75 := sat_sub' [0, 2, 3] [1] hs78 (by kernel_rfl) (by kernel_rfl)
          exact ⟨xs, D, (congrArg (Value.int .i64) (show _ = putE most size m (absB x) from ((by first | exact put_bad (by assumption) | exact put_full (by assumption) (by assumption) (by omega)) : putE most size m (absB x) = _ ∧ putM most size m (absB x) = m).1.symm)), DSub.refl, hxs, (hm.trans ((by first | exact put_bad (by assumption) | exact put_full (by assumption) (by assumption) (by omega)) : putE most size m (absB x) = 3 ∧ putM most size m (absB x) = m).2.symm), hs81⟩
        · refine W.skip (Qn.then ?_)
          refine W.seq ?_
          obtain ⟨a1_82, c1_83, _, hs84⟩ := BufRep_open hs78
          have hs85 : sat W0 [blk p [(Value.slice a1_82 xs.length c1_83), (Value.int .i64 most), (Value.int .i64 size)] 92, SL false 3 a1_82 xs.length c1_83 (xs.flatMap encB), blk b1 [(Value.int .i64 x.sector), (Value.int .i64 x.kind), (Value.slice x.da x.data.length x.dc)] 48, ShD W0 D, F] w75 := hs84
          refine W.draw (fun w => sat W0 [blk b1 [(Value.int .i64 x.sector), (Value.int .i64 x.kind), (Value.slice x.da x.data.length x.dc)] 48, F] w) (by kernel_rfl) hs85 (fun w86 hs87 => ?_)
          refine WA.take 0 rfl rfl rfl rfl (by kernel_rfl) (by kernel_rfl) (by kernel_rfl) ?_ (by decide) (v := (Value.pointer (some ⟨p, 0, none⟩))) (fun w89 hw88 => OP.move (Value.pointer (some ⟨p, 0, none⟩)) rfl (by decide) ⟨rfl, rfl⟩) ?_
          · exact sat_sub' [2, 4] [0, 1, 3] hs87 (by kernel_rfl) (by kernel_rfl)
          refine WA.take 1 rfl rfl rfl rfl (by kernel_rfl) (by kernel_rfl) (by kernel_rfl) ?_ (by decide) (v := (Value.pointer (some ⟨p, 0, none⟩))) (fun w91 hw90 => OP.move (Value.pointer (some ⟨p, 0, none⟩)) rfl (by decide) ⟨rfl, rfl⟩) ?_
          · exact sat_sub' [2, 4] [0, 1, 3] hs87 (by kernel_rfl) (by kernel_rfl)
          refine WA.take 2 rfl rfl rfl rfl (by kernel_rfl) (by kernel_rfl) (by kernel_rfl) ?_ (by decide) (v := (Value.pointer (some ⟨p, 0, none⟩))) (fun w93 hw92 => OP.nilCheck rfl (by decide) ⟨rfl, rfl⟩) ?_
          · exact sat_sub' [2, 4] [0, 1, 3] hs87 (by kernel_rfl) (by kernel_rfl)
          refine WA.take 3 rfl rfl rfl rfl (by kernel_rfl) (by kernel_rfl) (by kernel_rfl) ?_ (by decide) (v := (Value.pointer (some ⟨p, 0, none⟩))) (fun w95 hw94 => OP.fieldAddr 0 fo_92_0 rfl rfl (by decide) ⟨rfl, rfl⟩) ?_
          · exact sat_sub' [2, 4] [0, 1, 3] hs87 (by kernel_rfl) (by kernel_rfl)
          refine WA.take 5 rfl rfl rfl rfl (by kernel_rfl) (by kernel_rfl) (by kernel_rfl) ?_ (by decide) (v := (Value.agg [(Value.int .i64 x.sector), (Value.int .i64 x.kind), (Value.slice x.da x.data.length x.dc)].toArray)) (fun w97 hw96 => OP.loadA [(Value.int .i64 x.sector), (Value.int .i64 x.kind), (Value.slice x.da x.data.length x.dc)] ag_48 sz_48 rfl (sat_rdn 0 hw96 rfl rfl) (by decide) ⟨rfl, rfl⟩) ?_
          · exact sat_sub' [2, 4] [0, 1, 3] hs87 (by kernel_rfl) (by kernel_rfl)
          refine WA.all [4, 6] (by kernel_rfl) (by simp) ?_
          refine WAs.cons (oi := (Go.Oper.mk (some 35) (Go.Op.load 44 (Go.Operand.tmp 34)) 44 "buffer.go:68" #[(Go.Edge.mk 3 Go.Ground.data)] none)) rfl rfl ?_ ?_
          · refine OP.loadS (Value.slice a1_82 xs.length c1_83) sc_44 rfl (sat_cell 0 hs87 rfl rfl) (by decide) ?_
            refine ⟨?_, ?_⟩
            · exact sat_sub' [2, 4] [0, 1, 3] hs87 (by kernel_rfl) (by kernel_rfl)
            refine WA.all [6] (by kernel_rfl) (by simp) ?_
            refine WAs.cons (oi := (Go.Oper.mk (some 37) (Go.Op.call (Go.Call.mk (Go.Callee.value (Go.Operand.func 48)) #[(Go.Operand.tmp 36)] #[48])) 48 "buffer.go:68" #[(Go.Edge.mk 5 Go.Ground.data)] none)) rfl rfl ?_ ?_
            · have hs98 : sat W0 [ShD W0 D, blk p [(Value.slice a1_82 xs.length c1_83), (Value.int .i64 most), (Value.int .i64 size)] 92, SL false 3 a1_82 xs.length c1_83 (xs.flatMap encB), blk b1 [(Value.int .i64 x.sector), (Value.int .i64 x.kind), (Value.slice x.da x.data.length x.dc)] 48, F] w86 := sat_sel' [3, 0, 1, 2, 4] hs87 (by kernel_rfl) (by kernel_rfl)
              have hs99 : sat W0 [ShD W0 D, stars [blk p [(Value.slice a1_82 xs.length c1_83), (Value.int .i64 most), (Value.int .i64 size)] 92, SL false 3 a1_82 xs.length c1_83 (xs.flatMap encB), blk b1 [(Value.int .i64 x.sector), (Value.int .i64 x.kind), (Value.slice x.da x.data.length x.dc)] 48, F]] w86 := sat_pack' [ShD W0 D] [blk p [(Value.slice a1_82 xs.length c1_83), (Value.int .i64 most), (Value.int .i64 size)] 92, SL false 3 a1_82 xs.length c1_83 (xs.flatMap encB), blk b1 [(Value.int .i64 x.sector), (Value.int .i64 x.kind), (Value.slice x.da x.data.length x.dc)] 48, F] hs98 (by kernel_rfl) (by kernel_rfl)
              have hcl107 := buffer_copied x D hx (by first | assumption | omega) hs99
              refine ?_
              with_reducible refine OP.call [(Value.agg [(Value.int .i64 x.sector), (Value.int .i64 x.kind), (Value.slice x.da x.data.length x.dc)].toArray)] gf_48 ?_ ?_ hcl107 ?_
              · exact rfl
              · decide
              clear hcl107
              rintro _ w103 ⟨_, rfl, a_100, c_101, D_102, rfl, hq105, hq106, hs104⟩
              refine ⟨_, rfl, ?_⟩
              have hs108 : sat W0 [ShD W0 D_102, blk p [(Value.slice a1_82 xs.length c1_83), (Value.int .i64 most), (Value.int .i64 size)] 92, SL false 3 a1_82 xs.length c1_83 (xs.flatMap encB), blk b1 [(Value.int .i64 x.sector), (Value.int .i64 x.kind), (Value.slice x.da x.data.length x.dc)] 48, F] w103 := sat_flat' [ShD W0 D_102] [blk p [(Value.slice a1_82 xs.length c1_83), (Value.int .i64 most), (Value.int .i64 size)] 92, SL false 3 a1_82 xs.length c1_83 (xs.flatMap encB), blk b1 [(Value.int .i64 x.sector), (Value.int .i64 x.kind), (Value.slice x.da x.data.length x.dc)] 48, F] hs104 (by kernel_rfl) (by kernel_rfl)
              have hm109 := hq105 _ hx
              have hm110 := InD.sub hxs hq105
              refine ⟨?_, ?_⟩
              · exact sat_sub' [3, 4] [0, 1, 2] hs108 (by kernel_rfl) (by kernel_rfl)
              refine WA.all [7] (by kernel_rfl) (by simp) ?_
              refine WAs.cons (oi := (Go.Oper.mk (some 38) (Go.Op.buildSlice 44 1 #[(0, (Go.Operand.tmp 37))]) 44 "buffer.go:68" #[(Go.Edge.mk 6 Go.Ground.data)] none)) rfl rfl ?_ ?_
              · refine OP.buildSlice (el := 48) [(0, (Value.agg [(Value.int .i64 x.sector), (Value.int .i64 x.kind), (Value.slice a_100 x.data.length c_101)].toArray))] [(Value.int .i64 x.sector), (Value.int .i64 x.kind), (Value.slice a_100 x.data.length c_101)] hs108 rfl (fun _ => by kernel_rfl) (by decide) (fun b111 w112 hs113 => ?_)
                have hs114 : sat W0 [SL false 3 (some ⟨b111, 0, none⟩) 1 1 ([(Value.int .i64 x.sector), (Value.int .i64 x.kind), (Value.slice a_100 x.data.length c_101)]), ShD W0 D_102, blk p [(Value.slice a1_82 xs.length c1_83), (Value.int .i64 most), (Value.int .i64 size)] 92, SL false 3 a1_82 xs.length c1_83 (xs.flatMap encB), blk b1 [(Value.int .i64 x.sector), (Value.int .i64 x.kind), (Value.slice x.da x.data.length x.dc)] 48, F] w112 := sat_SL_blk rfl hs113
                refine ⟨?_, ?_⟩
                · exact sat_sub' [4, 5] [0, 1, 2, 3] hs114 (by kernel_rfl) (by kernel_rfl)
                refine WA.all [8] (by kernel_rfl) (by simp) ?_
                refine WAs.cons (oi := (Go.Oper.mk (some 39) (Go.Op.call (Go.Call.mk (Go.Callee.builtin Go.Builtin.append) #[(Go.Operand.tmp 35), (Go.Operand.tmp 38)] #[44, 44])) 44 "buffer.go:68" #[(Go.Edge.mk 4 Go.Ground.data), (Go.Edge.mk 7 Go.Ground.data), (Go.Edge.mk 6 Go.Ground.chain)] none)) rfl rfl ?_ ?_
                · have hs115 : sat W0 [SL false 3 a1_82 xs.length c1_83 (xs.flatMap encB), SL false 3 (some ⟨b111, 0, none⟩) 1 1 ([(Value.int .i64 x.sector), (Value.int .i64 x.kind), (Value.slice a_100 x.data.length c_101)]), ShD W0 D_102, blk p [(Value.slice a1_82 xs.length c1_83), (Value.int .i64 most), (Value.int .i64 size)] 92, blk b1 [(Value.int .i64 x.sector), (Value.int .i64 x.kind), (Value.slice x.da x.data.length x.dc)] 48, F] w112 := sat_sel' [3, 0, 1, 2, 4, 5] hs114 (by kernel_rfl) (by kernel_rfl)
                  refine OP.append' (z := [(Value.int .i64 0), (Value.int .i64 0), (Value.slice none 0 0)]) ((xs ++ [(⟨x.sector, x.kind, a_100, c_101, x.data⟩ : BEnt)]).length) ((xs ++ [(⟨x.sector, x.kind, a_100, c_101, x.data⟩ : BEnt)]).flatMap encB) hs115 (Ent_sat 1 rfl Ent_SL hs115) Try.underlying44 sz_48 by_48 ze_48 rfl rfl (by simp; omega) (by simp; omega) (by simp [Value.oneCell']) rfl rfl rfl (by simp) (by simp [encB]) (by decide) (fun a116 c117 w118 hs119 => ?_)
                  have hs120 : sat W0 [SL false 3 a116 ((xs ++ [(⟨x.sector, x.kind, a_100, c_101, x.data⟩ : BEnt)]).length) c117 ((xs ++ [(⟨x.sector, x.kind, a_100, c_101, x.data⟩ : BEnt)]).flatMap encB), SL false 3 (some ⟨b111, 0, none⟩) 1 1 ([(Value.int .i64 x.sector), (Value.int .i64 x.kind), (Value.slice a_100 x.data.length c_101)]), ShD W0 D_102, blk p [(Value.slice a1_82 xs.length c1_83), (Value.int .i64 most), (Value.int .i64 size)] 92, blk b1 [(Value.int .i64 x.sector), (Value.int .i64 x.kind), (Value.slice x.da x.data.length x.dc)] 48, F] w118 := hs119
                  refine ⟨?_, ?_⟩
                  · exact sat_sub' [4, 5] [0, 1, 2, 3] hs120 (by kernel_rfl) (by kernel_rfl)
                  refine WA.take 9 rfl rfl rfl rfl (by kernel_rfl) (by kernel_rfl) (by kernel_rfl) ?_ (by decide) (v := (Value.pointer (some ⟨p, 0, none⟩))) (fun w122 hw121 => OP.nilCheck rfl (by decide) ⟨rfl, rfl⟩) ?_
                  · exact sat_sub' [4, 5] [0, 1, 2, 3] hs120 (by kernel_rfl) (by kernel_rfl)
                  refine WA.take 10 rfl rfl rfl rfl (by kernel_rfl) (by kernel_rfl) (by kernel_rfl) ?_ (by decide) (v := (Value.pointer (some ⟨p, 0, none⟩))) (fun w124 hw123 => OP.fieldAddr 0 fo_92_0 rfl rfl (by decide) ⟨rfl, rfl⟩) ?_
                  · exact sat_sub' [4, 5] [0, 1, 2, 3] hs120 (by kernel_rfl) (by kernel_rfl)
                  refine WA.all [11] (by kernel_rfl) (by simp) ?_
                  refine WAs.cons (oi := (Go.Oper.mk none (Go.Op.store 44 (Go.Operand.tmp 41) (Go.Operand.tmp 39)) 0 "buffer.go:68" #[(Go.Edge.mk 10 Go.Ground.data), (Go.Edge.mk 8 Go.Ground.data), (Go.Edge.mk 8 Go.Ground.chain), (Go.Edge.mk 0 Go.Ground.phase), (Go.Edge.mk 1 Go.Ground.phase), (Go.Edge.mk 2 Go.Ground.phase), (Go.Edge.mk 3 Go.Ground.phase), (Go.Edge.mk 4 Go.Ground.phase), (Go.Edge.mk 5 Go.Ground.phase), (Go.Edge.mk 6 Go.Ground.phase), (Go.Edge.mk 7 Go.Ground.phase), (Go.Edge.mk 8 Go.Ground.phase)] none)) rfl rfl ?_ ?_
                  · have hs125 : sat W0 [blk p [(Value.slice a1_82 xs.length c1_83), (Value.int .i64 most), (Value.int .i64 size)] 92, SL false 3 a116 ((xs ++ [(⟨x.sector, x.kind, a_100, c_101, x.data⟩ : BEnt)]).length) c117 ((xs ++ [(⟨x.sector, x.kind, a_100, c_101, x.data⟩ : BEnt)]).flatMap encB), SL false 3 (some ⟨b111, 0, none⟩) 1 1 ([(Value.int .i64 x.sector), (Value.int .i64 x.kind), (Value.slice a_100 x.data.length c_101)]), ShD W0 D_102, blk b1 [(Value.int .i64 x.sector), (Value.int .i64 x.kind), (Value.slice x.da x.data.length x.dc)] 48, F] w118 := sat_sel' [3, 0, 1, 2, 4, 5] hs120 (by kernel_rfl) (by kernel_rfl)
                    refine OP.store (Value.slice a116 ((xs ++ [(⟨x.sector, x.kind, a_100, c_101, x.data⟩ : BEnt)]).length) c117) [(Value.slice a116 ((xs ++ [(⟨x.sector, x.kind, a_100, c_101, x.data⟩ : BEnt)]).length) c117)] hs125 rfl rfl rfl sz_44 rfl (by rfl) (by simp) (fun w126 hs127 => ?_)
                    have hs128 : sat W0 [blk p [(Value.slice a116 ((xs ++ [(⟨x.sector, x.kind, a_100, c_101, x.data⟩ : BEnt)]).length) c117), (Value.int .i64 most), (Value.int .i64 size)] 92, SL false 3 a116 ((xs ++ [(⟨x.sector, x.kind, a_100, c_101, x.data⟩ : BEnt)]).length) c117 ((xs ++ [(⟨x.sector, x.kind, a_100, c_101, x.data⟩ : BEnt)]).flatMap encB), SL false 3 (some ⟨b111, 0, none⟩) 1 1 ([(Value.int .i64 x.sector), (Value.int .i64 x.kind), (Value.slice a_100 x.data.length c_101)]), ShD W0 D_102, blk b1 [(Value.int .i64 x.sector), (Value.int .i64 x.kind), (Value.slice x.da x.data.length x.dc)] 48, F] w126 := hs127
                    refine ⟨?_, ?_⟩
                    · exact sat_sub' [4, 5] [0, 1, 2, 3] hs128 (by kernel_rfl) (by kernel_rfl)
                    refine WA.done (by kernel_rfl) ?_
                    refine (Qn.then ?_)
                    refine W.seq ?_
                    refine W.region ?_
                    refine WL.cons rfl (OP.assign (Value.int .i64 0) rfl (by decide) ?_)
                    refine WL.nil (Qn.then ?_)
                    refine W.ret (RetQ.of [(Value.int .i64 0)] (.inr rfl) Try.results14 (.cons (.tmp (by decide) rfl) .nil) ?_)
                    have hs130 : sat W0 [BufRep p (xs ++ [(⟨x.sector, x.kind, a_100, c_101, x.data⟩ : BEnt)]) most size, SL false 3 (some ⟨b111, 0, none⟩) 1 1 ([(Value.int .i64 x.sector), (Value.int .i64 x.kind), (Value.slice a_100 x.data.length c_101)]), ShD W0 D_102, blk b1 [(Value.int .i64 x.sector), (Value.int .i64 x.kind), (Value.slice x.da x.data.length x.dc)] 48, F] w126 := BufRep_close a116 c117 trivial hs128
                    have hs131 : sat W0 [BufRep p (xs ++ [(⟨x.sector, x.kind, a_100, c_101, x.data⟩ : BEnt)]) most size, ShD W0 D_102, F] w126 := sat_sub' [0, 2, 4] [1, 3] hs130 (by kernel_rfl) (by kernel_rfl)
                    exact ⟨(xs ++ [(⟨x.sector, x.kind, a_100, c_101, x.data⟩ : BEnt)]), D_102, (congrArg (Value.int .i64) (put_new (m := m) (x := absB x) (most := most) (size := size) (by assumption) (by assumption) (by omega)).1.symm), hq105, (InD.snoc hm110 hq106), ((abs_snoc hm rfl).trans (put_new (m := m) (x := absB x) (most := most) (size := size) (by assumption) (by assumption) (by omega)).2.symm), hs131⟩
                  exact WAs.nil
                exact WAs.nil
              exact WAs.nil
            exact WAs.nil
          refine WAs.cons (oi := (Go.Oper.mk (some 37) (Go.Op.call (Go.Call.mk (Go.Callee.value (Go.Operand.func 48)) #[(Go.Operand.tmp 36)] #[48])) 48 "buffer.go:68" #[(Go.Edge.mk 5 Go.Ground.data)] none)) rfl rfl ?_ ?_
          · have hs132 : sat W0 [ShD W0 D, blk p [(Value.slice a1_82 xs.length c1_83), (Value.int .i64 most), (Value.int .i64 size)] 92, SL false 3 a1_82 xs.length c1_83 (xs.flatMap encB), blk b1 [(Value.int .i64 x.sector), (Value.int .i64 x.kind), (Value.slice x.da x.data.length x.dc)] 48, F] w86 := sat_sel' [3, 0, 1, 2, 4] hs87 (by kernel_rfl) (by kernel_rfl)
            have hs133 : sat W0 [ShD W0 D, stars [blk p [(Value.slice a1_82 xs.length c1_83), (Value.int .i64 most), (Value.int .i64 size)] 92, SL false 3 a1_82 xs.length c1_83 (xs.flatMap encB), blk b1 [(Value.int .i64 x.sector), (Value.int .i64 x.kind), (Value.slice x.da x.data.length x.dc)] 48, F]] w86 := sat_pack' [ShD W0 D] [blk p [(Value.slice a1_82 xs.length c1_83), (Value.int .i64 most), (Value.int .i64 size)] 92, SL false 3 a1_82 xs.length c1_83 (xs.flatMap encB), blk b1 [(Value.int .i64 x.sector), (Value.int .i64 x.kind), (Value.slice x.da x.data.length x.dc)] 48, F] hs132 (by kernel_rfl) (by kernel_rfl)
            have hcl141 := buffer_copied x D hx (by first | assumption | omega) hs133
            refine ?_
            with_reducible refine OP.call [(Value.agg [(Value.int .i64 x.sector), (Value.int .i64 x.kind), (Value.slice x.da x.data.length x.dc)].toArray)] gf_48 ?_ ?_ hcl141 ?_
            · exact rfl
            · decide
            clear hcl141
            rintro _ w137 ⟨_, rfl, a_134, c_135, D_136, rfl, hq139, hq140, hs138⟩
            refine ⟨_, rfl, ?_⟩
            have hs142 : sat W0 [ShD W0 D_136, blk p [(Value.slice a1_82 xs.length c1_83), (Value.int .i64 most), (Value.int .i64 size)] 92, SL false 3 a1_82 xs.length c1_83 (xs.flatMap encB), blk b1 [(Value.int .i64 x.sector), (Value.int .i64 x.kind), (Value.slice x.da x.data.length x.dc)] 48, F] w137 := sat_flat' [ShD W0 D_136] [blk p [(Value.slice a1_82 xs.length c1_83), (Value.int .i64 most), (Value.int .i64 size)] 92, SL false 3 a1_82 xs.length c1_83 (xs.flatMap encB), blk b1 [(Value.int .i64 x.sector), (Value.int .i64 x.kind), (Value.slice x.da x.data.length x.dc)] 48, F] hs138 (by kernel_rfl) (by kernel_rfl)
            have hm143 := hq139 _ hx
            have hm144 := InD.sub hxs hq139
            refine ⟨?_, ?_⟩
            · exact sat_sub' [3, 4] [0, 1, 2] hs142 (by kernel_rfl) (by kernel_rfl)
            refine WA.all [4, 7] (by kernel_rfl) (by simp) ?_
            refine WAs.cons (oi := (Go.Oper.mk (some 35) (Go.Op.load 44 (Go.Operand.tmp 34)) 44 "buffer.go:68" #[(Go.Edge.mk 3 Go.Ground.data)] none)) rfl rfl ?_ ?_
            · refine OP.loadS (Value.slice a1_82 xs.length c1_83) sc_44 rfl (sat_cell 1 hs142 rfl rfl) (by decide) ?_
              refine ⟨?_, ?_⟩
              · exact sat_sub' [3, 4] [0, 1, 2] hs142 (by kernel_rfl) (by kernel_rfl)
              refine WA.all [7] (by kernel_rfl) (by simp) ?_
              refine WAs.cons (oi := (Go.Oper.mk (some 38) (Go.Op.buildSlice 44 1 #[(0, (Go.Operand.tmp 37))]) 44 "buffer.go:68" #[(Go.Edge.mk 6 Go.Ground.data)] none)) rfl rfl ?_ ?_
              · refine OP.buildSlice (el := 48) [(0, (Value.agg [(Value.int .i64 x.sector), (Value.int .i64 x.kind), (Value.slice a_134 x.data.length c_135)].toArray))] [(Value.int .i64 x.sector), (Value.int .i64 x.kind), (Value.slice a_134 x.data.length c_135)] hs142 rfl (fun _ => by kernel_rfl) (by decide) (fun b145 w146 hs147 => ?_)
                have hs148 : sat W0 [SL false 3 (some ⟨b145, 0, none⟩) 1 1 ([(Value.int .i64 x.sector), (Value.int .i64 x.kind), (Value.slice a_134 x.data.length c_135)]), ShD W0 D_136, blk p [(Value.slice a1_82 xs.length c1_83), (Value.int .i64 most), (Value.int .i64 size)] 92, SL false 3 a1_82 xs.length c1_83 (xs.flatMap encB), blk b1 [(Value.int .i64 x.sector), (Value.int .i64 x.kind), (Value.slice x.da x.data.length x.dc)] 48, F] w146 := sat_SL_blk rfl hs147
                refine ⟨?_, ?_⟩
                · exact sat_sub' [4, 5] [0, 1, 2, 3] hs148 (by kernel_rfl) (by kernel_rfl)
                refine WA.all [8] (by kernel_rfl) (by simp) ?_
                refine WAs.cons (oi := (Go.Oper.mk (some 39) (Go.Op.call (Go.Call.mk (Go.Callee.builtin Go.Builtin.append) #[(Go.Operand.tmp 35), (Go.Operand.tmp 38)] #[44, 44])) 44 "buffer.go:68" #[(Go.Edge.mk 4 Go.Ground.data), (Go.Edge.mk 7 Go.Ground.data), (Go.Edge.mk 6 Go.Ground.chain)] none)) rfl rfl ?_ ?_
                · have hs149 : sat W0 [SL false 3 a1_82 xs.length c1_83 (xs.flatMap encB), SL false 3 (some ⟨b145, 0, none⟩) 1 1 ([(Value.int .i64 x.sector), (Value.int .i64 x.kind), (Value.slice a_134 x.data.length c_135)]), ShD W0 D_136, blk p [(Value.slice a1_82 xs.length c1_83), (Value.int .i64 most), (Value.int .i64 size)] 92, blk b1 [(Value.int .i64 x.sector), (Value.int .i64 x.kind), (Value.slice x.da x.data.length x.dc)] 48, F] w146 := sat_sel' [3, 0, 1, 2, 4, 5] hs148 (by kernel_rfl) (by kernel_rfl)
                  refine OP.append' (z := [(Value.int .i64 0), (Value.int .i64 0), (Value.slice none 0 0)]) ((xs ++ [(⟨x.sector, x.kind, a_134, c_135, x.data⟩ : BEnt)]).length) ((xs ++ [(⟨x.sector, x.kind, a_134, c_135, x.data⟩ : BEnt)]).flatMap encB) hs149 (Ent_sat 1 rfl Ent_SL hs149) Try.underlying44 sz_48 by_48 ze_48 rfl rfl (by simp; omega) (by simp; omega) (by simp [Value.oneCell']) rfl rfl rfl (by simp) (by simp [encB]) (by decide) (fun a150 c151 w152 hs153 => ?_)
                  have hs154 : sat W0 [SL false 3 a150 ((xs ++ [(⟨x.sector, x.kind, a_134, c_135, x.data⟩ : BEnt)]).length) c151 ((xs ++ [(⟨x.sector, x.kind, a_134, c_135, x.data⟩ : BEnt)]).flatMap encB), SL false 3 (some ⟨b145, 0, none⟩) 1 1 ([(Value.int .i64 x.sector), (Value.int .i64 x.kind), (Value.slice a_134 x.data.length c_135)]), ShD W0 D_136, blk p [(Value.slice a1_82 xs.length c1_83), (Value.int .i64 most), (Value.int .i64 size)] 92, blk b1 [(Value.int .i64 x.sector), (Value.int .i64 x.kind), (Value.slice x.da x.data.length x.dc)] 48, F] w152 := hs153
                  refine ⟨?_, ?_⟩
                  · exact sat_sub' [4, 5] [0, 1, 2, 3] hs154 (by kernel_rfl) (by kernel_rfl)
                  refine WA.take 9 rfl rfl rfl rfl (by kernel_rfl) (by kernel_rfl) (by kernel_rfl) ?_ (by decide) (v := (Value.pointer (some ⟨p, 0, none⟩))) (fun w156 hw155 => OP.nilCheck rfl (by decide) ⟨rfl, rfl⟩) ?_
                  · exact sat_sub' [4, 5] [0, 1, 2, 3] hs154 (by kernel_rfl) (by kernel_rfl)
                  refine WA.take 10 rfl rfl rfl rfl (by kernel_rfl) (by kernel_rfl) (by kernel_rfl) ?_ (by decide) (v := (Value.pointer (some ⟨p, 0, none⟩))) (fun w158 hw157 => OP.fieldAddr 0 fo_92_0 rfl rfl (by decide) ⟨rfl, rfl⟩) ?_
                  · exact sat_sub' [4, 5] [0, 1, 2, 3] hs154 (by kernel_rfl) (by kernel_rfl)
                  refine WA.all [11] (by kernel_rfl) (by simp) ?_
                  refine WAs.cons (oi := (Go.Oper.mk none (Go.Op.store 44 (Go.Operand.tmp 41) (Go.Operand.tmp 39)) 0 "buffer.go:68" #[(Go.Edge.mk 10 Go.Ground.data), (Go.Edge.mk 8 Go.Ground.data), (Go.Edge.mk 8 Go.Ground.chain), (Go.Edge.mk 0 Go.Ground.phase), (Go.Edge.mk 1 Go.Ground.phase), (Go.Edge.mk 2 Go.Ground.phase), (Go.Edge.mk 3 Go.Ground.phase), (Go.Edge.mk 4 Go.Ground.phase), (Go.Edge.mk 5 Go.Ground.phase), (Go.Edge.mk 6 Go.Ground.phase), (Go.Edge.mk 7 Go.Ground.phase), (Go.Edge.mk 8 Go.Ground.phase)] none)) rfl rfl ?_ ?_
                  · have hs159 : sat W0 [blk p [(Value.slice a1_82 xs.length c1_83), (Value.int .i64 most), (Value.int .i64 size)] 92, SL false 3 a150 ((xs ++ [(⟨x.sector, x.kind, a_134, c_135, x.data⟩ : BEnt)]).length) c151 ((xs ++ [(⟨x.sector, x.kind, a_134, c_135, x.data⟩ : BEnt)]).flatMap encB), SL false 3 (some ⟨b145, 0, none⟩) 1 1 ([(Value.int .i64 x.sector), (Value.int .i64 x.kind), (Value.slice a_134 x.data.length c_135)]), ShD W0 D_136, blk b1 [(Value.int .i64 x.sector), (Value.int .i64 x.kind), (Value.slice x.da x.data.length x.dc)] 48, F] w152 := sat_sel' [3, 0, 1, 2, 4, 5] hs154 (by kernel_rfl) (by kernel_rfl)
                    refine OP.store (Value.slice a150 ((xs ++ [(⟨x.sector, x.kind, a_134, c_135, x.data⟩ : BEnt)]).length) c151) [(Value.slice a150 ((xs ++ [(⟨x.sector, x.kind, a_134, c_135, x.data⟩ : BEnt)]).length) c151)] hs159 rfl rfl rfl sz_44 rfl (by rfl) (by simp) (fun w160 hs161 => ?_)
                    have hs162 : sat W0 [blk p [(Value.slice a150 ((xs ++ [(⟨x.sector, x.kind, a_134, c_135, x.data⟩ : BEnt)]).length) c151), (Value.int .i64 most), (Value.int .i64 size)] 92, SL false 3 a150 ((xs ++ [(⟨x.sector, x.kind, a_134, c_135, x.data⟩ : BEnt)]).length) c151 ((xs ++ [(⟨x.sector, x.kind, a_134, c_135, x.data⟩ : BEnt)]).flatMap encB), SL false 3 (some ⟨b145, 0, none⟩) 1 1 ([(Value.int .i64 x.sector), (Value.int .i64 x.kind), (Value.slice a_134 x.data.length c_135)]), ShD W0 D_136, blk b1 [(Value.int .i64 x.sector), (Value.int .i64 x.kind), (Value.slice x.da x.data.length x.dc)] 48, F] w160 := hs161
                    refine ⟨?_, ?_⟩
                    · exact sat_sub' [4, 5] [0, 1, 2, 3] hs162 (by kernel_rfl) (by kernel_rfl)
                    refine WA.done (by kernel_rfl) ?_
                    refine (Qn.then ?_)
                    refine W.seq ?_
                    refine W.region ?_
                    refine WL.cons rfl (OP.assign (Value.int .i64 0) rfl (by decide) ?_)
                    refine WL.nil (Qn.then ?_)
                    refine W.ret (RetQ.of [(Value.int .i64 0)] (.inr rfl) Try.results14 (.cons (.tmp (by decide) rfl) .nil) ?_)
                    have hs164 : sat W0 [BufRep p (xs ++ [(⟨x.sector, x.kind, a_134, c_135, x.data⟩ : BEnt)]) most size, SL false 3 (some ⟨b145, 0, none⟩) 1 1 ([(Value.int .i64 x.sector), (Value.int .i64 x.kind), (Value.slice a_134 x.data.length c_135)]), ShD W0 D_136, blk b1 [(Value.int .i64 x.sector), (Value.int .i64 x.kind), (Value.slice x.da x.data.length x.dc)] 48, F] w160 := BufRep_close a150 c151 trivial hs162
                    have hs165 : sat W0 [BufRep p (xs ++ [(⟨x.sector, x.kind, a_134, c_135, x.data⟩ : BEnt)]) most size, ShD W0 D_136, F] w160 := sat_sub' [0, 2, 4] [1, 3] hs164 (by kernel_rfl) (by kernel_rfl)
                    exact ⟨(xs ++ [(⟨x.sector, x.kind, a_134, c_135, x.data⟩ : BEnt)]), D_136, (congrArg (Value.int .i64) (put_new (m := m) (x := absB x) (most := most) (size := size) (by assumption) (by assumption) (by omega)).1.symm), hq139, (InD.snoc hm144 hq140), ((abs_snoc hm rfl).trans (put_new (m := m) (x := absB x) (most := most) (size := size) (by assumption) (by assumption) (by omega)).2.symm), hs165⟩
                  exact WAs.nil
                exact WAs.nil
              exact WAs.nil
            refine WAs.cons (oi := (Go.Oper.mk (some 38) (Go.Op.buildSlice 44 1 #[(0, (Go.Operand.tmp 37))]) 44 "buffer.go:68" #[(Go.Edge.mk 6 Go.Ground.data)] none)) rfl rfl ?_ ?_
            · refine OP.buildSlice (el := 48) [(0, (Value.agg [(Value.int .i64 x.sector), (Value.int .i64 x.kind), (Value.slice a_134 x.data.length c_135)].toArray))] [(Value.int .i64 x.sector), (Value.int .i64 x.kind), (Value.slice a_134 x.data.length c_135)] hs142 rfl (fun _ => by kernel_rfl) (by decide) (fun b166 w167 hs168 => ?_)
              have hs169 : sat W0 [SL false 3 (some ⟨b166, 0, none⟩) 1 1 ([(Value.int .i64 x.sector), (Value.int .i64 x.kind), (Value.slice a_134 x.data.length c_135)]), ShD W0 D_136, blk p [(Value.slice a1_82 xs.length c1_83), (Value.int .i64 most), (Value.int .i64 size)] 92, SL false 3 a1_82 xs.length c1_83 (xs.flatMap encB), blk b1 [(Value.int .i64 x.sector), (Value.int .i64 x.kind), (Value.slice x.da x.data.length x.dc)] 48, F] w167 := sat_SL_blk rfl hs168
              refine ⟨?_, ?_⟩
              · exact sat_sub' [4, 5] [0, 1, 2, 3] hs169 (by kernel_rfl) (by kernel_rfl)
              refine WA.all [4] (by kernel_rfl) (by simp) ?_
              refine WAs.cons (oi := (Go.Oper.mk (some 35) (Go.Op.load 44 (Go.Operand.tmp 34)) 44 "buffer.go:68" #[(Go.Edge.mk 3 Go.Ground.data)] none)) rfl rfl ?_ ?_
              · refine OP.loadS (Value.slice a1_82 xs.length c1_83) sc_44 rfl (sat_cell 2 hs169 rfl rfl) (by decide) ?_
                refine ⟨?_, ?_⟩
                · exact sat_sub' [4, 5] [0, 1, 2, 3] hs169 (by kernel_rfl) (by kernel_rfl)
                refine WA.all [8] (by kernel_rfl) (by simp) ?_
                refine WAs.cons (oi := (Go.Oper.mk (some 39) (Go.Op.call (Go.Call.mk (Go.Callee.builtin Go.Builtin.append) #[(Go.Operand.tmp 35), (Go.Operand.tmp 38)] #[44, 44])) 44 "buffer.go:68" #[(Go.Edge.mk 4 Go.Ground.data), (Go.Edge.mk 7 Go.Ground.data), (Go.Edge.mk 6 Go.Ground.chain)] none)) rfl rfl ?_ ?_
                · have hs170 : sat W0 [SL false 3 a1_82 xs.length c1_83 (xs.flatMap encB), SL false 3 (some ⟨b166, 0, none⟩) 1 1 ([(Value.int .i64 x.sector), (Value.int .i64 x.kind), (Value.slice a_134 x.data.length c_135)]), ShD W0 D_136, blk p [(Value.slice a1_82 xs.length c1_83), (Value.int .i64 most), (Value.int .i64 size)] 92, blk b1 [(Value.int .i64 x.sector), (Value.int .i64 x.kind), (Value.slice x.da x.data.length x.dc)] 48, F] w167 := sat_sel' [3, 0, 1, 2, 4, 5] hs169 (by kernel_rfl) (by kernel_rfl)
                  refine OP.append' (z := [(Value.int .i64 0), (Value.int .i64 0), (Value.slice none 0 0)]) ((xs ++ [(⟨x.sector, x.kind, a_134, c_135, x.data⟩ : BEnt)]).length) ((xs ++ [(⟨x.sector, x.kind, a_134, c_135, x.data⟩ : BEnt)]).flatMap encB) hs170 (Ent_sat 1 rfl Ent_SL hs170) Try.underlying44 sz_48 by_48 ze_48 rfl rfl (by simp; omega) (by simp; omega) (by simp [Value.oneCell']) rfl rfl rfl (by simp) (by simp [encB]) (by decide) (fun a171 c172 w173 hs174 => ?_)
                  have hs175 : sat W0 [SL false 3 a171 ((xs ++ [(⟨x.sector, x.kind, a_134, c_135, x.data⟩ : BEnt)]).length) c172 ((xs ++ [(⟨x.sector, x.kind, a_134, c_135, x.data⟩ : BEnt)]).flatMap encB), SL false 3 (some ⟨b166, 0, none⟩) 1 1 ([(Value.int .i64 x.sector), (Value.int .i64 x.kind), (Value.slice a_134 x.data.length c_135)]), ShD W0 D_136, blk p [(Value.slice a1_82 xs.length c1_83), (Value.int .i64 most), (Value.int .i64 size)] 92, blk b1 [(Value.int .i64 x.sector), (Value.int .i64 x.kind), (Value.slice x.da x.data.length x.dc)] 48, F] w173 := hs174
                  refine ⟨?_, ?_⟩
                  · exact sat_sub' [4, 5] [0, 1, 2, 3] hs175 (by kernel_rfl) (by kernel_rfl)
                  refine WA.take 9 rfl rfl rfl rfl (by kernel_rfl) (by kernel_rfl) (by kernel_rfl) ?_ (by decide) (v := (Value.pointer (some ⟨p, 0, none⟩))) (fun w177 hw176 => OP.nilCheck rfl (by decide) ⟨rfl, rfl⟩) ?_
                  · exact sat_sub' [4, 5] [0, 1, 2, 3] hs175 (by kernel_rfl) (by kernel_rfl)
                  refine WA.take 10 rfl rfl rfl rfl (by kernel_rfl) (by kernel_rfl) (by kernel_rfl) ?_ (by decide) (v := (Value.pointer (some ⟨p, 0, none⟩))) (fun w179 hw178 => OP.fieldAddr 0 fo_92_0 rfl rfl (by decide) ⟨rfl, rfl⟩) ?_
                  · exact sat_sub' [4, 5] [0, 1, 2, 3] hs175 (by kernel_rfl) (by kernel_rfl)
                  refine WA.all [11] (by kernel_rfl) (by simp) ?_
                  refine WAs.cons (oi := (Go.Oper.mk none (Go.Op.store 44 (Go.Operand.tmp 41) (Go.Operand.tmp 39)) 0 "buffer.go:68" #[(Go.Edge.mk 10 Go.Ground.data), (Go.Edge.mk 8 Go.Ground.data), (Go.Edge.mk 8 Go.Ground.chain), (Go.Edge.mk 0 Go.Ground.phase), (Go.Edge.mk 1 Go.Ground.phase), (Go.Edge.mk 2 Go.Ground.phase), (Go.Edge.mk 3 Go.Ground.phase), (Go.Edge.mk 4 Go.Ground.phase), (Go.Edge.mk 5 Go.Ground.phase), (Go.Edge.mk 6 Go.Ground.phase), (Go.Edge.mk 7 Go.Ground.phase), (Go.Edge.mk 8 Go.Ground.phase)] none)) rfl rfl ?_ ?_
                  · have hs180 : sat W0 [blk p [(Value.slice a1_82 xs.length c1_83), (Value.int .i64 most), (Value.int .i64 size)] 92, SL false 3 a171 ((xs ++ [(⟨x.sector, x.kind, a_134, c_135, x.data⟩ : BEnt)]).length) c172 ((xs ++ [(⟨x.sector, x.kind, a_134, c_135, x.data⟩ : BEnt)]).flatMap encB), SL false 3 (some ⟨b166, 0, none⟩) 1 1 ([(Value.int .i64 x.sector), (Value.int .i64 x.kind), (Value.slice a_134 x.data.length c_135)]), ShD W0 D_136, blk b1 [(Value.int .i64 x.sector), (Value.int .i64 x.kind), (Value.slice x.da x.data.length x.dc)] 48, F] w173 := sat_sel' [3, 0, 1, 2, 4, 5] hs175 (by kernel_rfl) (by kernel_rfl)
                    refine OP.store (Value.slice a171 ((xs ++ [(⟨x.sector, x.kind, a_134, c_135, x.data⟩ : BEnt)]).length) c172) [(Value.slice a171 ((xs ++ [(⟨x.sector, x.kind, a_134, c_135, x.data⟩ : BEnt)]).length) c172)] hs180 rfl rfl rfl sz_44 rfl (by rfl) (by simp) (fun w181 hs182 => ?_)
                    have hs183 : sat W0 [blk p [(Value.slice a171 ((xs ++ [(⟨x.sector, x.kind, a_134, c_135, x.data⟩ : BEnt)]).length) c172), (Value.int .i64 most), (Value.int .i64 size)] 92, SL false 3 a171 ((xs ++ [(⟨x.sector, x.kind, a_134, c_135, x.data⟩ : BEnt)]).length) c172 ((xs ++ [(⟨x.sector, x.kind, a_134, c_135, x.data⟩ : BEnt)]).flatMap encB), SL false 3 (some ⟨b166, 0, none⟩) 1 1 ([(Value.int .i64 x.sector), (Value.int .i64 x.kind), (Value.slice a_134 x.data.length c_135)]), ShD W0 D_136, blk b1 [(Value.int .i64 x.sector), (Value.int .i64 x.kind), (Value.slice x.da x.data.length x.dc)] 48, F] w181 := hs182
                    refine ⟨?_, ?_⟩
                    · exact sat_sub' [4, 5] [0, 1, 2, 3] hs183 (by kernel_rfl) (by kernel_rfl)
                    refine WA.done (by kernel_rfl) ?_
                    refine (Qn.then ?_)
                    refine W.seq ?_
                    refine W.region ?_
                    refine WL.cons rfl (OP.assign (Value.int .i64 0) rfl (by decide) ?_)
                    refine WL.nil (Qn.then ?_)
                    refine W.ret (RetQ.of [(Value.int .i64 0)] (.inr rfl) Try.results14 (.cons (.tmp (by decide) rfl) .nil) ?_)
                    have hs185 : sat W0 [BufRep p (xs ++ [(⟨x.sector, x.kind, a_134, c_135, x.data⟩ : BEnt)]) most size, SL false 3 (some ⟨b166, 0, none⟩) 1 1 ([(Value.int .i64 x.sector), (Value.int .i64 x.kind), (Value.slice a_134 x.data.length c_135)]), ShD W0 D_136, blk b1 [(Value.int .i64 x.sector), (Value.int .i64 x.kind), (Value.slice x.da x.data.length x.dc)] 48, F] w181 := BufRep_close a171 c172 trivial hs183
                    have hs186 : sat W0 [BufRep p (xs ++ [(⟨x.sector, x.kind, a_134, c_135, x.data⟩ : BEnt)]) most size, ShD W0 D_136, F] w181 := sat_sub' [0, 2, 4] [1, 3] hs185 (by kernel_rfl) (by kernel_rfl)
                    exact ⟨(xs ++ [(⟨x.sector, x.kind, a_134, c_135, x.data⟩ : BEnt)]), D_136, (congrArg (Value.int .i64) (put_new (m := m) (x := absB x) (most := most) (size := size) (by assumption) (by assumption) (by omega)).1.symm), hq139, (InD.snoc hm144 hq140), ((abs_snoc hm rfl).trans (put_new (m := m) (x := absB x) (most := most) (size := size) (by assumption) (by assumption) (by omega)).2.symm), hs186⟩
                  exact WAs.nil
                exact WAs.nil
              exact WAs.nil
            exact WAs.nil
          exact WAs.nil

end Go.Proofs.Ytleolejhkdolpaa
