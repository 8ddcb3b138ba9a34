import Derived.Test.YtleolejhkdolpaaC2
import Derived.KernelRfl
set_option linter.unusedVariables false
set_option linter.unusedSimpArgs false
set_option maxRecDepth 100000
set_option maxHeartbeats 4000000
namespace Go.Proofs.Ytleolejhkdolpaa
open Go Go.RowKit Sv
theorem Ref_Find {W0 : World} {F : HProp} {w : World}  (p : Nat) (xs : List BEnt) (most : Int) (size : Int) (m : List AEnt) (v : Int) (hm : xs.map absB = m) (hn : xs.length ≤ 1099511627) 
    (hs : sat W0 [RefRep p xs most size, F] w) :
    Calls Try.prog 18 ([(Value.pointer (some ⟨p, 0, none⟩)), (Value.int .i64 v)] : List Value).toArray w (fun x_ w' => ∃ v_, x_ = .returned v_ ∧ (v_ = (Value.int .i64 (findA m v)) ∧ sat W0 [RefRep p xs most size, F] w')) := by
  refine W.enter Try.func18 rfl Try.ntmps18 (by simp) ?_
  refine W.seq ?_
  refine W.region ?_
  refine WL.cons rfl (OP.assign (Value.int .i64 0) rfl (by decide) ?_)
  refine WL.nil (Qn.then ?_)
  refine W.seq ?_
  refine W.seq ?_
  refine W.region ?_
  refine WL.cons rfl (OP.assign (Value.int .i64 0) rfl (by decide) ?_)
  refine WL.nil (Qn.then ?_)
  refine W.block ?_
  refine W.loop (fun n_ e_ w_ => ∃ k : Nat, n_ = xs.length - k ∧ e_ 0 = (Value.pointer (some ⟨p, 0, none⟩)) ∧ e_ 1 = (Value.int .i64 v) ∧ e_ 5 = (Value.int .i64 ((k : Nat) : Int)) ∧ k ≤ xs.length ∧ (xs.take k).any (fun x => decide (x.sector = v)) = false ∧ sat W0 [RefRep p xs most size, F] w_) (xs.length - 0) ⟨0, rfl, rfl, rfl, (Eq.trans (b := (Value.int .i64 0)) rfl (congrArg (Value.int .i64) (by first | rfl | omega | simp | (simp; omega)))), (by omega), (by simp), hs⟩ ?_
  rintro n1 e2 w3 ⟨k, hn5, he6, he7, he8, hp9, hp10, hs4⟩
  refine W.seq ?_
  refine W.seq ?_
  refine W.region ?_
  refine WL.cons rfl (OP.move (Value.int .i64 ((k : Nat) : Int)) he8 (by decide) ?_)
  refine WL.cons rfl (OP.move (Value.pointer (some ⟨p, 0, none⟩)) he6 (by decide) ?_)
  refine WL.cons rfl (OP.nilCheck rfl (by decide) ?_)
  refine WL.cons rfl (OP.fieldAddr 0 fo_46_0 rfl rfl (by decide) ?_)
  obtain ⟨a1_11, c1_12, _, hs13⟩ := RefRep_open hs4
  have hs14 : sat W0 [blk p [(Value.slice a1_11 xs.length c1_12), (Value.int .i64 most), (Value.int .i64 size)] 46, SL false 3 a1_11 xs.length c1_12 (xs.flatMap encB), F] w3 := hs13
  refine WL.cons rfl (OP.loadS (Value.slice a1_11 xs.length c1_12) sc_44 rfl (sat_cell 0 hs14 rfl rfl) (by decide) ?_)
  refine WL.cons rfl (OP.len Try.underlying44 rfl rfl (by decide) ?_)
  refine WL.cons rfl (OP.lss rfl rfl (by decide) ?_)
  refine WL.nil (Qn.then ?_)
  refine W.iteP (p := ((k : Nat) : Int) < ((xs.length : Nat) : Int)) rfl (fun hc15 => ?_) (fun hc15 => ?_)
  · refine W.skip (Qn.then ?_)
    refine W.seq ?_
    refine W.block ?_
    refine W.seq ?_
    refine W.region ?_
    refine WL.cons rfl (OP.move (Value.pointer (some ⟨p, 0, none⟩)) he6 (by decide) ?_)
    refine WL.cons rfl (OP.nilCheck rfl (by decide) ?_)
    refine WL.cons rfl (OP.fieldAddr 0 fo_46_0 rfl rfl (by decide) ?_)
    refine WL.cons rfl (OP.loadS (Value.slice a1_11 xs.length c1_12) sc_44 rfl (sat_cell 0 hs14 rfl rfl) (by decide) ?_)
    refine WL.cons rfl (OP.move (Value.int .i64 ((k : Nat) : Int)) he8 (by decide) ?_)
    have hi20_ : k < xs.length := by omega
    refine WL.cons rfl (OP.indexR k (Ent_sat 1 rfl Ent_SL hs14) Try.underlying44 sz_48 rfl rfl rfl hi20_ (by decide) ?_)
    refine WL.cons rfl (OP.fieldAddrR fo_48_0 rfl (by decide) ?_)
    refine WL.cons rfl (OP.loadSR (Value.int .i64 ((xs.getD k default).sector)) (Ent_sat 1 rfl Ent_SL hs14) (recs_get (enc := encB) (fun _ => rfl) hi20_ rfl) sc_3 rfl (by decide) ?_)
    refine WL.cons rfl (OP.move (Value.int .i64 v) he7 (by decide) ?_)
    refine WL.cons rfl (OP.eqI rfl rfl (by decide) ?_)
    refine WL.nil (Qn.then ?_)
    refine W.iteP (p := (xs.getD k default).sector = v) rfl (fun hc16 => ?_) (fun hc16 => ?_)
    · refine W.seq ?_
      refine W.region ?_
      refine WL.cons rfl (OP.move (Value.int .i64 ((k : Nat) : Int)) he8 (by decide) ?_)
      refine WL.cons rfl (OP.assign (Value.int .i64 ((k : Nat) : Int)) rfl (by decide) ?_)
      refine WL.nil (Qn.then ?_)
      refine W.ret (Qr.blk (Qr.then (Qr.then (Qr.blk (Qr.then (RetQ.of [(Value.int .i64 ((k : Nat) : Int))] (.inr rfl) Try.results18 (.cons (.tmp (by decide) rfl) .nil) ?_))))))
      have hs18 : sat W0 [RefRep p xs most size, F] w3 := RefRep_close a1_11 c1_12 trivial hs14
      exact ⟨(congrArg (Value.int .i64) (by rw [← findA_abs hm]; exact findI_hit (k := k) (d := default) (by omega) (by assumption) (decide_eq_true (by assumption)))), hs18⟩
    · refine W.skip (Qn.blk (Qn.then ?_))
      refine W.region ?_
      refine WL.cons rfl (OP.move (Value.int .i64 ((k : Nat) : Int)) he8 (by decide) ?_)
      refine WL.cons rfl (OP.add ((k + 1 : Nat) : Int) rfl rfl (by first | rfl | omega | simp) (by unfold inI64; omega) (by decide) ?_)
      refine WL.cons rfl (OP.assign (Value.int .i64 ((k + 1 : Nat) : Int)) rfl (by decide) ?_)
      refine WL.nil (Qn.then ?_)
      have hs19 : sat W0 [RefRep p xs most size, F] w3 := RefRep_close a1_11 c1_12 trivial hs14
      exact ⟨_, (by omega), (k + 1), rfl, he6, he7, (Eq.trans (b := (Value.int .i64 ((k + 1 : Nat) : Int))) rfl (congrArg (Value.int .i64) (by first | rfl | omega | simp | (simp; omega)))), (by omega), (findI_next (d := default) (by omega) (by assumption) (decide_eq_false (by assumption))), hs19⟩
  · refine W.exit (Qx.then (Qx.then (Qx.hit (Qn.then ?_))))
    refine W.seq ?_
    refine W.region ?_
    refine WL.cons rfl (OP.assign (Value.int .i64 (-1)) rfl (by decide) ?_)
    refine WL.nil (Qn.then ?_)
    refine W.ret (RetQ.of [(Value.int .i64 (-1))] (.inr rfl) Try.results18 (.cons (.tmp (by decide) rfl) .nil) ?_)
    have hs21 : sat W0 [RefRep p xs most size, F] w3 := RefRep_close a1_11 c1_12 trivial hs14
    exact ⟨(congrArg (Value.int .i64) (by rw [← findA_abs hm]; exact findI_none (k := k) (by omega) (by omega) (by assumption))), hs21⟩

theorem Ref_Right {W0 : World} {F : HProp} {w : World}  (p : Nat) (xs : List BEnt) (most : Int) (size : Int) (x : BEnt)  
    (hs : sat W0 [RefRep p xs most size, F] w) :
    Calls Try.prog 49 ([(Value.pointer (some ⟨p, 0, none⟩)), (Value.agg [(Value.int .i64 x.sector), (Value.int .i64 x.kind), (Value.slice x.da x.data.length x.dc)].toArray)] : List Value).toArray w (fun x_ w' => ∃ v_, x_ = .returned v_ ∧ (v_ = (Value.bool (rightA size (absB x))) ∧ sat W0 [RefRep p xs most size, F] w')) := by
  refine W.enter Try.func49 rfl Try.ntmps49 (by simp) ?_
  refine W.seq ?_
  refine W.region ?_
  refine WL.cons rfl (OP.box (Value.agg [(Value.int .i64 x.sector), (Value.int .i64 x.kind), (Value.slice x.da x.data.length x.dc)].toArray) [(Value.int .i64 x.sector), (Value.int .i64 x.kind), (Value.slice x.da x.data.length x.dc)] hs rfl rfl (by decide) (fun b1 w2 hs3 => ?_))
  refine WL.cons rfl (OP.assign (Value.bool false) rfl (by decide) ?_)
  refine WL.nil (Qn.then ?_)
  refine W.seq ?_
  refine W.seq ?_
  refine W.region ?_
  refine WL.cons rfl (OP.fieldAddr 0 fo_48_0 rfl rfl (by decide) ?_)
  refine WL.cons rfl (OP.loadS (Value.int .i64 x.sector) sc_3 rfl (sat_cell 0 hs3 rfl rfl) (by decide) ?_)
  refine WL.cons rfl (OP.lss rfl rfl (by decide) ?_)
  refine WL.cons rfl (OP.move (Value.bool (decide (x.sector < 0))) rfl (by decide) ?_)
  by_cases hc4 : x.sector < 0
  · refine WL.pass rfl rfl (Eq.trans (b := .bool (decide (x.sector < 0))) rfl (congrArg Value.bool (decide_eq_true hc4))) rfl rfl (by decide) ?_
    refine WL.pass rfl rfl (Eq.trans (b := .bool (decide (x.sector < 0))) rfl (congrArg Value.bool (decide_eq_true hc4))) rfl rfl (by decide) ?_
    refine WL.pass rfl rfl (Eq.trans (b := .bool (decide (x.sector < 0))) rfl (congrArg Value.bool (decide_eq_true hc4))) rfl rfl (by decide) ?_
    refine WL.cons rfl (OP.pickT (Value.bool true) (Eq.trans (b := .bool (decide (x.sector < 0))) rfl (congrArg Value.bool (decide_eq_true hc4))) rfl (by decide) ?_)
    refine WL.nil (Qn.then ?_)
    refine W.iteT rfl ?_
    refine W.seq ?_
    refine W.region ?_
    refine WL.cons rfl (OP.assign (Value.bool false) rfl (by decide) ?_)
    refine WL.nil (Qn.then ?_)
    refine W.ret (Qr.then (RetQ.of [(Value.bool false)] (.inr rfl) Try.results49 (.cons (.tmp (by decide) rfl) .nil) ?_))
    have hs6 : sat W0 [RefRep p xs most size, F] w2 := sat_sub' [1, 2] [0] hs3 (by kernel_rfl) (by kernel_rfl)
    exact ⟨(congrArg Value.bool (by unfold rightA absB; first | (simp [hc4]; done) | (simp [hc4]; intros; omega))), hs6⟩
  · refine WL.consG rfl rfl (Eq.trans (b := .bool (decide (x.sector < 0))) rfl (congrArg Value.bool (decide_eq_false hc4))) (OP.fieldAddr 0 fo_48_0 rfl rfl (by decide) ?_)
    refine WL.consG rfl rfl (Eq.trans (b := .bool (decide (x.sector < 0))) rfl (congrArg Value.bool (decide_eq_false hc4))) (OP.loadS (Value.int .i64 x.sector) sc_3 rfl (sat_cell 0 hs3 rfl rfl) (by decide) ?_)
    refine WL.consG rfl rfl (Eq.trans (b := .bool (decide (x.sector < 0))) rfl (congrArg Value.bool (decide_eq_false hc4))) (OP.gtr rfl rfl (by decide) ?_)
    refine WL.cons rfl (OP.pickF (Value.bool (decide (x.sector > 2147483648))) (Eq.trans (b := .bool (decide (x.sector < 0))) rfl (congrArg Value.bool (decide_eq_false hc4))) rfl (by decide) ?_)
    refine WL.nil (Qn.then ?_)
    refine W.iteP (p := x.sector > 2147483648) rfl (fun hc7 => ?_) (fun hc7 => ?_)
    · refine W.seq ?_
      refine W.region ?_
      refine WL.cons rfl (OP.assign (Value.bool false) rfl (by decide) ?_)
      refine WL.nil (Qn.then ?_)
      refine W.ret (Qr.then (RetQ.of [(Value.bool false)] (.inr rfl) Try.results49 (.cons (.tmp (by decide) rfl) .nil) ?_))
      have hs9 : sat W0 [RefRep p xs most size, F] w2 := sat_sub' [1, 2] [0] hs3 (by kernel_rfl) (by kernel_rfl)
      exact ⟨(congrArg Value.bool (by unfold rightA absB; first | (simp [hc4, hc7]; done) | (simp [hc4, hc7]; intros; omega))), hs9⟩
    · refine W.skip (Qn.then ?_)
      refine W.seq ?_
      refine W.seq ?_
      refine W.region ?_
      refine WL.cons rfl (OP.fieldAddr 1 fo_48_1 rfl rfl (by decide) ?_)
      refine WL.cons rfl (OP.loadS (Value.int .i64 x.kind) sc_3 rfl (sat_cell 0 hs3 rfl rfl) (by decide) ?_)
      refine WL.cons rfl (OP.eqI rfl rfl (by decide) ?_)
      refine WL.nil (Qn.then ?_)
      refine W.iteP (p := x.kind = 1) rfl (fun hc10 => ?_) (fun hc10 => ?_)
      · refine W.seq ?_
        have hs11 : sat W0 [RefRep p xs most size, blk b1 [(Value.int .i64 x.sector), (Value.int .i64 x.kind), (Value.slice x.da x.data.length x.dc)] 48, F] w2 := sat_sel' [1, 0, 2] hs3 (by kernel_rfl) (by kernel_rfl)
        obtain ⟨a1_12, c1_13, _, hs14⟩ := RefRep_open hs11
        have hs15 : sat W0 [blk p [(Value.slice a1_12 xs.length c1_13), (Value.int .i64 most), (Value.int .i64 size)] 46, SL false 3 a1_12 xs.length c1_13 (xs.flatMap encB), blk b1 [(Value.int .i64 x.sector), (Value.int .i64 x.kind), (Value.slice x.da x.data.length x.dc)] 48, F] w2 := hs14
        refine W.draw (fun w => sat W0 [blk p [(Value.slice a1_12 xs.length c1_13), (Value.int .i64 most), (Value.int .i64 size)] 46, SL false 3 a1_12 xs.length c1_13 (xs.flatMap encB), blk b1 [(Value.int .i64 x.sector), (Value.int .i64 x.kind), (Value.slice x.da x.data.length x.dc)] 48, F] w) (by kernel_rfl) hs15 (fun w16 hs17 => ?_)
        refine WA.take 0 rfl rfl rfl rfl (by kernel_rfl) (by kernel_rfl) (by kernel_rfl) ?_ (by decide) (v := (Value.pointer (some ⟨b1, 2, none⟩))) (fun w19 hw18 => OP.fieldAddr 2 fo_48_2 rfl rfl (by decide) ⟨rfl, rfl⟩) ?_
        · exact hs17
        refine WA.take 1 rfl rfl rfl rfl (by kernel_rfl) (by kernel_rfl) (by kernel_rfl) ?_ (by decide) (v := (Value.slice x.da x.data.length x.dc)) (fun w21 hw20 => OP.loadS (Value.slice x.da x.data.length x.dc) sc_24 rfl (sat_cell 2 hw20 rfl rfl) (by decide) ⟨rfl, rfl⟩) ?_
        · exact hs17
        refine WA.take 2 rfl rfl rfl rfl (by kernel_rfl) (by kernel_rfl) (by kernel_rfl) ?_ (by decide) (v := (Value.int .i64 ((x.data.length : Nat) : Int))) (fun w23 hw22 => OP.len Try.underlying24 rfl rfl (by decide) ⟨rfl, rfl⟩) ?_
        · exact hs17
        refine WA.take 3 rfl rfl rfl rfl (by kernel_rfl) (by kernel_rfl) (by kernel_rfl) ?_ (by decide) (v := (Value.pointer (some ⟨p, 0, none⟩))) (fun w25 hw24 => OP.move (Value.pointer (some ⟨p, 0, none⟩)) rfl (by decide) ⟨rfl, rfl⟩) ?_
        · exact hs17
        refine WA.take 4 rfl rfl rfl rfl (by kernel_rfl) (by kernel_rfl) (by kernel_rfl) ?_ (by decide) (v := (Value.pointer (some ⟨p, 0, none⟩))) (fun w27 hw26 => OP.nilCheck rfl (by decide) ⟨rfl, rfl⟩) ?_
        · exact hs17
        refine WA.take 5 rfl rfl rfl rfl (by kernel_rfl) (by kernel_rfl) (by kernel_rfl) ?_ (by decide) (v := (Value.pointer (some ⟨p, 2, none⟩))) (fun w29 hw28 => OP.fieldAddr 2 fo_46_2 rfl rfl (by decide) ⟨rfl, rfl⟩) ?_
        · exact hs17
        refine WA.take 6 rfl rfl rfl rfl (by kernel_rfl) (by kernel_rfl) (by kernel_rfl) ?_ (by decide) (v := (Value.int .i64 size)) (fun w31 hw30 => OP.loadS (Value.int .i64 size) sc_3 rfl (sat_cell 0 hw30 rfl rfl) (by decide) ⟨rfl, rfl⟩) ?_
        · exact hs17
        refine WA.take 7 rfl rfl rfl rfl (by kernel_rfl) (by kernel_rfl) (by kernel_rfl) ?_ (by decide) (v := (Value.bool (decide (((x.data.length : Nat) : Int) = size)))) (fun w33 hw32 => OP.eqI rfl rfl (by decide) ⟨rfl, rfl⟩) ?_
        · exact hs17
        refine WA.take 8 rfl rfl rfl rfl (by kernel_rfl) (by kernel_rfl) (by kernel_rfl) ?_ (by decide) (v := (Value.bool (decide (((x.data.length : Nat) : Int) = size)))) (fun w35 hw34 => OP.assign (Value.bool (decide (((x.data.length : Nat) : Int) = size))) rfl (by decide) ⟨rfl, rfl⟩) ?_
        · exact hs17
        refine WA.done (by kernel_rfl) ?_
        refine (Qn.then ?_)
        refine W.ret (Qr.then (RetQ.of [(Value.bool (decide (((x.data.length : Nat) : Int) = size)))] (.inr rfl) Try.results49 (.cons (.tmp (by decide) rfl) .nil) ?_))
        have hs37 : sat W0 [RefRep p xs most size, blk b1 [(Value.int .i64 x.sector), (Value.int .i64 x.kind), (Value.slice x.da x.data.length x.dc)] 48, F] w16 := RefRep_close a1_12 c1_13 trivial hs17
        have hs38 : sat W0 [RefRep p xs most size, F] w16 := sat_sub' [0, 2] [1] hs37 (by kernel_rfl) (by kernel_rfl)
        exact ⟨(congrArg Value.bool (by unfold rightA absB; first | (simp [hc4, hc7, hc10]; done) | (simp [hc4, hc7, hc10]; intros; omega))), hs38⟩
      · refine W.skip (Qn.then ?_)
        refine W.seq ?_
        refine W.region ?_
        refine WL.cons rfl (OP.fieldAddr 1 fo_48_1 rfl rfl (by decide) ?_)
        refine WL.cons rfl (OP.loadS (Value.int .i64 x.kind) sc_3 rfl (sat_cell 0 hs3 rfl rfl) (by decide) ?_)
        refine WL.cons rfl (OP.eqI rfl rfl (by decide) ?_)
        refine WL.cons rfl (OP.move (Value.bool (decide (x.kind = 2))) rfl (by decide) ?_)
        by_cases hc39 : x.kind = 2
        · refine WL.consG rfl rfl (Eq.trans (b := .bool (decide (x.kind = 2))) rfl (congrArg Value.bool (decide_eq_true hc39))) (OP.fieldAddr 2 fo_48_2 rfl rfl (by decide) ?_)
          refine WL.consG rfl rfl (Eq.trans (b := .bool (decide (x.kind = 2))) rfl (congrArg Value.bool (decide_eq_true hc39))) (OP.loadS (Value.slice x.da x.data.length x.dc) sc_24 rfl (sat_cell 0 hs3 rfl rfl) (by decide) ?_)
          refine WL.consG rfl rfl (Eq.trans (b := .bool (decide (x.kind = 2))) rfl (congrArg Value.bool (decide_eq_true hc39))) (OP.len Try.underlying24 rfl rfl (by decide) ?_)
          refine WL.consG rfl rfl (Eq.trans (b := .bool (decide (x.kind = 2))) rfl (congrArg Value.bool (decide_eq_true hc39))) (OP.eqI rfl rfl (by decide) ?_)
          refine WL.cons rfl (OP.pickT (Value.bool (decide (((x.data.length : Nat) : Int) = 0))) (Eq.trans (b := .bool (decide (x.kind = 2))) rfl (congrArg Value.bool (decide_eq_true hc39))) rfl (by decide) ?_)
          refine WL.cons rfl (OP.assign (Value.bool (decide (((x.data.length : Nat) : Int) = 0))) rfl (by decide) ?_)
          refine WL.nil (Qn.then ?_)
          refine W.ret (RetQ.of [(Value.bool (decide (((x.data.length : Nat) : Int) = 0)))] (.inr rfl) Try.results49 (.cons (.tmp (by decide) rfl) .nil) ?_)
          have hs41 : sat W0 [RefRep p xs most size, F] w2 := sat_sub' [1, 2] [0] hs3 (by kernel_rfl) (by kernel_rfl)
          exact ⟨(congrArg Value.bool (by unfold rightA absB; first | (simp [hc4, hc7, hc10, hc39]; done) | (simp [hc4, hc7, hc10, hc39]; intros; omega))), hs41⟩
        · refine WL.pass rfl rfl (Eq.trans (b := .bool (decide (x.kind = 2))) rfl (congrArg Value.bool (decide_eq_false hc39))) rfl rfl (by decide) ?_
          refine WL.pass rfl rfl (Eq.trans (b := .bool (decide (x.kind = 2))) rfl (congrArg Value.bool (decide_eq_false hc39))) rfl rfl (by decide) ?_
          refine WL.pass rfl rfl (Eq.trans (b := .bool (decide (x.kind = 2))) rfl (congrArg Value.bool (decide_eq_false hc39))) rfl rfl (by decide) ?_
          refine WL.pass rfl rfl (Eq.trans (b := .bool (decide (x.kind = 2))) rfl (congrArg Value.bool (decide_eq_false hc39))) rfl rfl (by decide) ?_
          refine WL.cons rfl (OP.pickF (Value.bool false) (Eq.trans (b := .bool (decide (x.kind = 2))) rfl (congrArg Value.bool (decide_eq_false hc39))) rfl (by decide) ?_)
          refine WL.cons rfl (OP.assign (Value.bool false) rfl (by decide) ?_)
          refine WL.nil (Qn.then ?_)
          refine W.ret (RetQ.of [(Value.bool false)] (.inr rfl) Try.results49 (.cons (.tmp (by decide) rfl) .nil) ?_)
          have hs43 : sat W0 [RefRep p xs most size, F] w2 := sat_sub' [1, 2] [0] hs3 (by kernel_rfl) (by kernel_rfl)
          exact ⟨(congrArg Value.bool (by unfold rightA absB; first | (simp [hc4, hc7, hc10, hc39]; done) | (simp [hc4, hc7, hc10, hc39]; intros; omega))), hs43⟩

theorem Buffer_right {W0 : World} {F : HProp} {w : World}  (p : Nat) (xs : List BEnt) (most : Int) (size : Int) (x : BEnt)  
    (hs : sat W0 [BufRep p xs most size, F] w) :
    Calls Try.prog 46 ([(Value.pointer (some ⟨p, 0, none⟩)), (Value.agg [(Value.int .i64 x.sector), (Value.int .i64 x.kind), (Value.slice x.da x.data.length x.dc)].toArray)] : List Value).toArray w (fun x_ w' => ∃ v_, x_ = .returned v_ ∧ (v_ = (Value.bool (rightA size (absB x))) ∧ sat W0 [BufRep p xs most size, F] w')) := by
  refine W.enter Try.func46 rfl Try.ntmps46 (by simp) ?_
  refine W.seq ?_
  refine W.region ?_
  refine WL.cons rfl (OP.box (Value.agg [(Value.int .i64 x.sector), (Value.int .i64 x.kind), (Value.slice x.da x.data.length x.dc)].toArray) [(Value.int .i64 x.sector), (Value.int .i64 x.kind), (Value.slice x.da x.data.length x.dc)] hs rfl rfl (by decide) (fun b1 w2 hs3 => ?_))
  refine WL.cons rfl (OP.assign (Value.bool false) rfl (by decide) ?_)
  refine WL.nil (Qn.then ?_)
  refine W.seq ?_
  refine W.seq ?_
  refine W.region ?_
  refine WL.cons rfl (OP.fieldAddr 0 fo_48_0 rfl rfl (by decide) ?_)
  refine WL.cons rfl (OP.loadS (Value.int .i64 x.sector) sc_3 rfl (sat_cell 0 hs3 rfl rfl) (by decide) ?_)
  refine WL.cons rfl (OP.lss rfl rfl (by decide) ?_)
  refine WL.cons rfl (OP.move (Value.bool (decide (x.sector < 0))) rfl (by decide) ?_)
  by_cases hc4 : x.sector < 0
  · refine WL.pass rfl rfl (Eq.trans (b := .bool (decide (x.sector < 0))) rfl (congrArg Value.bool (decide_eq_true hc4))) rfl rfl (by decide) ?_
    refine WL.pass rfl rfl (Eq.trans (b := .bool (decide (x.sector < 0))) rfl (congrArg Value.bool (decide_eq_true hc4))) rfl rfl (by decide) ?_
    refine WL.pass rfl rfl (Eq.trans (b := .bool (decide (x.sector < 0))) rfl (congrArg Value.bool (decide_eq_true hc4))) rfl rfl (by decide) ?_
    refine WL.cons rfl (OP.pickT (Value.bool true) (Eq.trans (b := .bool (decide (x.sector < 0))) rfl (congrArg Value.bool (decide_eq_true hc4))) rfl (by decide) ?_)
    refine WL.nil (Qn.then ?_)
    refine W.iteT rfl ?_
    refine W.seq ?_
    refine W.region ?_
    refine WL.cons rfl (OP.assign (Value.bool false) rfl (by decide) ?_)
    refine WL.nil (Qn.then ?_)
    refine W.ret (Qr.then (RetQ.of [(Value.bool false)] (.inr rfl) Try.results46 (.cons (.tmp (by decide) rfl) .nil) ?_))
    have hs6 : sat W0 [BufRep p xs most size, F] w2 := sat_sub' [1, 2] [0] hs3 (by kernel_rfl) (by kernel_rfl)
    exact ⟨(congrArg Value.bool (by unfold rightA absB; first | (simp [hc4]; done) | (simp [hc4]; intros; omega))), hs6⟩
  · refine WL.consG rfl rfl (Eq.trans (b := .bool (decide (x.sector < 0))) rfl (congrArg Value.bool (decide_eq_false hc4))) (OP.fieldAddr 0 fo_48_0 rfl rfl (by decide) ?_)
    refine WL.consG rfl rfl (Eq.trans (b := .bool (decide (x.sector < 0))) rfl (congrArg Value.bool (decide_eq_false hc4))) (OP.loadS (Value.int .i64 x.sector) sc_3 rfl (sat_cell 0 hs3 rfl rfl) (by decide) ?_)
    refine WL.consG rfl rfl (Eq.trans (b := .bool (decide (x.sector < 0))) rfl (congrArg Value.bool (decide_eq_false hc4))) (OP.gtr rfl rfl (by decide) ?_)
    refine WL.cons rfl (OP.pickF (Value.bool (decide (x.sector > 2147483648))) (Eq.trans (b := .bool (decide (x.sector < 0))) rfl (congrArg Value.bool (decide_eq_false hc4))) rfl (by decide) ?_)
    refine WL.nil (Qn.then ?_)
    refine W.iteP (p := x.sector > 2147483648) rfl (fun hc7 => ?_) (fun hc7 => ?_)
    · refine W.seq ?_
      refine W.region ?_
      refine WL.cons rfl (OP.assign (Value.bool false) rfl (by decide) ?_)
      refine WL.nil (Qn.then ?_)
      refine W.ret (Qr.then (RetQ.of [(Value.bool false)] (.inr rfl) Try.results46 (.cons (.tmp (by decide) rfl) .nil) ?_))
      have hs9 : sat W0 [BufRep p xs most size, F] w2 := sat_sub' [1, 2] [0] hs3 (by kernel_rfl) (by kernel_rfl)
      exact ⟨(congrArg Value.bool (by unfold rightA absB; first | (simp [hc4, hc7]; done) | (simp [hc4, hc7]; intros; omega))), hs9⟩
    · refine W.skip (Qn.then ?_)
      refine W.seq ?_
      have hs10 : sat W0 [BufRep p xs most size, blk b1 [(Value.int .i64 x.sector), (Value.int .i64 x.kind), (Value.slice x.da x.data.length x.dc)] 48, F] w2 := sat_sel' [1, 0, 2] hs3 (by kernel_rfl) (by kernel_rfl)
      obtain ⟨a1_11, c1_12, _, hs13⟩ := BufRep_open hs10
      have hs14 : sat W0 [blk p [(Value.slice a1_11 xs.length c1_12), (Value.int .i64 most), (Value.int .i64 size)] 92, SL false 3 a1_11 xs.length c1_12 (xs.flatMap encB), blk b1 [(Value.int .i64 x.sector), (Value.int .i64 x.kind), (Value.slice x.da x.data.length x.dc)] 48, F] w2 := hs13
      refine W.draw (fun w => sat W0 [blk p [(Value.slice a1_11 xs.length c1_12), (Value.int .i64 most), (Value.int .i64 size)] 92, SL false 3 a1_11 xs.length c1_12 (xs.flatMap encB), blk b1 [(Value.int .i64 x.sector), (Value.int .i64 x.kind), (Value.slice x.da x.data.length x.dc)] 48, F] w) (by kernel_rfl) hs14 (fun w15 hs16 => ?_)
      refine WA.take 0 rfl rfl rfl rfl (by kernel_rfl) (by kernel_rfl) (by kernel_rfl) ?_ (by decide) (v := (Value.pointer (some ⟨b1, 1, none⟩))) (fun w18 hw17 => OP.fieldAddr 1 fo_48_1 rfl rfl (by decide) ⟨rfl, rfl⟩) ?_
      · exact hs16
      refine WA.take 1 rfl rfl rfl rfl (by kernel_rfl) (by kernel_rfl) (by kernel_rfl) ?_ (by decide) (v := (Value.int .i64 x.kind)) (fun w20 hw19 => OP.loadS (Value.int .i64 x.kind) sc_3 rfl (sat_cell 2 hw19 rfl rfl) (by decide) ⟨rfl, rfl⟩) ?_
      · exact hs16
      refine WA.take 2 rfl rfl rfl rfl (by kernel_rfl) (by kernel_rfl) (by kernel_rfl) ?_ (by decide) (v := (Value.bool (decide (x.kind = 1)))) (fun w22 hw21 => OP.eqI rfl rfl (by decide) ⟨rfl, rfl⟩) ?_
      · exact hs16
      refine WA.take 3 rfl rfl rfl rfl (by kernel_rfl) (by kernel_rfl) (by kernel_rfl) ?_ (by decide) (v := (Value.bool (decide (x.kind = 1)))) (fun w24 hw23 => OP.move (Value.bool (decide (x.kind = 1))) rfl (by decide) ⟨rfl, rfl⟩) ?_
      · exact hs16
      by_cases hc25 : x.kind = 1
      · refine WA.takeG 4 rfl rfl rfl rfl rfl (Eq.trans (b := .bool (decide (x.kind = 1))) rfl (congrArg Value.bool (decide_eq_true hc25))) (by kernel_rfl) (by kernel_rfl) (by kernel_rfl) ?_ (by decide) (v := (Value.pointer (some ⟨b1, 2, none⟩))) (fun w27 hw26 => OP.fieldAddr 2 fo_48_2 rfl rfl (by decide) ⟨rfl, rfl⟩) ?_
        · exact hs16
        refine WA.takeG 5 rfl rfl rfl rfl rfl (Eq.trans (b := .bool (decide (x.kind = 1))) rfl (congrArg Value.bool (decide_eq_true hc25))) (by kernel_rfl) (by kernel_rfl) (by kernel_rfl) ?_ (by decide) (v := (Value.slice x.da x.data.length x.dc)) (fun w29 hw28 => OP.loadS (Value.slice x.da x.data.length x.dc) sc_24 rfl (sat_cell 2 hw28 rfl rfl) (by decide) ⟨rfl, rfl⟩) ?_
        · exact hs16
        refine WA.takeG 6 rfl rfl rfl rfl rfl (Eq.trans (b := .bool (decide (x.kind = 1))) rfl (congrArg Value.bool (decide_eq_true hc25))) (by kernel_rfl) (by kernel_rfl) (by kernel_rfl) ?_ (by decide) (v := (Value.int .i64 ((x.data.length : Nat) : Int))) (fun w31 hw30 => OP.len Try.underlying24 rfl rfl (by decide) ⟨rfl, rfl⟩) ?_
        · exact hs16
        refine WA.takeG 7 rfl rfl rfl rfl rfl (Eq.trans (b := .bool (decide (x.kind = 1))) rfl (congrArg Value.bool (decide_eq_true hc25))) (by kernel_rfl) (by kernel_rfl) (by kernel_rfl) ?_ (by decide) (v := (Value.pointer (some ⟨p, 0, none⟩))) (fun w33 hw32 => OP.move (Value.pointer (some ⟨p, 0, none⟩)) rfl (by decide) ⟨rfl, rfl⟩) ?_
        · exact hs16
        refine WA.takeG 8 rfl rfl rfl rfl rfl (Eq.trans (b := .bool (decide (x.kind = 1))) rfl (congrArg Value.bool (decide_eq_true hc25))) (by kernel_rfl) (by kernel_rfl) (by kernel_rfl) ?_ (by decide) (v := (Value.pointer (some ⟨p, 0, none⟩))) (fun w35 hw34 => OP.nilCheck rfl (by decide) ⟨rfl, rfl⟩) ?_
        · exact hs16
        refine WA.takeG 9 rfl rfl rfl rfl rfl (Eq.trans (b := .bool (decide (x.kind = 1))) rfl (congrArg Value.bool (decide_eq_true hc25))) (by kernel_rfl) (by kernel_rfl) (by kernel_rfl) ?_ (by decide) (v := (Value.pointer (some ⟨p, 2, none⟩))) (fun w37 hw36 => OP.fieldAddr 2 fo_92_2 rfl rfl (by decide) ⟨rfl, rfl⟩) ?_
        · exact hs16
        refine WA.takeG 10 rfl rfl rfl rfl rfl (Eq.trans (b := .bool (decide (x.kind = 1))) rfl (congrArg Value.bool (decide_eq_true hc25))) (by kernel_rfl) (by kernel_rfl) (by kernel_rfl) ?_ (by decide) (v := (Value.int .i64 size)) (fun w39 hw38 => OP.loadS (Value.int .i64 size) sc_3 rfl (sat_cell 0 hw38 rfl rfl) (by decide) ⟨rfl, rfl⟩) ?_
        · exact hs16
        refine WA.takeG 11 rfl rfl rfl rfl rfl (Eq.trans (b := .bool (decide (x.kind = 1))) rfl (congrArg Value.bool (decide_eq_true hc25))) (by kernel_rfl) (by kernel_rfl) (by kernel_rfl) ?_ (by decide) (v := (Value.bool (decide (((x.data.length : Nat) : Int) = size)))) (fun w41 hw40 => OP.eqI rfl rfl (by decide) ⟨rfl, rfl⟩) ?_
        · exact hs16
        refine WA.take 12 rfl rfl rfl rfl (by kernel_rfl) (by kernel_rfl) (by kernel_rfl) ?_ (by decide) (v := (Value.bool (decide (((x.data.length : Nat) : Int) = size)))) (fun w43 hw42 => OP.pickT (Value.bool (decide (((x.data.length : Nat) : Int) = size))) (Eq.trans (b := .bool (decide (x.kind = 1))) rfl (congrArg Value.bool (decide_eq_true hc25))) rfl (by decide) ⟨rfl, rfl⟩) ?_
        · exact hs16
        refine WA.take 13 rfl rfl rfl rfl (by kernel_rfl) (by kernel_rfl) (by kernel_rfl) ?_ (by decide) (v := (Value.bool (decide (((x.data.length : Nat) : Int) = size)))) (fun w45 hw44 => OP.move (Value.bool (decide (((x.data.length : Nat) : Int) = size))) rfl (by decide) ⟨rfl, rfl⟩) ?_
        · exact hs16
        by_cases hc46 : ((x.data.length : Nat) : Int) = size
        · refine WA.passG 14 rfl rfl rfl rfl (Eq.trans (b := .bool (decide (((x.data.length : Nat) : Int) = size))) rfl (congrArg Value.bool (decide_eq_true hc46))) rfl (by kernel_rfl) (by kernel_rfl) (by kernel_rfl) ?_ (by decide) ?_
          · exact hs16
          refine WA.passG 15 rfl rfl rfl rfl (Eq.trans (b := .bool (decide (((x.data.length : Nat) : Int) = size))) rfl (congrArg Value.bool (decide_eq_true hc46))) rfl (by kernel_rfl) (by kernel_rfl) (by kernel_rfl) ?_ (by decide) ?_
          · exact hs16
          refine WA.passG 16 rfl rfl rfl rfl (Eq.trans (b := .bool (decide (((x.data.length : Nat) : Int) = size))) rfl (congrArg Value.bool (decide_eq_true hc46))) rfl (by kernel_rfl) (by kernel_rfl) (by kernel_rfl) ?_ (by decide) ?_
          · exact hs16
          refine WA.passG 17 rfl rfl rfl rfl (Eq.trans (b := .bool (decide (((x.data.length : Nat) : Int) = size))) rfl (congrArg Value.bool (decide_eq_true hc46))) rfl (by kernel_rfl) (by kernel_rfl) (by kernel_rfl) ?_ (by decide) ?_
          · exact hs16
          refine WA.passU 18 rfl rfl rfl rfl rfl (by kernel_rfl) (by kernel_rfl) (by kernel_rfl) ?_ (by decide) ?_
          · exact hs16
          refine WA.passU 19 rfl rfl rfl rfl rfl (by kernel_rfl) (by kernel_rfl) (by kernel_rfl) ?_ (by decide) ?_
          · exact hs16
          refine WA.passU 20 rfl rfl rfl rfl rfl (by kernel_rfl) (by kernel_rfl) (by kernel_rfl) ?_ (by decide) ?_
          · exact hs16
          refine WA.passU 21 rfl rfl rfl rfl rfl (by kernel_rfl) (by kernel_rfl) (by kernel_rfl) ?_ (by decide) ?_
          · exact hs16
          refine WA.passG 22 rfl rfl rfl rfl (Eq.trans (b := .bool (decide (((x.data.length : Nat) : Int) = size))) rfl (congrArg Value.bool (decide_eq_true hc46))) rfl (by kernel_rfl) (by kernel_rfl) (by kernel_rfl) ?_ (by decide) ?_
          · exact hs16
          refine WA.take 23 rfl rfl rfl rfl (by kernel_rfl) (by kernel_rfl) (by kernel_rfl) ?_ (by decide) (v := (Value.bool true)) (fun w48 hw47 => OP.pickT (Value.bool true) (Eq.trans (b := .bool (decide (((x.data.length : Nat) : Int) = size))) rfl (congrArg Value.bool (decide_eq_true hc46))) rfl (by decide) ⟨rfl, rfl⟩) ?_
          · exact hs16
          refine WA.take 24 rfl rfl rfl rfl (by kernel_rfl) (by kernel_rfl) (by kernel_rfl) ?_ (by decide) (v := (Value.bool true)) (fun w50 hw49 => OP.assign (Value.bool true) rfl (by decide) ⟨rfl, rfl⟩) ?_
          · exact hs16
          refine WA.done (by kernel_rfl) ?_
          refine (Qn.then ?_)
          refine W.ret (RetQ.of [(Value.bool true)] (.inr rfl) Try.results46 (.cons (.tmp (by decide) rfl) .nil) ?_)
          have hs52 : sat W0 [BufRep p xs most size, blk b1 [(Value.int .i64 x.sector), (Value.int .i64 x.kind), (Value.slice x.da x.data.length x.dc)] 48, F] w15 := BufRep_close a1_11 c1_12 trivial hs16
          have hs53 : sat W0 [BufRep p xs most size, F] w15 := sat_sub' [0, 2] [1] hs52 (by kernel_rfl) (by kernel_rfl)
          exact ⟨(congrArg Value.bool (by unfold rightA absB; first | (simp [hc4, hc7, hc25, hc46]; done) | (simp [hc4, hc7, hc25, hc46]; intros; omega))), hs53⟩
        · refine WA.takeG 14 rfl rfl rfl rfl rfl (Eq.trans (b := .bool (decide (((x.data.length : Nat) : Int) = size))) rfl (congrArg Value.bool (decide_eq_false hc46))) (by kernel_rfl) (by kernel_rfl) (by kernel_rfl) ?_ (by decide) (v := (Value.pointer (some ⟨b1, 1, none⟩))) (fun w55 hw54 => OP.fieldAddr 1 fo_48_1 rfl rfl (by decide) ⟨rfl, rfl⟩) ?_
          · exact hs16
          refine WA.takeG 15 rfl rfl rfl rfl rfl (Eq.trans (b := .bool (decide (((x.data.length : Nat) : Int) = size))) rfl (congrArg Value.bool (decide_eq_false hc46))) (by kernel_rfl) (by kernel_rfl) (by kernel_rfl) ?_ (by decide) (v := (Value.int .i64 x.kind)) (fun w57 hw56 => OP.loadS (Value.int .i64 x.kind) sc_3 rfl (sat_cell 2 hw56 rfl rfl) (by decide) ⟨rfl, rfl⟩) ?_
          · exact hs16
          refine WA.takeG 16 rfl rfl rfl rfl rfl (Eq.trans (b := .bool (decide (((x.data.length : Nat) : Int) = size))) rfl (congrArg Value.bool (decide_eq_false hc46))) (by kernel_rfl) (by kernel_rfl) (by kernel_rfl) ?_ (by decide) (v := (Value.bool (decide (x.kind = 2)))) (fun w59 hw58 => OP.eqI rfl rfl (by decide) ⟨rfl, rfl⟩) ?_
          · exact hs16
          refine WA.takeG 17 rfl rfl rfl rfl rfl (Eq.trans (b := .bool (decide (((x.data.length : Nat) : Int) = size))) rfl (congrArg Value.bool (decide_eq_false hc46))) (by kernel_rfl) (by kernel_rfl) (by kernel_rfl) ?_ (by decide) (v := (Value.bool (decide (x.kind = 2)))) (fun w61 hw60 => OP.move (Value.bool (decide (x.kind = 2))) rfl (by decide) ⟨rfl, rfl⟩) ?_
          · exact hs16
          by_cases hc62 : x.kind = 2
          · refine WA.takeG 18 rfl rfl rfl rfl rfl (Eq.trans (b := .bool (decide (x.kind = 2))) rfl (congrArg Value.bool (decide_eq_true hc62))) (by kernel_rfl) (by kernel_rfl) (by kernel_rfl) ?_ (by decide) (v := (Value.pointer (some ⟨b1, 2, none⟩))) (fun w64 hw63 => OP.fieldAddr 2 fo_48_2 rfl rfl (by decide) ⟨rfl, rfl⟩) ?_
            · exact hs16
            refine WA.takeG 19 rfl rfl rfl rfl rfl (Eq.trans (b := .bool (decide (x.kind = 2))) rfl (congrArg Value.bool (decide_eq_true hc62))) (by kernel_rfl) (by kernel_rfl) (by kernel_rfl) ?_ (by decide) (v := (Value.slice x.da x.data.length x.dc)) (fun w66 hw65 => OP.loadS (Value.slice x.da x.data.length x.dc) sc_24 rfl (sat_cell 2 hw65 rfl rfl) (by decide) ⟨rfl, rfl⟩) ?_
            · exact hs16
            refine WA.takeG 20 rfl rfl rfl rfl rfl (Eq.trans (b := .bool (decide (x.kind = 2))) rfl (congrArg Value.bool (decide_eq_true hc62))) (by kernel_rfl) (by kernel_rfl) (by kernel_rfl) ?_ (by decide) (v := (Value.int .i64 ((x.data.length : Nat) : Int))) (fun w68 hw67 => OP.len Try.underlying24 rfl rfl (by decide) ⟨rfl, rfl⟩) ?_
            · exact hs16
            refine WA.takeG 21 rfl rfl rfl rfl rfl (Eq.trans (b := .bool (decide (x.kind = 2))) rfl (congrArg Value.bool (decide_eq_true hc62))) (by kernel_rfl) (by kernel_rfl) (by kernel_rfl) ?_ (by decide) (v := (Value.bool (decide (((x.data.length : Nat) : Int) = 0)))) (fun w70 hw69 => OP.eqI rfl rfl (by decide) ⟨rfl, rfl⟩) ?_
            · exact hs16
            refine WA.takeG 22 rfl rfl rfl rfl rfl (Eq.trans (b := .bool (decide (((x.data.length : Nat) : Int) = size))) rfl (congrArg Value.bool (decide_eq_false hc46))) (by kernel_rfl) (by kernel_rfl) (by kernel_rfl) ?_ (by decide) (v := (Value.bool (decide (((x.data.length : Nat) : Int) = 0)))) (fun w72 hw71 => OP.pickT (Value.bool (decide (((x.data.length : Nat) : Int) = 0))) (Eq.trans (b := .bool (decide (x.kind = 2))) rfl (congrArg Value.bool (decide_eq_true hc62))) rfl (by decide) ⟨rfl, rfl⟩) ?_
            · exact hs16
            refine WA.take 23 rfl rfl rfl rfl (by kernel_rfl) (by kernel_rfl) (by kernel_rfl) ?_ (by decide) (v := (Value.bool (decide (((x.data.length : Nat) : Int) = 0)))) (fun w74 hw73 => OP.pickF (Value.bool (decide (((x.data.length : Nat) : Int) = 0))) (Eq.trans (b := .bool (decide (((x.data.length : Nat) : Int) = size))) rfl (congrArg Value.bool (decide_eq_false hc46))) rfl (by decide) ⟨rfl, rfl⟩) ?_
            · exact hs16
            refine WA.take 24 rfl rfl rfl rfl (by kernel_rfl) (by kernel_rfl) (by kernel_rfl) ?_ (by decide) (v := (Value.bool (decide (((x.data.length : Nat) : Int) = 0)))) (fun w76 hw75 => OP.assign (Value.bool (decide (((x.data.length : Nat) : Int) = 0))) rfl (by decide) ⟨rfl, rfl⟩) ?_
            · exact hs16
            refine WA.done (by kernel_rfl) ?_
            refine (Qn.then ?_)
            refine W.ret (RetQ.of [(Value.bool (decide (((x.data.length : Nat) : Int) = 0)))] (.inr rfl) Try.results46 (.cons (.tmp (by decide) rfl) .nil) ?_)
            have hs78 : sat W0 [BufRep p xs most size, blk b1 [(Value.int .i64 x.sector), (Value.int .i64 x.kind), (Value.slice x.da x.data.length x.dc)] 48, F] w15 := BufRep_close a1_11 c1_12 trivial hs16
            have hs79 : sat W0 [BufRep p xs most size, F] w15 := sat_sub' [0, 2] [1] hs78 (by kernel_rfl) (by kernel_rfl)
            exact ⟨(congrArg Value.bool (by unfold rightA absB; first | (simp [hc4, hc7, hc25, hc46, hc62]; done) | (simp [hc4, hc7, hc25, hc46, hc62]; intros; omega))), hs79⟩
          · refine WA.passG 18 rfl rfl rfl rfl (Eq.trans (b := .bool (decide (x.kind = 2))) rfl (congrArg Value.bool (decide_eq_false hc62))) rfl (by kernel_rfl) (by kernel_rfl) (by kernel_rfl) ?_ (by decide) ?_
            · exact hs16
            refine WA.passG 19 rfl rfl rfl rfl (Eq.trans (b := .bool (decide (x.kind = 2))) rfl (congrArg Value.bool (decide_eq_false hc62))) rfl (by kernel_rfl) (by kernel_rfl) (by kernel_rfl) ?_ (by decide) ?_
            · exact hs16
            refine WA.passG 20 rfl rfl rfl rfl (Eq.trans (b := .bool (decide (x.kind = 2))) rfl (congrArg Value.bool (decide_eq_false hc62))) rfl (by kernel_rfl) (by kernel_rfl) (by kernel_rfl) ?_ (by decide) ?_
            · exact hs16
            refine WA.passG 21 rfl rfl rfl rfl (Eq.trans (b := .bool (decide (x.kind = 2))) rfl (congrArg Value.bool (decide_eq_false hc62))) rfl (by kernel_rfl) (by kernel_rfl) (by kernel_rfl) ?_ (by decide) ?_
            · exact hs16
            refine WA.takeG 22 rfl rfl rfl rfl rfl (Eq.trans (b := .bool (decide (((x.data.length : Nat) : Int) = size))) rfl (congrArg Value.bool (decide_eq_false hc46))) (by kernel_rfl) (by kernel_rfl) (by kernel_rfl) ?_ (by decide) (v := (Value.bool false)) (fun w81 hw80 => OP.pickF (Value.bool false) (Eq.trans (b := .bool (decide (x.kind = 2))) rfl (congrArg Value.bool (decide_eq_false hc62))) rfl (by decide) ⟨rfl, rfl⟩) ?_
            · exact hs16
            refine WA.take 23 rfl rfl rfl rfl (by kernel_rfl) (by kernel_rfl) (by kernel_rfl) ?_ (by decide) (v := (Value.bool false)) (fun w83 hw82 => OP.pickF (Value.bool false) (Eq.trans (b := .bool (decide (((x.data.length : Nat) : Int) = size))) rfl (congrArg Value.bool (decide_eq_false hc46))) rfl (by decide) ⟨rfl, rfl⟩) ?_
            · exact hs16
            refine WA.take 24 rfl rfl rfl rfl (by kernel_rfl) (by kernel_rfl) (by kernel_rfl) ?_ (by decide) (v := (Value.bool false)) (fun w85 hw84 => OP.assign (Value.bool false) rfl (by decide) ⟨rfl, rfl⟩) ?_
            · exact hs16
            refine WA.done (by kernel_rfl) ?_
            refine (Qn.then ?_)
            refine W.ret (RetQ.of [(Value.bool false)] (.inr rfl) Try.results46 (.cons (.tmp (by decide) rfl) .nil) ?_)
            have hs87 : sat W0 [BufRep p xs most size, blk b1 [(Value.int .i64 x.sector), (Value.int .i64 x.kind), (Value.slice x.da x.data.length x.dc)] 48, F] w15 := BufRep_close a1_11 c1_12 trivial hs16
            have hs88 : sat W0 [BufRep p xs most size, F] w15 := sat_sub' [0, 2] [1] hs87 (by kernel_rfl) (by kernel_rfl)
            exact ⟨(congrArg Value.bool (by unfold rightA absB; first | (simp [hc4, hc7, hc25, hc46, hc62]; done) | (simp [hc4, hc7, hc25, hc46, hc62]; intros; omega))), hs88⟩
      · refine WA.passG 4 rfl rfl rfl rfl (Eq.trans (b := .bool (decide (x.kind = 1))) rfl (congrArg Value.bool (decide_eq_false hc25))) rfl (by kernel_rfl) (by kernel_rfl) (by kernel_rfl) ?_ (by decide) ?_
        · exact hs16
        refine WA.passG 5 rfl rfl rfl rfl (Eq.trans (b := .bool (decide (x.kind = 1))) rfl (congrArg Value.bool (decide_eq_false hc25))) rfl (by kernel_rfl) (by kernel_rfl) (by kernel_rfl) ?_ (by decide) ?_
        · exact hs16
        refine WA.passG 6 rfl rfl rfl rfl (Eq.trans (b := .bool (decide (x.kind = 1))) rfl (congrArg Value.bool (decide_eq_false hc25))) rfl (by kernel_rfl) (by kernel_rfl) (by kernel_rfl) ?_ (by decide) ?_
        · exact hs16
        refine WA.passG 7 rfl rfl rfl rfl (Eq.trans (b := .bool (decide (x.kind = 1))) rfl (congrArg Value.bool (decide_eq_false hc25))) rfl (by kernel_rfl) (by kernel_rfl) (by kernel_rfl) ?_ (by decide) ?_
        · exact hs16
        refine WA.passG 8 rfl rfl rfl rfl (Eq.trans (b := .bool (decide (x.kind = 1))) rfl (congrArg Value.bool (decide_eq_false hc25))) rfl (by kernel_rfl) (by kernel_rfl) (by kernel_rfl) ?_ (by decide) ?_
        · exact hs16
        refine WA.passG 9 rfl rfl rfl rfl (Eq.trans (b := .bool (decide (x.kind = 1))) rfl (congrArg Value.bool (decide_eq_false hc25))) rfl (by kernel_rfl) (by kernel_rfl) (by kernel_rfl) ?_ (by decide) ?_
        · exact hs16
        refine WA.passG 10 rfl rfl rfl rfl (Eq.trans (b := .bool (decide (x.kind = 1))) rfl (congrArg Value.bool (decide_eq_false hc25))) rfl (by kernel_rfl) (by kernel_rfl) (by kernel_rfl) ?_ (by decide) ?_
        · exact hs16
        refine WA.passG 11 rfl rfl rfl rfl (Eq.trans (b := .bool (decide (x.kind = 1))) rfl (congrArg Value.bool (decide_eq_false hc25))) rfl (by kernel_rfl) (by kernel_rfl) (by kernel_rfl) ?_ (by decide) ?_
        · exact hs16
        refine WA.take 12 rfl rfl rfl rfl (by kernel_rfl) (by kernel_rfl) (by kernel_rfl) ?_ (by decide) (v := (Value.bool false)) (fun w90 hw89 => OP.pickF (Value.bool false) (Eq.trans (b := .bool (decide (x.kind = 1))) rfl (congrArg Value.bool (decide_eq_false hc25))) rfl (by decide) ⟨rfl, rfl⟩) ?_
        · exact hs16
        refine WA.take 13 rfl rfl rfl rfl (by kernel_rfl) (by kernel_rfl) (by kernel_rfl) ?_ (by decide) (v := (Value.bool false)) (fun w92 hw91 => OP.move (Value.bool false) rfl (by decide) ⟨rfl, rfl⟩) ?_
        · exact hs16
        refine WA.takeG 14 rfl rfl rfl rfl rfl rfl (by kernel_rfl) (by kernel_rfl) (by kernel_rfl) ?_ (by decide) (v := (Value.pointer (some ⟨b1, 1, none⟩))) (fun w94 hw93 => OP.fieldAddr 1 fo_48_1 rfl rfl (by decide) ⟨rfl, rfl⟩) ?_
        · exact hs16
        refine WA.takeG 15 rfl rfl rfl rfl rfl rfl (by kernel_rfl) (by kernel_rfl) (by kernel_rfl) ?_ (by decide) (v := (Value.int .i64 x.kind)) (fun w96 hw95 => OP.loadS (Value.int .i64 x.kind) sc_3 rfl (sat_cell 2 hw95 rfl rfl) (by decide) ⟨rfl, rfl⟩) ?_
        · exact hs16
        refine WA.takeG 16 rfl rfl rfl rfl rfl rfl (by kernel_rfl) (by kernel_rfl) (by kernel_rfl) ?_ (by decide) (v := (Value.bool (decide (x.kind = 2)))) (fun w98 hw97 => OP.eqI rfl rfl (by decide) ⟨rfl, rfl⟩) ?_
        · exact hs16
        refine WA.takeG 17 rfl rfl rfl rfl rfl rfl (by kernel_rfl) (by kernel_rfl) (by kernel_rfl) ?_ (by decide) (v := (Value.bool (decide (x.kind = 2)))) (fun w100 hw99 => OP.move (Value.bool (decide (x.kind = 2))) rfl (by decide) ⟨rfl, rfl⟩) ?_
        · exact hs16
        by_cases hc101 : x.kind = 2
        · refine WA.takeG 18 rfl rfl rfl rfl rfl (Eq.trans (b := .bool (decide (x.kind = 2))) rfl (congrArg Value.bool (decide_eq_true hc101))) (by kernel_rfl) (by kernel_rfl) (by kernel_rfl) ?_ (by decide) (v := (Value.pointer (some ⟨b1, 2, none⟩))) (fun w103 hw102 => OP.fieldAddr 2 fo_48_2 rfl rfl (by decide) ⟨rfl, rfl⟩) ?_
          · exact hs16
          refine WA.takeG 19 rfl rfl rfl rfl rfl (Eq.trans (b := .bool (decide (x.kind = 2))) rfl (congrArg Value.bool (decide_eq_true hc101))) (by kernel_rfl) (by kernel_rfl) (by kernel_rfl) ?_ (by decide) (v := (Value.slice x.da x.data.length x.dc)) (fun w105 hw104 => OP.loadS (Value.slice x.da x.data.length x.dc) sc_24 rfl (sat_cell 2 hw104 rfl rfl) (by decide) ⟨rfl, rfl⟩) ?_
          · exact hs16
          refine WA.takeG 20 rfl rfl rfl rfl rfl (Eq.trans (b := .bool (decide (x.kind = 2))) rfl (congrArg Value.bool (decide_eq_true hc101))) (by kernel_rfl) (by kernel_rfl) (by kernel_rfl) ?_ (by decide) (v := (Value.int .i64 ((x.data.length : Nat) : Int))) (fun w107 hw106 => OP.len Try.underlying24 rfl rfl (by decide) ⟨rfl, rfl⟩) ?_
          · exact hs16
          refine WA.takeG 21 rfl rfl rfl rfl rfl (Eq.trans (b := .bool (decide (x.kind = 2))) rfl (congrArg Value.bool (decide_eq_true hc101))) (by kernel_rfl) (by kernel_rfl) (by kernel_rfl) ?_ (by decide) (v := (Value.bool (decide (((x.data.length : Nat) : Int) = 0)))) (fun w109 hw108 => OP.eqI rfl rfl (by decide) ⟨rfl, rfl⟩) ?_
          · exact hs16
          refine WA.takeG 22 rfl rfl rfl rfl rfl rfl (by kernel_rfl) (by kernel_rfl) (by kernel_rfl) ?_ (by decide) (v := (Value.bool (decide (((x.data.length : Nat) : Int) = 0)))) (fun w111 hw110 => OP.pickT (Value.bool (decide (((x.data.length : Nat) : Int) = 0))) (Eq.trans (b := .bool (decide (x.kind = 2))) rfl (congrArg Value.bool (decide_eq_true hc101))) rfl (by decide) ⟨rfl, rfl⟩) ?_
          · exact hs16
          refine WA.take 23 rfl rfl rfl rfl (by kernel_rfl) (by kernel_rfl) (by kernel_rfl) ?_ (by decide) (v := (Value.bool (decide (((x.data.length : Nat) : Int) = 0)))) (fun w113 hw112 => OP.pickF (Value.bool (decide (((x.data.length : Nat) : Int) = 0))) rfl rfl (by decide) ⟨rfl, rfl⟩) ?_
          · exact hs16
          refine WA.take 24 rfl rfl rfl rfl (by kernel_rfl) (by kernel_rfl) (by kernel_rfl) ?_ (by decide) (v := (Value.bool (decide (((x.data.length : Nat) : Int) = 0)))) (fun w115 hw114 => OP.assign (Value.bool (decide (((x.data.length : Nat) : Int) = 0))) rfl (by decide) ⟨rfl, rfl⟩) ?_
          · exact hs16
          refine WA.done (by kernel_rfl) ?_
          refine (Qn.then ?_)
          refine W.ret (RetQ.of [(Value.bool (decide (((x.data.length : Nat) : Int) = 0)))] (.inr rfl) Try.results46 (.cons (.tmp (by decide) rfl) .nil) ?_)
          have hs117 : sat W0 [BufRep p xs most size, blk b1 [(Value.int .i64 x.sector), (Value.int .i64 x.kind), (Value.slice x.da x.data.length x.dc)] 48, F] w15 := BufRep_close a1_11 c1_12 trivial hs16
          have hs118 : sat W0 [BufRep p xs most size, F] w15 := sat_sub' [0, 2] [1] hs117 (by kernel_rfl) (by kernel_rfl)
          exact ⟨(congrArg Value.bool (by unfold rightA absB; first | (simp [hc4, hc7, hc25, hc101]; done) | (simp [hc4, hc7, hc25, hc101]; intros; omega))), hs118⟩
        · refine WA.passG 18 rfl rfl rfl rfl (Eq.trans (b := .bool (decide (x.kind = 2))) rfl (congrArg Value.bool (decide_eq_false hc101))) rfl (by kernel_rfl) (by kernel_rfl) (by kernel_rfl) ?_ (by decide) ?_
          · exact hs16
          refine WA.passG 19 rfl rfl rfl rfl (Eq.trans (b := .bool (decide (x.kind = 2))) rfl (congrArg Value.bool (decide_eq_false hc101))) rfl (by kernel_rfl) (by kernel_rfl) (by kernel_rfl) ?_ (by decide) ?_
          · exact hs16
          refine WA.passG 20 rfl rfl rfl rfl (Eq.trans (b := .bool (decide (x.kind = 2))) rfl (congrArg Value.bool (decide_eq_false hc101))) rfl (by kernel_rfl) (by kernel_rfl) (by kernel_rfl) ?_ (by decide) ?_
          · exact hs16
          refine WA.passG 21 rfl rfl rfl rfl (Eq.trans (b := .bool (decide (x.kind = 2))) rfl (congrArg Value.bool (decide_eq_false hc101))) rfl (by kernel_rfl) (by kernel_rfl) (by kernel_rfl) ?_ (by decide) ?_
          · exact hs16
          refine WA.takeG 22 rfl rfl rfl rfl rfl rfl (by kernel_rfl) (by kernel_rfl) (by kernel_rfl) ?_ (by decide) (v := (Value.bool false)) (fun w120 hw119 => OP.pickF (Value.bool false) (Eq.trans (b := .bool (decide (x.kind = 2))) rfl (congrArg Value.bool (decide_eq_false hc101))) rfl (by decide) ⟨rfl, rfl⟩) ?_
          · exact hs16
          refine WA.take 23 rfl rfl rfl rfl (by kernel_rfl) (by kernel_rfl) (by kernel_rfl) ?_ (by decide) (v := (Value.bool false)) (fun w122 hw121 => OP.pickF (Value.bool false) rfl rfl (by decide) ⟨rfl, rfl⟩) ?_
          · exact hs16
          refine WA.take 24 rfl rfl rfl rfl (by kernel_rfl) (by kernel_rfl) (by kernel_rfl) ?_ (by decide) (v := (Value.bool false)) (fun w124 hw123 => OP.assign (Value.bool false) rfl (by decide) ⟨rfl, rfl⟩) ?_
          · exact hs16
          refine WA.done (by kernel_rfl) ?_
          refine (Qn.then ?_)
          refine W.ret (RetQ.of [(Value.bool false)] (.inr rfl) Try.results46 (.cons (.tmp (by decide) rfl) .nil) ?_)
          have hs126 : sat W0 [BufRep p xs most size, blk b1 [(Value.int .i64 x.sector), (Value.int .i64 x.kind), (Value.slice x.da x.data.length x.dc)] 48, F] w15 := BufRep_close a1_11 c1_12 trivial hs16
          have hs127 : sat W0 [BufRep p xs most size, F] w15 := sat_sub' [0, 2] [1] hs126 (by kernel_rfl) (by kernel_rfl)
          exact ⟨(congrArg Value.bool (by unfold rightA absB; first | (simp [hc4, hc7, hc25, hc101]; done) | (simp [hc4, hc7, hc25, hc101]; intros; omega))), hs127⟩

theorem law29_first {W0 : World} {F : HProp} {w : World}  (a : Option Addr) (c : Nat) (xs : List Int) (hn : xs.length ≤ 9223372036854775807) (hr : Ent W0 F (fun w => Rd w 1 a xs.length (xs.map (Value.int .i64))))
    (hs : sat W0 [F] w) :
    Calls Try.prog 17 ([(Value.slice a xs.length c)] : List Value).toArray w (fun x_ w' => ∃ v_, x_ = .returned v_ ∧ (v_ = (Value.int .i64 (xs.headD 0)) ∧ sat W0 [F] w')) := by
  refine W.enter Try.func17 rfl Try.ntmps17 (by simp) ?_
  refine W.seq ?_
  refine W.region ?_
  refine WL.cons rfl (OP.assign (Value.int .i64 0) rfl (by decide) ?_)
  refine WL.nil (Qn.then ?_)
  refine W.seq ?_
  refine W.seq ?_
  refine W.region ?_
  refine WL.cons rfl (OP.move (Value.slice a xs.length c) rfl (by decide) ?_)
  refine WL.cons rfl (OP.len Try.underlying22 rfl rfl (by decide) ?_)
  refine WL.cons rfl (OP.eqI rfl rfl (by decide) ?_)
  refine WL.nil (Qn.then ?_)
  refine W.iteP (p := ((xs.length : Nat) : Int) = 0) rfl (fun hc1 => ?_) (fun hc1 => ?_)
  · refine W.seq ?_
    refine W.region ?_
    refine WL.cons rfl (OP.assign (Value.int .i64 0) rfl (by decide) ?_)
    refine WL.nil (Qn.then ?_)
    refine W.ret (Qr.then (RetQ.of [(Value.int .i64 0)] (.inr rfl) Try.results17 (.cons (.tmp (by decide) rfl) .nil) ?_))
    exact ⟨(congrArg (Value.int .i64) (by rw [List.length_eq_zero_iff.1 (show xs.length = 0 by omega)]; rfl)), hs⟩
  · refine W.skip (Qn.then ?_)
    refine W.seq ?_
    refine W.region ?_
    refine WL.cons rfl (OP.move (Value.slice a xs.length c) rfl (by decide) ?_)
    have hi7_ : 0 < xs.length := by omega
    refine WL.cons rfl (OP.indexR 0 (Ent_sat 0 rfl hr hs) Try.underlying22 sz_3 rfl rfl rfl hi7_ (by decide) ?_)
    refine WL.cons rfl (OP.loadSR (Value.int .i64 (xs.getD 0 0)) (Ent_sat 0 rfl hr hs) (ints_get hi7_) sc_3 rfl (by decide) ?_)
    refine WL.cons rfl (OP.assign (Value.int .i64 (xs.getD 0 0)) rfl (by decide) ?_)
    refine WL.nil (Qn.then ?_)
    refine W.ret (RetQ.of [(Value.int .i64 (xs.getD 0 0))] (.inr rfl) Try.results17 (.cons (.tmp (by decide) rfl) .nil) ?_)
    exact ⟨(congrArg (Value.int .i64) (by cases xs with | nil => simp at * | cons => rfl)), hs⟩

end Go.Proofs.Ytleolejhkdolpaa
