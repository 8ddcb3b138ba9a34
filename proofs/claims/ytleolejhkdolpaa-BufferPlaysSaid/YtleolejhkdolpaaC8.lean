import Derived.Test.YtleolejhkdolpaaC3
import Derived.KernelRfl
set_option linter.unusedVariables false
set_option linter.unusedSimpArgs false
set_option maxRecDepth 100000
set_option maxHeartbeats 4000000
namespace Go.Proofs.Ytleolejhkdolpaa
open Go Go.RowKit Sv
theorem Ref_Put {W0 : World} {F : HProp} {w : World}  (p : Nat) (xs : List BEnt) (most : Int) (size : Int) (m : List AEnt) (x : BEnt) (D : List (Option Addr × List Int)) (hm : xs.map absB = m) (hn : xs.length ≤ 1099511627) (hxs : InD D xs) (hx : (x.da, x.data) ∈ D) 
    (hs : sat W0 [RefRep p xs most size, F] w) :
    Calls Try.prog 15 ([(Value.pointer (some ⟨p, 0, none⟩)), (Value.agg [(Value.int .i64 x.sector), (Value.int .i64 x.kind), (Value.slice x.da x.data.length x.dc)].toArray)] : List Value).toArray w (fun x_ w' => ∃ v_, x_ = .returned v_ ∧ (∃ xs_ : List BEnt, v_ = (Value.int .i64 (putE most size m (absB x))) ∧ InD D xs_ ∧ xs_.map absB = putM most size m (absB x) ∧ sat W0 [RefRep p xs_ most size, F] w')) := by
  have hal_ := abs_len hm
  have hfr_ := findA_range (m := m) (s := x.sector)
  refine W.enter Try.func15 rfl Try.ntmps15 (by simp) ?_
  refine W.seq ?_
  refine W.region ?_
  refine WL.cons rfl (OP.box (Value.agg [(Value.int .i64 x.sector), (Value.int .i64 x.kind), (Value.slice x.da x.data.length x.dc)].toArray) [(Value.int .i64 x.sector), (Value.int .i64 x.kind), (Value.slice x.da x.data.length x.dc)] hs rfl rfl (by decide) (fun b1 w2 hs3 => ?_))
  refine WL.cons rfl (OP.assign (Value.int .i64 0) rfl (by decide) ?_)
  refine WL.nil (Qn.then ?_)
  refine W.seq ?_
  refine W.seq ?_
  refine W.region ?_
  refine WL.cons rfl (OP.move (Value.pointer (some ⟨p, 0, none⟩)) rfl (by decide) ?_)
  refine WL.cons rfl (OP.loadA [(Value.int .i64 x.sector), (Value.int .i64 x.kind), (Value.slice x.da x.data.length x.dc)] ag_48 sz_48 rfl (sat_rdn 0 hs3 rfl rfl) (by decide) ?_)
  have hs4 : sat W0 [RefRep p xs most size, blk b1 [(Value.int .i64 x.sector), (Value.int .i64 x.kind), (Value.slice x.da x.data.length x.dc)] 48, F] w2 := sat_sel' [1, 0, 2] hs3 (by kernel_rfl) (by kernel_rfl)
  have hs5 : sat W0 [RefRep p xs most size, stars [blk b1 [(Value.int .i64 x.sector), (Value.int .i64 x.kind), (Value.slice x.da x.data.length x.dc)] 48, F]] w2 := sat_pack' [RefRep p xs most size] [blk b1 [(Value.int .i64 x.sector), (Value.int .i64 x.kind), (Value.slice x.da x.data.length x.dc)] 48, F] hs4 (by kernel_rfl) (by kernel_rfl)
  have hcl8 := Ref_Right p xs most size x hs5
  refine WL.cons rfl (?_)
  with_reducible refine OP.call [(Value.pointer (some ⟨p, 0, none⟩)), (Value.agg [(Value.int .i64 x.sector), (Value.int .i64 x.kind), (Value.slice x.da x.data.length x.dc)].toArray)] gf_49 ?_ ?_ hcl8 ?_
  · exact rfl
  · decide
  clear hcl8
  rintro _ w6 ⟨_, rfl, rfl, hs7⟩
  refine ⟨_, rfl, ?_⟩
  have hs9 : sat W0 [RefRep p xs most size, blk b1 [(Value.int .i64 x.sector), (Value.int .i64 x.kind), (Value.slice x.da x.data.length x.dc)] 48, F] w6 := sat_flat' [RefRep p xs most size] [blk b1 [(Value.int .i64 x.sector), (Value.int .i64 x.kind), (Value.slice x.da x.data.length x.dc)] 48, F] hs7 (by kernel_rfl) (by kernel_rfl)
  refine WL.cons rfl (OP.not rfl (by decide) ?_)
  refine WL.nil (Qn.then ?_)
  refine W.ite (b := !(rightA size (absB x))) rfl (fun hc10 => ?_) (fun hc10 => ?_)
  · refine W.seq ?_
    refine W.region ?_
    refine WL.cons rfl (OP.assign (Value.int .i64 2) rfl (by decide) ?_)
    refine WL.nil (Qn.then ?_)
    refine W.ret (Qr.then (RetQ.of [(Value.int .i64 2)] (.inr rfl) Try.results15 (.cons (.tmp (by decide) rfl) .nil) ?_))
    have hs12 : sat W0 [RefRep p xs most size, F] w6 := sat_sub' [0, 2] [1] hs9 (by kernel_rfl) (by kernel_rfl)
    exact ⟨xs, (congrArg (Value.int .i64) (put_bad (m := m) (x := absB x) (most := most) (size := size) (by assumption)).1.symm), hxs, (hm.trans (put_bad (m := m) (x := absB x) (most := most) (size := size) (by assumption)).2.symm), hs12⟩
  · refine W.skip (Qn.then ?_)
    refine W.seq ?_
    refine W.region ?_
    refine WL.cons rfl (OP.move (Value.pointer (some ⟨p, 0, none⟩)) rfl (by decide) ?_)
    refine WL.cons rfl (OP.fieldAddr 0 fo_48_0 rfl rfl (by decide) ?_)
    refine WL.cons rfl (OP.loadS (Value.int .i64 x.sector) sc_3 rfl (sat_cell 1 hs9 rfl rfl) (by decide) ?_)
    have hs13 : sat W0 [RefRep p xs most size, stars [blk b1 [(Value.int .i64 x.sector), (Value.int .i64 x.kind), (Value.slice x.da x.data.length x.dc)] 48, F]] w6 := sat_pack' [RefRep p xs most size] [blk b1 [(Value.int .i64 x.sector), (Value.int .i64 x.kind), (Value.slice x.da x.data.length x.dc)] 48, F] hs9 (by kernel_rfl) (by kernel_rfl)
    have hcl16 := Ref_Find p xs most size m x.sector (by first | assumption | omega) (by first | assumption | omega) hs13
    refine WL.cons rfl (?_)
    with_reducible refine OP.call [(Value.pointer (some ⟨p, 0, none⟩)), (Value.int .i64 x.sector)] gf_18 ?_ ?_ hcl16 ?_
    · exact rfl
    · decide
    clear hcl16
    rintro _ w14 ⟨_, rfl, rfl, hs15⟩
    refine ⟨_, rfl, ?_⟩
    have hs17 : sat W0 [RefRep p xs most size, blk b1 [(Value.int .i64 x.sector), (Value.int .i64 x.kind), (Value.slice x.da x.data.length x.dc)] 48, F] w14 := sat_flat' [RefRep p xs most size] [blk b1 [(Value.int .i64 x.sector), (Value.int .i64 x.kind), (Value.slice x.da x.data.length x.dc)] 48, F] hs15 (by kernel_rfl) (by kernel_rfl)
    refine WL.cons rfl (OP.assign (Value.int .i64 (findA m x.sector)) rfl (by decide) ?_)
    refine WL.nil (Qn.then ?_)
    refine W.seq ?_
    refine W.seq ?_
    obtain ⟨a1_18, c1_19, _, hs20⟩ := RefRep_open hs17
    have hs21 : sat W0 [blk p [(Value.slice a1_18 xs.length c1_19), (Value.int .i64 most), (Value.int .i64 size)] 46, SL false 3 a1_18 xs.length c1_19 (xs.flatMap encB), blk b1 [(Value.int .i64 x.sector), (Value.int .i64 x.kind), (Value.slice x.da x.data.length x.dc)] 48, F] w14 := hs20
    refine W.draw (fun w => sat W0 [blk p [(Value.slice a1_18 xs.length c1_19), (Value.int .i64 most), (Value.int .i64 size)] 46, SL false 3 a1_18 xs.length c1_19 (xs.flatMap encB), blk b1 [(Value.int .i64 x.sector), (Value.int .i64 x.kind), (Value.slice x.da x.data.length x.dc)] 48, F] w) (by kernel_rfl) hs21 (fun w22 hs23 => ?_)
    refine WA.take 0 rfl rfl rfl rfl (by kernel_rfl) (by kernel_rfl) (by kernel_rfl) ?_ (by decide) (v := (Value.int .i64 (findA m x.sector))) (fun w25 hw24 => OP.move (Value.int .i64 (findA m x.sector)) rfl (by decide) ⟨rfl, rfl⟩) ?_
    · exact hs23
    refine WA.take 1 rfl rfl rfl rfl (by kernel_rfl) (by kernel_rfl) (by kernel_rfl) ?_ (by decide) (v := (Value.bool (decide (findA m x.sector < 0)))) (fun w27 hw26 => OP.lss rfl rfl (by decide) ⟨rfl, rfl⟩) ?_
    · exact hs23
    refine WA.take 2 rfl rfl rfl rfl (by kernel_rfl) (by kernel_rfl) (by kernel_rfl) ?_ (by decide) (v := (Value.bool (decide (findA m x.sector < 0)))) (fun w29 hw28 => OP.move (Value.bool (decide (findA m x.sector < 0))) rfl (by decide) ⟨rfl, rfl⟩) ?_
    · exact hs23
    by_cases hc30 : findA m x.sector < 0
    · refine WA.takeG 3 rfl rfl rfl rfl rfl (Eq.trans (b := .bool (decide (findA m x.sector < 0))) rfl (congrArg Value.bool (decide_eq_true hc30))) (by kernel_rfl) (by kernel_rfl) (by kernel_rfl) ?_ (by decide) (v := (Value.pointer (some ⟨p, 0, none⟩))) (fun w32 hw31 => OP.move (Value.pointer (some ⟨p, 0, none⟩)) rfl (by decide) ⟨rfl, rfl⟩) ?_
      · exact hs23
      refine WA.takeG 4 rfl rfl rfl rfl rfl (Eq.trans (b := .bool (decide (findA m x.sector < 0))) rfl (congrArg Value.bool (decide_eq_true hc30))) (by kernel_rfl) (by kernel_rfl) (by kernel_rfl) ?_ (by decide) (v := (Value.pointer (some ⟨p, 0, none⟩))) (fun w34 hw33 => OP.nilCheck rfl (by decide) ⟨rfl, rfl⟩) ?_
      · exact hs23
      refine WA.takeG 5 rfl rfl rfl rfl rfl (Eq.trans (b := .bool (decide (findA m x.sector < 0))) rfl (congrArg Value.bool (decide_eq_true hc30))) (by kernel_rfl) (by kernel_rfl) (by kernel_rfl) ?_ (by decide) (v := (Value.pointer (some ⟨p, 0, none⟩))) (fun w36 hw35 => OP.fieldAddr 0 fo_46_0 rfl rfl (by decide) ⟨rfl, rfl⟩) ?_
      · exact hs23
      refine WA.takeG 6 rfl rfl rfl rfl rfl (Eq.trans (b := .bool (decide (findA m x.sector < 0))) rfl (congrArg Value.bool (decide_eq_true hc30))) (by kernel_rfl) (by kernel_rfl) (by kernel_rfl) ?_ (by decide) (v := (Value.slice a1_18 xs.length c1_19)) (fun w38 hw37 => OP.loadS (Value.slice a1_18 xs.length c1_19) sc_44 rfl (sat_cell 0 hw37 rfl rfl) (by decide) ⟨rfl, rfl⟩) ?_
      · exact hs23
      refine WA.takeG 7 rfl rfl rfl rfl rfl (Eq.trans (b := .bool (decide (findA m x.sector < 0))) rfl (congrArg Value.bool (decide_eq_true hc30))) (by kernel_rfl) (by kernel_rfl) (by kernel_rfl) ?_ (by decide) (v := (Value.int .i64 ((xs.length : Nat) : Int))) (fun w40 hw39 => OP.len Try.underlying44 rfl rfl (by decide) ⟨rfl, rfl⟩) ?_
      · exact hs23
      refine WA.takeG 8 rfl rfl rfl rfl rfl (Eq.trans (b := .bool (decide (findA m x.sector < 0))) rfl (congrArg Value.bool (decide_eq_true hc30))) (by kernel_rfl) (by kernel_rfl) (by kernel_rfl) ?_ (by decide) (v := (Value.pointer (some ⟨p, 0, none⟩))) (fun w42 hw41 => OP.move (Value.pointer (some ⟨p, 0, none⟩)) rfl (by decide) ⟨rfl, rfl⟩) ?_
      · exact hs23
      refine WA.takeG 9 rfl rfl rfl rfl rfl (Eq.trans (b := .bool (decide (findA m x.sector < 0))) rfl (congrArg Value.bool (decide_eq_true hc30))) (by kernel_rfl) (by kernel_rfl) (by kernel_rfl) ?_ (by decide) (v := (Value.pointer (some ⟨p, 0, none⟩))) (fun w44 hw43 => OP.nilCheck rfl (by decide) ⟨rfl, rfl⟩) ?_
      · exact hs23
      refine WA.takeG 10 rfl rfl rfl rfl rfl (Eq.trans (b := .bool (decide (findA m x.sector < 0))) rfl (congrArg Value.bool (decide_eq_true hc30))) (by kernel_rfl) (by kernel_rfl) (by kernel_rfl) ?_ (by decide) (v := (Value.pointer (some ⟨p, 1, none⟩))) (fun w46 hw45 => OP.fieldAddr 1 fo_46_1 rfl rfl (by decide) ⟨rfl, rfl⟩) ?_
      · exact hs23
      refine WA.takeG 11 rfl rfl rfl rfl rfl (Eq.trans (b := .bool (decide (findA m x.sector < 0))) rfl (congrArg Value.bool (decide_eq_true hc30))) (by kernel_rfl) (by kernel_rfl) (by kernel_rfl) ?_ (by decide) (v := (Value.int .i64 most)) (fun w48 hw47 => OP.loadS (Value.int .i64 most) sc_3 rfl (sat_cell 0 hw47 rfl rfl) (by decide) ⟨rfl, rfl⟩) ?_
      · exact hs23
      refine WA.takeG 12 rfl rfl rfl rfl rfl (Eq.trans (b := .bool (decide (findA m x.sector < 0))) rfl (congrArg Value.bool (decide_eq_true hc30))) (by kernel_rfl) (by kernel_rfl) (by kernel_rfl) ?_ (by decide) (v := (Value.bool (decide (((xs.length : Nat) : Int) ≥ most)))) (fun w50 hw49 => OP.geq rfl rfl (by decide) ⟨rfl, rfl⟩) ?_
      · exact hs23
      refine WA.take 13 rfl rfl rfl rfl (by kernel_rfl) (by kernel_rfl) (by kernel_rfl) ?_ (by decide) (v := (Value.bool (decide (((xs.length : Nat) : Int) ≥ most)))) (fun w52 hw51 => OP.pickT (Value.bool (decide (((xs.length : Nat) : Int) ≥ most))) (Eq.trans (b := .bool (decide (findA m x.sector < 0))) rfl (congrArg Value.bool (decide_eq_true hc30))) rfl (by decide) ⟨rfl, rfl⟩) ?_
      · exact hs23
      refine WA.done (by kernel_rfl) ?_
      refine (Qn.then ?_)
      refine W.iteP (p := ((xs.length : Nat) : Int) ≥ most) rfl (fun hc53 => ?_) (fun hc53 => ?_)
      · refine W.seq ?_
        refine W.region ?_
        refine WL.cons rfl (OP.assign (Value.int .i64 3) rfl (by decide) ?_)
        refine WL.nil (Qn.then ?_)
        refine W.ret (Qr.then (RetQ.of [(Value.int .i64 3)] (.inr rfl) Try.results15 (.cons (.tmp (by decide) rfl) .nil) ?_))
        have hs55 : sat W0 [RefRep p xs most size, blk b1 [(Value.int .i64 x.sector), (Value.int .i64 x.kind), (Value.slice x.da x.data.length x.dc)] 48, F] w22 := RefRep_close a1_18 c1_19 trivial hs23
        have hs56 : sat W0 [RefRep p xs most size, F] w22 := sat_sub' [0, 2] [1] hs55 (by kernel_rfl) (by kernel_rfl)
        exact ⟨xs, (congrArg (Value.int .i64) (put_full (m := m) (x := absB x) (most := most) (size := size) (by assumption) (by show ¬ 0 ≤ findA m x.sector; omega) (by omega)).1.symm), hxs, (hm.trans (put_full (m := m) (x := absB x) (most := most) (size := size) (by assumption) (by show ¬ 0 ≤ findA m x.sector; omega) (by omega)).2.symm), hs56⟩
      · refine W.skip (Qn.then ?_)
        refine W.seq ?_
        refine W.region ?_
        refine WL.cons rfl (OP.assign (Value.slice none 0 0) rfl (by decide) ?_)
        refine WL.nil (Qn.then ?_)
        refine W.seq ?_
        refine W.seq ?_
        refine W.region ?_
        refine WL.cons rfl (OP.assign (Value.int .i64 0) rfl (by decide) ?_)
        refine WL.nil (Qn.then ?_)
        refine W.block ?_
        have hs57 : sat W0 [SL false 3 none (([] : List BEnt).length) 0 (([] : List BEnt).flatMap encB), blk p [(Value.slice a1_18 xs.length c1_19), (Value.int .i64 most), (Value.int .i64 size)] 46, SL false 3 a1_18 xs.length c1_19 (xs.flatMap encB), blk b1 [(Value.int .i64 x.sector), (Value.int .i64 x.kind), (Value.slice x.da x.data.length x.dc)] 48, F] w22 := sat_SL_nil hs23
        refine W.loop (fun n_ e_ w_ => ∃ k : Nat, ∃ ys : List BEnt, ∃ ya : Option Addr, ∃ yc : Nat, n_ = xs.length - k ∧ e_ 0 = (Value.pointer (some ⟨p, 0, none⟩)) ∧ e_ 3 = (Value.pointer (some ⟨b1, 0, none⟩)) ∧ e_ 4 = (Value.int .i64 0) ∧ e_ 5 = (Value.int .i64 (findA m x.sector)) ∧ e_ 6 = (Value.slice ya ys.length yc) ∧ e_ 7 = (Value.int .i64 ((k : Nat) : Int)) ∧ k ≤ xs.length ∧ ys = putR xs x (findA m x.sector) k ∧ sat W0 [SL false 3 ya ys.length yc (ys.flatMap encB), blk p [(Value.slice a1_18 xs.length c1_19), (Value.int .i64 most), (Value.int .i64 size)] 46, SL false 3 a1_18 xs.length c1_19 (xs.flatMap encB), blk b1 [(Value.int .i64 x.sector), (Value.int .i64 x.kind), (Value.slice x.da x.data.length x.dc)] 48, F] w_) (xs.length - 0) ⟨0, ([] : List BEnt), none, 0, rfl, rfl, rfl, rfl, rfl, (Eq.trans (b := (Value.slice none 0 0)) rfl (by first | rfl | simp_all)), (Eq.trans (b := (Value.int .i64 0)) rfl (congrArg (Value.int .i64) (by first | rfl | omega | simp | (simp; omega)))), (by omega), putR_zero, hs57⟩ ?_
        rintro n58 e59 w60 ⟨k, ys, ya, yc, hn62, he63, he64, he65, he66, he67, he68, hp69, hp70, hs61⟩
        have hys_ := hp70
        have hyl_ := putR_len hys_ (by assumption)
        refine W.seq ?_
        refine W.seq ?_
        refine W.region ?_
        refine WL.cons rfl (OP.move (Value.int .i64 ((k : Nat) : Int)) he68 (by decide) ?_)
        refine WL.cons rfl (OP.move (Value.pointer (some ⟨p, 0, none⟩)) he63 (by decide) ?_)
        refine WL.cons rfl (OP.nilCheck rfl (by decide) ?_)
        refine WL.cons rfl (OP.fieldAddr 0 fo_46_0 rfl rfl (by decide) ?_)
        refine WL.cons rfl (OP.loadS (Value.slice a1_18 xs.length c1_19) sc_44 rfl (sat_cell 1 hs61 rfl rfl) (by decide) ?_)
        refine WL.cons rfl (OP.len Try.underlying44 rfl rfl (by decide) ?_)
        refine WL.cons rfl (OP.lss rfl rfl (by decide) ?_)
        refine WL.nil (Qn.then ?_)
        refine W.iteP (p := ((k : Nat) : Int) < ((xs.length : Nat) : Int)) rfl (fun hc71 => ?_) (fun hc71 => ?_)
        · refine W.skip (Qn.then ?_)
          refine W.seq ?_
          refine W.block ?_
          refine W.seq ?_
          refine W.region ?_
          refine WL.cons rfl (OP.move (Value.int .i64 ((k : Nat) : Int)) he68 (by decide) ?_)
          refine WL.cons rfl (OP.move (Value.int .i64 (findA m x.sector)) he66 (by decide) ?_)
          refine WL.cons rfl (OP.eqI rfl rfl (by decide) ?_)
          refine WL.nil (Qn.then ?_)
          refine W.iteP (p := ((k : Nat) : Int) = findA m x.sector) rfl (fun hc72 => ?_) (fun hc72 => ?_)
          · refine W.region ?_
            refine WL.cons rfl (OP.move (Value.slice ya ys.length yc) he67 (by decide) ?_)
            refine WL.cons rfl (OP.loadA [(Value.int .i64 x.sector), (Value.int .i64 x.kind), (Value.slice x.da x.data.length x.dc)] ag_48 sz_48 he64 (sat_rdn 3 hs61 rfl rfl) (by decide) ?_)
            refine WL.cons rfl (OP.buildSlice (el := 48) [(0, (Value.agg [(Value.int .i64 x.sector), (Value.int .i64 x.kind), (Value.slice x.da x.data.length x.dc)].toArray))] [(Value.int .i64 x.sector), (Value.int .i64 x.kind), (Value.slice x.da x.data.length x.dc)] hs61 rfl (fun _ => by kernel_rfl) (by decide) (fun b73 w74 hs75 => ?_))
            have hs76 : sat W0 [SL false 3 (some ⟨b73, 0, none⟩) 1 1 ([(Value.int .i64 x.sector), (Value.int .i64 x.kind), (Value.slice x.da x.data.length x.dc)]), SL false 3 ya ys.length yc (ys.flatMap encB), blk p [(Value.slice a1_18 xs.length c1_19), (Value.int .i64 most), (Value.int .i64 size)] 46, SL false 3 a1_18 xs.length c1_19 (xs.flatMap encB), blk b1 [(Value.int .i64 x.sector), (Value.int .i64 x.kind), (Value.slice x.da x.data.length x.dc)] 48, F] w74 := sat_SL_blk rfl hs75
            have hs77 : sat W0 [SL false 3 ya ys.length yc (ys.flatMap encB), SL false 3 (some ⟨b73, 0, none⟩) 1 1 ([(Value.int .i64 x.sector), (Value.int .i64 x.kind), (Value.slice x.da x.data.length x.dc)]), blk p [(Value.slice a1_18 xs.length c1_19), (Value.int .i64 most), (Value.int .i64 size)] 46, SL false 3 a1_18 xs.length c1_19 (xs.flatMap encB), blk b1 [(Value.int .i64 x.sector), (Value.int .i64 x.kind), (Value.slice x.da x.data.length x.dc)] 48, F] w74 := sat_sel' [1, 0, 2, 3, 4, 5] hs76 (by kernel_rfl) (by kernel_rfl)
            refine WL.cons rfl (OP.append' (z := [(Value.int .i64 0), (Value.int .i64 0), (Value.slice none 0 0)]) ((ys ++ [x]).length) ((ys ++ [x]).flatMap encB) hs77 (Ent_sat 1 rfl Ent_SL hs77) Try.underlying44 sz_48 by_48 ze_48 rfl rfl (by simp; omega) (by simp; omega) (by simp [Value.oneCell']) rfl rfl rfl (by simp) (by simp [encB]) (by decide) (fun a78 c79 w80 hs81 => ?_))
            have hs82 : sat W0 [SL false 3 a78 ((ys ++ [x]).length) c79 ((ys ++ [x]).flatMap encB), SL false 3 (some ⟨b73, 0, none⟩) 1 1 ([(Value.int .i64 x.sector), (Value.int .i64 x.kind), (Value.slice x.da x.data.length x.dc)]), blk p [(Value.slice a1_18 xs.length c1_19), (Value.int .i64 most), (Value.int .i64 size)] 46, SL false 3 a1_18 xs.length c1_19 (xs.flatMap encB), blk b1 [(Value.int .i64 x.sector), (Value.int .i64 x.kind), (Value.slice x.da x.data.length x.dc)] 48, F] w80 := hs81
            refine WL.cons rfl (OP.assign (Value.slice a78 ((ys ++ [x]).length) c79) rfl (by decide) ?_)
            refine WL.nil (Qn.blk (Qn.then ?_))
            refine W.region ?_
            refine WL.cons rfl (OP.move (Value.int .i64 ((k : Nat) : Int)) he68 (by decide) ?_)
            refine WL.cons rfl (OP.add ((k + 1 : Nat) : Int) rfl rfl (by first | rfl | omega | simp) (by unfold inI64; omega) (by decide) ?_)
            refine WL.cons rfl (OP.assign (Value.int .i64 ((k + 1 : Nat) : Int)) rfl (by decide) ?_)
            refine WL.nil (Qn.then ?_)
            have hs83 : sat W0 [SL false 3 a78 ((ys ++ [x]).length) c79 ((ys ++ [x]).flatMap encB), blk p [(Value.slice a1_18 xs.length c1_19), (Value.int .i64 most), (Value.int .i64 size)] 46, SL false 3 a1_18 xs.length c1_19 (xs.flatMap encB), blk b1 [(Value.int .i64 x.sector), (Value.int .i64 x.kind), (Value.slice x.da x.data.length x.dc)] 48, F] w80 := sat_sub' [0, 2, 3, 4, 5] [1] hs82 (by kernel_rfl) (by kernel_rfl)
            exact ⟨_, (by omega), (k + 1), (ys ++ [x]), a78, c79, rfl, he63, he64, he65, he66, rfl, (Eq.trans (b := (Value.int .i64 ((k + 1 : Nat) : Int))) rfl (congrArg (Value.int .i64) (by first | rfl | omega | simp | (simp; omega)))), (by omega), (by first | exact (putR_hit hys_ (by omega) (by assumption)) | exact (putR_miss hys_ (by omega) (by assumption))), hs83⟩
          · refine W.region ?_
            refine WL.cons rfl (OP.move (Value.slice ya ys.length yc) he67 (by decide) ?_)
            refine WL.cons rfl (OP.move (Value.pointer (some ⟨p, 0, none⟩)) he63 (by decide) ?_)
            refine WL.cons rfl (OP.nilCheck rfl (by decide) ?_)
            refine WL.cons rfl (OP.fieldAddr 0 fo_46_0 rfl rfl (by decide) ?_)
            refine WL.cons rfl (OP.loadS (Value.slice a1_18 xs.length c1_19) sc_44 rfl (sat_cell 1 hs61 rfl rfl) (by decide) ?_)
            refine WL.cons rfl (OP.move (Value.int .i64 ((k : Nat) : Int)) he68 (by decide) ?_)
            have hi52_ : k < xs.length := by omega
            refine WL.cons rfl (OP.indexR k (Ent_sat 2 rfl Ent_SL hs61) Try.underlying44 sz_48 rfl rfl rfl hi52_ (by decide) ?_)
            refine WL.cons rfl (OP.loadAR (encB (xs.getD k default)) (Ent_sat 2 rfl Ent_SL hs61) (recs_take (enc := encB) (fun _ => rfl) hi52_) ag_48 sz_48 rfl (by decide) ?_)
            refine WL.cons rfl (OP.buildSlice (el := 48) [(0, (Value.agg [(Value.int .i64 ((xs.getD k default).sector)), (Value.int .i64 ((xs.getD k default).kind)), (Value.slice ((xs.getD k default).da) ((xs.getD k default).data.length) ((xs.getD k default).dc))].toArray))] [(Value.int .i64 ((xs.getD k default).sector)), (Value.int .i64 ((xs.getD k default).kind)), (Value.slice ((xs.getD k default).da) ((xs.getD k default).data.length) ((xs.getD k default).dc))] hs61 rfl (fun _ => by kernel_rfl) (by decide) (fun b84 w85 hs86 => ?_))
            have hs87 : sat W0 [SL false 3 (some ⟨b84, 0, none⟩) 1 1 ([(Value.int .i64 ((xs.getD k default).sector)), (Value.int .i64 ((xs.getD k default).kind)), (Value.slice ((xs.getD k default).da) ((xs.getD k default).data.length) ((xs.getD k default).dc))]), SL false 3 ya ys.length yc (ys.flatMap encB), blk p [(Value.slice a1_18 xs.length c1_19), (Value.int .i64 most), (Value.int .i64 size)] 46, SL false 3 a1_18 xs.length c1_19 (xs.flatMap encB), blk b1 [(Value.int .i64 x.sector), (Value.int .i64 x.kind), (Value.slice x.da x.data.length x.dc)] 48, F] w85 := sat_SL_blk rfl hs86
            have hs88 : sat W0 [SL false 3 ya ys.length yc (ys.flatMap encB), SL false 3 (some ⟨b84, 0, none⟩) 1 1 ([(Value.int .i64 ((xs.getD k default).sector)), (Value.int .i64 ((xs.getD k default).kind)), (Value.slice ((xs.getD k default).da) ((xs.getD k default).data.length) ((xs.getD k default).dc))]), blk p [(Value.slice a1_18 xs.length c1_19), (Value.int .i64 most), (Value.int .i64 size)] 46, SL false 3 a1_18 xs.length c1_19 (xs.flatMap encB), blk b1 [(Value.int .i64 x.sector), (Value.int .i64 x.kind), (Value.slice x.da x.data.length x.dc)] 48, F] w85 := sat_sel' [1, 0, 2, 3, 4, 5] hs87 (by kernel_rfl) (by kernel_rfl)
            refine WL.cons rfl (OP.append' (z := [(Value.int .i64 0), (Value.int .i64 0), (Value.slice none 0 0)]) ((ys ++ [(xs.getD k default)]).length) ((ys ++ [(xs.getD k default)]).flatMap encB) hs88 (Ent_sat 1 rfl Ent_SL hs88) Try.underlying44 sz_48 by_48 ze_48 rfl rfl (by simp; omega) (by simp; omega) (by simp [Value.oneCell']) rfl rfl rfl (by simp) (by simp [encB]) (by decide) (fun a89 c90 w91 hs92 => ?_))
            have hs93 : sat W0 [SL false 3 a89 ((ys ++ [(xs.getD k default)]).length) c90 ((ys ++ [(xs.getD k default)]).flatMap encB), SL false 3 (some ⟨b84, 0, none⟩) 1 1 ([(Value.int .i64 ((xs.getD k default).sector)), (Value.int .i64 ((xs.getD k default).kind)), (Value.slice ((xs.getD k default).da) ((xs.getD k default).data.length) ((xs.getD k default).dc))]), blk p [(Value.slice a1_18 xs.length c1_19), (Value.int .i64 most), (Value.int .i64 size)] 46, SL false 3 a1_18 xs.length c1_19 (xs.flatMap encB), blk b1 [(Value.int .i64 x.sector), (Value.int .i64 x.kind), (Value.slice x.da x.data.length x.dc)] 48, F] w91 := hs92
            refine WL.cons rfl (OP.assign (Value.slice a89 ((ys ++ [(xs.getD k default)]).length) c90) rfl (by decide) ?_)
            refine WL.nil (Qn.blk (Qn.then ?_))
            refine W.region ?_
            refine WL.cons rfl (OP.move (Value.int .i64 ((k : Nat) : Int)) he68 (by decide) ?_)
            refine WL.cons rfl (OP.add ((k + 1 : Nat) : Int) rfl rfl (by first | rfl | omega | simp) (by unfold inI64; omega) (by decide) ?_)
            refine WL.cons rfl (OP.assign (Value.int .i64 ((k + 1 : Nat) : Int)) rfl (by decide) ?_)
            refine WL.nil (Qn.then ?_)
            have hs94 : sat W0 [SL false 3 a89 ((ys ++ [(xs.getD k default)]).length) c90 ((ys ++ [(xs.getD k default)]).flatMap encB), blk p [(Value.slice a1_18 xs.length c1_19), (Value.int .i64 most), (Value.int .i64 size)] 46, SL false 3 a1_18 xs.length c1_19 (xs.flatMap encB), blk b1 [(Value.int .i64 x.sector), (Value.int .i64 x.kind), (Value.slice x.da x.data.length x.dc)] 48, F] w91 := sat_sub' [0, 2, 3, 4, 5] [1] hs93 (by kernel_rfl) (by kernel_rfl)
            exact ⟨_, (by omega), (k + 1), (ys ++ [(xs.getD k default)]), a89, c90, rfl, he63, he64, he65, he66, rfl, (Eq.trans (b := (Value.int .i64 ((k + 1 : Nat) : Int))) rfl (congrArg (Value.int .i64) (by first | rfl | omega | simp | (simp; omega)))), (by omega), (by first | exact (putR_hit hys_ (by omega) (by assumption)) | exact (putR_miss hys_ (by omega) (by assumption))), hs94⟩
        · refine W.exit (Qx.then (Qx.then (Qx.hit (Qn.then ?_))))
          refine W.seq ?_
          refine W.seq ?_
          refine W.region ?_
          refine WL.cons rfl (OP.move (Value.int .i64 (findA m x.sector)) he66 (by decide) ?_)
          refine WL.cons rfl (OP.lss rfl rfl (by decide) ?_)
          refine WL.nil (Qn.then ?_)
          refine W.iteP (p := findA m x.sector < 0) rfl (fun hc95 => ?_) (fun hc95 => ?_)
          · refine W.region ?_
            refine WL.cons rfl (OP.move (Value.slice ya ys.length yc) he67 (by decide) ?_)
            refine WL.cons rfl (OP.loadA [(Value.int .i64 x.sector), (Value.int .i64 x.kind), (Value.slice x.da x.data.length x.dc)] ag_48 sz_48 he64 (sat_rdn 3 hs61 rfl rfl) (by decide) ?_)
            refine WL.cons rfl (OP.buildSlice (el := 48) [(0, (Value.agg [(Value.int .i64 x.sector), (Value.int .i64 x.kind), (Value.slice x.da x.data.length x.dc)].toArray))] [(Value.int .i64 x.sector), (Value.int .i64 x.kind), (Value.slice x.da x.data.length x.dc)] hs61 rfl (fun _ => by kernel_rfl) (by decide) (fun b96 w97 hs98 => ?_))
            have hs99 : sat W0 [SL false 3 (some ⟨b96, 0, none⟩) 1 1 ([(Value.int .i64 x.sector), (Value.int .i64 x.kind), (Value.slice x.da x.data.length x.dc)]), SL false 3 ya ys.length yc (ys.flatMap encB), blk p [(Value.slice a1_18 xs.length c1_19), (Value.int .i64 most), (Value.int .i64 size)] 46, SL false 3 a1_18 xs.length c1_19 (xs.flatMap encB), blk b1 [(Value.int .i64 x.sector), (Value.int .i64 x.kind), (Value.slice x.da x.data.length x.dc)] 48, F] w97 := sat_SL_blk rfl hs98
            have hs100 : sat W0 [SL false 3 ya ys.length yc (ys.flatMap encB), SL false 3 (some ⟨b96, 0, none⟩) 1 1 ([(Value.int .i64 x.sector), (Value.int .i64 x.kind), (Value.slice x.da x.data.length x.dc)]), blk p [(Value.slice a1_18 xs.length c1_19), (Value.int .i64 most), (Value.int .i64 size)] 46, SL false 3 a1_18 xs.length c1_19 (xs.flatMap encB), blk b1 [(Value.int .i64 x.sector), (Value.int .i64 x.kind), (Value.slice x.da x.data.length x.dc)] 48, F] w97 := sat_sel' [1, 0, 2, 3, 4, 5] hs99 (by kernel_rfl) (by kernel_rfl)
            refine WL.cons rfl (OP.append' (z := [(Value.int .i64 0), (Value.int .i64 0), (Value.slice none 0 0)]) ((ys ++ [x]).length) ((ys ++ [x]).flatMap encB) hs100 (Ent_sat 1 rfl Ent_SL hs100) Try.underlying44 sz_48 by_48 ze_48 rfl rfl (by simp; omega) (by simp; omega) (by simp [Value.oneCell']) rfl rfl rfl (by simp) (by simp [encB]) (by decide) (fun a101 c102 w103 hs104 => ?_))
            have hs105 : sat W0 [SL false 3 a101 ((ys ++ [x]).length) c102 ((ys ++ [x]).flatMap encB), SL false 3 (some ⟨b96, 0, none⟩) 1 1 ([(Value.int .i64 x.sector), (Value.int .i64 x.kind), (Value.slice x.da x.data.length x.dc)]), blk p [(Value.slice a1_18 xs.length c1_19), (Value.int .i64 most), (Value.int .i64 size)] 46, SL false 3 a1_18 xs.length c1_19 (xs.flatMap encB), blk b1 [(Value.int .i64 x.sector), (Value.int .i64 x.kind), (Value.slice x.da x.data.length x.dc)] 48, F] w103 := hs104
            refine WL.cons rfl (OP.assign (Value.slice a101 ((ys ++ [x]).length) c102) rfl (by decide) ?_)
            refine WL.nil (Qn.then ?_)
            refine W.seq ?_
            refine W.region ?_
            refine WL.cons rfl (OP.move (Value.pointer (some ⟨p, 0, none⟩)) he63 (by decide) ?_)
            refine WL.cons rfl (OP.move (Value.slice a101 ((ys ++ [x]).length) c102) rfl (by decide) ?_)
            refine WL.cons rfl (OP.nilCheck rfl (by decide) ?_)
            refine WL.cons rfl (OP.fieldAddr 0 fo_46_0 rfl rfl (by decide) ?_)
            have hs106 : sat W0 [blk p [(Value.slice a1_18 xs.length c1_19), (Value.int .i64 most), (Value.int .i64 size)] 46, SL false 3 a101 ((ys ++ [x]).length) c102 ((ys ++ [x]).flatMap encB), SL false 3 (some ⟨b96, 0, none⟩) 1 1 ([(Value.int .i64 x.sector), (Value.int .i64 x.kind), (Value.slice x.da x.data.length x.dc)]), SL false 3 a1_18 xs.length c1_19 (xs.flatMap encB), blk b1 [(Value.int .i64 x.sector), (Value.int .i64 x.kind), (Value.slice x.da x.data.length x.dc)] 48, F] w103 := sat_sel' [2, 0, 1, 3, 4, 5] hs105 (by kernel_rfl) (by kernel_rfl)
            refine WL.cons rfl (OP.store (Value.slice a101 ((ys ++ [x]).length) c102) [(Value.slice a101 ((ys ++ [x]).length) c102)] hs106 rfl rfl rfl sz_44 rfl (by rfl) (by simp) (fun w107 hs108 => ?_))
            have hs109 : sat W0 [blk p [(Value.slice a101 ((ys ++ [x]).length) c102), (Value.int .i64 most), (Value.int .i64 size)] 46, SL false 3 a101 ((ys ++ [x]).length) c102 ((ys ++ [x]).flatMap encB), SL false 3 (some ⟨b96, 0, none⟩) 1 1 ([(Value.int .i64 x.sector), (Value.int .i64 x.kind), (Value.slice x.da x.data.length x.dc)]), SL false 3 a1_18 xs.length c1_19 (xs.flatMap encB), blk b1 [(Value.int .i64 x.sector), (Value.int .i64 x.kind), (Value.slice x.da x.data.length x.dc)] 48, F] w107 := hs108
            refine WL.nil (Qn.then ?_)
            refine W.seq ?_
            refine W.region ?_
            refine WL.cons rfl (OP.assign (Value.int .i64 0) rfl (by decide) ?_)
            refine WL.nil (Qn.then ?_)
            refine W.ret (RetQ.of [(Value.int .i64 0)] (.inr rfl) Try.results15 (.cons (.tmp (by decide) rfl) .nil) ?_)
            have hs111 : sat W0 [RefRep p (ys ++ [x]) most size, SL false 3 (some ⟨b96, 0, none⟩) 1 1 ([(Value.int .i64 x.sector), (Value.int .i64 x.kind), (Value.slice x.da x.data.length x.dc)]), SL false 3 a1_18 xs.length c1_19 (xs.flatMap encB), blk b1 [(Value.int .i64 x.sector), (Value.int .i64 x.kind), (Value.slice x.da x.data.length x.dc)] 48, F] w107 := RefRep_close a101 c102 trivial hs109
            have hs112 : sat W0 [RefRep p (ys ++ [x]) most size, F] w107 := sat_sub' [0, 4] [1, 2, 3] hs111 (by kernel_rfl) (by kernel_rfl)
            exact ⟨(ys ++ [x]), (congrArg (Value.int .i64) (put_new (m := m) (x := absB x) (most := most) (size := size) (by assumption) (by show ¬ 0 ≤ findA m x.sector; omega) (by omega)).1.symm), (InD.snoc (putr_ind hxs hx hys_) hx), ((abs_snoc (putr_none (k := k) hm hys_ (by omega) (by omega)) rfl).trans (put_new (m := m) (x := absB x) (most := most) (size := size) (by assumption) (by show ¬ 0 ≤ findA m x.sector; omega) (by omega)).2.symm), hs112⟩
          · refine W.skip (Qn.then ?_)
            refine W.seq ?_
            refine W.region ?_
            refine WL.cons rfl (OP.move (Value.pointer (some ⟨p, 0, none⟩)) he63 (by decide) ?_)
            refine WL.cons rfl (OP.move (Value.slice ya ys.length yc) he67 (by decide) ?_)
            refine WL.cons rfl (OP.nilCheck rfl (by decide) ?_)
            refine WL.cons rfl (OP.fieldAddr 0 fo_46_0 rfl rfl (by decide) ?_)
            have hs113 : sat W0 [blk p [(Value.slice a1_18 xs.length c1_19), (Value.int .i64 most), (Value.int .i64 size)] 46, SL false 3 ya ys.length yc (ys.flatMap encB), SL false 3 a1_18 xs.length c1_19 (xs.flatMap encB), blk b1 [(Value.int .i64 x.sector), (Value.int .i64 x.kind), (Value.slice x.da x.data.length x.dc)] 48, F] w60 := sat_sel' [1, 0, 2, 3, 4] hs61 (by kernel_rfl) (by kernel_rfl)
            refine WL.cons rfl (OP.store (Value.slice ya ys.length yc) [(Value.slice ya ys.length yc)] hs113 rfl rfl rfl sz_44 rfl (by rfl) (by simp) (fun w114 hs115 => ?_))
            have hs116 : sat W0 [blk p [(Value.slice ya ys.length yc), (Value.int .i64 most), (Value.int .i64 size)] 46, SL false 3 ya ys.length yc (ys.flatMap encB), SL false 3 a1_18 xs.length c1_19 (xs.flatMap encB), blk b1 [(Value.int .i64 x.sector), (Value.int .i64 x.kind), (Value.slice x.da x.data.length x.dc)] 48, F] w114 := hs115
            refine WL.nil (Qn.then ?_)
            refine W.seq ?_
            refine W.region ?_
            refine WL.cons rfl (OP.assign (Value.int .i64 0) rfl (by decide) ?_)
            refine WL.nil (Qn.then ?_)
            refine W.ret (RetQ.of [(Value.int .i64 0)] (.inr rfl) Try.results15 (.cons (.tmp (by decide) rfl) .nil) ?_)
            have hs118 : sat W0 [RefRep p ys most size, SL false 3 a1_18 xs.length c1_19 (xs.flatMap encB), blk b1 [(Value.int .i64 x.sector), (Value.int .i64 x.kind), (Value.slice x.da x.data.length x.dc)] 48, F] w114 := RefRep_close ya yc trivial hs116
            have hs119 : sat W0 [RefRep p ys most size, F] w114 := sat_sub' [0, 3] [1, 2] hs118 (by kernel_rfl) (by kernel_rfl)
            exact ⟨ys, (congrArg (Value.int .i64) (put_set (m := m) (x := absB x) (most := most) (size := size) (by assumption) (by show 0 ≤ findA m x.sector; omega)).1.symm), (putr_ind hxs hx hys_), ((putr_some (k := k) hm hys_ (by omega) (by omega)).trans (put_set (m := m) (x := absB x) (most := most) (size := size) (by assumption) (by show 0 ≤ findA m x.sector; omega)).2.symm), hs119⟩
    · refine WA.passG 3 rfl rfl rfl rfl (Eq.trans (b := .bool (decide (findA m x.sector < 0))) rfl (congrArg Value.bool (decide_eq_false hc30))) rfl (by kernel_rfl) (by kernel_rfl) (by kernel_rfl) ?_ (by decide) ?_
      · exact hs23
      refine WA.passG 4 rfl rfl rfl rfl (Eq.trans (b := .bool (decide (findA m x.sector < 0))) rfl (congrArg Value.bool (decide_eq_false hc30))) rfl (by kernel_rfl) (by kernel_rfl) (by kernel_rfl) ?_ (by decide) ?_
      · exact hs23
      refine WA.passG 5 rfl rfl rfl rfl (Eq.trans (b := .bool (decide (findA m x.sector < 0))) rfl (congrArg Value.bool (decide_eq_false hc30))) rfl (by kernel_rfl) (by kernel_rfl) (by kernel_rfl) ?_ (by decide) ?_
      · exact hs23
      refine WA.passG 6 rfl rfl rfl rfl (Eq.trans (b := .bool (decide (findA m x.sector < 0))) rfl (congrArg Value.bool (decide_eq_false hc30))) rfl (by kernel_rfl) (by kernel_rfl) (by kernel_rfl) ?_ (by decide) ?_
      · exact hs23
      refine WA.passG 7 rfl rfl rfl rfl (Eq.trans (b := .bool (decide (findA m x.sector < 0))) rfl (congrArg Value.bool (decide_eq_false hc30))) rfl (by kernel_rfl) (by kernel_rfl) (by kernel_rfl) ?_ (by decide) ?_
      · exact hs23
      refine WA.passG 8 rfl rfl rfl rfl (Eq.trans (b := .bool (decide (findA m x.sector < 0))) rfl (congrArg Value.bool (decide_eq_false hc30))) rfl (by kernel_rfl) (by kernel_rfl) (by kernel_rfl) ?_ (by decide) ?_
      · exact hs23
      refine WA.passG 9 rfl rfl rfl rfl (Eq.trans (b := .bool (decide (findA m x.sector < 0))) rfl (congrArg Value.bool (decide_eq_false hc30))) rfl (by kernel_rfl) (by kernel_rfl) (by kernel_rfl) ?_ (by decide) ?_
      · exact hs23
      refine WA.passG 10 rfl rfl rfl rfl (Eq.trans (b := .bool (decide (findA m x.sector < 0))) rfl (congrArg Value.bool (decide_eq_false hc30))) rfl (by kernel_rfl) (by kernel_rfl) (by kernel_rfl) ?_ (by decide) ?_
      · exact hs23
      refine WA.passG 11 rfl rfl rfl rfl (Eq.trans (b := .bool (decide (findA m x.sector < 0))) rfl (congrArg Value.bool (decide_eq_false hc30))) rfl (by kernel_rfl) (by kernel_rfl) (by kernel_rfl) ?_ (by decide) ?_
      · exact hs23
      refine WA.passG 12 rfl rfl rfl rfl (Eq.trans (b := .bool (decide (findA m x.sector < 0))) rfl (congrArg Value.bool (decide_eq_false hc30))) rfl (by kernel_rfl) (by kernel_rfl) (by kernel_rfl) ?_ (by decide) ?_
      · exact hs23
      refine WA.take 13 rfl rfl rfl rfl (by kernel_rfl) (by kernel_rfl) (by kernel_rfl) ?_ (by decide) (v := (Value.bool false)) (fun w121 hw120 => OP.pickF (Value.bool false) (Eq.trans (b := .bool (decide (findA m x.sector < 0))) rfl (congrArg Value.bool (decide_eq_false hc30))) rfl (by decide) ⟨rfl, rfl⟩) ?_
      · exact hs23
      refine WA.done (by kernel_rfl) ?_
      refine (Qn.then ?_)
      refine W.iteF rfl ?_
      refine W.skip (Qn.then ?_)
      refine W.seq ?_
      refine W.region ?_
      refine WL.cons rfl (OP.assign (Value.slice none 0 0) rfl (by decide) ?_)
      refine WL.nil (Qn.then ?_)
      refine W.seq ?_
      refine W.seq ?_
      refine W.region ?_
      refine WL.cons rfl (OP.assign (Value.int .i64 0) rfl (by decide) ?_)
      refine WL.nil (Qn.then ?_)
      refine W.block ?_
      have hs122 : sat W0 [SL false 3 none (([] : List BEnt).length) 0 (([] : List BEnt).flatMap encB), blk p [(Value.slice a1_18 xs.length c1_19), (Value.int .i64 most), (Value.int .i64 size)] 46, SL false 3 a1_18 xs.length c1_19 (xs.flatMap encB), blk b1 [(Value.int .i64 x.sector), (Value.int .i64 x.kind), (Value.slice x.da x.data.length x.dc)] 48, F] w22 := sat_SL_nil hs23
      refine W.loop (fun n_ e_ w_ => ∃ k : Nat, ∃ ys : List BEnt, ∃ ya : Option Addr, ∃ yc : Nat, n_ = xs.length - k ∧ e_ 0 = (Value.pointer (some ⟨p, 0, none⟩)) ∧ e_ 3 = (Value.pointer (some ⟨b1, 0, none⟩)) ∧ e_ 4 = (Value.int .i64 0) ∧ e_ 5 = (Value.int .i64 (findA m x.sector)) ∧ e_ 6 = (Value.slice ya ys.length yc) ∧ e_ 7 = (Value.int .i64 ((k : Nat) : Int)) ∧ k ≤ xs.length ∧ ys = putR xs x (findA m x.sector) k ∧ sat W0 [SL false 3 ya ys.length yc (ys.flatMap encB), blk p [(Value.slice a1_18 xs.length c1_19), (Value.int .i64 most), (Value.int .i64 size)] 46, SL false 3 a1_18 xs.length c1_19 (xs.flatMap encB), blk b1 [(Value.int .i64 x.sector), (Value.int .i64 x.kind), (Value.slice x.da x.data.length x.dc)] 48, F] w_) (xs.length - 0) ⟨0, ([] : List BEnt), none, 0, rfl, rfl, rfl, rfl, rfl, (Eq.trans (b := (Value.slice none 0 0)) rfl (by first | rfl | simp_all)), (Eq.trans (b := (Value.int .i64 0)) rfl (congrArg (Value.int .i64) (by first | rfl | omega | simp | (simp; omega)))), (by omega), putR_zero, hs122⟩ ?_
      rintro n123 e124 w125 ⟨k, ys, ya, yc, hn127, he128, he129, he130, he131, he132, he133, hp134, hp135, hs126⟩
      have hys_ := hp135
      have hyl_ := putR_len hys_ (by assumption)
      refine W.seq ?_
      refine W.seq ?_
      refine W.region ?_
      refine WL.cons rfl (OP.move (Value.int .i64 ((k : Nat) : Int)) he133 (by decide) ?_)
      refine WL.cons rfl (OP.move (Value.pointer (some ⟨p, 0, none⟩)) he128 (by decide) ?_)
      refine WL.cons rfl (OP.nilCheck rfl (by decide) ?_)
      refine WL.cons rfl (OP.fieldAddr 0 fo_46_0 rfl rfl (by decide) ?_)
      refine WL.cons rfl (OP.loadS (Value.slice a1_18 xs.length c1_19) sc_44 rfl (sat_cell 1 hs126 rfl rfl) (by decide) ?_)
      refine WL.cons rfl (OP.len Try.underlying44 rfl rfl (by decide) ?_)
      refine WL.cons rfl (OP.lss rfl rfl (by decide) ?_)
      refine WL.nil (Qn.then ?_)
      refine W.iteP (p := ((k : Nat) : Int) < ((xs.length : Nat) : Int)) rfl (fun hc136 => ?_) (fun hc136 => ?_)
      · refine W.skip (Qn.then ?_)
        refine W.seq ?_
        refine W.block ?_
        refine W.seq ?_
        refine W.region ?_
        refine WL.cons rfl (OP.move (Value.int .i64 ((k : Nat) : Int)) he133 (by decide) ?_)
        refine WL.cons rfl (OP.move (Value.int .i64 (findA m x.sector)) he131 (by decide) ?_)
        refine WL.cons rfl (OP.eqI rfl rfl (by decide) ?_)
        refine WL.nil (Qn.then ?_)
        refine W.iteP (p := ((k : Nat) : Int) = findA m x.sector) rfl (fun hc137 => ?_) (fun hc137 => ?_)
        · refine W.region ?_
          refine WL.cons rfl (OP.move (Value.slice ya ys.length yc) he132 (by decide) ?_)
          refine WL.cons rfl (OP.loadA [(Value.int .i64 x.sector), (Value.int .i64 x.kind), (Value.slice x.da x.data.length x.dc)] ag_48 sz_48 he129 (sat_rdn 3 hs126 rfl rfl) (by decide) ?_)
          refine WL.cons rfl (OP.buildSlice (el := 48) [(0, (Value.agg [(Value.int .i64 x.sector), (Value.int .i64 x.kind), (Value.slice x.da x.data.length x.dc)].toArray))] [(Value.int .i64 x.sector), (Value.int .i64 x.kind), (Value.slice x.da x.data.length x.dc)] hs126 rfl (fun _ => by kernel_rfl) (by decide) (fun b138 w139 hs140 => ?_))
          have hs141 : sat W0 [SL false 3 (some ⟨b138, 0, none⟩) 1 1 ([(Value.int .i64 x.sector), (Value.int .i64 x.kind), (Value.slice x.da x.data.length x.dc)]), SL false 3 ya ys.length yc (ys.flatMap encB), blk p [(Value.slice a1_18 xs.length c1_19), (Value.int .i64 most), (Value.int .i64 size)] 46, SL false 3 a1_18 xs.length c1_19 (xs.flatMap encB), blk b1 [(Value.int .i64 x.sector), (Value.int .i64 x.kind), (Value.slice x.da x.data.length x.dc)] 48, F] w139 := sat_SL_blk rfl hs140
          have hs142 : sat W0 [SL false 3 ya ys.length yc (ys.flatMap encB), SL false 3 (some ⟨b138, 0, none⟩) 1 1 ([(Value.int .i64 x.sector), (Value.int .i64 x.kind), (Value.slice x.da x.data.length x.dc)]), blk p [(Value.slice a1_18 xs.length c1_19), (Value.int .i64 most), (Value.int .i64 size)] 46, SL false 3 a1_18 xs.length c1_19 (xs.flatMap encB), blk b1 [(Value.int .i64 x.sector), (Value.int .i64 x.kind), (Value.slice x.da x.data.length x.dc)] 48, F] w139 := sat_sel' [1, 0, 2, 3, 4, 5] hs141 (by kernel_rfl) (by kernel_rfl)
          refine WL.cons rfl (OP.append' (z := [(Value.int .i64 0), (Value.int .i64 0), (Value.slice none 0 0)]) ((ys ++ [x]).length) ((ys ++ [x]).flatMap encB) hs142 (Ent_sat 1 rfl Ent_SL hs142) Try.underlying44 sz_48 by_48 ze_48 rfl rfl (by simp; omega) (by simp; omega) (by simp [Value.oneCell']) rfl rfl rfl (by simp) (by simp [encB]) (by decide) (fun a143 c144 w145 hs146 => ?_))
          have hs147 : sat W0 [SL false 3 a143 ((ys ++ [x]).length) c144 ((ys ++ [x]).flatMap encB), SL false 3 (some ⟨b138, 0, none⟩) 1 1 ([(Value.int .i64 x.sector), (Value.int .i64 x.kind), (Value.slice x.da x.data.length x.dc)]), blk p [(Value.slice a1_18 xs.length c1_19), (Value.int .i64 most), (Value.int .i64 size)] 46, SL false 3 a1_18 xs.length c1_19 (xs.flatMap encB), blk b1 [(Value.int .i64 x.sector), (Value.int .i64 x.kind), (Value.slice x.da x.data.length x.dc)] 48, F] w145 := hs146
          refine WL.cons rfl (OP.assign (Value.slice a143 ((ys ++ [x]).length) c144) rfl (by decide) ?_)
          refine WL.nil (Qn.blk (Qn.then ?_))
          refine W.region ?_
          refine WL.cons rfl (OP.move (Value.int .i64 ((k : Nat) : Int)) he133 (by decide) ?_)
          refine WL.cons rfl (OP.add ((k + 1 : Nat) : Int) rfl rfl (by first | rfl | omega | simp) (by unfold inI64; omega) (by decide) ?_)
          refine WL.cons rfl (OP.assign (Value.int .i64 ((k + 1 : Nat) : Int)) rfl (by decide) ?_)
          refine WL.nil (Qn.then ?_)
          have hs148 : sat W0 [SL false 3 a143 ((ys ++ [x]).length) c144 ((ys ++ [x]).flatMap encB), blk p [(Value.slice a1_18 xs.length c1_19), (Value.int .i64 most), (Value.int .i64 size)] 46, SL false 3 a1_18 xs.length c1_19 (xs.flatMap encB), blk b1 [(Value.int .i64 x.sector), (Value.int .i64 x.kind), (Value.slice x.da x.data.length x.dc)] 48, F] w145 := sat_sub' [0, 2, 3, 4, 5] [1] hs147 (by kernel_rfl) (by kernel_rfl)
          exact ⟨_, (by omega), (k + 1), (ys ++ [x]), a143, c144, rfl, he128, he129, he130, he131, rfl, (Eq.trans (b := (Value.int .i64 ((k + 1 : Nat) : Int))) rfl (congrArg (Value.int .i64) (by first | rfl | omega | simp | (simp; omega)))), (by omega), (by first | exact (putR_hit hys_ (by omega) (by assumption)) | exact (putR_miss hys_ (by omega) (by assumption))), hs148⟩
        · refine W.region ?_
          refine WL.cons rfl (OP.move (Value.slice ya ys.length yc) he132 (by decide) ?_)
          refine WL.cons rfl (OP.move (Value.pointer (some ⟨p, 0, none⟩)) he128 (by decide) ?_)
          refine WL.cons rfl (OP.nilCheck rfl (by decide) ?_)
          refine WL.cons rfl (OP.fieldAddr 0 fo_46_0 rfl rfl (by decide) ?_)
          refine WL.cons rfl (OP.loadS (Value.slice a1_18 xs.length c1_19) sc_44 rfl (sat_cell 1 hs126 rfl rfl) (by decide) ?_)
          refine WL.cons rfl (OP.move (Value.int .i64 ((k : Nat) : Int)) he133 (by decide) ?_)
          have hi52_ : k < xs.length := by omega
          refine WL.cons rfl (OP.indexR k (Ent_sat 2 rfl Ent_SL hs126) Try.underlying44 sz_48 rfl rfl rfl hi52_ (by decide) ?_)
          refine WL.cons rfl (OP.loadAR (encB (xs.getD k default)) (Ent_sat 2 rfl Ent_SL hs126) (recs_take (enc := encB) (fun _ => rfl) hi52_) ag_48 sz_48 rfl (by decide) ?_)
          refine WL.cons rfl (OP.buildSlice (el := 48) [(0, (Value.agg [(Value.int .i64 ((xs.getD k default).sector)), (Value.int .i64 ((xs.getD k default).kind)), (Value.slice ((xs.getD k default).da) ((xs.getD k default).data.length) ((xs.getD k default).dc))].toArray))] [(Value.int .i64 ((xs.getD k default).sector)), (Value.int .i64 ((xs.getD k default).kind)), (Value.slice ((xs.getD k default).da) ((xs.getD k default).data.length) ((xs.getD k default).dc))] hs126 rfl (fun _ => by kernel_rfl) (by decide) (fun b149 w150 hs151 => ?_))
          have hs152 : sat W0 [SL false 3 (some ⟨b149, 0, none⟩) 1 1 ([(Value.int .i64 ((xs.getD k default).sector)), (Value.int .i64 ((xs.getD k default).kind)), (Value.slice ((xs.getD k default).da) ((xs.getD k default).data.length) ((xs.getD k default).dc))]), SL false 3 ya ys.length yc (ys.flatMap encB), blk p [(Value.slice a1_18 xs.length c1_19), (Value.int .i64 most), (Value.int .i64 size)] 46, SL false 3 a1_18 xs.length c1_19 (xs.flatMap encB), blk b1 [(Value.int .i64 x.sector), (Value.int .i64 x.kind), (Value.slice x.da x.data.length x.dc)] 48, F] w150 := sat_SL_blk rfl hs151
          have hs153 : sat W0 [SL false 3 ya ys.length yc (ys.flatMap encB), SL false 3 (some ⟨b149, 0, none⟩) 1 1 ([(Value.int .i64 ((xs.getD k default).sector)), (Value.int .i64 ((xs.getD k default).kind)), (Value.slice ((xs.getD k default).da) ((xs.getD k default).data.length) ((xs.getD k default).dc))]), blk p [(Value.slice a1_18 xs.length c1_19), (Value.int .i64 most), (Value.int .i64 size)] 46, SL false 3 a1_18 xs.length c1_19 (xs.flatMap encB), blk b1 [(Value.int .i64 x.sector), (Value.int .i64 x.kind), (Value.slice x.da x.data.length x.dc)] 48, F] w150 := sat_sel' [1, 0, 2, 3, 4, 5] hs152 (by kernel_rfl) (by kernel_rfl)
          refine WL.cons rfl (OP.append' (z := [(Value.int .i64 0), (Value.int .i64 0), (Value.slice none 0 0)]) ((ys ++ [(xs.getD k default)]).length) ((ys ++ [(xs.getD k default)]).flatMap encB) hs153 (Ent_sat 1 rfl Ent_SL hs153) Try.underlying44 sz_48 by_48 ze_48 rfl rfl (by simp; omega) (by simp; omega) (by simp [Value.oneCell']) rfl rfl rfl (by simp) (by simp [encB]) (by decide) (fun a154 c155 w156 hs157 => ?_))
          have hs158 : sat W0 [SL false 3 a154 ((ys ++ [(xs.getD k default)]).length) c155 ((ys ++ [(xs.getD k default)]).flatMap encB), SL false 3 (some ⟨b149, 0, none⟩) 1 1 ([(Value.int .i64 ((xs.getD k default).sector)), (Value.int .i64 ((xs.getD k default).kind)), (Value.slice ((xs.getD k default).da) ((xs.getD k default).data.length) ((xs.getD k default).dc))]), blk p [(Value.slice a1_18 xs.length c1_19), (Value.int .i64 most), (Value.int .i64 size)] 46, SL false 3 a1_18 xs.length c1_19 (xs.flatMap encB), blk b1 [(Value.int .i64 x.sector), (Value.int .i64 x.kind), (Value.slice x.da x.data.length x.dc)] 48, F] w156 := hs157
          refine WL.cons rfl (OP.assign (Value.slice a154 ((ys ++ [(xs.getD k default)]).length) c155) rfl (by decide) ?_)
          refine WL.nil (Qn.blk (Qn.then ?_))
          refine W.region ?_
          refine WL.cons rfl (OP.move (Value.int .i64 ((k : Nat) : Int)) he133 (by decide) ?_)
          refine WL.cons rfl (OP.add ((k + 1 : Nat) : Int) rfl rfl (by first | rfl | omega | simp) (by unfold inI64; omega) (by decide) ?_)
          refine WL.cons rfl (OP.assign (Value.int .i64 ((k + 1 : Nat) : Int)) rfl (by decide) ?_)
          refine WL.nil (Qn.then ?_)
          have hs159 : sat W0 [SL false 3 a154 ((ys ++ [(xs.getD k default)]).length) c155 ((ys ++ [(xs.getD k default)]).flatMap encB), blk p [(Value.slice a1_18 xs.length c1_19), (Value.int .i64 most), (Value.int .i64 size)] 46, SL false 3 a1_18 xs.length c1_19 (xs.flatMap encB), blk b1 [(Value.int .i64 x.sector), (Value.int .i64 x.kind), (Value.slice x.da x.data.length x.dc)] 48, F] w156 := sat_sub' [0, 2, 3, 4, 5] [1] hs158 (by kernel_rfl) (by kernel_rfl)
          exact ⟨_, (by omega), (k + 1), (ys ++ [(xs.getD k default)]), a154, c155, rfl, he128, he129, he130, he131, rfl, (Eq.trans (b := (Value.int .i64 ((k + 1 : Nat) : Int))) rfl (congrArg (Value.int .i64) (by first | rfl | omega | simp | (simp; omega)))), (by omega), (by first | exact (putR_hit hys_ (by omega) (by assumption)) | exact (putR_miss hys_ (by omega) (by assumption))), hs159⟩
      · refine W.exit (Qx.then (Qx.then (Qx.hit (Qn.then ?_))))
        refine W.seq ?_
        refine W.seq ?_
        refine W.region ?_
        refine WL.cons rfl (OP.move (Value.int .i64 (findA m x.sector)) he131 (by decide) ?_)
        refine WL.cons rfl (OP.lss rfl rfl (by decide) ?_)
        refine WL.nil (Qn.then ?_)
        refine W.iteP (p := findA m x.sector < 0) rfl (fun hc160 => ?_) (fun hc160 => ?_)
        · refine W.region ?_
          refine WL.cons rfl (OP.move (Value.slice ya ys.length yc) he132 (by decide) ?_)
          refine WL.cons rfl (OP.loadA [(Value.int .i64 x.sector), (Value.int .i64 x.kind), (Value.slice x.da x.data.length x.dc)] ag_48 sz_48 he129 (sat_rdn 3 hs126 rfl rfl) (by decide) ?_)
          refine WL.cons rfl (OP.buildSlice (el := 48) [(0, (Value.agg [(Value.int .i64 x.sector), (Value.int .i64 x.kind), (Value.slice x.da x.data.length x.dc)].toArray))] [(Value.int .i64 x.sector), (Value.int .i64 x.kind), (Value.slice x.da x.data.length x.dc)] hs126 rfl (fun _ => by kernel_rfl) (by decide) (fun b161 w162 hs163 => ?_))
          have hs164 : sat W0 [SL false 3 (some ⟨b161, 0, none⟩) 1 1 ([(Value.int .i64 x.sector), (Value.int .i64 x.kind), (Value.slice x.da x.data.length x.dc)]), SL false 3 ya ys.length yc (ys.flatMap encB), blk p [(Value.slice a1_18 xs.length c1_19), (Value.int .i64 most), (Value.int .i64 size)] 46, SL false 3 a1_18 xs.length c1_19 (xs.flatMap encB), blk b1 [(Value.int .i64 x.sector), (Value.int .i64 x.kind), (Value.slice x.da x.data.length x.dc)] 48, F] w162 := sat_SL_blk rfl hs163
          have hs165 : sat W0 [SL false 3 ya ys.length yc (ys.flatMap encB), SL false 3 (some ⟨b161, 0, none⟩) 1 1 ([(Value.int .i64 x.sector), (Value.int .i64 x.kind), (Value.slice x.da x.data.length x.dc)]), blk p [(Value.slice a1_18 xs.length c1_19), (Value.int .i64 most), (Value.int .i64 size)] 46, SL false 3 a1_18 xs.length c1_19 (xs.flatMap encB), blk b1 [(Value.int .i64 x.sector), (Value.int .i64 x.kind), (Value.slice x.da x.data.length x.dc)] 48, F] w162 := sat_sel' [1, 0, 2, 3, 4, 5] hs164 (by kernel_rfl) (by kernel_rfl)
          refine WL.cons rfl (OP.append' (z := [(Value.int .i64 0), (Value.int .i64 0), (Value.slice none 0 0)]) ((ys ++ [x]).length) ((ys ++ [x]).flatMap encB) hs165 (Ent_sat 1 rfl Ent_SL hs165) Try.underlying44 sz_48 by_48 ze_48 rfl rfl (by simp; omega) (by simp; omega) (by simp [Value.oneCell']) rfl rfl rfl (by simp) (by simp [encB]) (by decide) (fun a166 c167 w168 hs169 => ?_))
          have hs170 : sat W0 [SL false 3 a166 ((ys ++ [x]).length) c167 ((ys ++ [x]).flatMap encB), SL false 3 (some ⟨b161, 0, none⟩) 1 1 ([(Value.int .i64 x.sector), (Value.int .i64 x.kind), (Value.slice x.da x.data.length x.dc)]), blk p [(Value.slice a1_18 xs.length c1_19), (Value.int .i64 most), (Value.int .i64 size)] 46, SL false 3 a1_18 xs.length c1_19 (xs.flatMap encB), blk b1 [(Value.int .i64 x.sector), (Value.int .i64 x.kind), (Value.slice x.da x.data.length x.dc)] 48, F] w168 := hs169
          refine WL.cons rfl (OP.assign (Value.slice a166 ((ys ++ [x]).length) c167) rfl (by decide) ?_)
          refine WL.nil (Qn.then ?_)
          refine W.seq ?_
          refine W.region ?_
          refine WL.cons rfl (OP.move (Value.pointer (some ⟨p, 0, none⟩)) he128 (by decide) ?_)
          refine WL.cons rfl (OP.move (Value.slice a166 ((ys ++ [x]).length) c167) rfl (by decide) ?_)
          refine WL.cons rfl (OP.nilCheck rfl (by decide) ?_)
          refine WL.cons rfl (OP.fieldAddr 0 fo_46_0 rfl rfl (by decide) ?_)
          have hs171 : sat W0 [blk p [(Value.slice a1_18 xs.length c1_19), (Value.int .i64 most), (Value.int .i64 size)] 46, SL false 3 a166 ((ys ++ [x]).length) c167 ((ys ++ [x]).flatMap encB), SL false 3 (some ⟨b161, 0, none⟩) 1 1 ([(Value.int .i64 x.sector), (Value.int .i64 x.kind), (Value.slice x.da x.data.length x.dc)]), SL false 3 a1_18 xs.length c1_19 (xs.flatMap encB), blk b1 [(Value.int .i64 x.sector), (Value.int .i64 x.kind), (Value.slice x.da x.data.length x.dc)] 48, F] w168 := sat_sel' [2, 0, 1, 3, 4, 5] hs170 (by kernel_rfl) (by kernel_rfl)
          refine WL.cons rfl (OP.store (Value.slice a166 ((ys ++ [x]).length) c167) [(Value.slice a166 ((ys ++ [x]).length) c167)] hs171 rfl rfl rfl sz_44 rfl (by rfl) (by simp) (fun w172 hs173 => ?_))
          have hs174 : sat W0 [blk p [(Value.slice a166 ((ys ++ [x]).length) c167), (Value.int .i64 most), (Value.int .i64 size)] 46, SL false 3 a166 ((ys ++ [x]).length) c167 ((ys ++ [x]).flatMap encB), SL false 3 (some ⟨b161, 0, none⟩) 1 1 ([(Value.int .i64 x.sector), (Value.int .i64 x.kind), (Value.slice x.da x.data.length x.dc)]), SL false 3 a1_18 xs.length c1_19 (xs.flatMap encB), blk b1 [(Value.int .i64 x.sector), (Value.int .i64 x.kind), (Value.slice x.da x.data.length x.dc)] 48, F] w172 := hs173
          refine WL.nil (Qn.then ?_)
          refine W.seq ?_
          refine W.region ?_
          refine WL.cons rfl (OP.assign (Value.int .i64 0) rfl (by decide) ?_)
          refine WL.nil (Qn.then ?_)
          refine W.ret (RetQ.of [(Value.int .i64 0)] (.inr rfl) Try.results15 (.cons (.tmp (by decide) rfl) .nil) ?_)
          have hs176 : sat W0 [RefRep p (ys ++ [x]) most size, SL false 3 (some ⟨b161, 0, none⟩) 1 1 ([(Value.int .i64 x.sector), (Value.int .i64 x.kind), (Value.slice x.da x.data.length x.dc)]), SL false 3 a1_18 xs.length c1_19 (xs.flatMap encB), blk b1 [(Value.int .i64 x.sector), (Value.int .i64 x.kind), (Value.slice x.da x.data.length x.dc)] 48, F] w172 := RefRep_close a166 c167 trivial hs174
          have hs177 : sat W0 [RefRep p (ys ++ [x]) most size, F] w172 := sat_sub' [0, 4] [1, 2, 3] hs176 (by kernel_rfl) (by kernel_rfl)
          exact ⟨(ys ++ [x]), (congrArg (Value.int .i64) (put_new (m := m) (x := absB x) (most := most) (size := size) (by assumption) (by show ¬ 0 ≤ findA m x.sector; omega) (by omega)).1.symm), (InD.snoc (putr_ind hxs hx hys_) hx), ((abs_snoc (putr_none (k := k) hm hys_ (by omega) (by omega)) rfl).trans (put_new (m := m) (x := absB x) (most := most) (size := size) (by assumption) (by show ¬ 0 ≤ findA m x.sector; omega) (by omega)).2.symm), hs177⟩
        · refine W.skip (Qn.then ?_)
          refine W.seq ?_
          refine W.region ?_
          refine WL.cons rfl (OP.move (Value.pointer (some ⟨p, 0, none⟩)) he128 (by decide) ?_)
          refine WL.cons rfl (OP.move (Value.slice ya ys.length yc) he132 (by decide) ?_)
          refine WL.cons rfl (OP.nilCheck rfl (by decide) ?_)
          refine WL.cons rfl (OP.fieldAddr 0 fo_46_0 rfl rfl (by decide) ?_)
          have hs178 : sat W0 [blk p [(Value.slice a1_18 xs.length c1_19), (Value.int .i64 most), (Value.int .i64 size)] 46, SL false 3 ya ys.length yc (ys.flatMap encB), SL false 3 a1_18 xs.length c1_19 (xs.flatMap encB), blk b1 [(Value.int .i64 x.sector), (Value.int .i64 x.kind), (Value.slice x.da x.data.length x.dc)] 48, F] w125 := sat_sel' [1, 0, 2, 3, 4] hs126 (by kernel_rfl) (by kernel_rfl)
          refine WL.cons rfl (OP.store (Value.slice ya ys.length yc) [(Value.slice ya ys.length yc)] hs178 rfl rfl rfl sz_44 rfl (by rfl) (by simp) (fun w179 hs180 => ?_))
          have hs181 : sat W0 [blk p [(Value.slice ya ys.length yc), (Value.int .i64 most), (Value.int .i64 size)] 46, SL false 3 ya ys.length yc (ys.flatMap encB), SL false 3 a1_18 xs.length c1_19 (xs.flatMap encB), blk b1 [(Value.int .i64 x.sector), (Value.int .i64 x.kind), (Value.slice x.da x.data.length x.dc)] 48, F] w179 := hs180
          refine WL.nil (Qn.then ?_)
          refine W.seq ?_
          refine W.region ?_
          refine WL.cons rfl (OP.assign (Value.int .i64 0) rfl (by decide) ?_)
          refine WL.nil (Qn.then ?_)
          refine W.ret (RetQ.of [(Value.int .i64 0)] (.inr rfl) Try.results15 (.cons (.tmp (by decide) rfl) .nil) ?_)
          have hs183 : sat W0 [RefRep p ys most size, SL false 3 a1_18 xs.length c1_19 (xs.flatMap encB), blk b1 [(Value.int .i64 x.sector), (Value.int .i64 x.kind), (Value.slice x.da x.data.length x.dc)] 48, F] w179 := RefRep_close ya yc trivial hs181
          have hs184 : sat W0 [RefRep p ys most size, F] w179 := sat_sub' [0, 3] [1, 2] hs183 (by kernel_rfl) (by kernel_rfl)
          exact ⟨ys, (congrArg (Value.int .i64) (put_set (m := m) (x := absB x) (most := most) (size := size) (by assumption) (by show 0 ≤ findA m x.sector; omega)).1.symm), (putr_ind hxs hx hys_), ((putr_some (k := k) hm hys_ (by omega) (by omega)).trans (put_set (m := m) (x := absB x) (most := most) (size := size) (by assumption) (by show 0 ≤ findA m x.sector; omega)).2.symm), hs184⟩

end Go.Proofs.Ytleolejhkdolpaa
