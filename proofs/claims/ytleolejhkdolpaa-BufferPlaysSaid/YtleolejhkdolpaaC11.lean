import Derived.Test.YtleolejhkdolpaaC10
import Derived.Test.YtleolejhkdolpaaC8
import Derived.KernelRfl
set_option linter.unusedVariables false
set_option linter.unusedSimpArgs false
set_option maxRecDepth 100000
set_option maxHeartbeats 4000000
namespace Go.Proofs.Ytleolejhkdolpaa
open Go Go.RowKit Sv
theorem Ref_Drop {W0 : World} {F : HProp} {w : World}  (p : Nat) (xs : List BEnt) (most : Int) (size : Int) (m : List AEnt) (a : Option Addr) (c : Nat) (ss : List Int) (hm : xs.map absB = m) (hn : xs.length ≤ 1099511627) (hsn : ss.length ≤ 1099511627) (hr : Ent W0 F (fun w => Rd w 1 a ss.length (ss.map (Value.int .i64))))
    (hs : sat W0 [RefRep p xs most size, F] w) :
    Calls Try.prog 22 ([(Value.pointer (some ⟨p, 0, none⟩)), (Value.slice a ss.length c)] : List Value).toArray w (fun x_ w' => ∃ v_, x_ = .returned v_ ∧ (∃ xs_ : List BEnt, v_ = (Value.int .i64 (((m.length : Nat) : Int) - (((dropM m ss).length : Nat) : Int))) ∧ (∀ y ∈ xs_, y ∈ xs) ∧ xs_.map absB = dropM m ss ∧ sat W0 [RefRep p xs_ most size, F] w')) := by
  have hal_ := abs_len hm
  refine W.enter Try.func22 rfl Try.ntmps22 (by simp) ?_
  refine W.seq ?_
  refine W.region ?_
  refine WL.cons rfl (OP.assign (Value.int .i64 0) rfl (by decide) ?_)
  refine WL.nil (Qn.then ?_)
  refine W.seq ?_
  refine W.region ?_
  refine WL.cons rfl (OP.assign (Value.slice none 0 0) rfl (by decide) ?_)
  refine WL.nil (Qn.then ?_)
  refine W.seq ?_
  refine W.seq ?_
  refine W.region ?_
  refine WL.cons rfl (OP.assign (Value.int .i64 0) rfl (by decide) ?_)
  refine WL.nil (Qn.then ?_)
  refine W.block ?_
  have hs1 : sat W0 [SL false 3 none (([] : List BEnt).length) 0 (([] : List BEnt).flatMap encB), RefRep p xs most size, F] w := sat_SL_nil hs
  refine W.loop (fun n_ e_ w_ => ∃ k : Nat, ∃ ys : List BEnt, ∃ ya : Option Addr, ∃ yc : Nat, n_ = xs.length - k ∧ e_ 0 = (Value.pointer (some ⟨p, 0, none⟩)) ∧ e_ 1 = (Value.slice a ss.length c) ∧ e_ 4 = (Value.int .i64 0) ∧ e_ 5 = (Value.slice ya ys.length yc) ∧ e_ 6 = (Value.int .i64 ((k : Nat) : Int)) ∧ k ≤ xs.length ∧ ys = keepR xs ss k ∧ sat W0 [SL false 3 ya ys.length yc (ys.flatMap encB), RefRep p xs most size, F] w_) (xs.length - 0) ⟨0, ([] : List BEnt), none, 0, rfl, rfl, rfl, rfl, (Eq.trans (b := (Value.slice none 0 0)) rfl (by first | rfl | simp_all)), (Eq.trans (b := (Value.int .i64 0)) rfl (congrArg (Value.int .i64) (by first | rfl | omega | simp | (simp; omega)))), (by omega), rfl, hs1⟩ ?_
  rintro n2 e3 w4 ⟨k, ys, ya, yc, hn6, he7, he8, he9, he10, he11, hp12, hp13, hs5⟩
  have hys_ := hp13
  have hyl_ := keepR_len hys_
  refine W.seq ?_
  refine W.seq ?_
  refine W.region ?_
  refine WL.cons rfl (OP.move (Value.int .i64 ((k : Nat) : Int)) he11 (by decide) ?_)
  refine WL.cons rfl (OP.move (Value.pointer (some ⟨p, 0, none⟩)) he7 (by decide) ?_)
  refine WL.cons rfl (OP.nilCheck rfl (by decide) ?_)
  refine WL.cons rfl (OP.fieldAddr 0 fo_46_0 rfl rfl (by decide) ?_)
  have hs14 : sat W0 [RefRep p xs most size, SL false 3 ya ys.length yc (ys.flatMap encB), F] w4 := sat_sel' [1, 0, 2] hs5 (by kernel_rfl) (by kernel_rfl)
  obtain ⟨a1_15, c1_16, _, hs17⟩ := RefRep_open hs14
  have hs18 : sat W0 [blk p [(Value.slice a1_15 xs.length c1_16), (Value.int .i64 most), (Value.int .i64 size)] 46, SL false 3 a1_15 xs.length c1_16 (xs.flatMap encB), SL false 3 ya ys.length yc (ys.flatMap encB), F] w4 := hs17
  refine WL.cons rfl (OP.loadS (Value.slice a1_15 xs.length c1_16) sc_44 rfl (sat_cell 0 hs18 rfl rfl) (by decide) ?_)
  refine WL.cons rfl (OP.len Try.underlying44 rfl rfl (by decide) ?_)
  refine WL.cons rfl (OP.lss rfl rfl (by decide) ?_)
  refine WL.nil (Qn.then ?_)
  refine W.iteP (p := ((k : Nat) : Int) < ((xs.length : Nat) : Int)) rfl (fun hc19 => ?_) (fun hc19 => ?_)
  · refine W.skip (Qn.then ?_)
    refine W.seq ?_
    refine W.block ?_
    refine W.seq ?_
    refine W.region ?_
    refine WL.cons rfl (OP.assign (Value.bool false) rfl (by decide) ?_)
    refine WL.nil (Qn.then ?_)
    refine W.seq ?_
    refine W.seq ?_
    refine W.region ?_
    refine WL.cons rfl (OP.assign (Value.int .i64 0) rfl (by decide) ?_)
    refine WL.nil (Qn.then ?_)
    refine W.block ?_
    refine W.loop (fun n_ e_ w_ => ∃ j : Nat, n_ = ss.length - j ∧ e_ 0 = (Value.pointer (some ⟨p, 0, none⟩)) ∧ e_ 1 = (Value.slice a ss.length c) ∧ e_ 4 = (Value.int .i64 0) ∧ e_ 5 = (Value.slice ya ys.length yc) ∧ e_ 6 = (Value.int .i64 ((k : Nat) : Int)) ∧ e_ 7 = (Value.bool (decide ((xs.getD k default).sector ∈ ss.take j))) ∧ e_ 8 = (Value.int .i64 ((j : Nat) : Int)) ∧ e_ 10 = (Value.int .i64 ((k : Nat) : Int)) ∧ e_ 11 = (Value.pointer (some ⟨p, 0, none⟩)) ∧ e_ 12 = (Value.pointer (some ⟨p, 0, none⟩)) ∧ e_ 13 = (Value.pointer (some ⟨p, 0, none⟩)) ∧ e_ 14 = (Value.slice a1_15 xs.length c1_16) ∧ e_ 15 = (Value.int .i64 ((xs.length : Nat) : Int)) ∧ e_ 16 = (Value.bool (decide (((k : Nat) : Int) < ((xs.length : Nat) : Int)))) ∧ j ≤ ss.length ∧ sat W0 [blk p [(Value.slice a1_15 xs.length c1_16), (Value.int .i64 most), (Value.int .i64 size)] 46, SL false 3 a1_15 xs.length c1_16 (xs.flatMap encB), SL false 3 ya ys.length yc (ys.flatMap encB), F] w_) (ss.length - 0) ⟨0, rfl, he7, he8, he9, he10, he11, (Eq.trans (b := (Value.bool false)) rfl (congrArg Value.bool (by first | rfl | assumption | simp_all))), (Eq.trans (b := (Value.int .i64 0)) rfl (congrArg (Value.int .i64) (by first | rfl | omega | simp | (simp; omega)))), rfl, rfl, rfl, rfl, rfl, rfl, rfl, (by omega), hs18⟩ ?_
    rintro n20 e21 w22 ⟨j, hn24, he25, he26, he27, he28, he29, he30, he31, he32, he33, he34, he35, he36, he37, he38, hp39, hs23⟩
    refine W.seq ?_
    refine W.seq ?_
    refine W.region ?_
    refine WL.cons rfl (OP.move (Value.int .i64 ((j : Nat) : Int)) he31 (by decide) ?_)
    refine WL.cons rfl (OP.move (Value.slice a ss.length c) he26 (by decide) ?_)
    refine WL.cons rfl (OP.len Try.underlying22 rfl rfl (by decide) ?_)
    refine WL.cons rfl (OP.lss rfl rfl (by decide) ?_)
    refine WL.nil (Qn.then ?_)
    refine W.iteP (p := ((j : Nat) : Int) < ((ss.length : Nat) : Int)) rfl (fun hc40 => ?_) (fun hc40 => ?_)
    · refine W.skip (Qn.then ?_)
      refine W.seq ?_
      refine W.block ?_
      refine W.seq ?_
      refine W.draw (fun w => sat W0 [blk p [(Value.slice a1_15 xs.length c1_16), (Value.int .i64 most), (Value.int .i64 size)] 46, SL false 3 a1_15 xs.length c1_16 (xs.flatMap encB), SL false 3 ya ys.length yc (ys.flatMap encB), F] w) (by kernel_rfl) hs23 (fun w41 hs42 => ?_)
      refine WA.take 0 rfl rfl rfl rfl (by kernel_rfl) (by kernel_rfl) (by kernel_rfl) ?_ (by decide) (v := (Value.slice a ss.length c)) (fun w44 hw43 => OP.move (Value.slice a ss.length c) he26 (by decide) ⟨rfl, rfl⟩) ?_
      · exact hs42
      refine WA.take 1 rfl rfl rfl rfl (by kernel_rfl) (by kernel_rfl) (by kernel_rfl) ?_ (by decide) (v := (Value.int .i64 ((j : Nat) : Int))) (fun w46 hw45 => OP.move (Value.int .i64 ((j : Nat) : Int)) he31 (by decide) ⟨rfl, rfl⟩) ?_
      · exact hs42
      have hi27_ : j < ss.length := by omega
      refine WA.take 2 rfl rfl rfl rfl (by kernel_rfl) (by kernel_rfl) (by kernel_rfl) ?_ (by decide) (v := (Value.pointer (some (adr a (j * 1))))) (fun w48 hw47 => OP.indexR j (Ent_sat 3 rfl hr hw47) Try.underlying22 sz_3 rfl rfl rfl hi27_ (by decide) ⟨rfl, rfl⟩) ?_
      · exact hs42
      refine WA.take 3 rfl rfl rfl rfl (by kernel_rfl) (by kernel_rfl) (by kernel_rfl) ?_ (by decide) (v := (Value.int .i64 (ss.getD j 0))) (fun w50 hw49 => OP.loadSR (Value.int .i64 (ss.getD j 0)) (Ent_sat 3 rfl hr hw49) (ints_get hi27_) sc_3 rfl (by decide) ⟨rfl, rfl⟩) ?_
      · exact hs42
      refine WA.take 4 rfl rfl rfl rfl (by kernel_rfl) (by kernel_rfl) (by kernel_rfl) ?_ (by decide) (v := (Value.pointer (some ⟨p, 0, none⟩))) (fun w52 hw51 => OP.move (Value.pointer (some ⟨p, 0, none⟩)) he25 (by decide) ⟨rfl, rfl⟩) ?_
      · exact hs42
      refine WA.take 5 rfl rfl rfl rfl (by kernel_rfl) (by kernel_rfl) (by kernel_rfl) ?_ (by decide) (v := (Value.pointer (some ⟨p, 0, none⟩))) (fun w54 hw53 => OP.nilCheck rfl (by decide) ⟨rfl, rfl⟩) ?_
      · exact hs42
      refine WA.take 6 rfl rfl rfl rfl (by kernel_rfl) (by kernel_rfl) (by kernel_rfl) ?_ (by decide) (v := (Value.pointer (some ⟨p, 0, none⟩))) (fun w56 hw55 => OP.fieldAddr 0 fo_46_0 rfl rfl (by decide) ⟨rfl, rfl⟩) ?_
      · exact hs42
      refine WA.take 7 rfl rfl rfl rfl (by kernel_rfl) (by kernel_rfl) (by kernel_rfl) ?_ (by decide) (v := (Value.slice a1_15 xs.length c1_16)) (fun w58 hw57 => OP.loadS (Value.slice a1_15 xs.length c1_16) sc_44 rfl (sat_cell 0 hw57 rfl rfl) (by decide) ⟨rfl, rfl⟩) ?_
      · exact hs42
      refine WA.take 8 rfl rfl rfl rfl (by kernel_rfl) (by kernel_rfl) (by kernel_rfl) ?_ (by decide) (v := (Value.int .i64 ((k : Nat) : Int))) (fun w60 hw59 => OP.move (Value.int .i64 ((k : Nat) : Int)) he29 (by decide) ⟨rfl, rfl⟩) ?_
      · exact hs42
      have hi34_ : k < xs.length := by omega
      refine WA.take 9 rfl rfl rfl rfl (by kernel_rfl) (by kernel_rfl) (by kernel_rfl) ?_ (by decide) (v := (Value.pointer (some (adr a1_15 (k * 3))))) (fun w62 hw61 => OP.indexR k (Ent_sat 1 rfl Ent_SL hw61) Try.underlying44 sz_48 rfl rfl rfl hi34_ (by decide) ⟨rfl, rfl⟩) ?_
      · exact hs42
      refine WA.take 10 rfl rfl rfl rfl (by kernel_rfl) (by kernel_rfl) (by kernel_rfl) ?_ (by decide) (v := (Value.pointer (some (adr a1_15 (k * 3 + 0))))) (fun w64 hw63 => OP.fieldAddrR fo_48_0 rfl (by decide) ⟨rfl, rfl⟩) ?_
      · exact hs42
      refine WA.take 11 rfl rfl rfl rfl (by kernel_rfl) (by kernel_rfl) (by kernel_rfl) ?_ (by decide) (v := (Value.int .i64 ((xs.getD k default).sector))) (fun w66 hw65 => OP.loadSR (Value.int .i64 ((xs.getD k default).sector)) (Ent_sat 1 rfl Ent_SL hw65) (recs_get (enc := encB) (fun _ => rfl) hi34_ rfl) sc_3 rfl (by decide) ⟨rfl, rfl⟩) ?_
      · exact hs42
      refine WA.take 12 rfl rfl rfl rfl (by kernel_rfl) (by kernel_rfl) (by kernel_rfl) ?_ (by decide) (v := (Value.bool (decide (ss.getD j 0 = (xs.getD k default).sector)))) (fun w68 hw67 => OP.eqI rfl rfl (by decide) ⟨rfl, rfl⟩) ?_
      · exact hs42
      refine WA.done (by kernel_rfl) ?_
      refine (Qn.then ?_)
      refine W.iteP (p := ss.getD j 0 = (xs.getD k default).sector) rfl (fun hc69 => ?_) (fun hc69 => ?_)
      · refine W.region ?_
        refine WL.cons rfl (OP.assign (Value.bool true) rfl (by decide) ?_)
        refine WL.nil (Qn.blk (Qn.then ?_))
        refine W.region ?_
        refine WL.cons rfl (OP.move (Value.int .i64 ((j : Nat) : Int)) he31 (by decide) ?_)
        refine WL.cons rfl (OP.add ((j + 1 : Nat) : Int) rfl rfl (by first | rfl | omega | simp) (by unfold inI64; omega) (by decide) ?_)
        refine WL.cons rfl (OP.assign (Value.int .i64 ((j + 1 : Nat) : Int)) rfl (by decide) ?_)
        refine WL.nil (Qn.then ?_)
        exact ⟨_, (by omega), (j + 1), rfl, he25, he26, he27, he28, he29, (Eq.trans (b := (Value.bool true)) rfl (congrArg Value.bool (by first | exact named_hit (by omega) (by assumption) | exact named_miss (by omega) (by assumption)))), (Eq.trans (b := (Value.int .i64 ((j + 1 : Nat) : Int))) rfl (congrArg (Value.int .i64) (by first | rfl | omega | simp | (simp; omega)))), he32, he33, he34, he35, he36, he37, he38, (by omega), hs42⟩
      · refine W.skip (Qn.blk (Qn.then ?_))
        refine W.region ?_
        refine WL.cons rfl (OP.move (Value.int .i64 ((j : Nat) : Int)) he31 (by decide) ?_)
        refine WL.cons rfl (OP.add ((j + 1 : Nat) : Int) rfl rfl (by first | rfl | omega | simp) (by unfold inI64; omega) (by decide) ?_)
        refine WL.cons rfl (OP.assign (Value.int .i64 ((j + 1 : Nat) : Int)) rfl (by decide) ?_)
        refine WL.nil (Qn.then ?_)
        exact ⟨_, (by omega), (j + 1), rfl, he25, he26, he27, he28, he29, (Eq.trans (b := (Value.bool (decide ((xs.getD k default).sector ∈ ss.take j)))) he30 (congrArg Value.bool (by first | exact named_hit (by omega) (by assumption) | exact named_miss (by omega) (by assumption)))), (Eq.trans (b := (Value.int .i64 ((j + 1 : Nat) : Int))) rfl (congrArg (Value.int .i64) (by first | rfl | omega | simp | (simp; omega)))), he32, he33, he34, he35, he36, he37, he38, (by omega), hs42⟩
    · refine W.exit (Qx.then (Qx.then (Qx.hit (Qn.then ?_))))
      refine W.seq ?_
      refine W.region ?_
      refine WL.cons rfl (OP.move (Value.bool (decide ((xs.getD k default).sector ∈ ss.take j))) he30 (by decide) ?_)
      refine WL.cons rfl (OP.notP ((xs.getD k default).sector ∈ ss.take j) rfl (by decide) ?_)
      refine WL.nil (Qn.then ?_)
      refine W.iteP (p := ¬ ((xs.getD k default).sector ∈ ss.take j)) rfl (fun hc70 => ?_) (fun hc70 => ?_)
      · refine W.region ?_
        refine WL.cons rfl (OP.move (Value.slice ya ys.length yc) he28 (by decide) ?_)
        refine WL.cons rfl (OP.move (Value.pointer (some ⟨p, 0, none⟩)) he25 (by decide) ?_)
        refine WL.cons rfl (OP.nilCheck rfl (by decide) ?_)
        refine WL.cons rfl (OP.fieldAddr 0 fo_46_0 rfl rfl (by decide) ?_)
        refine WL.cons rfl (OP.loadS (Value.slice a1_15 xs.length c1_16) sc_44 rfl (sat_cell 0 hs23 rfl rfl) (by decide) ?_)
        refine WL.cons rfl (OP.move (Value.int .i64 ((k : Nat) : Int)) he29 (by decide) ?_)
        have hi46_ : k < xs.length := by omega
        refine WL.cons rfl (OP.indexR k (Ent_sat 1 rfl Ent_SL hs23) Try.underlying44 sz_48 rfl rfl rfl hi46_ (by decide) ?_)
        refine WL.cons rfl (OP.loadAR (encB (xs.getD k default)) (Ent_sat 1 rfl Ent_SL hs23) (recs_take (enc := encB) (fun _ => rfl) hi46_) ag_48 sz_48 rfl (by decide) ?_)
        refine WL.cons rfl (OP.buildSlice (el := 48) [(0, (Value.agg [(Value.int .i64 ((xs.getD k default).sector)), (Value.int .i64 ((xs.getD k default).kind)), (Value.slice ((xs.getD k default).da) ((xs.getD k default).data.length) ((xs.getD k default).dc))].toArray))] [(Value.int .i64 ((xs.getD k default).sector)), (Value.int .i64 ((xs.getD k default).kind)), (Value.slice ((xs.getD k default).da) ((xs.getD k default).data.length) ((xs.getD k default).dc))] hs23 rfl (fun _ => by kernel_rfl) (by decide) (fun b71 w72 hs73 => ?_))
        have hs74 : sat W0 [SL false 3 (some ⟨b71, 0, none⟩) 1 1 ([(Value.int .i64 ((xs.getD k default).sector)), (Value.int .i64 ((xs.getD k default).kind)), (Value.slice ((xs.getD k default).da) ((xs.getD k default).data.length) ((xs.getD k default).dc))]), blk p [(Value.slice a1_15 xs.length c1_16), (Value.int .i64 most), (Value.int .i64 size)] 46, SL false 3 a1_15 xs.length c1_16 (xs.flatMap encB), SL false 3 ya ys.length yc (ys.flatMap encB), F] w72 := sat_SL_blk rfl hs73
        have hs75 : sat W0 [SL false 3 ya ys.length yc (ys.flatMap encB), SL false 3 (some ⟨b71, 0, none⟩) 1 1 ([(Value.int .i64 ((xs.getD k default).sector)), (Value.int .i64 ((xs.getD k default).kind)), (Value.slice ((xs.getD k default).da) ((xs.getD k default).data.length) ((xs.getD k default).dc))]), blk p [(Value.slice a1_15 xs.length c1_16), (Value.int .i64 most), (Value.int .i64 size)] 46, SL false 3 a1_15 xs.length c1_16 (xs.flatMap encB), F] w72 := sat_sel' [3, 0, 1, 2, 4] hs74 (by kernel_rfl) (by kernel_rfl)
        refine WL.cons rfl (OP.append' (z := [(Value.int .i64 0), (Value.int .i64 0), (Value.slice none 0 0)]) ((ys ++ [(xs.getD k default)]).length) ((ys ++ [(xs.getD k default)]).flatMap encB) hs75 (Ent_sat 1 rfl Ent_SL hs75) Try.underlying44 sz_48 by_48 ze_48 rfl rfl (by simp; omega) (by simp; omega) (by simp [Value.oneCell']) rfl rfl rfl (by simp) (by simp [encB]) (by decide) (fun a76 c77 w78 hs79 => ?_))
        have hs80 : sat W0 [SL false 3 a76 ((ys ++ [(xs.getD k default)]).length) c77 ((ys ++ [(xs.getD k default)]).flatMap encB), SL false 3 (some ⟨b71, 0, none⟩) 1 1 ([(Value.int .i64 ((xs.getD k default).sector)), (Value.int .i64 ((xs.getD k default).kind)), (Value.slice ((xs.getD k default).da) ((xs.getD k default).data.length) ((xs.getD k default).dc))]), blk p [(Value.slice a1_15 xs.length c1_16), (Value.int .i64 most), (Value.int .i64 size)] 46, SL false 3 a1_15 xs.length c1_16 (xs.flatMap encB), F] w78 := hs79
        refine WL.cons rfl (OP.assign (Value.slice a76 ((ys ++ [(xs.getD k default)]).length) c77) rfl (by decide) ?_)
        refine WL.nil (Qn.blk (Qn.then ?_))
        refine W.region ?_
        refine WL.cons rfl (OP.move (Value.int .i64 ((k : Nat) : Int)) he29 (by decide) ?_)
        refine WL.cons rfl (OP.add ((k + 1 : Nat) : Int) rfl rfl (by first | rfl | omega | simp) (by unfold inI64; omega) (by decide) ?_)
        refine WL.cons rfl (OP.assign (Value.int .i64 ((k + 1 : Nat) : Int)) rfl (by decide) ?_)
        refine WL.nil (Qn.then ?_)
        have hs81 : sat W0 [blk p [(Value.slice a1_15 xs.length c1_16), (Value.int .i64 most), (Value.int .i64 size)] 46, SL false 3 a1_15 xs.length c1_16 (xs.flatMap encB), SL false 3 a76 ((ys ++ [(xs.getD k default)]).length) c77 ((ys ++ [(xs.getD k default)]).flatMap encB), SL false 3 (some ⟨b71, 0, none⟩) 1 1 ([(Value.int .i64 ((xs.getD k default).sector)), (Value.int .i64 ((xs.getD k default).kind)), (Value.slice ((xs.getD k default).da) ((xs.getD k default).data.length) ((xs.getD k default).dc))]), F] w78 := sat_sel' [2, 3, 0, 1, 4] hs80 (by kernel_rfl) (by kernel_rfl)
        have hs82 : sat W0 [RefRep p xs most size, SL false 3 a76 ((ys ++ [(xs.getD k default)]).length) c77 ((ys ++ [(xs.getD k default)]).flatMap encB), SL false 3 (some ⟨b71, 0, none⟩) 1 1 ([(Value.int .i64 ((xs.getD k default).sector)), (Value.int .i64 ((xs.getD k default).kind)), (Value.slice ((xs.getD k default).da) ((xs.getD k default).data.length) ((xs.getD k default).dc))]), F] w78 := RefRep_close a1_15 c1_16 trivial hs81
        have hs83 : sat W0 [SL false 3 a76 ((ys ++ [(xs.getD k default)]).length) c77 ((ys ++ [(xs.getD k default)]).flatMap encB), RefRep p xs most size, F] w78 := sat_sub' [1, 0, 3] [2] hs82 (by kernel_rfl) (by kernel_rfl)
        exact ⟨_, (by omega), (k + 1), (ys ++ [(xs.getD k default)]), a76, c77, rfl, he25, he26, he27, rfl, (Eq.trans (b := (Value.int .i64 ((k + 1 : Nat) : Int))) rfl (congrArg (Value.int .i64) (by first | rfl | omega | simp | (simp; omega)))), (by omega), (by first | exact (keepR_hit hys_ (by omega) (by assumption) (Decidable.not_not.mp (by assumption))) | exact (keepR_miss hys_ (by omega) (by assumption) (by assumption))), hs83⟩
      · refine W.skip (Qn.blk (Qn.then ?_))
        refine W.region ?_
        refine WL.cons rfl (OP.move (Value.int .i64 ((k : Nat) : Int)) he29 (by decide) ?_)
        refine WL.cons rfl (OP.add ((k + 1 : Nat) : Int) rfl rfl (by first | rfl | omega | simp) (by unfold inI64; omega) (by decide) ?_)
        refine WL.cons rfl (OP.assign (Value.int .i64 ((k + 1 : Nat) : Int)) rfl (by decide) ?_)
        refine WL.nil (Qn.then ?_)
        have hs84 : sat W0 [RefRep p xs most size, SL false 3 ya ys.length yc (ys.flatMap encB), F] w22 := RefRep_close a1_15 c1_16 trivial hs23
        have hs85 : sat W0 [SL false 3 ya ys.length yc (ys.flatMap encB), RefRep p xs most size, F] w22 := sat_sel' [1, 0, 2] hs84 (by kernel_rfl) (by kernel_rfl)
        exact ⟨_, (by omega), (k + 1), ys, ya, yc, rfl, he25, he26, he27, he28, (Eq.trans (b := (Value.int .i64 ((k + 1 : Nat) : Int))) rfl (congrArg (Value.int .i64) (by first | rfl | omega | simp | (simp; omega)))), (by omega), (by first | exact (keepR_hit hys_ (by omega) (by assumption) (Decidable.not_not.mp (by assumption))) | exact (keepR_miss hys_ (by omega) (by assumption) (by assumption))), hs85⟩
  · refine W.exit (Qx.then (Qx.then (Qx.hit (Qn.then ?_))))
    refine W.seq ?_
    refine W.region ?_
    refine WL.cons rfl (OP.move (Value.pointer (some ⟨p, 0, none⟩)) he7 (by decide) ?_)
    refine WL.cons rfl (OP.nilCheck rfl (by decide) ?_)
    refine WL.cons rfl (OP.fieldAddr 0 fo_46_0 rfl rfl (by decide) ?_)
    refine WL.cons rfl (OP.loadS (Value.slice a1_15 xs.length c1_16) sc_44 rfl (sat_cell 0 hs18 rfl rfl) (by decide) ?_)
    refine WL.cons rfl (OP.len Try.underlying44 rfl rfl (by decide) ?_)
    refine WL.cons rfl (OP.move (Value.slice ya ys.length yc) he10 (by decide) ?_)
    refine WL.cons rfl (OP.len Try.underlying44 rfl rfl (by decide) ?_)
    refine WL.cons rfl (OP.sub (((xs.length : Nat) : Int) - ((ys.length : Nat) : Int)) rfl rfl (by first | rfl | omega | simp) (by unfold inI64; omega) (by decide) ?_)
    refine WL.cons rfl (OP.assign (Value.int .i64 (((xs.length : Nat) : Int) - ((ys.length : Nat) : Int))) rfl (by decide) ?_)
    refine WL.nil (Qn.then ?_)
    refine W.seq ?_
    refine W.region ?_
    refine WL.cons rfl (OP.move (Value.pointer (some ⟨p, 0, none⟩)) he7 (by decide) ?_)
    refine WL.cons rfl (OP.move (Value.slice ya ys.length yc) he10 (by decide) ?_)
    refine WL.cons rfl (OP.nilCheck rfl (by decide) ?_)
    refine WL.cons rfl (OP.fieldAddr 0 fo_46_0 rfl rfl (by decide) ?_)
    refine WL.cons rfl (OP.store (Value.slice ya ys.length yc) [(Value.slice ya ys.length yc)] hs18 rfl rfl rfl sz_44 rfl (by rfl) (by simp) (fun w86 hs87 => ?_))
    have hs88 : sat W0 [blk p [(Value.slice ya ys.length yc), (Value.int .i64 most), (Value.int .i64 size)] 46, SL false 3 a1_15 xs.length c1_16 (xs.flatMap encB), SL false 3 ya ys.length yc (ys.flatMap encB), F] w86 := hs87
    refine WL.nil (Qn.then ?_)
    refine W.seq ?_
    refine W.region ?_
    refine WL.cons rfl (OP.move (Value.int .i64 (((xs.length : Nat) : Int) - ((ys.length : Nat) : Int))) rfl (by decide) ?_)
    refine WL.cons rfl (OP.assign (Value.int .i64 (((xs.length : Nat) : Int) - ((ys.length : Nat) : Int))) rfl (by decide) ?_)
    refine WL.nil (Qn.then ?_)
    refine W.ret (RetQ.of [(Value.int .i64 (((xs.length : Nat) : Int) - ((ys.length : Nat) : Int)))] (.inr rfl) Try.results22 (.cons (.tmp (by decide) rfl) .nil) ?_)
    have hs90 : sat W0 [blk p [(Value.slice ya ys.length yc), (Value.int .i64 most), (Value.int .i64 size)] 46, SL false 3 ya ys.length yc (ys.flatMap encB), SL false 3 a1_15 xs.length c1_16 (xs.flatMap encB), F] w86 := sat_sel' [0, 2, 1, 3] hs88 (by kernel_rfl) (by kernel_rfl)
    have hs91 : sat W0 [RefRep p ys most size, SL false 3 a1_15 xs.length c1_16 (xs.flatMap encB), F] w86 := RefRep_close ya yc trivial hs90
    have hs92 : sat W0 [RefRep p ys most size, F] w86 := sat_sub' [0, 2] [1] hs91 (by kernel_rfl) (by kernel_rfl)
    exact ⟨ys, (congrArg (Value.int .i64) (by have h_ := congrArg List.length (keepR_end hm hys_ (by omega)); rw [List.length_map] at h_; omega)), (keepR_sub hys_), (keepR_end hm hys_ (by omega)), hs92⟩

end Go.Proofs.Ytleolejhkdolpaa
