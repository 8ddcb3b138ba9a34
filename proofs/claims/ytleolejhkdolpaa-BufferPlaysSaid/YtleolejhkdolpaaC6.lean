import Derived.Test.YtleolejhkdolpaaC5
import Derived.KernelRfl
set_option linter.unusedVariables false
set_option linter.unusedSimpArgs false
set_option maxRecDepth 100000
set_option maxHeartbeats 4000000
namespace Go.Proofs.Ytleolejhkdolpaa
open Go Go.RowKit Sv
theorem Buffer_Get_none {W0 : World} {F : HProp} {w : World}  (p : Nat) (xs : List BEnt) (most : Int) (size : Int) (m : List AEnt) (v : Int) (hm : xs.map absB = m) (hn : xs.length ≤ 1099511627) (hp : 0 < most) (hf : findA m v < 0) 
    (hs : sat W0 [BufRep p xs most size, F] w) :
    Calls Try.prog 16 ([(Value.pointer (some ⟨p, 0, none⟩)), (Value.int .i64 v)] : List Value).toArray w (fun x_ w' => ∃ v_, x_ = .returned v_ ∧ (v_ = (Value.tuple #[(Value.agg [(Value.int .i64 0), (Value.int .i64 0), (Value.slice none 0 0)].toArray), (Value.bool false)]) ∧ sat W0 [BufRep p xs most size, F] w')) := by
  refine W.enter Try.func16 rfl Try.ntmps16 (by simp) ?_
  refine W.seq ?_
  refine W.region ?_
  refine WL.cons rfl (OP.alloc _ [(Value.int .i64 0), (Value.int .i64 0), (Value.slice none 0 0)] hs ze_48 rfl (by decide) (fun b1 w2 hs3 => ?_))
  refine WL.cons rfl (OP.assign (Value.bool false) rfl (by decide) ?_)
  refine WL.nil (Qn.then ?_)
  refine W.seq ?_
  refine W.region ?_
  refine WL.cons rfl (OP.move (Value.pointer (some ⟨p, 0, none⟩)) rfl (by decide) ?_)
  refine WL.cons rfl (OP.move (Value.int .i64 v) rfl (by decide) ?_)
  have hs4 : sat W0 [BufRep p xs most size, blk b1 [(Value.int .i64 0), (Value.int .i64 0), (Value.slice none 0 0)] 48, F] w2 := sat_sel' [1, 0, 2] hs3 (by kernel_rfl) (by kernel_rfl)
  have hs5 : sat W0 [BufRep p xs most size, stars [blk b1 [(Value.int .i64 0), (Value.int .i64 0), (Value.slice none 0 0)] 48, F]] w2 := sat_pack' [BufRep p xs most size] [blk b1 [(Value.int .i64 0), (Value.int .i64 0), (Value.slice none 0 0)] 48, F] hs4 (by kernel_rfl) (by kernel_rfl)
  have hcl8 := Buffer_place p xs most size m v (by first | assumption | omega) (by first | assumption | omega) (by first | assumption | omega) hs5
  refine WL.cons rfl (?_)
  with_reducible refine OP.call [(Value.pointer (some ⟨p, 0, none⟩)), (Value.int .i64 v)] gf_47 ?_ ?_ hcl8 ?_
  · exact rfl
  · decide
  clear hcl8
  rintro _ w6 ⟨_, rfl, rfl, hs7⟩
  refine ⟨_, rfl, ?_⟩
  have hs9 : sat W0 [BufRep p xs most size, blk b1 [(Value.int .i64 0), (Value.int .i64 0), (Value.slice none 0 0)] 48, F] w6 := sat_flat' [BufRep p xs most size] [blk b1 [(Value.int .i64 0), (Value.int .i64 0), (Value.slice none 0 0)] 48, F] hs7 (by kernel_rfl) (by kernel_rfl)
  refine WL.cons rfl (OP.assign (Value.int .i64 (findA m v)) rfl (by decide) ?_)
  refine WL.nil (Qn.then ?_)
  refine W.seq ?_
  refine W.seq ?_
  refine W.region ?_
  refine WL.cons rfl (OP.move (Value.int .i64 (findA m v)) rfl (by decide) ?_)
  refine WL.cons rfl (OP.lss rfl rfl (by decide) ?_)
  refine WL.nil (Qn.then ?_)
  refine W.iteP (p := findA m v < 0) rfl (fun hc10 => ?_) (fun hc10 => ?_)
  · refine W.seq ?_
    refine W.region ?_
    refine WL.cons rfl (OP.build [] [(Value.int .i64 0), (Value.int .i64 0), (Value.slice none 0 0)] rfl (by kernel_rfl) (by decide) ?_)
    have hs11 : sat W0 [blk b1 [(Value.int .i64 0), (Value.int .i64 0), (Value.slice none 0 0)] 48, BufRep p xs most size, F] w6 := sat_sel' [1, 0, 2] hs9 (by kernel_rfl) (by kernel_rfl)
    refine WL.cons rfl (OP.store (Value.agg [(Value.int .i64 0), (Value.int .i64 0), (Value.slice none 0 0)].toArray) [(Value.int .i64 0), (Value.int .i64 0), (Value.slice none 0 0)] hs11 rfl rfl rfl sz_48 rfl (by rfl) (by simp) (fun w12 hs13 => ?_))
    have hs14 : sat W0 [blk b1 [(Value.int .i64 0), (Value.int .i64 0), (Value.slice none 0 0)] 48, BufRep p xs most size, F] w12 := hs13
    refine WL.cons rfl (OP.assign (Value.bool false) rfl (by decide) ?_)
    refine WL.nil (Qn.then ?_)
    refine W.ret (Qr.then (RetQ.of [(Value.agg [(Value.int .i64 0), (Value.int .i64 0), (Value.slice none 0 0)].toArray), (Value.bool false)] (.inr rfl) Try.results16 (.cons (.cell (by decide) rfl (run_loadA (vs := [(Value.int .i64 0), (Value.int .i64 0), (Value.slice none 0 0)]) ag_48 sz_48 (sat_rdn 0 hs14 rfl rfl))) (.cons (.tmp (by decide) rfl) .nil)) ?_))
    have hs16 : sat W0 [BufRep p xs most size, F] w12 := sat_sub' [1, 2] [0] hs14 (by kernel_rfl) (by kernel_rfl)
    exact ⟨rfl, hs16⟩
  · refine W.skip (Qn.then ?_)
    refine W.seq ?_
    omega

theorem Buffer_Get_some {W0 : World} {F : HProp} {w : World}  (p : Nat) (xs : List BEnt) (most : Int) (size : Int) (m : List AEnt) (v : Int) (D : List (Option Addr × List Int)) (hm : xs.map absB = m) (hn : xs.length ≤ 1099511627) (hp : 0 < most) (hf : 0 ≤ findA m v) (hxs : InD D xs) (hlx : ∀ x ∈ xs, x.data.length ≤ 1099511627) 
    (hs : sat W0 [BufRep p xs most size, ShD W0 D, F] w) :
    Calls Try.prog 16 ([(Value.pointer (some ⟨p, 0, none⟩)), (Value.int .i64 v)] : List Value).toArray w (fun x_ w' => ∃ v_, x_ = .returned v_ ∧ (∃ a_ : Option Addr, ∃ c_ : Nat, ∃ D_ : List (Option Addr × List Int), v_ = (Value.tuple #[(Value.agg [(Value.int .i64 ((xs.getD ((findA m v).toNat) default).sector)), (Value.int .i64 ((xs.getD ((findA m v).toNat) default).kind)), (Value.slice a_ ((xs.getD ((findA m v).toNat) default).data.length) c_)].toArray), (Value.bool true)]) ∧ DSub D D_ ∧ (a_, (xs.getD ((findA m v).toNat) default).data) ∈ D_ ∧ sat W0 [BufRep p xs most size, ShD W0 D_, F] w')) := by
  have hfr_ := findA_range (m := m) (s := v)
  have hal_ := abs_len hm
  refine W.enter Try.func16 rfl Try.ntmps16 (by simp) ?_
  refine W.seq ?_
  refine W.region ?_
  refine WL.cons rfl (OP.alloc _ [(Value.int .i64 0), (Value.int .i64 0), (Value.slice none 0 0)] hs ze_48 rfl (by decide) (fun b1 w2 hs3 => ?_))
  refine WL.cons rfl (OP.assign (Value.bool false) rfl (by decide) ?_)
  refine WL.nil (Qn.then ?_)
  refine W.seq ?_
  refine W.region ?_
  refine WL.cons rfl (OP.move (Value.pointer (some ⟨p, 0, none⟩)) rfl (by decide) ?_)
  refine WL.cons rfl (OP.move (Value.int .i64 v) rfl (by decide) ?_)
  have hs4 : sat W0 [BufRep p xs most size, blk b1 [(Value.int .i64 0), (Value.int .i64 0), (Value.slice none 0 0)] 48, ShD W0 D, F] w2 := sat_sel' [1, 0, 2, 3] hs3 (by kernel_rfl) (by kernel_rfl)
  have hs5 : sat W0 [BufRep p xs most size, stars [blk b1 [(Value.int .i64 0), (Value.int .i64 0), (Value.slice none 0 0)] 48, ShD W0 D, F]] w2 := sat_pack' [BufRep p xs most size] [blk b1 [(Value.int .i64 0), (Value.int .i64 0), (Value.slice none 0 0)] 48, ShD W0 D, F] hs4 (by kernel_rfl) (by kernel_rfl)
  have hcl8 := Buffer_place p xs most size m v (by first | assumption | omega) (by first | assumption | omega) (by first | assumption | omega) hs5
  refine WL.cons rfl (?_)
  with_reducible refine OP.call [(Value.pointer (some ⟨p, 0, none⟩)), (Value.int .i64 v)] gf_47 ?_ ?_ hcl8 ?_
  · exact rfl
  · decide
  clear hcl8
  rintro _ w6 ⟨_, rfl, rfl, hs7⟩
  refine ⟨_, rfl, ?_⟩
  have hs9 : sat W0 [BufRep p xs most size, blk b1 [(Value.int .i64 0), (Value.int .i64 0), (Value.slice none 0 0)] 48, ShD W0 D, F] w6 := sat_flat' [BufRep p xs most size] [blk b1 [(Value.int .i64 0), (Value.int .i64 0), (Value.slice none 0 0)] 48, ShD W0 D, F] hs7 (by kernel_rfl) (by kernel_rfl)
  refine WL.cons rfl (OP.assign (Value.int .i64 (findA m v)) rfl (by decide) ?_)
  refine WL.nil (Qn.then ?_)
  refine W.seq ?_
  refine W.seq ?_
  refine W.region ?_
  refine WL.cons rfl (OP.move (Value.int .i64 (findA m v)) rfl (by decide) ?_)
  refine WL.cons rfl (OP.lss rfl rfl (by decide) ?_)
  refine WL.nil (Qn.then ?_)
  refine W.iteP (p := findA m v < 0) rfl (fun hc10 => ?_) (fun hc10 => ?_)
  · refine W.seq ?_
    omega
  · refine W.skip (Qn.then ?_)
    refine W.seq ?_
    refine W.region ?_
    refine WL.cons rfl (OP.move (Value.pointer (some ⟨p, 0, none⟩)) rfl (by decide) ?_)
    refine WL.cons rfl (OP.nilCheck rfl (by decide) ?_)
    refine WL.cons rfl (OP.fieldAddr 0 fo_92_0 rfl rfl (by decide) ?_)
    obtain ⟨a1_11, c1_12, _, hs13⟩ := BufRep_open hs9
    have hs14 : sat W0 [blk p [(Value.slice a1_11 xs.length c1_12), (Value.int .i64 most), (Value.int .i64 size)] 92, SL false 3 a1_11 xs.length c1_12 (xs.flatMap encB), blk b1 [(Value.int .i64 0), (Value.int .i64 0), (Value.slice none 0 0)] 48, ShD W0 D, F] w6 := hs13
    refine WL.cons rfl (OP.loadS (Value.slice a1_11 xs.length c1_12) sc_44 rfl (sat_cell 0 hs14 rfl rfl) (by decide) ?_)
    refine WL.cons rfl (OP.move (Value.int .i64 (findA m v)) rfl (by decide) ?_)
    have hi18_ : (findA m v).toNat < xs.length := by omega
    refine WL.cons rfl (OP.indexR ((findA m v).toNat) (Ent_sat 1 rfl Ent_SL hs14) Try.underlying44 sz_48 rfl rfl (by omega) hi18_ (by decide) ?_)
    refine WL.cons rfl (OP.loadAR (encB (xs.getD ((findA m v).toNat) default)) (Ent_sat 1 rfl Ent_SL hs14) (recs_take (enc := encB) (fun _ => rfl) hi18_) ag_48 sz_48 rfl (by decide) ?_)
    have hs15 : sat W0 [ShD W0 D, blk p [(Value.slice a1_11 xs.length c1_12), (Value.int .i64 most), (Value.int .i64 size)] 92, SL false 3 a1_11 xs.length c1_12 (xs.flatMap encB), blk b1 [(Value.int .i64 0), (Value.int .i64 0), (Value.slice none 0 0)] 48, F] w6 := sat_sel' [3, 0, 1, 2, 4] hs14 (by kernel_rfl) (by kernel_rfl)
    have hs16 : sat W0 [ShD W0 D, stars [blk p [(Value.slice a1_11 xs.length c1_12), (Value.int .i64 most), (Value.int .i64 size)] 92, SL false 3 a1_11 xs.length c1_12 (xs.flatMap encB), blk b1 [(Value.int .i64 0), (Value.int .i64 0), (Value.slice none 0 0)] 48, F]] w6 := sat_pack' [ShD W0 D] [blk p [(Value.slice a1_11 xs.length c1_12), (Value.int .i64 most), (Value.int .i64 size)] 92, SL false 3 a1_11 xs.length c1_12 (xs.flatMap encB), blk b1 [(Value.int .i64 0), (Value.int .i64 0), (Value.slice none 0 0)] 48, F] hs15 (by kernel_rfl) (by kernel_rfl)
    have hcl24 := buffer_copied (xs.getD (findA m v).toNat default) D (hxs _ (getD_mem (by omega))) (hlx _ (getD_mem (by omega))) hs16
    refine WL.cons rfl (?_)
    with_reducible refine OP.call [(Value.agg [(Value.int .i64 ((xs.getD ((findA m v).toNat) default).sector)), (Value.int .i64 ((xs.getD ((findA m v).toNat) default).kind)), (Value.slice ((xs.getD ((findA m v).toNat) default).da) ((xs.getD ((findA m v).toNat) default).data.length) ((xs.getD ((findA m v).toNat) default).dc))].toArray)] gf_48 ?_ ?_ hcl24 ?_
    · exact rfl
    · decide
    clear hcl24
    rintro _ w20 ⟨_, rfl, a_17, c_18, D_19, rfl, hq22, hq23, hs21⟩
    refine ⟨_, rfl, ?_⟩
    have hs25 : sat W0 [ShD W0 D_19, blk p [(Value.slice a1_11 xs.length c1_12), (Value.int .i64 most), (Value.int .i64 size)] 92, SL false 3 a1_11 xs.length c1_12 (xs.flatMap encB), blk b1 [(Value.int .i64 0), (Value.int .i64 0), (Value.slice none 0 0)] 48, F] w20 := sat_flat' [ShD W0 D_19] [blk p [(Value.slice a1_11 xs.length c1_12), (Value.int .i64 most), (Value.int .i64 size)] 92, SL false 3 a1_11 xs.length c1_12 (xs.flatMap encB), blk b1 [(Value.int .i64 0), (Value.int .i64 0), (Value.slice none 0 0)] 48, F] hs21 (by kernel_rfl) (by kernel_rfl)
    have hm26 := InD.sub hxs hq22
    have hs27 : sat W0 [blk b1 [(Value.int .i64 0), (Value.int .i64 0), (Value.slice none 0 0)] 48, ShD W0 D_19, blk p [(Value.slice a1_11 xs.length c1_12), (Value.int .i64 most), (Value.int .i64 size)] 92, SL false 3 a1_11 xs.length c1_12 (xs.flatMap encB), F] w20 := sat_sel' [3, 0, 1, 2, 4] hs25 (by kernel_rfl) (by kernel_rfl)
    refine WL.cons rfl (OP.store (Value.agg [(Value.int .i64 ((xs.getD (findA m v).toNat default).sector)), (Value.int .i64 ((xs.getD (findA m v).toNat default).kind)), (Value.slice a_17 ((xs.getD (findA m v).toNat default).data.length) c_18)].toArray) [(Value.int .i64 ((xs.getD (findA m v).toNat default).sector)), (Value.int .i64 ((xs.getD (findA m v).toNat default).kind)), (Value.slice a_17 ((xs.getD (findA m v).toNat default).data.length) c_18)] hs27 rfl rfl rfl sz_48 rfl (by rfl) (by simp) (fun w28 hs29 => ?_))
    have hs30 : sat W0 [blk b1 [(Value.int .i64 ((xs.getD (findA m v).toNat default).sector)), (Value.int .i64 ((xs.getD (findA m v).toNat default).kind)), (Value.slice a_17 ((xs.getD (findA m v).toNat default).data.length) c_18)] 48, ShD W0 D_19, blk p [(Value.slice a1_11 xs.length c1_12), (Value.int .i64 most), (Value.int .i64 size)] 92, SL false 3 a1_11 xs.length c1_12 (xs.flatMap encB), F] w28 := hs29
    refine WL.cons rfl (OP.assign (Value.bool true) rfl (by decide) ?_)
    refine WL.nil (Qn.then ?_)
    refine W.ret (RetQ.of [(Value.agg [(Value.int .i64 ((xs.getD (findA m v).toNat default).sector)), (Value.int .i64 ((xs.getD (findA m v).toNat default).kind)), (Value.slice a_17 ((xs.getD (findA m v).toNat default).data.length) c_18)].toArray), (Value.bool true)] (.inr rfl) Try.results16 (.cons (.cell (by decide) rfl (run_loadA (vs := [(Value.int .i64 ((xs.getD (findA m v).toNat default).sector)), (Value.int .i64 ((xs.getD (findA m v).toNat default).kind)), (Value.slice a_17 ((xs.getD (findA m v).toNat default).data.length) c_18)]) ag_48 sz_48 (sat_rdn 0 hs30 rfl rfl))) (.cons (.tmp (by decide) rfl) .nil)) ?_)
    have hs32 : sat W0 [blk p [(Value.slice a1_11 xs.length c1_12), (Value.int .i64 most), (Value.int .i64 size)] 92, SL false 3 a1_11 xs.length c1_12 (xs.flatMap encB), blk b1 [(Value.int .i64 ((xs.getD (findA m v).toNat default).sector)), (Value.int .i64 ((xs.getD (findA m v).toNat default).kind)), (Value.slice a_17 ((xs.getD (findA m v).toNat default).data.length) c_18)] 48, ShD W0 D_19, F] w28 := sat_sel' [2, 3, 0, 1, 4] hs30 (by kernel_rfl) (by kernel_rfl)
    have hs33 : sat W0 [BufRep p xs most size, blk b1 [(Value.int .i64 ((xs.getD (findA m v).toNat default).sector)), (Value.int .i64 ((xs.getD (findA m v).toNat default).kind)), (Value.slice a_17 ((xs.getD (findA m v).toNat default).data.length) c_18)] 48, ShD W0 D_19, F] w28 := BufRep_close a1_11 c1_12 trivial hs32
    have hs34 : sat W0 [BufRep p xs most size, ShD W0 D_19, F] w28 := sat_sub' [0, 2, 3] [1] hs33 (by kernel_rfl) (by kernel_rfl)
    exact ⟨a_17, c_18, D_19, (by first | rfl | simp_all), hq22, hq23, hs34⟩

end Go.Proofs.Ytleolejhkdolpaa
