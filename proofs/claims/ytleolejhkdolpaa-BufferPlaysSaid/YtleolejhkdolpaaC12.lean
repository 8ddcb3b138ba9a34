import Derived.Test.YtleolejhkdolpaaC10
import Derived.KernelRfl
set_option linter.unusedVariables false
set_option linter.unusedSimpArgs false
set_option maxRecDepth 100000
set_option maxHeartbeats 4000000
namespace Go.Proofs.Ytleolejhkdolpaa
open Go Go.RowKit Sv
theorem law29_awake {W0 : World} {F : HProp} {w : World}    
    (hs : sat W0 [F] w) :
    Calls Try.prog 12 ([] : List Value).toArray w (fun x_ w' => ∃ v_, x_ = .returned v_ ∧ (v_ = (Value.bool true) ∧ sat W0 [F] w')) := by
  refine W.enter Try.func12 rfl Try.ntmps12 (by simp) ?_
  refine W.seq ?_
  refine W.region ?_
  refine WL.cons rfl (OP.assign (Value.bool false) rfl (by decide) ?_)
  refine WL.nil (Qn.then ?_)
  refine W.seq ?_
  have hs1 : sat W0 [ShD W0 [(none, [])], F] w := (sat_ShD_ro (fun x_ hx_ => by rw [List.mem_singleton] at hx_; subst hx_; exact ⟨rfl, fun h_ => absurd h_ (by simp)⟩) hs)
  refine W.region ?_
  have hs2 : sat W0 [stars [ShD W0 [(none, [])], F]] w := sat_pack' [] [ShD W0 [(none, [])], F] hs1 (by kernel_rfl) (by kernel_rfl)
  have hcl6 := buffer_New_ok 4 1 (by omega) hs2
  refine WL.cons rfl (?_)
  with_reducible refine OP.call [(Value.int .i64 4), (Value.int .i64 1)] gf_13 ?_ ?_ hcl6 ?_
  · exact rfl
  · decide
  clear hcl6
  rintro _ w4 ⟨_, rfl, b_3, rfl, hs5⟩
  refine ⟨_, rfl, ?_⟩
  have hs7 : sat W0 [BufRep b_3 ([] : List BEnt) 4 1, ShD W0 [(none, [])], F] w4 := sat_flat' [BufRep b_3 ([] : List BEnt) 4 1] [ShD W0 [(none, [])], F] hs5 (by kernel_rfl) (by kernel_rfl)
  refine WL.cons rfl (OP.move (Value.tuple #[(Value.pointer (some ⟨b_3, 0, none⟩)), (Value.int .i64 0)]) rfl (by decide) ?_)
  refine WL.cons rfl (OP.extract (Value.pointer (some ⟨b_3, 0, none⟩)) rfl rfl (by decide) ?_)
  refine WL.cons rfl (OP.extract (Value.int .i64 0) rfl rfl (by decide) ?_)
  refine WL.cons rfl (OP.assign (Value.pointer (some ⟨b_3, 0, none⟩)) rfl (by decide) ?_)
  refine WL.cons rfl (OP.assign (Value.int .i64 0) rfl (by decide) ?_)
  refine WL.nil (Qn.then ?_)
  refine W.seq ?_
  refine W.seq ?_
  refine W.region ?_
  refine WL.cons rfl (OP.move (Value.int .i64 0) rfl (by decide) ?_)
  refine WL.cons rfl (OP.neI rfl rfl (by decide) ?_)
  refine WL.nil (Qn.then ?_)
  refine W.iteF rfl ?_
  refine W.skip (Qn.then ?_)
  refine W.seq ?_
  refine W.seq ?_
  refine W.region ?_
  refine WL.cons rfl (OP.buildSlice (el := 3) [(0, (Value.int .i64 5)), (1, (Value.int .i64 6)), (2, (Value.int .i64 5))] [(Value.int .i64 5), (Value.int .i64 6), (Value.int .i64 5)] hs7 rfl (fun _ => by kernel_rfl) (by decide) (fun b8 w9 hs10 => ?_))
  have hs11 : sat W0 [SL false 1 (some ⟨b8, 0, none⟩) 3 3 ([(Value.int .i64 5), (Value.int .i64 6), (Value.int .i64 5)]), BufRep b_3 ([] : List BEnt) 4 1, ShD W0 [(none, [])], F] w9 := sat_SL_blk rfl hs10
  have hs12 : sat W0 [SL false 1 (some ⟨b8, 0, none⟩) (([5, 6, 5] : List Int).length) 3 (([5, 6, 5] : List Int).map (Value.int .i64)), BufRep b_3 ([] : List BEnt) 4 1, ShD W0 [(none, [])], F] w9 := hs11
  refine WL.cons rfl (OP.len Try.underlying22 rfl rfl (by decide) ?_)
  refine WL.cons rfl (OP.move (Value.int .i64 0) rfl (by decide) ?_)
  refine WL.nil (Qn.then ?_)
  refine W.block ?_
  refine W.unroll 4 (rnds.go ?_)
  refine W.seq ?_
  refine W.region ?_
  refine WL.cons rfl (OP.lss rfl rfl (by decide) ?_)
  refine WL.nil (Qn.then ?_)
  refine W.seq ?_
  refine W.iteT rfl ?_
  refine W.skip (Qn.then ?_)
  refine W.seq ?_
  refine W.block ?_
  refine W.seq ?_
  refine W.region ?_
  have hi16_ : 0 < 3 := by omega
  refine WL.cons rfl (OP.indexS 0 ⟨_, _, rfl⟩ Try.underlying22 sz_3 rfl rfl rfl hi16_ (by decide) ?_)
  refine WL.cons rfl (OP.loadSR (Value.int .i64 (([5, 6, 5] : List Int).getD 0 0)) (Ent_sat 0 rfl Ent_SL hs12) (ints_get hi16_) sc_3 rfl (by decide) ?_)
  refine WL.cons rfl (OP.assign (Value.int .i64 (([5, 6, 5] : List Int).getD 0 0)) rfl (by decide) ?_)
  refine WL.nil (Qn.then ?_)
  refine W.region ?_
  refine WL.cons rfl (OP.move (Value.pointer (some ⟨b_3, 0, none⟩)) rfl (by decide) ?_)
  refine WL.cons rfl (OP.move (Value.int .i64 (([5, 6, 5] : List Int).getD 0 0)) rfl (by decide) ?_)
  refine WL.cons rfl (OP.build [(0, (Value.int .i64 (([5, 6, 5] : List Int).getD 0 0))), (1, (Value.int .i64 2))] [(Value.int .i64 (([5, 6, 5] : List Int).getD 0 0)), (Value.int .i64 2), (Value.slice none 0 0)] rfl (by kernel_rfl) (by decide) ?_)
  have hs13 : sat W0 [BufRep b_3 ([] : List BEnt) 4 1, ShD W0 [(none, [])], SL false 1 (some ⟨b8, 0, none⟩) (([5, 6, 5] : List Int).length) 3 (([5, 6, 5] : List Int).map (Value.int .i64)), F] w9 := sat_sel' [1, 2, 0, 3] hs12 (by kernel_rfl) (by kernel_rfl)
  have hs14 : sat W0 [BufRep b_3 ([] : List BEnt) 4 1, ShD W0 [(none, [])], stars [SL false 1 (some ⟨b8, 0, none⟩) (([5, 6, 5] : List Int).length) 3 (([5, 6, 5] : List Int).map (Value.int .i64)), F]] w9 := sat_pack' [BufRep b_3 ([] : List BEnt) 4 1, ShD W0 [(none, [])]] [SL false 1 (some ⟨b8, 0, none⟩) (([5, 6, 5] : List Int).length) 3 (([5, 6, 5] : List Int).map (Value.int .i64)), F] hs13 (by kernel_rfl) (by kernel_rfl)
  have hcl22 := Buffer_Put b_3 ([] : List BEnt) 4 1 ([] : List AEnt) (⟨([5, 6, 5] : List Int).getD 0 0, 2, none, 0, []⟩ : BEnt) ([(none, [])]) (rfl : ([] : List BEnt).map absB = []) (by have h_ := abs_len (rfl : ([] : List BEnt).map absB = []); have := (OkM.nil (most := 4) (by decide) (by decide)).len; have := (OkM.nil (most := 4) (by decide) (by decide)).big; omega) (OkM.nil (most := 4) (by decide) (by decide)).pos (OkM.nil (most := 4) (by decide) (by decide)).len InD.nil (List.mem_cons_self ..) (by decide) hs14
  refine WL.cons rfl (?_)
  with_reducible refine OP.call [(Value.pointer (some ⟨b_3, 0, none⟩)), (Value.agg [(Value.int .i64 ((⟨([5, 6, 5] : List Int).getD 0 0, 2, none, 0, []⟩ : BEnt).sector)), (Value.int .i64 ((⟨([5, 6, 5] : List Int).getD 0 0, 2, none, 0, []⟩ : BEnt).kind)), (Value.slice ((⟨([5, 6, 5] : List Int).getD 0 0, 2, none, 0, []⟩ : BEnt).da) ((⟨([5, 6, 5] : List Int).getD 0 0, 2, none, 0, []⟩ : BEnt).data.length) ((⟨([5, 6, 5] : List Int).getD 0 0, 2, none, 0, []⟩ : BEnt).dc))].toArray)] gf_14 ?_ ?_ hcl22 ?_
  · exact rfl
  · decide
  clear hcl22
  rintro _ w17 ⟨_, rfl, xs_15, D_16, rfl, hq19, hq20, hq21, hs18⟩
  refine ⟨_, rfl, ?_⟩
  have hs23 : sat W0 [BufRep b_3 xs_15 4 1, ShD W0 D_16, SL false 1 (some ⟨b8, 0, none⟩) (([5, 6, 5] : List Int).length) 3 (([5, 6, 5] : List Int).map (Value.int .i64)), F] w17 := sat_flat' [BufRep b_3 xs_15 4 1, ShD W0 D_16] [SL false 1 (some ⟨b8, 0, none⟩) (([5, 6, 5] : List Int).length) 3 (([5, 6, 5] : List Int).map (Value.int .i64)), F] hs18 (by kernel_rfl) (by kernel_rfl)
  have hm24 := hq19 _ (List.mem_cons_self ..)
  have hm25 := InD.sub InD.nil hq19
  have hok26 : OkM 4 (putM 4 1 ([] : List AEnt) (absB (⟨([5, 6, 5] : List Int).getD 0 0, 2, none, 0, []⟩ : BEnt))) := OkM.put (OkM.nil (most := 4) (by decide) (by decide)) (by decide)
  refine WL.nil (Qn.blk (Qn.then ?_))
  refine W.region ?_
  refine WL.cons rfl (OP.add 1 rfl rfl (by first | rfl | omega | simp) (by unfold inI64; omega) (by decide) ?_)
  refine WL.cons rfl (OP.move (Value.int .i64 1) rfl (by decide) ?_)
  refine WL.nil (Qn.then ?_)
  refine rnds.go ?_
  refine W.seq ?_
  refine W.region ?_
  refine WL.cons rfl (OP.lss rfl rfl (by decide) ?_)
  refine WL.nil (Qn.then ?_)
  refine W.seq ?_
  refine W.iteT rfl ?_
  refine W.skip (Qn.then ?_)
  refine W.seq ?_
  refine W.block ?_
  refine W.seq ?_
  refine W.region ?_
  have hi16_ : 1 < 3 := by omega
  refine WL.cons rfl (OP.indexS 1 ⟨_, _, rfl⟩ Try.underlying22 sz_3 rfl rfl rfl hi16_ (by decide) ?_)
  refine WL.cons rfl (OP.loadSR (Value.int .i64 (([5, 6, 5] : List Int).getD 1 0)) (Ent_sat 2 rfl Ent_SL hs23) (ints_get hi16_) sc_3 rfl (by decide) ?_)
  refine WL.cons rfl (OP.assign (Value.int .i64 (([5, 6, 5] : List Int).getD 1 0)) rfl (by decide) ?_)
  refine WL.nil (Qn.then ?_)
  refine W.region ?_
  refine WL.cons rfl (OP.move (Value.pointer (some ⟨b_3, 0, none⟩)) rfl (by decide) ?_)
  refine WL.cons rfl (OP.move (Value.int .i64 (([5, 6, 5] : List Int).getD 1 0)) rfl (by decide) ?_)
  refine WL.cons rfl (OP.build [(0, (Value.int .i64 (([5, 6, 5] : List Int).getD 1 0))), (1, (Value.int .i64 2))] [(Value.int .i64 (([5, 6, 5] : List Int).getD 1 0)), (Value.int .i64 2), (Value.slice none 0 0)] rfl (by kernel_rfl) (by decide) ?_)
  have hs27 : sat W0 [BufRep b_3 xs_15 4 1, ShD W0 D_16, stars [SL false 1 (some ⟨b8, 0, none⟩) (([5, 6, 5] : List Int).length) 3 (([5, 6, 5] : List Int).map (Value.int .i64)), F]] w17 := sat_pack' [BufRep b_3 xs_15 4 1, ShD W0 D_16] [SL false 1 (some ⟨b8, 0, none⟩) (([5, 6, 5] : List Int).length) 3 (([5, 6, 5] : List Int).map (Value.int .i64)), F] hs23 (by kernel_rfl) (by kernel_rfl)
  have hcl35 := Buffer_Put b_3 xs_15 4 1 (putM 4 1 ([] : List AEnt) (absB (⟨([5, 6, 5] : List Int).getD 0 0, 2, none, 0, []⟩ : BEnt))) (⟨([5, 6, 5] : List Int).getD 1 0, 2, none, 0, []⟩ : BEnt) D_16 hq21 (by have h_ := abs_len hq21; have := hok26.len; have := hok26.big; omega) hok26.pos hok26.len hq20 hm24 (by decide) hs27
  refine WL.cons rfl (?_)
  with_reducible refine OP.call [(Value.pointer (some ⟨b_3, 0, none⟩)), (Value.agg [(Value.int .i64 ((⟨([5, 6, 5] : List Int).getD 1 0, 2, none, 0, []⟩ : BEnt).sector)), (Value.int .i64 ((⟨([5, 6, 5] : List Int).getD 1 0, 2, none, 0, []⟩ : BEnt).kind)), (Value.slice ((⟨([5, 6, 5] : List Int).getD 1 0, 2, none, 0, []⟩ : BEnt).da) ((⟨([5, 6, 5] : List Int).getD 1 0, 2, none, 0, []⟩ : BEnt).data.length) ((⟨([5, 6, 5] : List Int).getD 1 0, 2, none, 0, []⟩ : BEnt).dc))].toArray)] gf_14 ?_ ?_ hcl35 ?_
  · exact rfl
  · decide
  clear hcl35
  rintro _ w30 ⟨_, rfl, xs_28, D_29, rfl, hq32, hq33, hq34, hs31⟩
  refine ⟨_, rfl, ?_⟩
  have hs36 : sat W0 [BufRep b_3 xs_28 4 1, ShD W0 D_29, SL false 1 (some ⟨b8, 0, none⟩) (([5, 6, 5] : List Int).length) 3 (([5, 6, 5] : List Int).map (Value.int .i64)), F] w30 := sat_flat' [BufRep b_3 xs_28 4 1, ShD W0 D_29] [SL false 1 (some ⟨b8, 0, none⟩) (([5, 6, 5] : List Int).length) 3 (([5, 6, 5] : List Int).map (Value.int .i64)), F] hs31 (by kernel_rfl) (by kernel_rfl)
  have hm37 := hq32 _ hm24
  have hm38 := InD.sub hm25 hq32
  have hm39 := InD.sub hq20 hq32
  have hd40 := DSub.trans hq19 hq32
  have hok41 : OkM 4 (putM 4 1 (putM 4 1 ([] : List AEnt) (absB (⟨([5, 6, 5] : List Int).getD 0 0, 2, none, 0, []⟩ : BEnt))) (absB (⟨([5, 6, 5] : List Int).getD 1 0, 2, none, 0, []⟩ : BEnt))) := OkM.put hok26 (by decide)
  refine WL.nil (Qn.blk (Qn.then ?_))
  refine W.region ?_
  refine WL.cons rfl (OP.add 2 rfl rfl (by first | rfl | omega | simp) (by unfold inI64; omega) (by decide) ?_)
  refine WL.cons rfl (OP.move (Value.int .i64 2) rfl (by decide) ?_)
  refine WL.nil (Qn.then ?_)
  refine rnds.go ?_
  refine W.seq ?_
  refine W.region ?_
  refine WL.cons rfl (OP.lss rfl rfl (by decide) ?_)
  refine WL.nil (Qn.then ?_)
  refine W.seq ?_
  refine W.iteT rfl ?_
  refine W.skip (Qn.then ?_)
  refine W.seq ?_
  refine W.block ?_
  refine W.seq ?_
  refine W.region ?_
  have hi16_ : 2 < 3 := by omega
  refine WL.cons rfl (OP.indexS 2 ⟨_, _, rfl⟩ Try.underlying22 sz_3 rfl rfl rfl hi16_ (by decide) ?_)
  refine WL.cons rfl (OP.loadSR (Value.int .i64 (([5, 6, 5] : List Int).getD 2 0)) (Ent_sat 2 rfl Ent_SL hs36) (ints_get hi16_) sc_3 rfl (by decide) ?_)
  refine WL.cons rfl (OP.assign (Value.int .i64 (([5, 6, 5] : List Int).getD 2 0)) rfl (by decide) ?_)
  refine WL.nil (Qn.then ?_)
  refine W.region ?_
  refine WL.cons rfl (OP.move (Value.pointer (some ⟨b_3, 0, none⟩)) rfl (by decide) ?_)
  refine WL.cons rfl (OP.move (Value.int .i64 (([5, 6, 5] : List Int).getD 2 0)) rfl (by decide) ?_)
  refine WL.cons rfl (OP.build [(0, (Value.int .i64 (([5, 6, 5] : List Int).getD 2 0))), (1, (Value.int .i64 2))] [(Value.int .i64 (([5, 6, 5] : List Int).getD 2 0)), (Value.int .i64 2), (Value.slice none 0 0)] rfl (by kernel_rfl) (by decide) ?_)
  have hs42 : sat W0 [BufRep b_3 xs_28 4 1, ShD W0 D_29, stars [SL false 1 (some ⟨b8, 0, none⟩) (([5, 6, 5] : List Int).length) 3 (([5, 6, 5] : List Int).map (Value.int .i64)), F]] w30 := sat_pack' [BufRep b_3 xs_28 4 1, ShD W0 D_29] [SL false 1 (some ⟨b8, 0, none⟩) (([5, 6, 5] : List Int).length) 3 (([5, 6, 5] : List Int).map (Value.int .i64)), F] hs36 (by kernel_rfl) (by kernel_rfl)
  have hcl50 := Buffer_Put b_3 xs_28 4 1 (putM 4 1 (putM 4 1 ([] : List AEnt) (absB (⟨([5, 6, 5] : List Int).getD 0 0, 2, none, 0, []⟩ : BEnt))) (absB (⟨([5, 6, 5] : List Int).getD 1 0, 2, none, 0, []⟩ : BEnt))) (⟨([5, 6, 5] : List Int).getD 2 0, 2, none, 0, []⟩ : BEnt) D_29 hq34 (by have h_ := abs_len hq34; have := hok41.len; have := hok41.big; omega) hok41.pos hok41.len hq33 hm37 (by decide) hs42
  refine WL.cons rfl (?_)
  with_reducible refine OP.call [(Value.pointer (some ⟨b_3, 0, none⟩)), (Value.agg [(Value.int .i64 ((⟨([5, 6, 5] : List Int).getD 2 0, 2, none, 0, []⟩ : BEnt).sector)), (Value.int .i64 ((⟨([5, 6, 5] : List Int).getD 2 0, 2, none, 0, []⟩ : BEnt).kind)), (Value.slice ((⟨([5, 6, 5] : List Int).getD 2 0, 2, none, 0, []⟩ : BEnt).da) ((⟨([5, 6, 5] : List Int).getD 2 0, 2, none, 0, []⟩ : BEnt).data.length) ((⟨([5, 6, 5] : List Int).getD 2 0, 2, none, 0, []⟩ : BEnt).dc))].toArray)] gf_14 ?_ ?_ hcl50 ?_
  · exact rfl
  · decide
  clear hcl50
  rintro _ w45 ⟨_, rfl, xs_43, D_44, rfl, hq47, hq48, hq49, hs46⟩
  refine ⟨_, rfl, ?_⟩
  have hs51 : sat W0 [BufRep b_3 xs_43 4 1, ShD W0 D_44, SL false 1 (some ⟨b8, 0, none⟩) (([5, 6, 5] : List Int).length) 3 (([5, 6, 5] : List Int).map (Value.int .i64)), F] w45 := sat_flat' [BufRep b_3 xs_43 4 1, ShD W0 D_44] [SL false 1 (some ⟨b8, 0, none⟩) (([5, 6, 5] : List Int).length) 3 (([5, 6, 5] : List Int).map (Value.int .i64)), F] hs46 (by kernel_rfl) (by kernel_rfl)
  have hm52 := hq47 _ hm37
  have hm53 := InD.sub hm38 hq47
  have hm54 := InD.sub hm39 hq47
  have hm55 := InD.sub hq33 hq47
  have hd56 := DSub.trans hd40 hq47
  have hok57 : OkM 4 (putM 4 1 (putM 4 1 (putM 4 1 ([] : List AEnt) (absB (⟨([5, 6, 5] : List Int).getD 0 0, 2, none, 0, []⟩ : BEnt))) (absB (⟨([5, 6, 5] : List Int).getD 1 0, 2, none, 0, []⟩ : BEnt))) (absB (⟨([5, 6, 5] : List Int).getD 2 0, 2, none, 0, []⟩ : BEnt))) := OkM.put hok41 (by decide)
  refine WL.nil (Qn.blk (Qn.then ?_))
  refine W.region ?_
  refine WL.cons rfl (OP.add 3 rfl rfl (by first | rfl | omega | simp) (by unfold inI64; omega) (by decide) ?_)
  refine WL.cons rfl (OP.move (Value.int .i64 3) rfl (by decide) ?_)
  refine WL.nil (Qn.then ?_)
  refine rnds.go ?_
  refine W.seq ?_
  refine W.region ?_
  refine WL.cons rfl (OP.lss rfl rfl (by decide) ?_)
  refine WL.nil (Qn.then ?_)
  refine W.seq ?_
  refine W.iteF rfl ?_
  refine W.exit (Qx.then (Qx.then (Qx.hit (Qn.then ?_))))
  refine W.seq ?_
  refine W.region ?_
  refine WL.cons rfl (OP.move (Value.pointer (some ⟨b_3, 0, none⟩)) rfl (by decide) ?_)
  have hs58 : sat W0 [BufRep b_3 xs_43 4 1, ShD W0 D_44, stars [SL false 1 (some ⟨b8, 0, none⟩) (([5, 6, 5] : List Int).length) 3 (([5, 6, 5] : List Int).map (Value.int .i64)), F]] w45 := sat_pack' [BufRep b_3 xs_43 4 1, ShD W0 D_44] [SL false 1 (some ⟨b8, 0, none⟩) (([5, 6, 5] : List Int).length) 3 (([5, 6, 5] : List Int).map (Value.int .i64)), F] hs51 (by kernel_rfl) (by kernel_rfl)
  have hcl68 := Buffer_Oldest b_3 xs_43 4 1 (putM 4 1 (putM 4 1 (putM 4 1 ([] : List AEnt) (absB (⟨([5, 6, 5] : List Int).getD 0 0, 2, none, 0, []⟩ : BEnt))) (absB (⟨([5, 6, 5] : List Int).getD 1 0, 2, none, 0, []⟩ : BEnt))) (absB (⟨([5, 6, 5] : List Int).getD 2 0, 2, none, 0, []⟩ : BEnt))) 9 D_44 hq49 (by have h_ := abs_len hq49; have := hok57.len; have := hok57.big; omega) hok57.pos hq48 (abs_datl hq49 (fun y_ hy_ => Nat.le_trans (hok57.dat y_ hy_) (by decide))) (by have := hok57.len; have := hok57.big; omega) hs58
  refine WL.cons rfl (?_)
  with_reducible refine OP.call [(Value.pointer (some ⟨b_3, 0, none⟩)), (Value.int .i64 9)] gf_20 ?_ ?_ hcl68 ?_
  · exact rfl
  · decide
  clear hcl68
  rintro _ w63 ⟨_, rfl, a_59, c_60, ys_61, D_62, rfl, hq65, hq66, hq67, hs64⟩
  refine ⟨_, rfl, ?_⟩
  have hs69 : sat W0 [BufRep b_3 xs_43 4 1, ShD W0 D_62, SL false 3 a_59 ys_61.length c_60 (ys_61.flatMap encB), SL false 1 (some ⟨b8, 0, none⟩) (([5, 6, 5] : List Int).length) 3 (([5, 6, 5] : List Int).map (Value.int .i64)), F] w63 := sat_flat' [BufRep b_3 xs_43 4 1, ShD W0 D_62, SL false 3 a_59 ys_61.length c_60 (ys_61.flatMap encB)] [SL false 1 (some ⟨b8, 0, none⟩) (([5, 6, 5] : List Int).length) 3 (([5, 6, 5] : List Int).map (Value.int .i64)), F] hs64 (by kernel_rfl) (by kernel_rfl)
  have hm70 := hq65 _ hm52
  have hm71 := InD.sub hm53 hq65
  have hm72 := InD.sub hm54 hq65
  have hm73 := InD.sub hm55 hq65
  have hm74 := InD.sub hq48 hq65
  have hd75 := DSub.trans hd56 hq65
  have hy_ : (ys_61).map absB = [(5, 2, []), (6, 2, [])] := Eq.trans hq67 (by decide)
  have hyl_ : (ys_61).length = 2 := by have h_ := congrArg List.length hy_; rw [List.length_map] at h_; exact h_
  have hyh_ : ((ys_61).getD 0 default).sector = 5 := by have h_ := abs_getD (i := 0) hy_; exact congrArg (·.1) h_
  refine WL.cons rfl (OP.assign (Value.slice a_59 ys_61.length c_60) rfl (by decide) ?_)
  refine WL.nil (Qn.then ?_)
  refine W.seq ?_
  refine W.region ?_
  refine WL.cons rfl (OP.move (Value.slice a_59 ys_61.length c_60) rfl (by decide) ?_)
  refine WL.cons rfl (OP.len Try.underlying44 rfl rfl (by decide) ?_)
  refine WL.cons rfl (OP.eqI rfl rfl (by decide) ?_)
  refine WL.cons rfl (OP.move (Value.bool (decide (((ys_61.length : Nat) : Int) = 2))) rfl (by decide) ?_)
  by_cases hc76 : ((ys_61.length : Nat) : Int) = 2
  · refine WL.consG rfl rfl (Eq.trans (b := .bool (decide (((ys_61.length : Nat) : Int) = 2))) rfl (congrArg Value.bool (decide_eq_true hc76))) (OP.move (Value.slice a_59 ys_61.length c_60) rfl (by decide) ?_)
    have hi30_ : 0 < ys_61.length := by omega
    refine WL.consG rfl rfl (Eq.trans (b := .bool (decide (((ys_61.length : Nat) : Int) = 2))) rfl (congrArg Value.bool (decide_eq_true hc76))) (OP.indexR 0 (Ent_sat 2 rfl Ent_SL hs69) Try.underlying44 sz_48 rfl rfl rfl hi30_ (by decide) ?_)
    refine WL.consG rfl rfl (Eq.trans (b := .bool (decide (((ys_61.length : Nat) : Int) = 2))) rfl (congrArg Value.bool (decide_eq_true hc76))) (OP.fieldAddrR fo_48_0 rfl (by decide) ?_)
    refine WL.consG rfl rfl (Eq.trans (b := .bool (decide (((ys_61.length : Nat) : Int) = 2))) rfl (congrArg Value.bool (decide_eq_true hc76))) (OP.loadSR (Value.int .i64 ((ys_61.getD 0 default).sector)) (Ent_sat 2 rfl Ent_SL hs69) (recs_get (enc := encB) (fun _ => rfl) hi30_ rfl) sc_3 rfl (by decide) ?_)
    refine WL.consG rfl rfl (Eq.trans (b := .bool (decide (((ys_61.length : Nat) : Int) = 2))) rfl (congrArg Value.bool (decide_eq_true hc76))) (OP.eqI rfl rfl (by decide) ?_)
    refine WL.cons rfl (OP.pickT (Value.bool (decide ((ys_61.getD 0 default).sector = 5))) (Eq.trans (b := .bool (decide (((ys_61.length : Nat) : Int) = 2))) rfl (congrArg Value.bool (decide_eq_true hc76))) rfl (by decide) ?_)
    refine WL.cons rfl (OP.assign (Value.bool (decide ((ys_61.getD 0 default).sector = 5))) rfl (by decide) ?_)
    refine WL.nil (Qn.then ?_)
    refine W.ret (RetQ.of [(Value.bool (decide ((ys_61.getD 0 default).sector = 5)))] (.inr rfl) Try.results12 (.cons (.tmp (by decide) rfl) .nil) ?_)
    have hs78 : sat W0 [F] w63 := sat_sub' [4] [0, 1, 2, 3] hs69 (by kernel_rfl) (by kernel_rfl)
    exact ⟨(congrArg Value.bool (by first | exact decide_eq_true hyh_ | rfl | (exfalso; omega))), hs78⟩
  · refine WL.pass rfl rfl (Eq.trans (b := .bool (decide (((ys_61.length : Nat) : Int) = 2))) rfl (congrArg Value.bool (decide_eq_false hc76))) rfl rfl (by decide) ?_
    refine WL.pass rfl rfl (Eq.trans (b := .bool (decide (((ys_61.length : Nat) : Int) = 2))) rfl (congrArg Value.bool (decide_eq_false hc76))) rfl rfl (by decide) ?_
    refine WL.pass rfl rfl (Eq.trans (b := .bool (decide (((ys_61.length : Nat) : Int) = 2))) rfl (congrArg Value.bool (decide_eq_false hc76))) rfl rfl (by decide) ?_
    refine WL.pass rfl rfl (Eq.trans (b := .bool (decide (((ys_61.length : Nat) : Int) = 2))) rfl (congrArg Value.bool (decide_eq_false hc76))) rfl rfl (by decide) ?_
    refine WL.pass rfl rfl (Eq.trans (b := .bool (decide (((ys_61.length : Nat) : Int) = 2))) rfl (congrArg Value.bool (decide_eq_false hc76))) rfl rfl (by decide) ?_
    refine WL.cons rfl (OP.pickF (Value.bool false) (Eq.trans (b := .bool (decide (((ys_61.length : Nat) : Int) = 2))) rfl (congrArg Value.bool (decide_eq_false hc76))) rfl (by decide) ?_)
    refine WL.cons rfl (OP.assign (Value.bool false) rfl (by decide) ?_)
    refine WL.nil (Qn.then ?_)
    refine W.ret (RetQ.of [(Value.bool false)] (.inr rfl) Try.results12 (.cons (.tmp (by decide) rfl) .nil) ?_)
    have hs80 : sat W0 [F] w63 := sat_sub' [4] [0, 1, 2, 3] hs69 (by kernel_rfl) (by kernel_rfl)
    exact ⟨(congrArg Value.bool (by first | exact decide_eq_true hyh_ | rfl | (exfalso; omega))), hs80⟩

end Go.Proofs.Ytleolejhkdolpaa
