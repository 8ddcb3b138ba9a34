import Derived.Test.YtleolejhkdolpaaC6
import Derived.KernelRfl
set_option linter.unusedVariables false
set_option linter.unusedSimpArgs false
set_option maxRecDepth 100000
set_option maxHeartbeats 4000000
namespace Go.Proofs.Ytleolejhkdolpaa
open Go Go.RowKit Sv
theorem Buffer_Oldest {W0 : World} {F : HProp} {w : World}  (p : Nat) (xs : List BEnt) (most : Int) (size : Int) (m : List AEnt) (n : Int) (D : List (Option Addr × List Int)) (hm : xs.map absB = m) (hn : xs.length ≤ 1099511627) (hp : 0 < most) (hxs : InD D xs) (hlx : ∀ x ∈ xs, x.data.length ≤ 1099511627) (hln : m.length ≤ 1024) 
    (hs : sat W0 [BufRep p xs most size, ShD W0 D, F] w) :
    Calls Try.prog 20 ([(Value.pointer (some ⟨p, 0, none⟩)), (Value.int .i64 n)] : List Value).toArray w (fun x_ w' => ∃ v_, x_ = .returned v_ ∧ (∃ a_ : Option Addr, ∃ c_ : Nat, ∃ ys_ : List BEnt, ∃ D_ : List (Option Addr × List Int), v_ = (Value.slice a_ ys_.length c_) ∧ DSub D D_ ∧ InD D_ ys_ ∧ ys_.map absB = m.take (max n 0).toNat ∧ sat W0 [BufRep p xs most size, ShD W0 D_, SL false 3 a_ ys_.length c_ (ys_.flatMap encB), F] w')) := by
  have hal_ := abs_len hm
  refine W.enter Try.func20 rfl Try.ntmps20 (by simp) ?_
  refine W.seq ?_
  refine W.region ?_
  refine WL.cons rfl (OP.assign (Value.slice none 0 0) rfl (by decide) ?_)
  refine WL.nil (Qn.then ?_)
  refine W.seq ?_
  refine W.region ?_
  refine WL.cons rfl (OP.assign (Value.slice none 0 0) rfl (by decide) ?_)
  refine WL.nil (Qn.then ?_)
  refine W.seq ?_
  refine W.seq ?_
  refine W.region ?_
  refine WL.cons rfl (OP.move (Value.int .i64 n) rfl (by decide) ?_)
  refine WL.cons rfl (OP.maxI (max n 0) rfl rfl rfl (by decide) ?_)
  refine WL.cons rfl (OP.move (Value.pointer (some ⟨p, 0, none⟩)) rfl (by decide) ?_)
  have hs1 : sat W0 [BufRep p xs most size, stars [ShD W0 D, F]] w := sat_pack' [BufRep p xs most size] [ShD W0 D, F] hs (by kernel_rfl) (by kernel_rfl)
  have hcl4 := Buffer_Len p xs most size m (by first | assumption | omega) (by first | assumption | omega) hs1
  refine WL.cons rfl (?_)
  with_reducible refine OP.call [(Value.pointer (some ⟨p, 0, none⟩))] gf_23 ?_ ?_ hcl4 ?_
  · exact rfl
  · decide
  clear hcl4
  rintro _ w2 ⟨_, rfl, rfl, hs3⟩
  refine ⟨_, rfl, ?_⟩
  have hs5 : sat W0 [BufRep p xs most size, ShD W0 D, F] w2 := sat_flat' [BufRep p xs most size] [ShD W0 D, F] hs3 (by kernel_rfl) (by kernel_rfl)
  refine WL.cons rfl (OP.minI (min (max n 0) ((m.length : Nat) : Int)) rfl rfl rfl (by decide) ?_)
  refine WL.cons rfl (OP.move (Value.int .i64 0) rfl (by decide) ?_)
  refine WL.nil (Qn.then ?_)
  refine W.block ?_
  have hs6 : sat W0 [SL false 3 none (([] : List BEnt).length) 0 (([] : List BEnt).flatMap encB), BufRep p xs most size, ShD W0 D, F] w2 := sat_SL_nil hs5
  have hs7 : sat W0 [SL false 3 none (([] : List BEnt).length) 0 (([] : List BEnt).flatMap encB), ShD W0 D, BufRep p xs most size, F] w2 := sat_sel' [0, 2, 1, 3] hs6 (by kernel_rfl) (by kernel_rfl)
  refine W.loop (fun n_ e_ w_ => ∃ k : Nat, ∃ ys : List BEnt, ∃ ya : Option Addr, ∃ yc : Nat, ∃ D2 : List (Option Addr × List Int), n_ = m.length - k ∧ e_ 0 = (Value.pointer (some ⟨p, 0, none⟩)) ∧ e_ 4 = (Value.slice none 0 0) ∧ e_ 5 = (Value.slice ya ys.length yc) ∧ e_ 11 = (Value.int .i64 (min (max n 0) ((m.length : Nat) : Int))) ∧ e_ 12 = (Value.int .i64 ((k : Nat) : Int)) ∧ k ≤ m.length ∧ (k : Int) ≤ max n 0 ∧ ys.map absB = m.take k ∧ InD D2 ys ∧ DSub D D2 ∧ sat W0 [SL false 3 ya ys.length yc (ys.flatMap encB), ShD W0 D2, BufRep p xs most size, F] w_) (m.length - 0) ⟨0, ([] : List BEnt), none, 0, D, rfl, rfl, rfl, (Eq.trans (b := (Value.slice none 0 0)) rfl (by first | rfl | simp_all)), rfl, (Eq.trans (b := (Value.int .i64 0)) rfl (congrArg (Value.int .i64) (by first | rfl | omega | simp | (simp; omega)))), (by omega), (by omega), rfl, InD.nil, DSub.refl, hs7⟩ ?_
  rintro n8 e9 w10 ⟨k, ys, ya, yc, D2, hn12, he13, he14, he15, he16, he17, hp18, hp19, hp20, hp21, hp22, hs11⟩
  have hz23 := InD.sub hxs hp22
  have hold_ := hp20
  have hyl_ : ys.length ≤ 1024 := by have h_ := congrArg List.length hold_; rw [List.length_map, List.length_take] at h_; omega
  refine W.seq ?_
  refine W.region ?_
  refine WL.cons rfl (OP.lss he17 he16 (by decide) ?_)
  refine WL.nil (Qn.then ?_)
  refine W.seq ?_
  refine W.iteP (p := ((k : Nat) : Int) < min (max n 0) ((m.length : Nat) : Int)) rfl (fun hc24 => ?_) (fun hc24 => ?_)
  · refine W.skip (Qn.then ?_)
    refine W.seq ?_
    refine W.block ?_
    refine W.seq ?_
    refine W.region ?_
    refine WL.cons rfl (OP.move (Value.int .i64 ((k : Nat) : Int)) he17 (by decide) ?_)
    refine WL.cons rfl (OP.assign (Value.int .i64 ((k : Nat) : Int)) rfl (by decide) ?_)
    refine WL.nil (Qn.then ?_)
    refine W.region ?_
    refine WL.cons rfl (OP.move (Value.slice ya ys.length yc) he15 (by decide) ?_)
    refine WL.cons rfl (OP.move (Value.pointer (some ⟨p, 0, none⟩)) he13 (by decide) ?_)
    refine WL.cons rfl (OP.nilCheck rfl (by decide) ?_)
    refine WL.cons rfl (OP.fieldAddr 0 fo_92_0 rfl rfl (by decide) ?_)
    have hs25 : sat W0 [BufRep p xs most size, SL false 3 ya ys.length yc (ys.flatMap encB), ShD W0 D2, F] w10 := sat_sel' [2, 0, 1, 3] hs11 (by kernel_rfl) (by kernel_rfl)
    obtain ⟨a1_26, c1_27, _, hs28⟩ := BufRep_open hs25
    have hs29 : sat W0 [blk p [(Value.slice a1_26 xs.length c1_27), (Value.int .i64 most), (Value.int .i64 size)] 92, SL false 3 a1_26 xs.length c1_27 (xs.flatMap encB), SL false 3 ya ys.length yc (ys.flatMap encB), ShD W0 D2, F] w10 := hs28
    refine WL.cons rfl (OP.loadS (Value.slice a1_26 xs.length c1_27) sc_44 rfl (sat_cell 0 hs29 rfl rfl) (by decide) ?_)
    refine WL.cons rfl (OP.move (Value.int .i64 ((k : Nat) : Int)) rfl (by decide) ?_)
    have hi21_ : k < xs.length := by omega
    refine WL.cons rfl (OP.indexR k (Ent_sat 1 rfl Ent_SL hs29) Try.underlying44 sz_48 rfl rfl rfl hi21_ (by decide) ?_)
    refine WL.cons rfl (OP.loadAR (encB (xs.getD k default)) (Ent_sat 1 rfl Ent_SL hs29) (recs_take (enc := encB) (fun _ => rfl) hi21_) ag_48 sz_48 rfl (by decide) ?_)
    have hs30 : sat W0 [ShD W0 D2, blk p [(Value.slice a1_26 xs.length c1_27), (Value.int .i64 most), (Value.int .i64 size)] 92, SL false 3 a1_26 xs.length c1_27 (xs.flatMap encB), SL false 3 ya ys.length yc (ys.flatMap encB), F] w10 := sat_sel' [3, 0, 1, 2, 4] hs29 (by kernel_rfl) (by kernel_rfl)
    have hs31 : sat W0 [ShD W0 D2, stars [blk p [(Value.slice a1_26 xs.length c1_27), (Value.int .i64 most), (Value.int .i64 size)] 92, SL false 3 a1_26 xs.length c1_27 (xs.flatMap encB), SL false 3 ya ys.length yc (ys.flatMap encB), F]] w10 := sat_pack' [ShD W0 D2] [blk p [(Value.slice a1_26 xs.length c1_27), (Value.int .i64 most), (Value.int .i64 size)] 92, SL false 3 a1_26 xs.length c1_27 (xs.flatMap encB), SL false 3 ya ys.length yc (ys.flatMap encB), F] hs30 (by kernel_rfl) (by kernel_rfl)
    have hcl39 := buffer_copied (xs.getD k default) D2 (hz23 _ (getD_mem (by omega))) (hlx _ (getD_mem (by omega))) hs31
    refine WL.cons rfl (?_)
    with_reducible refine OP.call [(Value.agg [(Value.int .i64 ((xs.getD k default).sector)), (Value.int .i64 ((xs.getD k default).kind)), (Value.slice ((xs.getD k default).da) ((xs.getD k default).data.length) ((xs.getD k default).dc))].toArray)] gf_48 ?_ ?_ hcl39 ?_
    · exact rfl
    · decide
    clear hcl39
    rintro _ w35 ⟨_, rfl, a_32, c_33, D_34, rfl, hq37, hq38, hs36⟩
    refine ⟨_, rfl, ?_⟩
    have hs40 : sat W0 [ShD W0 D_34, blk p [(Value.slice a1_26 xs.length c1_27), (Value.int .i64 most), (Value.int .i64 size)] 92, SL false 3 a1_26 xs.length c1_27 (xs.flatMap encB), SL false 3 ya ys.length yc (ys.flatMap encB), F] w35 := sat_flat' [ShD W0 D_34] [blk p [(Value.slice a1_26 xs.length c1_27), (Value.int .i64 most), (Value.int .i64 size)] 92, SL false 3 a1_26 xs.length c1_27 (xs.flatMap encB), SL false 3 ya ys.length yc (ys.flatMap encB), F] hs36 (by kernel_rfl) (by kernel_rfl)
    have hm41 := InD.sub hz23 hq37
    have hm42 := InD.sub hp21 hq37
    have hd43 := DSub.trans hp22 hq37
    refine WL.cons rfl (OP.buildSlice (el := 48) [(0, (Value.agg [(Value.int .i64 ((xs.getD k default).sector)), (Value.int .i64 ((xs.getD k default).kind)), (Value.slice a_32 ((xs.getD k default).data.length) c_33)].toArray))] [(Value.int .i64 ((xs.getD k default).sector)), (Value.int .i64 ((xs.getD k default).kind)), (Value.slice a_32 ((xs.getD k default).data.length) c_33)] hs40 rfl (fun _ => by kernel_rfl) (by decide) (fun b44 w45 hs46 => ?_))
    have hs47 : sat W0 [SL false 3 (some ⟨b44, 0, none⟩) 1 1 ([(Value.int .i64 ((xs.getD k default).sector)), (Value.int .i64 ((xs.getD k default).kind)), (Value.slice a_32 ((xs.getD k default).data.length) c_33)]), ShD W0 D_34, blk p [(Value.slice a1_26 xs.length c1_27), (Value.int .i64 most), (Value.int .i64 size)] 92, SL false 3 a1_26 xs.length c1_27 (xs.flatMap encB), SL false 3 ya ys.length yc (ys.flatMap encB), F] w45 := sat_SL_blk rfl hs46
    have hs48 : sat W0 [SL false 3 ya ys.length yc (ys.flatMap encB), SL false 3 (some ⟨b44, 0, none⟩) 1 1 ([(Value.int .i64 ((xs.getD k default).sector)), (Value.int .i64 ((xs.getD k default).kind)), (Value.slice a_32 ((xs.getD k default).data.length) c_33)]), ShD W0 D_34, blk p [(Value.slice a1_26 xs.length c1_27), (Value.int .i64 most), (Value.int .i64 size)] 92, SL false 3 a1_26 xs.length c1_27 (xs.flatMap encB), F] w45 := sat_sel' [4, 0, 1, 2, 3, 5] hs47 (by kernel_rfl) (by kernel_rfl)
    refine WL.cons rfl (OP.append' (z := [(Value.int .i64 0), (Value.int .i64 0), (Value.slice none 0 0)]) ((ys ++ [(⟨(xs.getD k default).sector, (xs.getD k default).kind, a_32, c_33, (xs.getD k default).data⟩ : BEnt)]).length) ((ys ++ [(⟨(xs.getD k default).sector, (xs.getD k default).kind, a_32, c_33, (xs.getD k default).data⟩ : BEnt)]).flatMap encB) hs48 (Ent_sat 1 rfl Ent_SL hs48) Try.underlying44 sz_48 by_48 ze_48 rfl rfl (by simp; omega) (by simp; omega) (by simp [Value.oneCell']) rfl rfl rfl (by simp) (by simp [encB]) (by decide) (fun a49 c50 w51 hs52 => ?_))
    have hs53 : sat W0 [SL false 3 a49 ((ys ++ [(⟨(xs.getD k default).sector, (xs.getD k default).kind, a_32, c_33, (xs.getD k default).data⟩ : BEnt)]).length) c50 ((ys ++ [(⟨(xs.getD k default).sector, (xs.getD k default).kind, a_32, c_33, (xs.getD k default).data⟩ : BEnt)]).flatMap encB), SL false 3 (some ⟨b44, 0, none⟩) 1 1 ([(Value.int .i64 ((xs.getD k default).sector)), (Value.int .i64 ((xs.getD k default).kind)), (Value.slice a_32 ((xs.getD k default).data.length) c_33)]), ShD W0 D_34, blk p [(Value.slice a1_26 xs.length c1_27), (Value.int .i64 most), (Value.int .i64 size)] 92, SL false 3 a1_26 xs.length c1_27 (xs.flatMap encB), F] w51 := hs52
    refine WL.cons rfl (OP.assign (Value.slice a49 ((ys ++ [(⟨(xs.getD k default).sector, (xs.getD k default).kind, a_32, c_33, (xs.getD k default).data⟩ : BEnt)]).length) c50) rfl (by decide) ?_)
    refine WL.nil (Qn.blk (Qn.then ?_))
    refine W.region ?_
    refine WL.cons rfl (OP.add ((k + 1 : Nat) : Int) he17 rfl (by first | rfl | omega | simp) (by unfold inI64; omega) (by decide) ?_)
    refine WL.cons rfl (OP.move (Value.int .i64 ((k + 1 : Nat) : Int)) rfl (by decide) ?_)
    refine WL.nil (Qn.then ?_)
    have hs54 : sat W0 [blk p [(Value.slice a1_26 xs.length c1_27), (Value.int .i64 most), (Value.int .i64 size)] 92, SL false 3 a1_26 xs.length c1_27 (xs.flatMap encB), SL false 3 a49 ((ys ++ [(⟨(xs.getD k default).sector, (xs.getD k default).kind, a_32, c_33, (xs.getD k default).data⟩ : BEnt)]).length) c50 ((ys ++ [(⟨(xs.getD k default).sector, (xs.getD k default).kind, a_32, c_33, (xs.getD k default).data⟩ : BEnt)]).flatMap encB), SL false 3 (some ⟨b44, 0, none⟩) 1 1 ([(Value.int .i64 ((xs.getD k default).sector)), (Value.int .i64 ((xs.getD k default).kind)), (Value.slice a_32 ((xs.getD k default).data.length) c_33)]), ShD W0 D_34, F] w51 := sat_sel' [3, 4, 0, 1, 2, 5] hs53 (by kernel_rfl) (by kernel_rfl)
    have hs55 : sat W0 [BufRep p xs most size, SL false 3 a49 ((ys ++ [(⟨(xs.getD k default).sector, (xs.getD k default).kind, a_32, c_33, (xs.getD k default).data⟩ : BEnt)]).length) c50 ((ys ++ [(⟨(xs.getD k default).sector, (xs.getD k default).kind, a_32, c_33, (xs.getD k default).data⟩ : BEnt)]).flatMap encB), SL false 3 (some ⟨b44, 0, none⟩) 1 1 ([(Value.int .i64 ((xs.getD k default).sector)), (Value.int .i64 ((xs.getD k default).kind)), (Value.slice a_32 ((xs.getD k default).data.length) c_33)]), ShD W0 D_34, F] w51 := BufRep_close a1_26 c1_27 trivial hs54
    have hs56 : sat W0 [SL false 3 a49 ((ys ++ [(⟨(xs.getD k default).sector, (xs.getD k default).kind, a_32, c_33, (xs.getD k default).data⟩ : BEnt)]).length) c50 ((ys ++ [(⟨(xs.getD k default).sector, (xs.getD k default).kind, a_32, c_33, (xs.getD k default).data⟩ : BEnt)]).flatMap encB), ShD W0 D_34, BufRep p xs most size, F] w51 := sat_sub' [1, 3, 0, 4] [2] hs55 (by kernel_rfl) (by kernel_rfl)
    exact ⟨_, (by omega), (k + 1), (ys ++ [(⟨(xs.getD k default).sector, (xs.getD k default).kind, a_32, c_33, (xs.getD k default).data⟩ : BEnt)]), a49, c50, D_34, rfl, he13, he14, rfl, he16, (Eq.trans (b := (Value.int .i64 ((k + 1 : Nat) : Int))) rfl (congrArg (Value.int .i64) (by first | rfl | omega | simp | (simp; omega)))), (by omega), (by omega), (old_next hm (by omega) hold_ rfl), (InD.snoc hm42 hq38), hd43, hs56⟩
  · refine W.exit (Qx.then (Qx.then (Qx.hit (Qn.then ?_))))
    refine W.seq ?_
    refine W.region ?_
    refine WL.cons rfl (OP.move (Value.slice ya ys.length yc) he15 (by decide) ?_)
    refine WL.cons rfl (OP.assign (Value.slice ya ys.length yc) rfl (by decide) ?_)
    refine WL.nil (Qn.then ?_)
    refine W.ret (RetQ.of [(Value.slice ya ys.length yc)] (.inr rfl) Try.results20 (.cons (.tmp (by decide) rfl) .nil) ?_)
    have hs58 : sat W0 [BufRep p xs most size, ShD W0 D2, SL false 3 ya ys.length yc (ys.flatMap encB), F] w10 := sat_sel' [2, 1, 0, 3] hs11 (by kernel_rfl) (by kernel_rfl)
    exact ⟨ya, yc, ys, D2, rfl, hp22, hp21, (old_end (k := k) hold_ (by omega) (by omega) (by assumption)), hs58⟩

end Go.Proofs.Ytleolejhkdolpaa
