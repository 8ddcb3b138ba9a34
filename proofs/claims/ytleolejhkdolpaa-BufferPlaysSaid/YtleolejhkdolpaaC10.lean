import Derived.Test.YtleolejhkdolpaaC9
import Derived.KernelRfl
set_option linter.unusedVariables false
set_option linter.unusedSimpArgs false
set_option maxRecDepth 100000
set_option maxHeartbeats 4000000
namespace Go.Proofs.Ytleolejhkdolpaa
open Go Go.RowKit Sv
theorem Buffer_Drop {W0 : World} {F : HProp} {w : World}  (p : Nat) (xs : List BEnt) (most : Int) (size : Int) (m : List AEnt) (a : Option Addr) (c : Nat) (ss : List Int) (hm : xs.map absB = m) (hn : xs.length ≤ 1099511627) (hp : 0 < most) (hu : (m.map (·.1)).Nodup) (hsn : ss.length ≤ 1099511627) (hr : Ent W0 F (fun w => Rd w 1 a ss.length (ss.map (Value.int .i64))))
    (hs : sat W0 [BufRep p xs most size, F] w) :
    Calls Try.prog 21 ([(Value.pointer (some ⟨p, 0, none⟩)), (Value.slice a ss.length c)] : List Value).toArray w (fun x_ w' => ∃ v_, x_ = .returned v_ ∧ (∃ xs_ : List BEnt, v_ = (Value.int .i64 (((m.length : Nat) : Int) - (((dropM m ss).length : Nat) : Int))) ∧ (∀ y ∈ xs_, y ∈ xs) ∧ xs_.map absB = dropM m ss ∧ sat W0 [BufRep p xs_ most size, F] w')) := by
  have hal_ := abs_len hm
  refine W.enter Try.func21 rfl Try.ntmps21 (by simp) ?_
  refine W.seq ?_
  refine W.region ?_
  refine WL.cons rfl (OP.assign (Value.int .i64 0) rfl (by decide) ?_)
  refine WL.nil (Qn.then ?_)
  refine W.seq ?_
  refine W.region ?_
  refine WL.cons rfl (OP.move (Value.pointer (some ⟨p, 0, none⟩)) rfl (by decide) ?_)
  have hs1 : sat W0 [BufRep p xs most size, stars [F]] w := sat_pack' [BufRep p xs most size] [F] hs (by kernel_rfl) (by kernel_rfl)
  have hcl4 := Buffer_Len p xs most size m (by first | assumption | omega) (by first | assumption | omega) hs1
  refine WL.cons rfl (?_)
  with_reducible refine OP.call [(Value.pointer (some ⟨p, 0, none⟩))] gf_23 ?_ ?_ hcl4 ?_
  · exact rfl
  · decide
  clear hcl4
  rintro _ w2 ⟨_, rfl, rfl, hs3⟩
  refine ⟨_, rfl, ?_⟩
  have hs5 : sat W0 [BufRep p xs most size, F] w2 := sat_flat' [BufRep p xs most size] [F] hs3 (by kernel_rfl) (by kernel_rfl)
  refine WL.cons rfl (OP.assign (Value.int .i64 ((m.length : Nat) : Int)) rfl (by decide) ?_)
  refine WL.nil (Qn.then ?_)
  refine W.seq ?_
  refine W.seq ?_
  refine W.region ?_
  refine WL.cons rfl (OP.move (Value.slice a ss.length c) rfl (by decide) ?_)
  refine WL.cons rfl (OP.len Try.underlying22 rfl rfl (by decide) ?_)
  refine WL.cons rfl (OP.move (Value.int .i64 0) rfl (by decide) ?_)
  refine WL.nil (Qn.then ?_)
  refine W.block ?_
  refine W.loop (fun n_ e_ w_ => ∃ k : Nat, ∃ ys : List BEnt, n_ = ss.length - k ∧ e_ 0 = (Value.pointer (some ⟨p, 0, none⟩)) ∧ e_ 4 = (Value.int .i64 0) ∧ e_ 5 = (Value.int .i64 ((m.length : Nat) : Int)) ∧ e_ 11 = (Value.slice a ss.length c) ∧ e_ 12 = (Value.int .i64 ((ss.length : Nat) : Int)) ∧ e_ 13 = (Value.int .i64 ((k : Nat) : Int)) ∧ k ≤ ss.length ∧ ys.map absB = dropM m (ss.take k) ∧ (∀ y ∈ ys, y ∈ xs) ∧ ys.length ≤ xs.length ∧ sat W0 [BufRep p ys most size, F] w_) (ss.length - 0) ⟨0, xs, rfl, rfl, rfl, rfl, rfl, rfl, (Eq.trans (b := (Value.int .i64 0)) rfl (congrArg (Value.int .i64) (by first | rfl | omega | simp | (simp; omega)))), (by omega), (by rw [hm]; symm; simp [dropM]), (fun _ h => h), (Nat.le_refl _), hs5⟩ ?_
  rintro n6 e7 w8 ⟨k, ys, hn10, he11, he12, he13, he14, he15, he16, hp17, hp18, hp19, hp20, hs9⟩
  have hold_ := hp18
  have hsub_ := hp19
  have hyl_ := hp20
  have hyn_ := abs_len hold_
  have hfr_ := findA_range (m := (dropM m (ss.take k))) (s := (ss.getD k 0))
  refine W.seq ?_
  refine W.region ?_
  refine WL.cons rfl (OP.lss he16 he15 (by decide) ?_)
  refine WL.nil (Qn.then ?_)
  refine W.seq ?_
  refine W.iteP (p := ((k : Nat) : Int) < ((ss.length : Nat) : Int)) rfl (fun hc21 => ?_) (fun hc21 => ?_)
  · refine W.skip (Qn.then ?_)
    refine W.seq ?_
    refine W.block ?_
    refine W.seq ?_
    refine W.region ?_
    have hi15_ : k < ss.length := by omega
    refine WL.cons rfl (OP.indexR k (Ent_sat 1 rfl hr hs9) Try.underlying22 sz_3 he14 he16 rfl hi15_ (by decide) ?_)
    refine WL.cons rfl (OP.loadSR (Value.int .i64 (ss.getD k 0)) (Ent_sat 1 rfl hr hs9) (ints_get hi15_) sc_3 rfl (by decide) ?_)
    refine WL.cons rfl (OP.assign (Value.int .i64 (ss.getD k 0)) rfl (by decide) ?_)
    refine WL.nil (Qn.then ?_)
    refine W.seq ?_
    refine W.region ?_
    refine WL.cons rfl (OP.move (Value.pointer (some ⟨p, 0, none⟩)) he11 (by decide) ?_)
    refine WL.cons rfl (OP.move (Value.int .i64 (ss.getD k 0)) rfl (by decide) ?_)
    have hs22 : sat W0 [BufRep p ys most size, stars [F]] w8 := sat_pack' [BufRep p ys most size] [F] hs9 (by kernel_rfl) (by kernel_rfl)
    have hcl25 := Buffer_place p ys most size (dropM m (ss.take k)) (ss.getD k 0) hold_ (by omega) (by first | assumption | omega) hs22
    refine WL.cons rfl (?_)
    with_reducible refine OP.call [(Value.pointer (some ⟨p, 0, none⟩)), (Value.int .i64 (ss.getD k 0))] gf_47 ?_ ?_ hcl25 ?_
    · exact rfl
    · decide
    clear hcl25
    rintro _ w23 ⟨_, rfl, rfl, hs24⟩
    refine ⟨_, rfl, ?_⟩
    have hs26 : sat W0 [BufRep p ys most size, F] w23 := sat_flat' [BufRep p ys most size] [F] hs24 (by kernel_rfl) (by kernel_rfl)
    refine WL.cons rfl (OP.assign (Value.int .i64 (findA (dropM m (ss.take k)) (ss.getD k 0))) rfl (by decide) ?_)
    refine WL.nil (Qn.then ?_)
    refine W.seq ?_
    refine W.region ?_
    refine WL.cons rfl (OP.move (Value.int .i64 (findA (dropM m (ss.take k)) (ss.getD k 0))) rfl (by decide) ?_)
    refine WL.cons rfl (OP.geq rfl rfl (by decide) ?_)
    refine WL.nil (Qn.then ?_)
    refine W.iteP (p := findA (dropM m (ss.take k)) (ss.getD k 0) ≥ 0) rfl (fun hc27 => ?_) (fun hc27 => ?_)
    · refine W.region ?_
      refine WL.cons rfl (OP.move (Value.pointer (some ⟨p, 0, none⟩)) he11 (by decide) ?_)
      refine WL.cons rfl (OP.move (Value.pointer (some ⟨p, 0, none⟩)) he11 (by decide) ?_)
      refine WL.cons rfl (OP.nilCheck rfl (by decide) ?_)
      refine WL.cons rfl (OP.fieldAddr 0 fo_92_0 rfl rfl (by decide) ?_)
      obtain ⟨a1_28, c1_29, _, hs30⟩ := BufRep_open hs26
      have hs31 : sat W0 [blk p [(Value.slice a1_28 ys.length c1_29), (Value.int .i64 most), (Value.int .i64 size)] 92, SL false 3 a1_28 ys.length c1_29 (ys.flatMap encB), F] w23 := hs30
      refine WL.cons rfl (OP.loadS (Value.slice a1_28 ys.length c1_29) sc_44 rfl (sat_cell 0 hs31 rfl rfl) (by decide) ?_)
      refine WL.cons rfl (OP.move (Value.int .i64 (findA (dropM m (ss.take k)) (ss.getD k 0))) rfl (by decide) ?_)
      refine WL.cons rfl (OP.move (Value.int .i64 (findA (dropM m (ss.take k)) (ss.getD k 0))) rfl (by decide) ?_)
      refine WL.cons rfl (OP.add ((findA (dropM m (ss.take k)) (ss.getD k 0)) + 1) rfl rfl (by first | rfl | omega | simp) (by unfold inI64; omega) (by decide) ?_)
      have hs32 : sat W0 [SL false 3 a1_28 ys.length c1_29 (ys.flatMap encB), blk p [(Value.slice a1_28 ys.length c1_29), (Value.int .i64 most), (Value.int .i64 size)] 92, F] w23 := sat_sel' [1, 0, 2] hs31 (by kernel_rfl) (by kernel_rfl)
      have hs33 : sat W0 [SL false 3 a1_28 ys.length c1_29 (ys.flatMap encB), stars [blk p [(Value.slice a1_28 ys.length c1_29), (Value.int .i64 most), (Value.int .i64 size)] 92, F]] w23 := sat_pack' [SL false 3 a1_28 ys.length c1_29 (ys.flatMap encB)] [blk p [(Value.slice a1_28 ys.length c1_29), (Value.int .i64 most), (Value.int .i64 size)] 92, F] hs32 (by kernel_rfl) (by kernel_rfl)
      have hcl36 := slices_Delete_ent a1_28 c1_29 ys (findA (dropM m (ss.take k)) (ss.getD k 0)) (by omega) (by omega) hs33
      refine WL.cons rfl (?_)
      with_reducible refine OP.call [(Value.slice a1_28 ys.length c1_29), (Value.int .i64 (findA (dropM m (ss.take k)) (ss.getD k 0))), (Value.int .i64 ((findA (dropM m (ss.take k)) (ss.getD k 0)) + 1))] gf_50 ?_ ?_ hcl36 ?_
      · exact rfl
      · decide
      clear hcl36
      rintro _ w34 ⟨_, rfl, rfl, hs35⟩
      refine ⟨_, rfl, ?_⟩
      have hs37 : sat W0 [SL false 3 a1_28 ((ys.eraseIdx (findA (dropM m (ss.take k)) (ss.getD k 0)).toNat).length) c1_29 ((ys.eraseIdx (findA (dropM m (ss.take k)) (ss.getD k 0)).toNat).flatMap encB), blk p [(Value.slice a1_28 ys.length c1_29), (Value.int .i64 most), (Value.int .i64 size)] 92, F] w34 := sat_flat' [SL false 3 a1_28 ((ys.eraseIdx (findA (dropM m (ss.take k)) (ss.getD k 0)).toNat).length) c1_29 ((ys.eraseIdx (findA (dropM m (ss.take k)) (ss.getD k 0)).toNat).flatMap encB)] [blk p [(Value.slice a1_28 ys.length c1_29), (Value.int .i64 most), (Value.int .i64 size)] 92, F] hs35 (by kernel_rfl) (by kernel_rfl)
      refine WL.cons rfl (OP.nilCheck rfl (by decide) ?_)
      refine WL.cons rfl (OP.fieldAddr 0 fo_92_0 rfl rfl (by decide) ?_)
      have hs38 : sat W0 [blk p [(Value.slice a1_28 ys.length c1_29), (Value.int .i64 most), (Value.int .i64 size)] 92, SL false 3 a1_28 ((ys.eraseIdx (findA (dropM m (ss.take k)) (ss.getD k 0)).toNat).length) c1_29 ((ys.eraseIdx (findA (dropM m (ss.take k)) (ss.getD k 0)).toNat).flatMap encB), F] w34 := sat_sel' [1, 0, 2] hs37 (by kernel_rfl) (by kernel_rfl)
      refine WL.cons rfl (OP.store (Value.slice a1_28 ((ys.eraseIdx (findA (dropM m (ss.take k)) (ss.getD k 0)).toNat).length) c1_29) [(Value.slice a1_28 ((ys.eraseIdx (findA (dropM m (ss.take k)) (ss.getD k 0)).toNat).length) c1_29)] hs38 rfl rfl rfl sz_44 rfl (by rfl) (by simp) (fun w39 hs40 => ?_))
      have hs41 : sat W0 [blk p [(Value.slice a1_28 ((ys.eraseIdx (findA (dropM m (ss.take k)) (ss.getD k 0)).toNat).length) c1_29), (Value.int .i64 most), (Value.int .i64 size)] 92, SL false 3 a1_28 ((ys.eraseIdx (findA (dropM m (ss.take k)) (ss.getD k 0)).toNat).length) c1_29 ((ys.eraseIdx (findA (dropM m (ss.take k)) (ss.getD k 0)).toNat).flatMap encB), F] w39 := hs40
      refine WL.nil (Qn.blk (Qn.then ?_))
      refine W.region ?_
      refine WL.cons rfl (OP.add ((k + 1 : Nat) : Int) he16 rfl (by first | rfl | omega | simp) (by unfold inI64; omega) (by decide) ?_)
      refine WL.cons rfl (OP.move (Value.int .i64 ((k + 1 : Nat) : Int)) rfl (by decide) ?_)
      refine WL.nil (Qn.then ?_)
      have hs42 : sat W0 [BufRep p (ys.eraseIdx (findA (dropM m (ss.take k)) (ss.getD k 0)).toNat) most size, F] w39 := BufRep_close a1_28 c1_29 trivial hs41
      exact ⟨_, (by omega), (k + 1), (ys.eraseIdx (findA (dropM m (ss.take k)) (ss.getD k 0)).toNat), rfl, he11, he12, he13, he14, he15, (Eq.trans (b := (Value.int .i64 ((k + 1 : Nat) : Int))) rfl (congrArg (Value.int .i64) (by first | rfl | omega | simp | (simp; omega)))), (by omega), ((abs_erase hold_).trans (by rw [take_snocI (by omega)]; exact drop_hit hu (by omega))), (fun y h => hsub_ y (List.mem_of_mem_eraseIdx h)), (Nat.le_trans (List.length_eraseIdx_le ..) hyl_), hs42⟩
    · refine W.skip (Qn.blk (Qn.then ?_))
      refine W.region ?_
      refine WL.cons rfl (OP.add ((k + 1 : Nat) : Int) he16 rfl (by first | rfl | omega | simp) (by unfold inI64; omega) (by decide) ?_)
      refine WL.cons rfl (OP.move (Value.int .i64 ((k + 1 : Nat) : Int)) rfl (by decide) ?_)
      refine WL.nil (Qn.then ?_)
      exact ⟨_, (by omega), (k + 1), ys, rfl, he11, he12, he13, he14, he15, (Eq.trans (b := (Value.int .i64 ((k + 1 : Nat) : Int))) rfl (congrArg (Value.int .i64) (by first | rfl | omega | simp | (simp; omega)))), (by omega), (hold_.trans (by rw [take_snocI (by omega)]; exact (drop_miss (by omega)).symm)), hsub_, hyl_, hs26⟩
  · refine W.exit (Qx.then (Qx.then (Qx.hit (Qn.then ?_))))
    refine W.seq ?_
    refine W.region ?_
    refine WL.cons rfl (OP.move (Value.int .i64 ((m.length : Nat) : Int)) he13 (by decide) ?_)
    refine WL.cons rfl (OP.move (Value.pointer (some ⟨p, 0, none⟩)) he11 (by decide) ?_)
    have hs43 : sat W0 [BufRep p ys most size, stars [F]] w8 := sat_pack' [BufRep p ys most size] [F] hs9 (by kernel_rfl) (by kernel_rfl)
    have hcl46 := Buffer_Len p ys most size (dropM m (ss.take k)) hold_ (by first | assumption | omega) hs43
    refine WL.cons rfl (?_)
    with_reducible refine OP.call [(Value.pointer (some ⟨p, 0, none⟩))] gf_23 ?_ ?_ hcl46 ?_
    · exact rfl
    · decide
    clear hcl46
    rintro _ w44 ⟨_, rfl, rfl, hs45⟩
    refine ⟨_, rfl, ?_⟩
    have hs47 : sat W0 [BufRep p ys most size, F] w44 := sat_flat' [BufRep p ys most size] [F] hs45 (by kernel_rfl) (by kernel_rfl)
    refine WL.cons rfl (OP.sub (((m.length : Nat) : Int) - (((dropM m (ss.take k)).length : Nat) : Int)) rfl rfl (by first | rfl | omega | simp) (by unfold inI64; omega) (by decide) ?_)
    refine WL.cons rfl (OP.assign (Value.int .i64 (((m.length : Nat) : Int) - (((dropM m (ss.take k)).length : Nat) : Int))) rfl (by decide) ?_)
    refine WL.nil (Qn.then ?_)
    refine W.ret (RetQ.of [(Value.int .i64 (((m.length : Nat) : Int) - (((dropM m (ss.take k)).length : Nat) : Int)))] (.inr rfl) Try.results21 (.cons (.tmp (by decide) rfl) .nil) ?_)
    exact ⟨ys, (by rw [List.take_of_length_le (show ss.length ≤ k by omega)]; rfl), hsub_, (by rw [List.take_of_length_le (show ss.length ≤ k by omega)] at hold_; exact hold_), hs47⟩

end Go.Proofs.Ytleolejhkdolpaa
