import Derived.Test.YtleolejhkdolpaaA8
import Derived.Test.YtleolejhkdolpaaModS
import Derived.Test.YtleolejhkdolpaaFactsS
import Derived.KernelRfl
set_option linter.unusedVariables false
set_option linter.unusedSimpArgs false
set_option maxRecDepth 100000
set_option maxHeartbeats 4000000
namespace Go.Proofs.Ytleolejhkdolpaa
open Go Go.RowKit Sv
theorem Teller_Done_nil {W0 : World} {F : HProp} {w : World}    
    (hs : sat W0 [F] w) :
    Calls Try.prog 36 ([(Value.pointer none)] : List Value).toArray w (fun x_ w' => ∃ v_, x_ = .returned v_ ∧ (v_ = (Value.tuple #[(Value.int .i64 0), (Value.int .i64 0)]) ∧ sat W0 [F] w')) := by
  refine W.enter Try.func36 rfl Try.ntmps36 (by simp) ?_
  refine W.seq ?_
  refine W.region ?_
  refine WL.cons rfl (OP.assign (Value.int .i64 0) rfl (by decide) ?_)
  refine WL.cons rfl (OP.assign (Value.int .i64 0) rfl (by decide) ?_)
  refine WL.nil (Qn.then ?_)
  refine W.seq ?_
  refine W.seq ?_
  refine W.region ?_
  refine WL.cons rfl (OP.move (Value.pointer none) rfl (by decide) ?_)
  have hs1 : sat W0 [stars [F]] w := sat_pack' [] [F] hs (by kernel_rfl) (by kernel_rfl)
  have hcl4 := Teller_is_nil  hs1
  refine WL.cons rfl (?_)
  with_reducible refine OP.call [(Value.pointer none)] gf_44 ?_ ?_ hcl4 ?_
  · exact rfl
  · decide
  clear hcl4
  rintro _ w2 ⟨_, rfl, rfl, hs3⟩
  refine ⟨_, rfl, ?_⟩
  have hs5 : sat W0 [F] w2 := sat_flat' [] [F] hs3 (by kernel_rfl) (by kernel_rfl)
  refine WL.cons rfl (OP.not rfl (by decide) ?_)
  refine WL.nil (Qn.then ?_)
  refine W.iteT rfl ?_
  refine W.seq ?_
  refine W.region ?_
  refine WL.cons rfl (OP.assign (Value.int .i64 0) rfl (by decide) ?_)
  refine WL.cons rfl (OP.assign (Value.int .i64 0) rfl (by decide) ?_)
  refine WL.nil (Qn.then ?_)
  refine W.ret (Qr.then (RetQ.of [(Value.int .i64 0), (Value.int .i64 0)] (.inr rfl) Try.results36 (.cons (.tmp (by decide) rfl) (.cons (.tmp (by decide) rfl) .nil)) ?_))
  exact ⟨rfl, hs5⟩

theorem Teller_Busy_nil {W0 : World} {F : HProp} {w : World}    
    (hs : sat W0 [F] w) :
    Calls Try.prog 37 ([(Value.pointer none)] : List Value).toArray w (fun x_ w' => ∃ v_, x_ = .returned v_ ∧ (v_ = (Value.int .i64 0) ∧ sat W0 [F] w')) := by
  refine W.enter Try.func37 rfl Try.ntmps37 (by simp) ?_
  refine W.seq ?_
  refine W.region ?_
  refine WL.cons rfl (OP.assign (Value.int .i64 0) rfl (by decide) ?_)
  refine WL.nil (Qn.then ?_)
  refine W.seq ?_
  refine W.seq ?_
  refine W.region ?_
  refine WL.cons rfl (OP.move (Value.pointer none) rfl (by decide) ?_)
  have hs1 : sat W0 [stars [F]] w := sat_pack' [] [F] hs (by kernel_rfl) (by kernel_rfl)
  have hcl4 := Teller_is_nil  hs1
  refine WL.cons rfl (?_)
  with_reducible refine OP.call [(Value.pointer none)] gf_44 ?_ ?_ hcl4 ?_
  · exact rfl
  · decide
  clear hcl4
  rintro _ w2 ⟨_, rfl, rfl, hs3⟩
  refine ⟨_, rfl, ?_⟩
  have hs5 : sat W0 [F] w2 := sat_flat' [] [F] hs3 (by kernel_rfl) (by kernel_rfl)
  refine WL.cons rfl (OP.not rfl (by decide) ?_)
  refine WL.nil (Qn.then ?_)
  refine W.iteT rfl ?_
  refine W.seq ?_
  refine W.region ?_
  refine WL.cons rfl (OP.assign (Value.int .i64 0) rfl (by decide) ?_)
  refine WL.nil (Qn.then ?_)
  refine W.ret (Qr.then (RetQ.of [(Value.int .i64 0)] (.inr rfl) Try.results37 (.cons (.tmp (by decide) rfl) .nil) ?_))
  exact ⟨rfl, hs5⟩

theorem Teller_Fails_nil {W0 : World} {F : HProp} {w : World}    
    (hs : sat W0 [F] w) :
    Calls Try.prog 38 ([(Value.pointer none)] : List Value).toArray w (fun x_ w' => ∃ v_, x_ = .returned v_ ∧ (v_ = (Value.bool false) ∧ sat W0 [F] w')) := by
  refine W.enter Try.func38 rfl Try.ntmps38 (by simp) ?_
  refine W.seq ?_
  refine W.region ?_
  refine WL.cons rfl (OP.assign (Value.bool false) rfl (by decide) ?_)
  refine WL.nil (Qn.then ?_)
  refine W.seq ?_
  refine W.seq ?_
  refine W.region ?_
  refine WL.cons rfl (OP.move (Value.pointer none) rfl (by decide) ?_)
  have hs1 : sat W0 [stars [F]] w := sat_pack' [] [F] hs (by kernel_rfl) (by kernel_rfl)
  have hcl4 := Teller_is_nil  hs1
  refine WL.cons rfl (?_)
  with_reducible refine OP.call [(Value.pointer none)] gf_44 ?_ ?_ hcl4 ?_
  · exact rfl
  · decide
  clear hcl4
  rintro _ w2 ⟨_, rfl, rfl, hs3⟩
  refine ⟨_, rfl, ?_⟩
  have hs5 : sat W0 [F] w2 := sat_flat' [] [F] hs3 (by kernel_rfl) (by kernel_rfl)
  refine WL.cons rfl (OP.not rfl (by decide) ?_)
  refine WL.nil (Qn.then ?_)
  refine W.iteT rfl ?_
  refine W.seq ?_
  refine W.region ?_
  refine WL.cons rfl (OP.assign (Value.bool false) rfl (by decide) ?_)
  refine WL.nil (Qn.then ?_)
  refine W.ret (Qr.then (RetQ.of [(Value.bool false)] (.inr rfl) Try.results38 (.cons (.tmp (by decide) rfl) .nil) ?_))
  exact ⟨rfl, hs5⟩

theorem Teller_Turns_nil {W0 : World} {F : HProp} {w : World}  (row : Int) (rung : Int)  
    (hs : sat W0 [F] w) :
    Calls Try.prog 11 ([(Value.pointer none), (Value.int .i64 row), (Value.int .i64 rung)] : List Value).toArray w (fun x_ w' => ∃ v_, x_ = .returned v_ ∧ (v_ = (Value.slice none 0 0) ∧ sat W0 [F] w')) := by
  refine W.enter Try.func11 rfl Try.ntmps11 (by simp) ?_
  refine W.seq ?_
  refine W.region ?_
  refine WL.cons rfl (OP.assign (Value.slice none 0 0) rfl (by decide) ?_)
  refine WL.nil (Qn.then ?_)
  refine W.seq ?_
  refine W.seq ?_
  refine W.region ?_
  refine WL.cons rfl (OP.move (Value.pointer none) rfl (by decide) ?_)
  have hs1 : sat W0 [stars [F]] w := sat_pack' [] [F] hs (by kernel_rfl) (by kernel_rfl)
  have hcl4 := Teller_is_nil  hs1
  refine WL.cons rfl (?_)
  with_reducible refine OP.call [(Value.pointer none)] gf_44 ?_ ?_ hcl4 ?_
  · exact rfl
  · decide
  clear hcl4
  rintro _ w2 ⟨_, rfl, rfl, hs3⟩
  refine ⟨_, rfl, ?_⟩
  have hs5 : sat W0 [F] w2 := sat_flat' [] [F] hs3 (by kernel_rfl) (by kernel_rfl)
  refine WL.cons rfl (OP.not rfl (by decide) ?_)
  refine WL.nil (Qn.then ?_)
  refine W.iteT rfl ?_
  refine W.seq ?_
  refine W.region ?_
  refine WL.cons rfl (OP.assign (Value.slice none 0 0) rfl (by decide) ?_)
  refine WL.nil (Qn.then ?_)
  refine W.ret (Qr.then (RetQ.of [(Value.slice none 0 0)] (.inr rfl) Try.results11 (.cons (.tmp (by decide) rfl) .nil) ?_))
  exact ⟨rfl, hs5⟩

theorem Teller_Torn_nil {W0 : World} {F : HProp} {w : World}  (size : Int)  
    (hs : sat W0 [F] w) :
    Calls Try.prog 39 ([(Value.pointer none), (Value.int .i64 size)] : List Value).toArray w (fun x_ w' => ∃ v_, x_ = .returned v_ ∧ (v_ = (Value.slice none 0 0) ∧ sat W0 [F] w')) := by
  refine W.enter Try.func39 rfl Try.ntmps39 (by simp) ?_
  refine W.seq ?_
  refine W.region ?_
  refine WL.cons rfl (OP.assign (Value.slice none 0 0) rfl (by decide) ?_)
  refine WL.nil (Qn.then ?_)
  refine W.seq ?_
  refine W.seq ?_
  refine W.region ?_
  refine WL.cons rfl (OP.move (Value.pointer none) rfl (by decide) ?_)
  have hs1 : sat W0 [stars [F]] w := sat_pack' [] [F] hs (by kernel_rfl) (by kernel_rfl)
  have hcl4 := Teller_is_nil  hs1
  refine WL.cons rfl (?_)
  with_reducible refine OP.call [(Value.pointer none)] gf_44 ?_ ?_ hcl4 ?_
  · exact rfl
  · decide
  clear hcl4
  rintro _ w2 ⟨_, rfl, rfl, hs3⟩
  refine ⟨_, rfl, ?_⟩
  have hs5 : sat W0 [F] w2 := sat_flat' [] [F] hs3 (by kernel_rfl) (by kernel_rfl)
  refine WL.cons rfl (OP.not rfl (by decide) ?_)
  refine WL.cons rfl (OP.move (Value.bool true) rfl (by decide) ?_)
  refine WL.pass rfl rfl rfl rfl rfl (by decide) ?_
  refine WL.pass rfl rfl rfl rfl rfl (by decide) ?_
  refine WL.pass rfl rfl rfl rfl rfl (by decide) ?_
  refine WL.cons rfl (OP.pickT (Value.bool true) rfl rfl (by decide) ?_)
  refine WL.nil (Qn.then ?_)
  refine W.iteT rfl ?_
  refine W.seq ?_
  refine W.region ?_
  refine WL.cons rfl (OP.assign (Value.slice none 0 0) rfl (by decide) ?_)
  refine WL.nil (Qn.then ?_)
  refine W.ret (Qr.then (RetQ.of [(Value.slice none 0 0)] (.inr rfl) Try.results39 (.cons (.tmp (by decide) rfl) .nil) ?_))
  exact ⟨rfl, hs5⟩

theorem ref01_Same {W0 : World} {F : HProp} {w : World}  (a : Option Addr) (c : Nat) (xs : List Int) (a2 : Option Addr) (c2 : Nat) (ys : List Int) (hn : xs.length ≤ 9223372036854775807) (hn2 : ys.length ≤ 9223372036854775807) (hr : Ent W0 F (fun w => Rd w 1 a xs.length (xs.map (Value.int .u8)))) (hr2 : Ent W0 F (fun w => Rd w 1 a2 ys.length (ys.map (Value.int .u8))))
    (hs : sat W0 [F] w) :
    Calls Try.prog 28 ([(Value.slice a xs.length c), (Value.slice a2 ys.length c2)] : List Value).toArray w (fun x_ w' => ∃ v_, x_ = .returned v_ ∧ (v_ = (Value.bool (decide (xs = ys))) ∧ sat W0 [F] w')) := by
  refine W.enter Try.func28 rfl Try.ntmps28 (by simp) ?_
  refine W.seq ?_
  refine W.region ?_
  refine WL.cons rfl (OP.assign (Value.bool false) rfl (by decide) ?_)
  refine WL.nil (Qn.then ?_)
  refine W.seq ?_
  refine W.seq ?_
  refine W.region ?_
  refine WL.cons rfl (OP.move (Value.slice a xs.length c) rfl (by decide) ?_)
  refine WL.cons rfl (OP.len Try.underlying24 rfl rfl (by decide) ?_)
  refine WL.cons rfl (OP.move (Value.slice a2 ys.length c2) rfl (by decide) ?_)
  refine WL.cons rfl (OP.len Try.underlying24 rfl rfl (by decide) ?_)
  refine WL.cons rfl (OP.neI rfl rfl (by decide) ?_)
  refine WL.nil (Qn.then ?_)
  refine W.iteP (p := ((xs.length : Nat) : Int) ≠ ((ys.length : Nat) : Int)) rfl (fun hc1 => ?_) (fun hc1 => ?_)
  · refine W.seq ?_
    refine W.region ?_
    refine WL.cons rfl (OP.assign (Value.bool false) rfl (by decide) ?_)
    refine WL.nil (Qn.then ?_)
    refine W.ret (Qr.then (RetQ.of [(Value.bool false)] (.inr rfl) Try.results28 (.cons (.tmp (by decide) rfl) .nil) ?_))
    exact ⟨(congrArg Value.bool (decide_eq_false (fun h_ => hc1 (by rw [h_]))).symm), hs⟩
  · refine W.skip (Qn.then ?_)
    refine W.seq ?_
    refine W.seq ?_
    refine W.region ?_
    refine WL.cons rfl (OP.assign (Value.int .i64 0) rfl (by decide) ?_)
    refine WL.nil (Qn.then ?_)
    refine W.block ?_
    refine W.loop (fun n_ e_ w_ => ∃ k : Nat, n_ = xs.length - k ∧ e_ 0 = (Value.slice a xs.length c) ∧ e_ 1 = (Value.slice a2 ys.length c2) ∧ e_ 5 = (Value.int .i64 ((k : Nat) : Int)) ∧ k ≤ xs.length ∧ xs.take k = ys.take k ∧ sat W0 [F] w_) (xs.length - 0) ⟨0, rfl, rfl, rfl, (Eq.trans (b := (Value.int .i64 0)) rfl (congrArg (Value.int .i64) (by first | rfl | omega | simp | (simp; omega)))), (by omega), rfl, hs⟩ ?_
    rintro n3 e4 w5 ⟨k, hn7, he8, he9, he10, hp11, hp12, hs6⟩
    refine W.seq ?_
    refine W.seq ?_
    refine W.region ?_
    refine WL.cons rfl (OP.move (Value.int .i64 ((k : Nat) : Int)) he10 (by decide) ?_)
    refine WL.cons rfl (OP.move (Value.slice a xs.length c) he8 (by decide) ?_)
    refine WL.cons rfl (OP.len Try.underlying24 rfl rfl (by decide) ?_)
    refine WL.cons rfl (OP.lss rfl rfl (by decide) ?_)
    refine WL.nil (Qn.then ?_)
    refine W.iteP (p := ((k : Nat) : Int) < ((xs.length : Nat) : Int)) rfl (fun hc13 => ?_) (fun hc13 => ?_)
    · refine W.skip (Qn.then ?_)
      refine W.seq ?_
      refine W.block ?_
      refine W.seq ?_
      refine W.draw (fun w => sat W0 [F] w) (by kernel_rfl) hs6 (fun w14 hs15 => ?_)
      refine WA.take 0 rfl rfl rfl rfl (by kernel_rfl) (by kernel_rfl) (by kernel_rfl) ?_ (by decide) (v := (Value.slice a xs.length c)) (fun w17 hw16 => OP.move (Value.slice a xs.length c) he8 (by decide) ⟨rfl, rfl⟩) ?_
      · exact hs15
      refine WA.take 1 rfl rfl rfl rfl (by kernel_rfl) (by kernel_rfl) (by kernel_rfl) ?_ (by decide) (v := (Value.int .i64 ((k : Nat) : Int))) (fun w19 hw18 => OP.move (Value.int .i64 ((k : Nat) : Int)) he10 (by decide) ⟨rfl, rfl⟩) ?_
      · exact hs15
      have hi19_ : k < xs.length := by omega
      refine WA.take 2 rfl rfl rfl rfl (by kernel_rfl) (by kernel_rfl) (by kernel_rfl) ?_ (by decide) (v := (Value.pointer (some (adr a (k * 1))))) (fun w21 hw20 => OP.indexR k (Ent_sat 0 rfl hr hw20) Try.underlying24 sz_5 rfl rfl rfl hi19_ (by decide) ⟨rfl, rfl⟩) ?_
      · exact hs15
      refine WA.take 3 rfl rfl rfl rfl (by kernel_rfl) (by kernel_rfl) (by kernel_rfl) ?_ (by decide) (v := (Value.int .u8 (xs.getD k 0))) (fun w23 hw22 => OP.loadSR (Value.int .u8 (xs.getD k 0)) (Ent_sat 0 rfl hr hw22) (ints_get hi19_) sc_5 rfl (by decide) ⟨rfl, rfl⟩) ?_
      · exact hs15
      refine WA.take 4 rfl rfl rfl rfl (by kernel_rfl) (by kernel_rfl) (by kernel_rfl) ?_ (by decide) (v := (Value.slice a2 ys.length c2)) (fun w25 hw24 => OP.move (Value.slice a2 ys.length c2) he9 (by decide) ⟨rfl, rfl⟩) ?_
      · exact hs15
      refine WA.take 5 rfl rfl rfl rfl (by kernel_rfl) (by kernel_rfl) (by kernel_rfl) ?_ (by decide) (v := (Value.int .i64 ((k : Nat) : Int))) (fun w27 hw26 => OP.move (Value.int .i64 ((k : Nat) : Int)) he10 (by decide) ⟨rfl, rfl⟩) ?_
      · exact hs15
      have hi23_ : k < ys.length := by omega
      refine WA.take 6 rfl rfl rfl rfl (by kernel_rfl) (by kernel_rfl) (by kernel_rfl) ?_ (by decide) (v := (Value.pointer (some (adr a2 (k * 1))))) (fun w29 hw28 => OP.indexR k (Ent_sat 0 rfl hr2 hw28) Try.underlying24 sz_5 rfl rfl rfl hi23_ (by decide) ⟨rfl, rfl⟩) ?_
      · exact hs15
      refine WA.take 7 rfl rfl rfl rfl (by kernel_rfl) (by kernel_rfl) (by kernel_rfl) ?_ (by decide) (v := (Value.int .u8 (ys.getD k 0))) (fun w31 hw30 => OP.loadSR (Value.int .u8 (ys.getD k 0)) (Ent_sat 0 rfl hr2 hw30) (ints_get hi23_) sc_5 rfl (by decide) ⟨rfl, rfl⟩) ?_
      · exact hs15
      refine WA.take 8 rfl rfl rfl rfl (by kernel_rfl) (by kernel_rfl) (by kernel_rfl) ?_ (by decide) (v := (Value.bool (decide (xs.getD k 0 ≠ ys.getD k 0)))) (fun w33 hw32 => OP.neI rfl rfl (by decide) ⟨rfl, rfl⟩) ?_
      · exact hs15
      refine WA.done (by kernel_rfl) ?_
      refine (Qn.then ?_)
      refine W.iteP (p := xs.getD k 0 ≠ ys.getD k 0) rfl (fun hc34 => ?_) (fun hc34 => ?_)
      · refine W.seq ?_
        refine W.region ?_
        refine WL.cons rfl (OP.assign (Value.bool false) rfl (by decide) ?_)
        refine WL.nil (Qn.then ?_)
        refine W.ret (Qr.blk (Qr.then (Qr.then (Qr.blk (Qr.then (RetQ.of [(Value.bool false)] (.inr rfl) Try.results28 (.cons (.tmp (by decide) rfl) .nil) ?_))))))
        exact ⟨(congrArg Value.bool (decide_eq_false (fun h_ => hc34 (by rw [h_]))).symm), hs15⟩
      · refine W.skip (Qn.blk (Qn.then ?_))
        refine W.region ?_
        refine WL.cons rfl (OP.move (Value.int .i64 ((k : Nat) : Int)) he10 (by decide) ?_)
        refine WL.cons rfl (OP.add ((k + 1 : Nat) : Int) rfl rfl (by first | rfl | omega | simp) (by unfold inI64; omega) (by decide) ?_)
        refine WL.cons rfl (OP.assign (Value.int .i64 ((k + 1 : Nat) : Int)) rfl (by decide) ?_)
        refine WL.nil (Qn.then ?_)
        exact ⟨_, (by omega), (k + 1), rfl, he8, he9, (Eq.trans (b := (Value.int .i64 ((k + 1 : Nat) : Int))) rfl (congrArg (Value.int .i64) (by first | rfl | omega | simp | (simp; omega)))), (by omega), (take_eq_next (by omega) (by omega) (by assumption) (Decidable.not_not.mp (by assumption))), hs15⟩
    · refine W.exit (Qx.then (Qx.then (Qx.hit (Qn.then ?_))))
      refine W.seq ?_
      refine W.region ?_
      refine WL.cons rfl (OP.assign (Value.bool true) rfl (by decide) ?_)
      refine WL.nil (Qn.then ?_)
      refine W.ret (RetQ.of [(Value.bool true)] (.inr rfl) Try.results28 (.cons (.tmp (by decide) rfl) .nil) ?_)
      exact ⟨(congrArg Value.bool (decide_eq_true (take_eq_all (k := k) (by omega) (by omega) (by assumption))).symm), hs6⟩

end Go.Proofs.Ytleolejhkdolpaa
