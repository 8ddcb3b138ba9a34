import Derived.Test.YtleolejhkdolpaaC3
import Derived.KernelRfl
set_option linter.unusedVariables false
set_option linter.unusedSimpArgs false
set_option maxRecDepth 100000
set_option maxHeartbeats 4000000
namespace Go.Proofs.Ytleolejhkdolpaa
open Go Go.RowKit Sv
theorem ref01_Same29 {W0 : World} {F : HProp} {w : World}  (a : Option Addr) (c : Nat) (xs : List Int) (a2 : Option Addr) (c2 : Nat) (ys : List Int) (hn : xs.length ≤ 9223372036854775807) (hn2 : ys.length ≤ 9223372036854775807) (hr : Ent W0 F (fun w => Rd w 1 a xs.length (xs.map (Value.int .u8)))) (hr2 : Ent W0 F (fun w => Rd w 1 a2 ys.length (ys.map (Value.int .u8))))
    (hs : sat W0 [F] w) :
    Calls Try.prog 28 ([(Value.slice a xs.length c), (Value.slice a2 ys.length c2)] : List Value).toArray w (fun x_ w' => ∃ v_, x_ = .returned v_ ∧ (v_ = (Value.bool (decide (xs = ys))) ∧ sat W0 [F] w')) := by
  refine W.enter Try.func28 rfl Try.ntmps28 (by simp) ?_
  refine W.seq ?_
  refine W.region ?_
  refine WL.cons rfl (OP.assign (Value.bool false) rfl (by decide) ?_)
  refine WL.nil (Qn.then ?_)
  refine W.seq ?_
  refine W.seq ?_
  refine W.region ?_
  refine WL.cons rfl (OP.move (Value.slice a xs.length c) rfl (by decide) ?_)
  refine WL.cons rfl (OP.len Try.underlying24 rfl rfl (by decide) ?_)
  refine WL.cons rfl (OP.move (Value.slice a2 ys.length c2) rfl (by decide) ?_)
  refine WL.cons rfl (OP.len Try.underlying24 rfl rfl (by decide) ?_)
  refine WL.cons rfl (OP.neI rfl rfl (by decide) ?_)
  refine WL.nil (Qn.then ?_)
  refine W.iteP (p := ((xs.length : Nat) : Int) ≠ ((ys.length : Nat) : Int)) rfl (fun hc1 => ?_) (fun hc1 => ?_)
  · refine W.seq ?_
    refine W.region ?_
    refine WL.cons rfl (OP.assign (Value.bool false) rfl (by decide) ?_)
    refine WL.nil (Qn.then ?_)
    refine W.ret (Qr.then (RetQ.of [(Value.bool false)] (.inr rfl) Try.results28 (.cons (.tmp (by decide) rfl) .nil) ?_))
    exact ⟨(congrArg Value.bool (decide_eq_false (fun h_ => hc1 (by rw [h_]))).symm), hs⟩
  · refine W.skip (Qn.then ?_)
    refine W.seq ?_
    refine W.seq ?_
    refine W.region ?_
    refine WL.cons rfl (OP.assign (Value.int .i64 0) rfl (by decide) ?_)
    refine WL.nil (Qn.then ?_)
    refine W.block ?_
    refine W.loop (fun n_ e_ w_ => ∃ k : Nat, n_ = xs.length - k ∧ e_ 0 = (Value.slice a xs.length c) ∧ e_ 1 = (Value.slice a2 ys.length c2) ∧ e_ 5 = (Value.int .i64 ((k : Nat) : Int)) ∧ k ≤ xs.length ∧ xs.take k = ys.take k ∧ sat W0 [F] w_) (xs.length - 0) ⟨0, rfl, rfl, rfl, (Eq.trans (b := (Value.int .i64 0)) rfl (congrArg (Value.int .i64) (by first | rfl | omega | simp | (simp; omega)))), (by omega), rfl, hs⟩ ?_
    rintro n3 e4 w5 ⟨k, hn7, he8, he9, he10, hp11, hp12, hs6⟩
    refine W.seq ?_
    refine W.seq ?_
    refine W.region ?_
    refine WL.cons rfl (OP.move (Value.int .i64 ((k : Nat) : Int)) he10 (by decide) ?_)
    refine WL.cons rfl (OP.move (Value.slice a xs.length c) he8 (by decide) ?_)
    refine WL.cons rfl (OP.len Try.underlying24 rfl rfl (by decide) ?_)
    refine WL.cons rfl (OP.lss rfl rfl (by decide) ?_)
    refine WL.nil (Qn.then ?_)
    refine W.iteP (p := ((k : Nat) : Int) < ((xs.length : Nat) : Int)) rfl (fun hc13 => ?_) (fun hc13 => ?_)
    · refine W.skip (Qn.then ?_)
      refine W.seq ?_
      refine W.block ?_
      refine W.seq ?_
      refine W.draw (fun w => sat W0 [F] w) (by kernel_rfl) hs6 (fun w14 hs15 => ?_)
      refine WA.take 0 rfl rfl rfl rfl (by kernel_rfl) (by kernel_rfl) (by kernel_rfl) ?_ (by decide) (v := (Value.slice a xs.length c)) (fun w17 hw16 => OP.move (Value.slice a xs.length c) he8 (by decide) ⟨rfl, rfl⟩) ?_
      · exact hs15
      refine WA.take 1 rfl rfl rfl rfl (by kernel_rfl) (by kernel_rfl) (by kernel_rfl) ?_ (by decide) (v := (Value.int .i64 ((k : Nat) : Int))) (fun w19 hw18 => OP.move (Value.int .i64 ((k : Nat) : Int)) he10 (by decide) ⟨rfl, rfl⟩) ?_
      · exact hs15
      have hi19_ : k < xs.length := by omega
      refine WA.take 2 rfl rfl rfl rfl (by kernel_rfl) (by kernel_rfl) (by kernel_rfl) ?_ (by decide) (v := (Value.pointer (some (adr a (k * 1))))) (fun w21 hw20 => OP.indexR k (Ent_sat 0 rfl hr hw20) Try.underlying24 sz_5 rfl rfl rfl hi19_ (by decide) ⟨rfl, rfl⟩) ?_
      · exact hs15
      refine WA.take 3 rfl rfl rfl rfl (by kernel_rfl) (by kernel_rfl) (by kernel_rfl) ?_ (by decide) (v := (Value.int .u8 (xs.getD k 0))) (fun w23 hw22 => OP.loadSR (Value.int .u8 (xs.getD k 0)) (Ent_sat 0 rfl hr hw22) (ints_get hi19_) sc_5 rfl (by decide) ⟨rfl, rfl⟩) ?_
      · exact hs15
      refine WA.take 4 rfl rfl rfl rfl (by kernel_rfl) (by kernel_rfl) (by kernel_rfl) ?_ (by decide) (v := (Value.slice a2 ys.length c2)) (fun w25 hw24 => OP.move (Value.slice a2 ys.length c2) he9 (by decide) ⟨rfl, rfl⟩) ?_
      · exact hs15
      refine WA.take 5 rfl rfl rfl rfl (by kernel_rfl) (by kernel_rfl) (by kernel_rfl) ?_ (by decide) (v := (Value.int .i64 ((k : Nat) : Int))) (fun w27 hw26 => OP.move (Value.int .i64 ((k : Nat) : Int)) he10 (by decide) ⟨rfl, rfl⟩) ?_
      · exact hs15
      have hi23_ : k < ys.length := by omega
      refine WA.take 6 rfl rfl rfl rfl (by kernel_rfl) (by kernel_rfl) (by kernel_rfl) ?_ (by decide) (v := (Value.pointer (some (adr a2 (k * 1))))) (fun w29 hw28 => OP.indexR k (Ent_sat 0 rfl hr2 hw28) Try.underlying24 sz_5 rfl rfl rfl hi23_ (by decide) ⟨rfl, rfl⟩) ?_
      · exact hs15
      refine WA.take 7 rfl rfl rfl rfl (by kernel_rfl) (by kernel_rfl) (by kernel_rfl) ?_ (by decide) (v := (Value.int .u8 (ys.getD k 0))) (fun w31 hw30 => OP.loadSR (Value.int .u8 (ys.getD k 0)) (Ent_sat 0 rfl hr2 hw30) (ints_get hi23_) sc_5 rfl (by decide) ⟨rfl, rfl⟩) ?_
      · exact hs15
      refine WA.take 8 rfl rfl rfl rfl (by kernel_rfl) (by kernel_rfl) (by kernel_rfl) ?_ (by decide) (v := (Value.bool (decide (xs.getD k 0 ≠ ys.getD k 0)))) (fun w33 hw32 => OP.neI rfl rfl (by decide) ⟨rfl, rfl⟩) ?_
      · exact hs15
      refine WA.done (by kernel_rfl) ?_
      refine (Qn.then ?_)
      refine W.iteP (p := xs.getD k 0 ≠ ys.getD k 0) rfl (fun hc34 => ?_) (fun hc34 => ?_)
      · refine W.seq ?_
        refine W.region ?_
        refine WL.cons rfl (OP.assign (Value.bool false) rfl (by decide) ?_)
        refine WL.nil (Qn.then ?_)
        refine W.ret (Qr.blk (Qr.then (Qr.then (Qr.blk (Qr.then (RetQ.of [(Value.bool false)] (.inr rfl) Try.results28 (.cons (.tmp (by decide) rfl) .nil) ?_))))))
        exact ⟨(congrArg Value.bool (decide_eq_false (fun h_ => hc34 (by rw [h_]))).symm), hs15⟩
      · refine W.skip (Qn.blk (Qn.then ?_))
        refine W.region ?_
        refine WL.cons rfl (OP.move (Value.int .i64 ((k : Nat) : Int)) he10 (by decide) ?_)
        refine WL.cons rfl (OP.add ((k + 1 : Nat) : Int) rfl rfl (by first | rfl | omega | simp) (by unfold inI64; omega) (by decide) ?_)
        refine WL.cons rfl (OP.assign (Value.int .i64 ((k + 1 : Nat) : Int)) rfl (by decide) ?_)
        refine WL.nil (Qn.then ?_)
        exact ⟨_, (by omega), (k + 1), rfl, he8, he9, (Eq.trans (b := (Value.int .i64 ((k + 1 : Nat) : Int))) rfl (congrArg (Value.int .i64) (by first | rfl | omega | simp | (simp; omega)))), (by omega), (take_eq_next (by omega) (by omega) (by assumption) (Decidable.not_not.mp (by assumption))), hs15⟩
    · refine W.exit (Qx.then (Qx.then (Qx.hit (Qn.then ?_))))
      refine W.seq ?_
      refine W.region ?_
      refine WL.cons rfl (OP.assign (Value.bool true) rfl (by decide) ?_)
      refine WL.nil (Qn.then ?_)
      refine W.ret (RetQ.of [(Value.bool true)] (.inr rfl) Try.results28 (.cons (.tmp (by decide) rfl) .nil) ?_)
      exact ⟨(congrArg Value.bool (decide_eq_true (take_eq_all (k := k) (by omega) (by omega) (by assumption))).symm), hs6⟩

theorem ref29_Same {W0 : World} {F : HProp} {w : World}  (a : Option Addr) (c : Nat) (xs : List BEnt) (a2 : Option Addr) (c2 : Nat) (ys : List BEnt) (D : List (Option Addr × List Int)) (hn : xs.length ≤ 9223372036854775807) (hn2 : ys.length ≤ 9223372036854775807) (hx : InD D xs) (hy : InD D ys) (hlx : ∀ x ∈ xs, x.data.length ≤ 1099511627) (hly : ∀ x ∈ ys, x.data.length ≤ 1099511627) (hr : Ent W0 F (fun w => Rd w 3 a xs.length (xs.flatMap encB))) (hr2 : Ent W0 F (fun w => Rd w 3 a2 ys.length (ys.flatMap encB)))
    (hs : sat W0 [ShD W0 D, F] w) :
    Calls Try.prog 19 ([(Value.slice a xs.length c), (Value.slice a2 ys.length c2)] : List Value).toArray w (fun x_ w' => ∃ v_, x_ = .returned v_ ∧ (v_ = (Value.bool (decide (xs.map absB = ys.map absB))) ∧ sat W0 [ShD W0 D, F] w')) := by
  refine W.enter Try.func19 rfl Try.ntmps19 (by simp) ?_
  refine W.seq ?_
  refine W.region ?_
  refine WL.cons rfl (OP.assign (Value.bool false) rfl (by decide) ?_)
  refine WL.nil (Qn.then ?_)
  refine W.seq ?_
  refine W.seq ?_
  refine W.region ?_
  refine WL.cons rfl (OP.move (Value.slice a xs.length c) rfl (by decide) ?_)
  refine WL.cons rfl (OP.len Try.underlying44 rfl rfl (by decide) ?_)
  refine WL.cons rfl (OP.move (Value.slice a2 ys.length c2) rfl (by decide) ?_)
  refine WL.cons rfl (OP.len Try.underlying44 rfl rfl (by decide) ?_)
  refine WL.cons rfl (OP.neI rfl rfl (by decide) ?_)
  refine WL.nil (Qn.then ?_)
  refine W.iteP (p := ((xs.length : Nat) : Int) ≠ ((ys.length : Nat) : Int)) rfl (fun hc1 => ?_) (fun hc1 => ?_)
  · refine W.seq ?_
    refine W.region ?_
    refine WL.cons rfl (OP.assign (Value.bool false) rfl (by decide) ?_)
    refine WL.nil (Qn.then ?_)
    refine W.ret (Qr.then (RetQ.of [(Value.bool false)] (.inr rfl) Try.results19 (.cons (.tmp (by decide) rfl) .nil) ?_))
    exact ⟨(congrArg Value.bool (by first | exact (decide_eq_false (same_len (by omega))).symm | exact (decide_eq_true (same_all (k := k) (by omega) (by omega) (by assumption))).symm | (refine (decide_eq_false (same_not (k := k) (by omega) (by omega) ?_)).symm; simp_all))), hs⟩
  · refine W.skip (Qn.then ?_)
    refine W.seq ?_
    refine W.seq ?_
    refine W.region ?_
    refine WL.cons rfl (OP.assign (Value.int .i64 0) rfl (by decide) ?_)
    refine WL.nil (Qn.then ?_)
    refine W.block ?_
    refine W.loop (fun n_ e_ w_ => ∃ k : Nat, n_ = xs.length - k ∧ e_ 0 = (Value.slice a xs.length c) ∧ e_ 1 = (Value.slice a2 ys.length c2) ∧ e_ 5 = (Value.int .i64 ((k : Nat) : Int)) ∧ k ≤ xs.length ∧ (xs.take k).map absB = (ys.take k).map absB ∧ sat W0 [ShD W0 D, F] w_) (xs.length - 0) ⟨0, rfl, rfl, rfl, (Eq.trans (b := (Value.int .i64 0)) rfl (congrArg (Value.int .i64) (by first | rfl | omega | simp | (simp; omega)))), (by omega), rfl, hs⟩ ?_
    rintro n3 e4 w5 ⟨k, hn7, he8, he9, he10, hp11, hp12, hs6⟩
    refine W.seq ?_
    refine W.seq ?_
    refine W.region ?_
    refine WL.cons rfl (OP.move (Value.int .i64 ((k : Nat) : Int)) he10 (by decide) ?_)
    refine WL.cons rfl (OP.move (Value.slice a xs.length c) he8 (by decide) ?_)
    refine WL.cons rfl (OP.len Try.underlying44 rfl rfl (by decide) ?_)
    refine WL.cons rfl (OP.lss rfl rfl (by decide) ?_)
    refine WL.nil (Qn.then ?_)
    refine W.iteP (p := ((k : Nat) : Int) < ((xs.length : Nat) : Int)) rfl (fun hc13 => ?_) (fun hc13 => ?_)
    · refine W.skip (Qn.then ?_)
      refine W.seq ?_
      refine W.block ?_
      refine W.seq ?_
      refine W.draw (fun w => sat W0 [ShD W0 D, F] w) (by kernel_rfl) hs6 (fun w14 hs15 => ?_)
      refine WA.take 0 rfl rfl rfl rfl (by kernel_rfl) (by kernel_rfl) (by kernel_rfl) ?_ (by decide) (v := (Value.slice a xs.length c)) (fun w17 hw16 => OP.move (Value.slice a xs.length c) he8 (by decide) ⟨rfl, rfl⟩) ?_
      · exact hs15
      refine WA.take 1 rfl rfl rfl rfl (by kernel_rfl) (by kernel_rfl) (by kernel_rfl) ?_ (by decide) (v := (Value.int .i64 ((k : Nat) : Int))) (fun w19 hw18 => OP.move (Value.int .i64 ((k : Nat) : Int)) he10 (by decide) ⟨rfl, rfl⟩) ?_
      · exact hs15
      have hi19_ : k < xs.length := by omega
      refine WA.take 2 rfl rfl rfl rfl (by kernel_rfl) (by kernel_rfl) (by kernel_rfl) ?_ (by decide) (v := (Value.pointer (some (adr a (k * 3))))) (fun w21 hw20 => OP.indexR k (Ent_sat 1 rfl hr hw20) Try.underlying44 sz_48 rfl rfl rfl hi19_ (by decide) ⟨rfl, rfl⟩) ?_
      · exact hs15
      refine WA.take 3 rfl rfl rfl rfl (by kernel_rfl) (by kernel_rfl) (by kernel_rfl) ?_ (by decide) (v := (Value.pointer (some (adr a (k * 3 + 0))))) (fun w23 hw22 => OP.fieldAddrR fo_48_0 rfl (by decide) ⟨rfl, rfl⟩) ?_
      · exact hs15
      refine WA.take 4 rfl rfl rfl rfl (by kernel_rfl) (by kernel_rfl) (by kernel_rfl) ?_ (by decide) (v := (Value.int .i64 ((xs.getD k default).sector))) (fun w25 hw24 => OP.loadSR (Value.int .i64 ((xs.getD k default).sector)) (Ent_sat 1 rfl hr hw24) (recs_get (enc := encB) (fun _ => rfl) hi19_ rfl) sc_3 rfl (by decide) ⟨rfl, rfl⟩) ?_
      · exact hs15
      refine WA.take 5 rfl rfl rfl rfl (by kernel_rfl) (by kernel_rfl) (by kernel_rfl) ?_ (by decide) (v := (Value.slice a2 ys.length c2)) (fun w27 hw26 => OP.move (Value.slice a2 ys.length c2) he9 (by decide) ⟨rfl, rfl⟩) ?_
      · exact hs15
      refine WA.take 6 rfl rfl rfl rfl (by kernel_rfl) (by kernel_rfl) (by kernel_rfl) ?_ (by decide) (v := (Value.int .i64 ((k : Nat) : Int))) (fun w29 hw28 => OP.move (Value.int .i64 ((k : Nat) : Int)) he10 (by decide) ⟨rfl, rfl⟩) ?_
      · exact hs15
      have hi24_ : k < ys.length := by omega
      refine WA.take 7 rfl rfl rfl rfl (by kernel_rfl) (by kernel_rfl) (by kernel_rfl) ?_ (by decide) (v := (Value.pointer (some (adr a2 (k * 3))))) (fun w31 hw30 => OP.indexR k (Ent_sat 1 rfl hr2 hw30) Try.underlying44 sz_48 rfl rfl rfl hi24_ (by decide) ⟨rfl, rfl⟩) ?_
      · exact hs15
      refine WA.take 8 rfl rfl rfl rfl (by kernel_rfl) (by kernel_rfl) (by kernel_rfl) ?_ (by decide) (v := (Value.pointer (some (adr a2 (k * 3 + 0))))) (fun w33 hw32 => OP.fieldAddrR fo_48_0 rfl (by decide) ⟨rfl, rfl⟩) ?_
      · exact hs15
      refine WA.take 9 rfl rfl rfl rfl (by kernel_rfl) (by kernel_rfl) (by kernel_rfl) ?_ (by decide) (v := (Value.int .i64 ((ys.getD k default).sector))) (fun w35 hw34 => OP.loadSR (Value.int .i64 ((ys.getD k default).sector)) (Ent_sat 1 rfl hr2 hw34) (recs_get (enc := encB) (fun _ => rfl) hi24_ rfl) sc_3 rfl (by decide) ⟨rfl, rfl⟩) ?_
      · exact hs15
      refine WA.take 10 rfl rfl rfl rfl (by kernel_rfl) (by kernel_rfl) (by kernel_rfl) ?_ (by decide) (v := (Value.bool (decide ((xs.getD k default).sector ≠ (ys.getD k default).sector)))) (fun w37 hw36 => OP.neI rfl rfl (by decide) ⟨rfl, rfl⟩) ?_
      · exact hs15
      refine WA.take 11 rfl rfl rfl rfl (by kernel_rfl) (by kernel_rfl) (by kernel_rfl) ?_ (by decide) (v := (Value.bool (decide ((xs.getD k default).sector ≠ (ys.getD k default).sector)))) (fun w39 hw38 => OP.move (Value.bool (decide ((xs.getD k default).sector ≠ (ys.getD k default).sector))) rfl (by decide) ⟨rfl, rfl⟩) ?_
      · exact hs15
      by_cases hc40 : (xs.getD k default).sector ≠ (ys.getD k default).sector
      · refine WA.passG 12 rfl rfl rfl rfl (Eq.trans (b := .bool (decide ((xs.getD k default).sector ≠ (ys.getD k default).sector))) rfl (congrArg Value.bool (decide_eq_true hc40))) rfl (by kernel_rfl) (by kernel_rfl) (by kernel_rfl) ?_ (by decide) ?_
        · exact hs15
        refine WA.passG 13 rfl rfl rfl rfl (Eq.trans (b := .bool (decide ((xs.getD k default).sector ≠ (ys.getD k default).sector))) rfl (congrArg Value.bool (decide_eq_true hc40))) rfl (by kernel_rfl) (by kernel_rfl) (by kernel_rfl) ?_ (by decide) ?_
        · exact hs15
        refine WA.passG 14 rfl rfl rfl rfl (Eq.trans (b := .bool (decide ((xs.getD k default).sector ≠ (ys.getD k default).sector))) rfl (congrArg Value.bool (decide_eq_true hc40))) rfl (by kernel_rfl) (by kernel_rfl) (by kernel_rfl) ?_ (by decide) ?_
        · exact hs15
        refine WA.passG 15 rfl rfl rfl rfl (Eq.trans (b := .bool (decide ((xs.getD k default).sector ≠ (ys.getD k default).sector))) rfl (congrArg Value.bool (decide_eq_true hc40))) rfl (by kernel_rfl) (by kernel_rfl) (by kernel_rfl) ?_ (by decide) ?_
        · exact hs15
        refine WA.passG 16 rfl rfl rfl rfl (Eq.trans (b := .bool (decide ((xs.getD k default).sector ≠ (ys.getD k default).sector))) rfl (congrArg Value.bool (decide_eq_true hc40))) rfl (by kernel_rfl) (by kernel_rfl) (by kernel_rfl) ?_ (by decide) ?_
        · exact hs15
        refine WA.passG 17 rfl rfl rfl rfl (Eq.trans (b := .bool (decide ((xs.getD k default).sector ≠ (ys.getD k default).sector))) rfl (congrArg Value.bool (decide_eq_true hc40))) rfl (by kernel_rfl) (by kernel_rfl) (by kernel_rfl) ?_ (by decide) ?_
        · exact hs15
        refine WA.passG 18 rfl rfl rfl rfl (Eq.trans (b := .bool (decide ((xs.getD k default).sector ≠ (ys.getD k default).sector))) rfl (congrArg Value.bool (decide_eq_true hc40))) rfl (by kernel_rfl) (by kernel_rfl) (by kernel_rfl) ?_ (by decide) ?_
        · exact hs15
        refine WA.passG 19 rfl rfl rfl rfl (Eq.trans (b := .bool (decide ((xs.getD k default).sector ≠ (ys.getD k default).sector))) rfl (congrArg Value.bool (decide_eq_true hc40))) rfl (by kernel_rfl) (by kernel_rfl) (by kernel_rfl) ?_ (by decide) ?_
        · exact hs15
        refine WA.passG 20 rfl rfl rfl rfl (Eq.trans (b := .bool (decide ((xs.getD k default).sector ≠ (ys.getD k default).sector))) rfl (congrArg Value.bool (decide_eq_true hc40))) rfl (by kernel_rfl) (by kernel_rfl) (by kernel_rfl) ?_ (by decide) ?_
        · exact hs15
        refine WA.passG 21 rfl rfl rfl rfl (Eq.trans (b := .bool (decide ((xs.getD k default).sector ≠ (ys.getD k default).sector))) rfl (congrArg Value.bool (decide_eq_true hc40))) rfl (by kernel_rfl) (by kernel_rfl) (by kernel_rfl) ?_ (by decide) ?_
        · exact hs15
        refine WA.passG 22 rfl rfl rfl rfl (Eq.trans (b := .bool (decide ((xs.getD k default).sector ≠ (ys.getD k default).sector))) rfl (congrArg Value.bool (decide_eq_true hc40))) rfl (by kernel_rfl) (by kernel_rfl) (by kernel_rfl) ?_ (by decide) ?_
        · exact hs15
        refine WA.take 23 rfl rfl rfl rfl (by kernel_rfl) (by kernel_rfl) (by kernel_rfl) ?_ (by decide) (v := (Value.bool true)) (fun w42 hw41 => OP.pickT (Value.bool true) (Eq.trans (b := .bool (decide ((xs.getD k default).sector ≠ (ys.getD k default).sector))) rfl (congrArg Value.bool (decide_eq_true hc40))) rfl (by decide) ⟨rfl, rfl⟩) ?_
        · exact hs15
        refine WA.take 24 rfl rfl rfl rfl (by kernel_rfl) (by kernel_rfl) (by kernel_rfl) ?_ (by decide) (v := (Value.bool true)) (fun w44 hw43 => OP.move (Value.bool true) rfl (by decide) ⟨rfl, rfl⟩) ?_
        · exact hs15
        refine WA.passG 25 rfl rfl rfl rfl rfl rfl (by kernel_rfl) (by kernel_rfl) (by kernel_rfl) ?_ (by decide) ?_
        · exact hs15
        refine WA.passG 26 rfl rfl rfl rfl rfl rfl (by kernel_rfl) (by kernel_rfl) (by kernel_rfl) ?_ (by decide) ?_
        · exact hs15
        refine WA.passG 27 rfl rfl rfl rfl rfl rfl (by kernel_rfl) (by kernel_rfl) (by kernel_rfl) ?_ (by decide) ?_
        · exact hs15
        refine WA.passG 28 rfl rfl rfl rfl rfl rfl (by kernel_rfl) (by kernel_rfl) (by kernel_rfl) ?_ (by decide) ?_
        · exact hs15
        refine WA.passG 29 rfl rfl rfl rfl rfl rfl (by kernel_rfl) (by kernel_rfl) (by kernel_rfl) ?_ (by decide) ?_
        · exact hs15
        refine WA.passG 30 rfl rfl rfl rfl rfl rfl (by kernel_rfl) (by kernel_rfl) (by kernel_rfl) ?_ (by decide) ?_
        · exact hs15
        refine WA.passG 31 rfl rfl rfl rfl rfl rfl (by kernel_rfl) (by kernel_rfl) (by kernel_rfl) ?_ (by decide) ?_
        · exact hs15
        refine WA.passG 32 rfl rfl rfl rfl rfl rfl (by kernel_rfl) (by kernel_rfl) (by kernel_rfl) ?_ (by decide) ?_
        · exact hs15
        refine WA.passG 33 rfl rfl rfl rfl rfl rfl (by kernel_rfl) (by kernel_rfl) (by kernel_rfl) ?_ (by decide) ?_
        · exact hs15
        refine WA.passG 34 rfl rfl rfl rfl rfl rfl (by kernel_rfl) (by kernel_rfl) (by kernel_rfl) ?_ (by decide) ?_
        · exact hs15
        refine WA.passG 35 rfl rfl rfl rfl rfl rfl (by kernel_rfl) (by kernel_rfl) (by kernel_rfl) ?_ (by decide) ?_
        · exact hs15
        refine WA.passG 36 rfl rfl rfl rfl rfl rfl (by kernel_rfl) (by kernel_rfl) (by kernel_rfl) ?_ (by decide) ?_
        · exact hs15
        refine WA.take 37 rfl rfl rfl rfl (by kernel_rfl) (by kernel_rfl) (by kernel_rfl) ?_ (by decide) (v := (Value.bool true)) (fun w46 hw45 => OP.pickT (Value.bool true) rfl rfl (by decide) ⟨rfl, rfl⟩) ?_
        · exact hs15
        refine WA.done (by kernel_rfl) ?_
        refine (Qn.then ?_)
        refine W.iteT rfl ?_
        refine W.seq ?_
        refine W.region ?_
        refine WL.cons rfl (OP.assign (Value.bool false) rfl (by decide) ?_)
        refine WL.nil (Qn.then ?_)
        refine W.ret (Qr.blk (Qr.then (Qr.then (Qr.blk (Qr.then (RetQ.of [(Value.bool false)] (.inr rfl) Try.results19 (.cons (.tmp (by decide) rfl) .nil) ?_))))))
        exact ⟨(congrArg Value.bool (by first | exact (decide_eq_false (same_len (by omega))).symm | exact (decide_eq_true (same_all (k := k) (by omega) (by omega) (by assumption))).symm | (refine (decide_eq_false (same_not (k := k) (by omega) (by omega) ?_)).symm; simp_all))), hs15⟩
      · refine WA.takeG 12 rfl rfl rfl rfl rfl (Eq.trans (b := .bool (decide ((xs.getD k default).sector ≠ (ys.getD k default).sector))) rfl (congrArg Value.bool (decide_eq_false hc40))) (by kernel_rfl) (by kernel_rfl) (by kernel_rfl) ?_ (by decide) (v := (Value.slice a xs.length c)) (fun w49 hw48 => OP.move (Value.slice a xs.length c) he8 (by decide) ⟨rfl, rfl⟩) ?_
        · exact hs15
        refine WA.takeG 13 rfl rfl rfl rfl rfl (Eq.trans (b := .bool (decide ((xs.getD k default).sector ≠ (ys.getD k default).sector))) rfl (congrArg Value.bool (decide_eq_false hc40))) (by kernel_rfl) (by kernel_rfl) (by kernel_rfl) ?_ (by decide) (v := (Value.int .i64 ((k : Nat) : Int))) (fun w51 hw50 => OP.move (Value.int .i64 ((k : Nat) : Int)) he10 (by decide) ⟨rfl, rfl⟩) ?_
        · exact hs15
        have hi31_ : k < xs.length := by omega
        refine WA.takeG 14 rfl rfl rfl rfl rfl (Eq.trans (b := .bool (decide ((xs.getD k default).sector ≠ (ys.getD k default).sector))) rfl (congrArg Value.bool (decide_eq_false hc40))) (by kernel_rfl) (by kernel_rfl) (by kernel_rfl) ?_ (by decide) (v := (Value.pointer (some (adr a (k * 3))))) (fun w53 hw52 => OP.indexR k (Ent_sat 1 rfl hr hw52) Try.underlying44 sz_48 rfl rfl rfl hi31_ (by decide) ⟨rfl, rfl⟩) ?_
        · exact hs15
        refine WA.takeG 15 rfl rfl rfl rfl rfl (Eq.trans (b := .bool (decide ((xs.getD k default).sector ≠ (ys.getD k default).sector))) rfl (congrArg Value.bool (decide_eq_false hc40))) (by kernel_rfl) (by kernel_rfl) (by kernel_rfl) ?_ (by decide) (v := (Value.pointer (some (adr a (k * 3 + 1))))) (fun w55 hw54 => OP.fieldAddrR fo_48_1 rfl (by decide) ⟨rfl, rfl⟩) ?_
        · exact hs15
        refine WA.takeG 16 rfl rfl rfl rfl rfl (Eq.trans (b := .bool (decide ((xs.getD k default).sector ≠ (ys.getD k default).sector))) rfl (congrArg Value.bool (decide_eq_false hc40))) (by kernel_rfl) (by kernel_rfl) (by kernel_rfl) ?_ (by decide) (v := (Value.int .i64 ((xs.getD k default).kind))) (fun w57 hw56 => OP.loadSR (Value.int .i64 ((xs.getD k default).kind)) (Ent_sat 1 rfl hr hw56) (recs_get (enc := encB) (fun _ => rfl) hi31_ rfl) sc_3 rfl (by decide) ⟨rfl, rfl⟩) ?_
        · exact hs15
        refine WA.takeG 17 rfl rfl rfl rfl rfl (Eq.trans (b := .bool (decide ((xs.getD k default).sector ≠ (ys.getD k default).sector))) rfl (congrArg Value.bool (decide_eq_false hc40))) (by kernel_rfl) (by kernel_rfl) (by kernel_rfl) ?_ (by decide) (v := (Value.slice a2 ys.length c2)) (fun w59 hw58 => OP.move (Value.slice a2 ys.length c2) he9 (by decide) ⟨rfl, rfl⟩) ?_
        · exact hs15
        refine WA.takeG 18 rfl rfl rfl rfl rfl (Eq.trans (b := .bool (decide ((xs.getD k default).sector ≠ (ys.getD k default).sector))) rfl (congrArg Value.bool (decide_eq_false hc40))) (by kernel_rfl) (by kernel_rfl) (by kernel_rfl) ?_ (by decide) (v := (Value.int .i64 ((k : Nat) : Int))) (fun w61 hw60 => OP.move (Value.int .i64 ((k : Nat) : Int)) he10 (by decide) ⟨rfl, rfl⟩) ?_
        · exact hs15
        have hi36_ : k < ys.length := by omega
        refine WA.takeG 19 rfl rfl rfl rfl rfl (Eq.trans (b := .bool (decide ((xs.getD k default).sector ≠ (ys.getD k default).sector))) rfl (congrArg Value.bool (decide_eq_false hc40))) (by kernel_rfl) (by kernel_rfl) (by kernel_rfl) ?_ (by decide) (v := (Value.pointer (some (adr a2 (k * 3))))) (fun w63 hw62 => OP.indexR k (Ent_sat 1 rfl hr2 hw62) Try.underlying44 sz_48 rfl rfl rfl hi36_ (by decide) ⟨rfl, rfl⟩) ?_
        · exact hs15
        refine WA.takeG 20 rfl rfl rfl rfl rfl (Eq.trans (b := .bool (decide ((xs.getD k default).sector ≠ (ys.getD k default).sector))) rfl (congrArg Value.bool (decide_eq_false hc40))) (by kernel_rfl) (by kernel_rfl) (by kernel_rfl) ?_ (by decide) (v := (Value.pointer (some (adr a2 (k * 3 + 1))))) (fun w65 hw64 => OP.fieldAddrR fo_48_1 rfl (by decide) ⟨rfl, rfl⟩) ?_
        · exact hs15
        refine WA.takeG 21 rfl rfl rfl rfl rfl (Eq.trans (b := .bool (decide ((xs.getD k default).sector ≠ (ys.getD k default).sector))) rfl (congrArg Value.bool (decide_eq_false hc40))) (by kernel_rfl) (by kernel_rfl) (by kernel_rfl) ?_ (by decide) (v := (Value.int .i64 ((ys.getD k default).kind))) (fun w67 hw66 => OP.loadSR (Value.int .i64 ((ys.getD k default).kind)) (Ent_sat 1 rfl hr2 hw66) (recs_get (enc := encB) (fun _ => rfl) hi36_ rfl) sc_3 rfl (by decide) ⟨rfl, rfl⟩) ?_
        · exact hs15
        refine WA.takeG 22 rfl rfl rfl rfl rfl (Eq.trans (b := .bool (decide ((xs.getD k default).sector ≠ (ys.getD k default).sector))) rfl (congrArg Value.bool (decide_eq_false hc40))) (by kernel_rfl) (by kernel_rfl) (by kernel_rfl) ?_ (by decide) (v := (Value.bool (decide ((xs.getD k default).kind ≠ (ys.getD k default).kind)))) (fun w69 hw68 => OP.neI rfl rfl (by decide) ⟨rfl, rfl⟩) ?_
        · exact hs15
        refine WA.take 23 rfl rfl rfl rfl (by kernel_rfl) (by kernel_rfl) (by kernel_rfl) ?_ (by decide) (v := (Value.bool (decide ((xs.getD k default).kind ≠ (ys.getD k default).kind)))) (fun w71 hw70 => OP.pickF (Value.bool (decide ((xs.getD k default).kind ≠ (ys.getD k default).kind))) (Eq.trans (b := .bool (decide ((xs.getD k default).sector ≠ (ys.getD k default).sector))) rfl (congrArg Value.bool (decide_eq_false hc40))) rfl (by decide) ⟨rfl, rfl⟩) ?_
        · exact hs15
        refine WA.take 24 rfl rfl rfl rfl (by kernel_rfl) (by kernel_rfl) (by kernel_rfl) ?_ (by decide) (v := (Value.bool (decide ((xs.getD k default).kind ≠ (ys.getD k default).kind)))) (fun w73 hw72 => OP.move (Value.bool (decide ((xs.getD k default).kind ≠ (ys.getD k default).kind))) rfl (by decide) ⟨rfl, rfl⟩) ?_
        · exact hs15
        by_cases hc74 : (xs.getD k default).kind ≠ (ys.getD k default).kind
        · refine WA.passG 25 rfl rfl rfl rfl (Eq.trans (b := .bool (decide ((xs.getD k default).kind ≠ (ys.getD k default).kind))) rfl (congrArg Value.bool (decide_eq_true hc74))) rfl (by kernel_rfl) (by kernel_rfl) (by kernel_rfl) ?_ (by decide) ?_
          · exact hs15
          refine WA.passG 26 rfl rfl rfl rfl (Eq.trans (b := .bool (decide ((xs.getD k default).kind ≠ (ys.getD k default).kind))) rfl (congrArg Value.bool (decide_eq_true hc74))) rfl (by kernel_rfl) (by kernel_rfl) (by kernel_rfl) ?_ (by decide) ?_
          · exact hs15
          refine WA.passG 27 rfl rfl rfl rfl (Eq.trans (b := .bool (decide ((xs.getD k default).kind ≠ (ys.getD k default).kind))) rfl (congrArg Value.bool (decide_eq_true hc74))) rfl (by kernel_rfl) (by kernel_rfl) (by kernel_rfl) ?_ (by decide) ?_
          · exact hs15
          refine WA.passG 28 rfl rfl rfl rfl (Eq.trans (b := .bool (decide ((xs.getD k default).kind ≠ (ys.getD k default).kind))) rfl (congrArg Value.bool (decide_eq_true hc74))) rfl (by kernel_rfl) (by kernel_rfl) (by kernel_rfl) ?_ (by decide) ?_
          · exact hs15
          refine WA.passG 29 rfl rfl rfl rfl (Eq.trans (b := .bool (decide ((xs.getD k default).kind ≠ (ys.getD k default).kind))) rfl (congrArg Value.bool (decide_eq_true hc74))) rfl (by kernel_rfl) (by kernel_rfl) (by kernel_rfl) ?_ (by decide) ?_
          · exact hs15
          refine WA.passG 30 rfl rfl rfl rfl (Eq.trans (b := .bool (decide ((xs.getD k default).kind ≠ (ys.getD k default).kind))) rfl (congrArg Value.bool (decide_eq_true hc74))) rfl (by kernel_rfl) (by kernel_rfl) (by kernel_rfl) ?_ (by decide) ?_
          · exact hs15
          refine WA.passG 31 rfl rfl rfl rfl (Eq.trans (b := .bool (decide ((xs.getD k default).kind ≠ (ys.getD k default).kind))) rfl (congrArg Value.bool (decide_eq_true hc74))) rfl (by kernel_rfl) (by kernel_rfl) (by kernel_rfl) ?_ (by decide) ?_
          · exact hs15
          refine WA.passG 32 rfl rfl rfl rfl (Eq.trans (b := .bool (decide ((xs.getD k default).kind ≠ (ys.getD k default).kind))) rfl (congrArg Value.bool (decide_eq_true hc74))) rfl (by kernel_rfl) (by kernel_rfl) (by kernel_rfl) ?_ (by decide) ?_
          · exact hs15
          refine WA.passG 33 rfl rfl rfl rfl (Eq.trans (b := .bool (decide ((xs.getD k default).kind ≠ (ys.getD k default).kind))) rfl (congrArg Value.bool (decide_eq_true hc74))) rfl (by kernel_rfl) (by kernel_rfl) (by kernel_rfl) ?_ (by decide) ?_
          · exact hs15
          refine WA.passG 34 rfl rfl rfl rfl (Eq.trans (b := .bool (decide ((xs.getD k default).kind ≠ (ys.getD k default).kind))) rfl (congrArg Value.bool (decide_eq_true hc74))) rfl (by kernel_rfl) (by kernel_rfl) (by kernel_rfl) ?_ (by decide) ?_
          · exact hs15
          refine WA.passG 35 rfl rfl rfl rfl (Eq.trans (b := .bool (decide ((xs.getD k default).kind ≠ (ys.getD k default).kind))) rfl (congrArg Value.bool (decide_eq_true hc74))) rfl (by kernel_rfl) (by kernel_rfl) (by kernel_rfl) ?_ (by decide) ?_
          · exact hs15
          refine WA.passG 36 rfl rfl rfl rfl (Eq.trans (b := .bool (decide ((xs.getD k default).kind ≠ (ys.getD k default).kind))) rfl (congrArg Value.bool (decide_eq_true hc74))) rfl (by kernel_rfl) (by kernel_rfl) (by kernel_rfl) ?_ (by decide) ?_
          · exact hs15
          refine WA.take 37 rfl rfl rfl rfl (by kernel_rfl) (by kernel_rfl) (by kernel_rfl) ?_ (by decide) (v := (Value.bool true)) (fun w76 hw75 => OP.pickT (Value.bool true) (Eq.trans (b := .bool (decide ((xs.getD k default).kind ≠ (ys.getD k default).kind))) rfl (congrArg Value.bool (decide_eq_true hc74))) rfl (by decide) ⟨rfl, rfl⟩) ?_
          · exact hs15
          refine WA.done (by kernel_rfl) ?_
          refine (Qn.then ?_)
          refine W.iteT rfl ?_
          refine W.seq ?_
          refine W.region ?_
          refine WL.cons rfl (OP.assign (Value.bool false) rfl (by decide) ?_)
          refine WL.nil (Qn.then ?_)
          refine W.ret (Qr.blk (Qr.then (Qr.then (Qr.blk (Qr.then (RetQ.of [(Value.bool false)] (.inr rfl) Try.results19 (.cons (.tmp (by decide) rfl) .nil) ?_))))))
          exact ⟨(congrArg Value.bool (by first | exact (decide_eq_false (same_len (by omega))).symm | exact (decide_eq_true (same_all (k := k) (by omega) (by omega) (by assumption))).symm | (refine (decide_eq_false (same_not (k := k) (by omega) (by omega) ?_)).symm; simp_all))), hs15⟩
        · refine WA.takeG 25 rfl rfl rfl rfl rfl (Eq.trans (b := .bool (decide ((xs.getD k default).kind ≠ (ys.getD k default).kind))) rfl (congrArg Value.bool (decide_eq_false hc74))) (by kernel_rfl) (by kernel_rfl) (by kernel_rfl) ?_ (by decide) (v := (Value.slice a xs.length c)) (fun w79 hw78 => OP.move (Value.slice a xs.length c) he8 (by decide) ⟨rfl, rfl⟩) ?_
          · exact hs15
          refine WA.takeG 26 rfl rfl rfl rfl rfl (Eq.trans (b := .bool (decide ((xs.getD k default).kind ≠ (ys.getD k default).kind))) rfl (congrArg Value.bool (decide_eq_false hc74))) (by kernel_rfl) (by kernel_rfl) (by kernel_rfl) ?_ (by decide) (v := (Value.int .i64 ((k : Nat) : Int))) (fun w81 hw80 => OP.move (Value.int .i64 ((k : Nat) : Int)) he10 (by decide) ⟨rfl, rfl⟩) ?_
          · exact hs15
          have hi44_ : k < xs.length := by omega
          refine WA.takeG 27 rfl rfl rfl rfl rfl (Eq.trans (b := .bool (decide ((xs.getD k default).kind ≠ (ys.getD k default).kind))) rfl (congrArg Value.bool (decide_eq_false hc74))) (by kernel_rfl) (by kernel_rfl) (by kernel_rfl) ?_ (by decide) (v := (Value.pointer (some (adr a (k * 3))))) (fun w83 hw82 => OP.indexR k (Ent_sat 1 rfl hr hw82) Try.underlying44 sz_48 rfl rfl rfl hi44_ (by decide) ⟨rfl, rfl⟩) ?_
          · exact hs15
          refine WA.takeG 28 rfl rfl rfl rfl rfl (Eq.trans (b := .bool (decide ((xs.getD k default).kind ≠ (ys.getD k default).kind))) rfl (congrArg Value.bool (decide_eq_false hc74))) (by kernel_rfl) (by kernel_rfl) (by kernel_rfl) ?_ (by decide) (v := (Value.pointer (some (adr a (k * 3 + 2))))) (fun w85 hw84 => OP.fieldAddrR fo_48_2 rfl (by decide) ⟨rfl, rfl⟩) ?_
          · exact hs15
          refine WA.takeG 29 rfl rfl rfl rfl rfl (Eq.trans (b := .bool (decide ((xs.getD k default).kind ≠ (ys.getD k default).kind))) rfl (congrArg Value.bool (decide_eq_false hc74))) (by kernel_rfl) (by kernel_rfl) (by kernel_rfl) ?_ (by decide) (v := (Value.slice ((xs.getD k default).da) ((xs.getD k default).data.length) ((xs.getD k default).dc))) (fun w87 hw86 => OP.loadSR (Value.slice ((xs.getD k default).da) ((xs.getD k default).data.length) ((xs.getD k default).dc)) (Ent_sat 1 rfl hr hw86) (recs_get (enc := encB) (fun _ => rfl) hi44_ rfl) sc_24 rfl (by decide) ⟨rfl, rfl⟩) ?_
          · exact hs15
          refine WA.takeG 30 rfl rfl rfl rfl rfl (Eq.trans (b := .bool (decide ((xs.getD k default).kind ≠ (ys.getD k default).kind))) rfl (congrArg Value.bool (decide_eq_false hc74))) (by kernel_rfl) (by kernel_rfl) (by kernel_rfl) ?_ (by decide) (v := (Value.slice a2 ys.length c2)) (fun w89 hw88 => OP.move (Value.slice a2 ys.length c2) he9 (by decide) ⟨rfl, rfl⟩) ?_
          · exact hs15
          refine WA.takeG 31 rfl rfl rfl rfl rfl (Eq.trans (b := .bool (decide ((xs.getD k default).kind ≠ (ys.getD k default).kind))) rfl (congrArg Value.bool (decide_eq_false hc74))) (by kernel_rfl) (by kernel_rfl) (by kernel_rfl) ?_ (by decide) (v := (Value.int .i64 ((k : Nat) : Int))) (fun w91 hw90 => OP.move (Value.int .i64 ((k : Nat) : Int)) he10 (by decide) ⟨rfl, rfl⟩) ?_
          · exact hs15
          have hi49_ : k < ys.length := by omega
          refine WA.takeG 32 rfl rfl rfl rfl rfl (Eq.trans (b := .bool (decide ((xs.getD k default).kind ≠ (ys.getD k default).kind))) rfl (congrArg Value.bool (decide_eq_false hc74))) (by kernel_rfl) (by kernel_rfl) (by kernel_rfl) ?_ (by decide) (v := (Value.pointer (some (adr a2 (k * 3))))) (fun w93 hw92 => OP.indexR k (Ent_sat 1 rfl hr2 hw92) Try.underlying44 sz_48 rfl rfl rfl hi49_ (by decide) ⟨rfl, rfl⟩) ?_
          · exact hs15
          refine WA.takeG 33 rfl rfl rfl rfl rfl (Eq.trans (b := .bool (decide ((xs.getD k default).kind ≠ (ys.getD k default).kind))) rfl (congrArg Value.bool (decide_eq_false hc74))) (by kernel_rfl) (by kernel_rfl) (by kernel_rfl) ?_ (by decide) (v := (Value.pointer (some (adr a2 (k * 3 + 2))))) (fun w95 hw94 => OP.fieldAddrR fo_48_2 rfl (by decide) ⟨rfl, rfl⟩) ?_
          · exact hs15
          refine WA.takeG 34 rfl rfl rfl rfl rfl (Eq.trans (b := .bool (decide ((xs.getD k default).kind ≠ (ys.getD k default).kind))) rfl (congrArg Value.bool (decide_eq_false hc74))) (by kernel_rfl) (by kernel_rfl) (by kernel_rfl) ?_ (by decide) (v := (Value.slice ((ys.getD k default).da) ((ys.getD k default).data.length) ((ys.getD k default).dc))) (fun w97 hw96 => OP.loadSR (Value.slice ((ys.getD k default).da) ((ys.getD k default).data.length) ((ys.getD k default).dc)) (Ent_sat 1 rfl hr2 hw96) (recs_get (enc := encB) (fun _ => rfl) hi49_ rfl) sc_24 rfl (by decide) ⟨rfl, rfl⟩) ?_
          · exact hs15
          refine WA.all [35] (by kernel_rfl) (by simp) ?_
          refine WAs.consG (oi := (Go.Oper.mk (some 52) (Go.Op.call (Go.Call.mk (Go.Callee.value (Go.Operand.func 28)) #[(Go.Operand.tmp 46), (Go.Operand.tmp 51)] #[24, 24])) 4 "ref.go:85" #[(Go.Edge.mk 29 Go.Ground.data), (Go.Edge.mk 34 Go.Ground.data), (Go.Edge.mk 24 Go.Ground.chain), (Go.Edge.mk 24 Go.Ground.guard)] (some (24, false)))) rfl rfl rfl (Eq.trans (b := .bool (decide ((xs.getD k default).kind ≠ (ys.getD k default).kind))) rfl (congrArg Value.bool (decide_eq_false hc74))) ?_ ?_
          · have hs98 : sat W0 [stars [ShD W0 D, F]] w14 := sat_pack' [] [ShD W0 D, F] hs15 (by kernel_rfl) (by kernel_rfl)
            have hcl101 := ref01_Same29 ((xs.getD k default).da) ((xs.getD k default).dc) ((xs.getD k default).data) ((ys.getD k default).da) ((ys.getD k default).dc) ((ys.getD k default).data) (by have := hlx _ (getD_mem (d := default) hi44_); omega) (by have := hly _ (getD_mem (d := default) hi49_); omega) (Ent_stars 0 rfl (Ent_ShDm (hx _ (getD_mem (by omega))))) (Ent_stars 0 rfl (Ent_ShDm (hy _ (getD_mem (by omega))))) hs98
            refine ?_
            with_reducible refine OP.call [(Value.slice ((xs.getD k default).da) ((xs.getD k default).data.length) ((xs.getD k default).dc)), (Value.slice ((ys.getD k default).da) ((ys.getD k default).data.length) ((ys.getD k default).dc))] gf_28 ?_ ?_ hcl101 ?_
            · exact rfl
            · decide
            clear hcl101
            rintro _ w99 ⟨_, rfl, rfl, hs100⟩
            refine ⟨_, rfl, ?_⟩
            have hs102 : sat W0 [ShD W0 D, F] w99 := sat_flat' [] [ShD W0 D, F] hs100 (by kernel_rfl) (by kernel_rfl)
            refine ⟨?_, ?_⟩
            · exact hs102
            refine WA.takeG 36 rfl rfl rfl rfl rfl (Eq.trans (b := .bool (decide ((xs.getD k default).kind ≠ (ys.getD k default).kind))) rfl (congrArg Value.bool (decide_eq_false hc74))) (by kernel_rfl) (by kernel_rfl) (by kernel_rfl) ?_ (by decide) (v := (Value.bool (decide (¬ (((xs.getD k default).data) = ((ys.getD k default).data)))))) (fun w104 hw103 => OP.notP (((xs.getD k default).data) = ((ys.getD k default).data)) rfl (by decide) ⟨rfl, rfl⟩) ?_
            · exact hs102
            refine WA.take 37 rfl rfl rfl rfl (by kernel_rfl) (by kernel_rfl) (by kernel_rfl) ?_ (by decide) (v := (Value.bool (decide (¬ (((xs.getD k default).data) = ((ys.getD k default).data)))))) (fun w106 hw105 => OP.pickF (Value.bool (decide (¬ (((xs.getD k default).data) = ((ys.getD k default).data))))) (Eq.trans (b := .bool (decide ((xs.getD k default).kind ≠ (ys.getD k default).kind))) rfl (congrArg Value.bool (decide_eq_false hc74))) rfl (by decide) ⟨rfl, rfl⟩) ?_
            · exact hs102
            refine WA.done (by kernel_rfl) ?_
            refine (Qn.then ?_)
            refine W.iteP (p := ¬ (((xs.getD k default).data) = ((ys.getD k default).data))) rfl (fun hc107 => ?_) (fun hc107 => ?_)
            · refine W.seq ?_
              refine W.region ?_
              refine WL.cons rfl (OP.assign (Value.bool false) rfl (by decide) ?_)
              refine WL.nil (Qn.then ?_)
              refine W.ret (Qr.blk (Qr.then (Qr.then (Qr.blk (Qr.then (RetQ.of [(Value.bool false)] (.inr rfl) Try.results19 (.cons (.tmp (by decide) rfl) .nil) ?_))))))
              exact ⟨(congrArg Value.bool (by first | exact (decide_eq_false (same_len (by omega))).symm | exact (decide_eq_true (same_all (k := k) (by omega) (by omega) (by assumption))).symm | (refine (decide_eq_false (same_not (k := k) (by omega) (by omega) ?_)).symm; simp_all))), hs102⟩
            · refine W.skip (Qn.blk (Qn.then ?_))
              refine W.region ?_
              refine WL.cons rfl (OP.move (Value.int .i64 ((k : Nat) : Int)) he10 (by decide) ?_)
              refine WL.cons rfl (OP.add ((k + 1 : Nat) : Int) rfl rfl (by first | rfl | omega | simp) (by unfold inI64; omega) (by decide) ?_)
              refine WL.cons rfl (OP.assign (Value.int .i64 ((k + 1 : Nat) : Int)) rfl (by decide) ?_)
              refine WL.nil (Qn.then ?_)
              exact ⟨_, (by omega), (k + 1), rfl, he8, he9, (Eq.trans (b := (Value.int .i64 ((k + 1 : Nat) : Int))) rfl (congrArg (Value.int .i64) (by first | rfl | omega | simp | (simp; omega)))), (by omega), (by apply same_next (by omega) (by omega) (by assumption) <;> simp_all), hs102⟩
          exact WAs.nil
    · refine W.exit (Qx.then (Qx.then (Qx.hit (Qn.then ?_))))
      refine W.seq ?_
      refine W.region ?_
      refine WL.cons rfl (OP.assign (Value.bool true) rfl (by decide) ?_)
      refine WL.nil (Qn.then ?_)
      refine W.ret (RetQ.of [(Value.bool true)] (.inr rfl) Try.results19 (.cons (.tmp (by decide) rfl) .nil) ?_)
      exact ⟨(congrArg Value.bool (by first | exact (decide_eq_false (same_len (by omega))).symm | exact (decide_eq_true (same_all (k := k) (by omega) (by omega) (by assumption))).symm | (refine (decide_eq_false (same_not (k := k) (by omega) (by omega) ?_)).symm; simp_all))), hs6⟩

end Go.Proofs.Ytleolejhkdolpaa
