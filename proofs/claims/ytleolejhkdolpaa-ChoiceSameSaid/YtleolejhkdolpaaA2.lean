import Derived.Test.YtleolejhkdolpaaA1
import Derived.KernelRfl
set_option linter.unusedVariables false
set_option linter.unusedSimpArgs false
set_option maxRecDepth 100000
set_option maxHeartbeats 4000000
namespace Go.Proofs.Ytleolejhkdolpaa
open Go Go.RowKit Sv
theorem geom_Raw {W0 : World} {F : HProp} {w : World}  (g : Geom)  
    (hs : sat W0 [F] w) :
    Calls Try.prog 64 ([(Value.agg [(Value.int .i64 g.planes), (Value.int .i64 g.blocks), (Value.int .i64 g.pages), (Value.int .i64 g.chunks), (Value.int .i64 g.chunk), (Value.int .i64 g.rungs), (Value.int .i64 g.partials)].toArray)] : List Value).toArray w (fun x_ w' => ∃ v_, x_ = .returned v_ ∧ (v_ = (Value.int .i64 (rawN g)) ∧ sat W0 [F] w')) := by
  refine W.enter Try.func64 rfl Try.ntmps64 (by simp) ?_
  refine W.seq ?_
  refine W.region ?_
  refine WL.cons rfl (OP.box (Value.agg [(Value.int .i64 g.planes), (Value.int .i64 g.blocks), (Value.int .i64 g.pages), (Value.int .i64 g.chunks), (Value.int .i64 g.chunk), (Value.int .i64 g.rungs), (Value.int .i64 g.partials)].toArray) [(Value.int .i64 g.planes), (Value.int .i64 g.blocks), (Value.int .i64 g.pages), (Value.int .i64 g.chunks), (Value.int .i64 g.chunk), (Value.int .i64 g.rungs), (Value.int .i64 g.partials)] hs rfl rfl (by decide) (fun b1 w2 hs3 => ?_))
  refine WL.cons rfl (OP.assign (Value.int .i64 0) rfl (by decide) ?_)
  refine WL.nil (Qn.then ?_)
  refine W.seq ?_
  refine W.seq ?_
  refine W.region ?_
  refine WL.cons rfl (OP.loadA [(Value.int .i64 g.planes), (Value.int .i64 g.blocks), (Value.int .i64 g.pages), (Value.int .i64 g.chunks), (Value.int .i64 g.chunk), (Value.int .i64 g.rungs), (Value.int .i64 g.partials)] ag_34 sz_34 rfl (sat_rdn 0 hs3 rfl rfl) (by decide) ?_)
  have hs4 : sat W0 [stars [blk b1 [(Value.int .i64 g.planes), (Value.int .i64 g.blocks), (Value.int .i64 g.pages), (Value.int .i64 g.chunks), (Value.int .i64 g.chunk), (Value.int .i64 g.rungs), (Value.int .i64 g.partials)] 34, F]] w2 := sat_pack' [] [blk b1 [(Value.int .i64 g.planes), (Value.int .i64 g.blocks), (Value.int .i64 g.pages), (Value.int .i64 g.chunks), (Value.int .i64 g.chunk), (Value.int .i64 g.rungs), (Value.int .i64 g.partials)] 34, F] hs3 (by kernel_rfl) (by kernel_rfl)
  have hcl7 := geom_Check g hs4
  refine WL.cons rfl (?_)
  with_reducible refine OP.call [(Value.agg [(Value.int .i64 g.planes), (Value.int .i64 g.blocks), (Value.int .i64 g.pages), (Value.int .i64 g.chunks), (Value.int .i64 g.chunk), (Value.int .i64 g.rungs), (Value.int .i64 g.partials)].toArray)] gf_59 ?_ ?_ hcl7 ?_
  · exact rfl
  · decide
  clear hcl7
  rintro _ w5 ⟨_, rfl, rfl, hs6⟩
  refine ⟨_, rfl, ?_⟩
  have hs8 : sat W0 [blk b1 [(Value.int .i64 g.planes), (Value.int .i64 g.blocks), (Value.int .i64 g.pages), (Value.int .i64 g.chunks), (Value.int .i64 g.chunk), (Value.int .i64 g.rungs), (Value.int .i64 g.partials)] 34, F] w5 := sat_flat' [] [blk b1 [(Value.int .i64 g.planes), (Value.int .i64 g.blocks), (Value.int .i64 g.pages), (Value.int .i64 g.chunks), (Value.int .i64 g.chunk), (Value.int .i64 g.rungs), (Value.int .i64 g.partials)] 34, F] hs6 (by kernel_rfl) (by kernel_rfl)
  refine WL.cons rfl (OP.neI rfl rfl (by decide) ?_)
  refine WL.nil (Qn.then ?_)
  refine W.iteP (p := checkE g ≠ 0) rfl (fun hc9 => ?_) (fun hc9 => ?_)
  · refine W.seq ?_
    refine W.region ?_
    refine WL.cons rfl (OP.assign (Value.int .i64 0) rfl (by decide) ?_)
    refine WL.nil (Qn.then ?_)
    refine W.ret (Qr.then (RetQ.of [(Value.int .i64 0)] (.inr rfl) Try.results64 (.cons (.tmp (by decide) rfl) .nil) ?_))
    have hs11 : sat W0 [F] w5 := sat_sub' [1] [0] hs8 (by kernel_rfl) (by kernel_rfl)
    exact ⟨(congrArg (Value.int .i64) (by unfold rawN; rw [if_neg (checkE_ne0 (by assumption))])), hs11⟩
  · refine W.skip (Qn.then ?_)
    refine W.seq ?_
    have hok_ := checkE_eq0 (Decidable.not_not.mp (by assumption))
    have hc1_ := hok_.chunks
    have hc2_ := hok_.chunk
    have hm_ := mul_bound (a := g.chunks) (b := g.chunk + 2) (A := 16) (B := 514) (by omega) (by omega) (by omega) (by omega)
    refine W.region ?_
    refine WL.cons rfl (OP.fieldAddr 3 fo_34_3 rfl rfl (by decide) ?_)
    refine WL.cons rfl (OP.loadS (Value.int .i64 g.chunks) sc_3 rfl (sat_cell 0 hs8 rfl rfl) (by decide) ?_)
    refine WL.cons rfl (OP.fieldAddr 4 fo_34_4 rfl rfl (by decide) ?_)
    refine WL.cons rfl (OP.loadS (Value.int .i64 g.chunk) sc_3 rfl (sat_cell 0 hs8 rfl rfl) (by decide) ?_)
    refine WL.cons rfl (OP.add (g.chunk + 2) rfl rfl (by first | rfl | omega | simp) (by unfold inI64; omega) (by decide) ?_)
    refine WL.cons rfl (OP.mul (g.chunks * (g.chunk + 2)) rfl rfl (by first | rfl | omega | simp) (by unfold inI64; omega) (by decide) ?_)
    refine WL.cons rfl (OP.add ((g.chunks * (g.chunk + 2)) + 28) rfl rfl (by first | rfl | omega | simp) (by unfold inI64; omega) (by decide) ?_)
    refine WL.cons rfl (OP.add (((g.chunks * (g.chunk + 2)) + 28) + 2) rfl rfl (by first | rfl | omega | simp) (by unfold inI64; omega) (by decide) ?_)
    refine WL.cons rfl (OP.add ((((g.chunks * (g.chunk + 2)) + 28) + 2) + 1) rfl rfl (by first | rfl | omega | simp) (by unfold inI64; omega) (by decide) ?_)
    refine WL.cons rfl (OP.assign (Value.int .i64 ((((g.chunks * (g.chunk + 2)) + 28) + 2) + 1)) rfl (by decide) ?_)
    refine WL.nil (Qn.then ?_)
    refine W.ret (RetQ.of [(Value.int .i64 ((((g.chunks * (g.chunk + 2)) + 28) + 2) + 1))] (.inr rfl) Try.results64 (.cons (.tmp (by decide) rfl) .nil) ?_)
    have hs13 : sat W0 [F] w5 := sat_sub' [1] [0] hs8 (by kernel_rfl) (by kernel_rfl)
    exact ⟨(congrArg (Value.int .i64) (by unfold rawN; rw [if_pos hok_])), hs13⟩

theorem choice_rising {W0 : World} {F : HProp} {w : World}  (a : Option Addr) (c : Nat) (xs : List Int) (high : Int) (hn : xs.length ≤ 9223372036854775807) (hr : Ent W0 F (fun w => Rd w 1 a xs.length (xs.map (Value.int .i64))))
    (hs : sat W0 [F] w) :
    Calls Try.prog 65 ([(Value.slice a xs.length c), (Value.int .i64 high)] : List Value).toArray w (fun x_ w' => ∃ v_, x_ = .returned v_ ∧ (v_ = (Value.bool (risingB (-1) high xs)) ∧ sat W0 [F] w')) := by
  refine W.enter Try.func65 rfl Try.ntmps65 (by simp) ?_
  refine W.seq ?_
  refine W.region ?_
  refine WL.cons rfl (OP.assign (Value.bool false) rfl (by decide) ?_)
  refine WL.nil (Qn.then ?_)
  refine W.seq ?_
  refine W.region ?_
  refine WL.cons rfl (OP.assign (Value.int .i64 (-1)) rfl (by decide) ?_)
  refine WL.nil (Qn.then ?_)
  refine W.seq ?_
  refine W.seq ?_
  refine W.region ?_
  refine WL.cons rfl (OP.move (Value.slice a xs.length c) rfl (by decide) ?_)
  refine WL.cons rfl (OP.len Try.underlying22 rfl rfl (by decide) ?_)
  refine WL.cons rfl (OP.move (Value.int .i64 0) rfl (by decide) ?_)
  refine WL.nil (Qn.then ?_)
  refine W.block ?_
  refine W.loop (fun n_ e_ w_ => ∃ k : Nat, n_ = xs.length - k ∧ e_ 1 = (Value.int .i64 high) ∧ e_ 5 = (Value.int .i64 (lastOf (-1) (xs.take k))) ∧ e_ 8 = (Value.slice a xs.length c) ∧ e_ 9 = (Value.int .i64 ((xs.length : Nat) : Int)) ∧ e_ 10 = (Value.int .i64 ((k : Nat) : Int)) ∧ k ≤ xs.length ∧ risingB (-1) high (xs.take k) = true ∧ sat W0 [F] w_) (xs.length - 0) ⟨0, rfl, rfl, (Eq.trans (b := (Value.int .i64 (-1))) rfl (congrArg (Value.int .i64) (by first | rfl | omega | simp | (simp; omega)))), rfl, rfl, (Eq.trans (b := (Value.int .i64 0)) rfl (congrArg (Value.int .i64) (by first | rfl | omega | simp | (simp; omega)))), (by omega), rfl, hs⟩ ?_
  rintro n1 e2 w3 ⟨k, hn5, he6, he7, he8, he9, he10, hp11, hp12, hs4⟩
  refine W.seq ?_
  refine W.region ?_
  refine WL.cons rfl (OP.lss he10 he9 (by decide) ?_)
  refine WL.nil (Qn.then ?_)
  refine W.seq ?_
  refine W.iteP (p := ((k : Nat) : Int) < ((xs.length : Nat) : Int)) rfl (fun hc13 => ?_) (fun hc13 => ?_)
  · refine W.skip (Qn.then ?_)
    refine W.seq ?_
    refine W.block ?_
    refine W.seq ?_
    refine W.region ?_
    have hi12_ : k < xs.length := by omega
    refine WL.cons rfl (OP.indexR k (Ent_sat 0 rfl hr hs4) Try.underlying22 sz_3 he8 he10 rfl hi12_ (by decide) ?_)
    refine WL.cons rfl (OP.loadSR (Value.int .i64 (xs.getD k 0)) (Ent_sat 0 rfl hr hs4) (ints_get hi12_) sc_3 rfl (by decide) ?_)
    refine WL.cons rfl (OP.assign (Value.int .i64 (xs.getD k 0)) rfl (by decide) ?_)
    refine WL.nil (Qn.then ?_)
    refine W.seq ?_
    refine W.seq ?_
    refine W.region ?_
    refine WL.cons rfl (OP.move (Value.int .i64 (xs.getD k 0)) rfl (by decide) ?_)
    refine WL.cons rfl (OP.move (Value.int .i64 (lastOf (-1) (xs.take k))) he7 (by decide) ?_)
    refine WL.cons rfl (OP.leq rfl rfl (by decide) ?_)
    refine WL.cons rfl (OP.move (Value.bool (decide (xs.getD k 0 ≤ lastOf (-1) (xs.take k)))) rfl (by decide) ?_)
    by_cases hc14 : xs.getD k 0 ≤ lastOf (-1) (xs.take k)
    · refine WL.pass rfl rfl (Eq.trans (b := .bool (decide (xs.getD k 0 ≤ lastOf (-1) (xs.take k)))) rfl (congrArg Value.bool (decide_eq_true hc14))) rfl rfl (by decide) ?_
      refine WL.pass rfl rfl (Eq.trans (b := .bool (decide (xs.getD k 0 ≤ lastOf (-1) (xs.take k)))) rfl (congrArg Value.bool (decide_eq_true hc14))) rfl rfl (by decide) ?_
      refine WL.pass rfl rfl (Eq.trans (b := .bool (decide (xs.getD k 0 ≤ lastOf (-1) (xs.take k)))) rfl (congrArg Value.bool (decide_eq_true hc14))) rfl rfl (by decide) ?_
      refine WL.cons rfl (OP.pickT (Value.bool true) (Eq.trans (b := .bool (decide (xs.getD k 0 ≤ lastOf (-1) (xs.take k)))) rfl (congrArg Value.bool (decide_eq_true hc14))) rfl (by decide) ?_)
      refine WL.nil (Qn.then ?_)
      refine W.iteT rfl ?_
      refine W.seq ?_
      refine W.region ?_
      refine WL.cons rfl (OP.assign (Value.bool false) rfl (by decide) ?_)
      refine WL.nil (Qn.then ?_)
      refine W.ret (Qr.then (Qr.blk (Qr.then (Qr.then (Qr.blk (Qr.then (RetQ.of [(Value.bool false)] (.inr rfl) Try.results65 (.cons (.tmp (by decide) rfl) .nil) ?_)))))))
      exact ⟨(congrArg Value.bool (rising_stop (k := k) (by omega) (.inl (by assumption))).symm), hs4⟩
    · refine WL.consG rfl rfl (Eq.trans (b := .bool (decide (xs.getD k 0 ≤ lastOf (-1) (xs.take k)))) rfl (congrArg Value.bool (decide_eq_false hc14))) (OP.move (Value.int .i64 (xs.getD k 0)) rfl (by decide) ?_)
      refine WL.consG rfl rfl (Eq.trans (b := .bool (decide (xs.getD k 0 ≤ lastOf (-1) (xs.take k)))) rfl (congrArg Value.bool (decide_eq_false hc14))) (OP.move (Value.int .i64 high) he6 (by decide) ?_)
      refine WL.consG rfl rfl (Eq.trans (b := .bool (decide (xs.getD k 0 ≤ lastOf (-1) (xs.take k)))) rfl (congrArg Value.bool (decide_eq_false hc14))) (OP.gtr rfl rfl (by decide) ?_)
      refine WL.cons rfl (OP.pickF (Value.bool (decide (xs.getD k 0 > high))) (Eq.trans (b := .bool (decide (xs.getD k 0 ≤ lastOf (-1) (xs.take k)))) rfl (congrArg Value.bool (decide_eq_false hc14))) rfl (by decide) ?_)
      refine WL.nil (Qn.then ?_)
      refine W.iteP (p := xs.getD k 0 > high) rfl (fun hc16 => ?_) (fun hc16 => ?_)
      · refine W.seq ?_
        refine W.region ?_
        refine WL.cons rfl (OP.assign (Value.bool false) rfl (by decide) ?_)
        refine WL.nil (Qn.then ?_)
        refine W.ret (Qr.then (Qr.blk (Qr.then (Qr.then (Qr.blk (Qr.then (RetQ.of [(Value.bool false)] (.inr rfl) Try.results65 (.cons (.tmp (by decide) rfl) .nil) ?_)))))))
        exact ⟨(congrArg Value.bool (rising_stop (k := k) (by omega) (.inr (by assumption))).symm), hs4⟩
      · refine W.skip (Qn.then ?_)
        refine W.region ?_
        refine WL.cons rfl (OP.move (Value.int .i64 (xs.getD k 0)) rfl (by decide) ?_)
        refine WL.cons rfl (OP.assign (Value.int .i64 (xs.getD k 0)) rfl (by decide) ?_)
        refine WL.nil (Qn.blk (Qn.then ?_))
        refine W.region ?_
        refine WL.cons rfl (OP.add ((k + 1 : Nat) : Int) he10 rfl (by first | rfl | omega | simp) (by unfold inI64; omega) (by decide) ?_)
        refine WL.cons rfl (OP.move (Value.int .i64 ((k + 1 : Nat) : Int)) rfl (by decide) ?_)
        refine WL.nil (Qn.then ?_)
        exact ⟨_, (by omega), (k + 1), rfl, he6, (Eq.trans (b := (Value.int .i64 (xs.getD k 0))) rfl (congrArg (Value.int .i64) (rising_next (by omega) (by assumption) (by assumption) (by assumption)).2.symm)), he8, he9, (Eq.trans (b := (Value.int .i64 ((k + 1 : Nat) : Int))) rfl (congrArg (Value.int .i64) (by first | rfl | omega | simp | (simp; omega)))), (by omega), (rising_next (by omega) (by assumption) (by assumption) (by assumption)).1, hs4⟩
  · refine W.exit (Qx.then (Qx.then (Qx.hit (Qn.then ?_))))
    refine W.seq ?_
    refine W.region ?_
    refine WL.cons rfl (OP.assign (Value.bool true) rfl (by decide) ?_)
    refine WL.nil (Qn.then ?_)
    refine W.ret (RetQ.of [(Value.bool true)] (.inr rfl) Try.results65 (.cons (.tmp (by decide) rfl) .nil) ?_)
    exact ⟨(congrArg Value.bool (rising_end (k := k) (by omega) (by omega) (by assumption)).symm), hs4⟩

theorem slices_Index {W0 : World} {F : HProp} {w : World}  (a : Option Addr) (c : Nat) (xs : List Int) (v : Int) (hn : xs.length ≤ 9223372036854775807) (hr : Ent W0 F (fun w => Rd w 1 a xs.length (xs.map (Value.int .i64))))
    (hs : sat W0 [F] w) :
    Calls Try.prog 69 ([(Value.slice a xs.length c), (Value.int .i64 v)] : List Value).toArray w (fun x_ w' => ∃ v_, x_ = .returned v_ ∧ (v_ = (Value.int .i64 (idxI xs v)) ∧ sat W0 [F] w')) := by
  refine W.enter Try.func69 rfl Try.ntmps69 (by simp) ?_
  refine W.seq ?_
  refine W.region ?_
  refine WL.cons rfl (OP.assign (Value.int .i64 0) rfl (by decide) ?_)
  refine WL.nil (Qn.then ?_)
  refine W.seq ?_
  refine W.seq ?_
  refine W.region ?_
  refine WL.cons rfl (OP.move (Value.slice a xs.length c) rfl (by decide) ?_)
  refine WL.cons rfl (OP.len Try.underlying22 rfl rfl (by decide) ?_)
  refine WL.cons rfl (OP.move (Value.int .i64 0) rfl (by decide) ?_)
  refine WL.nil (Qn.then ?_)
  refine W.block ?_
  refine W.loop (fun n_ e_ w_ => ∃ k : Nat, n_ = xs.length - k ∧ e_ 0 = (Value.slice a xs.length c) ∧ e_ 1 = (Value.int .i64 v) ∧ e_ 7 = (Value.int .i64 ((xs.length : Nat) : Int)) ∧ e_ 8 = (Value.int .i64 ((k : Nat) : Int)) ∧ k ≤ xs.length ∧ v ∉ xs.take k ∧ sat W0 [F] w_) (xs.length - 0) ⟨0, rfl, rfl, rfl, rfl, (Eq.trans (b := (Value.int .i64 0)) rfl (congrArg (Value.int .i64) (by first | rfl | omega | simp | (simp; omega)))), (by omega), (by simp), hs⟩ ?_
  rintro n1 e2 w3 ⟨k, hn5, he6, he7, he8, he9, hp10, hp11, hs4⟩
  refine W.seq ?_
  refine W.region ?_
  refine WL.cons rfl (OP.lss he9 he8 (by decide) ?_)
  refine WL.nil (Qn.then ?_)
  refine W.seq ?_
  refine W.iteP (p := ((k : Nat) : Int) < ((xs.length : Nat) : Int)) rfl (fun hc12 => ?_) (fun hc12 => ?_)
  · refine W.skip (Qn.then ?_)
    refine W.seq ?_
    refine W.block ?_
    refine W.seq ?_
    refine W.region ?_
    refine WL.cons rfl (OP.move (Value.int .i64 ((k : Nat) : Int)) he9 (by decide) ?_)
    refine WL.cons rfl (OP.assign (Value.int .i64 ((k : Nat) : Int)) rfl (by decide) ?_)
    refine WL.nil (Qn.then ?_)
    refine W.seq ?_
    refine W.region ?_
    refine WL.cons rfl (OP.move (Value.int .i64 v) he7 (by decide) ?_)
    refine WL.cons rfl (OP.move (Value.slice a xs.length c) he6 (by decide) ?_)
    refine WL.cons rfl (OP.move (Value.int .i64 ((k : Nat) : Int)) rfl (by decide) ?_)
    have hi14_ : k < xs.length := by omega
    refine WL.cons rfl (OP.indexR k (Ent_sat 0 rfl hr hs4) Try.underlying22 sz_3 rfl rfl rfl hi14_ (by decide) ?_)
    refine WL.cons rfl (OP.loadSR (Value.int .i64 (xs.getD k 0)) (Ent_sat 0 rfl hr hs4) (ints_get hi14_) sc_3 rfl (by decide) ?_)
    refine WL.cons rfl (OP.eqI rfl rfl (by decide) ?_)
    refine WL.nil (Qn.then ?_)
    refine W.iteP (p := v = xs.getD k 0) rfl (fun hc13 => ?_) (fun hc13 => ?_)
    · refine W.seq ?_
      refine W.region ?_
      refine WL.cons rfl (OP.move (Value.int .i64 ((k : Nat) : Int)) rfl (by decide) ?_)
      refine WL.cons rfl (OP.assign (Value.int .i64 ((k : Nat) : Int)) rfl (by decide) ?_)
      refine WL.nil (Qn.then ?_)
      refine W.ret (Qr.blk (Qr.then (Qr.then (Qr.blk (Qr.then (RetQ.of [(Value.int .i64 ((k : Nat) : Int))] (.inr rfl) Try.results69 (.cons (.tmp (by decide) rfl) .nil) ?_))))))
      exact ⟨(congrArg (Value.int .i64) (idx_hit (k := k) (by omega) (by assumption) (by assumption))), hs4⟩
    · refine W.skip (Qn.blk (Qn.then ?_))
      refine W.region ?_
      refine WL.cons rfl (OP.add ((k + 1 : Nat) : Int) he9 rfl (by first | rfl | omega | simp) (by unfold inI64; omega) (by decide) ?_)
      refine WL.cons rfl (OP.move (Value.int .i64 ((k + 1 : Nat) : Int)) rfl (by decide) ?_)
      refine WL.nil (Qn.then ?_)
      exact ⟨_, (by omega), (k + 1), rfl, he6, he7, he8, (Eq.trans (b := (Value.int .i64 ((k + 1 : Nat) : Int))) rfl (congrArg (Value.int .i64) (by first | rfl | omega | simp | (simp; omega)))), (by omega), (idx_next (by omega) (by assumption) (by assumption)), hs4⟩
  · refine W.exit (Qx.then (Qx.then (Qx.hit (Qn.then ?_))))
    refine W.seq ?_
    refine W.region ?_
    refine WL.cons rfl (OP.assign (Value.int .i64 (-1)) rfl (by decide) ?_)
    refine WL.nil (Qn.then ?_)
    refine W.ret (RetQ.of [(Value.int .i64 (-1))] (.inr rfl) Try.results69 (.cons (.tmp (by decide) rfl) .nil) ?_)
    exact ⟨(congrArg (Value.int .i64) (idx_none (k := k) (by omega) (by omega) (by assumption))), hs4⟩

theorem slices_Contains {W0 : World} {F : HProp} {w : World}  (a : Option Addr) (c : Nat) (xs : List Int) (v : Int) (hn : xs.length ≤ 9223372036854775807) (hr : Ent W0 F (fun w => Rd w 1 a xs.length (xs.map (Value.int .i64))))
    (hs : sat W0 [F] w) :
    Calls Try.prog 57 ([(Value.slice a xs.length c), (Value.int .i64 v)] : List Value).toArray w (fun x_ w' => ∃ v_, x_ = .returned v_ ∧ (v_ = (Value.bool (decide (v ∈ xs))) ∧ sat W0 [F] w')) := by
  refine W.enter Try.func57 rfl Try.ntmps57 (by simp) ?_
  refine W.seq ?_
  refine W.region ?_
  refine WL.cons rfl (OP.assign (Value.bool false) rfl (by decide) ?_)
  refine WL.nil (Qn.then ?_)
  refine W.seq ?_
  refine W.region ?_
  refine WL.cons rfl (OP.move (Value.slice a xs.length c) rfl (by decide) ?_)
  refine WL.cons rfl (OP.move (Value.int .i64 v) rfl (by decide) ?_)
  have hs1 : sat W0 [stars [F]] w := sat_pack' [] [F] hs (by kernel_rfl) (by kernel_rfl)
  have hcl4 := slices_Index a c xs v (by first | assumption | omega) (Ent_stars 0 rfl hr) hs1
  refine WL.cons rfl (?_)
  with_reducible refine OP.call [(Value.slice a xs.length c), (Value.int .i64 v)] gf_69 ?_ ?_ hcl4 ?_
  · exact rfl
  · decide
  clear hcl4
  rintro _ w2 ⟨_, rfl, rfl, hs3⟩
  refine ⟨_, rfl, ?_⟩
  have hs5 : sat W0 [F] w2 := sat_flat' [] [F] hs3 (by kernel_rfl) (by kernel_rfl)
  refine WL.cons rfl (OP.geq rfl rfl (by decide) ?_)
  refine WL.cons rfl (OP.assign (Value.bool (decide (idxI xs v ≥ 0))) rfl (by decide) ?_)
  refine WL.nil (Qn.then ?_)
  refine W.ret (RetQ.of [(Value.bool (decide (idxI xs v ≥ 0)))] (.inr rfl) Try.results57 (.cons (.tmp (by decide) rfl) .nil) ?_)
  exact ⟨(congrArg Value.bool idxI_ge), hs5⟩

theorem slices_IndexFunc_int {W0 : World} {F : HProp} {w : World}  (a : Option Addr) (c : Nat) (xs : List Int) (f : Nat) (cap : List Value) (p : Int → Bool) (hn : xs.length ≤ 9223372036854775807) (hgf : goFunc Try.prog f = true) (hcall : ∀ (w : World) (x : Int), x ∈ xs → sat W0 [F] w → Calls Try.prog f ([(Value.int .i64 x)] ++ cap).toArray w (fun x_ w' => ∃ v_, x_ = .returned v_ ∧ (v_ = (.bool (p x)) ∧ sat W0 [F] w'))) (hr : Ent W0 F (fun w => Rd w 1 a xs.length (xs.map (Value.int .i64))))
    (hs : sat W0 [F] w) :
    Calls Try.prog 70 ([(Value.slice a xs.length c), (Value.func (Fn.func f) #[] cap.toArray)] : List Value).toArray w (fun x_ w' => ∃ v_, x_ = .returned v_ ∧ (v_ = (Value.int .i64 (findI p xs)) ∧ sat W0 [F] w')) := by
  refine W.enter Try.func70 rfl Try.ntmps70 (by simp) ?_
  refine W.seq ?_
  refine W.region ?_
  refine WL.cons rfl (OP.assign (Value.int .i64 0) rfl (by decide) ?_)
  refine WL.nil (Qn.then ?_)
  refine W.seq ?_
  refine W.seq ?_
  refine W.region ?_
  refine WL.cons rfl (OP.move (Value.slice a xs.length c) rfl (by decide) ?_)
  refine WL.cons rfl (OP.len Try.underlying22 rfl rfl (by decide) ?_)
  refine WL.cons rfl (OP.move (Value.int .i64 0) rfl (by decide) ?_)
  refine WL.nil (Qn.then ?_)
  refine W.block ?_
  refine W.loop (fun n_ e_ w_ => ∃ k : Nat, n_ = xs.length - k ∧ e_ 0 = (Value.slice a xs.length c) ∧ e_ 1 = (Value.func (Fn.func f) #[] cap.toArray) ∧ e_ 7 = (Value.int .i64 ((xs.length : Nat) : Int)) ∧ e_ 8 = (Value.int .i64 ((k : Nat) : Int)) ∧ k ≤ xs.length ∧ (xs.take k).any p = false ∧ sat W0 [F] w_) (xs.length - 0) ⟨0, rfl, rfl, rfl, rfl, (Eq.trans (b := (Value.int .i64 0)) rfl (congrArg (Value.int .i64) (by first | rfl | omega | simp | (simp; omega)))), (by omega), (by simp), hs⟩ ?_
  rintro n1 e2 w3 ⟨k, hn5, he6, he7, he8, he9, hp10, hp11, hs4⟩
  refine W.seq ?_
  refine W.region ?_
  refine WL.cons rfl (OP.lss he9 he8 (by decide) ?_)
  refine WL.nil (Qn.then ?_)
  refine W.seq ?_
  refine W.iteP (p := ((k : Nat) : Int) < ((xs.length : Nat) : Int)) rfl (fun hc12 => ?_) (fun hc12 => ?_)
  · refine W.skip (Qn.then ?_)
    refine W.seq ?_
    refine W.block ?_
    refine W.seq ?_
    refine W.region ?_
    refine WL.cons rfl (OP.move (Value.int .i64 ((k : Nat) : Int)) he9 (by decide) ?_)
    refine WL.cons rfl (OP.assign (Value.int .i64 ((k : Nat) : Int)) rfl (by decide) ?_)
    refine WL.nil (Qn.then ?_)
    refine W.seq ?_
    refine W.region ?_
    refine WL.cons rfl (OP.move (Value.func (Fn.func f) #[] cap.toArray) he7 (by decide) ?_)
    refine WL.cons rfl (OP.move (Value.slice a xs.length c) he6 (by decide) ?_)
    refine WL.cons rfl (OP.move (Value.int .i64 ((k : Nat) : Int)) rfl (by decide) ?_)
    have hi14_ : k < xs.length := by omega
    refine WL.cons rfl (OP.indexR k (Ent_sat 0 rfl hr hs4) Try.underlying22 sz_3 rfl rfl rfl hi14_ (by decide) ?_)
    refine WL.cons rfl (OP.loadSR (Value.int .i64 (xs.getD k 0)) (Ent_sat 0 rfl hr hs4) (ints_get hi14_) sc_3 rfl (by decide) ?_)
    have hcal_ := hcall w3 (xs.getD k 0) (getD_mem (by assumption)) hs4
    refine WL.cons rfl (?_)
    with_reducible refine OP.callV (cap := cap) [(Value.int .i64 (xs.getD k 0))] ?_ hgf ?_ ?_ hcal_ ?_
    · exact rfl
    · exact rfl
    · decide
    rintro _ w13 ⟨_, rfl, rfl, hs14⟩
    refine ⟨_, rfl, ?_⟩
    refine WL.nil (Qn.then ?_)
    refine W.ite (b := p (xs.getD k 0)) rfl (fun hc15 => ?_) (fun hc15 => ?_)
    · refine W.seq ?_
      refine W.region ?_
      refine WL.cons rfl (OP.move (Value.int .i64 ((k : Nat) : Int)) rfl (by decide) ?_)
      refine WL.cons rfl (OP.assign (Value.int .i64 ((k : Nat) : Int)) rfl (by decide) ?_)
      refine WL.nil (Qn.then ?_)
      refine W.ret (Qr.blk (Qr.then (Qr.then (Qr.blk (Qr.then (RetQ.of [(Value.int .i64 ((k : Nat) : Int))] (.inr rfl) Try.results70 (.cons (.tmp (by decide) rfl) .nil) ?_))))))
      exact ⟨(congrArg (Value.int .i64) (findI_hit (k := k) (d := 0) (by omega) (by assumption) (by assumption))), hs14⟩
    · refine W.skip (Qn.blk (Qn.then ?_))
      refine W.region ?_
      refine WL.cons rfl (OP.add ((k + 1 : Nat) : Int) he9 rfl (by first | rfl | omega | simp) (by unfold inI64; omega) (by decide) ?_)
      refine WL.cons rfl (OP.move (Value.int .i64 ((k + 1 : Nat) : Int)) rfl (by decide) ?_)
      refine WL.nil (Qn.then ?_)
      exact ⟨_, (by omega), (k + 1), rfl, he6, he7, he8, (Eq.trans (b := (Value.int .i64 ((k + 1 : Nat) : Int))) rfl (congrArg (Value.int .i64) (by first | rfl | omega | simp | (simp; omega)))), (by omega), (findI_next (d := 0) (by omega) (by assumption) (by assumption)), hs14⟩
  · refine W.exit (Qx.then (Qx.then (Qx.hit (Qn.then ?_))))
    refine W.seq ?_
    refine W.region ?_
    refine WL.cons rfl (OP.assign (Value.int .i64 (-1)) rfl (by decide) ?_)
    refine WL.nil (Qn.then ?_)
    refine W.ret (RetQ.of [(Value.int .i64 (-1))] (.inr rfl) Try.results70 (.cons (.tmp (by decide) rfl) .nil) ?_)
    exact ⟨(congrArg (Value.int .i64) (findI_none (k := k) (by omega) (by omega) (by assumption))), hs4⟩

theorem slices_ContainsFunc_int {W0 : World} {F : HProp} {w : World}  (a : Option Addr) (c : Nat) (xs : List Int) (f : Nat) (cap : List Value) (p : Int → Bool) (hn : xs.length ≤ 9223372036854775807) (hgf : goFunc Try.prog f = true) (hcall : ∀ (w : World) (x : Int), x ∈ xs → sat W0 [F] w → Calls Try.prog f ([(Value.int .i64 x)] ++ cap).toArray w (fun x_ w' => ∃ v_, x_ = .returned v_ ∧ (v_ = (.bool (p x)) ∧ sat W0 [F] w'))) (hr : Ent W0 F (fun w => Rd w 1 a xs.length (xs.map (Value.int .i64))))
    (hs : sat W0 [F] w) :
    Calls Try.prog 60 ([(Value.slice a xs.length c), (Value.func (Fn.func f) #[] cap.toArray)] : List Value).toArray w (fun x_ w' => ∃ v_, x_ = .returned v_ ∧ (v_ = (Value.bool (xs.any p)) ∧ sat W0 [F] w')) := by
  refine W.enter Try.func60 rfl Try.ntmps60 (by simp) ?_
  refine W.seq ?_
  refine W.region ?_
  refine WL.cons rfl (OP.assign (Value.bool false) rfl (by decide) ?_)
  refine WL.nil (Qn.then ?_)
  refine W.seq ?_
  refine W.region ?_
  refine WL.cons rfl (OP.move (Value.slice a xs.length c) rfl (by decide) ?_)
  refine WL.cons rfl (OP.move (Value.func (Fn.func f) #[] cap.toArray) rfl (by decide) ?_)
  have hs1 : sat W0 [stars [F]] w := sat_pack' [] [F] hs (by kernel_rfl) (by kernel_rfl)
  have hcl4 := slices_IndexFunc_int a c xs f cap p (by first | assumption | omega) (by first | assumption | omega) (fun w x hx h => (hcall w x hx (by simpa using sat_flat (L := []) h)).mono fun x_ w' ⟨v_, h1, h2, h3⟩ => ⟨v_, h1, h2, sat_pack (L := []) (by simpa using h3)⟩) (Ent_stars 0 rfl hr) hs1
  refine WL.cons rfl (?_)
  with_reducible refine OP.call [(Value.slice a xs.length c), (Value.func (Fn.func f) #[] cap.toArray)] gf_70 ?_ ?_ hcl4 ?_
  · exact rfl
  · decide
  clear hcl4
  rintro _ w2 ⟨_, rfl, rfl, hs3⟩
  refine ⟨_, rfl, ?_⟩
  have hs5 : sat W0 [F] w2 := sat_flat' [] [F] hs3 (by kernel_rfl) (by kernel_rfl)
  refine WL.cons rfl (OP.geq rfl rfl (by decide) ?_)
  refine WL.cons rfl (OP.assign (Value.bool (decide (findI p xs ≥ 0))) rfl (by decide) ?_)
  refine WL.nil (Qn.then ?_)
  refine W.ret (RetQ.of [(Value.bool (decide (findI p xs ≥ 0)))] (.inr rfl) Try.results60 (.cons (.tmp (by decide) rfl) .nil) ?_)
  exact ⟨(congrArg Value.bool findI_ge), hs5⟩

theorem slices_IndexFunc_turn {W0 : World} {F : HProp} {w : World}  (a : Option Addr) (c : Nat) (xs : List Turn) (f : Nat) (cap : List Value) (p : Turn → Bool) (hn : xs.length ≤ 9223372036854775807) (hgf : goFunc Try.prog f = true) (hcall : ∀ (w : World) (x : Turn), x ∈ xs → sat W0 [F] w → Calls Try.prog f ([(Value.agg [(Value.int .i64 x.row), (Value.int .i64 x.rung), (Value.int .i64 x.bit)].toArray)] ++ cap).toArray w (fun x_ w' => ∃ v_, x_ = .returned v_ ∧ (v_ = (.bool (p x)) ∧ sat W0 [F] w'))) (hr : Ent W0 F (fun w => Rd w 3 a xs.length (xs.flatMap encTurn)))
    (hs : sat W0 [F] w) :
    Calls Try.prog 71 ([(Value.slice a xs.length c), (Value.func (Fn.func f) #[] cap.toArray)] : List Value).toArray w (fun x_ w' => ∃ v_, x_ = .returned v_ ∧ (v_ = (Value.int .i64 (findI p xs)) ∧ sat W0 [F] w')) := by
  refine W.enter Try.func71 rfl Try.ntmps71 (by simp) ?_
  refine W.seq ?_
  refine W.region ?_
  refine WL.cons rfl (OP.assign (Value.int .i64 0) rfl (by decide) ?_)
  refine WL.nil (Qn.then ?_)
  refine W.seq ?_
  refine W.seq ?_
  refine W.region ?_
  refine WL.cons rfl (OP.move (Value.slice a xs.length c) rfl (by decide) ?_)
  refine WL.cons rfl (OP.len Try.underlying23 rfl rfl (by decide) ?_)
  refine WL.cons rfl (OP.move (Value.int .i64 0) rfl (by decide) ?_)
  refine WL.nil (Qn.then ?_)
  refine W.block ?_
  refine W.loop (fun n_ e_ w_ => ∃ k : Nat, n_ = xs.length - k ∧ e_ 0 = (Value.slice a xs.length c) ∧ e_ 1 = (Value.func (Fn.func f) #[] cap.toArray) ∧ e_ 7 = (Value.int .i64 ((xs.length : Nat) : Int)) ∧ e_ 8 = (Value.int .i64 ((k : Nat) : Int)) ∧ k ≤ xs.length ∧ (xs.take k).any p = false ∧ sat W0 [F] w_) (xs.length - 0) ⟨0, rfl, rfl, rfl, rfl, (Eq.trans (b := (Value.int .i64 0)) rfl (congrArg (Value.int .i64) (by first | rfl | omega | simp | (simp; omega)))), (by omega), (by simp), hs⟩ ?_
  rintro n1 e2 w3 ⟨k, hn5, he6, he7, he8, he9, hp10, hp11, hs4⟩
  refine W.seq ?_
  refine W.region ?_
  refine WL.cons rfl (OP.lss he9 he8 (by decide) ?_)
  refine WL.nil (Qn.then ?_)
  refine W.seq ?_
  refine W.iteP (p := ((k : Nat) : Int) < ((xs.length : Nat) : Int)) rfl (fun hc12 => ?_) (fun hc12 => ?_)
  · refine W.skip (Qn.then ?_)
    refine W.seq ?_
    refine W.block ?_
    refine W.seq ?_
    refine W.region ?_
    refine WL.cons rfl (OP.move (Value.int .i64 ((k : Nat) : Int)) he9 (by decide) ?_)
    refine WL.cons rfl (OP.assign (Value.int .i64 ((k : Nat) : Int)) rfl (by decide) ?_)
    refine WL.nil (Qn.then ?_)
    refine W.seq ?_
    refine W.region ?_
    refine WL.cons rfl (OP.move (Value.func (Fn.func f) #[] cap.toArray) he7 (by decide) ?_)
    refine WL.cons rfl (OP.move (Value.slice a xs.length c) he6 (by decide) ?_)
    refine WL.cons rfl (OP.move (Value.int .i64 ((k : Nat) : Int)) rfl (by decide) ?_)
    have hi14_ : k < xs.length := by omega
    refine WL.cons rfl (OP.indexR k (Ent_sat 0 rfl hr hs4) Try.underlying23 sz_38 rfl rfl rfl hi14_ (by decide) ?_)
    refine WL.cons rfl (OP.loadAR (encTurn (xs.getD k default)) (Ent_sat 0 rfl hr hs4) (recs_take (enc := encTurn) (fun _ => rfl) hi14_) ag_38 sz_38 rfl (by decide) ?_)
    have hcal_ := hcall w3 (xs.getD k default) (getD_mem (by assumption)) hs4
    refine WL.cons rfl (?_)
    with_reducible refine OP.callV (cap := cap) [(Value.agg [(Value.int .i64 ((xs.getD k default).row)), (Value.int .i64 ((xs.getD k default).rung)), (Value.int .i64 ((xs.getD k default).bit))].toArray)] ?_ hgf ?_ ?_ hcal_ ?_
    · exact rfl
    · exact rfl
    · decide
    rintro _ w13 ⟨_, rfl, rfl, hs14⟩
    refine ⟨_, rfl, ?_⟩
    refine WL.nil (Qn.then ?_)
    refine W.ite (b := p (xs.getD k default)) rfl (fun hc15 => ?_) (fun hc15 => ?_)
    · refine W.seq ?_
      refine W.region ?_
      refine WL.cons rfl (OP.move (Value.int .i64 ((k : Nat) : Int)) rfl (by decide) ?_)
      refine WL.cons rfl (OP.assign (Value.int .i64 ((k : Nat) : Int)) rfl (by decide) ?_)
      refine WL.nil (Qn.then ?_)
      refine W.ret (Qr.blk (Qr.then (Qr.then (Qr.blk (Qr.then (RetQ.of [(Value.int .i64 ((k : Nat) : Int))] (.inr rfl) Try.results71 (.cons (.tmp (by decide) rfl) .nil) ?_))))))
      exact ⟨(congrArg (Value.int .i64) (findI_hit (k := k) (d := default) (by omega) (by assumption) (by assumption))), hs14⟩
    · refine W.skip (Qn.blk (Qn.then ?_))
      refine W.region ?_
      refine WL.cons rfl (OP.add ((k + 1 : Nat) : Int) he9 rfl (by first | rfl | omega | simp) (by unfold inI64; omega) (by decide) ?_)
      refine WL.cons rfl (OP.move (Value.int .i64 ((k + 1 : Nat) : Int)) rfl (by decide) ?_)
      refine WL.nil (Qn.then ?_)
      exact ⟨_, (by omega), (k + 1), rfl, he6, he7, he8, (Eq.trans (b := (Value.int .i64 ((k + 1 : Nat) : Int))) rfl (congrArg (Value.int .i64) (by first | rfl | omega | simp | (simp; omega)))), (by omega), (findI_next (d := default) (by omega) (by assumption) (by assumption)), hs14⟩
  · refine W.exit (Qx.then (Qx.then (Qx.hit (Qn.then ?_))))
    refine W.seq ?_
    refine W.region ?_
    refine WL.cons rfl (OP.assign (Value.int .i64 (-1)) rfl (by decide) ?_)
    refine WL.nil (Qn.then ?_)
    refine W.ret (RetQ.of [(Value.int .i64 (-1))] (.inr rfl) Try.results71 (.cons (.tmp (by decide) rfl) .nil) ?_)
    exact ⟨(congrArg (Value.int .i64) (findI_none (k := k) (by omega) (by omega) (by assumption))), hs4⟩

theorem slices_ContainsFunc_turn {W0 : World} {F : HProp} {w : World}  (a : Option Addr) (c : Nat) (xs : List Turn) (f : Nat) (cap : List Value) (p : Turn → Bool) (hn : xs.length ≤ 9223372036854775807) (hgf : goFunc Try.prog f = true) (hcall : ∀ (w : World) (x : Turn), x ∈ xs → sat W0 [F] w → Calls Try.prog f ([(Value.agg [(Value.int .i64 x.row), (Value.int .i64 x.rung), (Value.int .i64 x.bit)].toArray)] ++ cap).toArray w (fun x_ w' => ∃ v_, x_ = .returned v_ ∧ (v_ = (.bool (p x)) ∧ sat W0 [F] w'))) (hr : Ent W0 F (fun w => Rd w 3 a xs.length (xs.flatMap encTurn)))
    (hs : sat W0 [F] w) :
    Calls Try.prog 62 ([(Value.slice a xs.length c), (Value.func (Fn.func f) #[] cap.toArray)] : List Value).toArray w (fun x_ w' => ∃ v_, x_ = .returned v_ ∧ (v_ = (Value.bool (xs.any p)) ∧ sat W0 [F] w')) := by
  refine W.enter Try.func62 rfl Try.ntmps62 (by simp) ?_
  refine W.seq ?_
  refine W.region ?_
  refine WL.cons rfl (OP.assign (Value.bool false) rfl (by decide) ?_)
  refine WL.nil (Qn.then ?_)
  refine W.seq ?_
  refine W.region ?_
  refine WL.cons rfl (OP.move (Value.slice a xs.length c) rfl (by decide) ?_)
  refine WL.cons rfl (OP.move (Value.func (Fn.func f) #[] cap.toArray) rfl (by decide) ?_)
  have hs1 : sat W0 [stars [F]] w := sat_pack' [] [F] hs (by kernel_rfl) (by kernel_rfl)
  have hcl4 := slices_IndexFunc_turn a c xs f cap p (by first | assumption | omega) (by first | assumption | omega) (fun w x hx h => (hcall w x hx (by simpa using sat_flat (L := []) h)).mono fun x_ w' ⟨v_, h1, h2, h3⟩ => ⟨v_, h1, h2, sat_pack (L := []) (by simpa using h3)⟩) (Ent_stars 0 rfl hr) hs1
  refine WL.cons rfl (?_)
  with_reducible refine OP.call [(Value.slice a xs.length c), (Value.func (Fn.func f) #[] cap.toArray)] gf_71 ?_ ?_ hcl4 ?_
  · exact rfl
  · decide
  clear hcl4
  rintro _ w2 ⟨_, rfl, rfl, hs3⟩
  refine ⟨_, rfl, ?_⟩
  have hs5 : sat W0 [F] w2 := sat_flat' [] [F] hs3 (by kernel_rfl) (by kernel_rfl)
  refine WL.cons rfl (OP.geq rfl rfl (by decide) ?_)
  refine WL.cons rfl (OP.assign (Value.bool (decide (findI p xs ≥ 0))) rfl (by decide) ?_)
  refine WL.nil (Qn.then ?_)
  refine W.ret (RetQ.of [(Value.bool (decide (findI p xs ≥ 0)))] (.inr rfl) Try.results62 (.cons (.tmp (by decide) rfl) .nil) ?_)
  exact ⟨(congrArg Value.bool findI_ge), hs5⟩

theorem clone_ints {W0 : World} {F : HProp} {w : World}  (a : Option Addr) (c : Nat) (xs : List Int) (hn : xs.length ≤ 1099511627) (hr : Ent W0 F (fun w => Rd w 1 a xs.length (xs.map (Value.int .i64))))
    (hs : sat W0 [F] w) :
    Calls Try.prog 42 ([(Value.slice a xs.length c)] : List Value).toArray w (fun x_ w' => ∃ v_, x_ = .returned v_ ∧ (∃ a_ : Option Addr, ∃ c_ : Nat, v_ = (Value.slice a_ xs.length c_) ∧ sat W0 [SL false 1 a_ xs.length c_ (xs.map (Value.int .i64)), F] w')) := by
  refine W.enter Try.func42 rfl Try.ntmps42 (by simp) ?_
  refine W.seq ?_
  refine W.region ?_
  refine WL.cons rfl (OP.assign (Value.slice none 0 0) rfl (by decide) ?_)
  refine WL.nil (Qn.then ?_)
  refine W.seq ?_
  refine W.seq ?_
  refine W.region ?_
  refine WL.cons rfl (OP.move (Value.slice a xs.length c) rfl (by decide) ?_)
  refine WL.cons rfl (OP.eqV rfl rfl rfl rfl (run_equalSN Try.underlying22 _) (by decide) ?_)
  refine WL.nil (Qn.then ?_)
  refine W.ite (b := a.isNone) rfl (fun hc1 => ?_) (fun hc1 => ?_)
  · refine W.seq ?_
    have hnil_ : xs = [] := rd_nil_of (Ent_sat 0 rfl hr hs) (by assumption)
    have hs2 : sat W0 [SL false 1 none xs.length 0 (xs.map (Value.int .i64)), F] w := (by rw [hnil_]; exact sat_SL_nil hs)
    refine W.region ?_
    refine WL.cons rfl (OP.assign (Value.slice none 0 0) rfl (by decide) ?_)
    refine WL.nil (Qn.then ?_)
    refine W.ret (Qr.then (RetQ.of [(Value.slice none 0 0)] (.inr rfl) Try.results42 (.cons (.tmp (by decide) rfl) .nil) ?_))
    exact ⟨none, 0, (by rw [hnil_]; rfl), hs2⟩
  · refine W.skip (Qn.then ?_)
    refine W.seq ?_
    refine W.region ?_
    refine WL.cons rfl (OP.buildSlice (el := 3) [] [] hs rfl (fun _ => by kernel_rfl) (by decide) (fun b4 w5 hs6 => ?_))
    have hs7 : sat W0 [SL false 1 (some ⟨b4, 0, none⟩) 0 0 ([]), F] w5 := sat_SL_blk rfl hs6
    refine WL.cons rfl (OP.move (Value.slice a xs.length c) rfl (by decide) ?_)
    refine WL.cons rfl (OP.append' (z := [(Value.int .i64 0)]) xs.length (xs.map (Value.int .i64)) hs7 (Ent_sat 1 rfl hr hs7) Try.underlying22 sz_3 by_3 ze_3 rfl rfl (by omega) (by omega) one_ints rfl rfl rfl (by first | rfl | omega | (simp; omega) | simp) (by first | rfl | simp) (by decide) (fun a8 c9 w10 hs11 => ?_))
    have hs12 : sat W0 [SL false 1 a8 xs.length c9 (xs.map (Value.int .i64)), F] w10 := hs11
    refine WL.cons rfl (OP.assign (Value.slice a8 xs.length c9) rfl (by decide) ?_)
    refine WL.nil (Qn.then ?_)
    refine W.ret (RetQ.of [(Value.slice a8 xs.length c9)] (.inr rfl) Try.results42 (.cons (.tmp (by decide) rfl) .nil) ?_)
    exact ⟨a8, c9, rfl, hs12⟩

theorem clone_bytes {W0 : World} {F : HProp} {w : World}  (a : Option Addr) (c : Nat) (xs : List Int) (hn : xs.length ≤ 1099511627) (hr : Ent W0 F (fun w => Rd w 1 a xs.length (xs.map (Value.int .u8))))
    (hs : sat W0 [F] w) :
    Calls Try.prog 43 ([(Value.slice a xs.length c)] : List Value).toArray w (fun x_ w' => ∃ v_, x_ = .returned v_ ∧ (∃ a_ : Option Addr, ∃ c_ : Nat, v_ = (Value.slice a_ xs.length c_) ∧ sat W0 [SL false 1 a_ xs.length c_ (xs.map (Value.int .u8)), F] w')) := by
  refine W.enter Try.func43 rfl Try.ntmps43 (by simp) ?_
  refine W.seq ?_
  refine W.region ?_
  refine WL.cons rfl (OP.assign (Value.slice none 0 0) rfl (by decide) ?_)
  refine WL.nil (Qn.then ?_)
  refine W.seq ?_
  refine W.seq ?_
  refine W.region ?_
  refine WL.cons rfl (OP.move (Value.slice a xs.length c) rfl (by decide) ?_)
  refine WL.cons rfl (OP.eqV rfl rfl rfl rfl (run_equalSN Try.underlying24 _) (by decide) ?_)
  refine WL.nil (Qn.then ?_)
  refine W.ite (b := a.isNone) rfl (fun hc1 => ?_) (fun hc1 => ?_)
  · refine W.seq ?_
    have hnil_ : xs = [] := rd_nil_of (Ent_sat 0 rfl hr hs) (by assumption)
    have hs2 : sat W0 [SL false 1 none xs.length 0 (xs.map (Value.int .u8)), F] w := (by rw [hnil_]; exact sat_SL_nil hs)
    refine W.region ?_
    refine WL.cons rfl (OP.assign (Value.slice none 0 0) rfl (by decide) ?_)
    refine WL.nil (Qn.then ?_)
    refine W.ret (Qr.then (RetQ.of [(Value.slice none 0 0)] (.inr rfl) Try.results43 (.cons (.tmp (by decide) rfl) .nil) ?_))
    exact ⟨none, 0, (by rw [hnil_]; rfl), hs2⟩
  · refine W.skip (Qn.then ?_)
    refine W.seq ?_
    refine W.region ?_
    refine WL.cons rfl (OP.buildSlice (el := 5) [] [] hs rfl (fun _ => by kernel_rfl) (by decide) (fun b4 w5 hs6 => ?_))
    have hs7 : sat W0 [SL false 1 (some ⟨b4, 0, none⟩) 0 0 ([]), F] w5 := sat_SL_blk rfl hs6
    refine WL.cons rfl (OP.move (Value.slice a xs.length c) rfl (by decide) ?_)
    refine WL.cons rfl (OP.append' (z := [(Value.int .u8 0)]) xs.length (xs.map (Value.int .u8)) hs7 (Ent_sat 1 rfl hr hs7) Try.underlying24 sz_5 by_5 ze_5 rfl rfl (by omega) (by omega) one_ints rfl rfl rfl (by first | rfl | omega | (simp; omega) | simp) (by first | rfl | simp) (by decide) (fun a8 c9 w10 hs11 => ?_))
    have hs12 : sat W0 [SL false 1 a8 xs.length c9 (xs.map (Value.int .u8)), F] w10 := hs11
    refine WL.cons rfl (OP.assign (Value.slice a8 xs.length c9) rfl (by decide) ?_)
    refine WL.nil (Qn.then ?_)
    refine W.ret (RetQ.of [(Value.slice a8 xs.length c9)] (.inr rfl) Try.results43 (.cons (.tmp (by decide) rfl) .nil) ?_)
    exact ⟨a8, c9, rfl, hs12⟩

end Go.Proofs.Ytleolejhkdolpaa
