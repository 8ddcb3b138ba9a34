import Derived.Test.YtleolejhkdolpaaC1
import Derived.KernelRfl
set_option linter.unusedVariables false
set_option linter.unusedSimpArgs false
set_option maxRecDepth 100000
set_option maxHeartbeats 4000000
namespace Go.Proofs.Ytleolejhkdolpaa
open Go Go.RowKit Sv
def BufRep (p : Nat) (xs : List BEnt) (most : Int) (size : Int) : HProp := fun h => ∃ a1 : Option Addr, ∃ c1 : Nat, (True) ∧ stars [blk p [(Value.slice a1 xs.length c1), (Value.int .i64 most), (Value.int .i64 size)] 92, SL false 3 a1 xs.length c1 (xs.flatMap encB)] h
theorem BufRep_open {W0 w : World} {L : List HProp} {p : Nat} {xs : List BEnt} {most : Int} {size : Int} (k : sat W0 (BufRep p xs most size :: L) w) : ∃ a1 : Option Addr, ∃ c1 : Nat, (True) ∧ sat W0 ([blk p [(Value.slice a1 xs.length c1), (Value.int .i64 most), (Value.int .i64 size)] 92, SL false 3 a1 xs.length c1 (xs.flatMap encB)] ++ L) w := by
  obtain ⟨hb, h, hh, h1, h2, d, l1, l2, ⟨a1, c1, hp, s1⟩, s2⟩ := k
  exact ⟨a1, c1, hp, hb, h, hh, append_stars d l1 l2 s1 s2⟩
theorem BufRep_close {W0 w : World} {L : List HProp} {p : Nat} {xs : List BEnt} {most : Int} {size : Int} (a1 : Option Addr) (c1 : Nat) (hp : True) (k : sat W0 ([blk p [(Value.slice a1 xs.length c1), (Value.int .i64 most), (Value.int .i64 size)] 92, SL false 3 a1 xs.length c1 (xs.flatMap encB)] ++ L) w) : sat W0 (BufRep p xs most size :: L) w := by
  obtain ⟨hb, h, hh, s⟩ := k
  obtain ⟨h1, h2, d, l1, l2, s1, s2⟩ := stars_append s
  exact ⟨hb, h, hh, h1, h2, d, l1, l2, ⟨a1, c1, hp, s1⟩, s2⟩

def RefRep (p : Nat) (xs : List BEnt) (most : Int) (size : Int) : HProp := fun h => ∃ a1 : Option Addr, ∃ c1 : Nat, (True) ∧ stars [blk p [(Value.slice a1 xs.length c1), (Value.int .i64 most), (Value.int .i64 size)] 46, SL false 3 a1 xs.length c1 (xs.flatMap encB)] h
theorem RefRep_open {W0 w : World} {L : List HProp} {p : Nat} {xs : List BEnt} {most : Int} {size : Int} (k : sat W0 (RefRep p xs most size :: L) w) : ∃ a1 : Option Addr, ∃ c1 : Nat, (True) ∧ sat W0 ([blk p [(Value.slice a1 xs.length c1), (Value.int .i64 most), (Value.int .i64 size)] 46, SL false 3 a1 xs.length c1 (xs.flatMap encB)] ++ L) w := by
  obtain ⟨hb, h, hh, h1, h2, d, l1, l2, ⟨a1, c1, hp, s1⟩, s2⟩ := k
  exact ⟨a1, c1, hp, hb, h, hh, append_stars d l1 l2 s1 s2⟩
theorem RefRep_close {W0 w : World} {L : List HProp} {p : Nat} {xs : List BEnt} {most : Int} {size : Int} (a1 : Option Addr) (c1 : Nat) (hp : True) (k : sat W0 ([blk p [(Value.slice a1 xs.length c1), (Value.int .i64 most), (Value.int .i64 size)] 46, SL false 3 a1 xs.length c1 (xs.flatMap encB)] ++ L) w) : sat W0 (RefRep p xs most size :: L) w := by
  obtain ⟨hb, h, hh, s⟩ := k
  obtain ⟨h1, h2, d, l1, l2, s1, s2⟩ := stars_append s
  exact ⟨hb, h, hh, h1, h2, d, l1, l2, ⟨a1, c1, hp, s1⟩, s2⟩

theorem slices_IndexFunc_ent {W0 : World} {F : HProp} {w : World}  (a : Option Addr) (c : Nat) (xs : List BEnt) (f : Nat) (cap : List Value) (p : BEnt → Bool) (hn : xs.length ≤ 9223372036854775807) (hgf : goFunc Try.prog f = true) (hcall : ∀ (w : World) (x : BEnt), x ∈ xs → sat W0 [F] w → Calls Try.prog f ([(Value.agg [(Value.int .i64 x.sector), (Value.int .i64 x.kind), (Value.slice x.da x.data.length x.dc)].toArray)] ++ cap).toArray w (fun x_ w' => ∃ v_, x_ = .returned v_ ∧ (v_ = (.bool (p x)) ∧ sat W0 [F] w'))) (hr : Ent W0 F (fun w => Rd w 3 a xs.length (xs.flatMap encB)))
    (hs : sat W0 [F] w) :
    Calls Try.prog 66 ([(Value.slice a xs.length c), (Value.func (Fn.func f) #[] cap.toArray)] : List Value).toArray w (fun x_ w' => ∃ v_, x_ = .returned v_ ∧ (v_ = (Value.int .i64 (findI p xs)) ∧ sat W0 [F] w')) := by
  refine W.enter Try.func66 rfl Try.ntmps66 (by simp) ?_
  refine W.seq ?_
  refine W.region ?_
  refine WL.cons rfl (OP.assign (Value.int .i64 0) rfl (by decide) ?_)
  refine WL.nil (Qn.then ?_)
  refine W.seq ?_
  refine W.seq ?_
  refine W.region ?_
  refine WL.cons rfl (OP.move (Value.slice a xs.length c) rfl (by decide) ?_)
  refine WL.cons rfl (OP.len Try.underlying44 rfl rfl (by decide) ?_)
  refine WL.cons rfl (OP.move (Value.int .i64 0) rfl (by decide) ?_)
  refine WL.nil (Qn.then ?_)
  refine W.block ?_
  refine W.loop (fun n_ e_ w_ => ∃ k : Nat, n_ = xs.length - k ∧ e_ 0 = (Value.slice a xs.length c) ∧ e_ 1 = (Value.func (Fn.func f) #[] cap.toArray) ∧ e_ 7 = (Value.int .i64 ((xs.length : Nat) : Int)) ∧ e_ 8 = (Value.int .i64 ((k : Nat) : Int)) ∧ k ≤ xs.length ∧ (xs.take k).any p = false ∧ sat W0 [F] w_) (xs.length - 0) ⟨0, rfl, rfl, rfl, rfl, (Eq.trans (b := (Value.int .i64 0)) rfl (congrArg (Value.int .i64) (by first | rfl | omega | simp | (simp; omega)))), (by omega), (by simp), hs⟩ ?_
  rintro n1 e2 w3 ⟨k, hn5, he6, he7, he8, he9, hp10, hp11, hs4⟩
  refine W.seq ?_
  refine W.region ?_
  refine WL.cons rfl (OP.lss he9 he8 (by decide) ?_)
  refine WL.nil (Qn.then ?_)
  refine W.seq ?_
  refine W.iteP (p := ((k : Nat) : Int) < ((xs.length : Nat) : Int)) rfl (fun hc12 => ?_) (fun hc12 => ?_)
  · refine W.skip (Qn.then ?_)
    refine W.seq ?_
    refine W.block ?_
    refine W.seq ?_
    refine W.region ?_
    refine WL.cons rfl (OP.move (Value.int .i64 ((k : Nat) : Int)) he9 (by decide) ?_)
    refine WL.cons rfl (OP.assign (Value.int .i64 ((k : Nat) : Int)) rfl (by decide) ?_)
    refine WL.nil (Qn.then ?_)
    refine W.seq ?_
    refine W.region ?_
    refine WL.cons rfl (OP.move (Value.func (Fn.func f) #[] cap.toArray) he7 (by decide) ?_)
    refine WL.cons rfl (OP.move (Value.slice a xs.length c) he6 (by decide) ?_)
    refine WL.cons rfl (OP.move (Value.int .i64 ((k : Nat) : Int)) rfl (by decide) ?_)
    have hi14_ : k < xs.length := by omega
    refine WL.cons rfl (OP.indexR k (Ent_sat 0 rfl hr hs4) Try.underlying44 sz_48 rfl rfl rfl hi14_ (by decide) ?_)
    refine WL.cons rfl (OP.loadAR (encB (xs.getD k default)) (Ent_sat 0 rfl hr hs4) (recs_take (enc := encB) (fun _ => rfl) hi14_) ag_48 sz_48 rfl (by decide) ?_)
    have hcal_ := hcall w3 (xs.getD k default) (getD_mem (by assumption)) hs4
    refine WL.cons rfl (?_)
    with_reducible refine OP.callV (cap := cap) [(Value.agg [(Value.int .i64 ((xs.getD k default).sector)), (Value.int .i64 ((xs.getD k default).kind)), (Value.slice ((xs.getD k default).da) ((xs.getD k default).data.length) ((xs.getD k default).dc))].toArray)] ?_ hgf ?_ ?_ hcal_ ?_
    · exact rfl
    · exact rfl
    · decide
    rintro _ w13 ⟨_, rfl, rfl, hs14⟩
    refine ⟨_, rfl, ?_⟩
    refine WL.nil (Qn.then ?_)
    refine W.ite (b := p (xs.getD k default)) rfl (fun hc15 => ?_) (fun hc15 => ?_)
    · refine W.seq ?_
      refine W.region ?_
      refine WL.cons rfl (OP.move (Value.int .i64 ((k : Nat) : Int)) rfl (by decide) ?_)
      refine WL.cons rfl (OP.assign (Value.int .i64 ((k : Nat) : Int)) rfl (by decide) ?_)
      refine WL.nil (Qn.then ?_)
      refine W.ret (Qr.blk (Qr.then (Qr.then (Qr.blk (Qr.then (RetQ.of [(Value.int .i64 ((k : Nat) : Int))] (.inr rfl) Try.results66 (.cons (.tmp (by decide) rfl) .nil) ?_))))))
      exact ⟨(congrArg (Value.int .i64) (findI_hit (k := k) (d := default) (by omega) (by assumption) (by assumption))), hs14⟩
    · refine W.skip (Qn.blk (Qn.then ?_))
      refine W.region ?_
      refine WL.cons rfl (OP.add ((k + 1 : Nat) : Int) he9 rfl (by first | rfl | omega | simp) (by unfold inI64; omega) (by decide) ?_)
      refine WL.cons rfl (OP.move (Value.int .i64 ((k + 1 : Nat) : Int)) rfl (by decide) ?_)
      refine WL.nil (Qn.then ?_)
      exact ⟨_, (by omega), (k + 1), rfl, he6, he7, he8, (Eq.trans (b := (Value.int .i64 ((k + 1 : Nat) : Int))) rfl (congrArg (Value.int .i64) (by first | rfl | omega | simp | (simp; omega)))), (by omega), (findI_next (d := default) (by omega) (by assumption) (by assumption)), hs14⟩
  · refine W.exit (Qx.then (Qx.then (Qx.hit (Qn.then ?_))))
    refine W.seq ?_
    refine W.region ?_
    refine WL.cons rfl (OP.assign (Value.int .i64 (-1)) rfl (by decide) ?_)
    refine WL.nil (Qn.then ?_)
    refine W.ret (RetQ.of [(Value.int .i64 (-1))] (.inr rfl) Try.results66 (.cons (.tmp (by decide) rfl) .nil) ?_)
    exact ⟨(congrArg (Value.int .i64) (findI_none (k := k) (by omega) (by omega) (by assumption))), hs4⟩

theorem Buffer_is {W0 : World} {F : HProp} {w : World}  (p : Nat) (a : Option Addr) (n : Nat) (c : Nat) (most : Int) (size : Int)  
    (hs : sat W0 [blk p [(Value.slice a n c), (Value.int .i64 most), (Value.int .i64 size)] 92, F] w) :
    Calls Try.prog 45 ([(Value.pointer (some ⟨p, 0, none⟩))] : List Value).toArray w (fun x_ w' => ∃ v_, x_ = .returned v_ ∧ (v_ = (Value.bool (decide (most > 0))) ∧ sat W0 [blk p [(Value.slice a n c), (Value.int .i64 most), (Value.int .i64 size)] 92, F] w')) := by
  refine W.enter Try.func45 rfl Try.ntmps45 (by simp) ?_
  refine W.seq ?_
  refine W.region ?_
  refine WL.cons rfl (OP.assign (Value.bool false) rfl (by decide) ?_)
  refine WL.nil (Qn.then ?_)
  refine W.seq ?_
  refine W.region ?_
  refine WL.cons rfl (OP.move (Value.pointer (some ⟨p, 0, none⟩)) rfl (by decide) ?_)
  refine WL.cons rfl (OP.neV rfl rfl rfl rfl (run_equalPN Try.underlying40 _) (by decide) ?_)
  refine WL.cons rfl (OP.move (Value.bool true) rfl (by decide) ?_)
  refine WL.consG rfl rfl rfl (OP.move (Value.pointer (some ⟨p, 0, none⟩)) rfl (by decide) ?_)
  refine WL.consG rfl rfl rfl (OP.nilCheck rfl (by decide) ?_)
  refine WL.consG rfl rfl rfl (OP.fieldAddr 1 fo_92_1 rfl rfl (by decide) ?_)
  refine WL.consG rfl rfl rfl (OP.loadS (Value.int .i64 most) sc_3 rfl (sat_cell 0 hs rfl rfl) (by decide) ?_)
  refine WL.consG rfl rfl rfl (OP.gtr rfl rfl (by decide) ?_)
  refine WL.cons rfl (OP.pickT (Value.bool (decide (most > 0))) rfl rfl (by decide) ?_)
  refine WL.cons rfl (OP.assign (Value.bool (decide (most > 0))) rfl (by decide) ?_)
  refine WL.nil (Qn.then ?_)
  refine W.ret (RetQ.of [(Value.bool (decide (most > 0)))] (.inr rfl) Try.results45 (.cons (.tmp (by decide) rfl) .nil) ?_)
  exact ⟨rfl, hs⟩

theorem Buffer_place_1 {W0 : World} {F : HProp} {w : World}  (x : BEnt) (b : Nat) (v : Int) (hb : Ent W0 F (fun w => Rdn w b 0 [Value.int .i64 v])) 
    (hs : sat W0 [F] w) :
    Calls Try.prog 67 ([(Value.agg [(Value.int .i64 x.sector), (Value.int .i64 x.kind), (Value.slice x.da x.data.length x.dc)].toArray), (Value.pointer (some ⟨b, 0, none⟩))] : List Value).toArray w (fun x_ w' => ∃ v_, x_ = .returned v_ ∧ (v_ = (Value.bool (decide (x.sector = v))) ∧ sat W0 [F] w')) := by
  refine W.enter Try.func67 rfl Try.ntmps67 (by simp) ?_
  refine W.seq ?_
  refine W.region ?_
  refine WL.cons rfl (OP.box (Value.agg [(Value.int .i64 x.sector), (Value.int .i64 x.kind), (Value.slice x.da x.data.length x.dc)].toArray) [(Value.int .i64 x.sector), (Value.int .i64 x.kind), (Value.slice x.da x.data.length x.dc)] hs rfl rfl (by decide) (fun b1 w2 hs3 => ?_))
  refine WL.cons rfl (OP.assign (Value.bool false) rfl (by decide) ?_)
  refine WL.nil (Qn.then ?_)
  refine W.seq ?_
  refine W.region ?_
  refine WL.cons rfl (OP.fieldAddr 0 fo_48_0 rfl rfl (by decide) ?_)
  refine WL.cons rfl (OP.loadS (Value.int .i64 x.sector) sc_3 rfl (sat_cell 0 hs3 rfl rfl) (by decide) ?_)
  refine WL.cons rfl (OP.loadS (Value.int .i64 v) sc_3 rfl (rdn_cell (Ent_sat 1 rfl hb hs3) rfl) (by decide) ?_)
  refine WL.cons rfl (OP.eqI rfl rfl (by decide) ?_)
  refine WL.cons rfl (OP.assign (Value.bool (decide (x.sector = v))) rfl (by decide) ?_)
  refine WL.nil (Qn.then ?_)
  refine W.ret (RetQ.of [(Value.bool (decide (x.sector = v)))] (.inr rfl) Try.results67 (.cons (.tmp (by decide) rfl) .nil) ?_)
  have hs5 : sat W0 [F] w2 := sat_sub' [1] [0] hs3 (by kernel_rfl) (by kernel_rfl)
  exact ⟨rfl, hs5⟩

theorem Buffer_place {W0 : World} {F : HProp} {w : World}  (p : Nat) (xs : List BEnt) (most : Int) (size : Int) (m : List AEnt) (v : Int) (hm : xs.map absB = m) (hn : xs.length ≤ 1099511627) (hp : 0 < most) 
    (hs : sat W0 [BufRep p xs most size, F] w) :
    Calls Try.prog 47 ([(Value.pointer (some ⟨p, 0, none⟩)), (Value.int .i64 v)] : List Value).toArray w (fun x_ w' => ∃ v_, x_ = .returned v_ ∧ (v_ = (Value.int .i64 (findA m v)) ∧ sat W0 [BufRep p xs most size, F] w')) := by
  refine W.enter Try.func47 rfl Try.ntmps47 (by simp) ?_
  refine W.seq ?_
  refine W.region ?_
  refine WL.cons rfl (OP.box (Value.int .i64 v) [(Value.int .i64 v)] hs rfl rfl (by decide) (fun b1 w2 hs3 => ?_))
  refine WL.cons rfl (OP.assign (Value.int .i64 0) rfl (by decide) ?_)
  refine WL.nil (Qn.then ?_)
  refine W.seq ?_
  refine W.seq ?_
  refine W.region ?_
  refine WL.cons rfl (OP.move (Value.pointer (some ⟨p, 0, none⟩)) rfl (by decide) ?_)
  have hs4 : sat W0 [BufRep p xs most size, blk b1 [(Value.int .i64 v)] 3, F] w2 := sat_sel' [1, 0, 2] hs3 (by kernel_rfl) (by kernel_rfl)
  obtain ⟨a1_5, c1_6, _, hs7⟩ := BufRep_open hs4
  have hs8 : sat W0 [blk p [(Value.slice a1_5 xs.length c1_6), (Value.int .i64 most), (Value.int .i64 size)] 92, SL false 3 a1_5 xs.length c1_6 (xs.flatMap encB), blk b1 [(Value.int .i64 v)] 3, F] w2 := hs7
  have hs9 : sat W0 [blk p [(Value.slice a1_5 xs.length c1_6), (Value.int .i64 most), (Value.int .i64 size)] 92, stars [SL false 3 a1_5 xs.length c1_6 (xs.flatMap encB), blk b1 [(Value.int .i64 v)] 3, F]] w2 := sat_pack' [blk p [(Value.slice a1_5 xs.length c1_6), (Value.int .i64 most), (Value.int .i64 size)] 92] [SL false 3 a1_5 xs.length c1_6 (xs.flatMap encB), blk b1 [(Value.int .i64 v)] 3, F] hs8 (by kernel_rfl) (by kernel_rfl)
  have hcl12 := Buffer_is p a1_5 xs.length c1_6 most size hs9
  refine WL.cons rfl (?_)
  with_reducible refine OP.call [(Value.pointer (some ⟨p, 0, none⟩))] gf_45 ?_ ?_ hcl12 ?_
  · exact rfl
  · decide
  clear hcl12
  rintro _ w10 ⟨_, rfl, rfl, hs11⟩
  refine ⟨_, rfl, ?_⟩
  have hs13 : sat W0 [blk p [(Value.slice a1_5 xs.length c1_6), (Value.int .i64 most), (Value.int .i64 size)] 92, SL false 3 a1_5 xs.length c1_6 (xs.flatMap encB), blk b1 [(Value.int .i64 v)] 3, F] w10 := sat_flat' [blk p [(Value.slice a1_5 xs.length c1_6), (Value.int .i64 most), (Value.int .i64 size)] 92] [SL false 3 a1_5 xs.length c1_6 (xs.flatMap encB), blk b1 [(Value.int .i64 v)] 3, F] hs11 (by kernel_rfl) (by kernel_rfl)
  refine WL.cons rfl (OP.notP (most > 0) rfl (by decide) ?_)
  refine WL.nil (Qn.then ?_)
  refine W.iteP (p := ¬ (most > 0)) rfl (fun hc14 => ?_) (fun hc14 => ?_)
  · refine W.seq ?_
    exact absurd hc14 (by simp; omega)
  · refine W.skip (Qn.then ?_)
    refine W.seq ?_
    refine W.region ?_
    refine WL.cons rfl (OP.move (Value.pointer (some ⟨p, 0, none⟩)) rfl (by decide) ?_)
    refine WL.cons rfl (OP.nilCheck rfl (by decide) ?_)
    refine WL.cons rfl (OP.fieldAddr 0 fo_92_0 rfl rfl (by decide) ?_)
    refine WL.cons rfl (OP.loadS (Value.slice a1_5 xs.length c1_6) sc_44 rfl (sat_cell 0 hs13 rfl rfl) (by decide) ?_)
    refine WL.cons rfl (OP.makeFunc [(Value.pointer (some ⟨b1, 0, none⟩))] rfl rfl (by decide) ?_)
    have hs15 : sat W0 [stars [blk p [(Value.slice a1_5 xs.length c1_6), (Value.int .i64 most), (Value.int .i64 size)] 92, SL false 3 a1_5 xs.length c1_6 (xs.flatMap encB), blk b1 [(Value.int .i64 v)] 3, F]] w10 := sat_pack' [] [blk p [(Value.slice a1_5 xs.length c1_6), (Value.int .i64 most), (Value.int .i64 size)] 92, SL false 3 a1_5 xs.length c1_6 (xs.flatMap encB), blk b1 [(Value.int .i64 v)] 3, F] hs13 (by kernel_rfl) (by kernel_rfl)
    have hcl18 := slices_IndexFunc_ent a1_5 c1_6 xs 67 ([(Value.pointer (some ⟨b1, 0, none⟩))]) (fun x => decide (x.sector = v)) (by first | assumption | omega) gf_67 (fun w x hx h => Buffer_place_1 (F := stars [blk p [(Value.slice a1_5 xs.length c1_6), (Value.int .i64 most), (Value.int .i64 size)] 92, SL false 3 a1_5 xs.length c1_6 (xs.flatMap encB), blk b1 [(Value.int .i64 v)] 3, F]) x b1 v (Ent_stars 2 rfl Ent_blk) h) (Ent_stars 1 rfl Ent_SL) hs15
    refine WL.cons rfl (?_)
    with_reducible refine OP.call [(Value.slice a1_5 xs.length c1_6), (Value.func (Fn.func 67) #[] [(Value.pointer (some ⟨b1, 0, none⟩))].toArray)] gf_66 ?_ ?_ hcl18 ?_
    · exact rfl
    · decide
    clear hcl18
    rintro _ w16 ⟨_, rfl, rfl, hs17⟩
    refine ⟨_, rfl, ?_⟩
    have hs19 : sat W0 [blk p [(Value.slice a1_5 xs.length c1_6), (Value.int .i64 most), (Value.int .i64 size)] 92, SL false 3 a1_5 xs.length c1_6 (xs.flatMap encB), blk b1 [(Value.int .i64 v)] 3, F] w16 := sat_flat' [] [blk p [(Value.slice a1_5 xs.length c1_6), (Value.int .i64 most), (Value.int .i64 size)] 92, SL false 3 a1_5 xs.length c1_6 (xs.flatMap encB), blk b1 [(Value.int .i64 v)] 3, F] hs17 (by kernel_rfl) (by kernel_rfl)
    refine WL.cons rfl (OP.assign (Value.int .i64 (findI (fun x => decide (x.sector = v)) xs)) rfl (by decide) ?_)
    refine WL.nil (Qn.then ?_)
    refine W.ret (RetQ.of [(Value.int .i64 (findI (fun x => decide (x.sector = v)) xs))] (.inr rfl) Try.results47 (.cons (.tmp (by decide) rfl) .nil) ?_)
    have hs21 : sat W0 [BufRep p xs most size, blk b1 [(Value.int .i64 v)] 3, F] w16 := BufRep_close a1_5 c1_6 trivial hs19
    have hs22 : sat W0 [BufRep p xs most size, F] w16 := sat_sub' [0, 2] [1] hs21 (by kernel_rfl) (by kernel_rfl)
    exact ⟨(congrArg (Value.int .i64) (findA_abs hm)), hs22⟩

theorem Buffer_Len {W0 : World} {F : HProp} {w : World}  (p : Nat) (xs : List BEnt) (most : Int) (size : Int) (m : List AEnt) (hm : xs.map absB = m) (hp : 0 < most) 
    (hs : sat W0 [BufRep p xs most size, F] w) :
    Calls Try.prog 23 ([(Value.pointer (some ⟨p, 0, none⟩))] : List Value).toArray w (fun x_ w' => ∃ v_, x_ = .returned v_ ∧ (v_ = (Value.int .i64 ((m.length : Nat) : Int)) ∧ sat W0 [BufRep p xs most size, F] w')) := by
  refine W.enter Try.func23 rfl Try.ntmps23 (by simp) ?_
  refine W.seq ?_
  refine W.region ?_
  refine WL.cons rfl (OP.assign (Value.int .i64 0) rfl (by decide) ?_)
  refine WL.nil (Qn.then ?_)
  refine W.seq ?_
  refine W.seq ?_
  refine W.region ?_
  refine WL.cons rfl (OP.move (Value.pointer (some ⟨p, 0, none⟩)) rfl (by decide) ?_)
  obtain ⟨a1_1, c1_2, _, hs3⟩ := BufRep_open hs
  have hs4 : sat W0 [blk p [(Value.slice a1_1 xs.length c1_2), (Value.int .i64 most), (Value.int .i64 size)] 92, SL false 3 a1_1 xs.length c1_2 (xs.flatMap encB), F] w := hs3
  have hs5 : sat W0 [blk p [(Value.slice a1_1 xs.length c1_2), (Value.int .i64 most), (Value.int .i64 size)] 92, stars [SL false 3 a1_1 xs.length c1_2 (xs.flatMap encB), F]] w := sat_pack' [blk p [(Value.slice a1_1 xs.length c1_2), (Value.int .i64 most), (Value.int .i64 size)] 92] [SL false 3 a1_1 xs.length c1_2 (xs.flatMap encB), F] hs4 (by kernel_rfl) (by kernel_rfl)
  have hcl8 := Buffer_is p a1_1 xs.length c1_2 most size hs5
  refine WL.cons rfl (?_)
  with_reducible refine OP.call [(Value.pointer (some ⟨p, 0, none⟩))] gf_45 ?_ ?_ hcl8 ?_
  · exact rfl
  · decide
  clear hcl8
  rintro _ w6 ⟨_, rfl, rfl, hs7⟩
  refine ⟨_, rfl, ?_⟩
  have hs9 : sat W0 [blk p [(Value.slice a1_1 xs.length c1_2), (Value.int .i64 most), (Value.int .i64 size)] 92, SL false 3 a1_1 xs.length c1_2 (xs.flatMap encB), F] w6 := sat_flat' [blk p [(Value.slice a1_1 xs.length c1_2), (Value.int .i64 most), (Value.int .i64 size)] 92] [SL false 3 a1_1 xs.length c1_2 (xs.flatMap encB), F] hs7 (by kernel_rfl) (by kernel_rfl)
  refine WL.cons rfl (OP.notP (most > 0) rfl (by decide) ?_)
  refine WL.nil (Qn.then ?_)
  refine W.iteP (p := ¬ (most > 0)) rfl (fun hc10 => ?_) (fun hc10 => ?_)
  · refine W.seq ?_
    exact absurd hc10 (by simp; omega)
  · refine W.skip (Qn.then ?_)
    refine W.seq ?_
    refine W.region ?_
    refine WL.cons rfl (OP.move (Value.pointer (some ⟨p, 0, none⟩)) rfl (by decide) ?_)
    refine WL.cons rfl (OP.nilCheck rfl (by decide) ?_)
    refine WL.cons rfl (OP.fieldAddr 0 fo_92_0 rfl rfl (by decide) ?_)
    refine WL.cons rfl (OP.loadS (Value.slice a1_1 xs.length c1_2) sc_44 rfl (sat_cell 0 hs9 rfl rfl) (by decide) ?_)
    refine WL.cons rfl (OP.len Try.underlying44 rfl rfl (by decide) ?_)
    refine WL.cons rfl (OP.assign (Value.int .i64 ((xs.length : Nat) : Int)) rfl (by decide) ?_)
    refine WL.nil (Qn.then ?_)
    refine W.ret (RetQ.of [(Value.int .i64 ((xs.length : Nat) : Int))] (.inr rfl) Try.results23 (.cons (.tmp (by decide) rfl) .nil) ?_)
    have hs12 : sat W0 [BufRep p xs most size, F] w6 := BufRep_close a1_1 c1_2 trivial hs9
    exact ⟨(congrArg (fun n : Nat => Value.int .i64 (n : Int)) (abs_len hm)), hs12⟩

theorem Buffer_Full {W0 : World} {F : HProp} {w : World}  (p : Nat) (xs : List BEnt) (most : Int) (size : Int) (m : List AEnt) (hm : xs.map absB = m) (hp : 0 < most) 
    (hs : sat W0 [BufRep p xs most size, F] w) :
    Calls Try.prog 24 ([(Value.pointer (some ⟨p, 0, none⟩))] : List Value).toArray w (fun x_ w' => ∃ v_, x_ = .returned v_ ∧ (v_ = (Value.bool (decide (((m.length : Nat) : Int) = most))) ∧ sat W0 [BufRep p xs most size, F] w')) := by
  refine W.enter Try.func24 rfl Try.ntmps24 (by simp) ?_
  refine W.seq ?_
  refine W.region ?_
  refine WL.cons rfl (OP.assign (Value.bool false) rfl (by decide) ?_)
  refine WL.nil (Qn.then ?_)
  refine W.seq ?_
  obtain ⟨a1_1, c1_2, _, hs3⟩ := BufRep_open hs
  have hs4 : sat W0 [blk p [(Value.slice a1_1 xs.length c1_2), (Value.int .i64 most), (Value.int .i64 size)] 92, SL false 3 a1_1 xs.length c1_2 (xs.flatMap encB), F] w := hs3
  refine W.draw (fun w => sat W0 [blk p [(Value.slice a1_1 xs.length c1_2), (Value.int .i64 most), (Value.int .i64 size)] 92, SL false 3 a1_1 xs.length c1_2 (xs.flatMap encB), F] w) (by kernel_rfl) hs4 (fun w5 hs6 => ?_)
  refine WA.take 0 rfl rfl rfl rfl (by kernel_rfl) (by kernel_rfl) (by kernel_rfl) ?_ (by decide) (v := (Value.pointer (some ⟨p, 0, none⟩))) (fun w8 hw7 => OP.move (Value.pointer (some ⟨p, 0, none⟩)) rfl (by decide) ⟨rfl, rfl⟩) ?_
  · exact hs6
  refine WA.all [1] (by kernel_rfl) (by simp) ?_
  refine WAs.cons (oi := (Go.Oper.mk (some 4) (Go.Op.call (Go.Call.mk (Go.Callee.value (Go.Operand.func 45)) #[(Go.Operand.tmp 3)] #[40])) 4 "buffer.go:110" #[(Go.Edge.mk 0 Go.Ground.data)] none)) rfl rfl ?_ ?_
  · have hs9 : sat W0 [blk p [(Value.slice a1_1 xs.length c1_2), (Value.int .i64 most), (Value.int .i64 size)] 92, stars [SL false 3 a1_1 xs.length c1_2 (xs.flatMap encB), F]] w5 := sat_pack' [blk p [(Value.slice a1_1 xs.length c1_2), (Value.int .i64 most), (Value.int .i64 size)] 92] [SL false 3 a1_1 xs.length c1_2 (xs.flatMap encB), F] hs6 (by kernel_rfl) (by kernel_rfl)
    have hcl12 := Buffer_is p a1_1 xs.length c1_2 most size hs9
    refine ?_
    with_reducible refine OP.call [(Value.pointer (some ⟨p, 0, none⟩))] gf_45 ?_ ?_ hcl12 ?_
    · exact rfl
    · decide
    clear hcl12
    rintro _ w10 ⟨_, rfl, rfl, hs11⟩
    refine ⟨_, rfl, ?_⟩
    have hs13 : sat W0 [blk p [(Value.slice a1_1 xs.length c1_2), (Value.int .i64 most), (Value.int .i64 size)] 92, SL false 3 a1_1 xs.length c1_2 (xs.flatMap encB), F] w10 := sat_flat' [blk p [(Value.slice a1_1 xs.length c1_2), (Value.int .i64 most), (Value.int .i64 size)] 92] [SL false 3 a1_1 xs.length c1_2 (xs.flatMap encB), F] hs11 (by kernel_rfl) (by kernel_rfl)
    refine ⟨?_, ?_⟩
    · exact hs13
    refine WA.take 2 rfl rfl rfl rfl (by kernel_rfl) (by kernel_rfl) (by kernel_rfl) ?_ (by decide) (v := (Value.bool (decide (most > 0)))) (fun w15 hw14 => OP.move (Value.bool (decide (most > 0))) rfl (by decide) ⟨rfl, rfl⟩) ?_
    · exact hs13
    by_cases hc16 : most > 0
    · refine WA.takeG 3 rfl rfl rfl rfl rfl (Eq.trans (b := .bool (decide (most > 0))) rfl (congrArg Value.bool (decide_eq_true hc16))) (by kernel_rfl) (by kernel_rfl) (by kernel_rfl) ?_ (by decide) (v := (Value.pointer (some ⟨p, 0, none⟩))) (fun w18 hw17 => OP.move (Value.pointer (some ⟨p, 0, none⟩)) rfl (by decide) ⟨rfl, rfl⟩) ?_
      · exact hs13
      refine WA.takeG 4 rfl rfl rfl rfl rfl (Eq.trans (b := .bool (decide (most > 0))) rfl (congrArg Value.bool (decide_eq_true hc16))) (by kernel_rfl) (by kernel_rfl) (by kernel_rfl) ?_ (by decide) (v := (Value.pointer (some ⟨p, 0, none⟩))) (fun w20 hw19 => OP.nilCheck rfl (by decide) ⟨rfl, rfl⟩) ?_
      · exact hs13
      refine WA.takeG 5 rfl rfl rfl rfl rfl (Eq.trans (b := .bool (decide (most > 0))) rfl (congrArg Value.bool (decide_eq_true hc16))) (by kernel_rfl) (by kernel_rfl) (by kernel_rfl) ?_ (by decide) (v := (Value.pointer (some ⟨p, 0, none⟩))) (fun w22 hw21 => OP.fieldAddr 0 fo_92_0 rfl rfl (by decide) ⟨rfl, rfl⟩) ?_
      · exact hs13
      refine WA.takeG 6 rfl rfl rfl rfl rfl (Eq.trans (b := .bool (decide (most > 0))) rfl (congrArg Value.bool (decide_eq_true hc16))) (by kernel_rfl) (by kernel_rfl) (by kernel_rfl) ?_ (by decide) (v := (Value.slice a1_1 xs.length c1_2)) (fun w24 hw23 => OP.loadS (Value.slice a1_1 xs.length c1_2) sc_44 rfl (sat_cell 0 hw23 rfl rfl) (by decide) ⟨rfl, rfl⟩) ?_
      · exact hs13
      refine WA.takeG 7 rfl rfl rfl rfl rfl (Eq.trans (b := .bool (decide (most > 0))) rfl (congrArg Value.bool (decide_eq_true hc16))) (by kernel_rfl) (by kernel_rfl) (by kernel_rfl) ?_ (by decide) (v := (Value.int .i64 ((xs.length : Nat) : Int))) (fun w26 hw25 => OP.len Try.underlying44 rfl rfl (by decide) ⟨rfl, rfl⟩) ?_
      · exact hs13
      refine WA.takeG 8 rfl rfl rfl rfl rfl (Eq.trans (b := .bool (decide (most > 0))) rfl (congrArg Value.bool (decide_eq_true hc16))) (by kernel_rfl) (by kernel_rfl) (by kernel_rfl) ?_ (by decide) (v := (Value.pointer (some ⟨p, 0, none⟩))) (fun w28 hw27 => OP.move (Value.pointer (some ⟨p, 0, none⟩)) rfl (by decide) ⟨rfl, rfl⟩) ?_
      · exact hs13
      refine WA.takeG 9 rfl rfl rfl rfl rfl (Eq.trans (b := .bool (decide (most > 0))) rfl (congrArg Value.bool (decide_eq_true hc16))) (by kernel_rfl) (by kernel_rfl) (by kernel_rfl) ?_ (by decide) (v := (Value.pointer (some ⟨p, 0, none⟩))) (fun w30 hw29 => OP.nilCheck rfl (by decide) ⟨rfl, rfl⟩) ?_
      · exact hs13
      refine WA.takeG 10 rfl rfl rfl rfl rfl (Eq.trans (b := .bool (decide (most > 0))) rfl (congrArg Value.bool (decide_eq_true hc16))) (by kernel_rfl) (by kernel_rfl) (by kernel_rfl) ?_ (by decide) (v := (Value.pointer (some ⟨p, 1, none⟩))) (fun w32 hw31 => OP.fieldAddr 1 fo_92_1 rfl rfl (by decide) ⟨rfl, rfl⟩) ?_
      · exact hs13
      refine WA.takeG 11 rfl rfl rfl rfl rfl (Eq.trans (b := .bool (decide (most > 0))) rfl (congrArg Value.bool (decide_eq_true hc16))) (by kernel_rfl) (by kernel_rfl) (by kernel_rfl) ?_ (by decide) (v := (Value.int .i64 most)) (fun w34 hw33 => OP.loadS (Value.int .i64 most) sc_3 rfl (sat_cell 0 hw33 rfl rfl) (by decide) ⟨rfl, rfl⟩) ?_
      · exact hs13
      refine WA.takeG 12 rfl rfl rfl rfl rfl (Eq.trans (b := .bool (decide (most > 0))) rfl (congrArg Value.bool (decide_eq_true hc16))) (by kernel_rfl) (by kernel_rfl) (by kernel_rfl) ?_ (by decide) (v := (Value.bool (decide (((xs.length : Nat) : Int) = most)))) (fun w36 hw35 => OP.eqI rfl rfl (by decide) ⟨rfl, rfl⟩) ?_
      · exact hs13
      refine WA.take 13 rfl rfl rfl rfl (by kernel_rfl) (by kernel_rfl) (by kernel_rfl) ?_ (by decide) (v := (Value.bool (decide (((xs.length : Nat) : Int) = most)))) (fun w38 hw37 => OP.pickT (Value.bool (decide (((xs.length : Nat) : Int) = most))) (Eq.trans (b := .bool (decide (most > 0))) rfl (congrArg Value.bool (decide_eq_true hc16))) rfl (by decide) ⟨rfl, rfl⟩) ?_
      · exact hs13
      refine WA.take 14 rfl rfl rfl rfl (by kernel_rfl) (by kernel_rfl) (by kernel_rfl) ?_ (by decide) (v := (Value.bool (decide (((xs.length : Nat) : Int) = most)))) (fun w40 hw39 => OP.assign (Value.bool (decide (((xs.length : Nat) : Int) = most))) rfl (by decide) ⟨rfl, rfl⟩) ?_
      · exact hs13
      refine WA.done (by kernel_rfl) ?_
      refine (Qn.then ?_)
      refine W.ret (RetQ.of [(Value.bool (decide (((xs.length : Nat) : Int) = most)))] (.inr rfl) Try.results24 (.cons (.tmp (by decide) rfl) .nil) ?_)
      have hs42 : sat W0 [BufRep p xs most size, F] w10 := BufRep_close a1_1 c1_2 trivial hs13
      exact ⟨(by first | exact absurd hc16 (by omega) | (rw [← abs_len hm]; rfl)), hs42⟩
    · refine WA.passG 3 rfl rfl rfl rfl (Eq.trans (b := .bool (decide (most > 0))) rfl (congrArg Value.bool (decide_eq_false hc16))) rfl (by kernel_rfl) (by kernel_rfl) (by kernel_rfl) ?_ (by decide) ?_
      · exact hs13
      refine WA.passG 4 rfl rfl rfl rfl (Eq.trans (b := .bool (decide (most > 0))) rfl (congrArg Value.bool (decide_eq_false hc16))) rfl (by kernel_rfl) (by kernel_rfl) (by kernel_rfl) ?_ (by decide) ?_
      · exact hs13
      refine WA.passG 5 rfl rfl rfl rfl (Eq.trans (b := .bool (decide (most > 0))) rfl (congrArg Value.bool (decide_eq_false hc16))) rfl (by kernel_rfl) (by kernel_rfl) (by kernel_rfl) ?_ (by decide) ?_
      · exact hs13
      refine WA.passG 6 rfl rfl rfl rfl (Eq.trans (b := .bool (decide (most > 0))) rfl (congrArg Value.bool (decide_eq_false hc16))) rfl (by kernel_rfl) (by kernel_rfl) (by kernel_rfl) ?_ (by decide) ?_
      · exact hs13
      refine WA.passG 7 rfl rfl rfl rfl (Eq.trans (b := .bool (decide (most > 0))) rfl (congrArg Value.bool (decide_eq_false hc16))) rfl (by kernel_rfl) (by kernel_rfl) (by kernel_rfl) ?_ (by decide) ?_
      · exact hs13
      refine WA.passG 8 rfl rfl rfl rfl (Eq.trans (b := .bool (decide (most > 0))) rfl (congrArg Value.bool (decide_eq_false hc16))) rfl (by kernel_rfl) (by kernel_rfl) (by kernel_rfl) ?_ (by decide) ?_
      · exact hs13
      refine WA.passG 9 rfl rfl rfl rfl (Eq.trans (b := .bool (decide (most > 0))) rfl (congrArg Value.bool (decide_eq_false hc16))) rfl (by kernel_rfl) (by kernel_rfl) (by kernel_rfl) ?_ (by decide) ?_
      · exact hs13
      refine WA.passG 10 rfl rfl rfl rfl (Eq.trans (b := .bool (decide (most > 0))) rfl (congrArg Value.bool (decide_eq_false hc16))) rfl (by kernel_rfl) (by kernel_rfl) (by kernel_rfl) ?_ (by decide) ?_
      · exact hs13
      refine WA.passG 11 rfl rfl rfl rfl (Eq.trans (b := .bool (decide (most > 0))) rfl (congrArg Value.bool (decide_eq_false hc16))) rfl (by kernel_rfl) (by kernel_rfl) (by kernel_rfl) ?_ (by decide) ?_
      · exact hs13
      refine WA.passG 12 rfl rfl rfl rfl (Eq.trans (b := .bool (decide (most > 0))) rfl (congrArg Value.bool (decide_eq_false hc16))) rfl (by kernel_rfl) (by kernel_rfl) (by kernel_rfl) ?_ (by decide) ?_
      · exact hs13
      refine WA.take 13 rfl rfl rfl rfl (by kernel_rfl) (by kernel_rfl) (by kernel_rfl) ?_ (by decide) (v := (Value.bool false)) (fun w44 hw43 => OP.pickF (Value.bool false) (Eq.trans (b := .bool (decide (most > 0))) rfl (congrArg Value.bool (decide_eq_false hc16))) rfl (by decide) ⟨rfl, rfl⟩) ?_
      · exact hs13
      refine WA.take 14 rfl rfl rfl rfl (by kernel_rfl) (by kernel_rfl) (by kernel_rfl) ?_ (by decide) (v := (Value.bool false)) (fun w46 hw45 => OP.assign (Value.bool false) rfl (by decide) ⟨rfl, rfl⟩) ?_
      · exact hs13
      refine WA.done (by kernel_rfl) ?_
      refine (Qn.then ?_)
      refine W.ret (RetQ.of [(Value.bool false)] (.inr rfl) Try.results24 (.cons (.tmp (by decide) rfl) .nil) ?_)
      have hs48 : sat W0 [BufRep p xs most size, F] w10 := BufRep_close a1_1 c1_2 trivial hs13
      exact ⟨(by first | exact absurd hc16 (by omega) | (rw [← abs_len hm]; rfl)), hs48⟩
  exact WAs.nil

theorem buffer_New_bad {W0 : World} {F : HProp} {w : World}  (most : Int) (size : Int) (hb : most < 1 ∨ most > 1024 ∨ size < 1 ∨ size > 8192) 
    (hs : sat W0 [F] w) :
    Calls Try.prog 13 ([(Value.int .i64 most), (Value.int .i64 size)] : List Value).toArray w (fun x_ w' => ∃ v_, x_ = .returned v_ ∧ (v_ = (Value.tuple #[(Value.pointer none), (Value.int .i64 2)]) ∧ sat W0 [F] w')) := by
  refine W.enter Try.func13 rfl Try.ntmps13 (by simp) ?_
  refine W.seq ?_
  refine W.region ?_
  refine WL.cons rfl (OP.assign (Value.pointer none) rfl (by decide) ?_)
  refine WL.cons rfl (OP.assign (Value.int .i64 0) rfl (by decide) ?_)
  refine WL.nil (Qn.then ?_)
  refine W.seq ?_
  refine W.seq ?_
  refine W.region ?_
  refine WL.cons rfl (OP.move (Value.int .i64 most) rfl (by decide) ?_)
  refine WL.cons rfl (OP.lss rfl rfl (by decide) ?_)
  refine WL.cons rfl (OP.move (Value.bool (decide (most < 1))) rfl (by decide) ?_)
  by_cases hc1 : most < 1
  · refine WL.pass rfl rfl (Eq.trans (b := .bool (decide (most < 1))) rfl (congrArg Value.bool (decide_eq_true hc1))) rfl rfl (by decide) ?_
    refine WL.pass rfl rfl (Eq.trans (b := .bool (decide (most < 1))) rfl (congrArg Value.bool (decide_eq_true hc1))) rfl rfl (by decide) ?_
    refine WL.cons rfl (OP.pickT (Value.bool true) (Eq.trans (b := .bool (decide (most < 1))) rfl (congrArg Value.bool (decide_eq_true hc1))) rfl (by decide) ?_)
    refine WL.cons rfl (OP.move (Value.bool true) rfl (by decide) ?_)
    refine WL.pass rfl rfl rfl rfl rfl (by decide) ?_
    refine WL.pass rfl rfl rfl rfl rfl (by decide) ?_
    refine WL.cons rfl (OP.pickT (Value.bool true) rfl rfl (by decide) ?_)
    refine WL.cons rfl (OP.move (Value.bool true) rfl (by decide) ?_)
    refine WL.pass rfl rfl rfl rfl rfl (by decide) ?_
    refine WL.pass rfl rfl rfl rfl rfl (by decide) ?_
    refine WL.cons rfl (OP.pickT (Value.bool true) rfl rfl (by decide) ?_)
    refine WL.nil (Qn.then ?_)
    refine W.iteT rfl ?_
    refine W.seq ?_
    refine W.region ?_
    refine WL.cons rfl (OP.assign (Value.pointer none) rfl (by decide) ?_)
    refine WL.cons rfl (OP.assign (Value.int .i64 2) rfl (by decide) ?_)
    refine WL.nil (Qn.then ?_)
    refine W.ret (Qr.then (RetQ.of [(Value.pointer none), (Value.int .i64 2)] (.inr rfl) Try.results13 (.cons (.tmp (by decide) rfl) (.cons (.tmp (by decide) rfl) .nil)) ?_))
    exact ⟨rfl, hs⟩
  · refine WL.consG rfl rfl (Eq.trans (b := .bool (decide (most < 1))) rfl (congrArg Value.bool (decide_eq_false hc1))) (OP.move (Value.int .i64 most) rfl (by decide) ?_)
    refine WL.consG rfl rfl (Eq.trans (b := .bool (decide (most < 1))) rfl (congrArg Value.bool (decide_eq_false hc1))) (OP.gtr rfl rfl (by decide) ?_)
    refine WL.cons rfl (OP.pickF (Value.bool (decide (most > 1024))) (Eq.trans (b := .bool (decide (most < 1))) rfl (congrArg Value.bool (decide_eq_false hc1))) rfl (by decide) ?_)
    refine WL.cons rfl (OP.move (Value.bool (decide (most > 1024))) rfl (by decide) ?_)
    by_cases hc3 : most > 1024
    · refine WL.pass rfl rfl (Eq.trans (b := .bool (decide (most > 1024))) rfl (congrArg Value.bool (decide_eq_true hc3))) rfl rfl (by decide) ?_
      refine WL.pass rfl rfl (Eq.trans (b := .bool (decide (most > 1024))) rfl (congrArg Value.bool (decide_eq_true hc3))) rfl rfl (by decide) ?_
      refine WL.cons rfl (OP.pickT (Value.bool true) (Eq.trans (b := .bool (decide (most > 1024))) rfl (congrArg Value.bool (decide_eq_true hc3))) rfl (by decide) ?_)
      refine WL.cons rfl (OP.move (Value.bool true) rfl (by decide) ?_)
      refine WL.pass rfl rfl rfl rfl rfl (by decide) ?_
      refine WL.pass rfl rfl rfl rfl rfl (by decide) ?_
      refine WL.cons rfl (OP.pickT (Value.bool true) rfl rfl (by decide) ?_)
      refine WL.nil (Qn.then ?_)
      refine W.iteT rfl ?_
      refine W.seq ?_
      refine W.region ?_
      refine WL.cons rfl (OP.assign (Value.pointer none) rfl (by decide) ?_)
      refine WL.cons rfl (OP.assign (Value.int .i64 2) rfl (by decide) ?_)
      refine WL.nil (Qn.then ?_)
      refine W.ret (Qr.then (RetQ.of [(Value.pointer none), (Value.int .i64 2)] (.inr rfl) Try.results13 (.cons (.tmp (by decide) rfl) (.cons (.tmp (by decide) rfl) .nil)) ?_))
      exact ⟨rfl, hs⟩
    · refine WL.consG rfl rfl (Eq.trans (b := .bool (decide (most > 1024))) rfl (congrArg Value.bool (decide_eq_false hc3))) (OP.move (Value.int .i64 size) rfl (by decide) ?_)
      refine WL.consG rfl rfl (Eq.trans (b := .bool (decide (most > 1024))) rfl (congrArg Value.bool (decide_eq_false hc3))) (OP.lss rfl rfl (by decide) ?_)
      refine WL.cons rfl (OP.pickF (Value.bool (decide (size < 1))) (Eq.trans (b := .bool (decide (most > 1024))) rfl (congrArg Value.bool (decide_eq_false hc3))) rfl (by decide) ?_)
      refine WL.cons rfl (OP.move (Value.bool (decide (size < 1))) rfl (by decide) ?_)
      by_cases hc5 : size < 1
      · refine WL.pass rfl rfl (Eq.trans (b := .bool (decide (size < 1))) rfl (congrArg Value.bool (decide_eq_true hc5))) rfl rfl (by decide) ?_
        refine WL.pass rfl rfl (Eq.trans (b := .bool (decide (size < 1))) rfl (congrArg Value.bool (decide_eq_true hc5))) rfl rfl (by decide) ?_
        refine WL.cons rfl (OP.pickT (Value.bool true) (Eq.trans (b := .bool (decide (size < 1))) rfl (congrArg Value.bool (decide_eq_true hc5))) rfl (by decide) ?_)
        refine WL.nil (Qn.then ?_)
        refine W.iteT rfl ?_
        refine W.seq ?_
        refine W.region ?_
        refine WL.cons rfl (OP.assign (Value.pointer none) rfl (by decide) ?_)
        refine WL.cons rfl (OP.assign (Value.int .i64 2) rfl (by decide) ?_)
        refine WL.nil (Qn.then ?_)
        refine W.ret (Qr.then (RetQ.of [(Value.pointer none), (Value.int .i64 2)] (.inr rfl) Try.results13 (.cons (.tmp (by decide) rfl) (.cons (.tmp (by decide) rfl) .nil)) ?_))
        exact ⟨rfl, hs⟩
      · refine WL.consG rfl rfl (Eq.trans (b := .bool (decide (size < 1))) rfl (congrArg Value.bool (decide_eq_false hc5))) (OP.move (Value.int .i64 size) rfl (by decide) ?_)
        refine WL.consG rfl rfl (Eq.trans (b := .bool (decide (size < 1))) rfl (congrArg Value.bool (decide_eq_false hc5))) (OP.gtr rfl rfl (by decide) ?_)
        refine WL.cons rfl (OP.pickF (Value.bool (decide (size > 8192))) (Eq.trans (b := .bool (decide (size < 1))) rfl (congrArg Value.bool (decide_eq_false hc5))) rfl (by decide) ?_)
        refine WL.nil (Qn.then ?_)
        refine W.iteP (p := size > 8192) rfl (fun hc7 => ?_) (fun hc7 => ?_)
        · refine W.seq ?_
          refine W.region ?_
          refine WL.cons rfl (OP.assign (Value.pointer none) rfl (by decide) ?_)
          refine WL.cons rfl (OP.assign (Value.int .i64 2) rfl (by decide) ?_)
          refine WL.nil (Qn.then ?_)
          refine W.ret (Qr.then (RetQ.of [(Value.pointer none), (Value.int .i64 2)] (.inr rfl) Try.results13 (.cons (.tmp (by decide) rfl) (.cons (.tmp (by decide) rfl) .nil)) ?_))
          exact ⟨rfl, hs⟩
        · refine W.skip (Qn.then ?_)
          refine W.seq ?_
          omega

theorem buffer_New_ok {W0 : World} {F : HProp} {w : World}  (most : Int) (size : Int) (hb : ¬ (most < 1 ∨ most > 1024 ∨ size < 1 ∨ size > 8192)) 
    (hs : sat W0 [F] w) :
    Calls Try.prog 13 ([(Value.int .i64 most), (Value.int .i64 size)] : List Value).toArray w (fun x_ w' => ∃ v_, x_ = .returned v_ ∧ (∃ b_ : Nat, v_ = (Value.tuple #[(Value.pointer (some ⟨b_, 0, none⟩)), (Value.int .i64 0)]) ∧ sat W0 [BufRep b_ ([] : List BEnt) most size, F] w')) := by
  refine W.enter Try.func13 rfl Try.ntmps13 (by simp) ?_
  refine W.seq ?_
  refine W.region ?_
  refine WL.cons rfl (OP.assign (Value.pointer none) rfl (by decide) ?_)
  refine WL.cons rfl (OP.assign (Value.int .i64 0) rfl (by decide) ?_)
  refine WL.nil (Qn.then ?_)
  refine W.seq ?_
  refine W.seq ?_
  refine W.region ?_
  refine WL.cons rfl (OP.move (Value.int .i64 most) rfl (by decide) ?_)
  refine WL.cons rfl (OP.lss rfl rfl (by decide) ?_)
  refine WL.cons rfl (OP.move (Value.bool (decide (most < 1))) rfl (by decide) ?_)
  by_cases hc1 : most < 1
  · refine WL.pass rfl rfl (Eq.trans (b := .bool (decide (most < 1))) rfl (congrArg Value.bool (decide_eq_true hc1))) rfl rfl (by decide) ?_
    refine WL.pass rfl rfl (Eq.trans (b := .bool (decide (most < 1))) rfl (congrArg Value.bool (decide_eq_true hc1))) rfl rfl (by decide) ?_
    refine WL.cons rfl (OP.pickT (Value.bool true) (Eq.trans (b := .bool (decide (most < 1))) rfl (congrArg Value.bool (decide_eq_true hc1))) rfl (by decide) ?_)
    refine WL.cons rfl (OP.move (Value.bool true) rfl (by decide) ?_)
    refine WL.pass rfl rfl rfl rfl rfl (by decide) ?_
    refine WL.pass rfl rfl rfl rfl rfl (by decide) ?_
    refine WL.cons rfl (OP.pickT (Value.bool true) rfl rfl (by decide) ?_)
    refine WL.cons rfl (OP.move (Value.bool true) rfl (by decide) ?_)
    refine WL.pass rfl rfl rfl rfl rfl (by decide) ?_
    refine WL.pass rfl rfl rfl rfl rfl (by decide) ?_
    refine WL.cons rfl (OP.pickT (Value.bool true) rfl rfl (by decide) ?_)
    refine WL.nil (Qn.then ?_)
    refine W.iteT rfl ?_
    refine W.seq ?_
    omega
  · refine WL.consG rfl rfl (Eq.trans (b := .bool (decide (most < 1))) rfl (congrArg Value.bool (decide_eq_false hc1))) (OP.move (Value.int .i64 most) rfl (by decide) ?_)
    refine WL.consG rfl rfl (Eq.trans (b := .bool (decide (most < 1))) rfl (congrArg Value.bool (decide_eq_false hc1))) (OP.gtr rfl rfl (by decide) ?_)
    refine WL.cons rfl (OP.pickF (Value.bool (decide (most > 1024))) (Eq.trans (b := .bool (decide (most < 1))) rfl (congrArg Value.bool (decide_eq_false hc1))) rfl (by decide) ?_)
    refine WL.cons rfl (OP.move (Value.bool (decide (most > 1024))) rfl (by decide) ?_)
    by_cases hc2 : most > 1024
    · refine WL.pass rfl rfl (Eq.trans (b := .bool (decide (most > 1024))) rfl (congrArg Value.bool (decide_eq_true hc2))) rfl rfl (by decide) ?_
      refine WL.pass rfl rfl (Eq.trans (b := .bool (decide (most > 1024))) rfl (congrArg Value.bool (decide_eq_true hc2))) rfl rfl (by decide) ?_
      refine WL.cons rfl (OP.pickT (Value.bool true) (Eq.trans (b := .bool (decide (most > 1024))) rfl (congrArg Value.bool (decide_eq_true hc2))) rfl (by decide) ?_)
      refine WL.cons rfl (OP.move (Value.bool true) rfl (by decide) ?_)
      refine WL.pass rfl rfl rfl rfl rfl (by decide) ?_
      refine WL.pass rfl rfl rfl rfl rfl (by decide) ?_
      refine WL.cons rfl (OP.pickT (Value.bool true) rfl rfl (by decide) ?_)
      refine WL.nil (Qn.then ?_)
      refine W.iteT rfl ?_
      refine W.seq ?_
      omega
    · refine WL.consG rfl rfl (Eq.trans (b := .bool (decide (most > 1024))) rfl (congrArg Value.bool (decide_eq_false hc2))) (OP.move (Value.int .i64 size) rfl (by decide) ?_)
      refine WL.consG rfl rfl (Eq.trans (b := .bool (decide (most > 1024))) rfl (congrArg Value.bool (decide_eq_false hc2))) (OP.lss rfl rfl (by decide) ?_)
      refine WL.cons rfl (OP.pickF (Value.bool (decide (size < 1))) (Eq.trans (b := .bool (decide (most > 1024))) rfl (congrArg Value.bool (decide_eq_false hc2))) rfl (by decide) ?_)
      refine WL.cons rfl (OP.move (Value.bool (decide (size < 1))) rfl (by decide) ?_)
      by_cases hc3 : size < 1
      · refine WL.pass rfl rfl (Eq.trans (b := .bool (decide (size < 1))) rfl (congrArg Value.bool (decide_eq_true hc3))) rfl rfl (by decide) ?_
        refine WL.pass rfl rfl (Eq.trans (b := .bool (decide (size < 1))) rfl (congrArg Value.bool (decide_eq_true hc3))) rfl rfl (by decide) ?_
        refine WL.cons rfl (OP.pickT (Value.bool true) (Eq.trans (b := .bool (decide (size < 1))) rfl (congrArg Value.bool (decide_eq_true hc3))) rfl (by decide) ?_)
        refine WL.nil (Qn.then ?_)
        refine W.iteT rfl ?_
        refine W.seq ?_
        omega
      · refine WL.consG rfl rfl (Eq.trans (b := .bool (decide (size < 1))) rfl (congrArg Value.bool (decide_eq_false hc3))) (OP.move (Value.int .i64 size) rfl (by decide) ?_)
        refine WL.consG rfl rfl (Eq.trans (b := .bool (decide (size < 1))) rfl (congrArg Value.bool (decide_eq_false hc3))) (OP.gtr rfl rfl (by decide) ?_)
        refine WL.cons rfl (OP.pickF (Value.bool (decide (size > 8192))) (Eq.trans (b := .bool (decide (size < 1))) rfl (congrArg Value.bool (decide_eq_false hc3))) rfl (by decide) ?_)
        refine WL.nil (Qn.then ?_)
        refine W.iteP (p := size > 8192) rfl (fun hc4 => ?_) (fun hc4 => ?_)
        · refine W.seq ?_
          omega
        · refine W.skip (Qn.then ?_)
          refine W.seq ?_
          refine W.region ?_
          refine WL.cons rfl (OP.move (Value.int .i64 most) rfl (by decide) ?_)
          refine WL.cons rfl (OP.move (Value.int .i64 size) rfl (by decide) ?_)
          refine WL.cons rfl (OP.build [(1, (Value.int .i64 most)), (2, (Value.int .i64 size))] [(Value.slice none 0 0), (Value.int .i64 most), (Value.int .i64 size)] rfl (by kernel_rfl) (by decide) ?_)
          refine WL.cons rfl (OP.box (Value.agg [(Value.slice none 0 0), (Value.int .i64 most), (Value.int .i64 size)].toArray) [(Value.slice none 0 0), (Value.int .i64 most), (Value.int .i64 size)] hs rfl rfl (by decide) (fun b5 w6 hs7 => ?_))
          refine WL.cons rfl (OP.assign (Value.pointer (some ⟨b5, 0, none⟩)) rfl (by decide) ?_)
          refine WL.cons rfl (OP.assign (Value.int .i64 0) rfl (by decide) ?_)
          refine WL.nil (Qn.then ?_)
          have hs8 : sat W0 [SL false 3 none (([] : List BEnt).length) 0 (([] : List BEnt).flatMap encB), blk b5 [(Value.slice none (([] : List BEnt).length) 0), (Value.int .i64 most), (Value.int .i64 size)] 92, F] w6 := sat_SL_nil hs7
          refine W.ret (RetQ.of [(Value.pointer (some ⟨b5, 0, none⟩)), (Value.int .i64 0)] (.inr rfl) Try.results13 (.cons (.tmp (by decide) rfl) (.cons (.tmp (by decide) rfl) .nil)) ?_)
          have hs10 : sat W0 [blk b5 [(Value.slice none (([] : List BEnt).length) 0), (Value.int .i64 most), (Value.int .i64 size)] 92, SL false 3 none (([] : List BEnt).length) 0 (([] : List BEnt).flatMap encB), F] w6 := sat_sel' [1, 0, 2] hs8 (by kernel_rfl) (by kernel_rfl)
          have hs11 : sat W0 [BufRep b5 ([] : List BEnt) most size, F] w6 := BufRep_close none 0 trivial hs10
          exact ⟨b5, rfl, hs11⟩

end Go.Proofs.Ytleolejhkdolpaa
