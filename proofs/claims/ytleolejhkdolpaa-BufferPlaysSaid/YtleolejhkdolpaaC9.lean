import Derived.Test.YtleolejhkdolpaaC7
import Derived.KernelRfl
set_option linter.unusedVariables false
set_option linter.unusedSimpArgs false
set_option maxRecDepth 100000
set_option maxHeartbeats 4000000
namespace Go.Proofs.Ytleolejhkdolpaa
open Go Go.RowKit Sv
theorem slices_Delete_ent {W0 : World} {F : HProp} {w : World}  (a : Option Addr) (c : Nat) (xs : List BEnt) (iv : Int) (hn : xs.length ≤ 1099511627) (hi : 0 ≤ iv ∧ iv < (xs.length : Int)) 
    (hs : sat W0 [SL false 3 a xs.length c (xs.flatMap encB), F] w) :
    Calls Try.prog 50 ([(Value.slice a xs.length c), (Value.int .i64 iv), (Value.int .i64 (iv + 1))] : List Value).toArray w (fun x_ w' => ∃ v_, x_ = .returned v_ ∧ (v_ = (Value.slice a ((xs.eraseIdx iv.toNat).length) c) ∧ sat W0 [SL false 3 a ((xs.eraseIdx iv.toNat).length) c ((xs.eraseIdx iv.toNat).flatMap encB), F] w')) := by
  have hlen_ := sat_SL_len hs
  have hel_ : (xs.eraseIdx iv.toNat).length = xs.length - 1 := List.length_eraseIdx_of_lt (by omega)
  refine W.enter Try.func50 rfl Try.ntmps50 (by simp) ?_
  refine W.seq ?_
  refine W.region ?_
  refine WL.cons rfl (OP.assign (Value.slice none 0 0) rfl (by decide) ?_)
  refine WL.nil (Qn.then ?_)
  refine W.seq ?_
  refine W.region ?_
  refine WL.cons rfl (OP.move (Value.slice a xs.length c) rfl (by decide) ?_)
  refine WL.cons rfl (OP.move (Value.int .i64 iv) rfl (by decide) ?_)
  refine WL.cons rfl (OP.move (Value.int .i64 (iv + 1)) rfl (by decide) ?_)
  refine WL.cons rfl (OP.move (Value.slice a xs.length c) rfl (by decide) ?_)
  refine WL.cons rfl (OP.len Try.underlying44 rfl rfl (by decide) ?_)
  refine WL.cons rfl (OP.slice3 iv.toNat (iv.toNat + 1) xs.length Try.underlying44 sz_48 rfl (Eq.trans (b := (Value.int .i64 iv)) rfl (congrArg (Value.int .i64) (by omega))) (Eq.trans (b := (Value.int .i64 (iv + 1))) rfl (congrArg (Value.int .i64) (by omega))) rfl (by omega) (by omega) (by omega) (by decide) ?_)
  refine WL.nil (Qn.then ?_)
  refine W.seq ?_
  refine W.seq ?_
  refine W.region ?_
  refine WL.cons rfl (OP.move (Value.int .i64 iv) rfl (by decide) ?_)
  refine WL.cons rfl (OP.move (Value.int .i64 (iv + 1)) rfl (by decide) ?_)
  refine WL.cons rfl (OP.eqI rfl rfl (by decide) ?_)
  refine WL.nil (Qn.then ?_)
  refine W.iteP (p := iv = iv + 1) rfl (fun hc1 => ?_) (fun hc1 => ?_)
  · refine W.seq ?_
    omega
  · refine W.skip (Qn.then ?_)
    refine W.seq ?_
    refine W.region ?_
    refine WL.cons rfl (OP.move (Value.slice a xs.length c) rfl (by decide) ?_)
    refine WL.cons rfl (OP.len Try.underlying44 rfl rfl (by decide) ?_)
    refine WL.cons rfl (OP.assign (Value.int .i64 ((xs.length : Nat) : Int)) rfl (by decide) ?_)
    refine WL.nil (Qn.then ?_)
    refine W.seq ?_
    refine W.draw (fun w => sat W0 [F] w) (by kernel_rfl) hs (fun w2 hs3 => ?_)
    refine WA.take 0 rfl rfl rfl rfl (by kernel_rfl) (by kernel_rfl) (by kernel_rfl) ?_ (by decide) (v := (Value.slice a xs.length c)) (fun w5 hw4 => OP.move (Value.slice a xs.length c) rfl (by decide) ⟨rfl, rfl⟩) ?_
    · exact sat_sub' [1] [0] hs3 (by kernel_rfl) (by kernel_rfl)
    refine WA.take 1 rfl rfl rfl rfl (by kernel_rfl) (by kernel_rfl) (by kernel_rfl) ?_ (by decide) (v := (Value.int .i64 iv)) (fun w7 hw6 => OP.move (Value.int .i64 iv) rfl (by decide) ⟨rfl, rfl⟩) ?_
    · exact sat_sub' [1] [0] hs3 (by kernel_rfl) (by kernel_rfl)
    refine WA.take 2 rfl rfl rfl rfl (by kernel_rfl) (by kernel_rfl) (by kernel_rfl) ?_ (by decide) (v := (Value.slice a iv.toNat c)) (fun w9 hw8 => OP.sliceTo iv.toNat Try.underlying44 sz_48 rfl (Eq.trans (b := (Value.int .i64 iv)) rfl (congrArg (Value.int .i64) (by omega))) (by omega) (by omega) (by decide) ⟨rfl, rfl⟩) ?_
    · exact sat_sub' [1] [0] hs3 (by kernel_rfl) (by kernel_rfl)
    refine WA.take 3 rfl rfl rfl rfl (by kernel_rfl) (by kernel_rfl) (by kernel_rfl) ?_ (by decide) (v := (Value.slice a xs.length c)) (fun w11 hw10 => OP.move (Value.slice a xs.length c) rfl (by decide) ⟨rfl, rfl⟩) ?_
    · exact sat_sub' [1] [0] hs3 (by kernel_rfl) (by kernel_rfl)
    refine WA.take 4 rfl rfl rfl rfl (by kernel_rfl) (by kernel_rfl) (by kernel_rfl) ?_ (by decide) (v := (Value.int .i64 (iv + 1))) (fun w13 hw12 => OP.move (Value.int .i64 (iv + 1)) rfl (by decide) ⟨rfl, rfl⟩) ?_
    · exact sat_sub' [1] [0] hs3 (by kernel_rfl) (by kernel_rfl)
    refine WA.take 5 rfl rfl rfl rfl (by kernel_rfl) (by kernel_rfl) (by kernel_rfl) ?_ (by decide) (v := (Value.slice (subA a (iv.toNat + 1) 3 c) (xs.length - (iv.toNat + 1)) (c - (iv.toNat + 1)))) (fun w15 hw14 => OP.sliceFrom (iv.toNat + 1) Try.underlying44 sz_48 rfl (Eq.trans (b := (Value.int .i64 (iv + 1))) rfl (congrArg (Value.int .i64) (by omega))) (by omega) (by omega) (by decide) ⟨rfl, rfl⟩) ?_
    · exact sat_sub' [1] [0] hs3 (by kernel_rfl) (by kernel_rfl)
    refine WA.all [6] (by kernel_rfl) (by simp) ?_
    refine WAs.cons (oi := (Go.Oper.mk (some 26) (Go.Op.call (Go.Call.mk (Go.Callee.builtin Go.Builtin.append) #[(Go.Operand.tmp 22), (Go.Operand.tmp 25)] #[44, 44])) 44 "slices.go:232" #[(Go.Edge.mk 2 Go.Ground.data), (Go.Edge.mk 5 Go.Ground.data)] none)) rfl rfl ?_ ?_
    · have hR_ : Rd w2 3 (subA a (iv.toNat + 1) 3 c) (xs.length - (iv.toNat + 1)) ((xs.drop (iv.toNat + 1)).flatMap encB) := by
        have h_ := Rd.sub (iv.toNat + 1) xs.length (Ent_sat 0 rfl Ent_SL hs3) (by omega) (Nat.le_refl _) hlen_.2
        rw [recs_drop (enc := encB) (sz := 3) (fun _ => rfl), List.take_of_length_le (by rw [recs_len (enc := encB) (sz := 3) (fun _ => rfl), List.length_drop]; omega)] at h_
        exact h_
      have hS_ := sat_SL_short (i := iv.toNat) (by omega) hs3
      rw [del_take] at hS_
      refine OP.appendIn hS_ hR_ Try.underlying44 sz_48 (by omega) (by omega) one_ents rfl rfl rfl (by decide) (fun w16 hs17 => ?_)
      have hs18 : sat W0 [SL false 3 a ((xs.eraseIdx iv.toNat).length) c ((xs.eraseIdx iv.toNat).flatMap encB), F] w16 := (by rw [← del_all (by omega), show ((xs.eraseIdx iv.toNat).length) = (iv.toNat + (xs.length - (iv.toNat + 1))) by rw [List.length_eraseIdx_of_lt (by omega)]; omega]; exact hs17)
      refine ⟨?_, ?_⟩
      · exact sat_sub' [1] [0] hs18 (by kernel_rfl) (by kernel_rfl)
      refine WA.take 7 rfl rfl rfl rfl (by kernel_rfl) (by kernel_rfl) (by kernel_rfl) ?_ (by decide) (v := (Value.slice a ((xs.eraseIdx iv.toNat).length) c)) (fun w20 hw19 => OP.assign (Value.slice a ((xs.eraseIdx iv.toNat).length) c) (Eq.trans (b := Value.slice a (iv.toNat + (xs.length - (iv.toNat + 1))) c) rfl (by rw [show ((xs.eraseIdx iv.toNat).length) = (iv.toNat + (xs.length - (iv.toNat + 1))) by rw [List.length_eraseIdx_of_lt (by omega)]; omega])) (by decide) ⟨rfl, rfl⟩) ?_
      · exact sat_sub' [1] [0] hs18 (by kernel_rfl) (by kernel_rfl)
      refine WA.done (by kernel_rfl) ?_
      refine (Qn.then ?_)
      refine W.seq ?_
      refine W.region ?_
      refine WL.cons rfl (OP.move (Value.slice a ((xs.eraseIdx iv.toNat).length) c) rfl (by decide) ?_)
      refine WL.cons rfl (OP.move (Value.slice a ((xs.eraseIdx iv.toNat).length) c) rfl (by decide) ?_)
      refine WL.cons rfl (OP.len Try.underlying44 rfl rfl (by decide) ?_)
      refine WL.cons rfl (OP.move (Value.int .i64 ((xs.length : Nat) : Int)) rfl (by decide) ?_)
      refine WL.cons rfl (OP.slice2 ((xs.eraseIdx iv.toNat).length) xs.length Try.underlying44 sz_48 rfl ⟨_, rfl⟩ ⟨_, rfl⟩ (by omega) (by omega) (by omega) (by decide) ?_)
      refine WL.cons rfl (OP.clearBehind (z := [(Value.int .i64 0), (Value.int .i64 0), (Value.slice none 0 0)]) hs18 Try.underlying44 ze_48 rfl rfl (by decide) (by omega) rfl rfl (fun w21 hs22 => ?_))
      have hs23 : sat W0 [SL false 3 a ((xs.eraseIdx iv.toNat).length) c ((xs.eraseIdx iv.toNat).flatMap encB), F] w21 := hs22
      refine WL.nil (Qn.then ?_)
      refine W.seq ?_
      refine W.region ?_
      refine WL.cons rfl (OP.move (Value.slice a ((xs.eraseIdx iv.toNat).length) c) rfl (by decide) ?_)
      refine WL.cons rfl (OP.assign (Value.slice a ((xs.eraseIdx iv.toNat).length) c) rfl (by decide) ?_)
      refine WL.nil (Qn.then ?_)
      refine W.ret (RetQ.of [(Value.slice a ((xs.eraseIdx iv.toNat).length) c)] (.inr rfl) Try.results50 (.cons (.tmp (by decide) rfl) .nil) ?_)
      exact ⟨rfl, hs23⟩
    exact WAs.nil

end Go.Proofs.Ytleolejhkdolpaa
