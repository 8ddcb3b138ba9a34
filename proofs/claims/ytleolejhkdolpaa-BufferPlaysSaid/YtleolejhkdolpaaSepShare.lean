/- Bytes that are known to stand: rows of bytes that nothing writes any more, or that the call found. -/
import Derived.Test.YtleolejhkdolpaaSepSub
namespace Sv
open Go Go.RowKit
variable {W0 : World} {L : List HProp} {w : World}
theorem sat_join {A B C : HProp} (hj : ∀ h1 h2 h, PH.le h1 h → PH.le h2 h → A h1 → B h2 → C h) (k : sat W0 (A :: B :: L) w) : sat W0 (C :: L) w := by
  obtain ⟨hb, h, hh, h1, h2, d, l1, l2, a, h3, h4, d', l3, l4, b, s⟩ := k
  refine ⟨hb, h, hh, PH.un h1 h3, h4, ?_, PH.un_le l1 (PH.le_trans l3 l2), PH.le_trans l4 l2, ?_, s⟩
  · exact PH.disj_symm (PH.disj_un (PH.disj_symm (PH.disj_mono d (PH.le_refl _) l4)) (PH.disj_symm d'))
  · exact hj h1 h3 _ (PH.le_un_left _ _) (PH.le_un_right (PH.disj_mono d (PH.le_refl _) l3)) a b
def datB (xs : List Int) : List Value := xs.map (Value.int .u8)
def shdOne (W0 : World) (x : Option Addr × List Int) (h : PH) : Prop := x.2 = [] ∨ ROs W0 1 x.1 x.2.length (datB x.2) ∨ ∃ b o T pre post, x.1 = some ⟨b, o, none⟩ ∧ pre.length = o ∧ h b = some (true, .cells (pre ++ datB x.2 ++ post).toArray T (0, 0))
/-- the bytes of every pair of D stand -/
def ShD (W0 : World) (D : List (Option Addr × List Int)) : HProp := fun h => ∀ x ∈ D, shdOne W0 x h
def DSub (D D' : List (Option Addr × List Int)) : Prop := ∀ x ∈ D, x ∈ D'
theorem DSub.refl {D : List (Option Addr × List Int)} : DSub D D := fun _ h => h
theorem DSub.cons {D : List (Option Addr × List Int)} {x : Option Addr × List Int} : DSub D (x :: D) := fun _ h => List.mem_cons_of_mem _ h
theorem DSub.trans {D D' D'' : List (Option Addr × List Int)} (h : DSub D D') (k : DSub D' D'') : DSub D D'' := fun x hx => k x (h x hx)
theorem shdOne_mono {x : Option Addr × List Int} {h h' : PH} (hl : PH.le h h') (k : shdOne W0 x h) : shdOne W0 x h' := by
  rcases k with k | k | ⟨b, o, T, pre, post, h1, h2, h3⟩
  · exact .inl k
  · exact .inr (.inl k)
  · exact .inr (.inr ⟨b, o, T, pre, post, h1, h2, hl _ _ h3⟩)
theorem Ent_ShD {D : List (Option Addr × List Int)} {a : Option Addr} {xs : List Int} (hx : (a, xs) ∈ D) : Ent W0 (ShD W0 D) (fun w => Rd w 1 a xs.length (datB xs)) := fun w k => by
  have k0 := k
  obtain ⟨_, h, hh, h1, h2, _, l1, _, hD, _⟩ := k
  have hl : (datB xs).length = xs.length * 1 := by simp [datB]
  rcases hD _ hx with e | hro | ⟨b, o, T, pre, post, ha, ho, hb⟩
  · simp only at e; subst e; exact ⟨hl, fun hn => absurd hn (by simp)⟩
  · exact Rd_ro hro k0
  · refine ⟨hl, fun _ => ?_⟩
    simp only at ha hb
    subst ho
    exact ⟨b, _, ha, rdn_of_heap (hh _ _ _ (l1 _ _ hb)).2 (take_mid pre (datB xs) post)⟩
theorem Ent_ShDm {D : List (Option Addr × List Int)} {a : Option Addr} {xs : List Int} (hx : (a, xs) ∈ D) : Ent W0 (ShD W0 D) (fun w => Rd w 1 a xs.length (xs.map (Value.int .u8))) := Ent_ShD hx
theorem sat_ShD_ro {D : List (Option Addr × List Int)} (hD : ∀ x ∈ D, ROs W0 1 x.1 x.2.length (datB x.2)) (k : sat W0 L w) : sat W0 (ShD W0 D :: L) w :=
  sat_imp (A := emp) (fun _ _ x hx => .inr (.inl (hD x hx))) (sat_emp_intro k)
theorem sat_ShD_add {D : List (Option Addr × List Int)} {a : Option Addr} {c : Nat} {xs : List Int} (k : sat W0 (SL false 1 a xs.length c (datB xs) :: ShD W0 D :: L) w) : sat W0 (ShD W0 ((a, xs) :: D) :: L) w := by
  refine sat_join (fun h1 h2 h l1 l2 hA hB x hx => ?_) (sat_SL_share k)
  rcases List.mem_cons.1 hx with rfl | hx
  · obtain ⟨g1, g2, ⟨g3, g4, _⟩ | ⟨b, o, T, pre, post, g3, g4, _, g5⟩⟩ := hA
    · exact .inl (List.length_eq_zero_iff.1 g4)
    · exact .inr (.inr ⟨b, o, T, pre, post, g3, g4, l1 _ _ g5⟩)
  · exact shdOne_mono l2 (hB x hx)
theorem sat_ShD_nil {D : List (Option Addr × List Int)} (k : sat W0 (ShD W0 D :: L) w) : sat W0 (ShD W0 ((none, []) :: D) :: L) w :=
  sat_imp (fun _ hA x hx => by
    rcases List.mem_cons.1 hx with rfl | hx
    · exact .inl rfl
    · exact hA x hx) k
theorem sat_ShD_two {D D' : List (Option Addr × List Int)} (k : sat W0 (ShD W0 D' :: ShD W0 D :: L) w) : sat W0 (ShD W0 (D' ++ D) :: L) w :=
  sat_join (fun h1 h2 h l1 l2 hA hB x hx => by
    rcases List.mem_append.1 hx with hx | hx
    · exact shdOne_mono l1 (hA x hx)
    · exact shdOne_mono l2 (hB x hx)) k
theorem sat_ShD_sub {D D' : List (Option Addr × List Int)} (h : DSub D D') (k : sat W0 (ShD W0 D' :: L) w) : sat W0 (ShD W0 D :: L) w :=
  sat_imp (fun _ hA x hx => hA x (h x hx)) k
end Sv
