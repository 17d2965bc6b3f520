/- Proved: Places of the program finds the places of the document and no others, for texts of at most 1048576 characters: a statement over numbers and lists alone, about the Lean functions of this seat's texts. No other condition. -/
import Derived.Test.YtihmbddneapooaaDoorPureBreaksB
import Derived.Test.YtihmbddneapooaaDoorQBSx5
namespace Go.Proofs.YtihmbddneapooaaDoor.Pure
open Go.RowKit Go.Proofs.YtihmbddneapooaaDoor.PMetricEms Go.Proofs.YtihmbddneapooaaDoor.HandMB Go.Proofs.YtihmbddneapooaaDoor.HandMEf Go.Proofs.YtihmbddneapooaaDoor.HandCL Go.Proofs.YtihmbddneapooaaDoor.QBS Go.Proofs.YtihmbddneapooaaDoor.HandBR Go.Proofs.YtihmbddneapooaaDoorW.PrintWords Go.Proofs.YtihmbddneapooaaDoorW.PrintLast Go.Proofs.YtihmbddneapooaaDoorW.PrintMore Go.Proofs.YtihmbddneapooaaDoor.Lib
set_option linter.unusedVariables false
set_option linter.unusedSimpArgs false
namespace BrkC
open BrkA (in_ok) 
open BrkB (All Ch outL outL_len outL_succ places_ok places_bad breakAt_ok decAt mayAt)
open BrkB (check_ok)
theorem charsError_ok (xs : List Int) (hl : xs.length ≤ 1048576) : (All xs → Ev (fun k => QBR.chanceryref3_CharsError.f k xs) 0) ∧ (¬ All xs → Ev (fun k => QBR.chanceryref3_CharsError.f k xs) 2) := by
  have go : ∀ i : Int, 0 ≤ i → i < xs.length → Ch (rd xs i) → ∀ r, Ev (fun k => QBR.chanceryref3_CharsError.l0 k xs (xs.length : Int) (i + 1)) r → Ev (fun k => QBR.chanceryref3_CharsError.l0 k xs (xs.length : Int) i) r := by
    intro i h0 h1 hc r h
    refine Ev.step (fun k => by rw [QBR.chanceryref3_CharsError.l0]) (Ev.pos h1 (Ev.pos h0 (Ev.pos h1 (Ev.bind0 (in_ok _ _ _) (Ev.dpos (p := 0 ≤ rd xs i ∧ rd xs i ≤ 1114111) hc ?_)))))
    rw [w64 (n := i + 1) (by omega) (by omega)]; exact h
  constructor
  · intro hA
    unfold QBR.chanceryref3_CharsError.f
    exact climb (g := fun i k => QBR.chanceryref3_CharsError.l0 k xs (xs.length : Int) i) (a := 0) (n := xs.length) (by omega) (Ev.step (fun k => by rw [QBR.chanceryref3_CharsError.l0]) (Ev.neg (by omega) (Ev.now _))) fun i h0 h1 h => go i h0 h1 (hA i h0 h1) _ h
  · intro hA
    unfold QBR.chanceryref3_CharsError.f
    rcases first_bad (fun i => Ch (rd xs i)) xs.length with h | ⟨j, j0, j1, hj, hb⟩
    · exact absurd h hA
    · refine climb (g := fun i k => QBR.chanceryref3_CharsError.l0 k xs (xs.length : Int) i) (a := 0) (n := j) (by omega) (Ev.step (fun k => by rw [QBR.chanceryref3_CharsError.l0]) (Ev.pos j1 (Ev.pos j0 (Ev.pos j1 (Ev.bind0 (in_ok _ _ _) (Ev.dneg (p := 0 ≤ rd xs j ∧ rd xs j ≤ 1114111) hj (Ev.now _))))))) fun i h0 h1 h => go i h0 (by omega) (hb i h0 h1) _ h
theorem same_ok (L : List S34) (hl : L.length ≤ 1048576) : Ev (fun k => chancerylaw3_BreaksPlaces.l1 k L L (L.length : Int) 0) true := by
  refine climb (g := fun i k => chancerylaw3_BreaksPlaces.l1 k L L (L.length : Int) i) (a := 0) (n := L.length) (by omega) (Ev.step (fun k => by rw [chancerylaw3_BreaksPlaces.l1]) (Ev.neg (by omega) (Ev.now _))) fun i h0 h1 h => ?_
  refine Ev.step (fun k => by rw [chancerylaw3_BreaksPlaces.l1]) (Ev.pos h1 (Ev.pos h0 (Ev.pos h1 (Ev.pos h1 (Ev.neg (by simp) ?_)))))
  rw [w64 (n := i + 1) (by omega) (by omega)]; exact h
theorem end_ok (L : List S34) (hl : L.length ≤ 1048576) (k : Int) (x0 : List Int) : Ev (fun k => chancerylaw3_BreaksPlaces.j2 k L L ((L.length : Int) != (L.length : Int))) true := by
  rw [bne_self_eq_false]
  exact Ev.step (fun k => by rw [chancerylaw3_BreaksPlaces.j2]) (Ev.neg (by simp) (same_ok L hl))
theorem loop_ok (t : List Int) (hl : t.length ≤ 1048576) : Ev (fun k => chancerylaw3_BreaksPlaces.l0 k t (outL t t.length) 0 ([] : List S34) 1) true := by
  have hlen := outL_len t t.length
  by_cases h1 : 1 ≤ (t.length : Int)
  · have o1 : outL t (1 : Int).toNat = [] := by
      show outL t (0 + 1) = []
      rw [outL, if_neg (by omega)]; rfl
    have key : Ev (fun k => chancerylaw3_BreaksPlaces.l0 k t (outL t t.length) 0 (outL t (1 : Int).toNat) 1) true := by
      refine climb (g := fun i k => chancerylaw3_BreaksPlaces.l0 k t (outL t t.length) 0 (outL t i.toNat) i) (a := 1) (n := t.length) h1 ?_ ?_
      · rw [show ((t.length : Int)).toNat = t.length by omega]
        exact Ev.step (fun k => by rw [chancerylaw3_BreaksPlaces.l0]) (Ev.neg (by omega) (Ev.pos rfl (end_ok _ (by omega) 0 t)))
      · intro i i0 i1 h
        have hli := outL_len t i.toNat
        rw [outL_succ t (by omega)] at h
        refine Ev.step (fun k => by rw [chancerylaw3_BreaksPlaces.l0]) (Ev.pos i1 (Ev.bind (breakAt_ok t hl i i0 i1) ?_))
        rw [w64 (n := i + 1) (by omega) (by omega)]
        by_cases g : (mayAt t i).2 = true
        · rw [if_pos ⟨by omega, g⟩] at h
          have e : decAt t i = (mayAt t i).1 := if_pos g
          rw [e]
          exact Ev.pos (BrkB.mayV_nn _ _ _ _ _) (Ev.pos (by omega) h)
        · rw [if_neg (fun x => g x.2)] at h
          have e : decAt t i = -1 := if_neg g
          rw [e]
          exact Ev.neg (by omega) h
    rw [o1] at key
    exact key
  · have e : t.length = 0 := by omega
    rw [e, show outL t 0 = [] from rfl]
    refine Ev.step (fun k => by rw [chancerylaw3_BreaksPlaces.l0]) ?_
    exact Ev.neg (by omega) (Ev.pos rfl (end_ok [] (by simp) 0 t))
theorem law_ok (t : List Int) (hl : t.length ≤ 1048576) : Ev (fun k => chancerylaw3_BreaksPlaces.j0 k t false) true := by
  refine Ev.step (fun k => by rw [chancerylaw3_BreaksPlaces.j0]) (Ev.neg (by simp) ?_)
  by_cases hA : All t
  · refine Ev.bind (places_ok t hl hA) (Ev.bind ((charsError_ok t hl).1 hA) (Ev.pos rfl ?_))
    by_cases g : (t.length : Int) > 300
    · exact Ev.pos g (Ev.ret rfl)
    · exact Ev.neg g (loop_ok t hl)
  · exact Ev.bind (places_bad t hl hA) (Ev.bind ((charsError_ok t hl).2 hA) (Ev.neg (show ¬ ((2 : Int) = 0) by omega) (Ev.pos rfl (Ev.ret rfl))))
theorem first_all : All [97, 32, 98, 45, 99] := by
  intro i h0 h1
  have h1' : i < 5 := h1
  unfold Ch
  have : i = 0 ∨ i = 1 ∨ i = 2 ∨ i = 3 ∨ i = 4 := by omega
  rcases this with rfl | rfl | rfl | rfl | rfl <;> decide
theorem first_len : ((outL [97, 32, 98, 45, 99] 5).length : Int) = 2 := by decide +kernel
theorem first_at : (rd_T34 (outL [97, 32, 98, 45, 99] 5) 1).f0 = 4 ∧ (rd_T34 (outL [97, 32, 98, 45, 99] 5) 1).f1 = 0 := by decide +kernel
end BrkC
open BrkC in
theorem BreaksPlaces (t : List Int) (hl : t.length ≤ 1048576) : ∃ k, chancerylaw3_BreaksPlaces.f k t = some true := by
  refine Ev.rounds (r := true) ?_
  unfold chancerylaw3_BreaksPlaces.f
  refine Ev.bind (BrkB.places_ok [97, 32, 98, 45, 99] (by decide) first_all) (Ev.pos rfl ?_)
  refine Ev.pos first_len (Ev.pos (by have := first_len; show 1 < ((BrkB.outL [97, 32, 98, 45, 99] 5).length : Int); omega) ?_)
  have e : (!((rd_T34 (BrkB.outL [97, 32, 98, 45, 99] 5) 1).f0 == 4) || (!((rd_T34 (BrkB.outL [97, 32, 98, 45, 99] 5) 1).f1 == 0))) = false := by rw [first_at.1, first_at.2]; rfl
  exact e ▸ law_ok t hl
end Go.Proofs.YtihmbddneapooaaDoor.Pure
