/- Proved: a template gives what the document tells: a statement over numbers, lists and texts alone, about the Lean functions of this seat's texts. Condition: the template and the text are at most 1048576 long (the second form's bound). -/
import Derived.Test.YtemginkjkmmimaaQEXx1
namespace Go.Proofs.Ytemginkjkmmimaa.Pure
open Go.RowKit Go.Proofs.YtemginkjkmmimaaW.PrintWords Go.Proofs.YtemginkjkmmimaaW.PrintLast Go.Proofs.YtemginkjkmmimaaW.PrintMore Go.Proofs.Ytemginkjkmmimaa.PPatternExpands Go.Proofs.Ytemginkjkmmimaa.Expand Go.Proofs.Ytemginkjkmmimaa.HandEX Go.Proofs.Ytemginkjkmmimaa.QEX Go.Proofs.Ytemginkjkmmimaa.Lib
set_option linter.unusedVariables false
namespace PatternE
/-- What is made is not too long. -/
theorem whole_len (g : Int → Option (List Int)) (hg : ∀ k l, g k = some l → l.length ≤ 1048576) (s : ByteArray) : ∀ (d p : Nat) (m : Bool) (o : List Int), p + d = s.size → (whole g s p m o).1.length ≤ o.length + d * 1048577 := by
  intro d
  induction d using Nat.strongRecOn with
  | _ d ih =>
    intro p m o hd
    by_cases h : p < s.size
    · obtain ⟨⟨c, n⟩, hc⟩ : ∃ P, Utf8.decode s p = P := ⟨_, rfl⟩
      have h1 := decode_pos s p
      have h2 := decode_adv s p h
      rw [hc] at h1 h2
      dsimp only at h1 h2
      have step : ∀ (m' : Bool) (o' : List Int), o'.length ≤ o.length + 1048576 → (whole g s (p + n) m' o').1.length ≤ o.length + d * 1048577 := fun m' o' ho => by
        have := ih (d - n) (by omega) (p + n) m' o' (by omega)
        have e : (d - n) * 1048577 + 1048577 ≤ d * 1048577 := by
          have : (d - n + 1) * 1048577 ≤ d * 1048577 := Nat.mul_le_mul_right _ (by omega)
          omega
        omega
      rw [whole_step g s p m o h c n hc]
      split
      · split
        · exact step _ _ (by omega)
        · exact step _ _ (by simp)
      · split
        · exact step _ _ (by simp)
        · split
          · simp
          · cases hk : g ((c : Int) - 48) with
            | none => simp
            | some l => exact step _ _ (by have := hg _ _ hk; simp; omega)
    · rw [whole_end g s p m o h]
      split
      · simp
      · simp
theorem grp_len (sp : List S51) (tx : List Int) (hx : tx.length ≤ 1048576) (k : Int) (l : List Int) (h : grp sp tx k = some l) : l.length ≤ 1048576 := by
  unfold grp at h
  split at h
  · cases h
  · split at h
    · have e := Option.some.inj h
      rw [← e, List.length_drop, List.length_take]
      omega
    · have e := Option.some.inj h
      rw [← e]
      simp
theorem expand_len (t : ByteArray) (tx : List Int) (f u : Int) (gs : List S51) (ht : t.size ≤ 1048576) (hx : tx.length ≤ 1048576) : (expandF t tx f u gs).1.length ≤ 1099512676352 := by
  unfold expandF
  split
  · split
    · rw [← fit_whole]
      have := whole_len (grp (SP f u gs) tx) (grp_len (SP f u gs) tx hx) t t.size 0 false [] (by omega)
      simp only [List.length_nil] at this
      omega
    · simp
  · simp
theorem same_true (xs : List Int) (h : xs.length ≤ 1099512676352) : Ev (fun k => chanceryref3_SameInts.f k xs xs) true := by
  unfold chanceryref3_SameInts.f
  refine Ev.pos rfl ?_
  refine climb (g := fun i k => chanceryref3_SameInts.l0 k xs xs (xs.length : Int) i) (a := 0) (n := xs.length) (by omega) ?_ ?_
  · exact Ev.step (fun k => by rw [chanceryref3_SameInts.l0]) (Ev.neg (by omega) (Ev.now _))
  · intro i i0 i1 k
    refine Ev.step (fun k => by rw [chanceryref3_SameInts.l0]) (Ev.pos i1 (Ev.pos i0 (Ev.pos i1 (Ev.pos i1 (Ev.pos rfl ?_)))))
    rw [w64 (n := i + 1) (by omega) (by omega)]
    exact k
def tmp : ByteArray := ⟨#[36, 50, 45, 36, 49]⟩
theorem step_low (g : Int → Option (List Int)) (s : ByteArray) (p : Nat) (m : Bool) (o : List Int) (h : p < s.size) (c : Nat) (hb : by_ s p = c) (hc : c < 128) : whole g s p m o =
    (if m = false then (if c = 36 then whole g s (p + 1) true o else whole g s (p + 1) false (o ++ [(c : Int)]))
    else if c = 36 then whole g s (p + 1) false (o ++ [36])
    else if c < 48 ∨ c > 57 then ([], 10)
    else (g ((c : Int) - 48)).elim ([], 7) fun l => whole g s (p + 1) false (o ++ l)) :=
  whole_step g s p m o h c 1 (by rw [decode_low s p (by omega), hb])
theorem closed : expandF tmp [97, 98, 99] 0 3 [⟨0, 1⟩, ⟨1, 3⟩] = ([98, 99, 45, 97], 0) := by
  have hfit : fits [97, 98, 99] (SP 0 3 [⟨0, 1⟩, ⟨1, 3⟩]) := by
    intro i h0 h1
    have h1 : i < 3 := h1
    have : i = 0 ∨ i = 1 ∨ i = 2 := by omega
    refine .inr ?_
    rcases this with rfl | rfl | rfl
    · exact ⟨by decide, by decide, by decide⟩
    · exact ⟨by decide, by decide, by decide⟩
    · exact ⟨by decide, by decide, by decide⟩
  unfold expandF
  rw [if_pos (by decide), if_pos hfit, ← fit_whole]
  have g2 : grp (SP 0 3 [⟨0, 1⟩, ⟨1, 3⟩]) [97, 98, 99] 2 = some [98, 99] := by decide
  have g1 : grp (SP 0 3 [⟨0, 1⟩, ⟨1, 3⟩]) [97, 98, 99] 1 = some [97] := by decide
  rw [step_low _ tmp 0 _ _ (by decide) 36 (by decide) (by omega), if_pos rfl, if_pos rfl]
  rw [step_low _ tmp 1 _ _ (by decide) 50 (by decide) (by omega), if_neg (by decide), if_neg (by decide), if_neg (by decide)]
  rw [show ((50 : Nat) : Int) - 48 = 2 from rfl, g2]
  show whole _ tmp 2 false _ = _
  rw [step_low _ tmp 2 _ _ (by decide) 45 (by decide) (by omega), if_pos rfl, if_neg (by decide)]
  rw [step_low _ tmp 3 _ _ (by decide) 36 (by decide) (by omega), if_pos rfl, if_pos rfl]
  rw [step_low _ tmp 4 _ _ (by decide) 49 (by decide) (by omega), if_neg (by decide), if_neg (by decide), if_neg (by decide)]
  rw [show ((49 : Nat) : Int) - 48 = 1 from rfl, g1]
  show whole _ tmp 5 false _ = _
  rw [whole_end _ tmp 5 _ _ (by decide), if_neg (by decide)]
  rfl
end PatternE
open PatternE in
theorem PatternExpands (t : ByteArray) (tx : List Int) (f u : Int) (gs : List S51) (ht : t.size ≤ 1048576) (hx : tx.length ≤ 1048576) (hg : gs.length * 16 ≤ 140737488351232) : ∃ k, chancerylaw3_PatternExpands.f k t tx f u gs = some true := by
  refine Ev.rounds (r := true) ?_
  unfold chancerylaw3_PatternExpands.f
  have h0 : pattern_Expand.f (⟨#[36, 50, 45, 36, 49]⟩ : ByteArray) ([97, 98, 99] : List Int) 0 3 ([(⟨0, 1⟩ : S51), (⟨1, 3⟩ : S51)] : List S51) = some ([98, 99, 45, 97], 0) := by
    unfold pattern_Expand.f
    rw [if_pos (by decide)]
    exact congrArg some closed
  have h1 : pattern_Expand.f t tx f u gs = some (expandF t tx f u gs) := by
    unfold pattern_Expand.f
    rw [if_pos ⟨ht, hx, hg⟩]
  have h2 : chancerylaw3_expanded.f t tx f u gs = some (expandF t tx f u gs) := by
    unfold chancerylaw3_expanded.f
    rw [if_pos ⟨ht, hx⟩]
  refine Ev.bind0 h0 (Ev.pos rfl (Ev.bind (same_true [98, 99, 45, 97] (by simp)) ?_))
  refine Ev.step (fun k => by rw [chancerylaw3_PatternExpands.j0]) (Ev.neg (by decide) ?_)
  refine Ev.bind0 h1 (Ev.bind0 h2 (Ev.pos rfl (Ev.bind (same_true _ (expand_len t tx f u gs ht hx)) (Ev.now _))))
end Go.Proofs.Ytemginkjkmmimaa.Pure
