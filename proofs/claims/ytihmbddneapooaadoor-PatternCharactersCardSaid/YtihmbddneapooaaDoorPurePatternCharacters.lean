/- Proved: Lower and Word of the program, over their tables, are Small and WordChar of the document, for every whole number: a statement over numbers and lists alone, about the Lean functions of this seat's texts. No condition. -/
import Derived.Test.YtihmbddneapooaaDoorQPCx1
import Derived.Test.YtihmbddneapooaaDoorLib
namespace Go.Proofs.YtihmbddneapooaaDoor.Pure
open Go.RowKit Go.Proofs.YtihmbddneapooaaDoor.QPC Go.Proofs.YtihmbddneapooaaDoor.PPatternCharacters Go.Proofs.YtihmbddneapooaaDoor.Hand Go.Proofs.YtihmbddneapooaaDoorW.PrintWords Go.Proofs.YtihmbddneapooaaDoorW.PrintLast Go.Proofs.YtihmbddneapooaaDoorW.PrintMore Go.Proofs.YtihmbddneapooaaDoor.Lib
namespace PatChars
theorem in_ok (a b c : Int) : chanceryref3_In.f a b c = some (decide (b ≤ a ∧ a ≤ c)) := by
  unfold chanceryref3_In.f
  by_cases h : a ≥ b
  · rw [if_pos h]; congr 1; simp; omega
  · rw [if_neg h]; congr 1; simp; omega
theorem lower_small (c : Int) : Ev (fun k => chanceryref3_Small.f k c) (lowerL cases c) := by
  unfold chanceryref3_Small.f
  have yes : lowerL cases c = wrap64 (c + 32) → Ev (fun k => chanceryref3_Small.j0 k c true) (lowerL cases c) := fun h =>
    Ev.step (fun k => by rw [chanceryref3_Small.j0]) (Ev.pos rfl (Ev.ret h.symm))
  refine Ev.bind0 (in_ok _ _ _) ?_
  by_cases h1 : 65 ≤ c ∧ c ≤ 90
  · refine Ev.dpos h1 ?_
    rw [decide_eq_true h1]
    exact yes (by simp [lowerL, cases, h1])
  · refine Ev.dneg h1 (Ev.bind0 (in_ok _ _ _) ?_)
    by_cases h2 : 192 ≤ c ∧ c ≤ 214
    · refine Ev.dpos h2 ?_
      rw [decide_eq_true h2]
      exact yes (by simp only [lowerL, cases]; rw [if_neg h1, if_pos h2])
    · refine Ev.dneg h2 (Ev.bind0 (in_ok _ _ _) ?_)
      by_cases h3 : 216 ≤ c ∧ c ≤ 222
      · refine Ev.dpos h3 ?_
        rw [decide_eq_true h3]
        exact yes (by simp only [lowerL, cases]; rw [if_neg h1, if_neg h2, if_pos h3])
      · refine Ev.dneg h3 (Ev.bind0 (in_ok _ _ _) ?_)
        by_cases h4 : 913 ≤ c ∧ c ≤ 929
        · refine Ev.dpos h4 ?_
          rw [decide_eq_true h4]
          exact yes (by simp only [lowerL, cases]; rw [if_neg h1, if_neg h2, if_neg h3, if_pos h4])
        · refine Ev.dneg h4 (Ev.bind0 (in_ok _ _ _) ?_)
          by_cases h5 : 931 ≤ c ∧ c ≤ 937
          · refine Ev.dpos h5 ?_
            rw [decide_eq_true h5]
            exact yes (by simp only [lowerL, cases]; rw [if_neg h1, if_neg h2, if_neg h3, if_neg h4, if_pos h5])
          · refine Ev.dneg h5 (Ev.bind0 (in_ok _ _ _) ?_)
            by_cases h6 : 1040 ≤ c ∧ c ≤ 1071
            · rw [decide_eq_true h6]
              exact yes (by simp only [lowerL, cases]; rw [if_neg h1, if_neg h2, if_neg h3, if_neg h4, if_neg h5, if_neg (by omega), if_pos h6])
            · rw [decide_eq_false h6]
              refine Ev.step (fun k => by rw [chanceryref3_Small.j0]) (Ev.neg (by simp) (Ev.bind0 (in_ok _ _ _) ?_))
              by_cases h7 : 1024 ≤ c ∧ c ≤ 1039
              · exact Ev.dpos h7 (Ev.ret (by simp only [lowerL, cases]; rw [if_neg h1, if_neg h2, if_neg h3, if_neg h4, if_neg h5, if_pos h7]))
              · exact Ev.dneg h7 (Ev.ret (by simp only [lowerL, cases]; rw [if_neg h1, if_neg h2, if_neg h3, if_neg h4, if_neg h5, if_neg h7, if_neg h6]))
def word (c : Int) : Bool := decide ((48 ≤ c ∧ c ≤ 57) ∨ (65 ≤ c ∧ c ≤ 90) ∨ c = 95 ∨ (97 ≤ c ∧ c ≤ 122) ∨ (192 ≤ c ∧ c ≤ 591) ∨ (880 ≤ c ∧ c ≤ 1535))
theorem word_prog (c : Int) : pattern_Word.f c = some (word c) := by
  have r0 : rd_T68 letters 0 = ⟨48, 57⟩ := rfl
  have r1 : rd_T68 letters 1 = ⟨65, 90⟩ := rfl
  have r2 : rd_T68 letters 2 = ⟨95, 95⟩ := rfl
  have r3 : rd_T68 letters 3 = ⟨97, 122⟩ := rfl
  have r4 : rd_T68 letters 4 = ⟨192, 591⟩ := rfl
  have r5 : rd_T68 letters 5 = ⟨880, 1535⟩ := rfl
  have hl : (letters.length : Int) = 6 := rfl
  have st : ∀ (k : Nat) (i : Int), 0 ≤ i → i < 6 → pattern_holds.l0 (k + 1) c letters 6 i 0 false false 0 0 letters [] = if (rd_T68 letters i).f0 ≤ c ∧ c ≤ (rd_T68 letters i).f1 then some true else pattern_holds.l0 k c letters 6 (i + 1) 0 false false 0 0 letters [] := by
    intro k i h0 h1
    rw [pattern_holds.l0, if_pos h1, if_pos h0, if_pos (by rw [hl]; exact h1), w64 (n := i + 1) (by omega) (by omega)]
    by_cases a : c ≥ (rd_T68 letters i).f0
    · rw [if_pos a]
      by_cases b : c ≤ (rd_T68 letters i).f1
      · rw [if_pos b, if_pos ⟨a, b⟩]; rfl
      · rw [if_neg b, if_neg (fun h => b h.2)]
    · rw [if_neg a, if_neg (fun h => a h.1)]
  have en : pattern_holds.l0 14 c letters 6 6 0 false false 0 0 letters [] = some false := by rw [pattern_holds.l0, if_neg (by omega)]
  unfold pattern_Word.f pattern_holds.f
  rw [hl, st 19 0 (by omega) (by omega), st 18 _ (by omega) (by omega), st 17 _ (by omega) (by omega), st 16 _ (by omega) (by omega), st 15 _ (by omega) (by omega), st 14 _ (by omega) (by omega),
    show (0 : Int) + 1 = 1 from rfl, show (1 : Int) + 1 = 2 from rfl, show (2 : Int) + 1 = 3 from rfl, show (3 : Int) + 1 = 4 from rfl, show (4 : Int) + 1 = 5 from rfl, show (5 : Int) + 1 = 6 from rfl, r0, r1, r2, r3, r4, r5, en]
  unfold word
  dsimp only
  repeat (split; · (congr 1; symm; rw [decide_eq_true_eq]; omega))
  congr 1; symm; rw [decide_eq_false_iff_not]; omega
theorem word_ref (c : Int) : chanceryref3_WordChar.f c = some (word c) := by
  unfold chanceryref3_WordChar.f
  simp only [in_ok, Option.bind_some, decide_eq_true_eq]
  unfold word
  repeat (split; · (congr 1; symm; rw [decide_eq_true_eq]; omega))
  congr 1
  rw [decide_eq_decide]; omega
theorem within_some (c : Int) : ∃ t, chancerylaw3_within.f c 0 1536 = some t := by
  unfold chancerylaw3_within.f
  rw [w64 (n := 1536 - 0) (by omega) (by omega), w64 (n := 1536 - 0 + 1) (by omega) (by omega), if_neg (by omega)]
  exact ⟨_, rfl⟩
end PatChars
open PatChars in
theorem PatternCharacters (c : Int) : ∃ k, chancerylaw3_PatternCharacters.f k c = some true := by
  refine Ev.rounds (r := true) ?_
  unfold chancerylaw3_PatternCharacters.f
  refine Ev.bind0 (a := 1072) (by decide +kernel) (Ev.pos rfl (Ev.bind0 (word_prog 95) ?_))
  rw [show (!word 95) = false by decide]
  obtain ⟨t, ht⟩ := within_some c
  refine Ev.step (fun k => by rw [chancerylaw3_PatternCharacters.j0]) (Ev.neg (by simp) (Ev.bind0 ht (Ev.bind0 rfl ?_)))
  refine climb (g := fun i k => chancerylaw3_PatternCharacters.l0 k [c, t] (([c, t] : List Int).length : Int) i) (a := 0) (n := 2) (by omega) (Ev.step (fun k => by rw [chancerylaw3_PatternCharacters.l0]) (Ev.neg (by simp) (Ev.now _))) fun i i0 i1 hi => ?_
  refine Ev.step (fun k => by rw [chancerylaw3_PatternCharacters.l0]) (Ev.pos (by simpa using i1) (Ev.pos i0 (Ev.pos (by simpa using i1) ?_)))
  refine Ev.bind0 rfl ?_
  refine Ev.bind (lower_small _) ?_
  refine Ev.pos rfl ?_
  refine Ev.bind0 (word_prog _) (Ev.bind0 (word_ref _) (Ev.neg (by simp) ?_))
  rw [w64 (n := i + 1) (by omega) (by omega)]
  exact hi
end Go.Proofs.YtihmbddneapooaaDoor.Pure
