/- Proved: Needs of the program answers the widths that the document's own columns have, for every number of columns and cells: a statement over numbers and lists alone, about the Lean functions of this seat's texts. No condition but the form's own bound on a slice's bytes. -/
import Derived.Test.YtihmbddneapooaaQBNx3
import Derived.Test.YtihmbddneapooaaLib
namespace Go.Proofs.Ytihmbddneapooaa.Pure
open Go.RowKit Go.Proofs.Ytihmbddneapooaa.QBA Go.Proofs.Ytihmbddneapooaa.HandBL Go.Proofs.Ytihmbddneapooaa.QBN Go.Proofs.YtihmbddneapooaaW.PrintWords Go.Proofs.YtihmbddneapooaaW.PrintLast Go.Proofs.YtihmbddneapooaaW.PrintMore Go.Proofs.Ytihmbddneapooaa.Lib
set_option linter.unusedVariables false
set_option linter.unusedSimpArgs false
namespace BalanceN
theorem in_ok (a b c : Int) : chanceryref3_In.f a b c = some (decide (b ≤ a ∧ a ≤ c)) := by
  unfold chanceryref3_In.f
  by_cases h : a ≥ b
  · rw [if_pos h]; congr 1; simp; omega
  · rw [if_neg h]; congr 1; simp; omega
theorem sameInts_from (xs ys : List Int) (hx : xs.length ≤ 9223372036854775806) (hl : xs.length = ys.length) (d : Nat) : ∀ i : Int, 0 ≤ i → i + d = xs.length → (∀ j, 0 ≤ j → j < i → rd xs j = rd ys j) → Ev (fun k => chanceryref3_SameInts.l0 k xs ys (xs.length : Int) i) (decide (xs = ys)) := by
  induction d with
  | zero =>
    intro i h0 hi hp
    refine Ev.step (fun k => by rw [chanceryref3_SameInts.l0]) (Ev.neg (by omega) (Ev.ret ?_))
    rw [eq_comm, decide_eq_true_eq]
    exact ext_rd hl fun j a b => hp j a (by omega)
  | succ d ih =>
    intro i h0 hi hp
    refine Ev.step (fun k => by rw [chanceryref3_SameInts.l0]) (Ev.pos (by omega) (Ev.pos (by omega) (Ev.pos (by omega) (Ev.pos (by omega) ?_))))
    by_cases e : rd xs i = rd ys i
    · refine Ev.pos e ?_
      rw [w64 (n := i + 1) (by omega) (by omega)]
      refine ih (i + 1) (by omega) (by omega) fun j a b => ?_
      by_cases c : j = i
      · rw [c]; exact e
      · exact hp j a (by omega)
    · refine Ev.neg e (Ev.ret ?_)
      rw [eq_comm, decide_eq_false_iff_not]
      intro h; rw [h] at e; exact e rfl
theorem sameInts_ok (xs ys : List Int) (hx : xs.length ≤ 9223372036854775806) : Ev (fun k => chanceryref3_SameInts.f k xs ys) (decide (xs = ys)) := by
  unfold chanceryref3_SameInts.f
  by_cases hl : xs.length = ys.length
  · exact Ev.pos (by omega) (sameInts_from xs ys hx hl xs.length 0 (by omega) (by omega) fun j a b => by omega)
  · refine Ev.neg (by omega) (Ev.ret ?_)
    rw [eq_comm, decide_eq_false_iff_not]
    intro h; exact hl (by rw [h])
theorem same_self (xs : List Int) (h : xs.length ≤ 9223372036854775806) : Ev (fun k => chanceryref3_SameInts.f k xs xs) true := Ev.out (sameInts_ok xs xs h) (decide_eq_true rfl)
/-- What both ask of a cell. -/
def fine (cols : Int) (c : S94) : Prop := 0 ≤ c.f0 ∧ c.f0 < cols ∧ 1 ≤ c.f1 ∧ c.f1 ≤ cols - c.f0 ∧ 0 ≤ c.f2 ∧ c.f2 ≤ 31680 ∧ 0 ≤ c.f3 ∧ c.f3 ≤ 31680
theorem check_l (cols : Int) (l : List S94) (hl : l.length ≤ 4000) (h1 : 1 ≤ cols) (h2 : cols ≤ 64) : ∀ (d : Nat) (i : Int), 0 ≤ i → i + d = l.length →
    (Ev (fun k => balance_Check.l0 k cols l (l.length : Int) i) 0 ∧ Ev (fun k => chanceryref3_NeedsError.l0 k cols l (l.length : Int) i) 0 ∧ ∀ j : Int, i ≤ j → j < l.length → fine cols (rd_T94 l j)) ∨
    (Ev (fun k => balance_Check.l0 k cols l (l.length : Int) i) 2 ∧ Ev (fun k => chanceryref3_NeedsError.l0 k cols l (l.length : Int) i) 2) := by
  intro d
  induction d with
  | zero =>
    intro i h0 h
    exact .inl ⟨Ev.step (fun k => by rw [balance_Check.l0]) (Ev.neg (by omega) (Ev.now _)), Ev.step (fun k => by rw [chanceryref3_NeedsError.l0]) (Ev.neg (by omega) (Ev.now _)), fun j _ _ => by omega⟩
  | succ d ih =>
    intro i h0 h
    have r := ih (i + 1) (by omega) (by omega)
    generalize hx : rd_T94 l i = x
    have w1 : wrap64 (i + 1) = i + 1 := w64 (by omega) (by omega)
    have w2 : wrap64 (cols - 1) = cols - 1 := w64 (by omega) (by omega)
    by_cases hf : fine cols x
    · obtain ⟨a1, a2, a3, a4, a5, a6, a7, a8⟩ := hf
      have w3 : wrap64 (cols - x.f0) = cols - x.f0 := w64 (by omega) (by omega)
      have go1 : ∀ e, Ev (fun k => balance_Check.l0 k cols l (l.length : Int) (i + 1)) e → Ev (fun k => balance_Check.l0 k cols l (l.length : Int) i) e := by
        intro e he
        refine Ev.step (fun k => by rw [balance_Check.l0, hx, w1, w3]) (Ev.pos (by omega) (Ev.pos h0 (Ev.pos (by omega) ?_)))
        exact Ev.neg (by omega) (Ev.neg (by omega) (Ev.neg (by omega) (Ev.neg (by omega) (Ev.neg (by omega) (Ev.neg (by omega) (Ev.neg (by omega) (Ev.neg (by omega) he)))))))
      have go2 : ∀ e, Ev (fun k => chanceryref3_NeedsError.l0 k cols l (l.length : Int) (i + 1)) e → Ev (fun k => chanceryref3_NeedsError.l0 k cols l (l.length : Int) i) e := by
        intro e he
        refine Ev.step (fun k => by rw [chanceryref3_NeedsError.l0, hx, w1, w2, w3]) (Ev.pos (by omega) (Ev.pos h0 (Ev.pos (by omega) ?_)))
        refine Ev.bind0 (in_ok _ _ _) (Ev.pos (by simp; omega) ?_)
        refine Ev.bind0 (in_ok _ _ _) (Ev.pos (by simp; omega) ?_)
        refine Ev.bind0 (in_ok _ _ _) (Ev.pos (by simp; omega) ?_)
        exact Ev.bind0 (in_ok _ _ _) (Ev.pos (by simp; omega) he)
      rcases r with ⟨r1, r2, r3⟩ | ⟨r1, r2⟩
      · refine .inl ⟨go1 _ r1, go2 _ r2, fun j j0 j1 => ?_⟩
        by_cases e : j = i
        · subst e; rw [hx]; exact ⟨a1, a2, a3, a4, a5, a6, a7, a8⟩
        · exact r3 j (by omega) j1
      · exact .inr ⟨go1 _ r1, go2 _ r2⟩
    · refine .inr ⟨?_, ?_⟩
      · refine Ev.step (fun k => by rw [balance_Check.l0, hx, w1]) (Ev.pos (by omega) (Ev.pos h0 (Ev.pos (by omega) ?_)))
        by_cases b1 : x.f0 < 0
        · exact Ev.pos b1 (Ev.now _)
        refine Ev.neg b1 ?_
        by_cases b2 : x.f0 ≥ cols
        · exact Ev.pos b2 (Ev.now _)
        refine Ev.neg b2 ?_
        rw [w64 (n := cols - x.f0) (by omega) (by omega)]
        by_cases b3 : x.f1 < 1
        · exact Ev.pos b3 (Ev.now _)
        refine Ev.neg b3 ?_
        by_cases b4 : x.f1 > cols - x.f0
        · exact Ev.pos b4 (Ev.now _)
        refine Ev.neg b4 ?_
        by_cases b5 : x.f2 < 0
        · exact Ev.pos b5 (Ev.now _)
        refine Ev.neg b5 ?_
        by_cases b6 : x.f2 > 31680
        · exact Ev.pos b6 (Ev.now _)
        refine Ev.neg b6 ?_
        by_cases b7 : x.f3 < 0
        · exact Ev.pos b7 (Ev.now _)
        refine Ev.neg b7 ?_
        by_cases b8 : x.f3 > 31680
        · exact Ev.pos b8 (Ev.now _)
        exact absurd ⟨by omega, by omega, by omega, by omega, by omega, by omega, by omega, by omega⟩ hf
      · refine Ev.step (fun k => by rw [chanceryref3_NeedsError.l0, hx, w1, w2]) (Ev.pos (by omega) (Ev.pos h0 (Ev.pos (by omega) ?_)))
        refine Ev.bind0 (in_ok _ _ _) ?_
        by_cases b1 : 0 ≤ x.f0 ∧ x.f0 ≤ cols - 1
        · rw [w64 (n := cols - x.f0) (by omega) (by omega)]
          refine Ev.pos (decide_eq_true b1) (Ev.bind0 (in_ok _ _ _) ?_)
          by_cases b2 : 1 ≤ x.f1 ∧ x.f1 ≤ cols - x.f0
          · refine Ev.pos (decide_eq_true b2) (Ev.bind0 (in_ok _ _ _) ?_)
            by_cases b3 : 0 ≤ x.f2 ∧ x.f2 ≤ 31680
            · refine Ev.pos (decide_eq_true b3) (Ev.bind0 (in_ok _ _ _) ?_)
              by_cases b4 : 0 ≤ x.f3 ∧ x.f3 ≤ 31680
              · exact absurd ⟨by omega, by omega, by omega, by omega, by omega, by omega, by omega, by omega⟩ hf
              · exact Ev.neg (by simpa using b4) (Ev.now _)
            · exact Ev.neg (by simpa using b3) (Ev.now _)
          · exact Ev.neg (by simpa using b2) (Ev.now _)
        · exact Ev.neg (by simpa using b1) (Ev.now _)
/-- Both checks answer alike, and no error means that the cells fit. -/
theorem checks (cols : Int) (l : List S94) : ∃ e : Int, Ev (fun k => balance_Check.f k cols l) e ∧ Ev (fun k => chanceryref3_NeedsError.f k cols l) e ∧ (e = 0 → fits cols l) := by
  by_cases hc : 1 ≤ cols ∧ cols ≤ 64
  · by_cases hl : l.length ≤ 4000
    · have go1 : ∀ e, Ev (fun k => balance_Check.l0 k cols l (l.length : Int) 0) e → Ev (fun k => balance_Check.f k cols l) e := by
        intro e he
        refine Ev.congr (fun k => by rw [balance_Check.f]) (Ev.neg (by omega) ?_)
        rw [decide_eq_false (by omega : ¬ cols > 64)]
        exact Ev.step (fun k => by rw [balance_Check.j0]) (Ev.neg (by simp) (Ev.neg (by omega) he))
      have go2 : ∀ e, Ev (fun k => chanceryref3_NeedsError.l0 k cols l (l.length : Int) 0) e → Ev (fun k => chanceryref3_NeedsError.f k cols l) e := by
        intro e he
        exact Ev.congr (fun k => by rw [chanceryref3_NeedsError.f]) (Ev.bind0 (in_ok _ _ _) (Ev.pos (decide_eq_true hc) (Ev.neg (show ¬ ((l.length : Int) > 4000) by omega) he)))
      rcases check_l cols l hl hc.1 hc.2 l.length 0 (by omega) (by omega) with ⟨r1, r2, r3⟩ | ⟨r1, r2⟩
      · refine ⟨0, go1 _ r1, go2 _ r2, fun _ => ⟨hc.1, hc.2, hl, fun c hm => ?_⟩⟩
        obtain ⟨j, j0, j1, e⟩ := mem_getD z94 hm
        have := r3 j j0 j1
        rw [rd_T94, e] at this
        exact ⟨this.1, this.2.2.1, this.2.2.2.1⟩
      · exact ⟨2, go1 _ r1, go2 _ r2, fun h => absurd h (by decide)⟩
    · refine ⟨3, ?_, ?_, fun h => absurd h (by decide)⟩
      · refine Ev.congr (fun k => by rw [balance_Check.f]) (Ev.neg (by omega) ?_)
        rw [decide_eq_false (by omega : ¬ cols > 64)]
        exact Ev.step (fun k => by rw [balance_Check.j0]) (Ev.neg (by simp) (Ev.pos (by omega) (Ev.now _)))
      · exact Ev.congr (fun k => by rw [chanceryref3_NeedsError.f]) (Ev.bind0 (in_ok _ _ _) (Ev.pos (decide_eq_true hc) (Ev.pos (show (l.length : Int) > 4000 by omega) (Ev.now _))))
  · refine ⟨2, ?_, ?_, fun h => absurd h (by decide)⟩
    · refine Ev.congr (fun k => by rw [balance_Check.f]) ?_
      by_cases h : cols < 1
      · exact Ev.pos h (Ev.step (fun k => by rw [balance_Check.j0]) (Ev.pos rfl (Ev.now _)))
      · refine Ev.neg h ?_
        rw [decide_eq_true (by omega : cols > 64)]
        exact Ev.step (fun k => by rw [balance_Check.j0]) (Ev.pos rfl (Ev.now _))
    · exact Ev.congr (fun k => by rw [chanceryref3_NeedsError.f]) (Ev.bind0 (in_ok _ _ _) (Ev.neg (show ¬ (decide (1 ≤ cols ∧ cols ≤ 64) = true) from fun h => hc (of_decide_eq_true h)) (Ev.now _)))
theorem needs_fits {cols : Int} {l : List S94} (hc : Ev (fun k => balance_Check.f k cols l) 0) (hf : fits cols l) : Ev (fun k => balance_Needs.f k cols l) (leastF l cols, mostF l cols, 0) :=
  Ev.bind hc (Ev.pos rfl (Ev.pos hf (Ev.now _)))
theorem needs_bad {cols : Int} {l : List S94} {e : Int} (hc : Ev (fun k => balance_Check.f k cols l) e) (h0 : e ≠ 0) : Ev (fun k => balance_Needs.f k cols l) ([], [], e) :=
  Ev.bind hc (Ev.neg h0 (Ev.now _))
theorem mostF_length (l : List S94) (cols : Int) : (mostF l cols).length = cols.toNat := (mxs_length _ _ _).trans (rowsN_length _ _ _ _)
end BalanceN
open BalanceN
theorem balancedN : Ev (fun k => chancerylaw3_balanced.f k) true := Ev.of (fun k => chancerylaw3_balanced.mono k) (k := 40) (by decide +kernel)
theorem BalanceNeeds (cols : Int) (l : List S94) : ∃ k, chancerylaw3_BalanceNeeds.f k cols l = some true := by
  obtain ⟨e, h1, h2, h3⟩ := checks cols l
  suffices h : Ev (fun k => chancerylaw3_BalanceNeeds.f k cols l) true by
    obtain ⟨K, hK⟩ := h
    exact ⟨K, hK K (Nat.le_refl K)⟩
  refine Ev.congr (fun k => by rw [chancerylaw3_BalanceNeeds.f]) (Ev.bind balancedN (Ev.pos rfl ?_))
  by_cases h0 : e = 0
  · subst h0
    have hf := h3 rfl
    have hc2 := hf.2.1
    have hc1 := hf.1
    refine Ev.bind (needs_fits h1 hf) (Ev.bind h2 (Ev.pos rfl ?_))
    refine Ev.bind (show Ev (fun k => chanceryref3_Columns.f k cols l) (leastF l cols, mostF l cols) from Ev.ret' (if_pos hf)) (Ev.pos rfl ?_)
    refine Ev.bind (same_self _ (by rw [leastF_length]; omega)) (Ev.pos rfl ?_)
    exact Ev.bind (same_self _ (by rw [mostF_length]; omega)) (Ev.now _)
  · refine Ev.bind (needs_bad h1 h0) (Ev.bind h2 (Ev.neg h0 (Ev.pos rfl (Ev.bind h1 (Ev.pos rfl (Ev.ret (by simp [wrap64])))))))
end Go.Proofs.Ytihmbddneapooaa.Pure
