/- Proved: Widths of the program divides a table's width as the document's own columns do: a statement over numbers and lists alone, about the Lean functions of this seat's texts. -/
import Derived.Test.YtihmbddneapooaaQBWx5
import Derived.Test.YtihmbddneapooaaLib
namespace Go.Proofs.Ytihmbddneapooaa.Pure
open Go.RowKit Go.Proofs.Ytihmbddneapooaa.QBA Go.Proofs.Ytihmbddneapooaa.HandBL Go.Proofs.Ytihmbddneapooaa.QBW Go.Proofs.YtihmbddneapooaaW.PrintWords Go.Proofs.YtihmbddneapooaaW.PrintLast Go.Proofs.YtihmbddneapooaaW.PrintMore Go.Proofs.Ytihmbddneapooaa.Lib
set_option linter.unusedVariables false
set_option linter.unusedSimpArgs false
namespace BalanceW
theorem in_ok (a b c : Int) : chanceryref3_In.f a b c = some (decide (b ≤ a ∧ a ≤ c)) := by
  unfold chanceryref3_In.f
  by_cases h : a ≥ b
  · rw [if_pos h]; congr 1; simp; omega
  · rw [if_neg h]; congr 1; simp; omega
theorem sameInts_from (xs ys : List Int) (hx : xs.length ≤ 9223372036854775806) (hl : xs.length = ys.length) (d : Nat) : ∀ i : Int, 0 ≤ i → i + d = xs.length → (∀ j, 0 ≤ j → j < i → rd xs j = rd ys j) → Ev (fun k => chanceryref3_SameInts.l0 k xs ys (xs.length : Int) i) (decide (xs = ys)) := by
  induction d with
  | zero =>
    intro i h0 hi hp
    refine Ev.step (fun k => by rw [chanceryref3_SameInts.l0]) (Ev.neg (by omega) (Ev.ret ?_))
    rw [eq_comm, decide_eq_true_eq]
    exact ext_rd hl fun j a b => hp j a (by omega)
  | succ d ih =>
    intro i h0 hi hp
    refine Ev.step (fun k => by rw [chanceryref3_SameInts.l0]) (Ev.pos (by omega) (Ev.pos (by omega) (Ev.pos (by omega) (Ev.pos (by omega) ?_))))
    by_cases e : rd xs i = rd ys i
    · refine Ev.pos e ?_
      rw [w64 (n := i + 1) (by omega) (by omega)]
      refine ih (i + 1) (by omega) (by omega) fun j a b => ?_
      by_cases c : j = i
      · rw [c]; exact e
      · exact hp j a (by omega)
    · refine Ev.neg e (Ev.ret ?_)
      rw [eq_comm, decide_eq_false_iff_not]
      intro h; rw [h] at e; exact e rfl
theorem sameInts_ok (xs ys : List Int) (hx : xs.length ≤ 9223372036854775806) : Ev (fun k => chanceryref3_SameInts.f k xs ys) (decide (xs = ys)) := by
  unfold chanceryref3_SameInts.f
  by_cases hl : xs.length = ys.length
  · exact Ev.pos (by omega) (sameInts_from xs ys hx hl xs.length 0 (by omega) (by omega) fun j a b => by omega)
  · refine Ev.neg (by omega) (Ev.ret ?_)
    rw [eq_comm, decide_eq_false_iff_not]
    intro h; exact hl (by rw [h])
theorem same_self (xs : List Int) (h : xs.length ≤ 9223372036854775806) : Ev (fun k => chanceryref3_SameInts.f k xs xs) true := Ev.out (sameInts_ok xs xs h) (decide_eq_true rfl)
/-- What both ask of a cell. -/
def fine (cols : Int) (c : S94) : Prop := 0 ≤ c.f0 ∧ c.f0 < cols ∧ 1 ≤ c.f1 ∧ c.f1 ≤ cols - c.f0 ∧ 0 ≤ c.f2 ∧ c.f2 ≤ 31680 ∧ 0 ≤ c.f3 ∧ c.f3 ≤ 31680
theorem check_l (cols : Int) (l : List S94) (hl : l.length ≤ 4000) (h1 : 1 ≤ cols) (h2 : cols ≤ 64) : ∀ (d : Nat) (i : Int), 0 ≤ i → i + d = l.length →
    (Ev (fun k => balance_Check.l0 k cols l (l.length : Int) i) 0 ∧ Ev (fun k => chanceryref3_NeedsError.l0 k cols l (l.length : Int) i) 0 ∧ ∀ j : Int, i ≤ j → j < l.length → fine cols (rd_T94 l j)) ∨
    (Ev (fun k => balance_Check.l0 k cols l (l.length : Int) i) 2 ∧ Ev (fun k => chanceryref3_NeedsError.l0 k cols l (l.length : Int) i) 2) := by
  intro d
  induction d with
  | zero =>
    intro i h0 h
    exact .inl ⟨Ev.step (fun k => by rw [balance_Check.l0]) (Ev.neg (by omega) (Ev.now _)), Ev.step (fun k => by rw [chanceryref3_NeedsError.l0]) (Ev.neg (by omega) (Ev.now _)), fun j _ _ => by omega⟩
  | succ d ih =>
    intro i h0 h
    have r := ih (i + 1) (by omega) (by omega)
    generalize hx : rd_T94 l i = x
    have w1 : wrap64 (i + 1) = i + 1 := w64 (by omega) (by omega)
    have w2 : wrap64 (cols - 1) = cols - 1 := w64 (by omega) (by omega)
    by_cases hf : fine cols x
    · obtain ⟨a1, a2, a3, a4, a5, a6, a7, a8⟩ := hf
      have w3 : wrap64 (cols - x.f0) = cols - x.f0 := w64 (by omega) (by omega)
      have go1 : ∀ e, Ev (fun k => balance_Check.l0 k cols l (l.length : Int) (i + 1)) e → Ev (fun k => balance_Check.l0 k cols l (l.length : Int) i) e := by
        intro e he
        refine Ev.step (fun k => by rw [balance_Check.l0, hx, w1, w3]) (Ev.pos (by omega) (Ev.pos h0 (Ev.pos (by omega) ?_)))
        exact Ev.neg (by omega) (Ev.neg (by omega) (Ev.neg (by omega) (Ev.neg (by omega) (Ev.neg (by omega) (Ev.neg (by omega) (Ev.neg (by omega) (Ev.neg (by omega) he)))))))
      have go2 : ∀ e, Ev (fun k => chanceryref3_NeedsError.l0 k cols l (l.length : Int) (i + 1)) e → Ev (fun k => chanceryref3_NeedsError.l0 k cols l (l.length : Int) i) e := by
        intro e he
        refine Ev.step (fun k => by rw [chanceryref3_NeedsError.l0, hx, w1, w2, w3]) (Ev.pos (by omega) (Ev.pos h0 (Ev.pos (by omega) ?_)))
        refine Ev.bind0 (in_ok _ _ _) (Ev.pos (by simp; omega) ?_)
        refine Ev.bind0 (in_ok _ _ _) (Ev.pos (by simp; omega) ?_)
        refine Ev.bind0 (in_ok _ _ _) (Ev.pos (by simp; omega) ?_)
        exact Ev.bind0 (in_ok _ _ _) (Ev.pos (by simp; omega) he)
      rcases r with ⟨r1, r2, r3⟩ | ⟨r1, r2⟩
      · refine .inl ⟨go1 _ r1, go2 _ r2, fun j j0 j1 => ?_⟩
        by_cases e : j = i
        · subst e; rw [hx]; exact ⟨a1, a2, a3, a4, a5, a6, a7, a8⟩
        · exact r3 j (by omega) j1
      · exact .inr ⟨go1 _ r1, go2 _ r2⟩
    · refine .inr ⟨?_, ?_⟩
      · refine Ev.step (fun k => by rw [balance_Check.l0, hx, w1]) (Ev.pos (by omega) (Ev.pos h0 (Ev.pos (by omega) ?_)))
        by_cases b1 : x.f0 < 0
        · exact Ev.pos b1 (Ev.now _)
        refine Ev.neg b1 ?_
        by_cases b2 : x.f0 ≥ cols
        · exact Ev.pos b2 (Ev.now _)
        refine Ev.neg b2 ?_
        rw [w64 (n := cols - x.f0) (by omega) (by omega)]
        by_cases b3 : x.f1 < 1
        · exact Ev.pos b3 (Ev.now _)
        refine Ev.neg b3 ?_
        by_cases b4 : x.f1 > cols - x.f0
        · exact Ev.pos b4 (Ev.now _)
        refine Ev.neg b4 ?_
        by_cases b5 : x.f2 < 0
        · exact Ev.pos b5 (Ev.now _)
        refine Ev.neg b5 ?_
        by_cases b6 : x.f2 > 31680
        · exact Ev.pos b6 (Ev.now _)
        refine Ev.neg b6 ?_
        by_cases b7 : x.f3 < 0
        · exact Ev.pos b7 (Ev.now _)
        refine Ev.neg b7 ?_
        by_cases b8 : x.f3 > 31680
        · exact Ev.pos b8 (Ev.now _)
        exact absurd ⟨by omega, by omega, by omega, by omega, by omega, by omega, by omega, by omega⟩ hf
      · refine Ev.step (fun k => by rw [chanceryref3_NeedsError.l0, hx, w1, w2]) (Ev.pos (by omega) (Ev.pos h0 (Ev.pos (by omega) ?_)))
        refine Ev.bind0 (in_ok _ _ _) ?_
        by_cases b1 : 0 ≤ x.f0 ∧ x.f0 ≤ cols - 1
        · rw [w64 (n := cols - x.f0) (by omega) (by omega)]
          refine Ev.pos (decide_eq_true b1) (Ev.bind0 (in_ok _ _ _) ?_)
          by_cases b2 : 1 ≤ x.f1 ∧ x.f1 ≤ cols - x.f0
          · refine Ev.pos (decide_eq_true b2) (Ev.bind0 (in_ok _ _ _) ?_)
            by_cases b3 : 0 ≤ x.f2 ∧ x.f2 ≤ 31680
            · refine Ev.pos (decide_eq_true b3) (Ev.bind0 (in_ok _ _ _) ?_)
              by_cases b4 : 0 ≤ x.f3 ∧ x.f3 ≤ 31680
              · exact absurd ⟨by omega, by omega, by omega, by omega, by omega, by omega, by omega, by omega⟩ hf
              · exact Ev.neg (by simpa using b4) (Ev.now _)
            · exact Ev.neg (by simpa using b3) (Ev.now _)
          · exact Ev.neg (by simpa using b2) (Ev.now _)
        · exact Ev.neg (by simpa using b1) (Ev.now _)
/-- Both checks answer alike, and no error means that the cells fit. -/
theorem checks (cols : Int) (l : List S94) : ∃ e : Int, Ev (fun k => balance_Check.f k cols l) e ∧ Ev (fun k => chanceryref3_NeedsError.f k cols l) e ∧ (e = 0 → fits cols l) := by
  by_cases hc : 1 ≤ cols ∧ cols ≤ 64
  · by_cases hl : l.length ≤ 4000
    · have go1 : ∀ e, Ev (fun k => balance_Check.l0 k cols l (l.length : Int) 0) e → Ev (fun k => balance_Check.f k cols l) e := by
        intro e he
        refine Ev.congr (fun k => by rw [balance_Check.f]) (Ev.neg (by omega) ?_)
        rw [decide_eq_false (by omega : ¬ cols > 64)]
        exact Ev.step (fun k => by rw [balance_Check.j0]) (Ev.neg (by simp) (Ev.neg (by omega) he))
      have go2 : ∀ e, Ev (fun k => chanceryref3_NeedsError.l0 k cols l (l.length : Int) 0) e → Ev (fun k => chanceryref3_NeedsError.f k cols l) e := by
        intro e he
        exact Ev.congr (fun k => by rw [chanceryref3_NeedsError.f]) (Ev.bind0 (in_ok _ _ _) (Ev.pos (decide_eq_true hc) (Ev.neg (show ¬ ((l.length : Int) > 4000) by omega) he)))
      rcases check_l cols l hl hc.1 hc.2 l.length 0 (by omega) (by omega) with ⟨r1, r2, r3⟩ | ⟨r1, r2⟩
      · refine ⟨0, go1 _ r1, go2 _ r2, fun _ => ⟨hc.1, hc.2, hl, fun c hm => ?_⟩⟩
        obtain ⟨j, j0, j1, e⟩ := mem_getD z94 hm
        have := r3 j j0 j1
        rw [rd_T94, e] at this
        exact ⟨this.1, this.2.2.1, this.2.2.2.1⟩
      · exact ⟨2, go1 _ r1, go2 _ r2, fun h => absurd h (by decide)⟩
    · refine ⟨3, ?_, ?_, fun h => absurd h (by decide)⟩
      · refine Ev.congr (fun k => by rw [balance_Check.f]) (Ev.neg (by omega) ?_)
        rw [decide_eq_false (by omega : ¬ cols > 64)]
        exact Ev.step (fun k => by rw [balance_Check.j0]) (Ev.neg (by simp) (Ev.pos (by omega) (Ev.now _)))
      · exact Ev.congr (fun k => by rw [chanceryref3_NeedsError.f]) (Ev.bind0 (in_ok _ _ _) (Ev.pos (decide_eq_true hc) (Ev.pos (show (l.length : Int) > 4000 by omega) (Ev.now _))))
  · refine ⟨2, ?_, ?_, fun h => absurd h (by decide)⟩
    · refine Ev.congr (fun k => by rw [balance_Check.f]) ?_
      by_cases h : cols < 1
      · exact Ev.pos h (Ev.step (fun k => by rw [balance_Check.j0]) (Ev.pos rfl (Ev.now _)))
      · refine Ev.neg h ?_
        rw [decide_eq_true (by omega : cols > 64)]
        exact Ev.step (fun k => by rw [balance_Check.j0]) (Ev.pos rfl (Ev.now _))
    · exact Ev.congr (fun k => by rw [chanceryref3_NeedsError.f]) (Ev.bind0 (in_ok _ _ _) (Ev.neg (show ¬ (decide (1 ≤ cols ∧ cols ≤ 64) = true) from fun h => hc (of_decide_eq_true h)) (Ev.now _)))
theorem needs_fits {cols : Int} {l : List S94} (hc : Ev (fun k => balance_Check.f k cols l) 0) (hf : fits cols l) : Ev (fun k => balance_Needs.f k cols l) (leastF l cols, mostF l cols, 0) :=
  Ev.bind hc (Ev.pos rfl (Ev.pos hf (Ev.now _)))
theorem needs_bad {cols : Int} {l : List S94} {e : Int} (hc : Ev (fun k => balance_Check.f k cols l) e) (h0 : e ≠ 0) : Ev (fun k => balance_Needs.f k cols l) ([], [], e) :=
  Ev.bind hc (Ev.neg h0 (Ev.now _))
theorem mostF_length (l : List S94) (cols : Int) : (mostF l cols).length = cols.toNat := (mxs_length _ _ _).trans (rowsN_length _ _ _ _)
theorem sum_ev (xs : List Int) (h : xs.length ≤ 1000000) : Ev (fun k => balance_sum.f k xs) (tot xs) := Ev.of (fun k => balance_sum.mono _ k) (sum_ok xs h)
theorem total_ev (xs : List Int) (h : xs.length ≤ 1000000) : Ev (fun k => chanceryref3_total.f k xs) (tot xs) := Ev.of (fun k => chanceryref3_total.mono _ k) (total_ok xs h)
theorem tot_take {xs : List Int} {i : Int} (h0 : 0 ≤ i) (h : i < xs.length) : tot (xs.take (i + 1).toNat) = wrap64 (tot (xs.take i.toNat) + rd xs i) := by
  unfold tot
  rw [take_rd h0 h, List.foldl_append]
  rfl
/-- One part of a number in the proportions of weights. -/
def partW (n : Int) (ws : List Int) (T i : Int) : Int := wrap64 (wrap64 (Int.tdiv (wrap64 (n * tot (ws.take (i + 1).toNat))) T) - wrap64 (Int.tdiv (wrap64 (n * tot (ws.take i.toNat))) T))
/-- A row of which the first i places are told anew. -/
def fill (v : Int → Int) (xs : List Int) : Nat → List Int
  | 0 => xs
  | i + 1 => (fill v xs i).set i (v i)
theorem fill_length (v : Int → Int) (xs : List Int) : ∀ i, (fill v xs i).length = xs.length
  | 0 => rfl
  | i + 1 => by rw [fill, List.length_set, fill_length v xs i]
theorem fill_step (v : Int → Int) (xs : List Int) {i : Int} (h : 0 ≤ i) : fill v xs (i + 1).toNat = (fill v xs i.toNat).set i.toNat (v i) := by
  rw [show (i + 1).toNat = i.toNat + 1 by omega, fill, show ((i.toNat : Nat) : Int) = i by omega]
/-- What both codes divide. -/
def parts (n : Int) (ws : List Int) : List Int := if tot ws = 0 then addTo (List.replicate ws.length 0) 0 ws.length n else fill (partW n ws (tot ws)) (List.replicate ws.length 0) ws.length
theorem share_ok (n : Int) (ws : List Int) (hl : ws.length ≤ 64) (h1 : 1 ≤ ws.length) (hn : tot ws = 0 → 0 ≤ n ∧ n ≤ 9223372036854775807) : Ev (fun k => balance_share.f k n ws) (parts n ws) := by
  unfold balance_share.f
  refine (Ev.pos (by omega) (Ev.pos (by omega) (Ev.bind0 rfl (Ev.bind (sum_ev ws (by omega)) ?_))))
  rw [Int.toNat_natCast]
  by_cases hT : tot ws = 0
  · rw [parts, if_pos hT]
    refine Ev.pos hT (Ev.bind0 (g := balance_spread.f (List.replicate ws.length 0) n) ?_ (Ev.now _))
    rw [balance_spread.f, List.length_replicate, if_pos ⟨by omega, (hn hT).1, (hn hT).2⟩]
  · rw [parts, if_neg hT]
    refine Ev.neg hT (climb (g := fun i k => balance_share.l0 k n (fill (partW n ws (tot ws)) (List.replicate ws.length 0) i.toNat) (tot ws) (tot (ws.take i.toNat)) ws (ws.length : Int) i) (a := 0) (n := ws.length) (by omega) ?_ fun i h0 h1 ih => ?_)
    · exact Ev.step (fun k => by rw [balance_share.l0]) (Ev.neg (by omega) (Ev.ret (by rw [Int.toNat_natCast])))
    · refine Ev.step (fun k => by rw [balance_share.l0]) (Ev.pos h1 (Ev.pos h0 (Ev.pos h1 (Ev.neg hT (Ev.pos (by rw [fill_length, List.length_replicate]; omega) ?_)))))
      rw [w64 (n := i + 1) (by omega) (by omega), ← tot_take h0 h1]
      rw [fill_step _ _ h0] at ih
      exact ih
theorem portions_ok (n : Int) (ws : List Int) (hl : ws.length ≤ 64) (h1 : 1 ≤ ws.length) (hn : tot ws = 0 → 0 ≤ n ∧ n ≤ 9223372036854775807) : Ev (fun k => chanceryref3_portions.f k n ws) (parts n ws) := by
  unfold chanceryref3_portions.f
  refine (Ev.pos (by omega) (Ev.pos (by omega) (Ev.bind0 rfl (Ev.bind (total_ev ws (by omega)) ?_))))
  rw [Int.toNat_natCast]
  by_cases hT : tot ws = 0
  · rw [parts, if_pos hT]
    refine Ev.pos hT (Ev.bind0 (g := chanceryref3_deal.f (List.replicate ws.length 0) n) ?_ (Ev.now _))
    rw [chanceryref3_deal.f, balance_spread.f, List.length_replicate, if_pos ⟨by omega, (hn hT).1, (hn hT).2⟩]
  · rw [parts, if_neg hT]
    refine Ev.neg hT (climb (g := fun i k => chanceryref3_portions.l0 k n ws (fill (partW n ws (tot ws)) (List.replicate ws.length 0) i.toNat) (tot ws) (ws.length : Int) i) (a := 0) (n := ws.length) (by omega) ?_ fun i h0 h1 ih => ?_)
    · exact Ev.step (fun k => by rw [chanceryref3_portions.l0]) (Ev.neg (by omega) (Ev.ret (by rw [Int.toNat_natCast])))
    · refine Ev.step (fun k => by rw [chanceryref3_portions.l0, w64 (n := i + 1) (by omega) (by omega)]) (Ev.pos h1 (Ev.pos (by omega) (Ev.pos (by omega) ?_)))
      refine Ev.bind (total_ev _ (by rw [List.length_take]; omega)) (Ev.neg hT (Ev.pos h0 (Ev.pos (by omega) ?_)))
      refine Ev.bind (total_ev _ (by rw [List.length_take]; omega)) (Ev.pos (by rw [fill_length, List.length_replicate]; omega) ?_)
      rw [fill_step _ _ h0] at ih
      exact ih
/-- Two rows added, the first i places done, in place. -/
def plus (a b : List Int) : Nat → List Int
  | 0 => a
  | i + 1 => (plus a b i).set i (wrap64 (rd (plus a b i) i + rd b i))
theorem plus_length (a b : List Int) : ∀ i, (plus a b i).length = a.length
  | 0 => rfl
  | i + 1 => by rw [plus, List.length_set, plus_length a b i]
theorem plus_step (a b : List Int) {i : Int} (h : 0 ≤ i) : plus a b (i + 1).toNat = (plus a b i.toNat).set i.toNat (wrap64 (rd (plus a b i.toNat) i + rd b i)) := by
  rw [show (i + 1).toNat = i.toNat + 1 by omega, plus, show ((i.toNat : Nat) : Int) = i by omega]
theorem rd_plus (a b : List Int) (j : Int) (hj : 0 ≤ j) : ∀ i : Nat, i ≤ a.length → rd (plus a b i) j = if j < i then wrap64 (rd a j + rd b j) else rd a j
  | 0, _ => by rw [if_neg (by omega)]; rfl
  | i + 1, h => by
    have ih := rd_plus a b j hj i (by omega)
    have hs := rd_set (xs := plus a b i) (i := (i : Int)) (j := j) (v := wrap64 (rd (plus a b i) i + rd b i)) (by omega) (by rw [plus_length]; omega) hj
    rw [Int.toNat_natCast] at hs
    rw [plus, hs]
    by_cases e : j = (i : Int)
    · rw [if_pos e, if_pos (by omega), ← e, ih, if_neg (by omega)]
    · rw [if_neg e, ih]
      by_cases c : j < (i : Int)
      · rw [if_pos c, if_pos (by omega)]
      · rw [if_neg c, if_neg (by omega)]
/-- The same row, told place by place. -/
theorem plus_tab (a b : List Int) (h : b.length = a.length) : plus a b a.length = tab (fun i => wrap64 (rd a i + rd b i)) a.length := by
  refine ext_rd (by rw [plus_length, tab_length]) fun j h0 h1 => ?_
  rw [plus_length] at h1
  rw [rd_plus _ _ _ h0 _ (Nat.le_refl _), if_pos h1, rd_tab h0 h1]
theorem parts_length (n : Int) (ws : List Int) : (parts n ws).length = ws.length := by
  unfold parts
  split
  · rw [addTo_length, List.length_replicate]
  · rw [fill_length, List.length_replicate]
/-- The differences of two rows. -/
def diffs (a b : List Int) (n : Nat) : List Int := tab (fun i => wrap64 (rd a i - rd b i)) n
theorem tot_bd (xs : List Int) : -9223372036854775808 ≤ tot xs ∧ tot xs ≤ 9223372036854775807 := by
  unfold tot
  suffices h : ∀ (l : List Int) (a : Int), -9223372036854775808 ≤ a ∧ a ≤ 9223372036854775807 → -9223372036854775808 ≤ l.foldl (fun a x => wrap64 (a + x)) a ∧ l.foldl (fun a x => wrap64 (a + x)) a ≤ 9223372036854775807 from h xs 0 (by omega)
  intro l
  induction l with
  | nil => intro a h; exact h
  | cons x l ih => intro a _; exact ih (wrap64 (a + x)) (by unfold wrap64; omega)
theorem tot_diffs (a b : List Int) (n : Nat) (ha : a.length = n) (hb : b.length = n) : tot (diffs a b n) = wrap64 (tot a - tot b) := by
  have hd : (diffs a b n).length = n := tab_length _ _
  have key : ∀ i : Nat, i ≤ n → tot ((diffs a b n).take i) = wrap64 (tot (a.take i) - tot (b.take i)) := by
    intro i
    induction i with
    | zero => intro _; simp only [List.take_zero, tot, List.foldl_nil]; unfold wrap64; omega
    | succ i ih =>
      intro h
      have e1 := tot_take (xs := diffs a b n) (i := (i : Int)) (by omega) (by omega)
      have e2 := tot_take (xs := a) (i := (i : Int)) (by omega) (by omega)
      have e3 := tot_take (xs := b) (i := (i : Int)) (by omega) (by omega)
      have e4 : rd (diffs a b n) (i : Int) = wrap64 (rd a i - rd b i) := rd_tab (by omega) (by omega)
      rw [show ((i : Int) + 1).toNat = i + 1 by omega, Int.toNat_natCast] at e1 e2 e3
      rw [e1, e2, e3, e4, ih (by omega)]
      generalize tot (a.take i) = A
      generalize tot (b.take i) = B
      generalize rd a (i : Int) = x
      generalize rd b (i : Int) = y
      unfold wrap64; omega
  have := key n (Nat.le_refl _)
  rw [List.take_of_length_le (by omega), List.take_of_length_le (by omega), List.take_of_length_le (by omega)] at this
  exact this
/-- The differences, the first i ones told. -/
theorem fill_diffs (a b : List Int) (n : Nat) : fill (fun i => wrap64 (rd a i - rd b i)) (List.replicate n 0) n = diffs a b n := by
  have hr : ∀ (v : Int → Int) (xs : List Int) (j : Int), 0 ≤ j → ∀ i : Nat, i ≤ xs.length → rd (fill v xs i) j = if j < i then v j else rd xs j := by
    intro v xs j hj i
    induction i with
    | zero => intro _; rw [if_neg (by omega)]; rfl
    | succ i ih =>
      intro h
      have hs := rd_set (xs := fill v xs i) (i := (i : Int)) (j := j) (v := v i) (by omega) (by rw [fill_length]; omega) hj
      rw [Int.toNat_natCast] at hs
      rw [fill, hs]
      by_cases e : j = (i : Int)
      · rw [if_pos e, if_pos (by omega), e]
      · rw [if_neg e, ih (by omega)]
        by_cases c : j < (i : Int)
        · rw [if_pos c, if_pos (by omega)]
        · rw [if_neg c, if_neg (by omega)]
  refine ext_rd (by rw [fill_length, List.length_replicate]; exact (tab_length _ _).symm) fun j h0 h1 => ?_
  rw [fill_length, List.length_replicate] at h1
  rw [hr _ _ _ h0 n (by rw [List.length_replicate]; exact Nat.le_refl _), if_pos h1]
  exact (rd_tab (f := fun i => wrap64 (rd a i - rd b i)) h0 h1).symm
/-- The program's loop that adds parts to a row. -/
theorem add_l0 (a b : List Int) (hl : a.length ≤ 64) (h : b.length = a.length) : Ev (fun k => balance_Widths.l0 k a b (b.length : Int) 0) (plus a b a.length, 0) := by
  refine climb (g := fun i k => balance_Widths.l0 k (plus a b i.toNat) b (b.length : Int) i) (a := 0) (n := a.length) (by omega) ?_ fun i h0 h1 ih => ?_
  · exact Ev.step (fun k => by rw [balance_Widths.l0]) (Ev.neg (by omega) (Ev.ret (by rw [Int.toNat_natCast])))
  · refine Ev.step (fun k => by rw [balance_Widths.l0, w64 (n := i + 1) (by omega) (by omega)]) (Ev.pos (by omega) (Ev.pos h0 (Ev.pos (by omega) (Ev.pos (by rw [plus_length]; omega) ?_))))
    rw [plus_step _ _ h0] at ih
    exact ih
theorem add_l2 (a b : List Int) (hl : a.length ≤ 64) (h : b.length = a.length) : Ev (fun k => balance_Widths.l2 k a b (b.length : Int) 0) (plus a b a.length, 0) := by
  refine climb (g := fun i k => balance_Widths.l2 k (plus a b i.toNat) b (b.length : Int) i) (a := 0) (n := a.length) (by omega) ?_ fun i h0 h1 ih => ?_
  · exact Ev.step (fun k => by rw [balance_Widths.l2]) (Ev.neg (by omega) (Ev.ret (by rw [Int.toNat_natCast])))
  · refine Ev.step (fun k => by rw [balance_Widths.l2, w64 (n := i + 1) (by omega) (by omega)]) (Ev.pos (by omega) (Ev.pos h0 (Ev.pos (by omega) (Ev.pos (by rw [plus_length]; omega) ?_))))
    rw [plus_step _ _ h0] at ih
    exact ih
theorem tab_snoc (f : Int → Int) {i : Int} (h : 0 ≤ i) : tab f (i + 1).toNat = tab f i.toNat ++ [f i] := by
  rw [show (i + 1).toNat = i.toNat + 1 by omega]
  unfold tab
  rw [List.range_succ, List.map_append]
  simp only [List.map_cons, List.map_nil]
  rw [show ((i.toNat : Nat) : Int) = i by omega]
/-- The document's columns add the parts to the base. -/
theorem ref_j2 (a ws : List Int) (n : Int) (hl : a.length ≤ 64) (h1 : 1 ≤ a.length) (h : ws.length = a.length) (hn : tot ws = 0 → 0 ≤ n ∧ n ≤ 9223372036854775807) : Ev (fun k => chanceryref3_ColumnWidths.j2 k a ws n) (plus a (parts n ws) a.length) := by
  have hp : (parts n ws).length = a.length := (parts_length n ws).trans h
  refine Ev.step (fun k => by rw [chanceryref3_ColumnWidths.j2]) (Ev.bind (portions_ok n ws (by omega) (by omega) hn) ?_)
  rw [plus_tab _ _ hp]
  generalize parts n ws = b at hp
  refine climb (g := fun i k => chanceryref3_ColumnWidths.l1 k a (tab (fun i => wrap64 (rd a i + rd b i)) i.toNat) b (b.length : Int) i) (a := 0) (n := a.length) (by omega) ?_ fun i h0 h1 ih => ?_
  · exact Ev.step (fun k => by rw [chanceryref3_ColumnWidths.l1]) (Ev.neg (by omega) (Ev.ret (by rw [Int.toNat_natCast])))
  · refine Ev.step (fun k => by rw [chanceryref3_ColumnWidths.l1, w64 (n := i + 1) (by omega) (by omega)]) (Ev.pos (by omega) (Ev.pos h0 (Ev.pos (by omega) (Ev.pos (by omega) (Ev.pos (by rw [tab_length]; omega) ?_)))))
    rw [tab_snoc _ h0] at ih
    exact ih
/-- What both answer for cells that fit and a width in range. -/
def widths (low high : List Int) (width : Int) : List Int :=
  if width = 0 ∨ width = tot high then high else if width ≤ tot low then low
  else if width > tot high then plus high (parts (wrap64 (width - tot high)) high) high.length
  else plus low (parts (wrap64 (width - tot low)) (diffs high low low.length)) low.length
theorem no_weights {low high : List Int} {n : Nat} (hl : low.length = n) (hh : high.length = n) {width : Int} (h1 : ¬ width ≤ tot low) (h2 : ¬ width > tot high) (h3 : ¬ width = tot high) : tot (diffs high low n) ≠ 0 := by
  rw [tot_diffs high low n hh hl]
  have b1 := tot_bd low
  have b2 := tot_bd high
  unfold wrap64; omega
theorem widths_prog (cols : Int) (low high : List Int) (width : Int) (hc : 1 ≤ cols ∧ cols ≤ 64) (hl : low.length = cols.toNat) (hh : high.length = cols.toNat) (h0 : 0 ≤ width) (h1 : width ≤ 31680) : Ev (fun k => balance_Widths.j0 k cols width low high (decide (width > 31680))) (widths low high width, 0) := by
  have nl : low.length = high.length := hl.trans hh.symm
  refine Ev.step (fun k => by rw [balance_Widths.j0, decide_eq_false (by omega : ¬ width > 31680)]) (Ev.neg (by simp) (Ev.bind (sum_ev low (by omega)) (Ev.bind (sum_ev high (by omega)) ?_)))
  suffices h : Ev (fun k => balance_Widths.j1 k cols width low high (tot low) (tot high) (decide (width = 0 ∨ width = tot high))) (widths low high width, 0) by
    by_cases e : width = 0
    · refine Ev.pos e ?_
      rw [decide_eq_true (.inl e)] at h
      exact h
    · refine Ev.neg e ?_
      have : (width == tot high) = decide (width = 0 ∨ width = tot high) := by
        rw [Bool.eq_iff_iff, beq_iff_eq, decide_eq_true_eq]
        exact ⟨.inr, fun h => h.resolve_left e⟩
      rw [this]
      exact h
  unfold widths
  by_cases c0 : width = 0 ∨ width = tot high
  · rw [if_pos c0, decide_eq_true c0]
    exact Ev.step (fun k => by rw [balance_Widths.j1]) (Ev.pos rfl (Ev.now _))
  rw [if_neg c0, decide_eq_false c0]
  refine Ev.step (fun k => by rw [balance_Widths.j1]) (Ev.neg (by simp) ?_)
  by_cases c1 : width ≤ tot low
  · rw [if_pos c1]; exact Ev.pos c1 (Ev.now _)
  rw [if_neg c1]
  refine Ev.neg c1 ?_
  by_cases c2 : width > tot high
  · rw [if_pos c2]
    refine Ev.pos c2 (Ev.bind (share_ok _ high (by omega) (by omega) fun hz => ?_) ?_)
    · rw [hz]; unfold wrap64; omega
    · exact add_l0 high _ (by omega) (parts_length _ _)
  rw [if_neg c2]
  refine Ev.neg c2 (Ev.pos (by omega) (Ev.pos (by omega) (Ev.bind0 rfl ?_)))
  refine climb (g := fun i k => balance_Widths.l1 k width low high (tot low) (fill (fun i => wrap64 (rd high i - rd low i)) (List.replicate cols.toNat 0) i.toNat) ((List.replicate cols.toNat (0 : Int)).length : Int) i) (a := 0) (n := cols) (by omega) ?_ fun i h0 h1 ih => ?_
  · have hd : (diffs high low low.length).length = low.length := tab_length _ _
    refine Ev.step (fun k => by rw [balance_Widths.l1, fill_diffs, ← hl]) (Ev.neg (by rw [List.length_replicate]; omega) (Ev.bind (share_ok _ _ (by omega) (by omega) fun hz => absurd hz (no_weights rfl nl.symm c1 c2 (fun e => c0 (.inr e)))) ?_))
    exact add_l2 low _ (by omega) ((parts_length _ _).trans hd)
  · refine Ev.step (fun k => by rw [balance_Widths.l1, w64 (n := i + 1) (by omega) (by omega)]) (Ev.pos (by rw [List.length_replicate]; omega) (Ev.pos h0 (Ev.pos (by omega) (Ev.pos (by omega) (Ev.pos (by rw [fill_length, List.length_replicate]; omega) ?_)))))
    rw [fill_step _ _ h0] at ih
    exact ih
theorem widths_ref (cols : Int) (low high : List Int) (width : Int) (hc : 1 ≤ cols ∧ cols ≤ 64) (hl : low.length = cols.toNat) (hh : high.length = cols.toNat) (h0 : 0 ≤ width) (h1 : width ≤ 31680) : Ev (fun k => chanceryref3_ColumnWidths.j0 k cols width low high (tot low) (tot high) (decide (width = 0 ∨ width = tot high))) (widths low high width) := by
  have nl : low.length = high.length := hl.trans hh.symm
  unfold widths
  by_cases c0 : width = 0 ∨ width = tot high
  · rw [if_pos c0, decide_eq_true c0]
    exact Ev.step (fun k => by rw [chanceryref3_ColumnWidths.j0]) (Ev.pos rfl (Ev.now _))
  rw [if_neg c0, decide_eq_false c0]
  refine Ev.step (fun k => by rw [chanceryref3_ColumnWidths.j0]) (Ev.neg (by simp) ?_)
  by_cases c1 : width ≤ tot low
  · rw [if_pos c1]; exact Ev.pos c1 (Ev.now _)
  rw [if_neg c1]
  refine Ev.neg c1 (Ev.pos (by omega) (Ev.pos (by omega) (Ev.bind0 rfl ?_)))
  refine climb (g := fun i k => chanceryref3_ColumnWidths.l0 k width low high (tot high) low (fill (fun i => wrap64 (rd high i - rd low i)) (List.replicate cols.toNat 0) i.toNat) (wrap64 (width - tot low)) ((List.replicate cols.toNat (0 : Int)).length : Int) i) (a := 0) (n := cols) (by omega) ?_ fun i h0 h1 ih => ?_
  · have hd : (diffs high low low.length).length = low.length := tab_length _ _
    refine Ev.step (fun k => by rw [chanceryref3_ColumnWidths.l0, fill_diffs, ← hl]) (Ev.neg (by rw [List.length_replicate]; omega) ?_)
    by_cases c2 : width > tot high
    · rw [if_pos c2]
      refine Ev.pos c2 (ref_j2 high high _ (by omega) (by omega) rfl fun hz => ?_)
      rw [hz]; unfold wrap64; omega
    · rw [if_neg c2]
      exact Ev.neg c2 (ref_j2 low _ _ (by omega) (by omega) hd fun hz => absurd hz (no_weights rfl nl.symm c1 c2 (fun e => c0 (.inr e))))
  · refine Ev.step (fun k => by rw [chanceryref3_ColumnWidths.l0, w64 (n := i + 1) (by omega) (by omega)]) (Ev.pos (by rw [List.length_replicate]; omega) (Ev.pos h0 (Ev.pos (by omega) (Ev.pos (by omega) (Ev.pos (by rw [fill_length, List.length_replicate]; omega) ?_)))))
    rw [fill_step _ _ h0] at ih
    exact ih
theorem widths_length (low high : List Int) (width : Int) (h : low.length = high.length) : (widths low high width).length = high.length := by
  unfold widths
  repeat' split
  · rfl
  · exact h
  · exact plus_length _ _ _
  · rw [plus_length]; exact h
end BalanceW
open BalanceW
theorem balancedW : Ev (fun k => chancerylaw3_balanced.f k) true := Ev.of (fun k => chancerylaw3_balanced.mono k) (k := 40) (by decide +kernel)
theorem BalanceWidths (cols : Int) (l : List S94) (width : Int) : ∃ k, chancerylaw3_BalanceWidths.f k cols l width = some true := by
  obtain ⟨e, h1, h2, h3⟩ := checks cols l
  suffices h : Ev (fun k => chancerylaw3_BalanceWidths.f k cols l width) true by
    obtain ⟨K, hK⟩ := h
    exact ⟨K, hK K (Nat.le_refl K)⟩
  refine Ev.congr (fun k => by rw [chancerylaw3_BalanceWidths.f]) (Ev.bind balancedW (Ev.pos rfl ?_))
  by_cases h0 : e = 0
  · subst h0
    have hf := h3 rfl
    by_cases hw : 0 ≤ width ∧ width ≤ 31680
    · have hp : Ev (fun k => balance_Widths.f k cols l width) (widths (leastF l cols) (mostF l cols) width, 0) := by
        refine Ev.congr (fun k => by rw [balance_Widths.f]) (Ev.bind (needs_fits h1 hf) (Ev.pos rfl (Ev.neg (show ¬ width < 0 by omega) ?_)))
        exact widths_prog cols _ _ width ⟨hf.1, hf.2.1⟩ (leastF_length _ _) (mostF_length _ _) hw.1 hw.2
      have hr : Ev (fun k => chanceryref3_ColumnWidths.f k cols l width) (widths (leastF l cols) (mostF l cols) width) := by
        have hc1 := hf.1
        have hc2 := hf.2.1
        refine Ev.congr (fun k => by rw [chanceryref3_ColumnWidths.f]) (Ev.bind (show Ev (fun k => chanceryref3_Columns.f k cols l) (leastF l cols, mostF l cols) from Ev.ret' (if_pos hf)) (Ev.bind (total_ev (leastF l cols) (by rw [leastF_length]; omega)) (Ev.bind (total_ev (mostF l cols) (by rw [mostF_length]; omega)) ?_)))
        have h := widths_ref cols (leastF l cols) (mostF l cols) width ⟨hf.1, hf.2.1⟩ (leastF_length _ _) (mostF_length _ _) hw.1 hw.2
        by_cases e : width = 0
        · refine Ev.pos e ?_
          rw [decide_eq_true (.inl e)] at h
          exact h
        · refine Ev.neg e ?_
          have : (width == tot (mostF l cols)) = decide (width = 0 ∨ width = tot (mostF l cols)) := by
            rw [Bool.eq_iff_iff, beq_iff_eq, decide_eq_true_eq]
            exact ⟨.inr, fun h => h.resolve_left e⟩
          show Ev (fun k => chanceryref3_ColumnWidths.j0 k cols width _ _ _ _ (width == tot (mostF l cols))) _
          rw [this]
          exact h
      refine Ev.bind hp (Ev.bind h2 (Ev.pos rfl (Ev.bind0 (in_ok _ _ _) ?_)))
      rw [decide_eq_true hw]
      refine Ev.step (fun k => by rw [chancerylaw3_BalanceWidths.j0]) (Ev.neg (by simp) (Ev.step (fun k => by rw [chancerylaw3_BalanceWidths.j1]) (Ev.pos rfl (Ev.pos rfl (Ev.bind hr (Ev.bind (same_self _ ?_) (Ev.now _)))))))
      have hc2 := hf.2.1
      rw [widths_length _ _ _ ((leastF_length _ _).trans (mostF_length _ _).symm), mostF_length]
      omega
    · have hp : Ev (fun k => balance_Widths.f k cols l width) ([], 2) := by
        refine Ev.congr (fun k => by rw [balance_Widths.f]) (Ev.bind (needs_fits h1 hf) (Ev.pos rfl ?_))
        by_cases hn : width < 0
        · exact Ev.pos hn (Ev.step (fun k => by rw [balance_Widths.j0]) (Ev.pos rfl (Ev.now _)))
        · refine Ev.neg hn ?_
          rw [decide_eq_true (by omega : width > 31680)]
          exact Ev.step (fun k => by rw [balance_Widths.j0]) (Ev.pos rfl (Ev.now _))
      refine Ev.bind hp (Ev.bind h2 (Ev.pos rfl (Ev.bind0 (in_ok _ _ _) ?_)))
      rw [decide_eq_false hw]
      exact Ev.step (fun k => by rw [chancerylaw3_BalanceWidths.j0]) (Ev.pos (by simp) (Ev.step (g := fun k => chancerylaw3_BalanceWidths.j1 k cols l width [] 2 2) (f := fun _ => some true) (fun k => by rw [chancerylaw3_BalanceWidths.j1]; rfl) (Ev.now _)))
  · have hp : Ev (fun k => balance_Widths.f k cols l width) ([], e) :=
      Ev.congr (fun k => by rw [balance_Widths.f]) (Ev.bind (needs_bad h1 h0) (Ev.neg h0 (Ev.now _)))
    refine Ev.bind hp (Ev.bind h2 (Ev.neg h0 ?_))
    exact Ev.step (fun k => by rw [chancerylaw3_BalanceWidths.j0]) (Ev.neg (by simp) (Ev.step (g := fun k => chancerylaw3_BalanceWidths.j1 k cols l width [] e e) (f := fun _ => some true) (fun k => by rw [chancerylaw3_BalanceWidths.j1, if_neg h0, if_pos rfl]; rfl) (Ev.now _)))
end Go.Proofs.Ytihmbddneapooaa.Pure
