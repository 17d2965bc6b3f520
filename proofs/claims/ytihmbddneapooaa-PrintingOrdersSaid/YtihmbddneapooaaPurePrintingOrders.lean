/- Proved: printing.Order and printing.Several answer as the statement says, for every list of pages: a statement over numbers and lists alone, about the Lean functions of this seat's texts. Condition: the list is no longer than a slice can be. -/
import Derived.Test.YtihmbddneapooaaQPOx5
import Derived.Test.YtihmbddneapooaaLib
namespace Go.Proofs.Ytihmbddneapooaa.Pure
open Go.RowKit Go.Proofs.Ytihmbddneapooaa.QPO Go.Proofs.YtihmbddneapooaaW.PrintWords Go.Proofs.YtihmbddneapooaaW.PrintLast Go.Proofs.YtihmbddneapooaaW.PrintMore Go.Proofs.Ytihmbddneapooaa.Lib
namespace PrintOr
set_option linter.unusedVariables false
theorem in_ok (a b c : Int) : chanceryref3_In.f a b c = some (decide (b ≤ a ∧ a ≤ c)) := by
  unfold chanceryref3_In.f
  by_cases h : a ≥ b
  · rw [if_pos h]; congr 1; simp; omega
  · rw [if_neg h]; congr 1; simp; omega
theorem sameInts_from (xs ys : List Int) (hx : xs.length ≤ 9223372036854775806) (hl : xs.length = ys.length) (d : Nat) : ∀ i : Int, 0 ≤ i → i + d = xs.length → (∀ j, 0 ≤ j → j < i → rd xs j = rd ys j) → Ev (fun k => chanceryref3_SameInts.l0 k xs ys (xs.length : Int) i) (decide (xs = ys)) := by
  induction d with
  | zero =>
    intro i h0 hi hp
    refine Ev.step (fun k => by rw [chanceryref3_SameInts.l0]) (Ev.neg (by omega) (Ev.ret ?_))
    rw [eq_comm, decide_eq_true_eq]
    exact ext_rd hl fun j a b => hp j a (by omega)
  | succ d ih =>
    intro i h0 hi hp
    refine Ev.step (fun k => by rw [chanceryref3_SameInts.l0]) (Ev.pos (by omega) (Ev.pos (by omega) (Ev.pos (by omega) (Ev.pos (by omega) ?_))))
    by_cases e : rd xs i = rd ys i
    · refine Ev.pos e ?_
      rw [w64 (n := i + 1) (by omega) (by omega)]
      refine ih (i + 1) (by omega) (by omega) fun j a b => ?_
      by_cases c : j = i
      · rw [c]; exact e
      · exact hp j a (by omega)
    · refine Ev.neg e (Ev.ret ?_)
      rw [eq_comm, decide_eq_false_iff_not]
      intro h; rw [h] at e; exact e rfl
theorem sameInts_ok (xs ys : List Int) (hx : xs.length ≤ 9223372036854775806) : Ev (fun k => chanceryref3_SameInts.f k xs ys) (decide (xs = ys)) := by
  unfold chanceryref3_SameInts.f
  by_cases hl : xs.length = ys.length
  · exact Ev.pos (by omega) (sameInts_from xs ys hx hl xs.length 0 (by omega) (by omega) fun j a b => by omega)
  · refine Ev.neg (by omega) (Ev.ret ?_)
    rw [eq_comm, decide_eq_false_iff_not]
    intro h; exact hl (by rw [h])
/-- What a list of pages is worth. -/
def chk (l : List Int) : Int := if l.length > 10000 then 3 else if ∀ x ∈ l, 0 ≤ x ∧ x ≤ 10000 then 0 else 2
theorem all_rd (l : List Int) (p : Int → Prop) : (∀ x ∈ l, p x) ↔ ∀ i : Int, 0 ≤ i → i < l.length → p (rd l i) := by
  constructor
  · intro h i h0 h1; exact h _ (rd_mem h1 h0)
  · intro h x hx
    obtain ⟨i, h0, h1, rfl⟩ := mem_rd hx
    exact h i h0 h1
theorem check_ok (l : List Int) : Ev (fun k => printing_check.f k l) (chk l) := by
  unfold printing_check.f chk
  by_cases hl : l.length > 10000
  · rw [if_pos hl]; exact Ev.pos (by omega) (Ev.ret rfl)
  rw [if_neg hl]
  refine Ev.neg (by omega) ?_
  have go : ∀ (b : Int) (r : Int), 0 ≤ b → b ≤ l.length → (∀ i, 0 ≤ i → i < b → 0 ≤ rd l i ∧ rd l i ≤ 10000) → Ev (fun k => printing_check.l0 k l (l.length : Int) b) r → Ev (fun k => printing_check.l0 k l (l.length : Int) 0) r := by
    intro b r b0 b1 hb h
    refine climb (g := fun i k => printing_check.l0 k l (l.length : Int) i) b0 h fun i i0 i1 hi => ?_
    have := hb i i0 i1
    refine Ev.step (fun k => by rw [printing_check.l0]) (Ev.pos (by omega) (Ev.pos i0 (Ev.pos (by omega) (Ev.neg (by omega) (Ev.neg (by omega) ?_)))))
    rw [w64 (n := i + 1) (by omega) (by omega)]
    exact hi
  rcases first_bad (fun i => 0 ≤ rd l i ∧ rd l i ≤ 10000) l.length with h | ⟨b, b0, b1, hb, hp⟩
  · rw [if_pos ((all_rd l _).2 h)]
    exact go l.length 0 (by omega) (by omega) h (Ev.step (fun k => by rw [printing_check.l0]) (Ev.neg (by omega) (Ev.ret rfl)))
  · rw [if_neg (fun h => hb ((all_rd l _).1 h b b0 b1))]
    refine go b 2 b0 (by omega) hp (Ev.step (fun k => by rw [printing_check.l0]) (Ev.pos b1 (Ev.pos b0 (Ev.pos b1 ?_))))
    by_cases e : rd l b < 0
    · exact Ev.pos e (Ev.ret rfl)
    · exact Ev.neg e (Ev.pos (by omega) (Ev.ret rfl))
theorem listError_ok (l : List Int) : Ev (fun k => chancerylaw3_listError.f k l) (chk l) := by
  unfold chancerylaw3_listError.f chk
  by_cases hl : l.length > 10000
  · rw [if_pos hl]; exact Ev.pos (by omega) (Ev.ret rfl)
  rw [if_neg hl]
  refine Ev.neg (by omega) ?_
  have go : ∀ (b : Int) (r : Int), 0 ≤ b → b ≤ l.length → (∀ i, 0 ≤ i → i < b → 0 ≤ rd l i ∧ rd l i ≤ 10000) → Ev (fun k => chancerylaw3_listError.l0 k l (l.length : Int) b) r → Ev (fun k => chancerylaw3_listError.l0 k l (l.length : Int) 0) r := by
    intro b r b0 b1 hb h
    refine climb (g := fun i k => chancerylaw3_listError.l0 k l (l.length : Int) i) b0 h fun i i0 i1 hi => ?_
    refine Ev.step (fun k => by rw [chancerylaw3_listError.l0]) (Ev.pos (by omega) (Ev.pos i0 (Ev.pos (by omega) (Ev.bind0 (in_ok _ _ _) (Ev.dpos (hb i i0 i1) ?_)))))
    rw [w64 (n := i + 1) (by omega) (by omega)]
    exact hi
  rcases first_bad (fun i => 0 ≤ rd l i ∧ rd l i ≤ 10000) l.length with h | ⟨b, b0, b1, hb, hp⟩
  · rw [if_pos ((all_rd l _).2 h)]
    exact go l.length 0 (by omega) (by omega) h (Ev.step (fun k => by rw [chancerylaw3_listError.l0]) (Ev.neg (by omega) (Ev.ret rfl)))
  · rw [if_neg (fun h => hb ((all_rd l _).1 h b b0 b1))]
    exact go b 2 b0 (by omega) hp (Ev.step (fun k => by rw [chancerylaw3_listError.l0]) (Ev.pos b1 (Ev.pos b0 (Ev.pos b1 (Ev.bind0 (in_ok _ _ _) (Ev.dneg hb (Ev.ret rfl)))))))
theorem chk_zero {l : List Int} (h : chk l = 0) : l.length ≤ 10000 := by
  unfold chk at h
  by_cases hl : l.length > 10000
  · rw [if_pos hl] at h; omega
  · omega
/-- The page that stands at a place of the printed row, when it is counted from its first end. -/
def src (l : List Int) (c : Int) (collate : Bool) (k : Int) : Int := if collate = true then rd l (k % l.length) else rd l (k / c)
def pos (n : Int) (back : Bool) (j : Int) : Int := if back = true then n - 1 - j else j
theorem pos_pos (n : Int) (back : Bool) (j : Int) : pos n back (pos n back j) = j := by
  unfold pos; cases back
  · simp
  · simp only [if_true]; omega
/-- What Order gives. -/
def outL (l : List Int) (c : Int) (collate back : Bool) : List Int := tab (fun j => src l c collate (pos (l.length * c) back j)) (l.length * c).toNat
def orderS (l : List Int) (c : Int) (collate back : Bool) : List Int × Int :=
  if chk l = 0 then (if 1 ≤ c ∧ c ≤ 999 then (if (l.length : Int) * c > 10000 then ([], 19) else (outL l c collate back, 0)) else ([], 2)) else ([], chk l)
theorem mul_bd {a b : Int} (ha : 0 ≤ a) (ha2 : a ≤ 10000) (hb : 1 ≤ b) (hb2 : b ≤ 999) : 0 ≤ a * b ∧ a * b ≤ 9990000 := by
  have h1 : 0 ≤ a * b := Int.mul_nonneg ha (by omega)
  have h2 : a * b ≤ 10000 * b := Int.mul_le_mul_of_nonneg_right ha2 (by omega)
  omega
theorem order_loop (l : List Int) (c : Int) (collate back : Bool) (h1 : 1 ≤ c) (h2 : c ≤ 999) (hl : (l.length : Int) ≤ 10000) (hn : (l.length : Int) * c ≤ 10000) :
    Ev (fun k => printing_Order.l0 k l c collate back (List.replicate ((l.length : Int) * c).toNat 0) ((l.length : Int) * c) 0) (outL l c collate back, 0) := by
  have hn0 : 0 ≤ (l.length : Int) * c := Int.mul_nonneg (by omega) (by omega)
  generalize hN : (l.length : Int) * c = n at *
  have st : List.replicate n.toNat (0 : Int) = tab (fun j => if pos n back j < 0 then src l c collate (pos n back j) else 0) n.toNat := by
    rw [tab_const]
    refine tab_congr fun j h0 h1 => ?_
    rw [if_neg]; unfold pos; split <;> omega
  rw [st]
  refine climb (g := fun i k => printing_Order.l0 k l c collate back (tab (fun j => if pos n back j < i then src l c collate (pos n back j) else 0) n.toNat) n i) hn0 ?_ fun i i0 i1 hi => ?_
  · refine Ev.step (fun k => by rw [printing_Order.l0]) (Ev.neg (by omega) (Ev.ret ?_))
    unfold outL
    rw [hN]
    have e : tab (fun j => if pos n back j < n then src l c collate (pos n back j) else 0) n.toNat = tab (fun j => src l c collate (pos n back j)) n.toNat := by
      refine tab_congr fun j h0 h1 => ?_
      rw [if_pos]; unfold pos; split <;> omega
    rw [e]
  · have hw : wrap64 (i + 1) = i + 1 := w64 (by omega) (by omega)
    have hlen : ((tab (fun j => if pos n back j < i then src l c collate (pos n back j) else 0) n.toNat).length : Int) = n := by rw [tab_length]; omega
    have nx : ∀ (v : Int), v = src l c collate i → (tab (fun j => if pos n back j < i then src l c collate (pos n back j) else 0) n.toNat).set (pos n back i).toNat v = tab (fun j => if pos n back j < i + 1 then src l c collate (pos n back j) else 0) n.toNat := by
      intro v hv
      rw [tab_set (by unfold pos; split <;> omega), hv]
      refine tab_congr fun j h0 h1 => ?_
      by_cases e : j = pos n back i
      · have e2 : pos n back j = i := by rw [e, pos_pos]
        rw [if_pos e, e2, if_pos (by omega)]
      · have e2 : pos n back j ≠ i := by intro x; apply e; rw [← x, pos_pos]
        rw [if_neg e]
        by_cases g : pos n back j < i
        · rw [if_pos g, if_pos (by omega)]
        · rw [if_neg g, if_neg (by omega)]
    have hpos : 0 < (l.length : Int) := by
      by_cases z : (l.length : Int) = 0
      · rw [z] at hN; omega
      · omega
    have hm0 := Int.emod_nonneg i (show (l.length : Int) ≠ 0 by omega)
    have hm1 := Int.emod_lt_of_pos i hpos
    have hd0 : 0 ≤ i / c := Int.ediv_nonneg i0 (by omega)
    have hd1 : i / c < l.length := Int.ediv_lt_of_lt_mul (by omega) (by omega)
    have hd2 : i / c ≤ i := Int.ediv_le_self _ i0
    refine Ev.step (fun k => by rw [printing_Order.l0]) (Ev.pos i1 (Ev.neg (by omega) ?_))
    rw [hlen, tmod_nn i0, tdiv_nn i0, w64 (n := i / c) (by omega) (by omega), w64 (n := n - 1) (by omega) (by omega), w64 (n := n - 1 - i) (by omega) (by omega), hw]
    cases collate
    · refine Ev.neg (by simp) ?_
      cases back
      · refine Ev.neg (by simp) (Ev.pos hd0 (Ev.pos hd1 (Ev.pos i0 (Ev.pos i1 ?_))))
        exact Ev.congr (fun k => by have := nx (rd l (i / c)) rfl; rw [show pos n false i = i from rfl] at this; rw [this]) hi
      · refine Ev.pos rfl (Ev.pos hd0 (Ev.pos hd1 (Ev.pos (by omega) (Ev.pos (by omega) ?_))))
        exact Ev.congr (fun k => by rw [show n - 1 - i = pos n true i from rfl, nx (rd l (i / c)) rfl]) hi
    · refine Ev.pos rfl (Ev.neg (by omega) ?_)
      cases back
      · refine Ev.neg (by simp) (Ev.pos hm0 (Ev.pos hm1 (Ev.pos i0 (Ev.pos i1 ?_))))
        exact Ev.congr (fun k => by have := nx (rd l (i % l.length)) rfl; rw [show pos n false i = i from rfl] at this; rw [this]) hi
      · refine Ev.pos rfl (Ev.pos hm0 (Ev.pos hm1 (Ev.pos (by omega) (Ev.pos (by omega) ?_))))
        exact Ev.congr (fun k => by rw [show n - 1 - i = pos n true i from rfl, nx (rd l (i % l.length)) rfl]) hi
theorem order_ok (l : List Int) (c : Int) (collate back : Bool) (hc : -9223372036854775808 ≤ c ∧ c ≤ 9223372036854775807) : Ev (fun k => printing_Order.f k l c collate back) (orderS l c collate back) := by
  unfold printing_Order.f orderS
  refine Ev.bind (check_ok l) ?_
  by_cases h : chk l = 0
  case neg => rw [if_neg h]; exact Ev.neg h (Ev.ret rfl)
  rw [if_pos h]
  refine Ev.pos h ?_
  have hl := chk_zero h
  have bad : Ev (fun k => printing_Order.j0 k l c collate back true) (([] : List Int), (2 : Int)) := Ev.step (fun k => by rw [printing_Order.j0]) (Ev.pos rfl (Ev.ret rfl))
  by_cases g : 1 ≤ c ∧ c ≤ 999
  case neg =>
    rw [if_neg g]
    by_cases g1 : c < 1
    · exact Ev.pos g1 bad
    · refine Ev.neg g1 ?_
      rw [decide_eq_true (show c > 999 by omega)]
      exact bad
  rw [if_pos g]
  refine Ev.neg (by omega) ?_
  rw [decide_eq_false (show ¬ c > 999 by omega)]
  obtain ⟨m0, m1⟩ := mul_bd (a := l.length) (b := c) (by omega) (by omega) g.1 g.2
  refine Ev.step (fun k => by rw [printing_Order.j0]) (Ev.neg (by simp) ?_)
  rw [w64 (n := (l.length : Int) * c) (by omega) (by omega)]
  by_cases o : (l.length : Int) * c > 10000
  · rw [if_pos o]; exact Ev.pos o (Ev.ret rfl)
  rw [if_neg o]
  refine Ev.neg o (Ev.pos m0 (Ev.pos (by omega) (Ev.bind0 rfl ?_)))
  rw [List.length_replicate, show ((((l.length : Int) * c).toNat : Nat) : Int) = (l.length : Int) * c by omega]
  exact order_loop l c collate back g.1 g.2 (by omega) (by omega)
/-- The document's row, ahead of turning it round. -/
def wantL (l : List Int) (c : Int) (collate : Bool) : List Int := tab (src l c collate) (l.length * c).toNat
theorem tab_app (f : Int → Int) (a : Nat) (l : List Int) (h : ∀ t : Int, 0 ≤ t → t < l.length → f (a + t) = rd l t) : tab f a ++ l = tab f (a + l.length) := by
  refine ext_rd (by simp [tab_length]) fun i i0 i1 => ?_
  have i1 : i < (a : Int) + l.length := by simpa [tab_length] using i1
  by_cases g : i < a
  · rw [rd_app_left (by rw [tab_length]; omega) i0, rd_tab i0 (by omega), rd_tab i0 (by omega)]
  · rw [rd_app_right (by rw [tab_length]; omega), tab_length, rd_tab i0 (by omega), ← h (i - a) (by omega) (by omega)]
    congr 1; omega
theorem turn_loop (l x : List Int) (c : Int) (collate : Bool) (hx : x.length ≤ 9223372036854775806) (hn0 : 0 ≤ (l.length : Int) * c) (hn : (l.length : Int) * c ≤ 10000) :
    Ev (fun k => chancerylaw3_ordered.l3 k x 0 (wantL l c collate) 0 (wrap64 (((wantL l c collate).length : Int) - 1))) (decide (x = outL l c collate true)) := by
  unfold wantL outL
  generalize (l.length : Int) * c = n at *
  rw [tab_length, show ((n.toNat : Nat) : Int) = n by omega, w64 (n := n - 1) (by omega) (by omega)]
  have s0 : tab (src l c collate) n.toNat = tab (fun j => if j < 0 ∨ j > n - 1 - 0 then src l c collate (n - 1 - j) else src l c collate j) n.toNat := tab_congr fun j h0 h1 => by rw [if_neg (by omega)]
  rw [s0]
  refine Ev.congr (f := fun k => chancerylaw3_ordered.l3 k x 0 (tab (fun j => if j < 0 ∨ j > n - 1 - 0 then src l c collate (n - 1 - j) else src l c collate j) n.toNat) 0 (n - 1 - 0)) (fun k => by simp only [Int.sub_zero]) ?_
  refine climb (g := fun i k => chancerylaw3_ordered.l3 k x 0 (tab (fun j => if j < i ∨ j > n - 1 - i then src l c collate (n - 1 - j) else src l c collate j) n.toNat) i (n - 1 - i)) (a := 0) (n := n / 2) (by omega) ?_ fun i i0 i1 hi => ?_
  · refine Ev.step (fun k => by rw [chancerylaw3_ordered.l3]) (Ev.neg (by omega) (Ev.pos rfl ?_))
    have e : tab (fun j => if j < n / 2 ∨ j > n - 1 - n / 2 then src l c collate (n - 1 - j) else src l c collate j) n.toNat = tab (fun j => src l c collate (pos n true j)) n.toNat := by
      refine tab_congr fun j h0 h1 => ?_
      by_cases g : j < n / 2 ∨ j > n - 1 - n / 2
      · rw [if_pos g]; rfl
      · rw [if_neg g]
        have : j = n - 1 - j := by omega
        show _ = src l c collate (n - 1 - j)
        rw [← this]
    rw [e]
    exact Ev.bind (sameInts_ok x _ hx) (Ev.now _)
  · refine Ev.step (fun k => by rw [chancerylaw3_ordered.l3]) (Ev.pos (by omega) (Ev.pos (by omega) (Ev.pos (by rw [tab_length]; omega) (Ev.pos i0 (Ev.pos (by rw [tab_length]; omega) ?_)))))
    rw [w64 (n := i + 1) (by omega) (by omega), w64 (n := n - 1 - i - 1) (by omega) (by omega), rd_tab (by omega) (by omega), rd_tab i0 (by omega), tab_set i0, tab_set (by omega), show n - 1 - i - 1 = n - 1 - (i + 1) by omega]
    refine Ev.congr (fun k => ?_) hi
    congr 1
    refine tab_congr fun j h0 h1 => ?_
    rw [if_neg (show ¬ (n - 1 - i < i ∨ n - 1 - i > n - 1 - i) by omega), if_neg (show ¬ (i < i ∨ i > n - 1 - i) by omega)]
    by_cases a : j = n - 1 - i
    · subst a
      rw [if_pos rfl, if_pos (by omega)]
      congr 1; omega
    · rw [if_neg a]
      by_cases b : j = i
      · subst b
        rw [if_pos rfl, if_pos (by omega)]
      · rw [if_neg b]
        by_cases g : j < i ∨ j > n - 1 - i
        · rw [if_pos g, if_pos (by omega)]
        · rw [if_neg g, if_neg (by omega)]
theorem ordered_ok (l : List Int) (c : Int) (collate back : Bool) (h : chk l = 0) (hc : -9223372036854775808 ≤ c ∧ c ≤ 9223372036854775807) :
    Ev (fun k => chancerylaw3_ordered.f k l c collate back (orderS l c collate back).1 (orderS l c collate back).2) true := by
  unfold orderS
  rw [if_pos h]
  have hl := chk_zero h
  unfold chancerylaw3_ordered.f
  refine Ev.bind0 (in_ok _ _ _) ?_
  by_cases g : 1 ≤ c ∧ c ≤ 999
  case neg => rw [if_neg g]; exact Ev.dneg g (Ev.pos rfl (Ev.ret rfl))
  rw [if_pos g]
  refine Ev.dpos g ?_
  obtain ⟨m0, m1⟩ := mul_bd (a := l.length) (b := c) (by omega) (by omega) g.1 g.2
  rw [w64 (n := (l.length : Int) * c) (by omega) (by omega)]
  by_cases o : (l.length : Int) * c > 10000
  · rw [if_pos o]; exact Ev.pos o (Ev.pos rfl (Ev.ret rfl))
  rw [if_neg o]
  refine Ev.neg o ?_
  have hxl : (outL l c collate back).length ≤ 9223372036854775806 := by unfold outL; rw [tab_length]; omega
  have fin : Ev (fun k => chancerylaw3_ordered.j3 k back (outL l c collate back) 0 (wantL l c collate)) true := by
    refine Ev.step (fun k => by rw [chancerylaw3_ordered.j3]) ?_
    cases back
    · refine Ev.neg (by simp) (Ev.pos rfl (Ev.bind (sameInts_ok _ _ hxl) (Ev.ret ?_)))
      exact decide_eq_true rfl
    · exact Ev.pos rfl (Ev.out (turn_loop l _ c collate hxl m0 (by omega)) (decide_eq_true rfl))
  unfold wantL at fin
  cases collate
  · refine Ev.neg (by simp) ?_
    have cm : ∀ i : Int, 0 ≤ i → i ≤ l.length → 0 ≤ i * c ∧ i * c ≤ 10000 := fun i h0 h1 => ⟨Int.mul_nonneg h0 (by omega), Int.le_trans (Int.mul_le_mul_of_nonneg_right h1 (by omega)) (by omega)⟩
    refine Ev.congr (f := fun k => chancerylaw3_ordered.l1 k c back (outL l c false back) 0 (tab (src l c false) (0 * c).toNat) l (l.length : Int) 0) (fun k => by rw [Int.zero_mul]; rfl) ?_
    refine climb (g := fun i k => chancerylaw3_ordered.l1 k c back (outL l c false back) 0 (tab (src l c false) (i * c).toNat) l (l.length : Int) i) (a := 0) (n := l.length) (by omega) (Ev.step (fun k => by rw [chancerylaw3_ordered.l1]) (Ev.neg (by omega) fin)) fun i i0 i1 hi => ?_
    refine Ev.step (fun k => by rw [chancerylaw3_ordered.l1]) (Ev.pos i1 (Ev.pos i0 (Ev.pos i1 ?_)))
    have b0 := cm i i0 (by omega)
    have b1 := cm (i + 1) (by omega) (by omega)
    have e1 : (i + 1) * c = i * c + c := by rw [Int.add_mul, Int.one_mul]
    refine Ev.congr (f := fun k => chancerylaw3_ordered.l2 k c back (outL l c false back) 0 (tab (src l c false) (i * c + 0).toNat) (rd l i) l (l.length : Int) i c 0) (fun k => by rw [Int.add_zero]) ?_
    refine climb (g := fun t k => chancerylaw3_ordered.l2 k c back (outL l c false back) 0 (tab (src l c false) (i * c + t).toNat) (rd l i) l (l.length : Int) i c t) (a := 0) (n := c) (by omega) (Ev.step (fun k => by rw [chancerylaw3_ordered.l2]) (Ev.neg (by omega) ?_)) fun t t0 t1 ht => ?_
    · rw [w64 (n := i + 1) (by omega) (by omega), ← e1]
      exact hi
    · refine Ev.step (fun k => by rw [chancerylaw3_ordered.l2]) (Ev.pos t1 (Ev.pos (by rw [tab_length]; omega) ?_))
      rw [w64 (n := t + 1) (by omega) (by omega)]
      refine Ev.congr (fun k => ?_) ht
      congr 1
      rw [show (i * c + (t + 1)).toNat = (i * c + t).toNat + 1 by omega, tab_snoc]
      congr 2
      rw [show (((i * c + t).toNat : Nat) : Int) = i * c + t by omega]
      unfold src
      rw [if_neg (by simp), Int.add_comm, Int.add_mul_ediv_right _ _ (by omega), Int.ediv_eq_zero_of_lt t0 t1, Int.zero_add]
  · refine Ev.pos rfl ?_
    have cm : ∀ i : Int, 0 ≤ i → i ≤ c → 0 ≤ i * l.length ∧ i * l.length ≤ 10000 := fun i h0 h1 => ⟨Int.mul_nonneg h0 (by omega), Int.le_trans (Int.mul_le_mul_of_nonneg_right h1 (by omega)) (by rw [Int.mul_comm]; omega)⟩
    refine Ev.congr (f := fun k => chancerylaw3_ordered.l0 k l back (outL l c true back) 0 (tab (src l c true) (0 * (l.length : Int)).toNat) c 0) (fun k => by rw [Int.zero_mul]; rfl) ?_
    refine climb (g := fun i k => chancerylaw3_ordered.l0 k l back (outL l c true back) 0 (tab (src l c true) (i * (l.length : Int)).toNat) c i) (a := 0) (n := c) (by omega) (Ev.step (fun k => by rw [chancerylaw3_ordered.l0]) (Ev.neg (by omega) ?_)) fun i i0 i1 hi => ?_
    · rw [Int.mul_comm c]; exact fin
    have b0 := cm i i0 (by omega)
    have b1 := cm (i + 1) (by omega) (by omega)
    have e1 : (i + 1) * (l.length : Int) = i * l.length + l.length := by rw [Int.add_mul, Int.one_mul]
    refine Ev.step (fun k => by rw [chancerylaw3_ordered.l0]) (Ev.pos i1 (Ev.pos (by rw [tab_length]; omega) ?_))
    rw [w64 (n := i + 1) (by omega) (by omega)]
    refine Ev.congr (fun k => ?_) hi
    congr 1
    rw [show ((i + 1) * (l.length : Int)).toNat = (i * (l.length : Int)).toNat + l.length by omega]
    refine tab_app _ _ _ fun t t0 t1 => ?_
    rw [show (((i * (l.length : Int)).toNat : Nat) : Int) = i * l.length by omega]
    unfold src
    rw [if_pos rfl, Int.add_comm, Int.add_mul_emod_self_right, Int.emod_eq_of_lt t0 t1]
/-- Places on a side: rows and columns. -/
def idx (r c : Int) (down : Bool) (i : Int) : Int := if down = true then i % r * c + i / r else i
def ord (r c : Int) (down : Bool) (p : Int) : Int := if down = true then p % c * r + p / c else p
theorem two_div {a b c : Int} (h0 : 0 ≤ b) (h1 : b < c) : (a * c + b) / c = a ∧ (a * c + b) % c = b := by
  constructor
  · rw [Int.add_comm, Int.add_mul_ediv_right _ _ (by omega), Int.ediv_eq_zero_of_lt h0 h1, Int.zero_add]
  · rw [Int.add_comm, Int.add_mul_emod_self_right, Int.emod_eq_of_lt h0 h1]
theorem back_of {a c : Int} (hc : 0 < c) : a / c * c + a % c = a := Int.ediv_mul_add_emod a c
theorem div_lt {i r c : Int} (h1 : i < r * c) (hr : 0 < r) : i / r < c := Int.ediv_lt_of_lt_mul hr (by rw [Int.mul_comm]; exact h1)
theorem idx_bd {r c i : Int} (down : Bool) (hr : 0 < r) (hc : 0 < c) (h0 : 0 ≤ i) (h1 : i < r * c) : 0 ≤ idx r c down i ∧ idx r c down i < r * c := by
  unfold idx
  cases down
  · simp only [Bool.false_eq_true, if_false]; exact ⟨h0, h1⟩
  · simp only [if_true]
    have a0 := Int.emod_nonneg i (show r ≠ 0 by omega)
    have a1 := Int.emod_lt_of_pos i hr
    have b0 : 0 ≤ i / r := Int.ediv_nonneg h0 (by omega)
    have b1 := div_lt h1 hr
    have p0 : 0 ≤ i % r * c := Int.mul_nonneg a0 (by omega)
    have p1 : (i % r + 1) * c ≤ r * c := Int.mul_le_mul_of_nonneg_right (by omega) (by omega)
    rw [Int.add_mul, Int.one_mul] at p1
    omega
theorem ord_idx {r c i : Int} (down : Bool) (hr : 0 < r) (hc : 0 < c) (h0 : 0 ≤ i) (h1 : i < r * c) : ord r c down (idx r c down i) = i := by
  unfold ord idx
  cases down
  · rfl
  · simp only [if_true]
    obtain ⟨e1, e2⟩ := two_div (a := i % r) (b := i / r) (c := c) (Int.ediv_nonneg h0 (by omega)) (div_lt h1 hr)
    rw [e1, e2]
    exact back_of hr
theorem idx_ord {r c p : Int} (down : Bool) (hr : 0 < r) (hc : 0 < c) (h0 : 0 ≤ p) (h1 : p < r * c) : idx r c down (ord r c down p) = p := by
  unfold ord idx
  cases down
  · rfl
  · simp only [if_true]
    obtain ⟨e1, e2⟩ := two_div (a := p % c) (b := p / c) (c := r) (Int.ediv_nonneg h0 (by omega)) (div_lt (by rw [Int.mul_comm]; exact h1) hc)
    rw [e1, e2]
    exact back_of hc
theorem ord_bd {r c p : Int} (down : Bool) (hr : 0 < r) (hc : 0 < c) (h0 : 0 ≤ p) (h1 : p < r * c) : 0 ≤ ord r c down p ∧ ord r c down p < r * c := by
  have := idx_bd (r := c) (c := r) (i := p) down hc hr h0 (by rw [Int.mul_comm]; exact h1)
  unfold idx at this; unfold ord
  rw [Int.mul_comm r c]
  exact this
/-- One side when k pages are laid. -/
def sideL (l : List Int) (r c : Int) (down : Bool) (k s : Int) : List Int := tab (fun p => if s * (r * c) + ord r c down p < k then rd l (s * (r * c) + ord r c down p) else 0) (r * c).toNat
def sidesL (l : List Int) (r c : Int) (down : Bool) (k : Int) (m : Nat) : List (List Int) := tab (sideL l r c down k) m
def ceil (k n : Int) : Int := (k + n - 1) / n
theorem ceil_at {s i n : Int} (h0 : 0 < i) (h1 : i ≤ n) : ceil (s * n + i) n = s + 1 := by
  unfold ceil
  rw [show s * n + i + n - 1 = (s + 1) * n + (i - 1) by rw [Int.add_mul, Int.one_mul]; omega]
  exact (two_div (by omega) (by omega)).1
theorem ceil_0 {s n : Int} (h1 : 0 < n) : ceil (s * n) n = s := by
  unfold ceil
  rw [show s * n + n - 1 = s * n + (n - 1) by omega]
  exact (two_div (by omega) (by omega)).1
/-- A page is laid. -/
theorem lay {l : List Int} {r c : Int} {down : Bool} {s i : Int} (hr : 0 < r) (hc : 0 < c) (hs : 0 ≤ s) (h0 : 0 ≤ i) (h1 : i < r * c) :
    (sidesL l r c down (s * (r * c) + i) (s + 1).toNat).set s.toNat ((sideL l r c down (s * (r * c) + i) s).set (idx r c down i).toNat (rd l (s * (r * c) + i))) = sidesL l r c down (s * (r * c) + i + 1) (s + 1).toNat := by
  unfold sidesL
  rw [tab_set hs]
  refine tab_congr fun j j0 j1 => ?_
  by_cases e : j = s
  · rw [if_pos e, e]
    unfold sideL
    rw [tab_set (idx_bd down hr hc h0 h1).1]
    refine tab_congr fun p p0 p1 => ?_
    by_cases g : p = idx r c down i
    · rw [if_pos g, g, ord_idx down hr hc h0 h1, if_pos (by omega)]
    · rw [if_neg g]
      have g2 : ord r c down p ≠ i := fun x => g (by rw [← x, idx_ord down hr hc p0 (by omega)])
      by_cases u : s * (r * c) + ord r c down p < s * (r * c) + i
      · rw [if_pos u, if_pos (by omega)]
      · rw [if_neg u, if_neg (by omega)]
  · rw [if_neg e]
    unfold sideL
    refine tab_congr fun p p0 p1 => ?_
    have b := ord_bd down hr hc p0 (show p < r * c by omega)
    have m : (j + 1) * (r * c) ≤ s * (r * c) := Int.mul_le_mul_of_nonneg_right (by omega) (by omega)
    rw [Int.add_mul, Int.one_mul] at m
    rw [if_pos (by omega), if_pos (by omega)]
theorem grow {l : List Int} {r c : Int} {down : Bool} {s : Int} (hr : 0 < r) (hc : 0 < c) (hs : 0 ≤ s) : sidesL l r c down (s * (r * c)) s.toNat ++ [List.replicate (r * c).toNat 0] = sidesL l r c down (s * (r * c)) (s + 1).toNat := by
  unfold sidesL
  rw [show (s + 1).toNat = s.toNat + 1 by omega, tab_snoc]
  congr 2
  rw [show ((s.toNat : Nat) : Int) = s by omega, tab_const]
  unfold sideL
  refine tab_congr fun p p0 p1 => ?_
  have b := ord_bd down hr hc p0 (show p < r * c by omega)
  rw [if_neg (by omega)]
theorem sides_get {l : List Int} {r c k s : Int} {down : Bool} {m : Nat} (h0 : 0 ≤ s) (h1 : s < m) : rd_L1 (sidesL l r c down k m) s = sideL l r c down k s := tab_get [] h0 h1
theorem sides_len (l : List Int) (r c k : Int) (down : Bool) (m : Nat) : (sidesL l r c down k m).length = m := tab_length _ _
theorem side_len (l : List Int) (r c k s : Int) (down : Bool) : (sideL l r c down k s).length = (r * c).toNat := tab_length _ _
theorem several_body (l : List Int) (r c : Int) (down : Bool) (s j i : Int) (R : List (List Int) × Int) (hr : 0 < r) (hc : 0 < c) (hs : 0 ≤ s) (hs2 : s ≤ 1000000) (h0 : 0 ≤ j) (h1 : j < r * c) (hij : i = s * (r * c) + j) (hi1 : wrap64 (i + 1) = i + 1)
    (hi : Ev (fun k => printing_Several.l0 k r c down (sidesL l r c down (i + 1) (s + 1).toNat) l (l.length : Int) (i + 1)) R) (M : List (List Int)) (hM : M = sidesL l r c down i (s + 1).toNat) :
    Ev (fun k => if down = true then (if r = 0 then (none) else (if 0 ≤ (wrap64 ((M.length : Int) - 1)) then (if (wrap64 ((M.length : Int) - 1)) < (M.length : Int) then (if 0 ≤ (j % r * c + j / r) then (if (j % r * c + j / r) < ((rd_L1 M (wrap64 ((M.length : Int) - 1))).length : Int) then (printing_Several.l0 k r c down (M.set ((wrap64 ((M.length : Int) - 1)) : Int).toNat ((rd_L1 M (wrap64 ((M.length : Int) - 1))).set (j % r * c + j / r : Int).toNat (rd l i))) l (l.length : Int) (wrap64 (i + 1))) else (none)) else (none)) else (none)) else (none))) else (if 0 ≤ (wrap64 ((M.length : Int) - 1)) then (if (wrap64 ((M.length : Int) - 1)) < (M.length : Int) then (if 0 ≤ j then (if j < ((rd_L1 M (wrap64 ((M.length : Int) - 1))).length : Int) then (printing_Several.l0 k r c down (M.set ((wrap64 ((M.length : Int) - 1)) : Int).toNat ((rd_L1 M (wrap64 ((M.length : Int) - 1))).set (j : Int).toNat (rd l i))) l (l.length : Int) (wrap64 (i + 1))) else (none)) else (none)) else (none)) else (none))) R := by
  have hl : (M.length : Int) = s + 1 := by rw [hM, sides_len]; omega
  rw [hl, w64 (n := s + 1 - 1) (by omega) (by omega), show s + 1 - 1 = s by omega, hi1]
  have hg : rd_L1 M s = sideL l r c down i s := by rw [hM]; exact sides_get hs (by omega)
  have b := idx_bd down hr hc h0 h1
  have e : M.set s.toNat ((rd_L1 M s).set (idx r c down j).toNat (rd l i)) = sidesL l r c down (i + 1) (s + 1).toNat := by
    rw [hg, hM, hij]
    exact lay hr hc hs h0 h1
  have hlen : ((rd_L1 M s).length : Int) = r * c := by rw [hg, side_len]; omega
  rw [hlen]
  cases down
  · refine Ev.neg (by simp) (Ev.pos hs (Ev.pos (by omega) (Ev.pos h0 (Ev.pos h1 ?_))))
    exact Ev.congr (fun k => by rw [show M.set s.toNat ((rd_L1 M s).set j.toNat (rd l i)) = _ from e]) hi
  · refine Ev.pos rfl (Ev.neg (by omega) (Ev.pos hs (Ev.pos (by omega) (Ev.pos b.1 (Ev.pos b.2 ?_)))))
    exact Ev.congr (fun k => by rw [show M.set s.toNat ((rd_L1 M s).set (j % r * c + j / r).toNat (rd l i)) = _ from e]) hi
def severalS (l : List Int) (r c : Int) (down : Bool) : List (List Int) × Int :=
  if chk l = 0 then (if (1 ≤ r ∧ r ≤ 8) ∧ (1 ≤ c ∧ c ≤ 8) then (sidesL l r c down l.length (ceil l.length (r * c)).toNat, 0) else ([], 2)) else ([], chk l)
theorem prod_bd {r c : Int} (hr : 1 ≤ r ∧ r ≤ 8) (hc : 1 ≤ c ∧ c ≤ 8) : 1 ≤ r * c ∧ r * c ≤ 64 := by
  have h1 : 1 * c ≤ r * c := Int.mul_le_mul_of_nonneg_right hr.1 (by omega)
  have h2 : r * c ≤ 8 * c := Int.mul_le_mul_of_nonneg_right hr.2 (by omega)
  omega
theorem several_loop (l : List Int) (r c : Int) (down : Bool) (hr : 1 ≤ r ∧ r ≤ 8) (hc : 1 ≤ c ∧ c ≤ 8) (hl : (l.length : Int) ≤ 10000) :
    Ev (fun k => printing_Several.l0 k r c down ([] : List (List Int)) l (l.length : Int) 0) (sidesL l r c down l.length (ceil l.length (r * c)).toNat, 0) := by
  obtain ⟨n1, n2⟩ := prod_bd hr hc
  have z : ceil 0 (r * c) = 0 := by have := ceil_0 (s := 0) (n := r * c) (by omega); rwa [Int.zero_mul] at this
  refine Ev.congr (f := fun k => printing_Several.l0 k r c down (sidesL l r c down 0 (ceil 0 (r * c)).toNat) l (l.length : Int) 0) (fun k => by rw [z]; rfl) ?_
  refine climb (g := fun i k => printing_Several.l0 k r c down (sidesL l r c down i (ceil i (r * c)).toNat) l (l.length : Int) i) (a := 0) (n := l.length) (by omega) (Ev.step (fun k => by rw [printing_Several.l0]) (Ev.neg (by omega) (Ev.now _))) fun i i0 i1 hi => ?_
  have hi1 : wrap64 (i + 1) = i + 1 := w64 (by omega) (by omega)
  have hj0 := Int.emod_nonneg i (show r * c ≠ 0 by omega)
  have hj1 := Int.emod_lt_of_pos i (show 0 < r * c by omega)
  have hs0 : 0 ≤ i / (r * c) := Int.ediv_nonneg i0 (by omega)
  have hs1 : i / (r * c) ≤ i := Int.ediv_le_self _ i0
  have hij : i = i / (r * c) * (r * c) + i % (r * c) := (back_of (by omega)).symm
  refine Ev.step (fun k => by rw [printing_Several.l0]) (Ev.pos i1 (Ev.pos i0 (Ev.pos i1 ?_)))
  rw [w64 (n := r * c) (by omega) (by omega), tmod_nn i0]
  generalize hJ : i % (r * c) = j at *
  generalize hS : i / (r * c) = s at *
  have e1 : Int.tmod j r = j % r := tmod_nn hj0
  have a0 := Int.emod_nonneg j (show r ≠ 0 by omega)
  have a1 := Int.emod_lt_of_pos j (show 0 < r by omega)
  have d0 : 0 ≤ j / r := Int.ediv_nonneg hj0 (by omega)
  have d1 : j / r ≤ j := Int.ediv_le_self _ hj0
  have p0 : 0 ≤ j % r * c := Int.mul_nonneg a0 (by omega)
  have p1 : j % r * c ≤ 8 * c := Int.mul_le_mul_of_nonneg_right (by omega) (by omega)
  rw [e1, tdiv_nn hj0, w64 (n := j % r * c) (by omega) (by omega), w64 (n := j / r) (by omega) (by omega), w64 (n := j % r * c + j / r) (by omega) (by omega)]
  have hcl : ceil (i + 1) (r * c) = s + 1 := by rw [hij, Int.add_assoc]; exact ceil_at (by omega) (by omega)
  have hi' : Ev (fun k => printing_Several.l0 k r c down (sidesL l r c down (i + 1) (s + 1).toNat) l (l.length : Int) (i + 1)) (sidesL l r c down l.length (ceil l.length (r * c)).toNat, 0) := by rw [← hcl]; exact hi
  have body := several_body l r c down s j i _ (by omega) (by omega) hs0 (by omega) hj0 hj1 hij hi1 hi'
  refine Ev.neg (by omega) ?_
  by_cases zj : j = 0
  · have hc0 : ceil i (r * c) = s := by rw [hij, zj, Int.add_zero]; exact ceil_0 (by omega)
    refine Ev.pos zj (Ev.pos (by omega) (Ev.pos (by omega) (Ev.pos (by rw [sides_len]; omega) ?_)))
    refine Ev.bind0 (a := sidesL l r c down i (s + 1).toNat) ?_ (body _ rfl)
    rw [hc0, hij, zj, Int.add_zero, grow (by omega) (by omega) hs0]
  · have hc1 : ceil i (r * c) = s + 1 := by rw [hij]; exact ceil_at (by omega) (by omega)
    rw [hc1]
    exact Ev.neg zj (body _ rfl)
theorem several_ok (l : List Int) (r c : Int) (down : Bool) : Ev (fun k => printing_Several.f k l r c down) (severalS l r c down) := by
  unfold printing_Several.f severalS
  refine Ev.bind (check_ok l) ?_
  by_cases h : chk l = 0
  case neg => rw [if_neg h]; exact Ev.neg h (Ev.ret rfl)
  rw [if_pos h]
  refine Ev.pos h ?_
  have hl := chk_zero h
  have bad : Ev (fun k => printing_Several.j0 k l r c down true) (([] : List (List Int)), (2 : Int)) := Ev.step (fun k => by rw [printing_Several.j0]) (Ev.pos rfl (Ev.ret rfl))
  by_cases g : (1 ≤ r ∧ r ≤ 8) ∧ (1 ≤ c ∧ c ≤ 8)
  · rw [if_pos g]
    refine Ev.neg (by omega) (Ev.neg (by omega) (Ev.neg (by omega) ?_))
    rw [decide_eq_false (show ¬ c > 8 by omega)]
    refine Ev.step (fun k => by rw [printing_Several.j0]) (Ev.neg (by simp) ?_)
    exact several_loop l r c down g.1 g.2 (by omega)
  · rw [if_neg g]
    by_cases g1 : r < 1
    · exact Ev.pos g1 bad
    refine Ev.neg g1 ?_
    by_cases g2 : r > 8
    · exact Ev.pos g2 bad
    refine Ev.neg g2 ?_
    by_cases g3 : c < 1
    · exact Ev.pos g3 bad
    refine Ev.neg g3 ?_
    rw [decide_eq_true (show c > 8 by omega)]
    exact bad
theorem sided_ok (l : List Int) (r c : Int) (down : Bool) (h : chk l = 0) : Ev (fun k => chancerylaw3_sided.f k l r c down (severalS l r c down).1 (severalS l r c down).2) true := by
  unfold severalS
  rw [if_pos h]
  have hl := chk_zero h
  have bad : Ev (fun k => chancerylaw3_sided.j0 k l r c down ([] : List (List Int)) 2 true) true := by
    refine Ev.step (fun k => by rw [chancerylaw3_sided.j0]) ?_
    exact Ev.pos rfl (Ev.pos rfl (Ev.ret rfl))
  unfold chancerylaw3_sided.f
  refine Ev.bind0 (in_ok _ _ _) ?_
  by_cases g : 1 ≤ r ∧ r ≤ 8
  case neg => rw [if_neg (fun x => g x.1)]; exact Ev.dneg g bad
  refine Ev.dpos g (Ev.bind0 (in_ok _ _ _) ?_)
  by_cases g2 : 1 ≤ c ∧ c ≤ 8
  case neg => rw [if_neg (fun x => g2 x.2), decide_eq_false g2]; exact bad
  rw [if_pos ⟨g, g2⟩, decide_eq_true g2]
  obtain ⟨n1, n2⟩ := prod_bd g g2
  have hceil0 : 0 ≤ ceil l.length (r * c) := Int.ediv_nonneg (by omega) (by omega)
  have hceil1 : ceil l.length (r * c) * (r * c) ≤ l.length + r * c - 1 := Int.ediv_mul_le _ (by omega)
  have hceil2 : ceil l.length (r * c) ≤ l.length + r * c - 1 := Int.ediv_le_self _ (by omega)
  refine Ev.step (fun k => by rw [chancerylaw3_sided.j0]) (Ev.neg (by simp) (Ev.pos rfl ?_))
  rw [w64 (n := r * c) (by omega) (by omega), w64 (n := (l.length : Int) + r * c) (by omega) (by omega), w64 (n := (l.length : Int) + r * c - 1) (by omega) (by omega), tdiv_nn (by omega), w64 (n := ((l.length : Int) + r * c - 1) / (r * c)) (by exact Int.le_trans (by omega) hceil0) (Int.le_trans hceil2 (by omega))]
  refine Ev.neg (by omega) ?_
  have hlen : ((sidesL l r c down l.length (ceil l.length (r * c)).toNat).length : Int) = ceil l.length (r * c) := by rw [sides_len]; omega
  rw [hlen, show (ceil (l.length : Int) (r * c) != ((l.length : Int) + r * c - 1) / (r * c)) = false from bne_self_eq_false _]
  refine Ev.step (fun k => by rw [chancerylaw3_sided.j1]) (Ev.neg (by simp) ?_)
  generalize hY : sidesL l r c down l.length (ceil l.length (r * c)).toNat = Y at *
  rw [hlen]
  generalize hC : ceil l.length (r * c) = C at *
  refine climb (g := fun s k => chancerylaw3_sided.l0 k l r c down (r * c) Y C s) (a := 0) (n := C) hceil0 (Ev.step (fun k => by rw [chancerylaw3_sided.l0]) (Ev.neg (by omega) (Ev.now _))) fun s s0 s1 hs => ?_
  have hg : rd_L1 Y s = sideL l r c down l.length s := by rw [← hY]; exact sides_get s0 (by omega)
  have hsl : ((rd_L1 Y s).length : Int) = r * c := by rw [hg, side_len]; omega
  have m0 : 0 ≤ s * (r * c) := Int.mul_nonneg s0 (by omega)
  have m1 : (s + 1) * (r * c) ≤ C * (r * c) := Int.mul_le_mul_of_nonneg_right (by omega) (by omega)
  rw [Int.add_mul, Int.one_mul] at m1
  refine Ev.step (fun k => by rw [chancerylaw3_sided.l0]) (Ev.pos s1 (Ev.pos s0 (Ev.pos (by omega) (Ev.pos hsl ?_))))
  refine climb (g := fun a k => chancerylaw3_sided.l1 k l r c down (r * c) s (rd_L1 Y s) Y C s r a) (a := 0) (n := r) (by omega) (Ev.step (fun k => by rw [chancerylaw3_sided.l1]) (Ev.neg (by omega) (by rw [w64 (n := s + 1) (by omega) (by omega)]; exact hs))) fun a a0 a1 ha => ?_
  refine Ev.step (fun k => by rw [chancerylaw3_sided.l1]) (Ev.pos a1 ?_)
  refine climb (g := fun b k => chancerylaw3_sided.l2 k l r c down (r * c) s (rd_L1 Y s) a Y C s r a c b) (a := 0) (n := c) (by omega) (Ev.step (fun k => by rw [chancerylaw3_sided.l2]) (Ev.neg (by omega) (by rw [w64 (n := a + 1) (by omega) (by omega)]; exact ha))) fun b b0 b1 hb => ?_
  have q0 : 0 ≤ a * c := Int.mul_nonneg a0 (by omega)
  have q1 : (a + 1) * c ≤ r * c := Int.mul_le_mul_of_nonneg_right (by omega) (by omega)
  rw [Int.add_mul, Int.one_mul] at q1
  have u0 : 0 ≤ b * r := Int.mul_nonneg b0 (by omega)
  have u1 : (b + 1) * r ≤ c * r := Int.mul_le_mul_of_nonneg_right (by omega) (by omega)
  rw [Int.add_mul, Int.one_mul, Int.mul_comm c r] at u1
  obtain ⟨e1, e2⟩ := two_div (a := a) (b := b) (c := c) b0 b1
  have hv : rd (rd_L1 Y s) (a * c + b) = if s * (r * c) + ord r c down (a * c + b) < l.length then rd l (s * (r * c) + ord r c down (a * c + b)) else 0 := by
    rw [hg]
    exact rd_tab (by omega) (by omega)
  have fin : ∀ i : Int, i = s * (r * c) + ord r c down (a * c + b) → 0 ≤ i → Ev (fun k => chancerylaw3_sided.j5 k l r c down (r * c) s (rd_L1 Y s) a b i Y C s r a c b) true := by
    intro i hi i0
    rw [← hi] at hv
    refine Ev.step (fun k => by rw [chancerylaw3_sided.j5]) ?_
    rw [w64 (n := a * c) (by omega) (by omega), w64 (n := a * c + b) (by omega) (by omega), w64 (n := b + 1) (by omega) (by omega)]
    by_cases x : i < l.length
    · rw [if_pos x] at hv
      exact Ev.pos x (Ev.pos i0 (Ev.pos (by omega) (Ev.pos (by omega) (Ev.pos hv hb))))
    · rw [if_neg x] at hv
      exact Ev.neg x (Ev.pos (by omega) (Ev.pos (by omega) (Ev.pos hv hb)))
  refine Ev.step (fun k => by rw [chancerylaw3_sided.l2]) (Ev.pos b1 ?_)
  rw [w64 (n := s * (r * c)) (by omega) (by omega), w64 (n := b * r) (by omega) (by omega), w64 (n := a * c) (by omega) (by omega), w64 (n := s * (r * c) + b * r) (by omega) (by omega), w64 (n := s * (r * c) + b * r + a) (by omega) (by omega), w64 (n := s * (r * c) + a * c) (by omega) (by omega), w64 (n := s * (r * c) + a * c + b) (by omega) (by omega)]
  cases down
  · exact Ev.neg (by simp) (fin _ (by unfold ord; rw [if_neg (by simp)]; omega) (by omega))
  · exact Ev.pos rfl (fin _ (by unfold ord; rw [if_pos rfl, e1, e2]; omega) (by omega))
end PrintOr
open PrintOr in
theorem PrintingOrders (l : List Int) (copies : Int) (collate back : Bool) (rows cols : Int) (down : Bool) (hc : -9223372036854775808 ≤ copies ∧ copies ≤ 9223372036854775807) :
    ∃ k, chancerylaw3_PrintingOrders.f k l copies collate back rows cols down = some true := by
  refine Ev.rounds (r := true) ?_
  unfold chancerylaw3_PrintingOrders.f
  refine Ev.bind (Ev.out (order_ok [1, 2] 2 false true (by omega)) (show orderS [1, 2] 2 false true = ([2, 2, 1, 1], 0) by decide +kernel)) (Ev.pos rfl ?_)
  refine Ev.bind (sameInts_ok _ _ (by decide)) ?_
  refine Ev.step (fun k => by rw [chancerylaw3_PrintingOrders.j0]) (Ev.neg (by decide) ?_)
  refine Ev.bind (order_ok l copies collate back hc) ?_
  refine Ev.bind (several_ok l rows cols down) ?_
  refine Ev.bind (listError_ok l) ?_
  by_cases h : chk l = 0
  · refine Ev.pos h ?_
    refine Ev.bind (ordered_ok l copies collate back h hc) (Ev.pos rfl ?_)
    exact Ev.bind (sided_ok l rows cols down h) (Ev.now _)
  · refine Ev.neg h ?_
    have e1 : orderS l copies collate back = ([], chk l) := if_neg h
    have e2 : severalS l rows cols down = ([], chk l) := if_neg h
    rw [e1, e2]
    exact Ev.pos rfl (Ev.pos rfl (Ev.ret (show (wrap64 ((([] : List Int).length : Int) + (([] : List (List Int)).length : Int)) == 0) = true by decide +kernel)))
end Go.Proofs.Ytihmbddneapooaa.Pure
