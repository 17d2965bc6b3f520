/- Proved: bidi.Order gives the same list of places as the reference, which reverses stretches from the greatest level down; for every list of levels: the pure statement over numbers and lists that print.sh printed. No condition but the printed one. -/
import Derived.Test.YtihmbddneapooaaPBidiOrderReversesx5
import Derived.Test.YtihmbddneapooaaLib
namespace Go.Proofs.Ytihmbddneapooaa.Pure
open Go.RowKit Go.Proofs.Ytihmbddneapooaa.PBidiOrderReverses Go.Proofs.YtihmbddneapooaaW.PrintWords Go.Proofs.YtihmbddneapooaaW.PrintLast Go.Proofs.YtihmbddneapooaaW.PrintMore Go.Proofs.Ytihmbddneapooaa.Lib

namespace BidiOrder
theorem sameInts_from (xs ys : List Int) (hx : xs.length ≤ 9223372036854775806) (hl : xs.length = ys.length) (d : Nat) : ∀ i : Int, 0 ≤ i → i + d = xs.length → (∀ j, 0 ≤ j → j < i → rd xs j = rd ys j) → Ev (fun k => chanceryref3_SameInts.l0 k xs ys (xs.length : Int) i) (decide (xs = ys)) := by
  induction d with
  | zero =>
    intro i h0 hi hp
    refine Ev.step (fun k => by rw [chanceryref3_SameInts.l0]) (Ev.neg (by omega) (Ev.ret ?_))
    rw [eq_comm, decide_eq_true_eq]
    exact ext_rd hl fun j a b => hp j a (by omega)
  | succ d ih =>
    intro i h0 hi hp
    refine Ev.step (fun k => by rw [chanceryref3_SameInts.l0]) (Ev.pos (by omega) (Ev.pos (by omega) (Ev.pos (by omega) (Ev.pos (by omega) ?_))))
    by_cases e : rd xs i = rd ys i
    · refine Ev.pos e ?_
      rw [w64 (n := i + 1) (by omega) (by omega)]
      refine ih (i + 1) (by omega) (by omega) fun j a b => ?_
      by_cases c : j = i
      · rw [c]; exact e
      · exact hp j a (by omega)
    · refine Ev.neg e (Ev.ret ?_)
      rw [eq_comm, decide_eq_false_iff_not]
      intro h; rw [h] at e; exact e rfl
theorem sameInts_ok (xs ys : List Int) (hx : xs.length ≤ 9223372036854775806) : Ev (fun k => chanceryref3_SameInts.f k xs ys) (decide (xs = ys)) := by
  unfold chanceryref3_SameInts.f
  by_cases hl : xs.length = ys.length
  · exact Ev.pos (by omega) (sameInts_from xs ys hx hl xs.length 0 (by omega) (by omega) fun j a b => by omega)
  · refine Ev.neg (by omega) (Ev.ret ?_)
    rw [eq_comm, decide_eq_false_iff_not]
    intro h; exact hl (by rw [h])
theorem in_ok (a b c : Int) : chanceryref3_In.f a b c = some (decide (b ≤ a ∧ a ≤ c)) := by
  unfold chanceryref3_In.f
  by_cases h : a ≥ b
  · rw [if_pos h]; congr 1; simp; omega
  · rw [if_neg h]; congr 1; simp; omega
/-- What is known of a list whose places from a to b were turned round. -/
structure Turned (xs ys : List Int) (a b : Int) : Prop where
  len : ys.length = xs.length
  out : ∀ i : Int, 0 ≤ i → i < a ∨ b < i → rd ys i = rd xs i
  ins : ∀ i : Int, a ≤ i → i ≤ b → ∃ j, a ≤ j ∧ j ≤ b ∧ rd ys i = rd xs j
theorem turned (lv : List Int) (x4 : Int) (d : Nat) : ∀ (xs : List Int) (a b : Int), b - a ≤ d → 0 ≤ a → b < xs.length → xs.length ≤ 1000000 →
    ∃ ys, Turned xs ys a b ∧ (∀ x9 r, Ev (fun k => bidi_Order.l2 k lv x4 ys (wrap64 (x9 + 1))) r → Ev (fun k => bidi_Order.l4 k lv x4 xs x9 a b) r) ∧
      (∀ x10 r, Ev (fun k => chanceryref3_Shown.l3 k lv ys x4 (wrap64 (x10 + 1)) (wrap64 (x10 + 1))) r → Ev (fun k => chanceryref3_Shown.l4 k lv xs x4 x10 a b) r) := by
  induction d using Nat.strongRecOn with
  | ind d ih =>
    intro xs a b hd h0 hb hl
    by_cases h : a < b
    · have la : rd ((xs.set a.toNat (rd xs b)).set b.toNat (rd xs a)) = fun i => rd ((xs.set a.toNat (rd xs b)).set b.toNat (rd xs a)) i := rfl
      have val : ∀ i, 0 ≤ i → rd ((xs.set a.toNat (rd xs b)).set b.toNat (rd xs a)) i = if i = b then rd xs a else if i = a then rd xs b else rd xs i := by
        intro i hi
        rw [rd_set (by omega) (by simpa using hb) hi, rd_set h0 (by omega) hi]
      obtain ⟨ys, T, p, q⟩ := ih (d - 2) (by omega) ((xs.set a.toNat (rd xs b)).set b.toNat (rd xs a)) (a + 1) (b - 1) (by omega) (by omega) (by simp; omega) (by simpa using hl)
      refine ⟨ys, ⟨by rw [T.len]; simp, fun i hi hi2 => ?_, fun i hi hi2 => ?_⟩, fun x9 r hr => ?_, fun x10 r hr => ?_⟩
      · rw [T.out i hi (by omega), val i hi, if_neg (by omega), if_neg (by omega)]
      · by_cases e1 : i = a
        · exact ⟨b, by omega, by omega, by rw [T.out i (by omega) (by omega), val i (by omega), if_neg (by omega), if_pos e1]⟩
        · by_cases e2 : i = b
          · exact ⟨a, by omega, by omega, by rw [T.out i (by omega) (by omega), val i (by omega), if_pos e2]⟩
          · obtain ⟨j, j1, j2, j3⟩ := T.ins i (by omega) (by omega)
            exact ⟨j, by omega, by omega, by rw [j3, val j (by omega), if_neg (by omega), if_neg (by omega)]⟩
      · refine Ev.step (fun k => by rw [bidi_Order.l4]) (Ev.pos h (Ev.pos (by omega) (Ev.pos hb (Ev.pos h0 (Ev.pos (by omega) ?_)))))
        rw [w64 (n := a + 1) (by omega) (by omega), w64 (n := b - 1) (by omega) (by omega)]
        exact p x9 r hr
      · refine Ev.step (fun k => by rw [chanceryref3_Shown.l4]) (Ev.pos h (Ev.pos (by omega) (Ev.pos hb (Ev.pos h0 (Ev.pos (by omega) ?_)))))
        rw [w64 (n := a + 1) (by omega) (by omega), w64 (n := b - 1) (by omega) (by omega)]
        exact q x10 r hr
    · refine ⟨xs, ⟨rfl, fun _ _ _ => rfl, fun i h1 h2 => ⟨i, h1, h2, rfl⟩⟩, fun x9 r hr => ?_, fun x10 r hr => ?_⟩
      · exact Ev.step (fun k => by rw [bidi_Order.l4]) (Ev.neg h hr)
      · exact Ev.step (fun k => by rw [chanceryref3_Shown.l4]) (Ev.neg h hr)
/-- Where a level is at least t, for t up to m, is not changed by the order so far. -/
structure Same (lv xs : List Int) (m : Int) : Prop where
  len : xs.length = lv.length
  ran : ∀ i : Int, 0 ≤ i → i < lv.length → 0 ≤ rd xs i ∧ rd xs i < lv.length
  lev : ∀ i t : Int, 0 ≤ i → i < lv.length → t ≤ m → (t ≤ rd lv (rd xs i) ↔ t ≤ rd lv i)
/-- A stretch: from i on all levels up to the end 'to' are at least m. -/
theorem stretch (lv xs : List Int) (m : Int) (S : Same lv xs m) (hl : lv.length ≤ 100000) (i : Int) (h0 : 0 ≤ i) (d : Nat) : ∀ p : Int, i ≤ p → p + d = lv.length → (∀ j, i ≤ j → j < p → m ≤ rd lv j) →
    ∃ tt : Int, p ≤ tt ∧ tt ≤ lv.length ∧ (∀ j, i ≤ j → j < tt → m ≤ rd lv j) ∧
      (∀ r, Ev (fun k => bidi_Order.j4 k lv m xs i tt) r → Ev (fun k => bidi_Order.l3 k lv m xs i p) r) ∧
      (∀ r, Ev (fun k => chanceryref3_Shown.l4 k lv xs m tt i (tt - 1)) r → Ev (fun k => chanceryref3_Shown.l3 k lv xs m i p) r) := by
  induction d with
  | zero =>
    intro p hp hd hall
    have hs := S.len
    refine ⟨p, by omega, by omega, hall, fun r hr => ?_, fun r hr => ?_⟩
    · exact Ev.step (fun k => by rw [bidi_Order.l3]) (Ev.neg (by omega) hr)
    · refine Ev.step (fun k => by rw [chanceryref3_Shown.l3]) (Ev.pos (by omega) (Ev.neg (by omega) (Ev.step (fun k => by rw [chanceryref3_Shown.j4]) (Ev.neg (by simp) ?_))))
      rw [w64 (n := p - 1) (by omega) (by omega)]
      exact hr
  | succ d ih =>
    intro p hp hd hall
    have hs := S.len
    obtain ⟨r1, r2⟩ := S.ran p (by omega) (by omega)
    have lv1 := S.lev p m (by omega) (by omega) (by omega)
    by_cases hm : m ≤ rd lv p
    · obtain ⟨tt, t1, t2, t3, t4, t5⟩ := ih (p + 1) (by omega) (by omega) fun j j1 j2 => by
        by_cases e : j = p
        · rw [e]; exact hm
        · exact hall j j1 (by omega)
      refine ⟨tt, by omega, t2, t3, fun r hr => ?_, fun r hr => ?_⟩
      · refine Ev.step (fun k => by rw [bidi_Order.l3]) (Ev.pos (by omega) (Ev.pos (by omega) (Ev.pos (by omega) (Ev.pos hm ?_))))
        rw [w64 (n := p + 1) (by omega) (by omega)]
        exact t4 r hr
      · refine Ev.step (fun k => by rw [chanceryref3_Shown.l3]) (Ev.pos (by omega) (Ev.pos (by omega) (Ev.pos (by omega) (Ev.pos r1 (Ev.pos r2 (Ev.step (fun k => by rw [chanceryref3_Shown.j4]) (Ev.pos ?_ ?_)))))))
        · simpa using lv1.2 hm
        · rw [w64 (n := p + 1) (by omega) (by omega)]
          exact t5 r hr
    · refine ⟨p, by omega, by omega, hall, fun r hr => ?_, fun r hr => ?_⟩
      · exact Ev.step (fun k => by rw [bidi_Order.l3]) (Ev.pos (by omega) (Ev.pos (by omega) (Ev.pos (by omega) (Ev.neg hm hr))))
      · refine Ev.step (fun k => by rw [chanceryref3_Shown.l3]) (Ev.pos (by omega) (Ev.pos (by omega) (Ev.pos (by omega) (Ev.pos r1 (Ev.pos r2 (Ev.step (fun k => by rw [chanceryref3_Shown.j4]) (Ev.neg ?_ ?_)))))))
        · simp; have := mt lv1.1 hm; omega
        · rw [w64 (n := p - 1) (by omega) (by omega)]
          exact hr
/-- One level: both turn the same stretches. -/
theorem level (lv : List Int) (m : Int) (hl : lv.length ≤ 100000) (d : Nat) : ∀ (xs : List Int) (i : Int), Same lv xs m → 0 ≤ i → (lv.length : Int) + 1 - i ≤ d → i ≤ lv.length + 1 →
    ∃ ys, Same lv ys m ∧ (∀ r, Ev (fun k => bidi_Order.l1 k lv (wrap64 (m - 1)) ys) r → Ev (fun k => bidi_Order.l2 k lv m xs i) r) ∧
      (∀ r, Ev (fun k => chanceryref3_Shown.l2 k lv ys (wrap64 (m - 1))) r → Ev (fun k => chanceryref3_Shown.l3 k lv xs m i i) r) := by
  induction d using Nat.strongRecOn with
  | ind d ih =>
    intro xs i S h0 hd hi
    have hs := S.len
    by_cases hend : (lv.length : Int) < i
    · exact ⟨xs, S, fun r hr => Ev.step (fun k => by rw [bidi_Order.l2]) (Ev.neg (by omega) hr), fun r hr => Ev.step (fun k => by rw [chanceryref3_Shown.l3]) (Ev.neg (by omega) hr)⟩
    · by_cases hlast : (lv.length : Int) = i
      · refine ⟨xs, S, fun r hr => Ev.step (fun k => by rw [bidi_Order.l2]) (Ev.neg (by omega) hr), fun r hr => ?_⟩
        refine Ev.step (fun k => by rw [chanceryref3_Shown.l3]) (Ev.pos (by omega) (Ev.neg (by omega) (Ev.step (fun k => by rw [chanceryref3_Shown.j4]) (Ev.neg (by simp) ?_))))
        refine Ev.step (fun k => by rw [chanceryref3_Shown.l4]) (Ev.neg (by rw [w64 (n := i - 1) (by omega) (by omega)]; omega) ?_)
        rw [w64 (n := i + 1) (by omega) (by omega)]
        exact Ev.step (fun k => by rw [chanceryref3_Shown.l3]) (Ev.neg (by omega) hr)
      · by_cases hm : m ≤ rd lv i
        · obtain ⟨tt, t1, t2, t3, t4, t5⟩ := stretch lv xs m S hl i h0 ((lv.length : Int) - (i + 1)).toNat (i + 1) (by omega) (by omega) fun j j1 j2 => by
            rw [show j = i by omega]; exact hm
          obtain ⟨ys, T, p, q⟩ := turned lv m (tt - 1 - i).toNat xs i (tt - 1) (by omega) h0 (by omega) (by omega)
          have S' : Same lv ys m := by
            refine ⟨by rw [T.len, hs], fun j j1 j2 => ?_, fun j t j1 j2 jt => ?_⟩
            · by_cases c : i ≤ j ∧ j ≤ tt - 1
              · obtain ⟨j', a1, a2, a3⟩ := T.ins j c.1 c.2
                rw [a3]; exact S.ran j' (by omega) (by omega)
              · rw [T.out j j1 (by omega)]; exact S.ran j j1 j2
            · by_cases c : i ≤ j ∧ j ≤ tt - 1
              · obtain ⟨j', a1, a2, a3⟩ := T.ins j c.1 c.2
                rw [a3, S.lev j' t (by omega) (by omega) jt]
                have u1 := t3 j' a1 (by omega)
                have u2 := t3 j c.1 (by omega)
                exact ⟨fun _ => by omega, fun _ => by omega⟩
              · rw [T.out j j1 (by omega)]; exact S.lev j t j1 j2 jt
          obtain ⟨zs, S2, p2, q2⟩ := ih (d - 1) (by omega) ys (tt + 1) S' (by omega) (by omega) (by omega)
          obtain ⟨r1, r2⟩ := S.ran i (by omega) (by omega)
          have wt : wrap64 (tt + 1) = tt + 1 := w64 (by omega) (by omega)
          refine ⟨zs, S2, fun r hr => ?_, fun r hr => ?_⟩
          · refine Ev.step (fun k => by rw [bidi_Order.l2]) (Ev.pos (by omega) (Ev.pos (by omega) (Ev.pos (by omega) (Ev.neg (by omega) ?_))))
            refine Ev.step (fun k => by rw [bidi_Order.l3]) (Ev.pos (by omega) (Ev.pos (by omega) (Ev.pos (by omega) (Ev.pos hm ?_))))
            rw [w64 (n := i + 1) (by omega) (by omega)]
            refine t4 r (Ev.step (fun k => by rw [bidi_Order.j4]) ?_)
            rw [w64 (n := tt - 1) (by omega) (by omega)]
            refine p tt r ?_
            rw [wt]
            exact p2 r hr
          · refine Ev.step (fun k => by rw [chanceryref3_Shown.l3]) (Ev.pos (by omega) (Ev.pos (by omega) (Ev.pos (by omega) (Ev.pos r1 (Ev.pos r2 (Ev.step (fun k => by rw [chanceryref3_Shown.j4]) (Ev.pos ?_ ?_)))))))
            · simpa using (S.lev i m (by omega) (by omega) (by omega)).2 hm
            · rw [w64 (n := i + 1) (by omega) (by omega)]
              refine t5 r (q tt r ?_)
              rw [wt]
              exact q2 r hr
        · obtain ⟨zs, S2, p2, q2⟩ := ih (d - 1) (by omega) xs (i + 1) S (by omega) (by omega) (by omega)
          obtain ⟨r1, r2⟩ := S.ran i (by omega) (by omega)
          refine ⟨zs, S2, fun r hr => ?_, fun r hr => ?_⟩
          · refine Ev.step (fun k => by rw [bidi_Order.l2]) (Ev.pos (by omega) (Ev.pos (by omega) (Ev.pos (by omega) (Ev.pos (by omega) ?_))))
            rw [w64 (n := i + 1) (by omega) (by omega)]
            exact p2 r hr
          · refine Ev.step (fun k => by rw [chanceryref3_Shown.l3]) (Ev.pos (by omega) (Ev.pos (by omega) (Ev.pos (by omega) (Ev.pos r1 (Ev.pos r2 (Ev.step (fun k => by rw [chanceryref3_Shown.j4]) (Ev.neg ?_ ?_)))))))
            · have := mt (S.lev i m (by omega) (by omega) (by omega)).1 hm
              simp; omega
            · rw [w64 (n := i - 1) (by omega) (by omega)]
              refine Ev.step (fun k => by rw [chanceryref3_Shown.l4]) (Ev.neg (by omega) ?_)
              rw [w64 (n := i + 1) (by omega) (by omega)]
              exact q2 r hr
/-- All levels from m down. -/
theorem levels (lv : List Int) (hl : lv.length ≤ 100000) (n : Nat) : ∀ (xs : List Int) (m : Int), m = n → n ≤ 1000 → Same lv xs m →
    ∃ ys : List Int, ys.length = lv.length ∧ Ev (fun k => bidi_Order.l1 k lv m xs) (ys, 0) ∧ Ev (fun k => chanceryref3_Shown.l2 k lv xs m) ys := by
  induction n with
  | zero =>
    intro xs m hm _ S
    exact ⟨xs, S.len, Ev.step (fun k => by rw [bidi_Order.l1]) (Ev.neg (by omega) (Ev.now _)), Ev.step (fun k => by rw [chanceryref3_Shown.l2]) (Ev.neg (by omega) (Ev.now _))⟩
  | succ n ih =>
    intro xs m hm hn S
    obtain ⟨ys, S1, p, q⟩ := level lv m hl (lv.length + 1) xs 0 S (by omega) (by omega) (by omega)
    obtain ⟨zs, hz, a, b⟩ := ih ys (m - 1) (by omega) (by omega) ⟨S1.len, S1.ran, fun i t h1 h2 h3 => S1.lev i t h1 h2 (by omega)⟩
    rw [w64 (n := m - 1) (by omega) (by omega)] at p q
    exact ⟨zs, hz, Ev.step (fun k => by rw [bidi_Order.l1]) (Ev.pos (by omega) (p _ a)), Ev.step (fun k => by rw [chanceryref3_Shown.l2]) (Ev.pos (by omega) (q _ b))⟩
/-- The greatest of some numbers and a first one. -/
def most (m : Int) (l : List Int) : Int := l.foldl mx m
theorem most_bd (l : List Int) : ∀ m : Int, 0 ≤ m → m ≤ 1000 → (∀ x ∈ l, 0 ≤ x ∧ x ≤ 126) → 0 ≤ most m l ∧ most m l ≤ 1000 := by
  induction l with
  | nil => intro m a b _; exact ⟨a, b⟩
  | cons x l ih =>
    intro m a b h
    have hx := h x (by simp)
    exact ih (mx m x) (by unfold mx; split <;> omega) (by unfold mx; split <;> omega) fun y hy => h y (by simp [hy])
theorem first_good (lv : List Int) (hl : lv.length ≤ 100000) (hg : ∀ x ∈ lv, 0 ≤ x ∧ x ≤ 126) (r : List Int × Int) (idl : List Int) (hidl : idl.length = lv.length ∧ ∀ j : Int, 0 ≤ j → j < lv.length → rd idl j = j) (d : Nat) : ∀ (i m : Int) (out : List Int), 0 ≤ i → i + d = lv.length →
    out.length = lv.length → (∀ j, 0 ≤ j → j < i → rd out j = j) → Ev (fun k => bidi_Order.l1 k lv (most m (lv.drop i.toNat)) idl) r → Ev (fun k => bidi_Order.l0 k lv m out lv (lv.length : Int) i) r := by
  induction d with
  | zero =>
    intro i m out h0 hi ho hj hr
    refine Ev.step (fun k => by rw [bidi_Order.l0]) (Ev.neg (by omega) ?_)
    rw [List.drop_eq_nil_of_le (by omega)] at hr
    rw [show out = idl from ext_rd (by rw [ho, hidl.1]) fun j a b => by rw [hj j a (by omega), hidl.2 j a (by omega)]]
    exact hr
  | succ d ih =>
    intro i m out h0 hi ho hj hr
    have hx := hg _ (rd_mem (xs := lv) (i := i) (by omega) h0)
    refine Ev.step (fun k => by rw [bidi_Order.l0]) (Ev.pos (by omega) (Ev.pos h0 (Ev.pos (by omega) (Ev.neg (by omega) (Ev.neg (by omega) (Ev.pos (by omega) ?_))))))
    rw [w64 (n := i + 1) (by omega) (by omega)]
    refine ih (i + 1) _ _ (by omega) (by omega) (by simpa using ho) (fun j a b => ?_) ?_
    · rw [rd_set h0 (by omega) a]
      by_cases e : j = i
      · rw [if_pos e, e]
      · rw [if_neg e]; exact hj j a (by omega)
    · rw [drop_rd h0 (by omega)] at hr
      exact hr
theorem first_bad (lv : List Int) (hl : lv.length ≤ 100000) (d : Nat) : ∀ (i m : Int) (out : List Int), 0 ≤ i → i + d = lv.length → out.length = lv.length →
    (∃ j, i ≤ j ∧ j < lv.length ∧ ¬ (0 ≤ rd lv j ∧ rd lv j ≤ 126)) → Ev (fun k => bidi_Order.l0 k lv m out lv (lv.length : Int) i) ([], 2) ∧
      Ev (fun k => chancerylaw3_BidiOrderReverses.l0 k lv [] 2 lv (lv.length : Int) i) true := by
  induction d with
  | zero => intro i m out h0 hi ho ⟨j, a, b, _⟩; omega
  | succ d ih =>
    intro i m out h0 hi ho ⟨j, a, b, hj⟩
    by_cases hx : 0 ≤ rd lv i ∧ rd lv i ≤ 126
    · have hji : j ≠ i := fun e => hj (e ▸ hx)
      constructor
      · refine Ev.step (fun k => by rw [bidi_Order.l0]) (Ev.pos (by omega) (Ev.pos h0 (Ev.pos (by omega) (Ev.neg (by omega) (Ev.neg (by omega) (Ev.pos (by omega) ?_))))))
        rw [w64 (n := i + 1) (by omega) (by omega)]
        exact (ih (i + 1) _ _ (by omega) (by omega) (by simpa using ho) ⟨j, by omega, b, hj⟩).1
      · refine Ev.step (fun k => by rw [chancerylaw3_BidiOrderReverses.l0]) (Ev.pos (by omega) (Ev.pos h0 (Ev.pos (by omega) (Ev.bind0 (in_ok _ _ _) (Ev.dpos hx ?_)))))
        rw [w64 (n := i + 1) (by omega) (by omega)]
        exact (ih (i + 1) m out (by omega) (by omega) ho ⟨j, by omega, b, hj⟩).2
    · constructor
      · refine Ev.step (fun k => by rw [bidi_Order.l0]) (Ev.pos (by omega) (Ev.pos h0 (Ev.pos (by omega) ?_)))
        by_cases hn : rd lv i < 0
        · exact Ev.pos hn (Ev.now _)
        · exact Ev.neg hn (Ev.pos (by omega) (Ev.now _))
      · exact Ev.step (fun k => by rw [chancerylaw3_BidiOrderReverses.l0]) (Ev.pos (by omega) (Ev.pos h0 (Ev.pos (by omega) (Ev.bind0 (in_ok _ _ _) (Ev.dneg hx (Ev.pos rfl (Ev.ret rfl)))))))
theorem law_good (lv xs : List Int) (hl : lv.length ≤ 100000) (hg : ∀ x ∈ lv, 0 ≤ x ∧ x ≤ 126) (d : Nat) : ∀ (i : Int), 0 ≤ i → i + d = lv.length →
    Ev (fun k => (chanceryref3_Shown.f k lv).bind fun t141 => ((chanceryref3_SameInts.f k xs t141).bind fun t144 => (some t144))) true → Ev (fun k => chancerylaw3_BidiOrderReverses.l0 k lv xs 0 lv (lv.length : Int) i) true := by
  induction d with
  | zero =>
    intro i h0 hi hr
    exact Ev.step (fun k => by rw [chancerylaw3_BidiOrderReverses.l0]) (Ev.neg (by omega) (Ev.pos rfl hr))
  | succ d ih =>
    intro i h0 hi hr
    have hx := hg _ (rd_mem (xs := lv) (i := i) (by omega) h0)
    refine Ev.step (fun k => by rw [chancerylaw3_BidiOrderReverses.l0]) (Ev.pos (by omega) (Ev.pos h0 (Ev.pos (by omega) (Ev.bind0 (in_ok _ _ _) (Ev.dpos hx ?_)))))
    rw [w64 (n := i + 1) (by omega) (by omega)]
    exact ih (i + 1) (by omega) (by omega) hr
theorem shown_list (lv : List Int) (hl : lv.length ≤ 100000) (r idl : List Int) (hidl : idl.length = lv.length ∧ ∀ j : Int, 0 ≤ j → j < lv.length → rd idl j = j) (hr : Ev (fun k => chanceryref3_Shown.l1 k lv idl 0 lv (lv.length : Int) 0) r) (d : Nat) : ∀ (i : Int) (out : List Int), 0 ≤ i → i + d = lv.length → out.length = i →
    (∀ j, 0 ≤ j → j < i → rd out j = j) → Ev (fun k => chanceryref3_Shown.l0 k lv out (lv.length : Int) i) r := by
  induction d with
  | zero =>
    intro i out h0 hi ho hj
    refine Ev.step (fun k => by rw [chanceryref3_Shown.l0]) (Ev.neg (by omega) ?_)
    rw [show out = idl from ext_rd (by rw [hidl.1]; omega) fun j a b => by rw [hj j a (by omega), hidl.2 j a (by omega)]]
    exact hr
  | succ d ih =>
    intro i out h0 hi ho hj
    refine Ev.step (fun k => by rw [chanceryref3_Shown.l0]) (Ev.pos (by omega) (Ev.pos (by omega) ?_))
    rw [w64 (n := i + 1) (by omega) (by omega)]
    refine ih (i + 1) _ (by omega) (by omega) (by simp; omega) fun j a b => ?_
    by_cases e : j = i
    · rw [e, rd_app_right (by omega), ho, Int.sub_self]; rfl
    · rw [rd_app_left (by omega) a]; exact hj j a (by omega)
theorem shown_most (lv idl r : List Int) (hl : lv.length ≤ 100000) (d : Nat) : ∀ (i m : Int), 0 ≤ i → i + d = lv.length → Ev (fun k => chanceryref3_Shown.l2 k lv idl (most m (lv.drop i.toNat))) r → Ev (fun k => chanceryref3_Shown.l1 k lv idl m lv (lv.length : Int) i) r := by
  induction d with
  | zero =>
    intro i m h0 hi hr
    refine Ev.step (fun k => by rw [chanceryref3_Shown.l1]) (Ev.neg (by omega) ?_)
    rw [List.drop_eq_nil_of_le (by omega)] at hr
    exact hr
  | succ d ih =>
    intro i m h0 hi hr
    refine Ev.step (fun k => by rw [chanceryref3_Shown.l1]) (Ev.pos (by omega) (Ev.pos h0 (Ev.pos (by omega) ?_)))
    rw [w64 (n := i + 1) (by omega) (by omega)]
    refine ih (i + 1) _ (by omega) (by omega) ?_
    rw [drop_rd h0 (by omega)] at hr
    exact hr
theorem whole (lv : List Int) : ∃ r, Ev (fun k => bidi_Order.f k lv) r ∧ Ev (fun k => if (lv.length : Int) > 100000 then (if r.2 = 3 then (some ((r.1.length : Int) == 0)) else (some false)) else (chancerylaw3_BidiOrderReverses.l0 k lv r.1 r.2 lv (lv.length : Int) 0)) true := by
  by_cases hbig : (lv.length : Int) > 100000
  · refine ⟨([], 3), ?_, Ev.pos hbig (Ev.pos rfl (Ev.ret rfl))⟩
    unfold bidi_Order.f
    exact Ev.pos hbig (Ev.now _)
  · have hl : lv.length ≤ 100000 := by omega
    have hz : (List.replicate ((lv.length : Int) : Int).toNat (0 : Int)).length = lv.length := by simp
    have head : ∀ r, Ev (fun k => bidi_Order.l0 k lv 0 (List.replicate ((lv.length : Int) : Int).toNat 0) lv (lv.length : Int) 0) r → Ev (fun k => bidi_Order.f k lv) r := fun r h => by
      unfold bidi_Order.f
      exact Ev.neg hbig (Ev.pos (by omega) (Ev.pos (by omega) h))
    by_cases hg : ∀ x ∈ lv, 0 ≤ x ∧ x ≤ 126
    · have hidl : ((List.range lv.length).map Int.ofNat).length = lv.length ∧ ∀ j : Int, 0 ≤ j → j < lv.length → rd ((List.range lv.length).map Int.ofNat) j = j := by
        refine ⟨by simp, fun j a b => ?_⟩
        rw [rd_nth _ _ (by simp; omega)]
        simp; omega
      generalize (List.range lv.length).map Int.ofNat = idl at hidl
      have S : Same lv idl (most 0 lv) := by
        refine ⟨hidl.1, fun i a b => ?_, fun i t a b _ => ?_⟩
        · rw [hidl.2 i a b]; exact ⟨a, b⟩
        · rw [hidl.2 i a b]
      obtain ⟨m1, m2⟩ := most_bd lv 0 (by omega) (by omega) hg
      obtain ⟨ys, hy, p, q⟩ := levels lv hl (most 0 lv).toNat idl (most 0 lv) (by omega) (by omega) S
      refine ⟨(ys, 0), head _ (first_good lv hl hg _ idl hidl lv.length 0 0 _ (by omega) (by omega) hz (fun j a b => by omega) p), Ev.neg hbig ?_⟩
      refine law_good lv ys hl hg lv.length 0 (by omega) (by omega) ?_
      refine Ev.bind (a := ys) ?_ (Ev.bind (a := true) (Ev.out (sameInts_ok ys ys (by omega)) (by simp)) (Ev.now _))
      unfold chanceryref3_Shown.f
      exact shown_list lv hl ys idl hidl (shown_most lv idl ys hl lv.length 0 0 (by omega) (by omega) q) lv.length 0 [] (by omega) (by omega) rfl (fun j a b => by omega)
    · have hb : ∃ j : Int, 0 ≤ j ∧ j < lv.length ∧ ¬ (0 ≤ rd lv j ∧ rd lv j ≤ 126) := by
        refine Classical.byContradiction fun h => hg fun x hx => ?_
        obtain ⟨j, a, b, e⟩ := mem_rd hx
        refine Classical.byContradiction fun h2 => h ⟨j, a, b, ?_⟩
        rw [e]; exact h2
      have := first_bad lv hl lv.length 0 0 _ (by omega) (by omega) hz hb
      exact ⟨([], 2), head _ this.1, Ev.neg hbig this.2⟩
end BidiOrder
open BidiOrder in
theorem BidiOrderReverses : chancerylaw3_BidiOrderReverses.Pure := by
  intro lv _ _ _
  obtain ⟨r, hf, hl⟩ := whole lv
  refine Ev.rounds (r := true) ?_
  unfold chancerylaw3_BidiOrderReverses.f
  refine Ev.bind (a := ([0, 3, 2, 1], 0)) (Ev.of (fun k => bidi_Order.mono [0, 1, 1, 2] k) (k := 60) (by decide +kernel)) (Ev.pos rfl ?_)
  refine Ev.bind (a := true) (Ev.out (sameInts_ok [0, 3, 2, 1] [0, 3, 2, 1] (by simp)) (by simp)) ?_
  exact Ev.step (fun k => by rw [chancerylaw3_BidiOrderReverses.j0]) (Ev.neg (by simp) (Ev.bind hf hl))
end Go.Proofs.Ytihmbddneapooaa.Pure
