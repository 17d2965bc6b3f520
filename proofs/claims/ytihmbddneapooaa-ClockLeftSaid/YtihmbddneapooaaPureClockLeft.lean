/- Proved: Left of the program compares the clock with a plan as the document tells, for every list of events, time and plan: a statement over numbers and lists alone, about the Lean functions of this seat's texts. No condition but the form's own bound on a slice's bytes. -/
import Derived.Test.YtihmbddneapooaaQCLx3
import Derived.Test.YtihmbddneapooaaLib
namespace Go.Proofs.Ytihmbddneapooaa.Pure
open Go.RowKit Go.Proofs.Ytihmbddneapooaa.PClockLeft Go.Proofs.Ytihmbddneapooaa.HandCK Go.Proofs.Ytihmbddneapooaa.QCL Go.Proofs.YtihmbddneapooaaW.PrintWords Go.Proofs.YtihmbddneapooaaW.PrintLast Go.Proofs.YtihmbddneapooaaW.PrintMore Go.Proofs.Ytihmbddneapooaa.Lib
set_option linter.unusedVariables false
set_option linter.unusedSimpArgs false
namespace ClockL
theorem in_ok (a b c : Int) : chanceryref3_In.f a b c = some (decide (b ≤ a ∧ a ≤ c)) := by
  unfold chanceryref3_In.f
  by_cases h : a ≥ b
  · rw [if_pos h]; congr 1; simp; omega
  · rw [if_neg h]; congr 1; simp; omega
theorem check_l (l : List S72) (hl : l.length ≤ 1000) : ∀ (d : Nat) (i : Int) (r : Bool) (last : Int) (st : Bool), 0 ≤ i → i + d = l.length → ∃ e, Ev (fun k => clock_Check.l0 k r last st l (l.length : Int) i) e := by
  intro d
  induction d with
  | zero => intro i r last st h0 h1; exact ⟨0, Ev.step (fun k => by rw [clock_Check.l0]) (Ev.neg (by omega) (Ev.now _))⟩
  | succ d ih =>
    intro i r last st h0 h1
    have j3 : ∀ (f : Bool) (a b c : Int), ∃ e, Ev (fun k => clock_Check.j3 k r st l (l.length : Int) i f a b c) e := by
      intro f a b c
      cases f with
      | true => exact ⟨13, Ev.step (fun k => by rw [clock_Check.j3]) (Ev.pos rfl (Ev.now _))⟩
      | false =>
        by_cases h : a = 0
        · obtain ⟨e, he⟩ := ih (i + 1) true b st (by omega) (by omega)
          refine ⟨e, Ev.step (fun k => by rw [clock_Check.j3]) (Ev.neg (by simp) (Ev.pos h ?_))⟩
          rw [w64 (n := i + 1) (by omega) (by omega)]; exact he
        by_cases h2 : a = 1
        · obtain ⟨e, he⟩ := ih (i + 1) false b st (by omega) (by omega)
          refine ⟨e, Ev.step (fun k => by rw [clock_Check.j3]) (Ev.neg (by simp) (Ev.neg h (Ev.pos h2 ?_)))⟩
          rw [w64 (n := i + 1) (by omega) (by omega)]; exact he
        by_cases h3 : a = 3
        · obtain ⟨e, he⟩ := ih (i + 1) false b true (by omega) (by omega)
          refine ⟨e, Ev.step (fun k => by rw [clock_Check.j3]) (Ev.neg (by simp) (Ev.neg h (Ev.neg h2 (Ev.pos h3 ?_))))⟩
          rw [w64 (n := i + 1) (by omega) (by omega)]; exact he
        · obtain ⟨e, he⟩ := ih (i + 1) r b st (by omega) (by omega)
          refine ⟨e, Ev.step (fun k => by rw [clock_Check.j3]) (Ev.neg (by simp) (Ev.neg h (Ev.neg h2 (Ev.neg h3 ?_))))⟩
          rw [w64 (n := i + 1) (by omega) (by omega)]; exact he
    have j2 : ∀ (f : Bool) (a b c : Int), ∃ e, Ev (fun k => clock_Check.j2 k r last st l (l.length : Int) i f a b c) e := by
      intro f a b c
      cases f with
      | true => exact ⟨2, Ev.step (fun k => by rw [clock_Check.j2]) (Ev.pos rfl (Ev.now _))⟩
      | false =>
        by_cases h : ((a == 2) != (decide (c > 0))) = true
        · exact ⟨4, Ev.step (fun k => by rw [clock_Check.j2]) (Ev.neg (by simp) (Ev.pos h (Ev.now _)))⟩
        by_cases h2 : b < last
        · exact ⟨5, Ev.step (fun k => by rw [clock_Check.j2]) (Ev.neg (by simp) (Ev.neg h (Ev.pos h2 (Ev.now _))))⟩
        by_cases h3 : st = true
        · obtain ⟨e, he⟩ := j3 true a b c
          exact ⟨e, Ev.step (fun k => by rw [clock_Check.j2]) (Ev.neg (by simp) (Ev.neg h (Ev.neg h2 (Ev.pos h3 he))))⟩
        by_cases h4 : a = 0
        · by_cases h5 : r = true
          · obtain ⟨e, he⟩ := j3 true a b c
            exact ⟨e, Ev.step (fun k => by rw [clock_Check.j2]) (Ev.neg (by simp) (Ev.neg h (Ev.neg h2 (Ev.neg h3 (Ev.pos h4 (Ev.pos h5 he))))))⟩
          · obtain ⟨e, he⟩ := j3 false a b c
            exact ⟨e, Ev.step (fun k => by rw [clock_Check.j2]) (Ev.neg (by simp) (Ev.neg h (Ev.neg h2 (Ev.neg h3 (Ev.pos h4 (Ev.neg h5 (Ev.neg (show ¬ a = 1 by omega) he)))))))⟩
        · by_cases h5 : a = 1
          · obtain ⟨e, he⟩ := j3 (!r) a b c
            exact ⟨e, Ev.step (fun k => by rw [clock_Check.j2]) (Ev.neg (by simp) (Ev.neg h (Ev.neg h2 (Ev.neg h3 (Ev.neg h4 (Ev.pos h5 he))))))⟩
          · obtain ⟨e, he⟩ := j3 false a b c
            exact ⟨e, Ev.step (fun k => by rw [clock_Check.j2]) (Ev.neg (by simp) (Ev.neg h (Ev.neg h2 (Ev.neg h3 (Ev.neg h4 (Ev.neg h5 he))))))⟩
    have j1 : ∀ (f : Bool) (a b c : Int), ∃ e, Ev (fun k => clock_Check.j1 k r last st l (l.length : Int) i f a b c) e := by
      intro f a b c
      cases f with
      | true => exact ⟨8, Ev.step (fun k => by rw [clock_Check.j1]) (Ev.pos rfl (Ev.now _))⟩
      | false =>
        obtain ⟨e, he⟩ := j2 true a b c
        by_cases h : b < 0
        · exact ⟨e, Ev.step (fun k => by rw [clock_Check.j1]) (Ev.neg (by simp) (Ev.pos h he))⟩
        by_cases h2 : b > 10000000
        · exact ⟨e, Ev.step (fun k => by rw [clock_Check.j1]) (Ev.neg (by simp) (Ev.neg h (Ev.pos h2 he)))⟩
        by_cases h3 : c < 0
        · exact ⟨e, Ev.step (fun k => by rw [clock_Check.j1]) (Ev.neg (by simp) (Ev.neg h (Ev.neg h2 (Ev.pos h3 he))))⟩
        · obtain ⟨e, he⟩ := j2 (decide (c > 1000)) a b c
          exact ⟨e, Ev.step (fun k => by rw [clock_Check.j1]) (Ev.neg (by simp) (Ev.neg h (Ev.neg h2 (Ev.neg h3 he))))⟩
    by_cases h : (rd_T72 l i).f0 < 0
    · obtain ⟨e, he⟩ := j1 true (rd_T72 l i).f0 (rd_T72 l i).f1 (rd_T72 l i).f2
      exact ⟨e, Ev.step (fun k => by rw [clock_Check.l0]) (Ev.pos (by omega) (Ev.pos h0 (Ev.pos (by omega) (Ev.pos h he))))⟩
    · obtain ⟨e, he⟩ := j1 (decide ((rd_T72 l i).f0 > 3)) (rd_T72 l i).f0 (rd_T72 l i).f1 (rd_T72 l i).f2
      exact ⟨e, Ev.step (fun k => by rw [clock_Check.l0]) (Ev.pos (by omega) (Ev.pos h0 (Ev.pos (by omega) (Ev.neg h he))))⟩
theorem check_some (l : List S72) : ∃ e, Ev (fun k => clock_Check.f k l) e ∧ (e = 0 → l.length ≤ 1000) := by
  unfold clock_Check.f
  by_cases h : (l.length : Int) > 1000
  · exact ⟨3, Ev.pos h (Ev.now _), fun e => absurd e (by decide)⟩
  · obtain ⟨e, he⟩ := check_l l (by omega) l.length 0 false 0 false (by omega) (by omega)
    exact ⟨e, Ev.neg h he, fun _ => by omega⟩
theorem report_some (l : List S72) (a : Int) : ∃ (r : Bool) (t s : Int) (x : List S74) (e : Int), Ev (fun k => clock_Report.f k l a) (r, t, s, x, e) := by
  obtain ⟨e, he, hl⟩ := check_some l
  unfold clock_Report.f
  by_cases e0 : e = 0
  · by_cases h : a < 0 ∨ a > 10000000
    · exact ⟨_, _, _, _, _, Ev.bind he (Ev.pos e0 (Ev.pos h (Ev.now _)))⟩
    · exact ⟨_, _, _, _, _, Ev.bind he (Ev.pos e0 (Ev.neg h (Ev.pos (hl e0) (Ev.now _))))⟩
  · exact ⟨_, _, _, _, _, Ev.bind he (Ev.neg e0 (Ev.now _))⟩
def Good (n : Int) : Prop := 0 ≤ n ∧ n ≤ 10000000
section
variable (r : Bool) (t s : Int) (x : List S74)
/-- What is left, from place i on, once there is an error. -/
theorem law_err (p : List Int) (hp : p.length * 8 ≤ 140737488351232) (all due e : Int) (he : e ≠ 0) (i : Int) (h0 : 0 ≤ i) (h1 : i ≤ p.length) : Ev (fun k => chancerylaw3_ClockLeft.l0 k 0 0 e e all due p (p.length : Int) i r t s x) true := by
  refine climb (g := fun i k => chancerylaw3_ClockLeft.l0 k 0 0 e e all due p (p.length : Int) i r t s x) (a := i) (n := p.length) h1 ?_ ?_
  · refine Ev.step (fun k => by rw [chancerylaw3_ClockLeft.l0]) ?_
    exact Ev.neg (by omega) (Ev.neg he (Ev.pos rfl (Ev.pos rfl (Ev.now _))))
  · intro j j0 j1 h
    refine Ev.step (fun k => by rw [chancerylaw3_ClockLeft.l0]) (Ev.pos j1 (Ev.pos (by omega) (Ev.pos j1 (Ev.neg he ?_))))
    refine Ev.step (fun k => by rw [chancerylaw3_ClockLeft.j3]) (Ev.neg (by simp) ?_)
    refine Ev.step (fun k => by rw [chancerylaw3_ClockLeft.j4]) (Ev.neg he ?_)
    rw [w64 (n := j + 1) (by omega) (by omega)]; exact h
/-- The sum of the numbers ahead of place i, of those at most up to place m. -/
def cut (p : List Int) (m i : Int) : Int := if m ≤ 0 then 0 else if i ≤ m then upto p i else upto p m
theorem cut_zero (p : List Int) (m : Int) : cut p m 0 = 0 := by
  unfold cut
  by_cases h : m ≤ 0
  · rw [if_pos h]
  · rw [if_neg h, if_pos (by omega), upto_zero]
theorem cut_in {p : List Int} {m i : Int} (h0 : 0 ≤ i) (h : i < p.length) (hm : i < m) : cut p m (i + 1) = cut p m i + rd p i := by
  unfold cut
  rw [if_neg (show ¬ m ≤ 0 by omega), if_neg (show ¬ m ≤ 0 by omega), if_pos (show i + 1 ≤ m by omega), if_pos (show i ≤ m by omega), upto_succ h0 h]
theorem cut_out {p : List Int} {m i : Int} (h0 : 0 ≤ i) (hm : ¬ i < m) : cut p m (i + 1) = cut p m i := by
  unfold cut
  by_cases h : m ≤ 0
  · rw [if_pos h, if_pos h]
  · rw [if_neg h, if_neg h, if_neg (by omega)]
    by_cases e : i ≤ m
    · rw [if_pos e, show i = m by omega]
    · rw [if_neg e]
theorem upto_good {p : List Int} (hA : ∀ i : Int, 0 ≤ i → i < p.length → Good (rd p i)) : ∀ i : Int, 0 ≤ i → i ≤ p.length → 0 ≤ upto p i ∧ upto p i ≤ 10000000 * i := by
  intro i h0 h1
  have := upto_bd (xs := p) (lo := 0) (hi := 10000000) (fun i a b => hA i a b) i h0 h1
  omega
theorem cut_good {p : List Int} (hp : p.length ≤ 1000) {n : Int} (hn : n ≤ p.length) (hA : ∀ i : Int, 0 ≤ i → i < n → Good (rd p i)) (m i : Int) (h0 : 0 ≤ i) (h1 : i ≤ n) : 0 ≤ cut p m i ∧ cut p m i ≤ 10000000000 := by
  have key : ∀ j : Int, 0 ≤ j → j ≤ n → 0 ≤ upto p j ∧ upto p j ≤ 10000000 * j := by
    intro j j0 j1
    have e : upto p j = upto (p.take n.toNat) j := by unfold upto; rw [List.take_take, Nat.min_eq_left (by omega)]
    rw [e]
    refine upto_good (fun i a b => ?_) j j0 (by rw [List.length_take]; omega)
    have b' : i < n := by rw [List.length_take] at b; omega
    have := hA i a b'
    rw [rd_nth _ i (by rw [List.length_take]; omega), List.getElem_take]
    rw [rd_nth _ i (by omega)] at this
    exact this
  unfold cut
  by_cases h : m ≤ 0
  · rw [if_pos h]; omega
  · rw [if_neg h]
    by_cases e : i ≤ m
    · rw [if_pos e]; have := key i h0 h1; omega
    · rw [if_neg e]; have := key m (by omega) (by omega); omega
theorem all_good {p : List Int} (hp : p.length ≤ 1000) {n : Int} (hn : n ≤ p.length) (hA : ∀ i : Int, 0 ≤ i → i < n → Good (rd p i)) (i : Int) (h0 : 0 ≤ i) (h1 : i ≤ n) : 0 ≤ upto p i ∧ upto p i ≤ 10000000000 := by
  have := cut_good hp hn hA 2000 i h0 h1
  unfold cut at this
  rw [if_neg (by omega), if_pos (by omega)] at this
  exact this
/-- The program's loop, up to place n. -/
theorem left_loop (p : List Int) (hp : p.length ≤ 1000) (n : Int) (hn0 : 0 ≤ n) (hn : n ≤ p.length) (hA : ∀ i : Int, 0 ≤ i → i < n → Good (rd p i)) (res : Int × Int × Int) (fin : Ev (fun k => clock_Left.l0 k p (upto p n) (cut p (s - 1) n) p (p.length : Int) n r t s x) res) : Ev (fun k => clock_Left.l0 k p 0 0 p (p.length : Int) 0 r t s x) res := by
  have key : Ev (fun k => clock_Left.l0 k p (upto p 0) (cut p (s - 1) 0) p (p.length : Int) 0 r t s x) res := by
    refine climb (g := fun i k => clock_Left.l0 k p (upto p i) (cut p (s - 1) i) p (p.length : Int) i r t s x) (a := 0) (n := n) hn0 fin ?_
    intro i i0 i1 h
    have g := hA i i0 i1
    unfold Good at g
    have u0 := all_good hp hn hA i i0 (by omega)
    have c0 := cut_good hp hn hA (s - 1) i i0 (by omega)
    refine Ev.step (fun k => by rw [clock_Left.l0]) (Ev.pos (by omega) (Ev.pos i0 (Ev.pos (by omega) (Ev.neg (by omega) ?_))))
    rw [decide_eq_false (show ¬ (rd p i > 10000000) by omega)]
    refine Ev.step (fun k => by rw [clock_Left.j1]) (Ev.neg (by simp) ?_)
    rw [w64 (n := i + 1) (by omega) (by omega), w64 (n := upto p i + rd p i) (by omega) (by omega), ← upto_succ i0 (by omega)]
    by_cases c : i + 1 < s
    · refine Ev.pos c ?_
      rw [w64 (n := cut p (s - 1) i + rd p i) (by omega) (by omega), ← cut_in i0 (by omega) (by omega)]
      exact h
    · refine Ev.neg c ?_
      rw [cut_out i0 (by omega)] at h
      exact h
  rw [upto_zero, cut_zero] at key
  exact key
/-- The law's loop, up to place n. -/
theorem law_loop (p : List Int) (hp : p.length ≤ 1000) (a b e : Int) (n : Int) (hn0 : 0 ≤ n) (hn : n ≤ p.length) (hA : ∀ i : Int, 0 ≤ i → i < n → Good (rd p i)) (fin : Ev (fun k => chancerylaw3_ClockLeft.l0 k a b e 0 (upto p n) (cut p s n) p (p.length : Int) n r t s x) true) : Ev (fun k => chancerylaw3_ClockLeft.l0 k a b e 0 0 0 p (p.length : Int) 0 r t s x) true := by
  have key : Ev (fun k => chancerylaw3_ClockLeft.l0 k a b e 0 (upto p 0) (cut p s 0) p (p.length : Int) 0 r t s x) true := by
    refine climb (g := fun i k => chancerylaw3_ClockLeft.l0 k a b e 0 (upto p i) (cut p s i) p (p.length : Int) i r t s x) (a := 0) (n := n) hn0 fin ?_
    intro i i0 i1 h
    have g := hA i i0 i1
    unfold Good at g
    have u0 := all_good hp hn hA i i0 (by omega)
    have c0 := cut_good hp hn hA s i i0 (by omega)
    refine Ev.step (fun k => by rw [chancerylaw3_ClockLeft.l0]) (Ev.pos (by omega) (Ev.pos i0 (Ev.pos (by omega) (Ev.pos rfl (Ev.bind0 (in_ok _ _ _) ?_)))))
    rw [decide_eq_true g]
    refine Ev.step (fun k => by rw [chancerylaw3_ClockLeft.j3]) (Ev.neg (by simp) ?_)
    refine Ev.step (fun k => by rw [chancerylaw3_ClockLeft.j4]) (Ev.pos rfl ?_)
    rw [w64 (n := i + 1) (by omega) (by omega), w64 (n := upto p i + rd p i) (by omega) (by omega), ← upto_succ i0 (by omega)]
    by_cases c : i < s
    · refine Ev.pos c ?_
      rw [w64 (n := cut p s i + rd p i) (by omega) (by omega), ← cut_in i0 (by omega) c]
      exact h
    · refine Ev.neg c ?_
      rw [cut_out i0 c] at h
      exact h
  rw [upto_zero, cut_zero] at key
  exact key
theorem mx_comm (a b : Int) : mx a b = mx b a := by unfold mx; omega
theorem good_law (p : List Int) (hp : p.length ≤ 1000) : ∃ a b e, Ev (fun k => clock_Left.l0 k p 0 0 p (p.length : Int) 0 r t s x) (a, b, e) ∧ Ev (fun k => chancerylaw3_ClockLeft.l0 k a b e 0 0 0 p (p.length : Int) 0 r t s x) true := by
  rcases first_bad (fun i => Good (rd p i)) p.length with hA | ⟨j, j0, j1, hj, hb⟩
  · have u0 := all_good hp (Int.le_refl _) hA p.length (by omega) (Int.le_refl _)
    have c0 := cut_good hp (Int.le_refl _) hA s p.length (by omega) (Int.le_refl _)
    have c1 := cut_good hp (Int.le_refl _) hA (s - 1) p.length (by omega) (Int.le_refl _)
    have fin : Ev (fun k => clock_Left.l0 k p (upto p p.length) (cut p (s - 1) p.length) p (p.length : Int) p.length r t s x) (wrap64 (upto p p.length - t), mx (wrap64 (t - cut p s p.length)) 0, 0) := by
      refine Ev.step (fun k => by rw [clock_Left.l0]) (Ev.neg (by omega) ?_)
      by_cases s0 : s > 0
      · refine Ev.pos s0 ?_
        by_cases s1 : s ≤ (p.length : Int)
        · have g := hA (s - 1) (by omega) (by omega)
          unfold Good at g
          rw [w64 (n := s - 1) (by omega) (by omega)]
          refine Ev.pos s1 (Ev.pos (by omega) (Ev.pos (by omega) ?_))
          rw [w64 (n := cut p (s - 1) p.length + rd p (s - 1)) (by omega) (by omega)]
          have e : cut p (s - 1) p.length + rd p (s - 1) = cut p s p.length := by
            have us := upto_succ (xs := p) (i := s - 1) (by omega) (by omega)
            rw [show s - 1 + 1 = s by omega] at us
            unfold cut
            rw [if_neg (show ¬ s ≤ 0 by omega)]
            by_cases z : s - 1 ≤ 0
            · rw [if_pos z, show s - 1 = 0 by omega]
              rw [show s - 1 = 0 by omega, upto_zero] at us
              by_cases q : (p.length : Int) ≤ s
              · rw [if_pos q, show (p.length : Int) = s by omega, us]
              · rw [if_neg q, us]
            · rw [if_neg z, if_neg (by omega)]
              by_cases q : (p.length : Int) ≤ s
              · rw [if_pos q, show (p.length : Int) = s by omega, us]
              · rw [if_neg q, us]
          rw [e]
          exact Ev.now _
        · refine Ev.neg s1 (Ev.ret ?_)
          have e : cut p (s - 1) p.length = cut p s p.length := by
            unfold cut
            rw [if_neg (show ¬ s ≤ 0 by omega)]
            by_cases z : s - 1 ≤ 0
            · rw [if_pos z, if_pos (by omega), show (p.length : Int) = 0 by omega, upto_zero]
            · rw [if_neg z, if_pos (by omega), if_pos (by omega)]
          rw [e]
      · refine Ev.neg s0 (Ev.ret ?_)
        have e : cut p (s - 1) p.length = cut p s p.length := by
          unfold cut
          rw [if_pos (by omega), if_pos (by omega)]
        rw [e]
    refine ⟨_, _, _, left_loop r t s x p hp p.length (by omega) (Int.le_refl _) hA _ fin, law_loop r t s x p hp _ _ _ p.length (by omega) (Int.le_refl _) hA ?_⟩
    refine Ev.step (fun k => by rw [chancerylaw3_ClockLeft.l0]) (Ev.neg (by omega) (Ev.pos rfl (Ev.pos rfl (Ev.pos rfl (Ev.ret ?_)))))
    rw [mx_comm]
    exact beq_self_eq_true _
  · have fin : Ev (fun k => clock_Left.l0 k p (upto p j) (cut p (s - 1) j) p (p.length : Int) j r t s x) (0, 0, 2) := by
      refine Ev.step (fun k => by rw [clock_Left.l0]) (Ev.pos j1 (Ev.pos j0 (Ev.pos j1 ?_)))
      by_cases c : rd p j < 0
      · exact Ev.pos c (Ev.step (fun k => by rw [clock_Left.j1]) (Ev.pos rfl (Ev.now _)))
      · refine Ev.neg c ?_
        rw [decide_eq_true (show rd p j > 10000000 by unfold Good at hj; omega)]
        exact Ev.step (fun k => by rw [clock_Left.j1]) (Ev.pos rfl (Ev.now _))
    refine ⟨_, _, _, left_loop r t s x p hp j j0 (by omega) hb _ fin, law_loop r t s x p hp _ _ _ j j0 (by omega) hb ?_⟩
    refine Ev.step (fun k => by rw [chancerylaw3_ClockLeft.l0]) (Ev.pos j1 (Ev.pos j0 (Ev.pos j1 (Ev.pos rfl (Ev.bind0 (in_ok _ _ _) ?_)))))
    rw [decide_eq_false (show ¬ (0 ≤ rd p j ∧ rd p j ≤ 10000000) from hj)]
    refine Ev.step (fun k => by rw [chancerylaw3_ClockLeft.j3]) ?_
    refine Ev.pos rfl (Ev.step (fun k => by rw [chancerylaw3_ClockLeft.j4]) (Ev.neg (show ¬ ((2 : Int) = 0) by omega) ?_))
    rw [w64 (n := j + 1) (by omega) (by omega)]
    exact law_err r t s x p (by omega) _ _ 2 (by omega) (j + 1) (by omega) (by omega)
end
end ClockL
open ClockL in
theorem ClockLeft (l : List S72) (a : Int) (p : List Int) (hp : p.length * 8 ≤ 140737488351232) : ∃ k, chancerylaw3_ClockLeft.f k l a p = some true := by
  refine Ev.rounds (r := true) ?_
  unfold chancerylaw3_ClockLeft.f
  refine Ev.bind (Ev.of (fun k => chancerylaw3_clocked.mono k) (k := 40) (by decide +kernel)) (Ev.pos rfl ?_)
  obtain ⟨r, t, s, x, e, hR⟩ := report_some l a
  have go : ∀ f, Ev (fun k => chancerylaw3_ClockLeft.l0 k 0 0 f f 0 0 p (p.length : Int) 0 r t s x) true → True := fun _ _ => trivial
  by_cases e0 : e = 0
  · subst e0
    by_cases hl : (p.length : Int) > 1000
    · have hL : Ev (fun k => clock_Left.f k l a p) (0, 0, 3) := by
        unfold clock_Left.f
        exact Ev.bind hR (Ev.pos rfl (Ev.pos hl (Ev.now _)))
      refine Ev.bind hL (Ev.bind hR (Ev.pos rfl ?_))
      rw [decide_eq_true hl]
      refine Ev.step (fun k => by rw [chancerylaw3_ClockLeft.j0]) (Ev.pos rfl ?_)
      refine Ev.step (fun k => by rw [chancerylaw3_ClockLeft.j1]) ?_
      exact law_err r t s x p hp 0 0 3 (by omega) 0 (by omega) (by omega)
    · obtain ⟨u, v, f, h1, h2⟩ := good_law r t s x p (by omega)
      have hL : Ev (fun k => clock_Left.f k l a p) (u, v, f) := by
        unfold clock_Left.f
        exact Ev.bind hR (Ev.pos rfl (Ev.neg hl h1))
      refine Ev.bind hL (Ev.bind hR (Ev.pos rfl ?_))
      rw [decide_eq_false hl]
      refine Ev.step (fun k => by rw [chancerylaw3_ClockLeft.j0]) (Ev.neg (by simp) ?_)
      refine Ev.step (fun k => by rw [chancerylaw3_ClockLeft.j1]) ?_
      exact h2
  · have hL : Ev (fun k => clock_Left.f k l a p) (0, 0, e) := by
      unfold clock_Left.f
      exact Ev.bind hR (Ev.neg e0 (Ev.now _))
    refine Ev.bind hL (Ev.bind hR (Ev.neg e0 ?_))
    refine Ev.step (fun k => by rw [chancerylaw3_ClockLeft.j0]) (Ev.neg (by simp) ?_)
    refine Ev.step (fun k => by rw [chancerylaw3_ClockLeft.j1]) ?_
    exact law_err r t s x p hp 0 0 e e0 0 (by omega) (by omega)
end Go.Proofs.Ytihmbddneapooaa.Pure
