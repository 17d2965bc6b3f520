-- WRITTEN BY wip/print2.py, a program of this session, over contracts of this session's own; no print of print.sh
import Derived.Test.YthapclmfkjldaaaQLNx0
import Derived.Test.YthapclmfkjldaaaQLNx4
namespace Go.Proofs.Ythapclmfkjldaaa.QLN
open Go.RowKit Go.Proofs.Ythapclmfkjldaaa.Cells Go.Proofs.YthapclmfkjldaaaW.PrintWords Go.Proofs.YthapclmfkjldaaaW.PrintLast Go.Proofs.YthapclmfkjldaaaW.PrintMore
attribute [local go_sem] max2_int min2_int max_two min_two max_three min_three max_four min_four   -- for this text's walks alone
set_option linter.unusedVariables false
set_option linter.unusedSimpArgs false

/-! ### chanceryref3_follow: function 34 -/
def chanceryref3_follow.f (k : Nat) (l0 : List (S49)) (a1 : Int) : Option (Int) := if a1 = (l0.length : Int) then (some a1) else ((chanceryref3_begin.f k l0 (wrap64 (a1 + 1))).bind fun t241 => (some t241))
theorem chanceryref3_follow.mono : ∀ a0 a1 k, LeO (chanceryref3_follow.f k a0 a1) (chanceryref3_follow.f (k + 1) a0 a1) := by
 intro a0 a1 k
 unfold chanceryref3_follow.f
 repeat' first
   | (with_reducible exact chanceryref3_begin.mono _ _ _)
   | (with_reducible exact LeO.refl _)
   | (with_reducible exact LeO.none _)
   | (with_reducible refine LeO.ite ?_ ?_)
   | (with_reducible refine LeO.bind ?_ (fun _ => ?_))
   | exact chanceryref3_begin.mono _ _ _
   | exact LeO.none _
   | refine LeO.ite ?_ ?_
   | refine LeO.bind ?_ (fun _ => ?_)
set_option maxHeartbeats 8000000 in
set_option maxRecDepth 100000 in
theorem chanceryref3_follow.calls (k : Nat) (A0 : Option Addr) (c0 : Nat) (l0 : List (S49)) (a1 : Int) (r : Int) (w : World) (hr0 : Kd.C k49 w A0 l0.length l0) (hc0 : l0.length ≤ c0) (h : chanceryref3_follow.f k l0 a1 = some r) :
  Calls Try.prog 34 #[.slice A0 l0.length c0, .int .i64 a1] w fun e w' => e = .returned (.int .i64 r) ∧ Drawn0 w w' := by
 have HR0 := Aside0.mk hr0
 have HC0 := Aside0.mk hc0
 clear hr0 hc0
 have H : (if a1 = (l0.length : Int) then (some a1) else ((chanceryref3_begin.f k l0 (wrap64 (a1 + 1))).bind fun t241 => (some t241))) = some r := h
 clear h
 by_cases c3 : a1 = (l0.length : Int)
 ·rw [if_pos c3] at H
  have c3b0 : (a1 == (l0.length : Int)) = true := beq_iff_eq.mpr c3
  have c3b1 : (a1 != (l0.length : Int)) = false := bne_eq_false_iff_eq.mpr c3
  clear c3
  obtain rfl := Option.some.inj H
  go_enter Try.func34, Try.ntmps34
  go_wp2
  go_ret
  exact ⟨by first | rfl | (simp; done) | (simp [*]; done), by repeat (first | exact Drawn0.refl _ | apply Drawn0.step)⟩
 ·rw [if_neg c3] at H
  have c3b0 : (a1 == (l0.length : Int)) = false := beq_eq_false_iff_ne.mpr c3
  have c3b1 : (a1 != (l0.length : Int)) = true := bne_iff_ne.mpr c3
  replace H := Option.bind_eq_some_iff.mp H
  obtain ⟨t241, A40, H⟩ := H
  replace H : (some t241) = some r := H
  have A4 := Aside0.mk A40
  clear A40
  obtain rfl := Option.some.inj H
  go_enter Try.func34, Try.ntmps34
  go_wp2_with (first | ((with_reducible refine gate_callee (f := 29) rfl ?_); refine goesL_ (some 13) rfl rfl Try.func29 (by kernel_rfl) rfl #[.slice A0 l0.length c0, .int .i64 (wrap64 (a1 + 1))] rfl (by (try simp only [List.map_toArray, List.map_cons, List.map_nil]); first | done | rfl) ?_; (with_reducible refine (chanceryref3_begin.calls k _ _ l0 (wrap64 (a1 + 1)) t241 _ ?side1 ?side2 A4.out).mono ?_); (case side1 => repeat (first | exact HR0.out | (with_reducible refine Kd.C_alloc ?_ _) | (with_reducible refine Kd.C_drewN ?_ _) | (with_reducible refine Kd.C_drew ?_))); (case side2 => exact HC0.out); rintro e w' ⟨rfl, ⟨nd, rfl⟩⟩; refine ⟨_, rfl, ?_⟩))
  go_ret
  exact ⟨by first | rfl | (simp; done) | (simp [*]; done), by repeat (first | exact Drawn0.refl _ | apply Drawn0.step)⟩

/-! ### chanceryref3_bad: function 43 -/
def chanceryref3_bad.f (a0 : Int) (a1 : Int) : Option (Int) := if a0 = 0 then (some 0) else (if a1 = 0 then (some 10000) else (if (wrap64 (Int.tdiv (wrap64 (1000 * a0)) a1)) > 5000 then (if (((5000 * 5000) * 5000) / 10000000) < 10000 then (some (((5000 * 5000) * 5000) / 10000000)) else (some 10000)) else (if (wrap64 (Int.tdiv (wrap64 ((wrap64 ((wrap64 (Int.tdiv (wrap64 (1000 * a0)) a1)) * (wrap64 (Int.tdiv (wrap64 (1000 * a0)) a1)))) * (wrap64 (Int.tdiv (wrap64 (1000 * a0)) a1)))) 10000000)) < 10000 then (some (wrap64 (Int.tdiv (wrap64 ((wrap64 ((wrap64 (Int.tdiv (wrap64 (1000 * a0)) a1)) * (wrap64 (Int.tdiv (wrap64 (1000 * a0)) a1)))) * (wrap64 (Int.tdiv (wrap64 (1000 * a0)) a1)))) 10000000))) else (some 10000))))
set_option maxHeartbeats 8000000 in
set_option maxRecDepth 100000 in
theorem chanceryref3_bad.calls (a0 : Int) (a1 : Int) (r : Int) (w : World) (h : chanceryref3_bad.f a0 a1 = some r) :
  Calls Try.prog 43 #[.int .i64 a0, .int .i64 a1] w fun e w' => e = .returned (.int .i64 r) ∧ Drawn0 w w' := by
 have H : (if a0 = 0 then (some 0) else (if a1 = 0 then (some 10000) else (if (wrap64 (Int.tdiv (wrap64 (1000 * a0)) a1)) > 5000 then (if (((5000 * 5000) * 5000) / 10000000) < 10000 then (some (((5000 * 5000) * 5000) / 10000000)) else (some 10000)) else (if (wrap64 (Int.tdiv (wrap64 ((wrap64 ((wrap64 (Int.tdiv (wrap64 (1000 * a0)) a1)) * (wrap64 (Int.tdiv (wrap64 (1000 * a0)) a1)))) * (wrap64 (Int.tdiv (wrap64 (1000 * a0)) a1)))) 10000000)) < 10000 then (some (wrap64 (Int.tdiv (wrap64 ((wrap64 ((wrap64 (Int.tdiv (wrap64 (1000 * a0)) a1)) * (wrap64 (Int.tdiv (wrap64 (1000 * a0)) a1)))) * (wrap64 (Int.tdiv (wrap64 (1000 * a0)) a1)))) 10000000))) else (some 10000))))) = some r := h
 clear h
 by_cases c3 : a0 = 0
 ·rw [if_pos c3] at H
  have c3b0 : (a0 == 0) = true := beq_iff_eq.mpr c3
  have c3b1 : (a0 != 0) = false := bne_eq_false_iff_eq.mpr c3
  clear c3
  obtain rfl := Option.some.inj H
  go_enter Try.func43, Try.ntmps43
  go_wp2
  go_ret
  exact ⟨by first | rfl | (simp; done) | (simp [*]; done), by repeat (first | exact Drawn0.refl _ | apply Drawn0.step)⟩
 ·rw [if_neg c3] at H
  have c3b0 : (a0 == 0) = false := beq_eq_false_iff_ne.mpr c3
  have c3b1 : (a0 != 0) = true := bne_iff_ne.mpr c3
  by_cases c4 : a1 = 0
  ·rw [if_pos c4] at H
   have c4b0 : (a1 == 0) = true := beq_iff_eq.mpr c4
   have c4b1 : (a1 != 0) = false := bne_eq_false_iff_eq.mpr c4
   clear c4
   obtain rfl := Option.some.inj H
   go_enter Try.func43, Try.ntmps43
   go_wp2
   go_ret
   exact ⟨by first | rfl | (simp; done) | (simp [*]; done), by repeat (first | exact Drawn0.refl _ | apply Drawn0.step)⟩
  ·rw [if_neg c4] at H
   have c4b0 : (a1 == 0) = false := beq_eq_false_iff_ne.mpr c4
   have c4b1 : (a1 != 0) = true := bne_iff_ne.mpr c4
   by_cases c5 : (wrap64 (Int.tdiv (wrap64 (1000 * a0)) a1)) > 5000
   ·rw [if_pos c5] at H
    have c5b0 : decide (5000 < (wrap64 (Int.tdiv (wrap64 (1000 * a0)) a1))) = true := decide_eq_true c5
    clear c5
    by_cases c6 : (((5000 * 5000) * 5000) / 10000000) < 10000
    ·rw [if_pos c6] at H
     have c6b0 : decide ((((5000 * 5000) * 5000) / 10000000) < 10000) = true := decide_eq_true c6
     exact absurd c6 (by decide)
    ·rw [if_neg c6] at H
     have c6b0 : decide ((((5000 * 5000) * 5000) / 10000000) < 10000) = false := decide_eq_false c6
     clear c6
     obtain rfl := Option.some.inj H
     go_enter Try.func43, Try.ntmps43
     go_wp2
     go_ret
     exact ⟨by first | rfl | (simp; done) | (simp [*]; done), by repeat (first | exact Drawn0.refl _ | apply Drawn0.step)⟩
   ·rw [if_neg c5] at H
    have c5b0 : decide (5000 < (wrap64 (Int.tdiv (wrap64 (1000 * a0)) a1))) = false := decide_eq_false c5
    clear c5
    by_cases c7 : (wrap64 (Int.tdiv (wrap64 ((wrap64 ((wrap64 (Int.tdiv (wrap64 (1000 * a0)) a1)) * (wrap64 (Int.tdiv (wrap64 (1000 * a0)) a1)))) * (wrap64 (Int.tdiv (wrap64 (1000 * a0)) a1)))) 10000000)) < 10000
    ·rw [if_pos c7] at H
     have c7b0 : decide ((wrap64 (Int.tdiv (wrap64 ((wrap64 ((wrap64 (Int.tdiv (wrap64 (1000 * a0)) a1)) * (wrap64 (Int.tdiv (wrap64 (1000 * a0)) a1)))) * (wrap64 (Int.tdiv (wrap64 (1000 * a0)) a1)))) 10000000)) < 10000) = true := decide_eq_true c7
     clear c7
     obtain rfl := Option.some.inj H
     go_enter Try.func43, Try.ntmps43
     go_wp2
     go_ret
     exact ⟨by first | rfl | (simp; done) | (simp [*]; done), by repeat (first | exact Drawn0.refl _ | apply Drawn0.step)⟩
    ·rw [if_neg c7] at H
     have c7b0 : decide ((wrap64 (Int.tdiv (wrap64 ((wrap64 ((wrap64 (Int.tdiv (wrap64 (1000 * a0)) a1)) * (wrap64 (Int.tdiv (wrap64 (1000 * a0)) a1)))) * (wrap64 (Int.tdiv (wrap64 (1000 * a0)) a1)))) 10000000)) < 10000) = false := decide_eq_false c7
     clear c7
     obtain rfl := Option.some.inj H
     go_enter Try.func43, Try.ntmps43
     go_wp2
     go_ret
     exact ⟨by first | rfl | (simp; done) | (simp [*]; done), by repeat (first | exact Drawn0.refl _ | apply Drawn0.step)⟩







end Go.Proofs.Ythapclmfkjldaaa.QLN
