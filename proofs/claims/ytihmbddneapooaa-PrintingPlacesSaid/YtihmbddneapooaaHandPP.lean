/- Walked by hand: printing.Place: what it answers for every page size and part of a sheet; it changes nothing that was there. -/
import Derived.Test.YtihmbddneapooaaPPrintingPlacesx1
import Derived.Test.YtihmbddneapooaaLib
import Derived.Outline
import Derived.Deep.QuietTactic
import Derived.BigQuiet
namespace Go.Proofs.Ytihmbddneapooaa.HandPP
open Go.RowKit Go.Proofs.YtihmbddneapooaaW.PrintWords Go.Proofs.YtihmbddneapooaaW.PrintLast Go.Proofs.YtihmbddneapooaaW.PrintMore
set_option linter.unusedVariables false
attribute [local go_sem] max2_int min2_int max_two min_two
theorem ret_frame {x0 y0 x1 y1 : Int} {e : Int} {a0 b0 a1 b1 f : Int} (h0 : x0 = a0) (h1 : y0 = b0) (h2 : x1 = a1) (h3 : y1 = b1) (h4 : e = f) :
    (Ending.returned (.tuple #[.agg #[.int .i64 x0, .int .i64 y0, .int .i64 x1, .int .i64 y1], .int .i64 e])) = .returned (.tuple #[.agg #[.int .i64 a0, .int .i64 b0, .int .i64 a1, .int .i64 b1], .int .i64 f]) := by rw [h0, h1, h2, h3, h4]
theorem prod_bd {a b : Int} (ha : 0 ≤ a) (ha' : a ≤ 31680) (hb : 0 ≤ b) (hb' : b ≤ 31680) : 0 ≤ a * b ∧ a * b ≤ 1003622400 :=
  ⟨Int.mul_nonneg ha hb, by have := Int.mul_le_mul ha' hb' hb (by omega : (0 : Int) ≤ 31680); omega⟩
set_option maxHeartbeats 2000000 in
theorem place_a (pw ph x0 y0 x1 y1 : Int) (w : World) (hx0 : 0 ≤ x0) (hx0' : x0 ≤ 31680) (hy0 : 0 ≤ y0) (hy0' : y0 ≤ 31680) (hx1 : 0 ≤ x1) (hx1' : x1 ≤ 31680) (hy1 : 0 ≤ y1) (hy1' : y1 ≤ 31680) (hpw : 1 ≤ pw) (hpw' : pw ≤ 31680) (hph : 1 ≤ ph) (hph' : ph ≤ 31680) (hw : 1 ≤ x1 - x0) (hh : 1 ≤ y1 - y0) (hc1 : ¬ x1 - x0 < pw) (hc2 : ¬ y1 - y0 < ph) :
    Calls Try.prog 13 #[.int .i64 pw, .int .i64 ph, .agg #[.int .i64 x0, .int .i64 y0, .int .i64 x1, .int .i64 y1]] w fun e w' => e = .returned (.tuple #[.agg #[.int .i64 (x0 + (x1 - x0 - pw) / 2), .int .i64 (y0 + (y1 - y0 - ph) / 2), .int .i64 (x0 + (x1 - x0 - pw) / 2 + pw), .int .i64 (y0 + (y1 - y0 - ph) / 2 + ph)], .int .i64 0]) ∧ Below w.heap.size w w' := by
  have HB := Aside0.mk (Below.refl w.heap.size w)
  go_enter Try.func13, Try.ntmps13
  go_wp2
  go_quiet (fail)
  go_wp2
  refine wp_loop_rounds 5 ?_
  rw [rounds_succ]
  go_wp2
  rw [rounds_succ]
  go_wp2
  rw [rounds_succ]
  go_wp2
  rw [rounds_succ]
  go_wp2
  rw [rounds_succ]
  go_wp2
  go_quiet (fail)
  go_wp2
  go_quiet (fail)
  go_wp2
  exact bodyPost_ret (v := .tuple #[.agg #[.int .i64 (x0 + (x1 - x0 - pw) / 2), .int .i64 (y0 + (y1 - y0 - ph) / 2), .int .i64 (x0 + (x1 - x0 - pw) / 2 + pw), .int .i64 (y0 + (y1 - y0 - ph) / 2 + ph)], .int .i64 0]) (by simp [results, Try.results13, go_sem]) rfl ⟨by first | rfl | (simp; done) | (refine ret_frame ?_ ?_ ?_ ?_ rfl <;> omega), (by repeat (first | exact HB.out | apply below_alloc | apply pw_below_drewN | apply below_drew | refine below_set ?_ (by simp)))⟩
set_option maxHeartbeats 2000000 in
theorem place_b (pw ph x0 y0 x1 y1 : Int) (w : World) (hx0 : 0 ≤ x0) (hx0' : x0 ≤ 31680) (hy0 : 0 ≤ y0) (hy0' : y0 ≤ 31680) (hx1 : 0 ≤ x1) (hx1' : x1 ≤ 31680) (hy1 : 0 ≤ y1) (hy1' : y1 ≤ 31680) (hpw : 1 ≤ pw) (hpw' : pw ≤ 31680) (hph : 1 ≤ ph) (hph' : ph ≤ 31680) (hw : 1 ≤ x1 - x0) (hh : 1 ≤ y1 - y0) (hc1 : ¬ x1 - x0 < pw) (hc2 : y1 - y0 < ph) (hp1 : 0 ≤ pw * (y1 - y0)) (hp2 : pw * (y1 - y0) ≤ 1003622400) (hp3 : 0 ≤ ph * (y1 - y0)) (hp4 : ph * (y1 - y0) ≤ 1003622400) (hq0 : 0 ≤ pw * (y1 - y0) / ph) (hq2 : pw * (y1 - y0) / ph ≤ x1 - x0) (hq3 : ph * (y1 - y0) / ph = y1 - y0) (hq1 : 1 ≤ pw * (y1 - y0) / ph) :
    Calls Try.prog 13 #[.int .i64 pw, .int .i64 ph, .agg #[.int .i64 x0, .int .i64 y0, .int .i64 x1, .int .i64 y1]] w fun e w' => e = .returned (.tuple #[.agg #[.int .i64 (x0 + (x1 - x0 - pw * (y1 - y0) / ph) / 2), .int .i64 (y0), .int .i64 (x0 + (x1 - x0 - pw * (y1 - y0) / ph) / 2 + pw * (y1 - y0) / ph), .int .i64 (y0 + (y1 - y0))], .int .i64 0]) ∧ Below w.heap.size w w' := by
  have HB := Aside0.mk (Below.refl w.heap.size w)
  go_enter Try.func13, Try.ntmps13
  go_wp2
  go_quiet (fail)
  go_wp2
  refine wp_loop_rounds 5 ?_
  rw [rounds_succ]
  go_wp2
  rw [rounds_succ]
  go_wp2
  rw [rounds_succ]
  go_wp2
  rw [rounds_succ]
  go_wp2
  rw [rounds_succ]
  go_wp2
  go_quiet (fail)
  go_wp2
  go_quiet (fail)
  go_wp2
  exact bodyPost_ret (v := .tuple #[.agg #[.int .i64 (x0 + (x1 - x0 - pw * (y1 - y0) / ph) / 2), .int .i64 (y0), .int .i64 (x0 + (x1 - x0 - pw * (y1 - y0) / ph) / 2 + pw * (y1 - y0) / ph), .int .i64 (y0 + (y1 - y0))], .int .i64 0]) (by simp [results, Try.results13, go_sem]) rfl ⟨by first | rfl | (simp; done) | (refine ret_frame ?_ ?_ ?_ ?_ rfl <;> omega), (by repeat (first | exact HB.out | apply below_alloc | apply pw_below_drewN | apply below_drew | refine below_set ?_ (by simp)))⟩
set_option maxHeartbeats 2000000 in
theorem place_b1 (pw ph x0 y0 x1 y1 : Int) (w : World) (hx0 : 0 ≤ x0) (hx0' : x0 ≤ 31680) (hy0 : 0 ≤ y0) (hy0' : y0 ≤ 31680) (hx1 : 0 ≤ x1) (hx1' : x1 ≤ 31680) (hy1 : 0 ≤ y1) (hy1' : y1 ≤ 31680) (hpw : 1 ≤ pw) (hpw' : pw ≤ 31680) (hph : 1 ≤ ph) (hph' : ph ≤ 31680) (hw : 1 ≤ x1 - x0) (hh : 1 ≤ y1 - y0) (hc1 : ¬ x1 - x0 < pw) (hc2 : y1 - y0 < ph) (hp1 : 0 ≤ pw * (y1 - y0)) (hp2 : pw * (y1 - y0) ≤ 1003622400) (hp3 : 0 ≤ ph * (y1 - y0)) (hp4 : ph * (y1 - y0) ≤ 1003622400) (hq0 : 0 ≤ pw * (y1 - y0) / ph) (hq2 : pw * (y1 - y0) / ph ≤ x1 - x0) (hq3 : ph * (y1 - y0) / ph = y1 - y0) (hq1 : pw * (y1 - y0) / ph < 1) :
    Calls Try.prog 13 #[.int .i64 pw, .int .i64 ph, .agg #[.int .i64 x0, .int .i64 y0, .int .i64 x1, .int .i64 y1]] w fun e w' => e = .returned (.tuple #[.agg #[.int .i64 (x0 + (x1 - x0 - 1) / 2), .int .i64 (y0), .int .i64 (x0 + (x1 - x0 - 1) / 2 + 1), .int .i64 (y0 + (y1 - y0))], .int .i64 0]) ∧ Below w.heap.size w w' := by
  have HB := Aside0.mk (Below.refl w.heap.size w)
  go_enter Try.func13, Try.ntmps13
  go_wp2
  go_quiet (fail)
  go_wp2
  refine wp_loop_rounds 5 ?_
  rw [rounds_succ]
  go_wp2
  rw [rounds_succ]
  go_wp2
  rw [rounds_succ]
  go_wp2
  rw [rounds_succ]
  go_wp2
  rw [rounds_succ]
  go_wp2
  go_quiet (fail)
  go_wp2
  go_quiet (fail)
  go_wp2
  exact bodyPost_ret (v := .tuple #[.agg #[.int .i64 (x0 + (x1 - x0 - 1) / 2), .int .i64 (y0), .int .i64 (x0 + (x1 - x0 - 1) / 2 + 1), .int .i64 (y0 + (y1 - y0))], .int .i64 0]) (by simp [results, Try.results13, go_sem]) rfl ⟨by first | rfl | (simp; done) | (refine ret_frame ?_ ?_ ?_ ?_ rfl <;> omega), (by repeat (first | exact HB.out | apply below_alloc | apply pw_below_drewN | apply below_drew | refine below_set ?_ (by simp)))⟩
set_option maxHeartbeats 2000000 in
theorem place_d (pw ph x0 y0 x1 y1 : Int) (w : World) (hx0 : 0 ≤ x0) (hx0' : x0 ≤ 31680) (hy0 : 0 ≤ y0) (hy0' : y0 ≤ 31680) (hx1 : 0 ≤ x1) (hx1' : x1 ≤ 31680) (hy1 : 0 ≤ y1) (hy1' : y1 ≤ 31680) (hpw : 1 ≤ pw) (hpw' : pw ≤ 31680) (hph : 1 ≤ ph) (hph' : ph ≤ 31680) (hw : 1 ≤ x1 - x0) (hh : 1 ≤ y1 - y0) (hc1 : x1 - x0 < pw) (hc2 : (y1 - y0) * pw < (x1 - x0) * ph) (hk1 : 0 ≤ (y1 - y0) * pw) (hk2 : (y1 - y0) * pw ≤ 1003622400) (hk3 : 0 ≤ (x1 - x0) * ph) (hk4 : (x1 - x0) * ph ≤ 1003622400) (hp1 : 0 ≤ pw * (y1 - y0)) (hp2 : pw * (y1 - y0) ≤ 1003622400) (hp3 : 0 ≤ ph * (y1 - y0)) (hp4 : ph * (y1 - y0) ≤ 1003622400) (hq0 : 0 ≤ pw * (y1 - y0) / ph) (hq2 : pw * (y1 - y0) / ph ≤ x1 - x0) (hq3 : ph * (y1 - y0) / ph = y1 - y0) (hq1 : 1 ≤ pw * (y1 - y0) / ph) :
    Calls Try.prog 13 #[.int .i64 pw, .int .i64 ph, .agg #[.int .i64 x0, .int .i64 y0, .int .i64 x1, .int .i64 y1]] w fun e w' => e = .returned (.tuple #[.agg #[.int .i64 (x0 + (x1 - x0 - pw * (y1 - y0) / ph) / 2), .int .i64 (y0), .int .i64 (x0 + (x1 - x0 - pw * (y1 - y0) / ph) / 2 + pw * (y1 - y0) / ph), .int .i64 (y0 + (y1 - y0))], .int .i64 0]) ∧ Below w.heap.size w w' := by
  have HB := Aside0.mk (Below.refl w.heap.size w)
  go_enter Try.func13, Try.ntmps13
  go_wp2
  go_quiet (fail)
  go_wp2
  refine wp_loop_rounds 5 ?_
  rw [rounds_succ]
  go_wp2
  rw [rounds_succ]
  go_wp2
  rw [rounds_succ]
  go_wp2
  rw [rounds_succ]
  go_wp2
  rw [rounds_succ]
  go_wp2
  go_quiet (fail)
  go_wp2
  go_quiet (fail)
  go_wp2
  exact bodyPost_ret (v := .tuple #[.agg #[.int .i64 (x0 + (x1 - x0 - pw * (y1 - y0) / ph) / 2), .int .i64 (y0), .int .i64 (x0 + (x1 - x0 - pw * (y1 - y0) / ph) / 2 + pw * (y1 - y0) / ph), .int .i64 (y0 + (y1 - y0))], .int .i64 0]) (by simp [results, Try.results13, go_sem]) rfl ⟨by first | rfl | (simp; done) | (refine ret_frame ?_ ?_ ?_ ?_ rfl <;> omega), (by repeat (first | exact HB.out | apply below_alloc | apply pw_below_drewN | apply below_drew | refine below_set ?_ (by simp)))⟩
set_option maxHeartbeats 2000000 in
theorem place_d1 (pw ph x0 y0 x1 y1 : Int) (w : World) (hx0 : 0 ≤ x0) (hx0' : x0 ≤ 31680) (hy0 : 0 ≤ y0) (hy0' : y0 ≤ 31680) (hx1 : 0 ≤ x1) (hx1' : x1 ≤ 31680) (hy1 : 0 ≤ y1) (hy1' : y1 ≤ 31680) (hpw : 1 ≤ pw) (hpw' : pw ≤ 31680) (hph : 1 ≤ ph) (hph' : ph ≤ 31680) (hw : 1 ≤ x1 - x0) (hh : 1 ≤ y1 - y0) (hc1 : x1 - x0 < pw) (hc2 : (y1 - y0) * pw < (x1 - x0) * ph) (hk1 : 0 ≤ (y1 - y0) * pw) (hk2 : (y1 - y0) * pw ≤ 1003622400) (hk3 : 0 ≤ (x1 - x0) * ph) (hk4 : (x1 - x0) * ph ≤ 1003622400) (hp1 : 0 ≤ pw * (y1 - y0)) (hp2 : pw * (y1 - y0) ≤ 1003622400) (hp3 : 0 ≤ ph * (y1 - y0)) (hp4 : ph * (y1 - y0) ≤ 1003622400) (hq0 : 0 ≤ pw * (y1 - y0) / ph) (hq2 : pw * (y1 - y0) / ph ≤ x1 - x0) (hq3 : ph * (y1 - y0) / ph = y1 - y0) (hq1 : pw * (y1 - y0) / ph < 1) :
    Calls Try.prog 13 #[.int .i64 pw, .int .i64 ph, .agg #[.int .i64 x0, .int .i64 y0, .int .i64 x1, .int .i64 y1]] w fun e w' => e = .returned (.tuple #[.agg #[.int .i64 (x0 + (x1 - x0 - 1) / 2), .int .i64 (y0), .int .i64 (x0 + (x1 - x0 - 1) / 2 + 1), .int .i64 (y0 + (y1 - y0))], .int .i64 0]) ∧ Below w.heap.size w w' := by
  have HB := Aside0.mk (Below.refl w.heap.size w)
  go_enter Try.func13, Try.ntmps13
  go_wp2
  go_quiet (fail)
  go_wp2
  refine wp_loop_rounds 5 ?_
  rw [rounds_succ]
  go_wp2
  rw [rounds_succ]
  go_wp2
  rw [rounds_succ]
  go_wp2
  rw [rounds_succ]
  go_wp2
  rw [rounds_succ]
  go_wp2
  go_quiet (fail)
  go_wp2
  go_quiet (fail)
  go_wp2
  exact bodyPost_ret (v := .tuple #[.agg #[.int .i64 (x0 + (x1 - x0 - 1) / 2), .int .i64 (y0), .int .i64 (x0 + (x1 - x0 - 1) / 2 + 1), .int .i64 (y0 + (y1 - y0))], .int .i64 0]) (by simp [results, Try.results13, go_sem]) rfl ⟨by first | rfl | (simp; done) | (refine ret_frame ?_ ?_ ?_ ?_ rfl <;> omega), (by repeat (first | exact HB.out | apply below_alloc | apply pw_below_drewN | apply below_drew | refine below_set ?_ (by simp)))⟩
set_option maxHeartbeats 2000000 in
theorem place_c (pw ph x0 y0 x1 y1 : Int) (w : World) (hx0 : 0 ≤ x0) (hx0' : x0 ≤ 31680) (hy0 : 0 ≤ y0) (hy0' : y0 ≤ 31680) (hx1 : 0 ≤ x1) (hx1' : x1 ≤ 31680) (hy1 : 0 ≤ y1) (hy1' : y1 ≤ 31680) (hpw : 1 ≤ pw) (hpw' : pw ≤ 31680) (hph : 1 ≤ ph) (hph' : ph ≤ 31680) (hw : 1 ≤ x1 - x0) (hh : 1 ≤ y1 - y0) (hc1 : x1 - x0 < pw) (hc2 : ¬ (y1 - y0) * pw < (x1 - x0) * ph) (hk1 : 0 ≤ (y1 - y0) * pw) (hk2 : (y1 - y0) * pw ≤ 1003622400) (hk3 : 0 ≤ (x1 - x0) * ph) (hk4 : (x1 - x0) * ph ≤ 1003622400) (hp1 : 0 ≤ pw * (x1 - x0)) (hp2 : pw * (x1 - x0) ≤ 1003622400) (hp3 : 0 ≤ ph * (x1 - x0)) (hp4 : ph * (x1 - x0) ≤ 1003622400) (hq0 : 0 ≤ ph * (x1 - x0) / pw) (hq2 : ph * (x1 - x0) / pw ≤ y1 - y0) (hq3 : pw * (x1 - x0) / pw = x1 - x0) (hq1 : 1 ≤ ph * (x1 - x0) / pw) :
    Calls Try.prog 13 #[.int .i64 pw, .int .i64 ph, .agg #[.int .i64 x0, .int .i64 y0, .int .i64 x1, .int .i64 y1]] w fun e w' => e = .returned (.tuple #[.agg #[.int .i64 (x0), .int .i64 (y0 + (y1 - y0 - ph * (x1 - x0) / pw) / 2), .int .i64 (x0 + (x1 - x0)), .int .i64 (y0 + (y1 - y0 - ph * (x1 - x0) / pw) / 2 + ph * (x1 - x0) / pw)], .int .i64 0]) ∧ Below w.heap.size w w' := by
  have HB := Aside0.mk (Below.refl w.heap.size w)
  go_enter Try.func13, Try.ntmps13
  go_wp2
  go_quiet (fail)
  go_wp2
  refine wp_loop_rounds 5 ?_
  rw [rounds_succ]
  go_wp2
  rw [rounds_succ]
  go_wp2
  rw [rounds_succ]
  go_wp2
  rw [rounds_succ]
  go_wp2
  rw [rounds_succ]
  go_wp2
  go_quiet (fail)
  go_wp2
  go_quiet (fail)
  go_wp2
  exact bodyPost_ret (v := .tuple #[.agg #[.int .i64 (x0), .int .i64 (y0 + (y1 - y0 - ph * (x1 - x0) / pw) / 2), .int .i64 (x0 + (x1 - x0)), .int .i64 (y0 + (y1 - y0 - ph * (x1 - x0) / pw) / 2 + ph * (x1 - x0) / pw)], .int .i64 0]) (by simp [results, Try.results13, go_sem]) rfl ⟨by first | rfl | (simp; done) | (refine ret_frame ?_ ?_ ?_ ?_ rfl <;> omega), (by repeat (first | exact HB.out | apply below_alloc | apply pw_below_drewN | apply below_drew | refine below_set ?_ (by simp)))⟩
set_option maxHeartbeats 2000000 in
theorem place_c1 (pw ph x0 y0 x1 y1 : Int) (w : World) (hx0 : 0 ≤ x0) (hx0' : x0 ≤ 31680) (hy0 : 0 ≤ y0) (hy0' : y0 ≤ 31680) (hx1 : 0 ≤ x1) (hx1' : x1 ≤ 31680) (hy1 : 0 ≤ y1) (hy1' : y1 ≤ 31680) (hpw : 1 ≤ pw) (hpw' : pw ≤ 31680) (hph : 1 ≤ ph) (hph' : ph ≤ 31680) (hw : 1 ≤ x1 - x0) (hh : 1 ≤ y1 - y0) (hc1 : x1 - x0 < pw) (hc2 : ¬ (y1 - y0) * pw < (x1 - x0) * ph) (hk1 : 0 ≤ (y1 - y0) * pw) (hk2 : (y1 - y0) * pw ≤ 1003622400) (hk3 : 0 ≤ (x1 - x0) * ph) (hk4 : (x1 - x0) * ph ≤ 1003622400) (hp1 : 0 ≤ pw * (x1 - x0)) (hp2 : pw * (x1 - x0) ≤ 1003622400) (hp3 : 0 ≤ ph * (x1 - x0)) (hp4 : ph * (x1 - x0) ≤ 1003622400) (hq0 : 0 ≤ ph * (x1 - x0) / pw) (hq2 : ph * (x1 - x0) / pw ≤ y1 - y0) (hq3 : pw * (x1 - x0) / pw = x1 - x0) (hq1 : ph * (x1 - x0) / pw < 1) :
    Calls Try.prog 13 #[.int .i64 pw, .int .i64 ph, .agg #[.int .i64 x0, .int .i64 y0, .int .i64 x1, .int .i64 y1]] w fun e w' => e = .returned (.tuple #[.agg #[.int .i64 (x0), .int .i64 (y0 + (y1 - y0 - 1) / 2), .int .i64 (x0 + (x1 - x0)), .int .i64 (y0 + (y1 - y0 - 1) / 2 + 1)], .int .i64 0]) ∧ Below w.heap.size w w' := by
  have HB := Aside0.mk (Below.refl w.heap.size w)
  go_enter Try.func13, Try.ntmps13
  go_wp2
  go_quiet (fail)
  go_wp2
  refine wp_loop_rounds 5 ?_
  rw [rounds_succ]
  go_wp2
  rw [rounds_succ]
  go_wp2
  rw [rounds_succ]
  go_wp2
  rw [rounds_succ]
  go_wp2
  rw [rounds_succ]
  go_wp2
  go_quiet (fail)
  go_wp2
  go_quiet (fail)
  go_wp2
  exact bodyPost_ret (v := .tuple #[.agg #[.int .i64 (x0), .int .i64 (y0 + (y1 - y0 - 1) / 2), .int .i64 (x0 + (x1 - x0)), .int .i64 (y0 + (y1 - y0 - 1) / 2 + 1)], .int .i64 0]) (by simp [results, Try.results13, go_sem]) rfl ⟨by first | rfl | (simp; done) | (refine ret_frame ?_ ?_ ?_ ?_ rfl <;> omega), (by repeat (first | exact HB.out | apply below_alloc | apply pw_below_drewN | apply below_drew | refine below_set ?_ (by simp)))⟩
set_option maxHeartbeats 2000000 in
theorem err_x0_low (pw ph x0 y0 x1 y1 : Int) (w : World) (hbad : x0 < 0) :
    Calls Try.prog 13 #[.int .i64 pw, .int .i64 ph, .agg #[.int .i64 x0, .int .i64 y0, .int .i64 x1, .int .i64 y1]] w fun e w' => e = .returned (.tuple #[.agg #[.int .i64 (0), .int .i64 (0), .int .i64 (0), .int .i64 (0)], .int .i64 2]) ∧ Below w.heap.size w w' := by
  have HB := Aside0.mk (Below.refl w.heap.size w)
  go_enter Try.func13, Try.ntmps13
  go_wp2
  go_quiet (fail)
  go_wp2
  refine wp_loop_rounds 5 ?_
  rw [rounds_succ]
  go_wp2
  exact bodyPost_ret (v := .tuple #[.agg #[.int .i64 (0), .int .i64 (0), .int .i64 (0), .int .i64 (0)], .int .i64 2]) (by simp [results, Try.results13, go_sem]) rfl ⟨by first | rfl | (simp; done) | (refine ret_frame ?_ ?_ ?_ ?_ rfl <;> omega), (by repeat (first | exact HB.out | apply below_alloc | apply pw_below_drewN | apply below_drew | refine below_set ?_ (by simp)))⟩
set_option maxHeartbeats 2000000 in
theorem err_x0_high (pw ph x0 y0 x1 y1 : Int) (w : World) (hlow : 0 ≤ x0) (hbad : 31680 < x0) :
    Calls Try.prog 13 #[.int .i64 pw, .int .i64 ph, .agg #[.int .i64 x0, .int .i64 y0, .int .i64 x1, .int .i64 y1]] w fun e w' => e = .returned (.tuple #[.agg #[.int .i64 (0), .int .i64 (0), .int .i64 (0), .int .i64 (0)], .int .i64 2]) ∧ Below w.heap.size w w' := by
  have HB := Aside0.mk (Below.refl w.heap.size w)
  go_enter Try.func13, Try.ntmps13
  go_wp2
  go_quiet (fail)
  go_wp2
  refine wp_loop_rounds 5 ?_
  rw [rounds_succ]
  go_wp2
  exact bodyPost_ret (v := .tuple #[.agg #[.int .i64 (0), .int .i64 (0), .int .i64 (0), .int .i64 (0)], .int .i64 2]) (by simp [results, Try.results13, go_sem]) rfl ⟨by first | rfl | (simp; done) | (refine ret_frame ?_ ?_ ?_ ?_ rfl <;> omega), (by repeat (first | exact HB.out | apply below_alloc | apply pw_below_drewN | apply below_drew | refine below_set ?_ (by simp)))⟩
set_option maxHeartbeats 2000000 in
theorem err_y0_low (pw ph x0 y0 x1 y1 : Int) (w : World) (hx0 : 0 ≤ x0) (hx0' : x0 ≤ 31680) (hbad : y0 < 0) :
    Calls Try.prog 13 #[.int .i64 pw, .int .i64 ph, .agg #[.int .i64 x0, .int .i64 y0, .int .i64 x1, .int .i64 y1]] w fun e w' => e = .returned (.tuple #[.agg #[.int .i64 (0), .int .i64 (0), .int .i64 (0), .int .i64 (0)], .int .i64 2]) ∧ Below w.heap.size w w' := by
  have HB := Aside0.mk (Below.refl w.heap.size w)
  go_enter Try.func13, Try.ntmps13
  go_wp2
  go_quiet (fail)
  go_wp2
  refine wp_loop_rounds 5 ?_
  rw [rounds_succ]
  go_wp2
  rw [rounds_succ]
  go_wp2
  exact bodyPost_ret (v := .tuple #[.agg #[.int .i64 (0), .int .i64 (0), .int .i64 (0), .int .i64 (0)], .int .i64 2]) (by simp [results, Try.results13, go_sem]) rfl ⟨by first | rfl | (simp; done) | (refine ret_frame ?_ ?_ ?_ ?_ rfl <;> omega), (by repeat (first | exact HB.out | apply below_alloc | apply pw_below_drewN | apply below_drew | refine below_set ?_ (by simp)))⟩
set_option maxHeartbeats 2000000 in
theorem err_y0_high (pw ph x0 y0 x1 y1 : Int) (w : World) (hx0 : 0 ≤ x0) (hx0' : x0 ≤ 31680) (hlow : 0 ≤ y0) (hbad : 31680 < y0) :
    Calls Try.prog 13 #[.int .i64 pw, .int .i64 ph, .agg #[.int .i64 x0, .int .i64 y0, .int .i64 x1, .int .i64 y1]] w fun e w' => e = .returned (.tuple #[.agg #[.int .i64 (0), .int .i64 (0), .int .i64 (0), .int .i64 (0)], .int .i64 2]) ∧ Below w.heap.size w w' := by
  have HB := Aside0.mk (Below.refl w.heap.size w)
  go_enter Try.func13, Try.ntmps13
  go_wp2
  go_quiet (fail)
  go_wp2
  refine wp_loop_rounds 5 ?_
  rw [rounds_succ]
  go_wp2
  rw [rounds_succ]
  go_wp2
  exact bodyPost_ret (v := .tuple #[.agg #[.int .i64 (0), .int .i64 (0), .int .i64 (0), .int .i64 (0)], .int .i64 2]) (by simp [results, Try.results13, go_sem]) rfl ⟨by first | rfl | (simp; done) | (refine ret_frame ?_ ?_ ?_ ?_ rfl <;> omega), (by repeat (first | exact HB.out | apply below_alloc | apply pw_below_drewN | apply below_drew | refine below_set ?_ (by simp)))⟩
set_option maxHeartbeats 2000000 in
theorem err_x1_low (pw ph x0 y0 x1 y1 : Int) (w : World) (hx0 : 0 ≤ x0) (hx0' : x0 ≤ 31680) (hy0 : 0 ≤ y0) (hy0' : y0 ≤ 31680) (hbad : x1 < 0) :
    Calls Try.prog 13 #[.int .i64 pw, .int .i64 ph, .agg #[.int .i64 x0, .int .i64 y0, .int .i64 x1, .int .i64 y1]] w fun e w' => e = .returned (.tuple #[.agg #[.int .i64 (0), .int .i64 (0), .int .i64 (0), .int .i64 (0)], .int .i64 2]) ∧ Below w.heap.size w w' := by
  have HB := Aside0.mk (Below.refl w.heap.size w)
  go_enter Try.func13, Try.ntmps13
  go_wp2
  go_quiet (fail)
  go_wp2
  refine wp_loop_rounds 5 ?_
  rw [rounds_succ]
  go_wp2
  rw [rounds_succ]
  go_wp2
  rw [rounds_succ]
  go_wp2
  exact bodyPost_ret (v := .tuple #[.agg #[.int .i64 (0), .int .i64 (0), .int .i64 (0), .int .i64 (0)], .int .i64 2]) (by simp [results, Try.results13, go_sem]) rfl ⟨by first | rfl | (simp; done) | (refine ret_frame ?_ ?_ ?_ ?_ rfl <;> omega), (by repeat (first | exact HB.out | apply below_alloc | apply pw_below_drewN | apply below_drew | refine below_set ?_ (by simp)))⟩
set_option maxHeartbeats 2000000 in
theorem err_x1_high (pw ph x0 y0 x1 y1 : Int) (w : World) (hx0 : 0 ≤ x0) (hx0' : x0 ≤ 31680) (hy0 : 0 ≤ y0) (hy0' : y0 ≤ 31680) (hlow : 0 ≤ x1) (hbad : 31680 < x1) :
    Calls Try.prog 13 #[.int .i64 pw, .int .i64 ph, .agg #[.int .i64 x0, .int .i64 y0, .int .i64 x1, .int .i64 y1]] w fun e w' => e = .returned (.tuple #[.agg #[.int .i64 (0), .int .i64 (0), .int .i64 (0), .int .i64 (0)], .int .i64 2]) ∧ Below w.heap.size w w' := by
  have HB := Aside0.mk (Below.refl w.heap.size w)
  go_enter Try.func13, Try.ntmps13
  go_wp2
  go_quiet (fail)
  go_wp2
  refine wp_loop_rounds 5 ?_
  rw [rounds_succ]
  go_wp2
  rw [rounds_succ]
  go_wp2
  rw [rounds_succ]
  go_wp2
  exact bodyPost_ret (v := .tuple #[.agg #[.int .i64 (0), .int .i64 (0), .int .i64 (0), .int .i64 (0)], .int .i64 2]) (by simp [results, Try.results13, go_sem]) rfl ⟨by first | rfl | (simp; done) | (refine ret_frame ?_ ?_ ?_ ?_ rfl <;> omega), (by repeat (first | exact HB.out | apply below_alloc | apply pw_below_drewN | apply below_drew | refine below_set ?_ (by simp)))⟩
set_option maxHeartbeats 2000000 in
theorem err_y1_low (pw ph x0 y0 x1 y1 : Int) (w : World) (hx0 : 0 ≤ x0) (hx0' : x0 ≤ 31680) (hy0 : 0 ≤ y0) (hy0' : y0 ≤ 31680) (hx1 : 0 ≤ x1) (hx1' : x1 ≤ 31680) (hbad : y1 < 0) :
    Calls Try.prog 13 #[.int .i64 pw, .int .i64 ph, .agg #[.int .i64 x0, .int .i64 y0, .int .i64 x1, .int .i64 y1]] w fun e w' => e = .returned (.tuple #[.agg #[.int .i64 (0), .int .i64 (0), .int .i64 (0), .int .i64 (0)], .int .i64 2]) ∧ Below w.heap.size w w' := by
  have HB := Aside0.mk (Below.refl w.heap.size w)
  go_enter Try.func13, Try.ntmps13
  go_wp2
  go_quiet (fail)
  go_wp2
  refine wp_loop_rounds 5 ?_
  rw [rounds_succ]
  go_wp2
  rw [rounds_succ]
  go_wp2
  rw [rounds_succ]
  go_wp2
  rw [rounds_succ]
  go_wp2
  exact bodyPost_ret (v := .tuple #[.agg #[.int .i64 (0), .int .i64 (0), .int .i64 (0), .int .i64 (0)], .int .i64 2]) (by simp [results, Try.results13, go_sem]) rfl ⟨by first | rfl | (simp; done) | (refine ret_frame ?_ ?_ ?_ ?_ rfl <;> omega), (by repeat (first | exact HB.out | apply below_alloc | apply pw_below_drewN | apply below_drew | refine below_set ?_ (by simp)))⟩
set_option maxHeartbeats 2000000 in
theorem err_y1_high (pw ph x0 y0 x1 y1 : Int) (w : World) (hx0 : 0 ≤ x0) (hx0' : x0 ≤ 31680) (hy0 : 0 ≤ y0) (hy0' : y0 ≤ 31680) (hx1 : 0 ≤ x1) (hx1' : x1 ≤ 31680) (hlow : 0 ≤ y1) (hbad : 31680 < y1) :
    Calls Try.prog 13 #[.int .i64 pw, .int .i64 ph, .agg #[.int .i64 x0, .int .i64 y0, .int .i64 x1, .int .i64 y1]] w fun e w' => e = .returned (.tuple #[.agg #[.int .i64 (0), .int .i64 (0), .int .i64 (0), .int .i64 (0)], .int .i64 2]) ∧ Below w.heap.size w w' := by
  have HB := Aside0.mk (Below.refl w.heap.size w)
  go_enter Try.func13, Try.ntmps13
  go_wp2
  go_quiet (fail)
  go_wp2
  refine wp_loop_rounds 5 ?_
  rw [rounds_succ]
  go_wp2
  rw [rounds_succ]
  go_wp2
  rw [rounds_succ]
  go_wp2
  rw [rounds_succ]
  go_wp2
  exact bodyPost_ret (v := .tuple #[.agg #[.int .i64 (0), .int .i64 (0), .int .i64 (0), .int .i64 (0)], .int .i64 2]) (by simp [results, Try.results13, go_sem]) rfl ⟨by first | rfl | (simp; done) | (refine ret_frame ?_ ?_ ?_ ?_ rfl <;> omega), (by repeat (first | exact HB.out | apply below_alloc | apply pw_below_drewN | apply below_drew | refine below_set ?_ (by simp)))⟩
set_option maxHeartbeats 2000000 in
theorem err_pw_low (pw ph x0 y0 x1 y1 : Int) (w : World) (hx0 : 0 ≤ x0) (hx0' : x0 ≤ 31680) (hy0 : 0 ≤ y0) (hy0' : y0 ≤ 31680) (hx1 : 0 ≤ x1) (hx1' : x1 ≤ 31680) (hy1 : 0 ≤ y1) (hy1' : y1 ≤ 31680) (hbad : pw < 1) :
    Calls Try.prog 13 #[.int .i64 pw, .int .i64 ph, .agg #[.int .i64 x0, .int .i64 y0, .int .i64 x1, .int .i64 y1]] w fun e w' => e = .returned (.tuple #[.agg #[.int .i64 (0), .int .i64 (0), .int .i64 (0), .int .i64 (0)], .int .i64 2]) ∧ Below w.heap.size w w' := by
  have HB := Aside0.mk (Below.refl w.heap.size w)
  go_enter Try.func13, Try.ntmps13
  go_wp2
  go_quiet (fail)
  go_wp2
  refine wp_loop_rounds 5 ?_
  rw [rounds_succ]
  go_wp2
  rw [rounds_succ]
  go_wp2
  rw [rounds_succ]
  go_wp2
  rw [rounds_succ]
  go_wp2
  rw [rounds_succ]
  go_wp2
  exact bodyPost_ret (v := .tuple #[.agg #[.int .i64 (0), .int .i64 (0), .int .i64 (0), .int .i64 (0)], .int .i64 2]) (by simp [results, Try.results13, go_sem]) rfl ⟨by first | rfl | (simp; done) | (refine ret_frame ?_ ?_ ?_ ?_ rfl <;> omega), (by repeat (first | exact HB.out | apply below_alloc | apply pw_below_drewN | apply below_drew | refine below_set ?_ (by simp)))⟩
set_option maxHeartbeats 2000000 in
theorem err_pw_high (pw ph x0 y0 x1 y1 : Int) (w : World) (hx0 : 0 ≤ x0) (hx0' : x0 ≤ 31680) (hy0 : 0 ≤ y0) (hy0' : y0 ≤ 31680) (hx1 : 0 ≤ x1) (hx1' : x1 ≤ 31680) (hy1 : 0 ≤ y1) (hy1' : y1 ≤ 31680) (hlow : 1 ≤ pw) (hbad : 31680 < pw) :
    Calls Try.prog 13 #[.int .i64 pw, .int .i64 ph, .agg #[.int .i64 x0, .int .i64 y0, .int .i64 x1, .int .i64 y1]] w fun e w' => e = .returned (.tuple #[.agg #[.int .i64 (0), .int .i64 (0), .int .i64 (0), .int .i64 (0)], .int .i64 2]) ∧ Below w.heap.size w w' := by
  have HB := Aside0.mk (Below.refl w.heap.size w)
  go_enter Try.func13, Try.ntmps13
  go_wp2
  go_quiet (fail)
  go_wp2
  refine wp_loop_rounds 5 ?_
  rw [rounds_succ]
  go_wp2
  rw [rounds_succ]
  go_wp2
  rw [rounds_succ]
  go_wp2
  rw [rounds_succ]
  go_wp2
  rw [rounds_succ]
  go_wp2
  exact bodyPost_ret (v := .tuple #[.agg #[.int .i64 (0), .int .i64 (0), .int .i64 (0), .int .i64 (0)], .int .i64 2]) (by simp [results, Try.results13, go_sem]) rfl ⟨by first | rfl | (simp; done) | (refine ret_frame ?_ ?_ ?_ ?_ rfl <;> omega), (by repeat (first | exact HB.out | apply below_alloc | apply pw_below_drewN | apply below_drew | refine below_set ?_ (by simp)))⟩
set_option maxHeartbeats 2000000 in
theorem err_ph_low (pw ph x0 y0 x1 y1 : Int) (w : World) (hx0 : 0 ≤ x0) (hx0' : x0 ≤ 31680) (hy0 : 0 ≤ y0) (hy0' : y0 ≤ 31680) (hx1 : 0 ≤ x1) (hx1' : x1 ≤ 31680) (hy1 : 0 ≤ y1) (hy1' : y1 ≤ 31680) (hpw : 1 ≤ pw) (hpw' : pw ≤ 31680) (hbad : ph < 1) :
    Calls Try.prog 13 #[.int .i64 pw, .int .i64 ph, .agg #[.int .i64 x0, .int .i64 y0, .int .i64 x1, .int .i64 y1]] w fun e w' => e = .returned (.tuple #[.agg #[.int .i64 (0), .int .i64 (0), .int .i64 (0), .int .i64 (0)], .int .i64 2]) ∧ Below w.heap.size w w' := by
  have HB := Aside0.mk (Below.refl w.heap.size w)
  go_enter Try.func13, Try.ntmps13
  go_wp2
  go_quiet (fail)
  go_wp2
  refine wp_loop_rounds 5 ?_
  rw [rounds_succ]
  go_wp2
  rw [rounds_succ]
  go_wp2
  rw [rounds_succ]
  go_wp2
  rw [rounds_succ]
  go_wp2
  rw [rounds_succ]
  go_wp2
  exact bodyPost_ret (v := .tuple #[.agg #[.int .i64 (0), .int .i64 (0), .int .i64 (0), .int .i64 (0)], .int .i64 2]) (by simp [results, Try.results13, go_sem]) rfl ⟨by first | rfl | (simp; done) | (refine ret_frame ?_ ?_ ?_ ?_ rfl <;> omega), (by repeat (first | exact HB.out | apply below_alloc | apply pw_below_drewN | apply below_drew | refine below_set ?_ (by simp)))⟩
set_option maxHeartbeats 2000000 in
theorem err_ph_high (pw ph x0 y0 x1 y1 : Int) (w : World) (hx0 : 0 ≤ x0) (hx0' : x0 ≤ 31680) (hy0 : 0 ≤ y0) (hy0' : y0 ≤ 31680) (hx1 : 0 ≤ x1) (hx1' : x1 ≤ 31680) (hy1 : 0 ≤ y1) (hy1' : y1 ≤ 31680) (hpw : 1 ≤ pw) (hpw' : pw ≤ 31680) (hlow : 1 ≤ ph) (hbad : 31680 < ph) :
    Calls Try.prog 13 #[.int .i64 pw, .int .i64 ph, .agg #[.int .i64 x0, .int .i64 y0, .int .i64 x1, .int .i64 y1]] w fun e w' => e = .returned (.tuple #[.agg #[.int .i64 (0), .int .i64 (0), .int .i64 (0), .int .i64 (0)], .int .i64 2]) ∧ Below w.heap.size w w' := by
  have HB := Aside0.mk (Below.refl w.heap.size w)
  go_enter Try.func13, Try.ntmps13
  go_wp2
  go_quiet (fail)
  go_wp2
  refine wp_loop_rounds 5 ?_
  rw [rounds_succ]
  go_wp2
  rw [rounds_succ]
  go_wp2
  rw [rounds_succ]
  go_wp2
  rw [rounds_succ]
  go_wp2
  rw [rounds_succ]
  go_wp2
  exact bodyPost_ret (v := .tuple #[.agg #[.int .i64 (0), .int .i64 (0), .int .i64 (0), .int .i64 (0)], .int .i64 2]) (by simp [results, Try.results13, go_sem]) rfl ⟨by first | rfl | (simp; done) | (refine ret_frame ?_ ?_ ?_ ?_ rfl <;> omega), (by repeat (first | exact HB.out | apply below_alloc | apply pw_below_drewN | apply below_drew | refine below_set ?_ (by simp)))⟩
set_option maxHeartbeats 2000000 in
theorem err_w (pw ph x0 y0 x1 y1 : Int) (w : World) (hx0 : 0 ≤ x0) (hx0' : x0 ≤ 31680) (hy0 : 0 ≤ y0) (hy0' : y0 ≤ 31680) (hx1 : 0 ≤ x1) (hx1' : x1 ≤ 31680) (hy1 : 0 ≤ y1) (hy1' : y1 ≤ 31680) (hpw : 1 ≤ pw) (hpw' : pw ≤ 31680) (hph : 1 ≤ ph) (hph' : ph ≤ 31680) (hbad : x1 - x0 < 1) :
    Calls Try.prog 13 #[.int .i64 pw, .int .i64 ph, .agg #[.int .i64 x0, .int .i64 y0, .int .i64 x1, .int .i64 y1]] w fun e w' => e = .returned (.tuple #[.agg #[.int .i64 (0), .int .i64 (0), .int .i64 (0), .int .i64 (0)], .int .i64 5]) ∧ Below w.heap.size w w' := by
  have HB := Aside0.mk (Below.refl w.heap.size w)
  go_enter Try.func13, Try.ntmps13
  go_wp2
  go_quiet (fail)
  go_wp2
  refine wp_loop_rounds 5 ?_
  rw [rounds_succ]
  go_wp2
  rw [rounds_succ]
  go_wp2
  rw [rounds_succ]
  go_wp2
  rw [rounds_succ]
  go_wp2
  rw [rounds_succ]
  go_wp2
  exact bodyPost_ret (v := .tuple #[.agg #[.int .i64 (0), .int .i64 (0), .int .i64 (0), .int .i64 (0)], .int .i64 5]) (by simp [results, Try.results13, go_sem]) rfl ⟨by first | rfl | (simp; done) | (refine ret_frame ?_ ?_ ?_ ?_ rfl <;> omega), (by repeat (first | exact HB.out | apply below_alloc | apply pw_below_drewN | apply below_drew | refine below_set ?_ (by simp)))⟩
set_option maxHeartbeats 2000000 in
theorem err_h (pw ph x0 y0 x1 y1 : Int) (w : World) (hx0 : 0 ≤ x0) (hx0' : x0 ≤ 31680) (hy0 : 0 ≤ y0) (hy0' : y0 ≤ 31680) (hx1 : 0 ≤ x1) (hx1' : x1 ≤ 31680) (hy1 : 0 ≤ y1) (hy1' : y1 ≤ 31680) (hpw : 1 ≤ pw) (hpw' : pw ≤ 31680) (hph : 1 ≤ ph) (hph' : ph ≤ 31680) (hlow : 1 ≤ x1 - x0) (hbad : y1 - y0 < 1) :
    Calls Try.prog 13 #[.int .i64 pw, .int .i64 ph, .agg #[.int .i64 x0, .int .i64 y0, .int .i64 x1, .int .i64 y1]] w fun e w' => e = .returned (.tuple #[.agg #[.int .i64 (0), .int .i64 (0), .int .i64 (0), .int .i64 (0)], .int .i64 5]) ∧ Below w.heap.size w w' := by
  have HB := Aside0.mk (Below.refl w.heap.size w)
  go_enter Try.func13, Try.ntmps13
  go_wp2
  go_quiet (fail)
  go_wp2
  refine wp_loop_rounds 5 ?_
  rw [rounds_succ]
  go_wp2
  rw [rounds_succ]
  go_wp2
  rw [rounds_succ]
  go_wp2
  rw [rounds_succ]
  go_wp2
  rw [rounds_succ]
  go_wp2
  exact bodyPost_ret (v := .tuple #[.agg #[.int .i64 (0), .int .i64 (0), .int .i64 (0), .int .i64 (0)], .int .i64 5]) (by simp [results, Try.results13, go_sem]) rfl ⟨by first | rfl | (simp; done) | (refine ret_frame ?_ ?_ ?_ ?_ rfl <;> omega), (by repeat (first | exact HB.out | apply below_alloc | apply pw_below_drewN | apply below_drew | refine below_set ?_ (by simp)))⟩
end Go.Proofs.Ytihmbddneapooaa.HandPP
