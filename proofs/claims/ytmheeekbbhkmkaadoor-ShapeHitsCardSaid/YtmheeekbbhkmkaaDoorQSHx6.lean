import Derived.Test.YtmheeekbbhkmkaaDoorHandSHc
import Derived.Test.YtmheeekbbhkmkaaDoorQSHx0
import Derived.Test.YtmheeekbbhkmkaaDoorQSHx1
import Derived.Test.YtmheeekbbhkmkaaDoorQSHx3
import Derived.Test.YtmheeekbbhkmkaaDoorQSHx6d
namespace Go.Proofs.YtmheeekbbhkmkaaDoor.QSH
open Go.RowKit Go.Proofs.YtmheeekbbhkmkaaDoor.Cells Go.Proofs.YtmheeekbbhkmkaaDoorW.PrintWords Go.Proofs.YtmheeekbbhkmkaaDoorW.PrintLast Go.Proofs.YtmheeekbbhkmkaaDoorW.PrintMore Go.Proofs.YtmheeekbbhkmkaaDoor.HandSH
attribute [local go_sem] max2_int min2_int max_two min_two max_three min_three max_four min_four 
set_option linter.unusedVariables false
set_option linter.unusedSimpArgs false
set_option maxHeartbeats 8000000 in
set_option maxRecDepth 100000 in
theorem chanceryref3_HitShape.calls (k : Nat) (A0 : Option Addr) (c0 : Nat) (l0 : List (S45)) (a1_0 : Int) (a1_1 : Int) (r : Int) (w : World) (hr0 : Kd.C k45 w A0 l0.length l0) (hc0 : l0.length ≤ c0) (h : chanceryref3_HitShape.f k l0 a1_0 a1_1 = some r) (hL : LaidW w) :
  Calls Tryd.prog 15 #[.slice A0 l0.length c0, .agg #[.int .i64 a1_0, .int .i64 a1_1]] w fun e w' => e = .returned (.int .i64 r) ∧ Below w.heap.size w w' := by
 have HLd := Aside0.mk hL
 clear hL
 have hu37 := Tryd.underlying37
 have hu45 := Tryd.underlying45
 have HR0 := Aside0.mk hr0
 have HC0 := Aside0.mk hc0
 clear hr0 hc0
 have HB := Aside0.mk (Below.refl w.heap.size w)
 have H : (chanceryref3_HitShape.l0 k l0 0 l0 (l0.length : Int) 0 a1_0 a1_1) = some r := h
 clear h
 have H' := Aside0.mk H
 clear H
 go_enter Tryd.func15, Tryd.ntmps15
 go_wp2_with (first | ((with_reducible refine gate_dst (N := 3) rfl ?_); refine box_event ?hg (N := 3) ?hd (cs := #[.int .i64 a1_0, .int .i64 a1_1]) (t := 37) ?hr ?_; (case hd => rfl); (case hg => rfl); (case hr => first | (go_simp; done) | (go_simp; rfl)); intro gb189 hg w3 hbox hb; have n0_ := Aside0.mk (below_step (by repeat (first | (with_reducible first | exact HB.out | apply below_alloc | apply pw_below_drewN | apply below_drew1) | exact HB.out)) hb); have n1_ := Aside0.mk (hbox); have n2_ := Aside0.mk ((by rw [hg]; exact (below_size (by repeat (first | (with_reducible first | exact HB.out | apply below_alloc | apply pw_below_drewN | apply below_drew1) | exact HB.out))) : w.heap.size ≤ gb189)); have n3_ := Aside0.mk ((by rw [hg]; exact (below_size (by repeat (first | (with_reducible first | exact HB.out | apply below_alloc | apply pw_below_drewN | apply below_drew1) | exact HB.out))) : w.heap.size ≤ gb189)); clear HB; have HB := n0_; have BK189 := n1_; have GW189 := n2_; have GE189 := n3_; clear n0_ n1_ n2_ n3_; clear hb hbox hg))
 go_loopg [5, 18] k (fun kq v5 v18 w' => ∃ (x5_1 : Int) (x18_1 : Int), v5 = .int .i64 x5_1 ∧ v18 = .int .i64 x18_1 ∧ Aside0 (chanceryref3_HitShape.l0 kq l0 x5_1 l0 (l0.length : Int) x18_1 a1_0 a1_1 = some r) ∧ Aside0 (kq ≤ k) ∧ Aside0 (w'.heap[gb189]? = some (.cells #[.int .i64 a1_0, .int .i64 a1_1] 37 (0, 0))) ∧ Aside0 (Below w.heap.size w w'))
 case atStart => exact ⟨(0), (0), (by first | rfl | (simp; done) | (simp [*]; done)), (by first | rfl | (simp; done) | (simp [*]; done)), H', ⟨Nat.le_refl _⟩, ⟨by (with_reducible repeat (first | refine blk_drewN ?_ _ | refine blk_drew ?_ | refine blk_alloc ?_ _)); exact BK189.out⟩, ⟨by repeat (first | (with_reducible first | exact HB.out | apply below_alloc | apply pw_below_drewN | apply below_drew1 | refine below_set ?_ GE189.out) | exact HB.out)⟩⟩
 case round =>
  clear H'
  try clear c1; try clear p2
  obtain ⟨x5_1, x18_1, rfl, rfl, HA, HK1, BK189, HB⟩ := hrel
  cases gk with
  | zero => exact absurd HA.out (by simp [chanceryref3_HitShape.l0])
  | succ k1 =>
   have H := HA.out
   clear HA
   simp only [chanceryref3_HitShape.l0] at H
   by_cases c4 : x18_1 < (l0.length : Int)
   ·rw [if_pos c4] at H
    have c4b0 : decide (x18_1 < (l0.length : Int)) = true := decide_eq_true c4
    clear c4
    by_cases c5 : 0 ≤ x18_1
    ·rw [if_pos c5] at H
     have c5b0 : decide (0 ≤ x18_1) = true := decide_eq_true c5
     clear c5
     by_cases c6 : x18_1 < (l0.length : Int)
     ·rw [if_pos c6] at H
      have c6b0 : decide (x18_1 < (l0.length : Int)) = true := decide_eq_true c6
      clear c6
      have HC7 := Aside0.mk H
      clear H
      have p190 : 0 ≤ (x18_1 : Int) := of_decide_eq_true (by first | (with_reducible assumption) | assumption)
      have q190 : x18_1 < (l0.length : Int) := of_decide_eq_true (by first | (with_reducible assumption) | assumption)
      obtain ⟨ad190, e190, hx190_0, hx190_1, hx190_2, hx190_3, hx190_4, hx190_5, hx190_6, hx190_7, hx190_8, hx190_9, hx190_10, hx190_11⟩ := at_T45 (Kd.C_below HR0.out HB.out) x18_1 p190 q190
      cases e190
      replace p190 := eq_true p190
      replace q190 := eq_true q190
      go_upto_region 5 with (first | ((with_reducible refine gate_dst (N := 7) rfl ?_); refine box_event ?hg (N := 7) ?hd (cs := #[.int .i64 0, .int .i64 0, .int .i64 0, .int .i64 0, .int .i64 0, .int .i64 0, .int .i64 0, .int .i64 0, .int .i64 0, .int .i64 0, .string (⟨#[]⟩ : ByteArray), .string (⟨#[]⟩ : ByteArray)]) (t := 45) ?hr ?_; (case hd => rfl); (case hg => rfl); (case hr => first | (go_simp; done) | (go_simp; rfl)); intro gb191 hg w8 hbox hb; have n0_ := Aside0.mk (blk_below (g := gb189) (o := .cells #[.int .i64 a1_0, .int .i64 a1_1] 37 (0, 0)) (by (with_reducible repeat (first | refine blk_drewN ?_ _ | refine blk_drew ?_ | refine blk_alloc ?_ _)); exact BK189.out) hb); have n1_ := Aside0.mk (below_step (by repeat (first | (with_reducible first | exact HB.out | apply below_alloc | apply pw_below_drewN | apply below_drew1 | refine below_set ?_ GE189.out) | exact HB.out)) hb); have n2_ := Aside0.mk (hbox); have n3_ := Aside0.mk ((by rw [hg]; exact (below_size (by repeat (first | (with_reducible first | exact HB.out | apply below_alloc | apply pw_below_drewN | apply below_drew1 | refine below_set ?_ GE189.out) | exact HB.out))) : w.heap.size ≤ gb191)); have n4_ := Aside0.mk ((by rw [hg]; exact (below_size (by repeat (first | (with_reducible first | exact HB.out | apply below_alloc | apply pw_below_drewN | apply below_drew1 | refine below_set ?_ GE189.out) | exact HB.out))) : w.heap.size ≤ gb191)); have n5_ := Aside0.mk ((by rw [hg]; exact Nat.ne_of_lt (blk_lt (g := gb189) (o := .cells #[.int .i64 a1_0, .int .i64 a1_1] 37 (0, 0)) (by (with_reducible repeat (first | refine blk_drewN ?_ _ | refine blk_drew ?_ | refine blk_alloc ?_ _)); exact BK189.out)) : gb189 ≠ gb191)); have n6_ := Aside0.mk ((by rw [hg]; exact Nat.ne_of_gt (blk_lt (g := gb189) (o := .cells #[.int .i64 a1_0, .int .i64 a1_1] 37 (0, 0)) (by (with_reducible repeat (first | refine blk_drewN ?_ _ | refine blk_drew ?_ | refine blk_alloc ?_ _)); exact BK189.out)) : gb191 ≠ gb189)); clear BK189; clear HB; have BK189 := n0_; have HB := n1_; have BK191 := n2_; have GW191 := n3_; have GE191 := n4_; have NB189_191 := n5_; have NB191_189 := n6_; clear n0_ n1_ n2_ n3_ n4_ n5_ n6_; clear hb hbox hg; have hnb9 := NB191_189.out; have hnc9 := NB189_191.out; obtain ⟨hcz10_0, hcz10_1, hcz10_2, hcz10_3, hcz10_4, hcz10_5, hcz10_6, hcz10_7, hcz10_8, hcz10_9, hcz10_10, hcz10_11⟩ := cells12 BK191.out; have hfz10_ := fun j => blk_frozen BK191.out j))
      (try simp only [Act.put, List.setIfInBounds_toArray, List.set_cons_zero, List.set_cons_succ])
      go_cut [29] (fun v29 wc => ∃ (kq : Nat) (x29_6 : Bool), v29 = .bool x29_6 ∧ Aside0 (chanceryref3_HitShape.j1 kq l0 x5_1 l0 (l0.length : Int) x18_1 x29_6 a1_0 a1_1 ((rd_T45 l0 x18_1).f0) ((rd_T45 l0 x18_1).f1) ((rd_T45 l0 x18_1).f2) ((rd_T45 l0 x18_1).f3) ((rd_T45 l0 x18_1).f4) ((rd_T45 l0 x18_1).f5) ((rd_T45 l0 x18_1).f6) ((rd_T45 l0 x18_1).f7) ((rd_T45 l0 x18_1).f8) ((rd_T45 l0 x18_1).f9) ((rd_T45 l0 x18_1).f10) ((rd_T45 l0 x18_1).f11) = some r) ∧ Aside0 (kq ≤ k1) ∧ Aside0 (wc.heap[gb189]? = some (.cells #[.int .i64 a1_0, .int .i64 a1_1] 37 (0, 0))) ∧ Aside0 (wc.heap[gb191]? = some (.cells #[.int .i64 ((rd_T45 l0 x18_1).f0), .int .i64 ((rd_T45 l0 x18_1).f1), .int .i64 ((rd_T45 l0 x18_1).f2), .int .i64 ((rd_T45 l0 x18_1).f3), .int .i64 ((rd_T45 l0 x18_1).f4), .int .i64 ((rd_T45 l0 x18_1).f5), .int .i64 ((rd_T45 l0 x18_1).f6), .int .i64 ((rd_T45 l0 x18_1).f7), .int .i64 ((rd_T45 l0 x18_1).f8), .int .i64 ((rd_T45 l0 x18_1).f9), .string ((rd_T45 l0 x18_1).f10), .string ((rd_T45 l0 x18_1).f11)] 45 (0, 0))) ∧ Aside0 (Below w.heap.size w wc))
      case first =>
       have H := HC7.out
       clear HC7
       by_cases c11 : ((rd_T45 l0 x18_1).f2) = 5
       ·rw [if_pos c11] at H
        have c11b0 : (((rd_T45 l0 x18_1).f2) == 5) = true := beq_iff_eq.mpr c11
        have c11b1 : (((rd_T45 l0 x18_1).f2) != 5) = false := bne_eq_false_iff_eq.mpr c11
        clear c11
        (first | rw [c11b0] | (simp only [i64_w, i32_w]; rw [c11b0]) | skip)
        have H' := Aside0.mk H
        clear H
        have hnb12 := NB191_189.out
        have hnc12 := NB189_191.out
        obtain ⟨hcz13_0, hcz13_1, hcz13_2, hcz13_3, hcz13_4, hcz13_5, hcz13_6, hcz13_7, hcz13_8, hcz13_9, hcz13_10, hcz13_11⟩ := cells12 BK191.out
        have hfz13_ := fun j => blk_frozen BK191.out j
        go_wp2
        go_meet
        case rel => exact ⟨_, (true), (by first | rfl | (simp; done) | (simp [*]; done)), H', ⟨by have := HK1.out; first | omega | exact Nat.le_refl _⟩, ⟨by (with_reducible repeat (first | refine blk_drewN ?_ _ | refine blk_drew ?_ | refine blk_alloc ?_ _)); refine blk_far ?_ NB189_191.out _; (with_reducible repeat (first | refine blk_drewN ?_ _ | refine blk_drew ?_ | refine blk_alloc ?_ _)); refine blk_far ?_ NB189_191.out _; (with_reducible repeat (first | refine blk_drewN ?_ _ | refine blk_drew ?_ | refine blk_alloc ?_ _)); refine blk_far ?_ NB189_191.out _; (with_reducible repeat (first | refine blk_drewN ?_ _ | refine blk_drew ?_ | refine blk_alloc ?_ _)); refine blk_far ?_ NB189_191.out _; (with_reducible repeat (first | refine blk_drewN ?_ _ | refine blk_drew ?_ | refine blk_alloc ?_ _)); refine blk_far ?_ NB189_191.out _; (with_reducible repeat (first | refine blk_drewN ?_ _ | refine blk_drew ?_ | refine blk_alloc ?_ _)); refine blk_far ?_ NB189_191.out _; (with_reducible repeat (first | refine blk_drewN ?_ _ | refine blk_drew ?_ | refine blk_alloc ?_ _)); refine blk_far ?_ NB189_191.out _; (with_reducible repeat (first | refine blk_drewN ?_ _ | refine blk_drew ?_ | refine blk_alloc ?_ _)); refine blk_far ?_ NB189_191.out _; (with_reducible repeat (first | refine blk_drewN ?_ _ | refine blk_drew ?_ | refine blk_alloc ?_ _)); refine blk_far ?_ NB189_191.out _; (with_reducible repeat (first | refine blk_drewN ?_ _ | refine blk_drew ?_ | refine blk_alloc ?_ _)); refine blk_far ?_ NB189_191.out _; (with_reducible repeat (first | refine blk_drewN ?_ _ | refine blk_drew ?_ | refine blk_alloc ?_ _)); refine blk_far ?_ NB189_191.out _; (with_reducible repeat (first | refine blk_drewN ?_ _ | refine blk_drew ?_ | refine blk_alloc ?_ _)); refine blk_far ?_ NB189_191.out _; (with_reducible repeat (first | refine blk_drewN ?_ _ | refine blk_drew ?_ | refine blk_alloc ?_ _)); exact BK189.out⟩, ⟨by (with_reducible repeat (first | refine blk_drewN ?_ _ | refine blk_drew ?_ | refine blk_alloc ?_ _)); refine blk_put (cs := #[.int .i64 ((rd_T45 l0 x18_1).f0), .int .i64 ((rd_T45 l0 x18_1).f1), .int .i64 ((rd_T45 l0 x18_1).f2), .int .i64 ((rd_T45 l0 x18_1).f3), .int .i64 ((rd_T45 l0 x18_1).f4), .int .i64 ((rd_T45 l0 x18_1).f5), .int .i64 ((rd_T45 l0 x18_1).f6), .int .i64 ((rd_T45 l0 x18_1).f7), .int .i64 ((rd_T45 l0 x18_1).f8), .int .i64 ((rd_T45 l0 x18_1).f9), .string ((rd_T45 l0 x18_1).f10), .string (⟨#[]⟩ : ByteArray)]) ?_ 11 _ rfl; (with_reducible repeat (first | refine blk_drewN ?_ _ | refine blk_drew ?_ | refine blk_alloc ?_ _)); refine blk_put (cs := #[.int .i64 ((rd_T45 l0 x18_1).f0), .int .i64 ((rd_T45 l0 x18_1).f1), .int .i64 ((rd_T45 l0 x18_1).f2), .int .i64 ((rd_T45 l0 x18_1).f3), .int .i64 ((rd_T45 l0 x18_1).f4), .int .i64 ((rd_T45 l0 x18_1).f5), .int .i64 ((rd_T45 l0 x18_1).f6), .int .i64 ((rd_T45 l0 x18_1).f7), .int .i64 ((rd_T45 l0 x18_1).f8), .int .i64 ((rd_T45 l0 x18_1).f9), .string (⟨#[]⟩ : ByteArray), .string (⟨#[]⟩ : ByteArray)]) ?_ 10 _ rfl; (with_reducible repeat (first | refine blk_drewN ?_ _ | refine blk_drew ?_ | refine blk_alloc ?_ _)); refine blk_put (cs := #[.int .i64 ((rd_T45 l0 x18_1).f0), .int .i64 ((rd_T45 l0 x18_1).f1), .int .i64 ((rd_T45 l0 x18_1).f2), .int .i64 ((rd_T45 l0 x18_1).f3), .int .i64 ((rd_T45 l0 x18_1).f4), .int .i64 ((rd_T45 l0 x18_1).f5), .int .i64 ((rd_T45 l0 x18_1).f6), .int .i64 ((rd_T45 l0 x18_1).f7), .int .i64 ((rd_T45 l0 x18_1).f8), .int .i64 0, .string (⟨#[]⟩ : ByteArray), .string (⟨#[]⟩ : ByteArray)]) ?_ 9 _ rfl; (with_reducible repeat (first | refine blk_drewN ?_ _ | refine blk_drew ?_ | refine blk_alloc ?_ _)); refine blk_put (cs := #[.int .i64 ((rd_T45 l0 x18_1).f0), .int .i64 ((rd_T45 l0 x18_1).f1), .int .i64 ((rd_T45 l0 x18_1).f2), .int .i64 ((rd_T45 l0 x18_1).f3), .int .i64 ((rd_T45 l0 x18_1).f4), .int .i64 ((rd_T45 l0 x18_1).f5), .int .i64 ((rd_T45 l0 x18_1).f6), .int .i64 ((rd_T45 l0 x18_1).f7), .int .i64 0, .int .i64 0, .string (⟨#[]⟩ : ByteArray), .string (⟨#[]⟩ : ByteArray)]) ?_ 8 _ rfl; (with_reducible repeat (first | refine blk_drewN ?_ _ | refine blk_drew ?_ | refine blk_alloc ?_ _)); refine blk_put (cs := #[.int .i64 ((rd_T45 l0 x18_1).f0), .int .i64 ((rd_T45 l0 x18_1).f1), .int .i64 ((rd_T45 l0 x18_1).f2), .int .i64 ((rd_T45 l0 x18_1).f3), .int .i64 ((rd_T45 l0 x18_1).f4), .int .i64 ((rd_T45 l0 x18_1).f5), .int .i64 ((rd_T45 l0 x18_1).f6), .int .i64 0, .int .i64 0, .int .i64 0, .string (⟨#[]⟩ : ByteArray), .string (⟨#[]⟩ : ByteArray)]) ?_ 7 _ rfl; (with_reducible repeat (first | refine blk_drewN ?_ _ | refine blk_drew ?_ | refine blk_alloc ?_ _)); refine blk_put (cs := #[.int .i64 ((rd_T45 l0 x18_1).f0), .int .i64 ((rd_T45 l0 x18_1).f1), .int .i64 ((rd_T45 l0 x18_1).f2), .int .i64 ((rd_T45 l0 x18_1).f3), .int .i64 ((rd_T45 l0 x18_1).f4), .int .i64 ((rd_T45 l0 x18_1).f5), .int .i64 0, .int .i64 0, .int .i64 0, .int .i64 0, .string (⟨#[]⟩ : ByteArray), .string (⟨#[]⟩ : ByteArray)]) ?_ 6 _ rfl; (with_reducible repeat (first | refine blk_drewN ?_ _ | refine blk_drew ?_ | refine blk_alloc ?_ _)); refine blk_put (cs := #[.int .i64 ((rd_T45 l0 x18_1).f0), .int .i64 ((rd_T45 l0 x18_1).f1), .int .i64 ((rd_T45 l0 x18_1).f2), .int .i64 ((rd_T45 l0 x18_1).f3), .int .i64 ((rd_T45 l0 x18_1).f4), .int .i64 0, .int .i64 0, .int .i64 0, .int .i64 0, .int .i64 0, .string (⟨#[]⟩ : ByteArray), .string (⟨#[]⟩ : ByteArray)]) ?_ 5 _ rfl; (with_reducible repeat (first | refine blk_drewN ?_ _ | refine blk_drew ?_ | refine blk_alloc ?_ _)); refine blk_put (cs := #[.int .i64 ((rd_T45 l0 x18_1).f0), .int .i64 ((rd_T45 l0 x18_1).f1), .int .i64 ((rd_T45 l0 x18_1).f2), .int .i64 ((rd_T45 l0 x18_1).f3), .int .i64 0, .int .i64 0, .int .i64 0, .int .i64 0, .int .i64 0, .int .i64 0, .string (⟨#[]⟩ : ByteArray), .string (⟨#[]⟩ : ByteArray)]) ?_ 4 _ rfl; (with_reducible repeat (first | refine blk_drewN ?_ _ | refine blk_drew ?_ | refine blk_alloc ?_ _)); refine blk_put (cs := #[.int .i64 ((rd_T45 l0 x18_1).f0), .int .i64 ((rd_T45 l0 x18_1).f1), .int .i64 ((rd_T45 l0 x18_1).f2), .int .i64 0, .int .i64 0, .int .i64 0, .int .i64 0, .int .i64 0, .int .i64 0, .int .i64 0, .string (⟨#[]⟩ : ByteArray), .string (⟨#[]⟩ : ByteArray)]) ?_ 3 _ rfl; (with_reducible repeat (first | refine blk_drewN ?_ _ | refine blk_drew ?_ | refine blk_alloc ?_ _)); refine blk_put (cs := #[.int .i64 ((rd_T45 l0 x18_1).f0), .int .i64 ((rd_T45 l0 x18_1).f1), .int .i64 0, .int .i64 0, .int .i64 0, .int .i64 0, .int .i64 0, .int .i64 0, .int .i64 0, .int .i64 0, .string (⟨#[]⟩ : ByteArray), .string (⟨#[]⟩ : ByteArray)]) ?_ 2 _ rfl; (with_reducible repeat (first | refine blk_drewN ?_ _ | refine blk_drew ?_ | refine blk_alloc ?_ _)); refine blk_put (cs := #[.int .i64 ((rd_T45 l0 x18_1).f0), .int .i64 0, .int .i64 0, .int .i64 0, .int .i64 0, .int .i64 0, .int .i64 0, .int .i64 0, .int .i64 0, .int .i64 0, .string (⟨#[]⟩ : ByteArray), .string (⟨#[]⟩ : ByteArray)]) ?_ 1 _ rfl; (with_reducible repeat (first | refine blk_drewN ?_ _ | refine blk_drew ?_ | refine blk_alloc ?_ _)); refine blk_put (cs := #[.int .i64 0, .int .i64 0, .int .i64 0, .int .i64 0, .int .i64 0, .int .i64 0, .int .i64 0, .int .i64 0, .int .i64 0, .int .i64 0, .string (⟨#[]⟩ : ByteArray), .string (⟨#[]⟩ : ByteArray)]) ?_ 0 _ rfl; (with_reducible repeat (first | refine blk_drewN ?_ _ | refine blk_drew ?_ | refine blk_alloc ?_ _)); exact BK191.out⟩, ⟨by repeat (first | (with_reducible first | exact HB.out | apply below_alloc | apply pw_below_drewN | apply below_drew1 | refine below_set ?_ GE189.out | refine below_set ?_ GE191.out) | exact HB.out)⟩⟩
       ·rw [if_neg c11] at H
        have c11b0 : (((rd_T45 l0 x18_1).f2) == 5) = false := beq_eq_false_iff_ne.mpr c11
        have c11b1 : (((rd_T45 l0 x18_1).f2) != 5) = true := bne_iff_ne.mpr c11
        (first | rw [c11b0] | (simp only [i64_w, i32_w]; rw [c11b0]) | skip)
        have H' := Aside0.mk H
        clear H
        have hnb14 := NB191_189.out
        have hnc14 := NB189_191.out
        obtain ⟨hcz15_0, hcz15_1, hcz15_2, hcz15_3, hcz15_4, hcz15_5, hcz15_6, hcz15_7, hcz15_8, hcz15_9, hcz15_10, hcz15_11⟩ := cells12 BK191.out
        have hfz15_ := fun j => blk_frozen BK191.out j
        go_wp2
        go_meet
        case rel => exact ⟨_, ((((rd_T45 l0 x18_1).f2) == 6)), (by first | rfl | (simp; done) | (simp [*]; done)), H', ⟨by have := HK1.out; first | omega | exact Nat.le_refl _⟩, ⟨by (with_reducible repeat (first | refine blk_drewN ?_ _ | refine blk_drew ?_ | refine blk_alloc ?_ _)); refine blk_far ?_ NB189_191.out _; (with_reducible repeat (first | refine blk_drewN ?_ _ | refine blk_drew ?_ | refine blk_alloc ?_ _)); refine blk_far ?_ NB189_191.out _; (with_reducible repeat (first | refine blk_drewN ?_ _ | refine blk_drew ?_ | refine blk_alloc ?_ _)); refine blk_far ?_ NB189_191.out _; (with_reducible repeat (first | refine blk_drewN ?_ _ | refine blk_drew ?_ | refine blk_alloc ?_ _)); refine blk_far ?_ NB189_191.out _; (with_reducible repeat (first | refine blk_drewN ?_ _ | refine blk_drew ?_ | refine blk_alloc ?_ _)); refine blk_far ?_ NB189_191.out _; (with_reducible repeat (first | refine blk_drewN ?_ _ | refine blk_drew ?_ | refine blk_alloc ?_ _)); refine blk_far ?_ NB189_191.out _; (with_reducible repeat (first | refine blk_drewN ?_ _ | refine blk_drew ?_ | refine blk_alloc ?_ _)); refine blk_far ?_ NB189_191.out _; (with_reducible repeat (first | refine blk_drewN ?_ _ | refine blk_drew ?_ | refine blk_alloc ?_ _)); refine blk_far ?_ NB189_191.out _; (with_reducible repeat (first | refine blk_drewN ?_ _ | refine blk_drew ?_ | refine blk_alloc ?_ _)); refine blk_far ?_ NB189_191.out _; (with_reducible repeat (first | refine blk_drewN ?_ _ | refine blk_drew ?_ | refine blk_alloc ?_ _)); refine blk_far ?_ NB189_191.out _; (with_reducible repeat (first | refine blk_drewN ?_ _ | refine blk_drew ?_ | refine blk_alloc ?_ _)); refine blk_far ?_ NB189_191.out _; (with_reducible repeat (first | refine blk_drewN ?_ _ | refine blk_drew ?_ | refine blk_alloc ?_ _)); refine blk_far ?_ NB189_191.out _; (with_reducible repeat (first | refine blk_drewN ?_ _ | refine blk_drew ?_ | refine blk_alloc ?_ _)); exact BK189.out⟩, ⟨by (with_reducible repeat (first | refine blk_drewN ?_ _ | refine blk_drew ?_ | refine blk_alloc ?_ _)); refine blk_put (cs := #[.int .i64 ((rd_T45 l0 x18_1).f0), .int .i64 ((rd_T45 l0 x18_1).f1), .int .i64 ((rd_T45 l0 x18_1).f2), .int .i64 ((rd_T45 l0 x18_1).f3), .int .i64 ((rd_T45 l0 x18_1).f4), .int .i64 ((rd_T45 l0 x18_1).f5), .int .i64 ((rd_T45 l0 x18_1).f6), .int .i64 ((rd_T45 l0 x18_1).f7), .int .i64 ((rd_T45 l0 x18_1).f8), .int .i64 ((rd_T45 l0 x18_1).f9), .string ((rd_T45 l0 x18_1).f10), .string (⟨#[]⟩ : ByteArray)]) ?_ 11 _ rfl; (with_reducible repeat (first | refine blk_drewN ?_ _ | refine blk_drew ?_ | refine blk_alloc ?_ _)); refine blk_put (cs := #[.int .i64 ((rd_T45 l0 x18_1).f0), .int .i64 ((rd_T45 l0 x18_1).f1), .int .i64 ((rd_T45 l0 x18_1).f2), .int .i64 ((rd_T45 l0 x18_1).f3), .int .i64 ((rd_T45 l0 x18_1).f4), .int .i64 ((rd_T45 l0 x18_1).f5), .int .i64 ((rd_T45 l0 x18_1).f6), .int .i64 ((rd_T45 l0 x18_1).f7), .int .i64 ((rd_T45 l0 x18_1).f8), .int .i64 ((rd_T45 l0 x18_1).f9), .string (⟨#[]⟩ : ByteArray), .string (⟨#[]⟩ : ByteArray)]) ?_ 10 _ rfl; (with_reducible repeat (first | refine blk_drewN ?_ _ | refine blk_drew ?_ | refine blk_alloc ?_ _)); refine blk_put (cs := #[.int .i64 ((rd_T45 l0 x18_1).f0), .int .i64 ((rd_T45 l0 x18_1).f1), .int .i64 ((rd_T45 l0 x18_1).f2), .int .i64 ((rd_T45 l0 x18_1).f3), .int .i64 ((rd_T45 l0 x18_1).f4), .int .i64 ((rd_T45 l0 x18_1).f5), .int .i64 ((rd_T45 l0 x18_1).f6), .int .i64 ((rd_T45 l0 x18_1).f7), .int .i64 ((rd_T45 l0 x18_1).f8), .int .i64 0, .string (⟨#[]⟩ : ByteArray), .string (⟨#[]⟩ : ByteArray)]) ?_ 9 _ rfl; (with_reducible repeat (first | refine blk_drewN ?_ _ | refine blk_drew ?_ | refine blk_alloc ?_ _)); refine blk_put (cs := #[.int .i64 ((rd_T45 l0 x18_1).f0), .int .i64 ((rd_T45 l0 x18_1).f1), .int .i64 ((rd_T45 l0 x18_1).f2), .int .i64 ((rd_T45 l0 x18_1).f3), .int .i64 ((rd_T45 l0 x18_1).f4), .int .i64 ((rd_T45 l0 x18_1).f5), .int .i64 ((rd_T45 l0 x18_1).f6), .int .i64 ((rd_T45 l0 x18_1).f7), .int .i64 0, .int .i64 0, .string (⟨#[]⟩ : ByteArray), .string (⟨#[]⟩ : ByteArray)]) ?_ 8 _ rfl; (with_reducible repeat (first | refine blk_drewN ?_ _ | refine blk_drew ?_ | refine blk_alloc ?_ _)); refine blk_put (cs := #[.int .i64 ((rd_T45 l0 x18_1).f0), .int .i64 ((rd_T45 l0 x18_1).f1), .int .i64 ((rd_T45 l0 x18_1).f2), .int .i64 ((rd_T45 l0 x18_1).f3), .int .i64 ((rd_T45 l0 x18_1).f4), .int .i64 ((rd_T45 l0 x18_1).f5), .int .i64 ((rd_T45 l0 x18_1).f6), .int .i64 0, .int .i64 0, .int .i64 0, .string (⟨#[]⟩ : ByteArray), .string (⟨#[]⟩ : ByteArray)]) ?_ 7 _ rfl; (with_reducible repeat (first | refine blk_drewN ?_ _ | refine blk_drew ?_ | refine blk_alloc ?_ _)); refine blk_put (cs := #[.int .i64 ((rd_T45 l0 x18_1).f0), .int .i64 ((rd_T45 l0 x18_1).f1), .int .i64 ((rd_T45 l0 x18_1).f2), .int .i64 ((rd_T45 l0 x18_1).f3), .int .i64 ((rd_T45 l0 x18_1).f4), .int .i64 ((rd_T45 l0 x18_1).f5), .int .i64 0, .int .i64 0, .int .i64 0, .int .i64 0, .string (⟨#[]⟩ : ByteArray), .string (⟨#[]⟩ : ByteArray)]) ?_ 6 _ rfl; (with_reducible repeat (first | refine blk_drewN ?_ _ | refine blk_drew ?_ | refine blk_alloc ?_ _)); refine blk_put (cs := #[.int .i64 ((rd_T45 l0 x18_1).f0), .int .i64 ((rd_T45 l0 x18_1).f1), .int .i64 ((rd_T45 l0 x18_1).f2), .int .i64 ((rd_T45 l0 x18_1).f3), .int .i64 ((rd_T45 l0 x18_1).f4), .int .i64 0, .int .i64 0, .int .i64 0, .int .i64 0, .int .i64 0, .string (⟨#[]⟩ : ByteArray), .string (⟨#[]⟩ : ByteArray)]) ?_ 5 _ rfl; (with_reducible repeat (first | refine blk_drewN ?_ _ | refine blk_drew ?_ | refine blk_alloc ?_ _)); refine blk_put (cs := #[.int .i64 ((rd_T45 l0 x18_1).f0), .int .i64 ((rd_T45 l0 x18_1).f1), .int .i64 ((rd_T45 l0 x18_1).f2), .int .i64 ((rd_T45 l0 x18_1).f3), .int .i64 0, .int .i64 0, .int .i64 0, .int .i64 0, .int .i64 0, .int .i64 0, .string (⟨#[]⟩ : ByteArray), .string (⟨#[]⟩ : ByteArray)]) ?_ 4 _ rfl; (with_reducible repeat (first | refine blk_drewN ?_ _ | refine blk_drew ?_ | refine blk_alloc ?_ _)); refine blk_put (cs := #[.int .i64 ((rd_T45 l0 x18_1).f0), .int .i64 ((rd_T45 l0 x18_1).f1), .int .i64 ((rd_T45 l0 x18_1).f2), .int .i64 0, .int .i64 0, .int .i64 0, .int .i64 0, .int .i64 0, .int .i64 0, .int .i64 0, .string (⟨#[]⟩ : ByteArray), .string (⟨#[]⟩ : ByteArray)]) ?_ 3 _ rfl; (with_reducible repeat (first | refine blk_drewN ?_ _ | refine blk_drew ?_ | refine blk_alloc ?_ _)); refine blk_put (cs := #[.int .i64 ((rd_T45 l0 x18_1).f0), .int .i64 ((rd_T45 l0 x18_1).f1), .int .i64 0, .int .i64 0, .int .i64 0, .int .i64 0, .int .i64 0, .int .i64 0, .int .i64 0, .int .i64 0, .string (⟨#[]⟩ : ByteArray), .string (⟨#[]⟩ : ByteArray)]) ?_ 2 _ rfl; (with_reducible repeat (first | refine blk_drewN ?_ _ | refine blk_drew ?_ | refine blk_alloc ?_ _)); refine blk_put (cs := #[.int .i64 ((rd_T45 l0 x18_1).f0), .int .i64 0, .int .i64 0, .int .i64 0, .int .i64 0, .int .i64 0, .int .i64 0, .int .i64 0, .int .i64 0, .int .i64 0, .string (⟨#[]⟩ : ByteArray), .string (⟨#[]⟩ : ByteArray)]) ?_ 1 _ rfl; (with_reducible repeat (first | refine blk_drewN ?_ _ | refine blk_drew ?_ | refine blk_alloc ?_ _)); refine blk_put (cs := #[.int .i64 0, .int .i64 0, .int .i64 0, .int .i64 0, .int .i64 0, .int .i64 0, .int .i64 0, .int .i64 0, .int .i64 0, .int .i64 0, .string (⟨#[]⟩ : ByteArray), .string (⟨#[]⟩ : ByteArray)]) ?_ 0 _ rfl; (with_reducible repeat (first | refine blk_drewN ?_ _ | refine blk_drew ?_ | refine blk_alloc ?_ _)); exact BK191.out⟩, ⟨by repeat (first | (with_reducible first | exact HB.out | apply below_alloc | apply pw_below_drewN | apply below_drew1 | refine below_set ?_ GE189.out | refine below_set ?_ GE191.out) | exact HB.out)⟩⟩
      case rest =>
       clear HC7; try clear c1; try clear p1; try clear q1; try clear hx1; try clear p2; try clear c4; try clear c4b0; try clear c5; try clear c5b0; try clear c6; try clear c6b0; try clear c9; try clear c11; try clear c11b0; try clear c11b1; try clear c12; try clear c14; try clear c15; try clear hcz10_0; try clear hcz10_1; try clear hcz10_10; try clear hcz10_11; try clear hcz10_2; try clear hcz10_3; try clear hcz10_4; try clear hcz10_5; try clear hcz10_6; try clear hcz10_7; try clear hcz10_8; try clear hcz10_9; try clear hcz13_0; try clear hcz13_1; try clear hcz13_10; try clear hcz13_11; try clear hcz13_2; try clear hcz13_3; try clear hcz13_4; try clear hcz13_5; try clear hcz13_6; try clear hcz13_7; try clear hcz13_8; try clear hcz13_9; try clear hcz15_0; try clear hcz15_1; try clear hcz15_10; try clear hcz15_11; try clear hcz15_2; try clear hcz15_3; try clear hcz15_4; try clear hcz15_5; try clear hcz15_6; try clear hcz15_7; try clear hcz15_8; try clear hcz15_9; try clear hfz10_0; try clear hfz10_1; try clear hfz10_10; try clear hfz10_11; try clear hfz10_2; try clear hfz10_3; try clear hfz10_4; try clear hfz10_5; try clear hfz10_6; try clear hfz10_7; try clear hfz10_8; try clear hfz10_9; try clear hfz13_0; try clear hfz13_1; try clear hfz13_10; try clear hfz13_11; try clear hfz13_2; try clear hfz13_3; try clear hfz13_4; try clear hfz13_5; try clear hfz13_6; try clear hfz13_7; try clear hfz13_8; try clear hfz13_9; try clear hfz15_0; try clear hfz15_1; try clear hfz15_10; try clear hfz15_11; try clear hfz15_2; try clear hfz15_3; try clear hfz15_4; try clear hfz15_5; try clear hfz15_6; try clear hfz15_7; try clear hfz15_8; try clear hfz15_9; try clear hx190_0; try clear hx190_1; try clear hx190_10; try clear hx190_11; try clear hx190_2; try clear hx190_3; try clear hx190_4; try clear hx190_5; try clear hx190_6; try clear hx190_7; try clear hx190_8; try clear hx190_9; try clear p190; try clear q190
       obtain ⟨kq, x29_6, rfl, HA, HJ6, BK189, BK191, HB⟩ := hcut
       cases kq with
       | zero => exact absurd HA.out (by simp [chanceryref3_HitShape.j1])
       | succ kj6 =>
        have H := HA.out
        clear HA
        simp only [chanceryref3_HitShape.j1] at H
        by_cases c16 : x29_6 = true
        ·subst c16
         have H1 : (chanceryref3_HitShape.l0 kj6 l0 x5_1 l0 (l0.length : Int) (wrap64 (x18_1 + 1)) a1_0 a1_1) = some r := by rw [if_pos rfl] at H; exact H
         clear H
         have H := H1
         clear H1
         have H' := Aside0.mk H
         clear H
         go_wp2
         go_roundg kj6
         case measure => have := HK1.out; have := HJ6.out; omega
         case rel => exact ⟨(x5_1), (wrap64 (x18_1 + 1)), (by first | rfl | (simp; done) | (simp [*]; done)), (by first | rfl | (simp; done) | (simp [*]; done)), H', ⟨by have := HK1.out; have := HJ6.out; omega⟩, ⟨by (with_reducible repeat (first | refine blk_drewN ?_ _ | refine blk_drew ?_ | refine blk_alloc ?_ _)); exact BK189.out⟩, ⟨by repeat (first | (with_reducible first | exact HB.out | apply below_alloc | apply pw_below_drewN | apply below_drew1 | refine below_set ?_ GE189.out | refine below_set ?_ GE191.out) | exact HB.out)⟩⟩
        ·replace c16 := Bool.eq_false_iff.mpr c16
         subst c16
         have H1 : (chanceryref3_HitShape.l1 kj6 l0 x5_1 ([] : List (S45)) ((rd_T45 l0 x18_1).f1) l0 (l0.length : Int) x18_1 a1_0 a1_1 ((rd_T45 l0 x18_1).f0) ((rd_T45 l0 x18_1).f1) ((rd_T45 l0 x18_1).f2) ((rd_T45 l0 x18_1).f3) ((rd_T45 l0 x18_1).f4) ((rd_T45 l0 x18_1).f5) ((rd_T45 l0 x18_1).f6) ((rd_T45 l0 x18_1).f7) ((rd_T45 l0 x18_1).f8) ((rd_T45 l0 x18_1).f9) ((rd_T45 l0 x18_1).f10) ((rd_T45 l0 x18_1).f11)) = some r := by rw [if_neg (show ¬ (false = true) by decide)] at H; exact H
         clear H
         have H := H1
         clear H1
         have H' := Aside0.mk H
         clear H
         have hnb17 := NB191_189.out
         have hnc17 := NB189_191.out
         obtain ⟨hcz18_0, hcz18_1, hcz18_2, hcz18_3, hcz18_4, hcz18_5, hcz18_6, hcz18_7, hcz18_8, hcz18_9, hcz18_10, hcz18_11⟩ := cells12 BK191.out
         have hfz18_ := fun j => blk_frozen BK191.out j
         go_wp2
         go_loopg [8, 9] kj6 (fun kq v8 v9 w' => ∃ (x8_3 : List (S45)) (x9_3 : Int), v9 = .int .i64 x9_3 ∧ Aside0 (chanceryref3_HitShape.l1 kq l0 x5_1 x8_3 x9_3 l0 (l0.length : Int) x18_1 a1_0 a1_1 ((rd_T45 l0 x18_1).f0) ((rd_T45 l0 x18_1).f1) ((rd_T45 l0 x18_1).f2) ((rd_T45 l0 x18_1).f3) ((rd_T45 l0 x18_1).f4) ((rd_T45 l0 x18_1).f5) ((rd_T45 l0 x18_1).f6) ((rd_T45 l0 x18_1).f7) ((rd_T45 l0 x18_1).f8) ((rd_T45 l0 x18_1).f9) ((rd_T45 l0 x18_1).f10) ((rd_T45 l0 x18_1).f11) = some r) ∧ Aside0 (kq ≤ kj6) ∧ Aside0 (Kd.R k45 45 w' w.heap.size (fun k_ => k_ ≠ gb191) v8 x8_3) ∧ Aside0 (w'.heap[gb189]? = some (.cells #[.int .i64 a1_0, .int .i64 a1_1] 37 (0, 0))) ∧ Aside0 (w'.heap[gb191]? = some (.cells #[.int .i64 ((rd_T45 l0 x18_1).f0), .int .i64 ((rd_T45 l0 x18_1).f1), .int .i64 ((rd_T45 l0 x18_1).f2), .int .i64 ((rd_T45 l0 x18_1).f3), .int .i64 ((rd_T45 l0 x18_1).f4), .int .i64 ((rd_T45 l0 x18_1).f5), .int .i64 ((rd_T45 l0 x18_1).f6), .int .i64 ((rd_T45 l0 x18_1).f7), .int .i64 ((rd_T45 l0 x18_1).f8), .int .i64 ((rd_T45 l0 x18_1).f9), .string ((rd_T45 l0 x18_1).f10), .string ((rd_T45 l0 x18_1).f11)] 45 (0, 0))) ∧ Aside0 (Below w.heap.size w w'))
         case atStart => exact ⟨(([] : List (S45))), (((rd_T45 l0 x18_1).f1)), (by first | rfl | (simp; done) | (simp [*]; done)), H', ⟨Nat.le_refl _⟩, ⟨by first | exact Kd.R_nil _ _ _ _ _ | exact Kd.N_nil _ _ _ _ _ | exact Kd.V_nil _ _ _ _ _ | exact Kd.Q_nil _ _ _ _ _ | exact Kd.S_nil _ _ _ _ _⟩, ⟨by (with_reducible repeat (first | refine blk_drewN ?_ _ | refine blk_drew ?_ | refine blk_alloc ?_ _)); exact BK189.out⟩, ⟨by (with_reducible repeat (first | refine blk_drewN ?_ _ | refine blk_drew ?_ | refine blk_alloc ?_ _)); exact BK191.out⟩, ⟨by repeat (first | (with_reducible first | exact HB.out | apply below_alloc | apply pw_below_drewN | apply below_drew1 | refine below_set ?_ GE189.out | refine below_set ?_ GE191.out) | exact HB.out)⟩⟩
         case round =>
          clear H'
          try clear c1; try clear p1; try clear q1; try clear hx1; try clear p2; try clear c4; try clear c4b0; try clear c5; try clear c5b0; try clear c6; try clear c6b0; try clear p6; try clear c9; try clear c11; try clear c11b0; try clear c11b1; try clear c12; try clear c14; try clear c15; try clear c16; try clear c17; try clear hcz10_0; try clear hcz10_1; try clear hcz10_10; try clear hcz10_11; try clear hcz10_2; try clear hcz10_3; try clear hcz10_4; try clear hcz10_5; try clear hcz10_6; try clear hcz10_7; try clear hcz10_8; try clear hcz10_9; try clear hcz13_0; try clear hcz13_1; try clear hcz13_10; try clear hcz13_11; try clear hcz13_2; try clear hcz13_3; try clear hcz13_4; try clear hcz13_5; try clear hcz13_6; try clear hcz13_7; try clear hcz13_8; try clear hcz13_9; try clear hcz15_0; try clear hcz15_1; try clear hcz15_10; try clear hcz15_11; try clear hcz15_2; try clear hcz15_3; try clear hcz15_4; try clear hcz15_5; try clear hcz15_6; try clear hcz15_7; try clear hcz15_8; try clear hcz15_9; try clear hcz18_0; try clear hcz18_1; try clear hcz18_10; try clear hcz18_11; try clear hcz18_2; try clear hcz18_3; try clear hcz18_4; try clear hcz18_5; try clear hcz18_6; try clear hcz18_7; try clear hcz18_8; try clear hcz18_9; try clear hfz10_0; try clear hfz10_1; try clear hfz10_10; try clear hfz10_11; try clear hfz10_2; try clear hfz10_3; try clear hfz10_4; try clear hfz10_5; try clear hfz10_6; try clear hfz10_7; try clear hfz10_8; try clear hfz10_9; try clear hfz13_0; try clear hfz13_1; try clear hfz13_10; try clear hfz13_11; try clear hfz13_2; try clear hfz13_3; try clear hfz13_4; try clear hfz13_5; try clear hfz13_6; try clear hfz13_7; try clear hfz13_8; try clear hfz13_9; try clear hfz15_0; try clear hfz15_1; try clear hfz15_10; try clear hfz15_11; try clear hfz15_2; try clear hfz15_3; try clear hfz15_4; try clear hfz15_5; try clear hfz15_6; try clear hfz15_7; try clear hfz15_8; try clear hfz15_9; try clear hfz18_0; try clear hfz18_1; try clear hfz18_10; try clear hfz18_11; try clear hfz18_2; try clear hfz18_3; try clear hfz18_4; try clear hfz18_5; try clear hfz18_6; try clear hfz18_7; try clear hfz18_8; try clear hfz18_9; try clear hx190_0; try clear hx190_1; try clear hx190_10; try clear hx190_11; try clear hx190_2; try clear hx190_3; try clear hx190_4; try clear hx190_5; try clear hx190_6; try clear hx190_7; try clear hx190_8; try clear hx190_9; try clear p190; try clear q190
          obtain ⟨x8_3, x9_3, rfl, HA, HK3, HO_8, BK189, BK191, HB⟩ := hrel
          cases gk with
          | zero => exact absurd HA.out (by simp [chanceryref3_HitShape.l1])
          | succ k3 =>
           have H := HA.out
           clear HA
           simp only [chanceryref3_HitShape.l1] at H
           by_cases c19 : x9_3 = 0
           ·rw [if_pos c19] at H
            have c19b0 : (x9_3 == 0) = true := beq_iff_eq.mpr c19
            have c19b1 : (x9_3 != 0) = false := bne_eq_false_iff_eq.mpr c19
            clear c19
            have H' := Aside0.mk H
            clear H
            have hnb20 := NB189_191.out
            have hnc20 := NB191_189.out
            have hcz21_0 : wr.cell? ⟨gb189, 0, none⟩ = some (.int .i64 a1_0) := (blk_cell BK189.out 0).trans rfl
            have hcz21_1 : wr.cell? ⟨gb189, 1, none⟩ = some (.int .i64 a1_1) := (blk_cell BK189.out 1).trans rfl
            have hfz21_0 := blk_frozen BK189.out 0
            have hfz21_1 := blk_frozen BK189.out 1
            go_wp2_with (first | ((with_reducible refine gate_dst (N := 11) rfl ?_); refine box_event ?hg (N := 11) ?hd (cs := #[.int .i64 0, .int .i64 0]) (t := 37) ?hr ?_; (case hd => rfl); (case hg => rfl); (case hr => first | (go_simp; done) | (go_simp; rfl)); intro gb201 hg w22 hbox hb; have n0_ := Aside0.mk (Kd.R_below (by (with_reducible repeat (first | apply Kd.R_alloc | apply Kd.R_drewN | apply Kd.R_drew)); exact HO_8.out) hb); have n1_ := Aside0.mk (blk_below (g := gb189) (o := .cells #[.int .i64 a1_0, .int .i64 a1_1] 37 (0, 0)) (by (with_reducible repeat (first | refine blk_drewN ?_ _ | refine blk_drew ?_ | refine blk_alloc ?_ _)); exact BK189.out) hb); have n2_ := Aside0.mk (blk_below (g := gb191) (o := .cells #[.int .i64 ((rd_T45 l0 x18_1).f0), .int .i64 ((rd_T45 l0 x18_1).f1), .int .i64 ((rd_T45 l0 x18_1).f2), .int .i64 ((rd_T45 l0 x18_1).f3), .int .i64 ((rd_T45 l0 x18_1).f4), .int .i64 ((rd_T45 l0 x18_1).f5), .int .i64 ((rd_T45 l0 x18_1).f6), .int .i64 ((rd_T45 l0 x18_1).f7), .int .i64 ((rd_T45 l0 x18_1).f8), .int .i64 ((rd_T45 l0 x18_1).f9), .string ((rd_T45 l0 x18_1).f10), .string ((rd_T45 l0 x18_1).f11)] 45 (0, 0)) (by (with_reducible repeat (first | refine blk_drewN ?_ _ | refine blk_drew ?_ | refine blk_alloc ?_ _)); exact BK191.out) hb); have n3_ := Aside0.mk (below_step (by repeat (first | (with_reducible first | exact HB.out | apply below_alloc | apply pw_below_drewN | apply below_drew1 | refine below_set ?_ GE189.out | refine below_set ?_ GE191.out) | exact HB.out)) hb); have n4_ := Aside0.mk (hbox); have n5_ := Aside0.mk ((by rw [hg]; exact (below_size (by repeat (first | (with_reducible first | exact HB.out | apply below_alloc | apply pw_below_drewN | apply below_drew1 | refine below_set ?_ GE189.out | refine below_set ?_ GE191.out) | exact HB.out))) : w.heap.size ≤ gb201)); have n6_ := Aside0.mk ((by rw [hg]; exact (below_size (by repeat (first | (with_reducible first | exact HB.out | apply below_alloc | apply pw_below_drewN | apply below_drew1 | refine below_set ?_ GE189.out | refine below_set ?_ GE191.out) | exact HB.out))) : w.heap.size ≤ gb201)); have n7_ := Aside0.mk ((by rw [hg]; exact Nat.ne_of_lt (blk_lt (g := gb189) (o := .cells #[.int .i64 a1_0, .int .i64 a1_1] 37 (0, 0)) (by (with_reducible repeat (first | refine blk_drewN ?_ _ | refine blk_drew ?_ | refine blk_alloc ?_ _)); exact BK189.out)) : gb189 ≠ gb201)); have n8_ := Aside0.mk ((by rw [hg]; exact Nat.ne_of_gt (blk_lt (g := gb189) (o := .cells #[.int .i64 a1_0, .int .i64 a1_1] 37 (0, 0)) (by (with_reducible repeat (first | refine blk_drewN ?_ _ | refine blk_drew ?_ | refine blk_alloc ?_ _)); exact BK189.out)) : gb201 ≠ gb189)); have n9_ := Aside0.mk ((by rw [hg]; exact Nat.ne_of_lt (blk_lt (g := gb191) (o := .cells #[.int .i64 ((rd_T45 l0 x18_1).f0), .int .i64 ((rd_T45 l0 x18_1).f1), .int .i64 ((rd_T45 l0 x18_1).f2), .int .i64 ((rd_T45 l0 x18_1).f3), .int .i64 ((rd_T45 l0 x18_1).f4), .int .i64 ((rd_T45 l0 x18_1).f5), .int .i64 ((rd_T45 l0 x18_1).f6), .int .i64 ((rd_T45 l0 x18_1).f7), .int .i64 ((rd_T45 l0 x18_1).f8), .int .i64 ((rd_T45 l0 x18_1).f9), .string ((rd_T45 l0 x18_1).f10), .string ((rd_T45 l0 x18_1).f11)] 45 (0, 0)) (by (with_reducible repeat (first | refine blk_drewN ?_ _ | refine blk_drew ?_ | refine blk_alloc ?_ _)); exact BK191.out)) : gb191 ≠ gb201)); have n10_ := Aside0.mk ((by rw [hg]; exact Nat.ne_of_gt (blk_lt (g := gb191) (o := .cells #[.int .i64 ((rd_T45 l0 x18_1).f0), .int .i64 ((rd_T45 l0 x18_1).f1), .int .i64 ((rd_T45 l0 x18_1).f2), .int .i64 ((rd_T45 l0 x18_1).f3), .int .i64 ((rd_T45 l0 x18_1).f4), .int .i64 ((rd_T45 l0 x18_1).f5), .int .i64 ((rd_T45 l0 x18_1).f6), .int .i64 ((rd_T45 l0 x18_1).f7), .int .i64 ((rd_T45 l0 x18_1).f8), .int .i64 ((rd_T45 l0 x18_1).f9), .string ((rd_T45 l0 x18_1).f10), .string ((rd_T45 l0 x18_1).f11)] 45 (0, 0)) (by (with_reducible repeat (first | refine blk_drewN ?_ _ | refine blk_drew ?_ | refine blk_alloc ?_ _)); exact BK191.out)) : gb201 ≠ gb191)); clear HO_8; clear BK189; clear BK191; clear HB; have HO_8 := n0_; have BK189 := n1_; have BK191 := n2_; have HB := n3_; have BK201 := n4_; have GW201 := n5_; have GE201 := n6_; have NB189_201 := n7_; have NB201_189 := n8_; have NB191_201 := n9_; have NB201_191 := n10_; clear n0_ n1_ n2_ n3_ n4_ n5_ n6_ n7_ n8_ n9_ n10_; clear hb hbox hg; have hnb23 := NB201_189.out; have hnc23 := NB189_201.out; have hnb24 := NB201_191.out; have hnc24 := NB191_201.out; have hcz25_0 : w22.cell? ⟨gb201, 0, none⟩ = some (.int .i64 0) := (blk_cell BK201.out 0).trans rfl; have hcz25_1 : w22.cell? ⟨gb201, 1, none⟩ = some (.int .i64 0) := (blk_cell BK201.out 1).trans rfl; have hfz25_0 := blk_frozen BK201.out 0; have hfz25_1 := blk_frozen BK201.out 1; obtain ⟨Ao26, co26, eo26⟩ := Kd.R_slice HO_8.out; subst eo26))
            go_loopg [49] k3 (fun kq v49 w' => ∃ (x49_4 : Int) (x202000_4 : Int) (x202001_4 : Int), v49 = .int .i64 x49_4 ∧ Aside0 (chanceryref3_HitShape.l2 kq l0 x5_1 l0 (l0.length : Int) x18_1 x8_3 (x8_3.length : Int) x49_4 a1_0 a1_1 ((rd_T45 l0 x18_1).f0) ((rd_T45 l0 x18_1).f1) ((rd_T45 l0 x18_1).f2) ((rd_T45 l0 x18_1).f3) ((rd_T45 l0 x18_1).f4) ((rd_T45 l0 x18_1).f5) ((rd_T45 l0 x18_1).f6) ((rd_T45 l0 x18_1).f7) ((rd_T45 l0 x18_1).f8) ((rd_T45 l0 x18_1).f9) ((rd_T45 l0 x18_1).f10) ((rd_T45 l0 x18_1).f11) x202000_4 x202001_4 = some r) ∧ Aside0 (kq ≤ k3) ∧ Aside0 (Kd.R k45 45 w' w.heap.size (fun k_ => k_ ≠ gb191) (.slice Ao26 x8_3.length co26) x8_3) ∧ Aside0 (w'.heap[gb189]? = some (.cells #[.int .i64 a1_0, .int .i64 a1_1] 37 (0, 0))) ∧ Aside0 (w'.heap[gb191]? = some (.cells #[.int .i64 ((rd_T45 l0 x18_1).f0), .int .i64 ((rd_T45 l0 x18_1).f1), .int .i64 ((rd_T45 l0 x18_1).f2), .int .i64 ((rd_T45 l0 x18_1).f3), .int .i64 ((rd_T45 l0 x18_1).f4), .int .i64 ((rd_T45 l0 x18_1).f5), .int .i64 ((rd_T45 l0 x18_1).f6), .int .i64 ((rd_T45 l0 x18_1).f7), .int .i64 ((rd_T45 l0 x18_1).f8), .int .i64 ((rd_T45 l0 x18_1).f9), .string ((rd_T45 l0 x18_1).f10), .string ((rd_T45 l0 x18_1).f11)] 45 (0, 0))) ∧ Aside0 (w'.heap[gb201]? = some (.cells #[.int .i64 x202000_4, .int .i64 x202001_4] 37 (0, 0))) ∧ Aside0 (Below w.heap.size w w'))
            case atStart => exact ⟨(0), (a1_0), (a1_1), (by first | rfl | (simp; done) | (simp [*]; done)), H', ⟨Nat.le_refl _⟩, ⟨by (with_reducible repeat (first | apply Kd.R_alloc | apply Kd.R_drewN | apply Kd.R_drew)); exact Kd.R_mono (Kd.R_far (p := ⟨gb201, 1, none⟩) (Kd.R_far (p := ⟨gb201, 0, none⟩) (Kd.R_types HO_8.out BK201.out (by decide)) (fun _ hk => hk.2) (.int .i64 a1_0)) (fun _ hk => hk.2) (.int .i64 a1_1)) (fun _ hk => hk.1)⟩, ⟨by (with_reducible repeat (first | refine blk_drewN ?_ _ | refine blk_drew ?_ | refine blk_alloc ?_ _)); refine blk_far ?_ NB189_201.out _; (with_reducible repeat (first | refine blk_drewN ?_ _ | refine blk_drew ?_ | refine blk_alloc ?_ _)); refine blk_far ?_ NB189_201.out _; (with_reducible repeat (first | refine blk_drewN ?_ _ | refine blk_drew ?_ | refine blk_alloc ?_ _)); exact BK189.out⟩, ⟨by (with_reducible repeat (first | refine blk_drewN ?_ _ | refine blk_drew ?_ | refine blk_alloc ?_ _)); refine blk_far ?_ NB191_201.out _; (with_reducible repeat (first | refine blk_drewN ?_ _ | refine blk_drew ?_ | refine blk_alloc ?_ _)); refine blk_far ?_ NB191_201.out _; (with_reducible repeat (first | refine blk_drewN ?_ _ | refine blk_drew ?_ | refine blk_alloc ?_ _)); exact BK191.out⟩, ⟨by (with_reducible repeat (first | refine blk_drewN ?_ _ | refine blk_drew ?_ | refine blk_alloc ?_ _)); refine blk_put (cs := #[.int .i64 a1_0, .int .i64 0]) ?_ 1 _ rfl; (with_reducible repeat (first | refine blk_drewN ?_ _ | refine blk_drew ?_ | refine blk_alloc ?_ _)); refine blk_put (cs := #[.int .i64 0, .int .i64 0]) ?_ 0 _ rfl; (with_reducible repeat (first | refine blk_drewN ?_ _ | refine blk_drew ?_ | refine blk_alloc ?_ _)); exact BK201.out⟩, ⟨by repeat (first | (with_reducible first | exact HB.out | apply below_alloc | apply pw_below_drewN | apply below_drew1 | refine below_set ?_ GE189.out | refine below_set ?_ GE191.out | refine below_set ?_ GE201.out) | exact HB.out)⟩⟩
            case round =>
             clear H'
             try clear c1; try clear p1; try clear q1; try clear hx1; try clear c2; try clear p2; try clear c4; try clear c4b0; try clear c5; try clear c5b0; try clear c6; try clear c6b0; try clear p6; try clear c9; try clear c11; try clear c11b0; try clear c11b1; try clear c12; try clear c14; try clear c15; try clear c16; try clear c17; try clear c19; try clear c19b0; try clear c19b1; try clear p19; try clear q19; try clear hx19; try clear c20; try clear c23; try clear c24; try clear hcz10_0; try clear hcz10_1; try clear hcz10_10; try clear hcz10_11; try clear hcz10_2; try clear hcz10_3; try clear hcz10_4; try clear hcz10_5; try clear hcz10_6; try clear hcz10_7; try clear hcz10_8; try clear hcz10_9; try clear hcz13_0; try clear hcz13_1; try clear hcz13_10; try clear hcz13_11; try clear hcz13_2; try clear hcz13_3; try clear hcz13_4; try clear hcz13_5; try clear hcz13_6; try clear hcz13_7; try clear hcz13_8; try clear hcz13_9; try clear hcz15_0; try clear hcz15_1; try clear hcz15_10; try clear hcz15_11; try clear hcz15_2; try clear hcz15_3; try clear hcz15_4; try clear hcz15_5; try clear hcz15_6; try clear hcz15_7; try clear hcz15_8; try clear hcz15_9; try clear hcz18_0; try clear hcz18_1; try clear hcz18_10; try clear hcz18_11; try clear hcz18_2; try clear hcz18_3; try clear hcz18_4; try clear hcz18_5; try clear hcz18_6; try clear hcz18_7; try clear hcz18_8; try clear hcz18_9; try clear hcz21_0; try clear hcz21_1; try clear hcz25_0; try clear hcz25_1; try clear hfz10_0; try clear hfz10_1; try clear hfz10_10; try clear hfz10_11; try clear hfz10_2; try clear hfz10_3; try clear hfz10_4; try clear hfz10_5; try clear hfz10_6; try clear hfz10_7; try clear hfz10_8; try clear hfz10_9; try clear hfz13_0; try clear hfz13_1; try clear hfz13_10; try clear hfz13_11; try clear hfz13_2; try clear hfz13_3; try clear hfz13_4; try clear hfz13_5; try clear hfz13_6; try clear hfz13_7; try clear hfz13_8; try clear hfz13_9; try clear hfz15_0; try clear hfz15_1; try clear hfz15_10; try clear hfz15_11; try clear hfz15_2; try clear hfz15_3; try clear hfz15_4; try clear hfz15_5; try clear hfz15_6; try clear hfz15_7; try clear hfz15_8; try clear hfz15_9; try clear hfz18_0; try clear hfz18_1; try clear hfz18_10; try clear hfz18_11; try clear hfz18_2; try clear hfz18_3; try clear hfz18_4; try clear hfz18_5; try clear hfz18_6; try clear hfz18_7; try clear hfz18_8; try clear hfz18_9; try clear hfz21_0; try clear hfz21_1; try clear hfz25_0; try clear hfz25_1; try clear hx190_0; try clear hx190_1; try clear hx190_10; try clear hx190_11; try clear hx190_2; try clear hx190_3; try clear hx190_4; try clear hx190_5; try clear hx190_6; try clear hx190_7; try clear hx190_8; try clear hx190_9; try clear p190; try clear q190
             obtain ⟨x49_4, x202000_4, x202001_4, rfl, HA, HK4, HO_47, BK189, BK191, BK201, HB⟩ := hrel
             cases gk with
             | zero => exact absurd HA.out (by simp [chanceryref3_HitShape.l2])
             | succ k4 =>
              have H := HA.out
              clear HA
              simp only [chanceryref3_HitShape.l2] at H
              by_cases c27 : x49_4 < (x8_3.length : Int)
              ·rw [if_pos c27] at H
               have c27b0 : decide (x49_4 < (x8_3.length : Int)) = true := decide_eq_true c27
               clear c27
               by_cases c28 : 0 ≤ x49_4
               ·rw [if_pos c28] at H
                have c28b0 : decide (0 ≤ x49_4) = true := decide_eq_true c28
                clear c28
                by_cases c29 : x49_4 < (x8_3.length : Int)
                ·rw [if_pos c29] at H
                 have c29b0 : decide (x49_4 < (x8_3.length : Int)) = true := decide_eq_true c29
                 clear c29
                 replace H := Option.bind_eq_some_iff.mp H
                 obtain ⟨⟨t204, t205⟩, A300, H⟩ := H
                 replace H : ((chanceryref3_TurnPoint.f x202000_4 x202001_4 t204 t205 (wrap64 (-((rd_T45 x8_3 x49_4).f7)))).bind fun bt206 => (chanceryref3_HitShape.l2 k4 l0 x5_1 l0 (l0.length : Int) x18_1 x8_3 (x8_3.length : Int) (wrap64 (x49_4 + 1)) a1_0 a1_1 ((rd_T45 l0 x18_1).f0) ((rd_T45 l0 x18_1).f1) ((rd_T45 l0 x18_1).f2) ((rd_T45 l0 x18_1).f3) ((rd_T45 l0 x18_1).f4) ((rd_T45 l0 x18_1).f5) ((rd_T45 l0 x18_1).f6) ((rd_T45 l0 x18_1).f7) ((rd_T45 l0 x18_1).f8) ((rd_T45 l0 x18_1).f9) ((rd_T45 l0 x18_1).f10) ((rd_T45 l0 x18_1).f11) (wrap64 (bt206.1 - ((rd_T45 x8_3 x49_4).f3))) (wrap64 (bt206.2 - ((rd_T45 x8_3 x49_4).f4))))) = some r := H
                 have A30 := Aside0.mk A300
                 clear A300
                 replace H := Option.bind_eq_some_iff.mp H
                 obtain ⟨⟨t206, t207⟩, A310, H⟩ := H
                 replace H : (chanceryref3_HitShape.l2 k4 l0 x5_1 l0 (l0.length : Int) x18_1 x8_3 (x8_3.length : Int) (wrap64 (x49_4 + 1)) a1_0 a1_1 ((rd_T45 l0 x18_1).f0) ((rd_T45 l0 x18_1).f1) ((rd_T45 l0 x18_1).f2) ((rd_T45 l0 x18_1).f3) ((rd_T45 l0 x18_1).f4) ((rd_T45 l0 x18_1).f5) ((rd_T45 l0 x18_1).f6) ((rd_T45 l0 x18_1).f7) ((rd_T45 l0 x18_1).f8) ((rd_T45 l0 x18_1).f9) ((rd_T45 l0 x18_1).f10) ((rd_T45 l0 x18_1).f11) (wrap64 (t206 - ((rd_T45 x8_3 x49_4).f3))) (wrap64 (t207 - ((rd_T45 x8_3 x49_4).f4)))) = some r := H
                 have A31 := Aside0.mk A310
                 clear A310
                 have H' := Aside0.mk H
                 clear H
                 have p202 : 0 ≤ (x49_4 : Int) := of_decide_eq_true (by first | (with_reducible assumption) | assumption)
                 have q202 : x49_4 < (x8_3.length : Int) := of_decide_eq_true (by first | (with_reducible assumption) | assumption)
                 obtain ⟨ad202, e202, hx202_0, hx202_1, hx202_2, hx202_3, hx202_4, hx202_5, hx202_6, hx202_7, hx202_8, hx202_9, hx202_10, hx202_11⟩ := at_T45 (Kd.R_reads' HO_47.out).2.2 x49_4 p202 q202
                 cases e202
                 replace p202 := eq_true p202
                 replace q202 := eq_true q202
                 try go_wp2_with (first | ((with_reducible refine gate_dst (N := 13) rfl ?_); refine box_event ?hg (N := 13) ?hd (cs := #[.int .i64 0, .int .i64 0, .int .i64 0, .int .i64 0, .int .i64 0, .int .i64 0, .int .i64 0, .int .i64 0, .int .i64 0, .int .i64 0, .string (⟨#[]⟩ : ByteArray), .string (⟨#[]⟩ : ByteArray)]) (t := 45) ?hr ?_; (case hd => rfl); (case hg => rfl); (case hr => first | (go_simp; done) | (go_simp; rfl)); intro gb203 hg w32 hbox hb; have n0_ := Aside0.mk (Kd.R_below (Kd.R_elderB (by (with_reducible repeat (first | apply Kd.R_alloc | apply Kd.R_drewN | apply Kd.R_drew)); exact HO_47.out) gb203 (Nat.le_of_eq hg.symm)) hb); have n1_ := Aside0.mk (blk_below (g := gb189) (o := .cells #[.int .i64 a1_0, .int .i64 a1_1] 37 (0, 0)) (by (with_reducible repeat (first | refine blk_drewN ?_ _ | refine blk_drew ?_ | refine blk_alloc ?_ _)); exact BK189.out) hb); have n2_ := Aside0.mk (blk_below (g := gb191) (o := .cells #[.int .i64 ((rd_T45 l0 x18_1).f0), .int .i64 ((rd_T45 l0 x18_1).f1), .int .i64 ((rd_T45 l0 x18_1).f2), .int .i64 ((rd_T45 l0 x18_1).f3), .int .i64 ((rd_T45 l0 x18_1).f4), .int .i64 ((rd_T45 l0 x18_1).f5), .int .i64 ((rd_T45 l0 x18_1).f6), .int .i64 ((rd_T45 l0 x18_1).f7), .int .i64 ((rd_T45 l0 x18_1).f8), .int .i64 ((rd_T45 l0 x18_1).f9), .string ((rd_T45 l0 x18_1).f10), .string ((rd_T45 l0 x18_1).f11)] 45 (0, 0)) (by (with_reducible repeat (first | refine blk_drewN ?_ _ | refine blk_drew ?_ | refine blk_alloc ?_ _)); exact BK191.out) hb); have n3_ := Aside0.mk (blk_below (g := gb201) (o := .cells #[.int .i64 x202000_4, .int .i64 x202001_4] 37 (0, 0)) (by (with_reducible repeat (first | refine blk_drewN ?_ _ | refine blk_drew ?_ | refine blk_alloc ?_ _)); exact BK201.out) hb); have n4_ := Aside0.mk (below_step (by repeat (first | (with_reducible first | exact HB.out | apply below_alloc | apply pw_below_drewN | apply below_drew1 | refine below_set ?_ GE189.out | refine below_set ?_ GE191.out | refine below_set ?_ GE201.out) | exact HB.out)) hb); have n5_ := Aside0.mk (hbox); have n6_ := Aside0.mk ((by rw [hg]; exact (below_size (by repeat (first | (with_reducible first | exact HB.out | apply below_alloc | apply pw_below_drewN | apply below_drew1 | refine below_set ?_ GE189.out | refine below_set ?_ GE191.out | refine below_set ?_ GE201.out) | exact HB.out))) : w.heap.size ≤ gb203)); have n7_ := Aside0.mk ((by rw [hg]; exact (below_size (by repeat (first | (with_reducible first | exact HB.out | apply below_alloc | apply pw_below_drewN | apply below_drew1 | refine below_set ?_ GE189.out | refine below_set ?_ GE191.out | refine below_set ?_ GE201.out) | exact HB.out))) : w.heap.size ≤ gb203)); have n8_ := Aside0.mk ((by rw [hg]; exact Nat.ne_of_lt (blk_lt (g := gb189) (o := .cells #[.int .i64 a1_0, .int .i64 a1_1] 37 (0, 0)) (by (with_reducible repeat (first | refine blk_drewN ?_ _ | refine blk_drew ?_ | refine blk_alloc ?_ _)); exact BK189.out)) : gb189 ≠ gb203)); have n9_ := Aside0.mk ((by rw [hg]; exact Nat.ne_of_gt (blk_lt (g := gb189) (o := .cells #[.int .i64 a1_0, .int .i64 a1_1] 37 (0, 0)) (by (with_reducible repeat (first | refine blk_drewN ?_ _ | refine blk_drew ?_ | refine blk_alloc ?_ _)); exact BK189.out)) : gb203 ≠ gb189)); have n10_ := Aside0.mk ((by rw [hg]; exact Nat.ne_of_lt (blk_lt (g := gb191) (o := .cells #[.int .i64 ((rd_T45 l0 x18_1).f0), .int .i64 ((rd_T45 l0 x18_1).f1), .int .i64 ((rd_T45 l0 x18_1).f2), .int .i64 ((rd_T45 l0 x18_1).f3), .int .i64 ((rd_T45 l0 x18_1).f4), .int .i64 ((rd_T45 l0 x18_1).f5), .int .i64 ((rd_T45 l0 x18_1).f6), .int .i64 ((rd_T45 l0 x18_1).f7), .int .i64 ((rd_T45 l0 x18_1).f8), .int .i64 ((rd_T45 l0 x18_1).f9), .string ((rd_T45 l0 x18_1).f10), .string ((rd_T45 l0 x18_1).f11)] 45 (0, 0)) (by (with_reducible repeat (first | refine blk_drewN ?_ _ | refine blk_drew ?_ | refine blk_alloc ?_ _)); exact BK191.out)) : gb191 ≠ gb203)); have n11_ := Aside0.mk ((by rw [hg]; exact Nat.ne_of_gt (blk_lt (g := gb191) (o := .cells #[.int .i64 ((rd_T45 l0 x18_1).f0), .int .i64 ((rd_T45 l0 x18_1).f1), .int .i64 ((rd_T45 l0 x18_1).f2), .int .i64 ((rd_T45 l0 x18_1).f3), .int .i64 ((rd_T45 l0 x18_1).f4), .int .i64 ((rd_T45 l0 x18_1).f5), .int .i64 ((rd_T45 l0 x18_1).f6), .int .i64 ((rd_T45 l0 x18_1).f7), .int .i64 ((rd_T45 l0 x18_1).f8), .int .i64 ((rd_T45 l0 x18_1).f9), .string ((rd_T45 l0 x18_1).f10), .string ((rd_T45 l0 x18_1).f11)] 45 (0, 0)) (by (with_reducible repeat (first | refine blk_drewN ?_ _ | refine blk_drew ?_ | refine blk_alloc ?_ _)); exact BK191.out)) : gb203 ≠ gb191)); have n12_ := Aside0.mk ((by rw [hg]; exact Nat.ne_of_lt (blk_lt (g := gb201) (o := .cells #[.int .i64 x202000_4, .int .i64 x202001_4] 37 (0, 0)) (by (with_reducible repeat (first | refine blk_drewN ?_ _ | refine blk_drew ?_ | refine blk_alloc ?_ _)); exact BK201.out)) : gb201 ≠ gb203)); have n13_ := Aside0.mk ((by rw [hg]; exact Nat.ne_of_gt (blk_lt (g := gb201) (o := .cells #[.int .i64 x202000_4, .int .i64 x202001_4] 37 (0, 0)) (by (with_reducible repeat (first | refine blk_drewN ?_ _ | refine blk_drew ?_ | refine blk_alloc ?_ _)); exact BK201.out)) : gb203 ≠ gb201)); clear HO_47; clear BK189; clear BK191; clear BK201; clear HB; have HO_47 := n0_; have BK189 := n1_; have BK191 := n2_; have BK201 := n3_; have HB := n4_; have BK203 := n5_; have GW203 := n6_; have GE203 := n7_; have NB189_203 := n8_; have NB203_189 := n9_; have NB191_203 := n10_; have NB203_191 := n11_; have NB201_203 := n12_; have NB203_201 := n13_; clear n0_ n1_ n2_ n3_ n4_ n5_ n6_ n7_ n8_ n9_ n10_ n11_ n12_ n13_; clear hb hbox hg; have hnb33 := NB203_189.out; have hnc33 := NB189_203.out; have hnb34 := NB203_191.out; have hnc34 := NB191_203.out; have hnb35 := NB203_201.out; have hnc35 := NB201_203.out; obtain ⟨hcz36_0, hcz36_1, hcz36_2, hcz36_3, hcz36_4, hcz36_5, hcz36_6, hcz36_7, hcz36_8, hcz36_9, hcz36_10, hcz36_11⟩ := cells12 BK203.out; have hfz36_ := fun j => blk_frozen BK203.out j))
                 have n0_ : Aside0 (Kd.R k45 45 ((((((((((((w32.setCell ⟨gb203, 0, none⟩ (.int .i64 ((rd_T45 x8_3 x49_4).f0))).setCell ⟨gb203, 1, none⟩ (.int .i64 ((rd_T45 x8_3 x49_4).f1))).setCell ⟨gb203, 2, none⟩ (.int .i64 ((rd_T45 x8_3 x49_4).f2))).setCell ⟨gb203, 3, none⟩ (.int .i64 ((rd_T45 x8_3 x49_4).f3))).setCell ⟨gb203, 4, none⟩ (.int .i64 ((rd_T45 x8_3 x49_4).f4))).setCell ⟨gb203, 5, none⟩ (.int .i64 ((rd_T45 x8_3 x49_4).f5))).setCell ⟨gb203, 6, none⟩ (.int .i64 ((rd_T45 x8_3 x49_4).f6))).setCell ⟨gb203, 7, none⟩ (.int .i64 ((rd_T45 x8_3 x49_4).f7))).setCell ⟨gb203, 8, none⟩ (.int .i64 ((rd_T45 x8_3 x49_4).f8))).setCell ⟨gb203, 9, none⟩ (.int .i64 ((rd_T45 x8_3 x49_4).f9))).setCell ⟨gb203, 10, none⟩ (.string ((rd_T45 x8_3 x49_4).f10))).setCell ⟨gb203, 11, none⟩ (.string ((rd_T45 x8_3 x49_4).f11))) w.heap.size (fun k_ => k_ ≠ gb191 ∧ k_ ≠ gb203) (.slice (some ad202) x8_3.length co26) x8_3) := ⟨by (with_reducible repeat (first | apply Kd.R_alloc | apply Kd.R_drewN | apply Kd.R_drew)); exact Kd.R_mono (Kd.R_far (p := ⟨gb203, 11, none⟩) (Kd.R_far (p := ⟨gb203, 10, none⟩) (Kd.R_far (p := ⟨gb203, 9, none⟩) (Kd.R_far (p := ⟨gb203, 8, none⟩) (Kd.R_far (p := ⟨gb203, 7, none⟩) (Kd.R_far (p := ⟨gb203, 6, none⟩) (Kd.R_far (p := ⟨gb203, 5, none⟩) (Kd.R_far (p := ⟨gb203, 4, none⟩) (Kd.R_far (p := ⟨gb203, 3, none⟩) (Kd.R_far (p := ⟨gb203, 2, none⟩) (Kd.R_far (p := ⟨gb203, 1, none⟩) (Kd.R_far (p := ⟨gb203, 0, none⟩) (Kd.R_mono HO_47.out (fun k_ hk => (⟨hk, hk.2⟩ : _ ∧ k_ ≠ gb203))) (fun _ hk => hk.2) (.int .i64 ((rd_T45 x8_3 x49_4).f0))) (fun _ hk => hk.2) (.int .i64 ((rd_T45 x8_3 x49_4).f1))) (fun _ hk => hk.2) (.int .i64 ((rd_T45 x8_3 x49_4).f2))) (fun _ hk => hk.2) (.int .i64 ((rd_T45 x8_3 x49_4).f3))) (fun _ hk => hk.2) (.int .i64 ((rd_T45 x8_3 x49_4).f4))) (fun _ hk => hk.2) (.int .i64 ((rd_T45 x8_3 x49_4).f5))) (fun _ hk => hk.2) (.int .i64 ((rd_T45 x8_3 x49_4).f6))) (fun _ hk => hk.2) (.int .i64 ((rd_T45 x8_3 x49_4).f7))) (fun _ hk => hk.2) (.int .i64 ((rd_T45 x8_3 x49_4).f8))) (fun _ hk => hk.2) (.int .i64 ((rd_T45 x8_3 x49_4).f9))) (fun _ hk => hk.2) (.string ((rd_T45 x8_3 x49_4).f10))) (fun _ hk => hk.2) (.string ((rd_T45 x8_3 x49_4).f11))) (fun _ hk => ⟨hk.1.1, hk.1.2⟩)⟩
                 have n1_ : Aside0 (((((((((((((w32.setCell ⟨gb203, 0, none⟩ (.int .i64 ((rd_T45 x8_3 x49_4).f0))).setCell ⟨gb203, 1, none⟩ (.int .i64 ((rd_T45 x8_3 x49_4).f1))).setCell ⟨gb203, 2, none⟩ (.int .i64 ((rd_T45 x8_3 x49_4).f2))).setCell ⟨gb203, 3, none⟩ (.int .i64 ((rd_T45 x8_3 x49_4).f3))).setCell ⟨gb203, 4, none⟩ (.int .i64 ((rd_T45 x8_3 x49_4).f4))).setCell ⟨gb203, 5, none⟩ (.int .i64 ((rd_T45 x8_3 x49_4).f5))).setCell ⟨gb203, 6, none⟩ (.int .i64 ((rd_T45 x8_3 x49_4).f6))).setCell ⟨gb203, 7, none⟩ (.int .i64 ((rd_T45 x8_3 x49_4).f7))).setCell ⟨gb203, 8, none⟩ (.int .i64 ((rd_T45 x8_3 x49_4).f8))).setCell ⟨gb203, 9, none⟩ (.int .i64 ((rd_T45 x8_3 x49_4).f9))).setCell ⟨gb203, 10, none⟩ (.string ((rd_T45 x8_3 x49_4).f10))).setCell ⟨gb203, 11, none⟩ (.string ((rd_T45 x8_3 x49_4).f11))).heap[gb189]? = some (.cells #[.int .i64 a1_0, .int .i64 a1_1] 37 (0, 0))) := ⟨by (with_reducible repeat (first | refine blk_drewN ?_ _ | refine blk_drew ?_ | refine blk_alloc ?_ _)); refine blk_far ?_ NB189_203.out _; (with_reducible repeat (first | refine blk_drewN ?_ _ | refine blk_drew ?_ | refine blk_alloc ?_ _)); refine blk_far ?_ NB189_203.out _; (with_reducible repeat (first | refine blk_drewN ?_ _ | refine blk_drew ?_ | refine blk_alloc ?_ _)); refine blk_far ?_ NB189_203.out _; (with_reducible repeat (first | refine blk_drewN ?_ _ | refine blk_drew ?_ | refine blk_alloc ?_ _)); refine blk_far ?_ NB189_203.out _; (with_reducible repeat (first | refine blk_drewN ?_ _ | refine blk_drew ?_ | refine blk_alloc ?_ _)); refine blk_far ?_ NB189_203.out _; (with_reducible repeat (first | refine blk_drewN ?_ _ | refine blk_drew ?_ | refine blk_alloc ?_ _)); refine blk_far ?_ NB189_203.out _; (with_reducible repeat (first | refine blk_drewN ?_ _ | refine blk_drew ?_ | refine blk_alloc ?_ _)); refine blk_far ?_ NB189_203.out _; (with_reducible repeat (first | refine blk_drewN ?_ _ | refine blk_drew ?_ | refine blk_alloc ?_ _)); refine blk_far ?_ NB189_203.out _; (with_reducible repeat (first | refine blk_drewN ?_ _ | refine blk_drew ?_ | refine blk_alloc ?_ _)); refine blk_far ?_ NB189_203.out _; (with_reducible repeat (first | refine blk_drewN ?_ _ | refine blk_drew ?_ | refine blk_alloc ?_ _)); refine blk_far ?_ NB189_203.out _; (with_reducible repeat (first | refine blk_drewN ?_ _ | refine blk_drew ?_ | refine blk_alloc ?_ _)); refine blk_far ?_ NB189_203.out _; (with_reducible repeat (first | refine blk_drewN ?_ _ | refine blk_drew ?_ | refine blk_alloc ?_ _)); refine blk_far ?_ NB189_203.out _; (with_reducible repeat (first | refine blk_drewN ?_ _ | refine blk_drew ?_ | refine blk_alloc ?_ _)); exact BK189.out⟩
                 have n2_ : Aside0 (((((((((((((w32.setCell ⟨gb203, 0, none⟩ (.int .i64 ((rd_T45 x8_3 x49_4).f0))).setCell ⟨gb203, 1, none⟩ (.int .i64 ((rd_T45 x8_3 x49_4).f1))).setCell ⟨gb203, 2, none⟩ (.int .i64 ((rd_T45 x8_3 x49_4).f2))).setCell ⟨gb203, 3, none⟩ (.int .i64 ((rd_T45 x8_3 x49_4).f3))).setCell ⟨gb203, 4, none⟩ (.int .i64 ((rd_T45 x8_3 x49_4).f4))).setCell ⟨gb203, 5, none⟩ (.int .i64 ((rd_T45 x8_3 x49_4).f5))).setCell ⟨gb203, 6, none⟩ (.int .i64 ((rd_T45 x8_3 x49_4).f6))).setCell ⟨gb203, 7, none⟩ (.int .i64 ((rd_T45 x8_3 x49_4).f7))).setCell ⟨gb203, 8, none⟩ (.int .i64 ((rd_T45 x8_3 x49_4).f8))).setCell ⟨gb203, 9, none⟩ (.int .i64 ((rd_T45 x8_3 x49_4).f9))).setCell ⟨gb203, 10, none⟩ (.string ((rd_T45 x8_3 x49_4).f10))).setCell ⟨gb203, 11, none⟩ (.string ((rd_T45 x8_3 x49_4).f11))).heap[gb191]? = some (.cells #[.int .i64 ((rd_T45 l0 x18_1).f0), .int .i64 ((rd_T45 l0 x18_1).f1), .int .i64 ((rd_T45 l0 x18_1).f2), .int .i64 ((rd_T45 l0 x18_1).f3), .int .i64 ((rd_T45 l0 x18_1).f4), .int .i64 ((rd_T45 l0 x18_1).f5), .int .i64 ((rd_T45 l0 x18_1).f6), .int .i64 ((rd_T45 l0 x18_1).f7), .int .i64 ((rd_T45 l0 x18_1).f8), .int .i64 ((rd_T45 l0 x18_1).f9), .string ((rd_T45 l0 x18_1).f10), .string ((rd_T45 l0 x18_1).f11)] 45 (0, 0))) := ⟨by (with_reducible repeat (first | refine blk_drewN ?_ _ | refine blk_drew ?_ | refine blk_alloc ?_ _)); refine blk_far ?_ NB191_203.out _; (with_reducible repeat (first | refine blk_drewN ?_ _ | refine blk_drew ?_ | refine blk_alloc ?_ _)); refine blk_far ?_ NB191_203.out _; (with_reducible repeat (first | refine blk_drewN ?_ _ | refine blk_drew ?_ | refine blk_alloc ?_ _)); refine blk_far ?_ NB191_203.out _; (with_reducible repeat (first | refine blk_drewN ?_ _ | refine blk_drew ?_ | refine blk_alloc ?_ _)); refine blk_far ?_ NB191_203.out _; (with_reducible repeat (first | refine blk_drewN ?_ _ | refine blk_drew ?_ | refine blk_alloc ?_ _)); refine blk_far ?_ NB191_203.out _; (with_reducible repeat (first | refine blk_drewN ?_ _ | refine blk_drew ?_ | refine blk_alloc ?_ _)); refine blk_far ?_ NB191_203.out _; (with_reducible repeat (first | refine blk_drewN ?_ _ | refine blk_drew ?_ | refine blk_alloc ?_ _)); refine blk_far ?_ NB191_203.out _; (with_reducible repeat (first | refine blk_drewN ?_ _ | refine blk_drew ?_ | refine blk_alloc ?_ _)); refine blk_far ?_ NB191_203.out _; (with_reducible repeat (first | refine blk_drewN ?_ _ | refine blk_drew ?_ | refine blk_alloc ?_ _)); refine blk_far ?_ NB191_203.out _; (with_reducible repeat (first | refine blk_drewN ?_ _ | refine blk_drew ?_ | refine blk_alloc ?_ _)); refine blk_far ?_ NB191_203.out _; (with_reducible repeat (first | refine blk_drewN ?_ _ | refine blk_drew ?_ | refine blk_alloc ?_ _)); refine blk_far ?_ NB191_203.out _; (with_reducible repeat (first | refine blk_drewN ?_ _ | refine blk_drew ?_ | refine blk_alloc ?_ _)); refine blk_far ?_ NB191_203.out _; (with_reducible repeat (first | refine blk_drewN ?_ _ | refine blk_drew ?_ | refine blk_alloc ?_ _)); exact BK191.out⟩
                 have n3_ : Aside0 (((((((((((((w32.setCell ⟨gb203, 0, none⟩ (.int .i64 ((rd_T45 x8_3 x49_4).f0))).setCell ⟨gb203, 1, none⟩ (.int .i64 ((rd_T45 x8_3 x49_4).f1))).setCell ⟨gb203, 2, none⟩ (.int .i64 ((rd_T45 x8_3 x49_4).f2))).setCell ⟨gb203, 3, none⟩ (.int .i64 ((rd_T45 x8_3 x49_4).f3))).setCell ⟨gb203, 4, none⟩ (.int .i64 ((rd_T45 x8_3 x49_4).f4))).setCell ⟨gb203, 5, none⟩ (.int .i64 ((rd_T45 x8_3 x49_4).f5))).setCell ⟨gb203, 6, none⟩ (.int .i64 ((rd_T45 x8_3 x49_4).f6))).setCell ⟨gb203, 7, none⟩ (.int .i64 ((rd_T45 x8_3 x49_4).f7))).setCell ⟨gb203, 8, none⟩ (.int .i64 ((rd_T45 x8_3 x49_4).f8))).setCell ⟨gb203, 9, none⟩ (.int .i64 ((rd_T45 x8_3 x49_4).f9))).setCell ⟨gb203, 10, none⟩ (.string ((rd_T45 x8_3 x49_4).f10))).setCell ⟨gb203, 11, none⟩ (.string ((rd_T45 x8_3 x49_4).f11))).heap[gb201]? = some (.cells #[.int .i64 x202000_4, .int .i64 x202001_4] 37 (0, 0))) := ⟨by (with_reducible repeat (first | refine blk_drewN ?_ _ | refine blk_drew ?_ | refine blk_alloc ?_ _)); refine blk_far ?_ NB201_203.out _; (with_reducible repeat (first | refine blk_drewN ?_ _ | refine blk_drew ?_ | refine blk_alloc ?_ _)); refine blk_far ?_ NB201_203.out _; (with_reducible repeat (first | refine blk_drewN ?_ _ | refine blk_drew ?_ | refine blk_alloc ?_ _)); refine blk_far ?_ NB201_203.out _; (with_reducible repeat (first | refine blk_drewN ?_ _ | refine blk_drew ?_ | refine blk_alloc ?_ _)); refine blk_far ?_ NB201_203.out _; (with_reducible repeat (first | refine blk_drewN ?_ _ | refine blk_drew ?_ | refine blk_alloc ?_ _)); refine blk_far ?_ NB201_203.out _; (with_reducible repeat (first | refine blk_drewN ?_ _ | refine blk_drew ?_ | refine blk_alloc ?_ _)); refine blk_far ?_ NB201_203.out _; (with_reducible repeat (first | refine blk_drewN ?_ _ | refine blk_drew ?_ | refine blk_alloc ?_ _)); refine blk_far ?_ NB201_203.out _; (with_reducible repeat (first | refine blk_drewN ?_ _ | refine blk_drew ?_ | refine blk_alloc ?_ _)); refine blk_far ?_ NB201_203.out _; (with_reducible repeat (first | refine blk_drewN ?_ _ | refine blk_drew ?_ | refine blk_alloc ?_ _)); refine blk_far ?_ NB201_203.out _; (with_reducible repeat (first | refine blk_drewN ?_ _ | refine blk_drew ?_ | refine blk_alloc ?_ _)); refine blk_far ?_ NB201_203.out _; (with_reducible repeat (first | refine blk_drewN ?_ _ | refine blk_drew ?_ | refine blk_alloc ?_ _)); refine blk_far ?_ NB201_203.out _; (with_reducible repeat (first | refine blk_drewN ?_ _ | refine blk_drew ?_ | refine blk_alloc ?_ _)); refine blk_far ?_ NB201_203.out _; (with_reducible repeat (first | refine blk_drewN ?_ _ | refine blk_drew ?_ | refine blk_alloc ?_ _)); exact BK201.out⟩
                 have n4_ : Aside0 (((((((((((((w32.setCell ⟨gb203, 0, none⟩ (.int .i64 ((rd_T45 x8_3 x49_4).f0))).setCell ⟨gb203, 1, none⟩ (.int .i64 ((rd_T45 x8_3 x49_4).f1))).setCell ⟨gb203, 2, none⟩ (.int .i64 ((rd_T45 x8_3 x49_4).f2))).setCell ⟨gb203, 3, none⟩ (.int .i64 ((rd_T45 x8_3 x49_4).f3))).setCell ⟨gb203, 4, none⟩ (.int .i64 ((rd_T45 x8_3 x49_4).f4))).setCell ⟨gb203, 5, none⟩ (.int .i64 ((rd_T45 x8_3 x49_4).f5))).setCell ⟨gb203, 6, none⟩ (.int .i64 ((rd_T45 x8_3 x49_4).f6))).setCell ⟨gb203, 7, none⟩ (.int .i64 ((rd_T45 x8_3 x49_4).f7))).setCell ⟨gb203, 8, none⟩ (.int .i64 ((rd_T45 x8_3 x49_4).f8))).setCell ⟨gb203, 9, none⟩ (.int .i64 ((rd_T45 x8_3 x49_4).f9))).setCell ⟨gb203, 10, none⟩ (.string ((rd_T45 x8_3 x49_4).f10))).setCell ⟨gb203, 11, none⟩ (.string ((rd_T45 x8_3 x49_4).f11))).heap[gb203]? = some (.cells #[.int .i64 ((rd_T45 x8_3 x49_4).f0), .int .i64 ((rd_T45 x8_3 x49_4).f1), .int .i64 ((rd_T45 x8_3 x49_4).f2), .int .i64 ((rd_T45 x8_3 x49_4).f3), .int .i64 ((rd_T45 x8_3 x49_4).f4), .int .i64 ((rd_T45 x8_3 x49_4).f5), .int .i64 ((rd_T45 x8_3 x49_4).f6), .int .i64 ((rd_T45 x8_3 x49_4).f7), .int .i64 ((rd_T45 x8_3 x49_4).f8), .int .i64 ((rd_T45 x8_3 x49_4).f9), .string ((rd_T45 x8_3 x49_4).f10), .string ((rd_T45 x8_3 x49_4).f11)] 45 (0, 0))) := ⟨by (with_reducible repeat (first | refine blk_drewN ?_ _ | refine blk_drew ?_ | refine blk_alloc ?_ _)); refine blk_put (cs := #[.int .i64 ((rd_T45 x8_3 x49_4).f0), .int .i64 ((rd_T45 x8_3 x49_4).f1), .int .i64 ((rd_T45 x8_3 x49_4).f2), .int .i64 ((rd_T45 x8_3 x49_4).f3), .int .i64 ((rd_T45 x8_3 x49_4).f4), .int .i64 ((rd_T45 x8_3 x49_4).f5), .int .i64 ((rd_T45 x8_3 x49_4).f6), .int .i64 ((rd_T45 x8_3 x49_4).f7), .int .i64 ((rd_T45 x8_3 x49_4).f8), .int .i64 ((rd_T45 x8_3 x49_4).f9), .string ((rd_T45 x8_3 x49_4).f10), .string (⟨#[]⟩ : ByteArray)]) ?_ 11 _ rfl; (with_reducible repeat (first | refine blk_drewN ?_ _ | refine blk_drew ?_ | refine blk_alloc ?_ _)); refine blk_put (cs := #[.int .i64 ((rd_T45 x8_3 x49_4).f0), .int .i64 ((rd_T45 x8_3 x49_4).f1), .int .i64 ((rd_T45 x8_3 x49_4).f2), .int .i64 ((rd_T45 x8_3 x49_4).f3), .int .i64 ((rd_T45 x8_3 x49_4).f4), .int .i64 ((rd_T45 x8_3 x49_4).f5), .int .i64 ((rd_T45 x8_3 x49_4).f6), .int .i64 ((rd_T45 x8_3 x49_4).f7), .int .i64 ((rd_T45 x8_3 x49_4).f8), .int .i64 ((rd_T45 x8_3 x49_4).f9), .string (⟨#[]⟩ : ByteArray), .string (⟨#[]⟩ : ByteArray)]) ?_ 10 _ rfl; (with_reducible repeat (first | refine blk_drewN ?_ _ | refine blk_drew ?_ | refine blk_alloc ?_ _)); refine blk_put (cs := #[.int .i64 ((rd_T45 x8_3 x49_4).f0), .int .i64 ((rd_T45 x8_3 x49_4).f1), .int .i64 ((rd_T45 x8_3 x49_4).f2), .int .i64 ((rd_T45 x8_3 x49_4).f3), .int .i64 ((rd_T45 x8_3 x49_4).f4), .int .i64 ((rd_T45 x8_3 x49_4).f5), .int .i64 ((rd_T45 x8_3 x49_4).f6), .int .i64 ((rd_T45 x8_3 x49_4).f7), .int .i64 ((rd_T45 x8_3 x49_4).f8), .int .i64 0, .string (⟨#[]⟩ : ByteArray), .string (⟨#[]⟩ : ByteArray)]) ?_ 9 _ rfl; (with_reducible repeat (first | refine blk_drewN ?_ _ | refine blk_drew ?_ | refine blk_alloc ?_ _)); refine blk_put (cs := #[.int .i64 ((rd_T45 x8_3 x49_4).f0), .int .i64 ((rd_T45 x8_3 x49_4).f1), .int .i64 ((rd_T45 x8_3 x49_4).f2), .int .i64 ((rd_T45 x8_3 x49_4).f3), .int .i64 ((rd_T45 x8_3 x49_4).f4), .int .i64 ((rd_T45 x8_3 x49_4).f5), .int .i64 ((rd_T45 x8_3 x49_4).f6), .int .i64 ((rd_T45 x8_3 x49_4).f7), .int .i64 0, .int .i64 0, .string (⟨#[]⟩ : ByteArray), .string (⟨#[]⟩ : ByteArray)]) ?_ 8 _ rfl; (with_reducible repeat (first | refine blk_drewN ?_ _ | refine blk_drew ?_ | refine blk_alloc ?_ _)); refine blk_put (cs := #[.int .i64 ((rd_T45 x8_3 x49_4).f0), .int .i64 ((rd_T45 x8_3 x49_4).f1), .int .i64 ((rd_T45 x8_3 x49_4).f2), .int .i64 ((rd_T45 x8_3 x49_4).f3), .int .i64 ((rd_T45 x8_3 x49_4).f4), .int .i64 ((rd_T45 x8_3 x49_4).f5), .int .i64 ((rd_T45 x8_3 x49_4).f6), .int .i64 0, .int .i64 0, .int .i64 0, .string (⟨#[]⟩ : ByteArray), .string (⟨#[]⟩ : ByteArray)]) ?_ 7 _ rfl; (with_reducible repeat (first | refine blk_drewN ?_ _ | refine blk_drew ?_ | refine blk_alloc ?_ _)); refine blk_put (cs := #[.int .i64 ((rd_T45 x8_3 x49_4).f0), .int .i64 ((rd_T45 x8_3 x49_4).f1), .int .i64 ((rd_T45 x8_3 x49_4).f2), .int .i64 ((rd_T45 x8_3 x49_4).f3), .int .i64 ((rd_T45 x8_3 x49_4).f4), .int .i64 ((rd_T45 x8_3 x49_4).f5), .int .i64 0, .int .i64 0, .int .i64 0, .int .i64 0, .string (⟨#[]⟩ : ByteArray), .string (⟨#[]⟩ : ByteArray)]) ?_ 6 _ rfl; (with_reducible repeat (first | refine blk_drewN ?_ _ | refine blk_drew ?_ | refine blk_alloc ?_ _)); refine blk_put (cs := #[.int .i64 ((rd_T45 x8_3 x49_4).f0), .int .i64 ((rd_T45 x8_3 x49_4).f1), .int .i64 ((rd_T45 x8_3 x49_4).f2), .int .i64 ((rd_T45 x8_3 x49_4).f3), .int .i64 ((rd_T45 x8_3 x49_4).f4), .int .i64 0, .int .i64 0, .int .i64 0, .int .i64 0, .int .i64 0, .string (⟨#[]⟩ : ByteArray), .string (⟨#[]⟩ : ByteArray)]) ?_ 5 _ rfl; (with_reducible repeat (first | refine blk_drewN ?_ _ | refine blk_drew ?_ | refine blk_alloc ?_ _)); refine blk_put (cs := #[.int .i64 ((rd_T45 x8_3 x49_4).f0), .int .i64 ((rd_T45 x8_3 x49_4).f1), .int .i64 ((rd_T45 x8_3 x49_4).f2), .int .i64 ((rd_T45 x8_3 x49_4).f3), .int .i64 0, .int .i64 0, .int .i64 0, .int .i64 0, .int .i64 0, .int .i64 0, .string (⟨#[]⟩ : ByteArray), .string (⟨#[]⟩ : ByteArray)]) ?_ 4 _ rfl; (with_reducible repeat (first | refine blk_drewN ?_ _ | refine blk_drew ?_ | refine blk_alloc ?_ _)); refine blk_put (cs := #[.int .i64 ((rd_T45 x8_3 x49_4).f0), .int .i64 ((rd_T45 x8_3 x49_4).f1), .int .i64 ((rd_T45 x8_3 x49_4).f2), .int .i64 0, .int .i64 0, .int .i64 0, .int .i64 0, .int .i64 0, .int .i64 0, .int .i64 0, .string (⟨#[]⟩ : ByteArray), .string (⟨#[]⟩ : ByteArray)]) ?_ 3 _ rfl; (with_reducible repeat (first | refine blk_drewN ?_ _ | refine blk_drew ?_ | refine blk_alloc ?_ _)); refine blk_put (cs := #[.int .i64 ((rd_T45 x8_3 x49_4).f0), .int .i64 ((rd_T45 x8_3 x49_4).f1), .int .i64 0, .int .i64 0, .int .i64 0, .int .i64 0, .int .i64 0, .int .i64 0, .int .i64 0, .int .i64 0, .string (⟨#[]⟩ : ByteArray), .string (⟨#[]⟩ : ByteArray)]) ?_ 2 _ rfl; (with_reducible repeat (first | refine blk_drewN ?_ _ | refine blk_drew ?_ | refine blk_alloc ?_ _)); refine blk_put (cs := #[.int .i64 ((rd_T45 x8_3 x49_4).f0), .int .i64 0, .int .i64 0, .int .i64 0, .int .i64 0, .int .i64 0, .int .i64 0, .int .i64 0, .int .i64 0, .int .i64 0, .string (⟨#[]⟩ : ByteArray), .string (⟨#[]⟩ : ByteArray)]) ?_ 1 _ rfl; (with_reducible repeat (first | refine blk_drewN ?_ _ | refine blk_drew ?_ | refine blk_alloc ?_ _)); refine blk_put (cs := #[.int .i64 0, .int .i64 0, .int .i64 0, .int .i64 0, .int .i64 0, .int .i64 0, .int .i64 0, .int .i64 0, .int .i64 0, .int .i64 0, .string (⟨#[]⟩ : ByteArray), .string (⟨#[]⟩ : ByteArray)]) ?_ 0 _ rfl; (with_reducible repeat (first | refine blk_drewN ?_ _ | refine blk_drew ?_ | refine blk_alloc ?_ _)); exact BK203.out⟩
                 have n5_ : Aside0 (Below w.heap.size w ((((((((((((w32.setCell ⟨gb203, 0, none⟩ (.int .i64 ((rd_T45 x8_3 x49_4).f0))).setCell ⟨gb203, 1, none⟩ (.int .i64 ((rd_T45 x8_3 x49_4).f1))).setCell ⟨gb203, 2, none⟩ (.int .i64 ((rd_T45 x8_3 x49_4).f2))).setCell ⟨gb203, 3, none⟩ (.int .i64 ((rd_T45 x8_3 x49_4).f3))).setCell ⟨gb203, 4, none⟩ (.int .i64 ((rd_T45 x8_3 x49_4).f4))).setCell ⟨gb203, 5, none⟩ (.int .i64 ((rd_T45 x8_3 x49_4).f5))).setCell ⟨gb203, 6, none⟩ (.int .i64 ((rd_T45 x8_3 x49_4).f6))).setCell ⟨gb203, 7, none⟩ (.int .i64 ((rd_T45 x8_3 x49_4).f7))).setCell ⟨gb203, 8, none⟩ (.int .i64 ((rd_T45 x8_3 x49_4).f8))).setCell ⟨gb203, 9, none⟩ (.int .i64 ((rd_T45 x8_3 x49_4).f9))).setCell ⟨gb203, 10, none⟩ (.string ((rd_T45 x8_3 x49_4).f10))).setCell ⟨gb203, 11, none⟩ (.string ((rd_T45 x8_3 x49_4).f11)))) := ⟨by repeat (first | (with_reducible first | exact HB.out | apply below_alloc | apply pw_below_drewN | apply below_drew1 | refine below_set ?_ GE189.out | refine below_set ?_ GE191.out | refine below_set ?_ GE201.out | refine below_set ?_ GE203.out) | exact HB.out)⟩
                 (try clear HO_47)
                 (try clear BK189)
                 (try clear BK191)
                 (try clear BK201)
                 (try clear BK203)
                 (try clear HB)
                 generalize ((((((((((((w32.setCell ⟨gb203, 0, none⟩ (.int .i64 ((rd_T45 x8_3 x49_4).f0))).setCell ⟨gb203, 1, none⟩ (.int .i64 ((rd_T45 x8_3 x49_4).f1))).setCell ⟨gb203, 2, none⟩ (.int .i64 ((rd_T45 x8_3 x49_4).f2))).setCell ⟨gb203, 3, none⟩ (.int .i64 ((rd_T45 x8_3 x49_4).f3))).setCell ⟨gb203, 4, none⟩ (.int .i64 ((rd_T45 x8_3 x49_4).f4))).setCell ⟨gb203, 5, none⟩ (.int .i64 ((rd_T45 x8_3 x49_4).f5))).setCell ⟨gb203, 6, none⟩ (.int .i64 ((rd_T45 x8_3 x49_4).f6))).setCell ⟨gb203, 7, none⟩ (.int .i64 ((rd_T45 x8_3 x49_4).f7))).setCell ⟨gb203, 8, none⟩ (.int .i64 ((rd_T45 x8_3 x49_4).f8))).setCell ⟨gb203, 9, none⟩ (.int .i64 ((rd_T45 x8_3 x49_4).f9))).setCell ⟨gb203, 10, none⟩ (.string ((rd_T45 x8_3 x49_4).f10))).setCell ⟨gb203, 11, none⟩ (.string ((rd_T45 x8_3 x49_4).f11))) = w37 at n0_ n1_ n2_ n3_ n4_ n5_ ⊢
                 have HO_47 := n0_
                 have BK189 := n1_
                 have BK191 := n2_
                 have BK201 := n3_
                 have BK203 := n4_
                 have HB := n5_
                 clear n0_ n1_ n2_ n3_ n4_ n5_
                 have n0_ := Aside0.mk (Kd.R_drew HO_47.out)
                 have n1_ := Aside0.mk (blk_drew BK189.out)
                 have n2_ := Aside0.mk (blk_drew BK191.out)
                 have n3_ := Aside0.mk (blk_drew BK201.out)
                 have n4_ := Aside0.mk (blk_drew BK203.out)
                 have n5_ := Aside0.mk (below_drew1 HB.out)
                 clear HO_47; clear BK189; clear BK191; clear BK201; clear BK203; clear HB
                 have HO_47 := n0_
                 have BK189 := n1_
                 have BK191 := n2_
                 have BK201 := n3_
                 have BK203 := n4_
                 have HB := n5_
                 clear n0_ n1_ n2_ n3_ n4_ n5_
                 refine start_ (n := 8) (S := fun w' => w'.cell? ⟨gb201, 0, none⟩ = some (.int .i64 x202000_4) ∧ w'.cell? ⟨gb201, 1, none⟩ = some (.int .i64 x202001_4) ∧ w'.cell? ⟨gb203, 0, none⟩ = some (.int .i64 ((rd_T45 x8_3 x49_4).f0)) ∧ w'.cell? ⟨gb203, 1, none⟩ = some (.int .i64 ((rd_T45 x8_3 x49_4).f1)) ∧ w'.cell? ⟨gb203, 2, none⟩ = some (.int .i64 ((rd_T45 x8_3 x49_4).f2)) ∧ w'.cell? ⟨gb203, 3, none⟩ = some (.int .i64 ((rd_T45 x8_3 x49_4).f3)) ∧ w'.cell? ⟨gb203, 4, none⟩ = some (.int .i64 ((rd_T45 x8_3 x49_4).f4)) ∧ w'.cell? ⟨gb203, 5, none⟩ = some (.int .i64 ((rd_T45 x8_3 x49_4).f5)) ∧ w'.cell? ⟨gb203, 6, none⟩ = some (.int .i64 ((rd_T45 x8_3 x49_4).f6)) ∧ w'.cell? ⟨gb203, 7, none⟩ = some (.int .i64 ((rd_T45 x8_3 x49_4).f7)) ∧ w'.cell? ⟨gb203, 8, none⟩ = some (.int .i64 ((rd_T45 x8_3 x49_4).f8)) ∧ w'.cell? ⟨gb203, 9, none⟩ = some (.int .i64 ((rd_T45 x8_3 x49_4).f9)) ∧ w'.cell? ⟨gb203, 10, none⟩ = some (.string ((rd_T45 x8_3 x49_4).f10)) ∧ w'.cell? ⟨gb203, 11, none⟩ = some (.string ((rd_T45 x8_3 x49_4).f11))) (ds := [7]) #[false, false, false, false, false, false, false, false] (by kernel_rfl) rfl rfl ⟨(blk_cell BK201.out 0).trans rfl, (blk_cell BK201.out 1).trans rfl, (blk_cell BK203.out 0).trans rfl, (blk_cell BK203.out 1).trans rfl, (blk_cell BK203.out 2).trans rfl, (blk_cell BK203.out 3).trans rfl, (blk_cell BK203.out 4).trans rfl, (blk_cell BK203.out 5).trans rfl, (blk_cell BK203.out 6).trans rfl, (blk_cell BK203.out 7).trans rfl, (blk_cell BK203.out 8).trans rfl, (blk_cell BK203.out 9).trans rfl, (blk_cell BK203.out 10).trans rfl, (blk_cell BK203.out 11).trans rfl⟩ (fun hHeld => ?_); refine with_tabW chanceryref3_HitShape.tab16 chanceryref3_HitShape.bits16 (fun HT_ HW_ => ?_)
                 generalize w37.drew = w38 at HO_47 BK189 BK191 BK201 BK203 HB hHeld ⊢
                 refine pure_ (i := 3) (N := some 56) (v := ?_) (a' := ?_) #[false, false, false, true, false, false, false, false] rfl rfl (any_of HT_.out (by kernel_rfl)) (fun _ _ _ h => h) (Or.inl ⟨by rfl, ?_⟩) ?_ ?_
                 rotate_left
                 ·intro w'
                  go_simp
                  with_reducible rfl
                 rotate_left
                 ·simp only [Act.put, List.setIfInBounds_toArray, List.set_cons_zero, List.set_cons_succ, i64_w, i32_w]
                  rfl
                 refine take_ (i := 0) (N := some 53) (v := ?_) (a' := ?_) #[true, false, false, true, false, false, false, false] rfl rfl (take_ofW HT_.out HW_.out (by kernel_rfl)) (fun _ _ _ h => h) (Or.inl ⟨by rfl, ?_⟩) hHeld ?_ ?_
                 rotate_left
                 ·rintro w' ⟨s0, s1, s2, s3, s4, s5, s6, s7, s8, s9, s10, s11, s12, s13⟩
                  go_simp
                  with_reducible rfl
                 rotate_left
                 ·simp only [Act.put, List.setIfInBounds_toArray, List.set_cons_zero, List.set_cons_succ, i64_w, i32_w]
                  rfl
                 refine take_ (i := 1) (N := some 54) (v := ?_) (a' := ?_) #[true, true, false, true, false, false, false, false] rfl rfl (take_ofW HT_.out HW_.out (by kernel_rfl)) (fun _ _ _ h => h) (Or.inl ⟨by rfl, ?_⟩) hHeld ?_ ?_
                 rotate_left
                 ·rintro w' ⟨s0, s1, s2, s3, s4, s5, s6, s7, s8, s9, s10, s11, s12, s13⟩
                  go_simp
                  with_reducible rfl
                 rotate_left
                 ·simp only [Act.put, List.setIfInBounds_toArray, List.set_cons_zero, List.set_cons_succ, i64_w, i32_w]
                  rfl
                 refine take_ (i := 4) (N := some 57) (v := ?_) (a' := ?_) #[true, true, false, true, true, false, false, false] rfl rfl (take_ofW HT_.out HW_.out (by kernel_rfl)) (fun _ _ _ h => h) (Or.inl ⟨by rfl, ?_⟩) hHeld ?_ ?_
                 rotate_left
                 ·rintro w' ⟨s0, s1, s2, s3, s4, s5, s6, s7, s8, s9, s10, s11, s12, s13⟩
                  go_simp
                  with_reducible rfl
                 rotate_left
                 ·simp only [Act.put, List.setIfInBounds_toArray, List.set_cons_zero, List.set_cons_succ, i64_w, i32_w]
                  rfl
                 refine pure_ (i := 5) (N := some 58) (v := ?_) (a' := ?_) #[true, true, false, true, true, true, false, false] rfl rfl (any_of HT_.out (by kernel_rfl)) (fun _ _ _ h => h) (Or.inl ⟨by rfl, ?_⟩) ?_ ?_
                 rotate_left
                 ·intro w'
                  go_simp
                  with_reducible rfl
                 rotate_left
                 ·simp only [Act.put, List.setIfInBounds_toArray, List.set_cons_zero, List.set_cons_succ, i64_w, i32_w]
                  rfl
                 refine one_ (i := 2) (N := some 55) #[true, true, true, true, true, true, false, false] rfl rfl (one_of HT_.out (by kernel_rfl)) (by decide) (fun K hK => ?_)
                 refine goes_ Tryd.func20 (by kernel_rfl) rfl #[.agg #[.int .i64 ((rd_T45 x8_3 x49_4).f0), .int .i64 ((rd_T45 x8_3 x49_4).f1), .int .i64 ((rd_T45 x8_3 x49_4).f2), .int .i64 ((rd_T45 x8_3 x49_4).f3), .int .i64 ((rd_T45 x8_3 x49_4).f4), .int .i64 ((rd_T45 x8_3 x49_4).f5), .int .i64 ((rd_T45 x8_3 x49_4).f6), .int .i64 ((rd_T45 x8_3 x49_4).f7), .int .i64 ((rd_T45 x8_3 x49_4).f8), .int .i64 ((rd_T45 x8_3 x49_4).f9), .string ((rd_T45 x8_3 x49_4).f10), .string ((rd_T45 x8_3 x49_4).f11)]] (by rfl) rfl rfl (by (try simp only [List.map_toArray, List.map_cons, List.map_nil]); first | done | rfl) ?_
                 with_reducible refine (chanceryref3_middle.calls ((rd_T45 x8_3 x49_4).f0) ((rd_T45 x8_3 x49_4).f1) ((rd_T45 x8_3 x49_4).f2) ((rd_T45 x8_3 x49_4).f3) ((rd_T45 x8_3 x49_4).f4) ((rd_T45 x8_3 x49_4).f5) ((rd_T45 x8_3 x49_4).f6) ((rd_T45 x8_3 x49_4).f7) ((rd_T45 x8_3 x49_4).f8) ((rd_T45 x8_3 x49_4).f9) ((rd_T45 x8_3 x49_4).f10) ((rd_T45 x8_3 x49_4).f11) t204 t205 _ A30.out).mono ?_
                 rintro e w39 ⟨rfl, hb⟩
                 refine ⟨_, rfl, ?_⟩
                 have n0_ := Aside0.mk (Kd.R_below (by (with_reducible repeat (first | apply Kd.R_alloc | apply Kd.R_drewN | apply Kd.R_drew)); exact HO_47.out) hb)
                 have n1_ := Aside0.mk (blk_below (g := gb189) (o := .cells #[.int .i64 a1_0, .int .i64 a1_1] 37 (0, 0)) (by (with_reducible repeat (first | refine blk_drewN ?_ _ | refine blk_drew ?_ | refine blk_alloc ?_ _)); exact BK189.out) hb)
                 have n2_ := Aside0.mk (blk_below (g := gb191) (o := .cells #[.int .i64 ((rd_T45 l0 x18_1).f0), .int .i64 ((rd_T45 l0 x18_1).f1), .int .i64 ((rd_T45 l0 x18_1).f2), .int .i64 ((rd_T45 l0 x18_1).f3), .int .i64 ((rd_T45 l0 x18_1).f4), .int .i64 ((rd_T45 l0 x18_1).f5), .int .i64 ((rd_T45 l0 x18_1).f6), .int .i64 ((rd_T45 l0 x18_1).f7), .int .i64 ((rd_T45 l0 x18_1).f8), .int .i64 ((rd_T45 l0 x18_1).f9), .string ((rd_T45 l0 x18_1).f10), .string ((rd_T45 l0 x18_1).f11)] 45 (0, 0)) (by (with_reducible repeat (first | refine blk_drewN ?_ _ | refine blk_drew ?_ | refine blk_alloc ?_ _)); exact BK191.out) hb)
                 have n3_ := Aside0.mk (blk_below (g := gb201) (o := .cells #[.int .i64 x202000_4, .int .i64 x202001_4] 37 (0, 0)) (by (with_reducible repeat (first | refine blk_drewN ?_ _ | refine blk_drew ?_ | refine blk_alloc ?_ _)); exact BK201.out) hb)
                 have n4_ := Aside0.mk (blk_below (g := gb203) (o := .cells #[.int .i64 ((rd_T45 x8_3 x49_4).f0), .int .i64 ((rd_T45 x8_3 x49_4).f1), .int .i64 ((rd_T45 x8_3 x49_4).f2), .int .i64 ((rd_T45 x8_3 x49_4).f3), .int .i64 ((rd_T45 x8_3 x49_4).f4), .int .i64 ((rd_T45 x8_3 x49_4).f5), .int .i64 ((rd_T45 x8_3 x49_4).f6), .int .i64 ((rd_T45 x8_3 x49_4).f7), .int .i64 ((rd_T45 x8_3 x49_4).f8), .int .i64 ((rd_T45 x8_3 x49_4).f9), .string ((rd_T45 x8_3 x49_4).f10), .string ((rd_T45 x8_3 x49_4).f11)] 45 (0, 0)) (by (with_reducible repeat (first | refine blk_drewN ?_ _ | refine blk_drew ?_ | refine blk_alloc ?_ _)); exact BK203.out) hb)
                 have n5_ := Aside0.mk (below_step (by repeat (first | (with_reducible first | exact HB.out | apply below_alloc | apply pw_below_drewN | apply below_drew1 | refine below_set ?_ GE189.out | refine below_set ?_ GE191.out | refine below_set ?_ GE201.out | refine below_set ?_ GE203.out) | exact HB.out)) hb)
                 clear HO_47; clear BK189; clear BK191; clear BK201; clear BK203; clear HB
                 have HO_47 := n0_
                 have BK189 := n1_
                 have BK191 := n2_
                 have BK201 := n3_
                 have BK203 := n4_
                 have HB := n5_
                 clear n0_ n1_ n2_ n3_ n4_ n5_
                 (try clear hb)
                 (try clear hb2)
                 (try clear hk)
                 (try clear hi)
                 refine hK.out _ _ ⟨(blk_cell BK201.out 0).trans rfl, (blk_cell BK201.out 1).trans rfl, (blk_cell BK203.out 0).trans rfl, (blk_cell BK203.out 1).trans rfl, (blk_cell BK203.out 2).trans rfl, (blk_cell BK203.out 3).trans rfl, (blk_cell BK203.out 4).trans rfl, (blk_cell BK203.out 5).trans rfl, (blk_cell BK203.out 6).trans rfl, (blk_cell BK203.out 7).trans rfl, (blk_cell BK203.out 8).trans rfl, (blk_cell BK203.out 9).trans rfl, (blk_cell BK203.out 10).trans rfl, (blk_cell BK203.out 11).trans rfl⟩ (fun hHeld => ?_)
                 clear hK K
                 refine norm_ (a' := ?_) ?_ ?_
                 rotate_left
                 ·show Act.put _ (some 55) _ = _
                  simp only [Act.put, List.setIfInBounds_toArray, List.set_cons_zero, List.set_cons_succ, i64_w, i32_w]
                  rfl
                 refine one_ (i := 6) (N := some 59) #[true, true, true, true, true, true, true, false] rfl rfl (one_of HT_.out (by kernel_rfl)) (by decide) (fun K hK => ?_)
                 refine goes_ Tryd.func19 (by kernel_rfl) rfl #[.agg #[.int .i64 x202000_4, .int .i64 x202001_4], .agg #[.int .i64 t204, .int .i64 t205], .int .i64 (wrap64 (-((rd_T45 x8_3 x49_4).f7)))] (by rfl) rfl rfl (by (try simp only [List.map_toArray, List.map_cons, List.map_nil]); first | done | rfl) ?_
                 with_reducible refine (chanceryref3_TurnPoint.calls x202000_4 x202001_4 t204 t205 (wrap64 (-((rd_T45 x8_3 x49_4).f7))) t206 t207 _ A31.out ?sL).mono ?_
                 (case sL => first | ((repeat (first | (with_reducible exact HLd.out) | (with_reducible refine LaidW.drewN ?_ _) | (with_reducible refine LaidW.drew ?_) | (with_reducible refine LaidW.alloc ?_ _))); done) | exact LaidW.now HLd.out (by repeat (first | (with_reducible first | exact HB.out | apply below_alloc | apply pw_below_drewN | apply below_drew1 | refine below_set ?_ GE189.out | refine below_set ?_ GE191.out | refine below_set ?_ GE194.out | refine below_set ?_ GE201.out | refine below_set ?_ GE203.out) | exact HB.out)))
                 rintro e w40 ⟨rfl, hb⟩
                 refine ⟨_, rfl, ?_⟩
                 have n0_ := Aside0.mk (Kd.R_below (by (with_reducible repeat (first | apply Kd.R_alloc | apply Kd.R_drewN | apply Kd.R_drew)); exact HO_47.out) hb)
                 have n1_ := Aside0.mk (blk_below (g := gb189) (o := .cells #[.int .i64 a1_0, .int .i64 a1_1] 37 (0, 0)) (by (with_reducible repeat (first | refine blk_drewN ?_ _ | refine blk_drew ?_ | refine blk_alloc ?_ _)); exact BK189.out) hb)
                 have n2_ := Aside0.mk (blk_below (g := gb191) (o := .cells #[.int .i64 ((rd_T45 l0 x18_1).f0), .int .i64 ((rd_T45 l0 x18_1).f1), .int .i64 ((rd_T45 l0 x18_1).f2), .int .i64 ((rd_T45 l0 x18_1).f3), .int .i64 ((rd_T45 l0 x18_1).f4), .int .i64 ((rd_T45 l0 x18_1).f5), .int .i64 ((rd_T45 l0 x18_1).f6), .int .i64 ((rd_T45 l0 x18_1).f7), .int .i64 ((rd_T45 l0 x18_1).f8), .int .i64 ((rd_T45 l0 x18_1).f9), .string ((rd_T45 l0 x18_1).f10), .string ((rd_T45 l0 x18_1).f11)] 45 (0, 0)) (by (with_reducible repeat (first | refine blk_drewN ?_ _ | refine blk_drew ?_ | refine blk_alloc ?_ _)); exact BK191.out) hb)
                 have n3_ := Aside0.mk (blk_below (g := gb201) (o := .cells #[.int .i64 x202000_4, .int .i64 x202001_4] 37 (0, 0)) (by (with_reducible repeat (first | refine blk_drewN ?_ _ | refine blk_drew ?_ | refine blk_alloc ?_ _)); exact BK201.out) hb)
                 have n4_ := Aside0.mk (blk_below (g := gb203) (o := .cells #[.int .i64 ((rd_T45 x8_3 x49_4).f0), .int .i64 ((rd_T45 x8_3 x49_4).f1), .int .i64 ((rd_T45 x8_3 x49_4).f2), .int .i64 ((rd_T45 x8_3 x49_4).f3), .int .i64 ((rd_T45 x8_3 x49_4).f4), .int .i64 ((rd_T45 x8_3 x49_4).f5), .int .i64 ((rd_T45 x8_3 x49_4).f6), .int .i64 ((rd_T45 x8_3 x49_4).f7), .int .i64 ((rd_T45 x8_3 x49_4).f8), .int .i64 ((rd_T45 x8_3 x49_4).f9), .string ((rd_T45 x8_3 x49_4).f10), .string ((rd_T45 x8_3 x49_4).f11)] 45 (0, 0)) (by (with_reducible repeat (first | refine blk_drewN ?_ _ | refine blk_drew ?_ | refine blk_alloc ?_ _)); exact BK203.out) hb)
                 have n5_ := Aside0.mk (below_step (by repeat (first | (with_reducible first | exact HB.out | apply below_alloc | apply pw_below_drewN | apply below_drew1 | refine below_set ?_ GE189.out | refine below_set ?_ GE191.out | refine below_set ?_ GE201.out | refine below_set ?_ GE203.out) | exact HB.out)) hb)
                 clear HO_47; clear BK189; clear BK191; clear BK201; clear BK203; clear HB
                 have HO_47 := n0_
                 have BK189 := n1_
                 have BK191 := n2_
                 have BK201 := n3_
                 have BK203 := n4_
                 have HB := n5_
                 clear n0_ n1_ n2_ n3_ n4_ n5_
                 (try clear hb)
                 (try clear hb2)
                 (try clear hk)
                 (try clear hi)
                 refine hK.out _ _ ⟨(blk_cell BK201.out 0).trans rfl, (blk_cell BK201.out 1).trans rfl, (blk_cell BK203.out 0).trans rfl, (blk_cell BK203.out 1).trans rfl, (blk_cell BK203.out 2).trans rfl, (blk_cell BK203.out 3).trans rfl, (blk_cell BK203.out 4).trans rfl, (blk_cell BK203.out 5).trans rfl, (blk_cell BK203.out 6).trans rfl, (blk_cell BK203.out 7).trans rfl, (blk_cell BK203.out 8).trans rfl, (blk_cell BK203.out 9).trans rfl, (blk_cell BK203.out 10).trans rfl, (blk_cell BK203.out 11).trans rfl⟩ (fun hHeld => ?_)
                 clear hK K
                 refine norm_ (a' := ?_) ?_ ?_
                 rotate_left
                 ·show Act.put _ (some 59) _ = _
                  simp only [Act.put, List.setIfInBounds_toArray, List.set_cons_zero, List.set_cons_succ, i64_w, i32_w]
                  rfl
                 refine last_ (i := 7) (N := none) #[true, true, true, true, true, true, true, true] rfl rfl (one_of HT_.out (by kernel_rfl)) (by decide) (fun K hK => ?_)
                 have hs41 : w40.cell? ⟨gb201, 0, none⟩ = some (.int .i64 x202000_4) := (blk_cell BK201.out 0).trans rfl
                 have hfs41 := blk_frozen BK201.out 0
                 have hns41_0 := NB189_201.out
                 have hns41_1 := NB191_201.out
                 have hns41_3 := NB203_201.out
                 have hms41_0 := NB201_189.out
                 have hms41_1 := NB201_191.out
                 have hms41_3 := NB201_203.out
                 have hs42 : w40.cell? ⟨gb201, 1, none⟩ = some (.int .i64 x202001_4) := (blk_cell BK201.out 1).trans rfl
                 have hfs42 := blk_frozen BK201.out 1
                 have hns42_0 := NB189_201.out
                 have hns42_1 := NB191_201.out
                 have hns42_3 := NB203_201.out
                 have hms42_0 := NB201_189.out
                 have hms42_1 := NB201_191.out
                 have hms42_3 := NB201_203.out
                 refine skip_ (w1 := ?_) (by rfl) rfl ?_ ?_
                 rotate_left
                 ·go_simp
                  rfl
                 refine hK.out _ _ ?_
                 clear hK K
                 refine done_ (done_of HT_.out (by kernel_rfl)) ?_
                 have hnb43 := NB201_189.out
                 have hnc43 := NB189_201.out
                 have hnb44 := NB201_191.out
                 have hnc44 := NB191_201.out
                 have hcz45_0 : w40.cell? ⟨gb201, 0, none⟩ = some (.int .i64 x202000_4) := (blk_cell BK201.out 0).trans rfl
                 have hcz45_1 : w40.cell? ⟨gb201, 1, none⟩ = some (.int .i64 x202001_4) := (blk_cell BK201.out 1).trans rfl
                 have hfz45_0 := blk_frozen BK201.out 0
                 have hfz45_1 := blk_frozen BK201.out 1
                 obtain ⟨hcz46_0, hcz46_1, hcz46_2, hcz46_3, hcz46_4, hcz46_5, hcz46_6, hcz46_7, hcz46_8, hcz46_9, hcz46_10, hcz46_11⟩ := cells12 BK203.out
                 have hfz46_ := fun j => blk_frozen BK203.out j
                 try go_wp2
                 go_roundg k4
                 case measure => have := HK1.out; have := HJ6.out; have := HK3.out; have := HK4.out; omega
                 case rel => exact ⟨(wrap64 (x49_4 + 1)), (wrap64 (t206 - ((rd_T45 x8_3 x49_4).f3))), (wrap64 (t207 - ((rd_T45 x8_3 x49_4).f4))), (by first | rfl | (simp; done) | (simp [*]; done)), H', ⟨by have := HK1.out; have := HJ6.out; have := HK3.out; have := HK4.out; omega⟩, ⟨by (with_reducible repeat (first | apply Kd.R_alloc | apply Kd.R_drewN | apply Kd.R_drew)); exact Kd.R_mono (Kd.R_far (p := ⟨gb201, 1, none⟩) (Kd.R_far (p := ⟨gb201, 0, none⟩) (Kd.R_far (p := ⟨gb201, 1, none⟩) (Kd.R_far (p := ⟨gb201, 0, none⟩) (Kd.R_types HO_47.out BK201.out (by decide)) (fun _ hk => hk.2) (.int .i64 t206)) (fun _ hk => hk.2) (.int .i64 t207)) (fun _ hk => hk.2) (.int .i64 (wrap64 (t206 - ((rd_T45 x8_3 x49_4).f3))))) (fun _ hk => hk.2) (.int .i64 (wrap64 (t207 - ((rd_T45 x8_3 x49_4).f4))))) (fun _ hk => hk.1.1)⟩, ⟨by (with_reducible repeat (first | refine blk_drewN ?_ _ | refine blk_drew ?_ | refine blk_alloc ?_ _)); refine blk_far ?_ NB189_201.out _; (with_reducible repeat (first | refine blk_drewN ?_ _ | refine blk_drew ?_ | refine blk_alloc ?_ _)); refine blk_far ?_ NB189_201.out _; (with_reducible repeat (first | refine blk_drewN ?_ _ | refine blk_drew ?_ | refine blk_alloc ?_ _)); refine blk_far ?_ NB189_201.out _; (with_reducible repeat (first | refine blk_drewN ?_ _ | refine blk_drew ?_ | refine blk_alloc ?_ _)); refine blk_far ?_ NB189_201.out _; (with_reducible repeat (first | refine blk_drewN ?_ _ | refine blk_drew ?_ | refine blk_alloc ?_ _)); exact BK189.out⟩, ⟨by (with_reducible repeat (first | refine blk_drewN ?_ _ | refine blk_drew ?_ | refine blk_alloc ?_ _)); refine blk_far ?_ NB191_201.out _; (with_reducible repeat (first | refine blk_drewN ?_ _ | refine blk_drew ?_ | refine blk_alloc ?_ _)); refine blk_far ?_ NB191_201.out _; (with_reducible repeat (first | refine blk_drewN ?_ _ | refine blk_drew ?_ | refine blk_alloc ?_ _)); refine blk_far ?_ NB191_201.out _; (with_reducible repeat (first | refine blk_drewN ?_ _ | refine blk_drew ?_ | refine blk_alloc ?_ _)); refine blk_far ?_ NB191_201.out _; (with_reducible repeat (first | refine blk_drewN ?_ _ | refine blk_drew ?_ | refine blk_alloc ?_ _)); exact BK191.out⟩, ⟨by (with_reducible repeat (first | refine blk_drewN ?_ _ | refine blk_drew ?_ | refine blk_alloc ?_ _)); refine blk_put (cs := #[.int .i64 (wrap64 (t206 - ((rd_T45 x8_3 x49_4).f3))), .int .i64 t207]) ?_ 1 _ rfl; (with_reducible repeat (first | refine blk_drewN ?_ _ | refine blk_drew ?_ | refine blk_alloc ?_ _)); refine blk_put (cs := #[.int .i64 t206, .int .i64 t207]) ?_ 0 _ rfl; (with_reducible repeat (first | refine blk_drewN ?_ _ | refine blk_drew ?_ | refine blk_alloc ?_ _)); refine blk_put (cs := #[.int .i64 t206, .int .i64 x202001_4]) ?_ 1 _ rfl; (with_reducible repeat (first | refine blk_drewN ?_ _ | refine blk_drew ?_ | refine blk_alloc ?_ _)); refine blk_put (cs := #[.int .i64 x202000_4, .int .i64 x202001_4]) ?_ 0 _ rfl; (with_reducible repeat (first | refine blk_drewN ?_ _ | refine blk_drew ?_ | refine blk_alloc ?_ _)); exact BK201.out⟩, ⟨by repeat (first | (with_reducible first | exact HB.out | apply below_alloc | apply pw_below_drewN | apply below_drew1 | refine below_set ?_ GE189.out | refine below_set ?_ GE191.out | refine below_set ?_ GE201.out | refine below_set ?_ GE203.out) | exact HB.out)⟩⟩
                ·rw [if_neg c29] at H
                 exact absurd H (by simp)
               ·rw [if_neg c28] at H
                exact absurd H (by simp)
              ·rw [if_neg c27] at H
               have c27b0 : decide (x49_4 < (x8_3.length : Int)) = false := decide_eq_false c27
               clear c27
               replace H := Option.bind_eq_some_iff.mp H
               obtain ⟨⟨t208, t209⟩, A470, H⟩ := H
               replace H : ((chanceryref3_TurnPoint.f x202000_4 x202001_4 t208 t209 (wrap64 (-((rd_T45 l0 x18_1).f7)))).bind fun bt210 => ((chanceryref3_In.f bt210.1 ((rd_T45 l0 x18_1).f3) (wrap64 (((rd_T45 l0 x18_1).f3) + ((rd_T45 l0 x18_1).f5)))).bind fun t212 => (if t212 = true then ((chanceryref3_In.f bt210.2 ((rd_T45 l0 x18_1).f4) (wrap64 (((rd_T45 l0 x18_1).f4) + ((rd_T45 l0 x18_1).f6)))).bind fun t213 => (chanceryref3_HitShape.j4 k4 l0 x5_1 l0 (l0.length : Int) x18_1 (!t213) a1_0 a1_1 ((rd_T45 l0 x18_1).f0) ((rd_T45 l0 x18_1).f1) ((rd_T45 l0 x18_1).f2) ((rd_T45 l0 x18_1).f3) ((rd_T45 l0 x18_1).f4) ((rd_T45 l0 x18_1).f5) ((rd_T45 l0 x18_1).f6) ((rd_T45 l0 x18_1).f7) ((rd_T45 l0 x18_1).f8) ((rd_T45 l0 x18_1).f9) ((rd_T45 l0 x18_1).f10) ((rd_T45 l0 x18_1).f11) bt210.1 bt210.2)) else (chanceryref3_HitShape.j4 k4 l0 x5_1 l0 (l0.length : Int) x18_1 true a1_0 a1_1 ((rd_T45 l0 x18_1).f0) ((rd_T45 l0 x18_1).f1) ((rd_T45 l0 x18_1).f2) ((rd_T45 l0 x18_1).f3) ((rd_T45 l0 x18_1).f4) ((rd_T45 l0 x18_1).f5) ((rd_T45 l0 x18_1).f6) ((rd_T45 l0 x18_1).f7) ((rd_T45 l0 x18_1).f8) ((rd_T45 l0 x18_1).f9) ((rd_T45 l0 x18_1).f10) ((rd_T45 l0 x18_1).f11) bt210.1 bt210.2)))) = some r := H
               have A47 := Aside0.mk A470
               clear A470
               replace H := Option.bind_eq_some_iff.mp H
               obtain ⟨⟨t210, t211⟩, A480, H⟩ := H
               replace H : ((chanceryref3_In.f t210 ((rd_T45 l0 x18_1).f3) (wrap64 (((rd_T45 l0 x18_1).f3) + ((rd_T45 l0 x18_1).f5)))).bind fun t212 => (if t212 = true then ((chanceryref3_In.f t211 ((rd_T45 l0 x18_1).f4) (wrap64 (((rd_T45 l0 x18_1).f4) + ((rd_T45 l0 x18_1).f6)))).bind fun t213 => (chanceryref3_HitShape.j4 k4 l0 x5_1 l0 (l0.length : Int) x18_1 (!t213) a1_0 a1_1 ((rd_T45 l0 x18_1).f0) ((rd_T45 l0 x18_1).f1) ((rd_T45 l0 x18_1).f2) ((rd_T45 l0 x18_1).f3) ((rd_T45 l0 x18_1).f4) ((rd_T45 l0 x18_1).f5) ((rd_T45 l0 x18_1).f6) ((rd_T45 l0 x18_1).f7) ((rd_T45 l0 x18_1).f8) ((rd_T45 l0 x18_1).f9) ((rd_T45 l0 x18_1).f10) ((rd_T45 l0 x18_1).f11) t210 t211)) else (chanceryref3_HitShape.j4 k4 l0 x5_1 l0 (l0.length : Int) x18_1 true a1_0 a1_1 ((rd_T45 l0 x18_1).f0) ((rd_T45 l0 x18_1).f1) ((rd_T45 l0 x18_1).f2) ((rd_T45 l0 x18_1).f3) ((rd_T45 l0 x18_1).f4) ((rd_T45 l0 x18_1).f5) ((rd_T45 l0 x18_1).f6) ((rd_T45 l0 x18_1).f7) ((rd_T45 l0 x18_1).f8) ((rd_T45 l0 x18_1).f9) ((rd_T45 l0 x18_1).f10) ((rd_T45 l0 x18_1).f11) t210 t211))) = some r := H
               have A48 := Aside0.mk A480
               clear A480
               have HC49 := Aside0.mk H
               clear H
               try go_wp2
               have n0_ := Aside0.mk (Kd.R_drew HO_47.out)
               have n1_ := Aside0.mk (blk_drew BK189.out)
               have n2_ := Aside0.mk (blk_drew BK191.out)
               have n3_ := Aside0.mk (blk_drew BK201.out)
               have n4_ := Aside0.mk (below_drew1 HB.out)
               clear HO_47; clear BK189; clear BK191; clear BK201; clear HB
               have HO_47 := n0_
               have BK189 := n1_
               have BK191 := n2_
               have BK201 := n3_
               have HB := n4_
               clear n0_ n1_ n2_ n3_ n4_
               refine start_ (n := 8) (S := fun w' => w'.cell? ⟨gb201, 0, none⟩ = some (.int .i64 x202000_4) ∧ w'.cell? ⟨gb201, 1, none⟩ = some (.int .i64 x202001_4) ∧ w'.cell? ⟨gb191, 0, none⟩ = some (.int .i64 ((rd_T45 l0 x18_1).f0)) ∧ w'.cell? ⟨gb191, 1, none⟩ = some (.int .i64 ((rd_T45 l0 x18_1).f1)) ∧ w'.cell? ⟨gb191, 2, none⟩ = some (.int .i64 ((rd_T45 l0 x18_1).f2)) ∧ w'.cell? ⟨gb191, 3, none⟩ = some (.int .i64 ((rd_T45 l0 x18_1).f3)) ∧ w'.cell? ⟨gb191, 4, none⟩ = some (.int .i64 ((rd_T45 l0 x18_1).f4)) ∧ w'.cell? ⟨gb191, 5, none⟩ = some (.int .i64 ((rd_T45 l0 x18_1).f5)) ∧ w'.cell? ⟨gb191, 6, none⟩ = some (.int .i64 ((rd_T45 l0 x18_1).f6)) ∧ w'.cell? ⟨gb191, 7, none⟩ = some (.int .i64 ((rd_T45 l0 x18_1).f7)) ∧ w'.cell? ⟨gb191, 8, none⟩ = some (.int .i64 ((rd_T45 l0 x18_1).f8)) ∧ w'.cell? ⟨gb191, 9, none⟩ = some (.int .i64 ((rd_T45 l0 x18_1).f9)) ∧ w'.cell? ⟨gb191, 10, none⟩ = some (.string ((rd_T45 l0 x18_1).f10)) ∧ w'.cell? ⟨gb191, 11, none⟩ = some (.string ((rd_T45 l0 x18_1).f11))) (ds := [7]) #[false, false, false, false, false, false, false, false] (by kernel_rfl) rfl rfl ⟨(blk_cell BK201.out 0).trans rfl, (blk_cell BK201.out 1).trans rfl, (blk_cell BK191.out 0).trans rfl, (blk_cell BK191.out 1).trans rfl, (blk_cell BK191.out 2).trans rfl, (blk_cell BK191.out 3).trans rfl, (blk_cell BK191.out 4).trans rfl, (blk_cell BK191.out 5).trans rfl, (blk_cell BK191.out 6).trans rfl, (blk_cell BK191.out 7).trans rfl, (blk_cell BK191.out 8).trans rfl, (blk_cell BK191.out 9).trans rfl, (blk_cell BK191.out 10).trans rfl, (blk_cell BK191.out 11).trans rfl⟩ (fun hHeld => ?_); refine with_tabW chanceryref3_HitShape.tab19 chanceryref3_HitShape.bits19 (fun HT_ HW_ => ?_)
               generalize wr.drew = w50 at HO_47 BK189 BK191 BK201 HB hHeld ⊢
               refine pure_ (i := 3) (N := some 75) (v := ?_) (a' := ?_) #[false, false, false, true, false, false, false, false] rfl rfl (any_of HT_.out (by kernel_rfl)) (fun _ _ _ h => h) (Or.inl ⟨by rfl, ?_⟩) ?_ ?_
               rotate_left
               ·intro w'
                go_simp
                with_reducible rfl
               rotate_left
               ·simp only [Act.put, List.setIfInBounds_toArray, List.set_cons_zero, List.set_cons_succ, i64_w, i32_w]
                rfl
               refine take_ (i := 0) (N := some 72) (v := ?_) (a' := ?_) #[true, false, false, true, false, false, false, false] rfl rfl (take_ofW HT_.out HW_.out (by kernel_rfl)) (fun _ _ _ h => h) (Or.inl ⟨by rfl, ?_⟩) hHeld ?_ ?_
               rotate_left
               ·rintro w' ⟨s0, s1, s2, s3, s4, s5, s6, s7, s8, s9, s10, s11, s12, s13⟩
                go_simp
                with_reducible rfl
               rotate_left
               ·simp only [Act.put, List.setIfInBounds_toArray, List.set_cons_zero, List.set_cons_succ, i64_w, i32_w]
                rfl
               refine take_ (i := 1) (N := some 73) (v := ?_) (a' := ?_) #[true, true, false, true, false, false, false, false] rfl rfl (take_ofW HT_.out HW_.out (by kernel_rfl)) (fun _ _ _ h => h) (Or.inl ⟨by rfl, ?_⟩) hHeld ?_ ?_
               rotate_left
               ·rintro w' ⟨s0, s1, s2, s3, s4, s5, s6, s7, s8, s9, s10, s11, s12, s13⟩
                go_simp
                with_reducible rfl
               rotate_left
               ·simp only [Act.put, List.setIfInBounds_toArray, List.set_cons_zero, List.set_cons_succ, i64_w, i32_w]
                rfl
               refine take_ (i := 4) (N := some 76) (v := ?_) (a' := ?_) #[true, true, false, true, true, false, false, false] rfl rfl (take_ofW HT_.out HW_.out (by kernel_rfl)) (fun _ _ _ h => h) (Or.inl ⟨by rfl, ?_⟩) hHeld ?_ ?_
               rotate_left
               ·rintro w' ⟨s0, s1, s2, s3, s4, s5, s6, s7, s8, s9, s10, s11, s12, s13⟩
                go_simp
                with_reducible rfl
               rotate_left
               ·simp only [Act.put, List.setIfInBounds_toArray, List.set_cons_zero, List.set_cons_succ, i64_w, i32_w]
                rfl
               refine pure_ (i := 5) (N := some 77) (v := ?_) (a' := ?_) #[true, true, false, true, true, true, false, false] rfl rfl (any_of HT_.out (by kernel_rfl)) (fun _ _ _ h => h) (Or.inl ⟨by rfl, ?_⟩) ?_ ?_
               rotate_left
               ·intro w'
                go_simp
                with_reducible rfl
               rotate_left
               ·simp only [Act.put, List.setIfInBounds_toArray, List.set_cons_zero, List.set_cons_succ, i64_w, i32_w]
                rfl
               refine one_ (i := 2) (N := some 74) #[true, true, true, true, true, true, false, false] rfl rfl (one_of HT_.out (by kernel_rfl)) (by decide) (fun K hK => ?_)
               refine goes_ Tryd.func20 (by kernel_rfl) rfl #[.agg #[.int .i64 ((rd_T45 l0 x18_1).f0), .int .i64 ((rd_T45 l0 x18_1).f1), .int .i64 ((rd_T45 l0 x18_1).f2), .int .i64 ((rd_T45 l0 x18_1).f3), .int .i64 ((rd_T45 l0 x18_1).f4), .int .i64 ((rd_T45 l0 x18_1).f5), .int .i64 ((rd_T45 l0 x18_1).f6), .int .i64 ((rd_T45 l0 x18_1).f7), .int .i64 ((rd_T45 l0 x18_1).f8), .int .i64 ((rd_T45 l0 x18_1).f9), .string ((rd_T45 l0 x18_1).f10), .string ((rd_T45 l0 x18_1).f11)]] (by rfl) rfl rfl (by (try simp only [List.map_toArray, List.map_cons, List.map_nil]); first | done | rfl) ?_
               with_reducible refine (chanceryref3_middle.calls ((rd_T45 l0 x18_1).f0) ((rd_T45 l0 x18_1).f1) ((rd_T45 l0 x18_1).f2) ((rd_T45 l0 x18_1).f3) ((rd_T45 l0 x18_1).f4) ((rd_T45 l0 x18_1).f5) ((rd_T45 l0 x18_1).f6) ((rd_T45 l0 x18_1).f7) ((rd_T45 l0 x18_1).f8) ((rd_T45 l0 x18_1).f9) ((rd_T45 l0 x18_1).f10) ((rd_T45 l0 x18_1).f11) t208 t209 _ A47.out).mono ?_
               rintro e w51 ⟨rfl, hb⟩
               refine ⟨_, rfl, ?_⟩
               have n0_ := Aside0.mk (Kd.R_below (by (with_reducible repeat (first | apply Kd.R_alloc | apply Kd.R_drewN | apply Kd.R_drew)); exact HO_47.out) hb)
               have n1_ := Aside0.mk (blk_below (g := gb189) (o := .cells #[.int .i64 a1_0, .int .i64 a1_1] 37 (0, 0)) (by (with_reducible repeat (first | refine blk_drewN ?_ _ | refine blk_drew ?_ | refine blk_alloc ?_ _)); exact BK189.out) hb)
               have n2_ := Aside0.mk (blk_below (g := gb191) (o := .cells #[.int .i64 ((rd_T45 l0 x18_1).f0), .int .i64 ((rd_T45 l0 x18_1).f1), .int .i64 ((rd_T45 l0 x18_1).f2), .int .i64 ((rd_T45 l0 x18_1).f3), .int .i64 ((rd_T45 l0 x18_1).f4), .int .i64 ((rd_T45 l0 x18_1).f5), .int .i64 ((rd_T45 l0 x18_1).f6), .int .i64 ((rd_T45 l0 x18_1).f7), .int .i64 ((rd_T45 l0 x18_1).f8), .int .i64 ((rd_T45 l0 x18_1).f9), .string ((rd_T45 l0 x18_1).f10), .string ((rd_T45 l0 x18_1).f11)] 45 (0, 0)) (by (with_reducible repeat (first | refine blk_drewN ?_ _ | refine blk_drew ?_ | refine blk_alloc ?_ _)); exact BK191.out) hb)
               have n3_ := Aside0.mk (blk_below (g := gb201) (o := .cells #[.int .i64 x202000_4, .int .i64 x202001_4] 37 (0, 0)) (by (with_reducible repeat (first | refine blk_drewN ?_ _ | refine blk_drew ?_ | refine blk_alloc ?_ _)); exact BK201.out) hb)
               have n4_ := Aside0.mk (below_step (by repeat (first | (with_reducible first | exact HB.out | apply below_alloc | apply pw_below_drewN | apply below_drew1 | refine below_set ?_ GE189.out | refine below_set ?_ GE191.out | refine below_set ?_ GE201.out) | exact HB.out)) hb)
               clear HO_47; clear BK189; clear BK191; clear BK201; clear HB
               have HO_47 := n0_
               have BK189 := n1_
               have BK191 := n2_
               have BK201 := n3_
               have HB := n4_
               clear n0_ n1_ n2_ n3_ n4_
               (try clear hb)
               (try clear hb2)
               (try clear hk)
               (try clear hi)
               refine hK.out _ _ ⟨(blk_cell BK201.out 0).trans rfl, (blk_cell BK201.out 1).trans rfl, (blk_cell BK191.out 0).trans rfl, (blk_cell BK191.out 1).trans rfl, (blk_cell BK191.out 2).trans rfl, (blk_cell BK191.out 3).trans rfl, (blk_cell BK191.out 4).trans rfl, (blk_cell BK191.out 5).trans rfl, (blk_cell BK191.out 6).trans rfl, (blk_cell BK191.out 7).trans rfl, (blk_cell BK191.out 8).trans rfl, (blk_cell BK191.out 9).trans rfl, (blk_cell BK191.out 10).trans rfl, (blk_cell BK191.out 11).trans rfl⟩ (fun hHeld => ?_)
               clear hK K
               refine norm_ (a' := ?_) ?_ ?_
               rotate_left
               ·show Act.put _ (some 74) _ = _
                simp only [Act.put, List.setIfInBounds_toArray, List.set_cons_zero, List.set_cons_succ, i64_w, i32_w]
                rfl
               refine one_ (i := 6) (N := some 78) #[true, true, true, true, true, true, true, false] rfl rfl (one_of HT_.out (by kernel_rfl)) (by decide) (fun K hK => ?_)
               refine goes_ Tryd.func19 (by kernel_rfl) rfl #[.agg #[.int .i64 x202000_4, .int .i64 x202001_4], .agg #[.int .i64 t208, .int .i64 t209], .int .i64 (wrap64 (-((rd_T45 l0 x18_1).f7)))] (by rfl) rfl rfl (by (try simp only [List.map_toArray, List.map_cons, List.map_nil]); first | done | rfl) ?_
               with_reducible refine (chanceryref3_TurnPoint.calls x202000_4 x202001_4 t208 t209 (wrap64 (-((rd_T45 l0 x18_1).f7))) t210 t211 _ A48.out ?sL).mono ?_
               (case sL => first | ((repeat (first | (with_reducible exact HLd.out) | (with_reducible refine LaidW.drewN ?_ _) | (with_reducible refine LaidW.drew ?_) | (with_reducible refine LaidW.alloc ?_ _))); done) | exact LaidW.now HLd.out (by repeat (first | (with_reducible first | exact HB.out | apply below_alloc | apply pw_below_drewN | apply below_drew1 | refine below_set ?_ GE189.out | refine below_set ?_ GE191.out | refine below_set ?_ GE194.out | refine below_set ?_ GE201.out | refine below_set ?_ GE203.out) | exact HB.out)))
               rintro e w52 ⟨rfl, hb⟩
               refine ⟨_, rfl, ?_⟩
               have n0_ := Aside0.mk (Kd.R_below (by (with_reducible repeat (first | apply Kd.R_alloc | apply Kd.R_drewN | apply Kd.R_drew)); exact HO_47.out) hb)
               have n1_ := Aside0.mk (blk_below (g := gb189) (o := .cells #[.int .i64 a1_0, .int .i64 a1_1] 37 (0, 0)) (by (with_reducible repeat (first | refine blk_drewN ?_ _ | refine blk_drew ?_ | refine blk_alloc ?_ _)); exact BK189.out) hb)
               have n2_ := Aside0.mk (blk_below (g := gb191) (o := .cells #[.int .i64 ((rd_T45 l0 x18_1).f0), .int .i64 ((rd_T45 l0 x18_1).f1), .int .i64 ((rd_T45 l0 x18_1).f2), .int .i64 ((rd_T45 l0 x18_1).f3), .int .i64 ((rd_T45 l0 x18_1).f4), .int .i64 ((rd_T45 l0 x18_1).f5), .int .i64 ((rd_T45 l0 x18_1).f6), .int .i64 ((rd_T45 l0 x18_1).f7), .int .i64 ((rd_T45 l0 x18_1).f8), .int .i64 ((rd_T45 l0 x18_1).f9), .string ((rd_T45 l0 x18_1).f10), .string ((rd_T45 l0 x18_1).f11)] 45 (0, 0)) (by (with_reducible repeat (first | refine blk_drewN ?_ _ | refine blk_drew ?_ | refine blk_alloc ?_ _)); exact BK191.out) hb)
               have n3_ := Aside0.mk (blk_below (g := gb201) (o := .cells #[.int .i64 x202000_4, .int .i64 x202001_4] 37 (0, 0)) (by (with_reducible repeat (first | refine blk_drewN ?_ _ | refine blk_drew ?_ | refine blk_alloc ?_ _)); exact BK201.out) hb)
               have n4_ := Aside0.mk (below_step (by repeat (first | (with_reducible first | exact HB.out | apply below_alloc | apply pw_below_drewN | apply below_drew1 | refine below_set ?_ GE189.out | refine below_set ?_ GE191.out | refine below_set ?_ GE201.out) | exact HB.out)) hb)
               clear HO_47; clear BK189; clear BK191; clear BK201; clear HB
               have HO_47 := n0_
               have BK189 := n1_
               have BK191 := n2_
               have BK201 := n3_
               have HB := n4_
               clear n0_ n1_ n2_ n3_ n4_
               (try clear hb)
               (try clear hb2)
               (try clear hk)
               (try clear hi)
               refine hK.out _ _ ⟨(blk_cell BK201.out 0).trans rfl, (blk_cell BK201.out 1).trans rfl, (blk_cell BK191.out 0).trans rfl, (blk_cell BK191.out 1).trans rfl, (blk_cell BK191.out 2).trans rfl, (blk_cell BK191.out 3).trans rfl, (blk_cell BK191.out 4).trans rfl, (blk_cell BK191.out 5).trans rfl, (blk_cell BK191.out 6).trans rfl, (blk_cell BK191.out 7).trans rfl, (blk_cell BK191.out 8).trans rfl, (blk_cell BK191.out 9).trans rfl, (blk_cell BK191.out 10).trans rfl, (blk_cell BK191.out 11).trans rfl⟩ (fun hHeld => ?_)
               clear hK K
               refine norm_ (a' := ?_) ?_ ?_
               rotate_left
               ·show Act.put _ (some 78) _ = _
                simp only [Act.put, List.setIfInBounds_toArray, List.set_cons_zero, List.set_cons_succ, i64_w, i32_w]
                rfl
               refine last_ (i := 7) (N := none) #[true, true, true, true, true, true, true, true] rfl rfl (one_of HT_.out (by kernel_rfl)) (by decide) (fun K hK => ?_)
               have hs53 : w52.cell? ⟨gb201, 0, none⟩ = some (.int .i64 x202000_4) := (blk_cell BK201.out 0).trans rfl
               have hfs53 := blk_frozen BK201.out 0
               have hns53_0 := NB189_201.out
               have hns53_1 := NB191_201.out
               have hms53_0 := NB201_189.out
               have hms53_1 := NB201_191.out
               have hs54 : w52.cell? ⟨gb201, 1, none⟩ = some (.int .i64 x202001_4) := (blk_cell BK201.out 1).trans rfl
               have hfs54 := blk_frozen BK201.out 1
               have hns54_0 := NB189_201.out
               have hns54_1 := NB191_201.out
               have hms54_0 := NB201_189.out
               have hms54_1 := NB201_191.out
               refine skip_ (w1 := ?_) (by rfl) rfl ?_ ?_
               rotate_left
               ·go_simp
                rfl
               refine hK.out _ _ ?_
               clear hK K
               refine done_ (done_of HT_.out (by kernel_rfl)) ?_
               go_upto_region 20 with (fail)
               go_cut [102] (fun v102 wc => ∃ (kq : Nat) (x102_48 : Bool), v102 = .bool x102_48 ∧ Aside0 (chanceryref3_HitShape.j4 kq l0 x5_1 l0 (l0.length : Int) x18_1 x102_48 a1_0 a1_1 ((rd_T45 l0 x18_1).f0) ((rd_T45 l0 x18_1).f1) ((rd_T45 l0 x18_1).f2) ((rd_T45 l0 x18_1).f3) ((rd_T45 l0 x18_1).f4) ((rd_T45 l0 x18_1).f5) ((rd_T45 l0 x18_1).f6) ((rd_T45 l0 x18_1).f7) ((rd_T45 l0 x18_1).f8) ((rd_T45 l0 x18_1).f9) ((rd_T45 l0 x18_1).f10) ((rd_T45 l0 x18_1).f11) t210 t211 = some r) ∧ Aside0 (kq ≤ k4) ∧ Aside0 (wc.heap[gb189]? = some (.cells #[.int .i64 a1_0, .int .i64 a1_1] 37 (0, 0))) ∧ Aside0 (wc.heap[gb191]? = some (.cells #[.int .i64 ((rd_T45 l0 x18_1).f0), .int .i64 ((rd_T45 l0 x18_1).f1), .int .i64 ((rd_T45 l0 x18_1).f2), .int .i64 ((rd_T45 l0 x18_1).f3), .int .i64 ((rd_T45 l0 x18_1).f4), .int .i64 ((rd_T45 l0 x18_1).f5), .int .i64 ((rd_T45 l0 x18_1).f6), .int .i64 ((rd_T45 l0 x18_1).f7), .int .i64 ((rd_T45 l0 x18_1).f8), .int .i64 ((rd_T45 l0 x18_1).f9), .string ((rd_T45 l0 x18_1).f10), .string ((rd_T45 l0 x18_1).f11)] 45 (0, 0))) ∧ Aside0 (wc.heap[gb201]? = some (.cells #[.int .i64 t210, .int .i64 t211] 37 (0, 0))) ∧ Aside0 (Below w.heap.size w wc))
               case first =>
                have H := HC49.out
                clear HC49
                replace H := Option.bind_eq_some_iff.mp H
                obtain ⟨t212, A550, H⟩ := H
                replace H : (if t212 = true then ((chanceryref3_In.f t211 ((rd_T45 l0 x18_1).f4) (wrap64 (((rd_T45 l0 x18_1).f4) + ((rd_T45 l0 x18_1).f6)))).bind fun t213 => (chanceryref3_HitShape.j4 k4 l0 x5_1 l0 (l0.length : Int) x18_1 (!t213) a1_0 a1_1 ((rd_T45 l0 x18_1).f0) ((rd_T45 l0 x18_1).f1) ((rd_T45 l0 x18_1).f2) ((rd_T45 l0 x18_1).f3) ((rd_T45 l0 x18_1).f4) ((rd_T45 l0 x18_1).f5) ((rd_T45 l0 x18_1).f6) ((rd_T45 l0 x18_1).f7) ((rd_T45 l0 x18_1).f8) ((rd_T45 l0 x18_1).f9) ((rd_T45 l0 x18_1).f10) ((rd_T45 l0 x18_1).f11) t210 t211)) else (chanceryref3_HitShape.j4 k4 l0 x5_1 l0 (l0.length : Int) x18_1 true a1_0 a1_1 ((rd_T45 l0 x18_1).f0) ((rd_T45 l0 x18_1).f1) ((rd_T45 l0 x18_1).f2) ((rd_T45 l0 x18_1).f3) ((rd_T45 l0 x18_1).f4) ((rd_T45 l0 x18_1).f5) ((rd_T45 l0 x18_1).f6) ((rd_T45 l0 x18_1).f7) ((rd_T45 l0 x18_1).f8) ((rd_T45 l0 x18_1).f9) ((rd_T45 l0 x18_1).f10) ((rd_T45 l0 x18_1).f11) t210 t211)) = some r := H
                have A55 := Aside0.mk A550
                clear A550
                by_cases c56 : t212 = true
                ·subst c56
                 have H1 : ((chanceryref3_In.f t211 ((rd_T45 l0 x18_1).f4) (wrap64 (((rd_T45 l0 x18_1).f4) + ((rd_T45 l0 x18_1).f6)))).bind fun t213 => (chanceryref3_HitShape.j4 k4 l0 x5_1 l0 (l0.length : Int) x18_1 (!t213) a1_0 a1_1 ((rd_T45 l0 x18_1).f0) ((rd_T45 l0 x18_1).f1) ((rd_T45 l0 x18_1).f2) ((rd_T45 l0 x18_1).f3) ((rd_T45 l0 x18_1).f4) ((rd_T45 l0 x18_1).f5) ((rd_T45 l0 x18_1).f6) ((rd_T45 l0 x18_1).f7) ((rd_T45 l0 x18_1).f8) ((rd_T45 l0 x18_1).f9) ((rd_T45 l0 x18_1).f10) ((rd_T45 l0 x18_1).f11) t210 t211)) = some r := by rw [if_pos rfl] at H; exact H
                 clear H
                 have H := H1
                 clear H1
                 replace H := Option.bind_eq_some_iff.mp H
                 obtain ⟨t213, A570, H⟩ := H
                 replace H : (chanceryref3_HitShape.j4 k4 l0 x5_1 l0 (l0.length : Int) x18_1 (!t213) a1_0 a1_1 ((rd_T45 l0 x18_1).f0) ((rd_T45 l0 x18_1).f1) ((rd_T45 l0 x18_1).f2) ((rd_T45 l0 x18_1).f3) ((rd_T45 l0 x18_1).f4) ((rd_T45 l0 x18_1).f5) ((rd_T45 l0 x18_1).f6) ((rd_T45 l0 x18_1).f7) ((rd_T45 l0 x18_1).f8) ((rd_T45 l0 x18_1).f9) ((rd_T45 l0 x18_1).f10) ((rd_T45 l0 x18_1).f11) t210 t211) = some r := H
                 have A57 := Aside0.mk A570
                 clear A570
                 have H' := Aside0.mk H
                 clear H
                 have hnb58 := NB201_189.out
                 have hnc58 := NB189_201.out
                 have hnb59 := NB201_191.out
                 have hnc59 := NB191_201.out
                 have hcz60_0 : w52.cell? ⟨gb201, 0, none⟩ = some (.int .i64 x202000_4) := (blk_cell BK201.out 0).trans rfl
                 have hcz60_1 : w52.cell? ⟨gb201, 1, none⟩ = some (.int .i64 x202001_4) := (blk_cell BK201.out 1).trans rfl
                 have hfz60_0 := blk_frozen BK201.out 0
                 have hfz60_1 := blk_frozen BK201.out 1
                 have hnb61 := NB191_189.out
                 have hnc61 := NB189_191.out
                 obtain ⟨hcz62_0, hcz62_1, hcz62_2, hcz62_3, hcz62_4, hcz62_5, hcz62_6, hcz62_7, hcz62_8, hcz62_9, hcz62_10, hcz62_11⟩ := cells12 BK191.out
                 have hfz62_ := fun j => blk_frozen BK191.out j
                 go_wp2_with (first | ((with_reducible refine gate_callee (f := 14) rfl ?_); refine goesL_ (some 88) rfl rfl Tryd.func14 (by kernel_rfl) rfl #[.int .i64 t210, .int .i64 ((rd_T45 l0 x18_1).f3), .int .i64 (wrap64 (((rd_T45 l0 x18_1).f3) + ((rd_T45 l0 x18_1).f5)))] rfl (by (try simp only [List.map_toArray, List.map_cons, List.map_nil]); first | done | rfl) ?_; (with_reducible refine (chanceryref3_In.calls t210 ((rd_T45 l0 x18_1).f3) (wrap64 (((rd_T45 l0 x18_1).f3) + ((rd_T45 l0 x18_1).f5))) true _ A55.out).mono ?_); rintro e w' ⟨rfl, ⟨nd, rfl⟩⟩; refine ⟨_, rfl, ?_⟩) | (go_at_call 14; (with_reducible refine (chanceryref3_In.calls t211 ((rd_T45 l0 x18_1).f4) (wrap64 (((rd_T45 l0 x18_1).f4) + ((rd_T45 l0 x18_1).f6))) t213 _ A57.out).mono ?_); rintro e w' ⟨rfl, ⟨nd, rfl⟩⟩))
                 go_meet
                 case rel => exact ⟨_, (!t213), (by first | rfl | (simp; done) | (simp [*]; done)), H', ⟨by have := HK1.out; have := HJ6.out; have := HK3.out; have := HK4.out; first | omega | exact Nat.le_refl _⟩, ⟨by (with_reducible repeat (first | refine blk_drewN ?_ _ | refine blk_drew ?_ | refine blk_alloc ?_ _)); refine blk_far ?_ NB189_201.out _; (with_reducible repeat (first | refine blk_drewN ?_ _ | refine blk_drew ?_ | refine blk_alloc ?_ _)); refine blk_far ?_ NB189_201.out _; (with_reducible repeat (first | refine blk_drewN ?_ _ | refine blk_drew ?_ | refine blk_alloc ?_ _)); exact BK189.out⟩, ⟨by (with_reducible repeat (first | refine blk_drewN ?_ _ | refine blk_drew ?_ | refine blk_alloc ?_ _)); refine blk_far ?_ NB191_201.out _; (with_reducible repeat (first | refine blk_drewN ?_ _ | refine blk_drew ?_ | refine blk_alloc ?_ _)); refine blk_far ?_ NB191_201.out _; (with_reducible repeat (first | refine blk_drewN ?_ _ | refine blk_drew ?_ | refine blk_alloc ?_ _)); exact BK191.out⟩, ⟨by (with_reducible repeat (first | refine blk_drewN ?_ _ | refine blk_drew ?_ | refine blk_alloc ?_ _)); refine blk_put (cs := #[.int .i64 t210, .int .i64 x202001_4]) ?_ 1 _ rfl; (with_reducible repeat (first | refine blk_drewN ?_ _ | refine blk_drew ?_ | refine blk_alloc ?_ _)); refine blk_put (cs := #[.int .i64 x202000_4, .int .i64 x202001_4]) ?_ 0 _ rfl; (with_reducible repeat (first | refine blk_drewN ?_ _ | refine blk_drew ?_ | refine blk_alloc ?_ _)); exact BK201.out⟩, ⟨by repeat (first | (with_reducible first | exact HB.out | apply below_alloc | apply pw_below_drewN | apply below_drew1 | refine below_set ?_ GE189.out | refine below_set ?_ GE191.out | refine below_set ?_ GE201.out) | exact HB.out)⟩⟩
                ·replace c56 := Bool.eq_false_iff.mpr c56
                 subst c56
                 have H1 : (chanceryref3_HitShape.j4 k4 l0 x5_1 l0 (l0.length : Int) x18_1 true a1_0 a1_1 ((rd_T45 l0 x18_1).f0) ((rd_T45 l0 x18_1).f1) ((rd_T45 l0 x18_1).f2) ((rd_T45 l0 x18_1).f3) ((rd_T45 l0 x18_1).f4) ((rd_T45 l0 x18_1).f5) ((rd_T45 l0 x18_1).f6) ((rd_T45 l0 x18_1).f7) ((rd_T45 l0 x18_1).f8) ((rd_T45 l0 x18_1).f9) ((rd_T45 l0 x18_1).f10) ((rd_T45 l0 x18_1).f11) t210 t211) = some r := by rw [if_neg (show ¬ (false = true) by decide)] at H; exact H
                 clear H
                 have H := H1
                 clear H1
                 have H' := Aside0.mk H
                 clear H
                 have hnb63 := NB201_189.out
                 have hnc63 := NB189_201.out
                 have hnb64 := NB201_191.out
                 have hnc64 := NB191_201.out
                 have hcz65_0 : w52.cell? ⟨gb201, 0, none⟩ = some (.int .i64 x202000_4) := (blk_cell BK201.out 0).trans rfl
                 have hcz65_1 : w52.cell? ⟨gb201, 1, none⟩ = some (.int .i64 x202001_4) := (blk_cell BK201.out 1).trans rfl
                 have hfz65_0 := blk_frozen BK201.out 0
                 have hfz65_1 := blk_frozen BK201.out 1
                 have hnb66 := NB191_189.out
                 have hnc66 := NB189_191.out
                 obtain ⟨hcz67_0, hcz67_1, hcz67_2, hcz67_3, hcz67_4, hcz67_5, hcz67_6, hcz67_7, hcz67_8, hcz67_9, hcz67_10, hcz67_11⟩ := cells12 BK191.out
                 have hfz67_ := fun j => blk_frozen BK191.out j
                 go_wp2_with (first | ((with_reducible refine gate_callee (f := 14) rfl ?_); refine goesL_ (some 88) rfl rfl Tryd.func14 (by kernel_rfl) rfl #[.int .i64 t210, .int .i64 ((rd_T45 l0 x18_1).f3), .int .i64 (wrap64 (((rd_T45 l0 x18_1).f3) + ((rd_T45 l0 x18_1).f5)))] rfl (by (try simp only [List.map_toArray, List.map_cons, List.map_nil]); first | done | rfl) ?_; (with_reducible refine (chanceryref3_In.calls t210 ((rd_T45 l0 x18_1).f3) (wrap64 (((rd_T45 l0 x18_1).f3) + ((rd_T45 l0 x18_1).f5))) false _ A55.out).mono ?_); rintro e w' ⟨rfl, ⟨nd, rfl⟩⟩; refine ⟨_, rfl, ?_⟩))
                 go_meet
                 case rel => exact ⟨_, (true), (by first | rfl | (simp; done) | (simp [*]; done)), H', ⟨by have := HK1.out; have := HJ6.out; have := HK3.out; have := HK4.out; first | omega | exact Nat.le_refl _⟩, ⟨by (with_reducible repeat (first | refine blk_drewN ?_ _ | refine blk_drew ?_ | refine blk_alloc ?_ _)); refine blk_far ?_ NB189_201.out _; (with_reducible repeat (first | refine blk_drewN ?_ _ | refine blk_drew ?_ | refine blk_alloc ?_ _)); refine blk_far ?_ NB189_201.out _; (with_reducible repeat (first | refine blk_drewN ?_ _ | refine blk_drew ?_ | refine blk_alloc ?_ _)); exact BK189.out⟩, ⟨by (with_reducible repeat (first | refine blk_drewN ?_ _ | refine blk_drew ?_ | refine blk_alloc ?_ _)); refine blk_far ?_ NB191_201.out _; (with_reducible repeat (first | refine blk_drewN ?_ _ | refine blk_drew ?_ | refine blk_alloc ?_ _)); refine blk_far ?_ NB191_201.out _; (with_reducible repeat (first | refine blk_drewN ?_ _ | refine blk_drew ?_ | refine blk_alloc ?_ _)); exact BK191.out⟩, ⟨by (with_reducible repeat (first | refine blk_drewN ?_ _ | refine blk_drew ?_ | refine blk_alloc ?_ _)); refine blk_put (cs := #[.int .i64 t210, .int .i64 x202001_4]) ?_ 1 _ rfl; (with_reducible repeat (first | refine blk_drewN ?_ _ | refine blk_drew ?_ | refine blk_alloc ?_ _)); refine blk_put (cs := #[.int .i64 x202000_4, .int .i64 x202001_4]) ?_ 0 _ rfl; (with_reducible repeat (first | refine blk_drewN ?_ _ | refine blk_drew ?_ | refine blk_alloc ?_ _)); exact BK201.out⟩, ⟨by repeat (first | (with_reducible first | exact HB.out | apply below_alloc | apply pw_below_drewN | apply below_drew1 | refine below_set ?_ GE189.out | refine below_set ?_ GE191.out | refine below_set ?_ GE201.out) | exact HB.out)⟩⟩
               case rest =>
                clear HC49; try clear c1; try clear p1; try clear q1; try clear hx1; try clear c2; try clear p2; try clear q2; try clear hx2; try clear c3; try clear c4; try clear c5; try clear c6; try clear p6; try clear c14; try clear c19; try clear p19; try clear q19; try clear hx19; try clear c20; try clear p20; try clear q20; try clear hx20; try clear c27; try clear c27b0; try clear c28; try clear c28b0; try clear c29; try clear c29b0; try clear c33; try clear c34; try clear c35; try clear c43; try clear c44; try clear c56; try clear c58; try clear c59; try clear c61; try clear c63; try clear c64; try clear p64; try clear c66; try clear hcz18_2; try clear hcz18_3; try clear hcz18_4; try clear hcz18_5; try clear hcz18_6; try clear hcz18_7; try clear hcz18_8; try clear hcz18_9; try clear hcz21_0; try clear hcz21_1; try clear hcz25_0; try clear hcz25_1; try clear hcz36_0; try clear hcz36_1; try clear hcz36_10; try clear hcz36_11; try clear hcz36_2; try clear hcz36_3; try clear hcz36_4; try clear hcz36_5; try clear hcz36_6; try clear hcz36_7; try clear hcz36_8; try clear hcz36_9; try clear hcz45_0; try clear hcz45_1; try clear hcz46_0; try clear hcz46_1; try clear hcz46_10; try clear hcz46_11; try clear hcz46_2; try clear hcz46_3; try clear hcz46_4; try clear hcz46_5; try clear hcz46_6; try clear hcz46_7; try clear hcz46_8; try clear hcz46_9; try clear hcz60_0; try clear hcz60_1; try clear hcz62_0; try clear hcz62_1; try clear hcz62_10; try clear hcz62_11; try clear hcz62_2; try clear hcz62_3; try clear hcz62_4; try clear hcz62_5; try clear hcz62_6; try clear hcz62_7; try clear hcz62_8; try clear hcz62_9; try clear hcz65_0; try clear hcz65_1; try clear hcz67_0; try clear hcz67_1; try clear hcz67_10; try clear hcz67_11; try clear hcz67_2; try clear hcz67_3; try clear hcz67_4; try clear hcz67_5; try clear hcz67_6; try clear hcz67_7; try clear hcz67_8; try clear hcz67_9; try clear hfz10_0; try clear hfz10_1; try clear hfz10_10; try clear hfz10_11; try clear hfz10_2; try clear hfz10_3; try clear hfz10_4; try clear hfz10_5; try clear hfz10_6; try clear hfz10_7; try clear hfz10_8; try clear hfz10_9; try clear hfz13_0; try clear hfz13_1; try clear hfz13_10; try clear hfz13_11; try clear hfz13_2; try clear hfz13_3; try clear hfz13_4; try clear hfz13_5; try clear hfz13_6; try clear hfz13_7; try clear hfz13_8; try clear hfz13_9; try clear hfz15_0; try clear hfz15_1; try clear hfz15_10; try clear hfz15_11; try clear hfz15_2; try clear hfz15_3; try clear hfz15_4; try clear hfz15_5; try clear hfz15_6; try clear hfz15_7; try clear hfz15_8; try clear hfz15_9; try clear hfz18_0; try clear hfz18_1; try clear hfz18_10; try clear hfz18_11; try clear hfz18_2; try clear hfz18_3; try clear hfz18_4; try clear hfz18_5; try clear hfz18_6; try clear hfz18_7; try clear hfz18_8; try clear hfz18_9; try clear hfz21_0; try clear hfz21_1; try clear hfz25_0; try clear hfz25_1; try clear hfz36_0; try clear hfz36_1; try clear hfz36_10; try clear hfz36_11; try clear hfz36_2; try clear hfz36_3; try clear hfz36_4; try clear hfz36_5; try clear hfz36_6; try clear hfz36_7; try clear hfz36_8; try clear hfz36_9; try clear hfz45_0; try clear hfz45_1; try clear hfz46_0; try clear hfz46_1; try clear hfz46_10; try clear hfz46_11; try clear hfz46_2; try clear hfz46_3; try clear hfz46_4; try clear hfz46_5; try clear hfz46_6; try clear hfz46_7; try clear hfz46_8; try clear hfz46_9; try clear hfz60_0; try clear hfz60_1; try clear hfz62_0; try clear hfz62_1; try clear hfz62_10; try clear hfz62_11; try clear hfz62_2; try clear hfz62_3; try clear hfz62_4; try clear hfz62_5; try clear hfz62_6; try clear hfz62_7; try clear hfz62_8; try clear hfz62_9; try clear hfz65_0; try clear hfz65_1; try clear hfz67_0; try clear hfz67_1; try clear hfz67_10; try clear hfz67_11; try clear hfz67_2; try clear hfz67_3; try clear hfz67_4; try clear hfz67_5; try clear hfz67_6; try clear hfz67_7; try clear hfz67_8; try clear hfz67_9; try clear hx190_0; try clear hx190_1; try clear hx190_10; try clear hx190_11; try clear hx190_2; try clear hx190_3; try clear hx190_4; try clear hx190_5; try clear hx190_6; try clear hx190_7; try clear hx190_8; try clear hx190_9; try clear hx202_0; try clear hx202_1; try clear hx202_10; try clear hx202_11; try clear hx202_2; try clear hx202_3; try clear hx202_4; try clear hx202_5; try clear hx202_6; try clear hx202_7; try clear hx202_8; try clear hx202_9; try clear p190; try clear p202; try clear q190; try clear q202
                obtain ⟨kq, x102_48, rfl, HA, HJ48, BK189, BK191, BK201, HB⟩ := hcut
                cases kq with
                | zero => exact absurd HA.out (by simp [chanceryref3_HitShape.j4])
                | succ kj48 =>
                 have H := HA.out
                 clear HA
                 simp only [chanceryref3_HitShape.j4] at H
                 by_cases c68 : x102_48 = true
                 ·subst c68
                  have H1 : (chanceryref3_HitShape.l0 kj48 l0 x5_1 l0 (l0.length : Int) (wrap64 (x18_1 + 1)) a1_0 a1_1) = some r := by rw [if_pos rfl] at H; exact H
                  clear H
                  have H := H1
                  clear H1
                  have H' := Aside0.mk H
                  clear H
                  go_wp2
                  go_roundg kj48
                  case measure => have := HK1.out; have := HJ6.out; have := HK3.out; have := HK4.out; have := HJ48.out; omega
                  case rel => exact ⟨(x5_1), (wrap64 (x18_1 + 1)), (by first | rfl | (simp; done) | (simp [*]; done)), (by first | rfl | (simp; done) | (simp [*]; done)), H', ⟨by have := HK1.out; have := HJ6.out; have := HK3.out; have := HK4.out; have := HJ48.out; omega⟩, ⟨by (with_reducible repeat (first | refine blk_drewN ?_ _ | refine blk_drew ?_ | refine blk_alloc ?_ _)); exact BK189.out⟩, ⟨by repeat (first | (with_reducible first | exact HB.out | apply below_alloc | apply pw_below_drewN | apply below_drew1 | refine below_set ?_ GE189.out | refine below_set ?_ GE191.out | refine below_set ?_ GE201.out) | exact HB.out)⟩⟩
                 ·replace c68 := Bool.eq_false_iff.mpr c68
                  subst c68
                  have H1 : (if ((rd_T45 l0 x18_1).f2) = 1 then (if ((rd_T45 l0 x18_1).f5) > 0 then (chanceryref3_HitShape.j5 kj48 l0 x5_1 l0 (l0.length : Int) x18_1 (decide (((rd_T45 l0 x18_1).f6) > 0)) a1_0 a1_1 ((rd_T45 l0 x18_1).f0) ((rd_T45 l0 x18_1).f1) ((rd_T45 l0 x18_1).f2) ((rd_T45 l0 x18_1).f3) ((rd_T45 l0 x18_1).f4) ((rd_T45 l0 x18_1).f5) ((rd_T45 l0 x18_1).f6) ((rd_T45 l0 x18_1).f7) ((rd_T45 l0 x18_1).f8) ((rd_T45 l0 x18_1).f9) ((rd_T45 l0 x18_1).f10) ((rd_T45 l0 x18_1).f11) t210 t211) else (chanceryref3_HitShape.j5 kj48 l0 x5_1 l0 (l0.length : Int) x18_1 false a1_0 a1_1 ((rd_T45 l0 x18_1).f0) ((rd_T45 l0 x18_1).f1) ((rd_T45 l0 x18_1).f2) ((rd_T45 l0 x18_1).f3) ((rd_T45 l0 x18_1).f4) ((rd_T45 l0 x18_1).f5) ((rd_T45 l0 x18_1).f6) ((rd_T45 l0 x18_1).f7) ((rd_T45 l0 x18_1).f8) ((rd_T45 l0 x18_1).f9) ((rd_T45 l0 x18_1).f10) ((rd_T45 l0 x18_1).f11) t210 t211)) else (chanceryref3_HitShape.j5 kj48 l0 x5_1 l0 (l0.length : Int) x18_1 false a1_0 a1_1 ((rd_T45 l0 x18_1).f0) ((rd_T45 l0 x18_1).f1) ((rd_T45 l0 x18_1).f2) ((rd_T45 l0 x18_1).f3) ((rd_T45 l0 x18_1).f4) ((rd_T45 l0 x18_1).f5) ((rd_T45 l0 x18_1).f6) ((rd_T45 l0 x18_1).f7) ((rd_T45 l0 x18_1).f8) ((rd_T45 l0 x18_1).f9) ((rd_T45 l0 x18_1).f10) ((rd_T45 l0 x18_1).f11) t210 t211)) = some r := by rw [if_neg (show ¬ (false = true) by decide)] at H; exact H
                  clear H
                  have H := H1
                  clear H1
                  have HC69 := Aside0.mk H
                  clear H
                  go_upto_region 21 with (fail)
                  go_cut [115] (fun v115 wc => ∃ (kq : Nat) (x115_68 : Bool), v115 = .bool x115_68 ∧ Aside0 (chanceryref3_HitShape.j5 kq l0 x5_1 l0 (l0.length : Int) x18_1 x115_68 a1_0 a1_1 ((rd_T45 l0 x18_1).f0) ((rd_T45 l0 x18_1).f1) ((rd_T45 l0 x18_1).f2) ((rd_T45 l0 x18_1).f3) ((rd_T45 l0 x18_1).f4) ((rd_T45 l0 x18_1).f5) ((rd_T45 l0 x18_1).f6) ((rd_T45 l0 x18_1).f7) ((rd_T45 l0 x18_1).f8) ((rd_T45 l0 x18_1).f9) ((rd_T45 l0 x18_1).f10) ((rd_T45 l0 x18_1).f11) t210 t211 = some r) ∧ Aside0 (kq ≤ kj48) ∧ Aside0 (wc.heap[gb189]? = some (.cells #[.int .i64 a1_0, .int .i64 a1_1] 37 (0, 0))) ∧ Aside0 (wc.heap[gb191]? = some (.cells #[.int .i64 ((rd_T45 l0 x18_1).f0), .int .i64 ((rd_T45 l0 x18_1).f1), .int .i64 ((rd_T45 l0 x18_1).f2), .int .i64 ((rd_T45 l0 x18_1).f3), .int .i64 ((rd_T45 l0 x18_1).f4), .int .i64 ((rd_T45 l0 x18_1).f5), .int .i64 ((rd_T45 l0 x18_1).f6), .int .i64 ((rd_T45 l0 x18_1).f7), .int .i64 ((rd_T45 l0 x18_1).f8), .int .i64 ((rd_T45 l0 x18_1).f9), .string ((rd_T45 l0 x18_1).f10), .string ((rd_T45 l0 x18_1).f11)] 45 (0, 0))) ∧ Aside0 (wc.heap[gb201]? = some (.cells #[.int .i64 t210, .int .i64 t211] 37 (0, 0))) ∧ Aside0 (Below w.heap.size w wc))
                  case first =>
                   have H := HC69.out
                   clear HC69
                   by_cases c70 : ((rd_T45 l0 x18_1).f2) = 1
                   ·rw [if_pos c70] at H
                    have c70b0 : (((rd_T45 l0 x18_1).f2) == 1) = true := beq_iff_eq.mpr c70
                    have c70b1 : (((rd_T45 l0 x18_1).f2) != 1) = false := bne_eq_false_iff_eq.mpr c70
                    clear c70
                    (first | rw [c70b0] | (simp only [i64_w, i32_w]; rw [c70b0]) | skip)
                    by_cases c71 : ((rd_T45 l0 x18_1).f5) > 0
                    ·rw [if_pos c71] at H
                     have c71b0 : decide (0 < ((rd_T45 l0 x18_1).f5)) = true := decide_eq_true c71
                     clear c71
                     have H' := Aside0.mk H
                     clear H
                     have hnb72 := NB191_189.out
                     have hnc72 := NB189_191.out
                     have hnb73 := NB191_201.out
                     have hnc73 := NB201_191.out
                     obtain ⟨hcz74_0, hcz74_1, hcz74_2, hcz74_3, hcz74_4, hcz74_5, hcz74_6, hcz74_7, hcz74_8, hcz74_9, hcz74_10, hcz74_11⟩ := cells12 BK191.out
                     have hfz74_ := fun j => blk_frozen BK191.out j
                     go_wp2
                     go_meet
                     case rel => exact ⟨_, (decide (((rd_T45 l0 x18_1).f6) > 0)), (by first | rfl | (simp; done) | (simp [*]; done)), H', ⟨by have := HK1.out; have := HJ6.out; have := HK3.out; have := HK4.out; have := HJ48.out; first | omega | exact Nat.le_refl _⟩, ⟨by (with_reducible repeat (first | refine blk_drewN ?_ _ | refine blk_drew ?_ | refine blk_alloc ?_ _)); exact BK189.out⟩, ⟨by (with_reducible repeat (first | refine blk_drewN ?_ _ | refine blk_drew ?_ | refine blk_alloc ?_ _)); exact BK191.out⟩, ⟨by (with_reducible repeat (first | refine blk_drewN ?_ _ | refine blk_drew ?_ | refine blk_alloc ?_ _)); exact BK201.out⟩, ⟨by repeat (first | (with_reducible first | exact HB.out | apply below_alloc | apply pw_below_drewN | apply below_drew1 | refine below_set ?_ GE189.out | refine below_set ?_ GE191.out | refine below_set ?_ GE201.out) | exact HB.out)⟩⟩
                    ·rw [if_neg c71] at H
                     have c71b0 : decide (0 < ((rd_T45 l0 x18_1).f5)) = false := decide_eq_false c71
                     clear c71
                     have H' := Aside0.mk H
                     clear H
                     have hnb75 := NB191_189.out
                     have hnc75 := NB189_191.out
                     have hnb76 := NB191_201.out
                     have hnc76 := NB201_191.out
                     obtain ⟨hcz77_0, hcz77_1, hcz77_2, hcz77_3, hcz77_4, hcz77_5, hcz77_6, hcz77_7, hcz77_8, hcz77_9, hcz77_10, hcz77_11⟩ := cells12 BK191.out
                     have hfz77_ := fun j => blk_frozen BK191.out j
                     go_wp2
                     go_meet
                     case rel => exact ⟨_, (false), (by first | rfl | (simp; done) | (simp [*]; done)), H', ⟨by have := HK1.out; have := HJ6.out; have := HK3.out; have := HK4.out; have := HJ48.out; first | omega | exact Nat.le_refl _⟩, ⟨by (with_reducible repeat (first | refine blk_drewN ?_ _ | refine blk_drew ?_ | refine blk_alloc ?_ _)); exact BK189.out⟩, ⟨by (with_reducible repeat (first | refine blk_drewN ?_ _ | refine blk_drew ?_ | refine blk_alloc ?_ _)); exact BK191.out⟩, ⟨by (with_reducible repeat (first | refine blk_drewN ?_ _ | refine blk_drew ?_ | refine blk_alloc ?_ _)); exact BK201.out⟩, ⟨by repeat (first | (with_reducible first | exact HB.out | apply below_alloc | apply pw_below_drewN | apply below_drew1 | refine below_set ?_ GE189.out | refine below_set ?_ GE191.out | refine below_set ?_ GE201.out) | exact HB.out)⟩⟩
                   ·rw [if_neg c70] at H
                    have c70b0 : (((rd_T45 l0 x18_1).f2) == 1) = false := beq_eq_false_iff_ne.mpr c70
                    have c70b1 : (((rd_T45 l0 x18_1).f2) != 1) = true := bne_iff_ne.mpr c70
                    (first | rw [c70b0] | (simp only [i64_w, i32_w]; rw [c70b0]) | skip)
                    have H' := Aside0.mk H
                    clear H
                    have hnb78 := NB191_189.out
                    have hnc78 := NB189_191.out
                    have hnb79 := NB191_201.out
                    have hnc79 := NB201_191.out
                    obtain ⟨hcz80_0, hcz80_1, hcz80_2, hcz80_3, hcz80_4, hcz80_5, hcz80_6, hcz80_7, hcz80_8, hcz80_9, hcz80_10, hcz80_11⟩ := cells12 BK191.out
                    have hfz80_ := fun j => blk_frozen BK191.out j
                    go_wp2
                    go_meet
                    case rel => exact ⟨_, (false), (by first | rfl | (simp; done) | (simp [*]; done)), H', ⟨by have := HK1.out; have := HJ6.out; have := HK3.out; have := HK4.out; have := HJ48.out; first | omega | exact Nat.le_refl _⟩, ⟨by (with_reducible repeat (first | refine blk_drewN ?_ _ | refine blk_drew ?_ | refine blk_alloc ?_ _)); exact BK189.out⟩, ⟨by (with_reducible repeat (first | refine blk_drewN ?_ _ | refine blk_drew ?_ | refine blk_alloc ?_ _)); exact BK191.out⟩, ⟨by (with_reducible repeat (first | refine blk_drewN ?_ _ | refine blk_drew ?_ | refine blk_alloc ?_ _)); exact BK201.out⟩, ⟨by repeat (first | (with_reducible first | exact HB.out | apply below_alloc | apply pw_below_drewN | apply below_drew1 | refine below_set ?_ GE189.out | refine below_set ?_ GE191.out | refine below_set ?_ GE201.out) | exact HB.out)⟩⟩
                  case rest =>
                   clear HC69; try clear c1; try clear p1; try clear q1; try clear hx1; try clear c2; try clear p2; try clear q2; try clear hx2; try clear c3; try clear c4; try clear c5; try clear c6; try clear p6; try clear c7; try clear c14; try clear c19; try clear p19; try clear q19; try clear hx19; try clear c20; try clear p20; try clear q20; try clear hx20; try clear c27; try clear c27b0; try clear c28; try clear c28b0; try clear c29; try clear c29b0; try clear c33; try clear c34; try clear c35; try clear c43; try clear c44; try clear c56; try clear c58; try clear c59; try clear c61; try clear c63; try clear c64; try clear p64; try clear c66; try clear c68; try clear c70; try clear c70b0; try clear c70b1; try clear c71; try clear c71b0; try clear c72; try clear c73; try clear c75; try clear c76; try clear c78; try clear c79; try clear hcz18_2; try clear hcz18_3; try clear hcz18_4; try clear hcz18_5; try clear hcz18_6; try clear hcz18_7; try clear hcz18_8; try clear hcz18_9; try clear hcz21_0; try clear hcz21_1; try clear hcz25_0; try clear hcz25_1; try clear hcz36_0; try clear hcz36_1; try clear hcz36_10; try clear hcz36_11; try clear hcz36_2; try clear hcz36_3; try clear hcz36_4; try clear hcz36_5; try clear hcz36_6; try clear hcz36_7; try clear hcz36_8; try clear hcz36_9; try clear hcz45_0; try clear hcz45_1; try clear hcz46_0; try clear hcz46_1; try clear hcz46_10; try clear hcz46_11; try clear hcz46_2; try clear hcz46_3; try clear hcz46_4; try clear hcz46_5; try clear hcz46_6; try clear hcz46_7; try clear hcz46_8; try clear hcz46_9; try clear hcz60_0; try clear hcz60_1; try clear hcz62_0; try clear hcz62_1; try clear hcz62_10; try clear hcz62_11; try clear hcz62_2; try clear hcz62_3; try clear hcz62_4; try clear hcz62_5; try clear hcz62_6; try clear hcz62_7; try clear hcz62_8; try clear hcz62_9; try clear hcz65_0; try clear hcz65_1; try clear hcz67_0; try clear hcz67_1; try clear hcz67_10; try clear hcz67_11; try clear hcz67_2; try clear hcz67_3; try clear hcz67_4; try clear hcz67_5; try clear hcz67_6; try clear hcz67_7; try clear hcz67_8; try clear hcz67_9; try clear hcz74_0; try clear hcz74_1; try clear hcz74_10; try clear hcz74_11; try clear hcz74_2; try clear hcz74_3; try clear hcz74_4; try clear hcz74_5; try clear hcz74_6; try clear hcz74_7; try clear hcz74_8; try clear hcz74_9; try clear hcz77_0; try clear hcz77_1; try clear hcz77_10; try clear hcz77_11; try clear hcz77_2; try clear hcz77_3; try clear hcz77_4; try clear hcz77_5; try clear hcz77_6; try clear hcz77_7; try clear hcz77_8; try clear hcz77_9; try clear hcz80_0; try clear hcz80_1; try clear hcz80_10; try clear hcz80_11; try clear hcz80_2; try clear hcz80_3; try clear hcz80_4; try clear hcz80_5; try clear hcz80_6; try clear hcz80_7; try clear hcz80_8; try clear hcz80_9; try clear hfz10_0; try clear hfz10_1; try clear hfz10_10; try clear hfz10_11; try clear hfz10_2; try clear hfz10_3; try clear hfz10_4; try clear hfz10_5; try clear hfz10_6; try clear hfz10_7; try clear hfz10_8; try clear hfz10_9; try clear hfz13_0; try clear hfz13_1; try clear hfz13_10; try clear hfz13_11; try clear hfz13_2; try clear hfz13_3; try clear hfz13_4; try clear hfz13_5; try clear hfz13_6; try clear hfz13_7; try clear hfz13_8; try clear hfz13_9; try clear hfz15_0; try clear hfz15_1; try clear hfz15_10; try clear hfz15_11; try clear hfz15_2; try clear hfz15_3; try clear hfz15_4; try clear hfz15_5; try clear hfz15_6; try clear hfz15_7; try clear hfz15_8; try clear hfz15_9; try clear hfz18_0; try clear hfz18_1; try clear hfz18_10; try clear hfz18_11; try clear hfz18_2; try clear hfz18_3; try clear hfz18_4; try clear hfz18_5; try clear hfz18_6; try clear hfz18_7; try clear hfz18_8; try clear hfz18_9; try clear hfz21_0; try clear hfz21_1; try clear hfz25_0; try clear hfz25_1; try clear hfz36_0; try clear hfz36_1; try clear hfz36_10; try clear hfz36_11; try clear hfz36_2; try clear hfz36_3; try clear hfz36_4; try clear hfz36_5; try clear hfz36_6; try clear hfz36_7; try clear hfz36_8; try clear hfz36_9; try clear hfz45_0; try clear hfz45_1; try clear hfz46_0; try clear hfz46_1; try clear hfz46_10; try clear hfz46_11; try clear hfz46_2; try clear hfz46_3; try clear hfz46_4; try clear hfz46_5; try clear hfz46_6; try clear hfz46_7; try clear hfz46_8; try clear hfz46_9; try clear hfz60_0; try clear hfz60_1; try clear hfz62_0; try clear hfz62_1; try clear hfz62_10; try clear hfz62_11; try clear hfz62_2; try clear hfz62_3; try clear hfz62_4; try clear hfz62_5; try clear hfz62_6; try clear hfz62_7; try clear hfz62_8; try clear hfz62_9; try clear hfz65_0; try clear hfz65_1; try clear hfz67_0; try clear hfz67_1; try clear hfz67_10; try clear hfz67_11; try clear hfz67_2; try clear hfz67_3; try clear hfz67_4; try clear hfz67_5; try clear hfz67_6; try clear hfz67_7; try clear hfz67_8; try clear hfz67_9; try clear hfz74_0; try clear hfz74_1; try clear hfz74_10; try clear hfz74_11; try clear hfz74_2; try clear hfz74_3; try clear hfz74_4; try clear hfz74_5; try clear hfz74_6; try clear hfz74_7; try clear hfz74_8; try clear hfz74_9; try clear hfz77_0; try clear hfz77_1; try clear hfz77_10; try clear hfz77_11; try clear hfz77_2; try clear hfz77_3; try clear hfz77_4; try clear hfz77_5; try clear hfz77_6; try clear hfz77_7; try clear hfz77_8; try clear hfz77_9; try clear hfz80_0; try clear hfz80_1; try clear hfz80_10; try clear hfz80_11; try clear hfz80_2; try clear hfz80_3; try clear hfz80_4; try clear hfz80_5; try clear hfz80_6; try clear hfz80_7; try clear hfz80_8; try clear hfz80_9; try clear hx190_0; try clear hx190_1; try clear hx190_10; try clear hx190_11; try clear hx190_2; try clear hx190_3; try clear hx190_4; try clear hx190_5; try clear hx190_6; try clear hx190_7; try clear hx190_8; try clear hx190_9; try clear hx202_0; try clear hx202_1; try clear hx202_10; try clear hx202_11; try clear hx202_2; try clear hx202_3; try clear hx202_4; try clear hx202_5; try clear hx202_6; try clear hx202_7; try clear hx202_8; try clear hx202_9; try clear p190; try clear p202; try clear q190; try clear q202
                   obtain ⟨kq, x115_68, rfl, HA, HJ68, BK189, BK191, BK201, HB⟩ := hcut
                   cases kq with
                   | zero => exact absurd HA.out (by simp [chanceryref3_HitShape.j5])
                   | succ kj68 =>
                    have H := HA.out
                    clear HA
                    simp only [chanceryref3_HitShape.j5] at H
                    by_cases c81 : x115_68 = true
                    ·subst c81
                     have H1 : ((chanceryref3_Near.f (wrap64 (1024 * (wrap64 ((wrap64 ((wrap64 (2 * t210)) - (wrap64 (2 * ((rd_T45 l0 x18_1).f3))))) - ((rd_T45 l0 x18_1).f5))))) ((rd_T45 l0 x18_1).f5)).bind fun t214 => ((chanceryref3_Near.f (wrap64 (1024 * (wrap64 ((wrap64 ((wrap64 (2 * t211)) - (wrap64 (2 * ((rd_T45 l0 x18_1).f4))))) - ((rd_T45 l0 x18_1).f6))))) ((rd_T45 l0 x18_1).f6)).bind fun t215 => (if (wrap64 ((wrap64 (t214 * t214)) + (wrap64 (t215 * t215)))) > 1048576 then (chanceryref3_HitShape.l0 kj68 l0 x5_1 l0 (l0.length : Int) (wrap64 (x18_1 + 1)) a1_0 a1_1) else (chanceryref3_HitShape.l0 kj68 l0 ((rd_T45 l0 x18_1).f0) l0 (l0.length : Int) (wrap64 (x18_1 + 1)) a1_0 a1_1)))) = some r := by rw [if_pos rfl] at H; exact H
                     clear H
                     have H := H1
                     clear H1
                     replace H := Option.bind_eq_some_iff.mp H
                     obtain ⟨t214, A820, H⟩ := H
                     replace H : ((chanceryref3_Near.f (wrap64 (1024 * (wrap64 ((wrap64 ((wrap64 (2 * t211)) - (wrap64 (2 * ((rd_T45 l0 x18_1).f4))))) - ((rd_T45 l0 x18_1).f6))))) ((rd_T45 l0 x18_1).f6)).bind fun t215 => (if (wrap64 ((wrap64 (t214 * t214)) + (wrap64 (t215 * t215)))) > 1048576 then (chanceryref3_HitShape.l0 kj68 l0 x5_1 l0 (l0.length : Int) (wrap64 (x18_1 + 1)) a1_0 a1_1) else (chanceryref3_HitShape.l0 kj68 l0 ((rd_T45 l0 x18_1).f0) l0 (l0.length : Int) (wrap64 (x18_1 + 1)) a1_0 a1_1))) = some r := H
                     have A82 := Aside0.mk A820
                     clear A820
                     replace H := Option.bind_eq_some_iff.mp H
                     obtain ⟨t215, A830, H⟩ := H
                     replace H : (if (wrap64 ((wrap64 (t214 * t214)) + (wrap64 (t215 * t215)))) > 1048576 then (chanceryref3_HitShape.l0 kj68 l0 x5_1 l0 (l0.length : Int) (wrap64 (x18_1 + 1)) a1_0 a1_1) else (chanceryref3_HitShape.l0 kj68 l0 ((rd_T45 l0 x18_1).f0) l0 (l0.length : Int) (wrap64 (x18_1 + 1)) a1_0 a1_1)) = some r := H
                     have A83 := Aside0.mk A830
                     clear A830
                     by_cases c84 : (wrap64 ((wrap64 (t214 * t214)) + (wrap64 (t215 * t215)))) > 1048576
                     ·rw [if_pos c84] at H
                      have c84b0 : decide (1048576 < (wrap64 ((wrap64 (t214 * t214)) + (wrap64 (t215 * t215))))) = true := decide_eq_true c84
                      clear c84
                      have H' := Aside0.mk H
                      clear H
                      try go_wp2
                      have n0_ := Aside0.mk (blk_drew BK189.out)
                      have n1_ := Aside0.mk (blk_drew BK191.out)
                      have n2_ := Aside0.mk (blk_drew BK201.out)
                      have n3_ := Aside0.mk (below_drew1 HB.out)
                      clear BK189; clear BK191; clear BK201; clear HB
                      have BK189 := n0_
                      have BK191 := n1_
                      have BK201 := n2_
                      have HB := n3_
                      clear n0_ n1_ n2_ n3_
                      refine start_ (n := 30) (S := fun w' => w'.cell? ⟨gb201, 0, none⟩ = some (.int .i64 t210) ∧ w'.cell? ⟨gb201, 1, none⟩ = some (.int .i64 t211) ∧ w'.cell? ⟨gb191, 0, none⟩ = some (.int .i64 ((rd_T45 l0 x18_1).f0)) ∧ w'.cell? ⟨gb191, 1, none⟩ = some (.int .i64 ((rd_T45 l0 x18_1).f1)) ∧ w'.cell? ⟨gb191, 2, none⟩ = some (.int .i64 ((rd_T45 l0 x18_1).f2)) ∧ w'.cell? ⟨gb191, 3, none⟩ = some (.int .i64 ((rd_T45 l0 x18_1).f3)) ∧ w'.cell? ⟨gb191, 4, none⟩ = some (.int .i64 ((rd_T45 l0 x18_1).f4)) ∧ w'.cell? ⟨gb191, 5, none⟩ = some (.int .i64 ((rd_T45 l0 x18_1).f5)) ∧ w'.cell? ⟨gb191, 6, none⟩ = some (.int .i64 ((rd_T45 l0 x18_1).f6)) ∧ w'.cell? ⟨gb191, 7, none⟩ = some (.int .i64 ((rd_T45 l0 x18_1).f7)) ∧ w'.cell? ⟨gb191, 8, none⟩ = some (.int .i64 ((rd_T45 l0 x18_1).f8)) ∧ w'.cell? ⟨gb191, 9, none⟩ = some (.int .i64 ((rd_T45 l0 x18_1).f9)) ∧ w'.cell? ⟨gb191, 10, none⟩ = some (.string ((rd_T45 l0 x18_1).f10)) ∧ w'.cell? ⟨gb191, 11, none⟩ = some (.string ((rd_T45 l0 x18_1).f11))) (ds := []) #[false, false, false, false, false, false, false, false, false, false, false, false, false, false, false, false, false, false, false, false, false, false, false, false, false, false, false, false, false, false] (by kernel_rfl) rfl rfl ⟨(blk_cell BK201.out 0).trans rfl, (blk_cell BK201.out 1).trans rfl, (blk_cell BK191.out 0).trans rfl, (blk_cell BK191.out 1).trans rfl, (blk_cell BK191.out 2).trans rfl, (blk_cell BK191.out 3).trans rfl, (blk_cell BK191.out 4).trans rfl, (blk_cell BK191.out 5).trans rfl, (blk_cell BK191.out 6).trans rfl, (blk_cell BK191.out 7).trans rfl, (blk_cell BK191.out 8).trans rfl, (blk_cell BK191.out 9).trans rfl, (blk_cell BK191.out 10).trans rfl, (blk_cell BK191.out 11).trans rfl⟩ (fun hHeld => ?_); refine with_tabW chanceryref3_HitShape.tab22 chanceryref3_HitShape.bits22 (fun HT_ HW_ => ?_)
                      generalize wc.drew = w85 at BK189 BK191 BK201 HB hHeld ⊢
                      refine pure_ (i := 0) (N := some 116) (v := ?_) (a' := ?_) #[true, false, false, false, false, false, false, false, false, false, false, false, false, false, false, false, false, false, false, false, false, false, false, false, false, false, false, false, false, false] rfl rfl (any_of HT_.out (by kernel_rfl)) (fun _ _ _ h => h) (Or.inl ⟨by rfl, ?_⟩) ?_ ?_
                      rotate_left
                      ·intro w'
                       go_simp
                       with_reducible rfl
                      rotate_left
                      ·simp only [Act.put, List.setIfInBounds_toArray, List.set_cons_zero, List.set_cons_succ, i64_w, i32_w]
                       rfl
                      refine pure_ (i := 3) (N := some 119) (v := ?_) (a' := ?_) #[true, false, false, true, false, false, false, false, false, false, false, false, false, false, false, false, false, false, false, false, false, false, false, false, false, false, false, false, false, false] rfl rfl (any_of HT_.out (by kernel_rfl)) (fun _ _ _ h => h) (Or.inl ⟨by rfl, ?_⟩) ?_ ?_
                      rotate_left
                      ·intro w'
                       go_simp
                       with_reducible rfl
                      rotate_left
                      ·simp only [Act.put, List.setIfInBounds_toArray, List.set_cons_zero, List.set_cons_succ, i64_w, i32_w]
                       rfl
                      refine pure_ (i := 7) (N := some 123) (v := ?_) (a' := ?_) #[true, false, false, true, false, false, false, true, false, false, false, false, false, false, false, false, false, false, false, false, false, false, false, false, false, false, false, false, false, false] rfl rfl (any_of HT_.out (by kernel_rfl)) (fun _ _ _ h => h) (Or.inl ⟨by rfl, ?_⟩) ?_ ?_
                      rotate_left
                      ·intro w'
                       go_simp
                       with_reducible rfl
                      rotate_left
                      ·simp only [Act.put, List.setIfInBounds_toArray, List.set_cons_zero, List.set_cons_succ, i64_w, i32_w]
                       rfl
                      refine pure_ (i := 11) (N := some 127) (v := ?_) (a' := ?_) #[true, false, false, true, false, false, false, true, false, false, false, true, false, false, false, false, false, false, false, false, false, false, false, false, false, false, false, false, false, false] rfl rfl (any_of HT_.out (by kernel_rfl)) (fun _ _ _ h => h) (Or.inl ⟨by rfl, ?_⟩) ?_ ?_
                      rotate_left
                      ·intro w'
                       go_simp
                       with_reducible rfl
                      rotate_left
                      ·simp only [Act.put, List.setIfInBounds_toArray, List.set_cons_zero, List.set_cons_succ, i64_w, i32_w]
                       rfl
                      refine pure_ (i := 14) (N := some 130) (v := ?_) (a' := ?_) #[true, false, false, true, false, false, false, true, false, false, false, true, false, false, true, false, false, false, false, false, false, false, false, false, false, false, false, false, false, false] rfl rfl (any_of HT_.out (by kernel_rfl)) (fun _ _ _ h => h) (Or.inl ⟨by rfl, ?_⟩) ?_ ?_
                      rotate_left
                      ·intro w'
                       go_simp
                       with_reducible rfl
                      rotate_left
                      ·simp only [Act.put, List.setIfInBounds_toArray, List.set_cons_zero, List.set_cons_succ, i64_w, i32_w]
                       rfl
                      refine pure_ (i := 17) (N := some 133) (v := ?_) (a' := ?_) #[true, false, false, true, false, false, false, true, false, false, false, true, false, false, true, false, false, true, false, false, false, false, false, false, false, false, false, false, false, false] rfl rfl (any_of HT_.out (by kernel_rfl)) (fun _ _ _ h => h) (Or.inl ⟨by rfl, ?_⟩) ?_ ?_
                      rotate_left
                      ·intro w'
                       go_simp
                       with_reducible rfl
                      rotate_left
                      ·simp only [Act.put, List.setIfInBounds_toArray, List.set_cons_zero, List.set_cons_succ, i64_w, i32_w]
                       rfl
                      refine pure_ (i := 21) (N := some 137) (v := ?_) (a' := ?_) #[true, false, false, true, false, false, false, true, false, false, false, true, false, false, true, false, false, true, false, false, false, true, false, false, false, false, false, false, false, false] rfl rfl (any_of HT_.out (by kernel_rfl)) (fun _ _ _ h => h) (Or.inl ⟨by rfl, ?_⟩) ?_ ?_
                      rotate_left
                      ·intro w'
                       go_simp
                       with_reducible rfl
                      rotate_left
                      ·simp only [Act.put, List.setIfInBounds_toArray, List.set_cons_zero, List.set_cons_succ, i64_w, i32_w]
                       rfl
                      refine pure_ (i := 25) (N := some 141) (v := ?_) (a' := ?_) #[true, false, false, true, false, false, false, true, false, false, false, true, false, false, true, false, false, true, false, false, false, true, false, false, false, true, false, false, false, false] rfl rfl (any_of HT_.out (by kernel_rfl)) (fun _ _ _ h => h) (Or.inl ⟨by rfl, ?_⟩) ?_ ?_
                      rotate_left
                      ·intro w'
                       go_simp
                       with_reducible rfl
                      rotate_left
                      ·simp only [Act.put, List.setIfInBounds_toArray, List.set_cons_zero, List.set_cons_succ, i64_w, i32_w]
                       rfl
                      refine take_ (i := 1) (N := some 117) (v := ?_) (a' := ?_) #[true, true, false, true, false, false, false, true, false, false, false, true, false, false, true, false, false, true, false, false, false, true, false, false, false, true, false, false, false, false] rfl rfl (take_ofW HT_.out HW_.out (by kernel_rfl)) (fun _ _ _ h => h) (Or.inl ⟨by rfl, ?_⟩) hHeld ?_ ?_
                      rotate_left
                      ·rintro w' ⟨s0, s1, s2, s3, s4, s5, s6, s7, s8, s9, s10, s11, s12, s13⟩
                       go_simp
                       with_reducible rfl
                      rotate_left
                      ·simp only [Act.put, List.setIfInBounds_toArray, List.set_cons_zero, List.set_cons_succ, i64_w, i32_w]
                       rfl
                      refine pure_ (i := 2) (N := some 118) (v := ?_) (a' := ?_) #[true, true, true, true, false, false, false, true, false, false, false, true, false, false, true, false, false, true, false, false, false, true, false, false, false, true, false, false, false, false] rfl rfl (any_of HT_.out (by kernel_rfl)) (fun _ _ _ h => h) (Or.inl ⟨by rfl, ?_⟩) ?_ ?_
                      rotate_left
                      ·intro w'
                       go_simp
                       with_reducible rfl
                      rotate_left
                      ·simp only [Act.put, List.setIfInBounds_toArray, List.set_cons_zero, List.set_cons_succ, i64_w, i32_w]
                       rfl
                      refine take_ (i := 4) (N := some 120) (v := ?_) (a' := ?_) #[true, true, true, true, true, false, false, true, false, false, false, true, false, false, true, false, false, true, false, false, false, true, false, false, false, true, false, false, false, false] rfl rfl (take_ofW HT_.out HW_.out (by kernel_rfl)) (fun _ _ _ h => h) (Or.inl ⟨by rfl, ?_⟩) hHeld ?_ ?_
                      rotate_left
                      ·rintro w' ⟨s0, s1, s2, s3, s4, s5, s6, s7, s8, s9, s10, s11, s12, s13⟩
                       go_simp
                       with_reducible rfl
                      rotate_left
                      ·simp only [Act.put, List.setIfInBounds_toArray, List.set_cons_zero, List.set_cons_succ, i64_w, i32_w]
                       rfl
                      refine pure_ (i := 5) (N := some 121) (v := ?_) (a' := ?_) #[true, true, true, true, true, true, false, true, false, false, false, true, false, false, true, false, false, true, false, false, false, true, false, false, false, true, false, false, false, false] rfl rfl (any_of HT_.out (by kernel_rfl)) (fun _ _ _ h => h) (Or.inl ⟨by rfl, ?_⟩) ?_ ?_
                      rotate_left
                      ·intro w'
                       go_simp
                       with_reducible rfl
                      rotate_left
                      ·simp only [Act.put, List.setIfInBounds_toArray, List.set_cons_zero, List.set_cons_succ, i64_w, i32_w]
                       rfl
                      refine pure_ (i := 6) (N := some 122) (v := ?_) (a' := ?_) #[true, true, true, true, true, true, true, true, false, false, false, true, false, false, true, false, false, true, false, false, false, true, false, false, false, true, false, false, false, false] rfl rfl (any_of HT_.out (by kernel_rfl)) (fun _ _ _ h => h) (Or.inl ⟨by rfl, ?_⟩) ?_ ?_
                      rotate_left
                      ·intro w'
                       go_simp
                       with_reducible rfl
                      rotate_left
                      ·simp only [Act.put, List.setIfInBounds_toArray, List.set_cons_zero, List.set_cons_succ, i64_w, i32_w]
                       rfl
                      refine take_ (i := 8) (N := some 124) (v := ?_) (a' := ?_) #[true, true, true, true, true, true, true, true, true, false, false, true, false, false, true, false, false, true, false, false, false, true, false, false, false, true, false, false, false, false] rfl rfl (take_ofW HT_.out HW_.out (by kernel_rfl)) (fun _ _ _ h => h) (Or.inl ⟨by rfl, ?_⟩) hHeld ?_ ?_
                      rotate_left
                      ·rintro w' ⟨s0, s1, s2, s3, s4, s5, s6, s7, s8, s9, s10, s11, s12, s13⟩
                       go_simp
                       with_reducible rfl
                      rotate_left
                      ·simp only [Act.put, List.setIfInBounds_toArray, List.set_cons_zero, List.set_cons_succ, i64_w, i32_w]
                       rfl
                      refine pure_ (i := 9) (N := some 125) (v := ?_) (a' := ?_) #[true, true, true, true, true, true, true, true, true, true, false, true, false, false, true, false, false, true, false, false, false, true, false, false, false, true, false, false, false, false] rfl rfl (any_of HT_.out (by kernel_rfl)) (fun _ _ _ h => h) (Or.inl ⟨by rfl, ?_⟩) ?_ ?_
                      rotate_left
                      ·intro w'
                       go_simp
                       with_reducible rfl
                      rotate_left
                      ·simp only [Act.put, List.setIfInBounds_toArray, List.set_cons_zero, List.set_cons_succ, i64_w, i32_w]
                       rfl
                      refine pure_ (i := 10) (N := some 126) (v := ?_) (a' := ?_) #[true, true, true, true, true, true, true, true, true, true, true, true, false, false, true, false, false, true, false, false, false, true, false, false, false, true, false, false, false, false] rfl rfl (any_of HT_.out (by kernel_rfl)) (fun _ _ _ h => h) (Or.inl ⟨by rfl, ?_⟩) ?_ ?_
                      rotate_left
                      ·intro w'
                       go_simp
                       with_reducible rfl
                      rotate_left
                      ·simp only [Act.put, List.setIfInBounds_toArray, List.set_cons_zero, List.set_cons_succ, i64_w, i32_w]
                       rfl
                      refine take_ (i := 12) (N := some 128) (v := ?_) (a' := ?_) #[true, true, true, true, true, true, true, true, true, true, true, true, true, false, true, false, false, true, false, false, false, true, false, false, false, true, false, false, false, false] rfl rfl (take_ofW HT_.out HW_.out (by kernel_rfl)) (fun _ _ _ h => h) (Or.inl ⟨by rfl, ?_⟩) hHeld ?_ ?_
                      rotate_left
                      ·rintro w' ⟨s0, s1, s2, s3, s4, s5, s6, s7, s8, s9, s10, s11, s12, s13⟩
                       go_simp
                       with_reducible rfl
                      rotate_left
                      ·simp only [Act.put, List.setIfInBounds_toArray, List.set_cons_zero, List.set_cons_succ, i64_w, i32_w]
                       rfl
                      refine take_ (i := 15) (N := some 131) (v := ?_) (a' := ?_) #[true, true, true, true, true, true, true, true, true, true, true, true, true, false, true, true, false, true, false, false, false, true, false, false, false, true, false, false, false, false] rfl rfl (take_ofW HT_.out HW_.out (by kernel_rfl)) (fun _ _ _ h => h) (Or.inl ⟨by rfl, ?_⟩) hHeld ?_ ?_
                      rotate_left
                      ·rintro w' ⟨s0, s1, s2, s3, s4, s5, s6, s7, s8, s9, s10, s11, s12, s13⟩
                       go_simp
                       with_reducible rfl
                      rotate_left
                      ·simp only [Act.put, List.setIfInBounds_toArray, List.set_cons_zero, List.set_cons_succ, i64_w, i32_w]
                       rfl
                      refine pure_ (i := 16) (N := some 132) (v := ?_) (a' := ?_) #[true, true, true, true, true, true, true, true, true, true, true, true, true, false, true, true, true, true, false, false, false, true, false, false, false, true, false, false, false, false] rfl rfl (any_of HT_.out (by kernel_rfl)) (fun _ _ _ h => h) (Or.inl ⟨by rfl, ?_⟩) ?_ ?_
                      rotate_left
                      ·intro w'
                       go_simp
                       with_reducible rfl
                      rotate_left
                      ·simp only [Act.put, List.setIfInBounds_toArray, List.set_cons_zero, List.set_cons_succ, i64_w, i32_w]
                       rfl
                      refine take_ (i := 18) (N := some 134) (v := ?_) (a' := ?_) #[true, true, true, true, true, true, true, true, true, true, true, true, true, false, true, true, true, true, true, false, false, true, false, false, false, true, false, false, false, false] rfl rfl (take_ofW HT_.out HW_.out (by kernel_rfl)) (fun _ _ _ h => h) (Or.inl ⟨by rfl, ?_⟩) hHeld ?_ ?_
                      rotate_left
                      ·rintro w' ⟨s0, s1, s2, s3, s4, s5, s6, s7, s8, s9, s10, s11, s12, s13⟩
                       go_simp
                       with_reducible rfl
                      rotate_left
                      ·simp only [Act.put, List.setIfInBounds_toArray, List.set_cons_zero, List.set_cons_succ, i64_w, i32_w]
                       rfl
                      refine pure_ (i := 19) (N := some 135) (v := ?_) (a' := ?_) #[true, true, true, true, true, true, true, true, true, true, true, true, true, false, true, true, true, true, true, true, false, true, false, false, false, true, false, false, false, false] rfl rfl (any_of HT_.out (by kernel_rfl)) (fun _ _ _ h => h) (Or.inl ⟨by rfl, ?_⟩) ?_ ?_
                      rotate_left
                      ·intro w'
                       go_simp
                       with_reducible rfl
                      rotate_left
                      ·simp only [Act.put, List.setIfInBounds_toArray, List.set_cons_zero, List.set_cons_succ, i64_w, i32_w]
                       rfl
                      refine pure_ (i := 20) (N := some 136) (v := ?_) (a' := ?_) #[true, true, true, true, true, true, true, true, true, true, true, true, true, false, true, true, true, true, true, true, true, true, false, false, false, true, false, false, false, false] rfl rfl (any_of HT_.out (by kernel_rfl)) (fun _ _ _ h => h) (Or.inl ⟨by rfl, ?_⟩) ?_ ?_
                      rotate_left
                      ·intro w'
                       go_simp
                       with_reducible rfl
                      rotate_left
                      ·simp only [Act.put, List.setIfInBounds_toArray, List.set_cons_zero, List.set_cons_succ, i64_w, i32_w]
                       rfl
                      refine take_ (i := 22) (N := some 138) (v := ?_) (a' := ?_) #[true, true, true, true, true, true, true, true, true, true, true, true, true, false, true, true, true, true, true, true, true, true, true, false, false, true, false, false, false, false] rfl rfl (take_ofW HT_.out HW_.out (by kernel_rfl)) (fun _ _ _ h => h) (Or.inl ⟨by rfl, ?_⟩) hHeld ?_ ?_
                      rotate_left
                      ·rintro w' ⟨s0, s1, s2, s3, s4, s5, s6, s7, s8, s9, s10, s11, s12, s13⟩
                       go_simp
                       with_reducible rfl
                      rotate_left
                      ·simp only [Act.put, List.setIfInBounds_toArray, List.set_cons_zero, List.set_cons_succ, i64_w, i32_w]
                       rfl
                      refine pure_ (i := 23) (N := some 139) (v := ?_) (a' := ?_) #[true, true, true, true, true, true, true, true, true, true, true, true, true, false, true, true, true, true, true, true, true, true, true, true, false, true, false, false, false, false] rfl rfl (any_of HT_.out (by kernel_rfl)) (fun _ _ _ h => h) (Or.inl ⟨by rfl, ?_⟩) ?_ ?_
                      rotate_left
                      ·intro w'
                       go_simp
                       with_reducible rfl
                      rotate_left
                      ·simp only [Act.put, List.setIfInBounds_toArray, List.set_cons_zero, List.set_cons_succ, i64_w, i32_w]
                       rfl
                      refine pure_ (i := 24) (N := some 140) (v := ?_) (a' := ?_) #[true, true, true, true, true, true, true, true, true, true, true, true, true, false, true, true, true, true, true, true, true, true, true, true, true, true, false, false, false, false] rfl rfl (any_of HT_.out (by kernel_rfl)) (fun _ _ _ h => h) (Or.inl ⟨by rfl, ?_⟩) ?_ ?_
                      rotate_left
                      ·intro w'
                       go_simp
                       with_reducible rfl
                      rotate_left
                      ·simp only [Act.put, List.setIfInBounds_toArray, List.set_cons_zero, List.set_cons_succ, i64_w, i32_w]
                       rfl
                      refine take_ (i := 26) (N := some 142) (v := ?_) (a' := ?_) #[true, true, true, true, true, true, true, true, true, true, true, true, true, false, true, true, true, true, true, true, true, true, true, true, true, true, true, false, false, false] rfl rfl (take_ofW HT_.out HW_.out (by kernel_rfl)) (fun _ _ _ h => h) (Or.inl ⟨by rfl, ?_⟩) hHeld ?_ ?_
                      rotate_left
                      ·rintro w' ⟨s0, s1, s2, s3, s4, s5, s6, s7, s8, s9, s10, s11, s12, s13⟩
                       go_simp
                       with_reducible rfl
                      rotate_left
                      ·simp only [Act.put, List.setIfInBounds_toArray, List.set_cons_zero, List.set_cons_succ, i64_w, i32_w]
                       rfl
                      refine one_ (i := 13) (N := some 129) #[true, true, true, true, true, true, true, true, true, true, true, true, true, true, true, true, true, true, true, true, true, true, true, true, true, true, true, false, false, false] rfl rfl (one_of HT_.out (by kernel_rfl)) (by decide) (fun K hK => ?_)
                      refine goes_ Tryd.func23 (by kernel_rfl) rfl #[.int .i64 (wrap64 (1024 * (wrap64 ((wrap64 ((wrap64 (2 * t210)) - (wrap64 (2 * ((rd_T45 l0 x18_1).f3))))) - ((rd_T45 l0 x18_1).f5))))), .int .i64 ((rd_T45 l0 x18_1).f5)] (by rfl) rfl rfl (by (try simp only [List.map_toArray, List.map_cons, List.map_nil]); first | done | rfl) ?_
                      with_reducible refine (chanceryref3_Near.calls (wrap64 (1024 * (wrap64 ((wrap64 ((wrap64 (2 * t210)) - (wrap64 (2 * ((rd_T45 l0 x18_1).f3))))) - ((rd_T45 l0 x18_1).f5))))) ((rd_T45 l0 x18_1).f5) t214 _ A82.out).mono ?_
                      rintro e w' ⟨rfl, ⟨nd, rfl⟩⟩
                      refine ⟨_, rfl, ?_⟩
                      refine hK.out _ _ ⟨(blk_cell BK201.out 0).trans rfl, (blk_cell BK201.out 1).trans rfl, (blk_cell BK191.out 0).trans rfl, (blk_cell BK191.out 1).trans rfl, (blk_cell BK191.out 2).trans rfl, (blk_cell BK191.out 3).trans rfl, (blk_cell BK191.out 4).trans rfl, (blk_cell BK191.out 5).trans rfl, (blk_cell BK191.out 6).trans rfl, (blk_cell BK191.out 7).trans rfl, (blk_cell BK191.out 8).trans rfl, (blk_cell BK191.out 9).trans rfl, (blk_cell BK191.out 10).trans rfl, (blk_cell BK191.out 11).trans rfl⟩ (fun hHeld => ?_)
                      clear hK K
                      refine norm_ (a' := ?_) ?_ ?_
                      rotate_left
                      ·show Act.put _ (some 129) _ = _
                       simp only [Act.put, List.setIfInBounds_toArray, List.set_cons_zero, List.set_cons_succ, i64_w, i32_w]
                       rfl
                      refine one_ (i := 27) (N := some 143) #[true, true, true, true, true, true, true, true, true, true, true, true, true, true, true, true, true, true, true, true, true, true, true, true, true, true, true, true, false, false] rfl rfl (one_of HT_.out (by kernel_rfl)) (by decide) (fun K hK => ?_)
                      refine goes_ Tryd.func23 (by kernel_rfl) rfl #[.int .i64 (wrap64 (1024 * (wrap64 ((wrap64 ((wrap64 (2 * t211)) - (wrap64 (2 * ((rd_T45 l0 x18_1).f4))))) - ((rd_T45 l0 x18_1).f6))))), .int .i64 ((rd_T45 l0 x18_1).f6)] (by rfl) rfl rfl (by (try simp only [List.map_toArray, List.map_cons, List.map_nil]); first | done | rfl) ?_
                      with_reducible refine (chanceryref3_Near.calls (wrap64 (1024 * (wrap64 ((wrap64 ((wrap64 (2 * t211)) - (wrap64 (2 * ((rd_T45 l0 x18_1).f4))))) - ((rd_T45 l0 x18_1).f6))))) ((rd_T45 l0 x18_1).f6) t215 _ A83.out).mono ?_
                      rintro e w' ⟨rfl, ⟨nd, rfl⟩⟩
                      refine ⟨_, rfl, ?_⟩
                      refine hK.out _ _ ⟨(blk_cell BK201.out 0).trans rfl, (blk_cell BK201.out 1).trans rfl, (blk_cell BK191.out 0).trans rfl, (blk_cell BK191.out 1).trans rfl, (blk_cell BK191.out 2).trans rfl, (blk_cell BK191.out 3).trans rfl, (blk_cell BK191.out 4).trans rfl, (blk_cell BK191.out 5).trans rfl, (blk_cell BK191.out 6).trans rfl, (blk_cell BK191.out 7).trans rfl, (blk_cell BK191.out 8).trans rfl, (blk_cell BK191.out 9).trans rfl, (blk_cell BK191.out 10).trans rfl, (blk_cell BK191.out 11).trans rfl⟩ (fun hHeld => ?_)
                      clear hK K
                      refine norm_ (a' := ?_) ?_ ?_
                      rotate_left
                      ·show Act.put _ (some 143) _ = _
                       simp only [Act.put, List.setIfInBounds_toArray, List.set_cons_zero, List.set_cons_succ, i64_w, i32_w]
                       rfl
                      refine pure_ (i := 28) (N := some 14) (v := ?_) (a' := ?_) #[true, true, true, true, true, true, true, true, true, true, true, true, true, true, true, true, true, true, true, true, true, true, true, true, true, true, true, true, true, false] rfl rfl (any_of HT_.out (by kernel_rfl)) (fun _ _ _ h => h) (Or.inl ⟨by rfl, ?_⟩) ?_ ?_
                      rotate_left
                      ·intro w'
                       go_simp
                       with_reducible rfl
                      rotate_left
                      ·simp only [Act.put, List.setIfInBounds_toArray, List.set_cons_zero, List.set_cons_succ, i64_w, i32_w]
                       rfl
                      refine pure_ (i := 29) (N := some 15) (v := ?_) (a' := ?_) #[true, true, true, true, true, true, true, true, true, true, true, true, true, true, true, true, true, true, true, true, true, true, true, true, true, true, true, true, true, true] rfl rfl (any_of HT_.out (by kernel_rfl)) (fun _ _ _ h => h) (Or.inl ⟨by rfl, ?_⟩) ?_ ?_
                      rotate_left
                      ·intro w'
                       go_simp
                       with_reducible rfl
                      rotate_left
                      ·simp only [Act.put, List.setIfInBounds_toArray, List.set_cons_zero, List.set_cons_succ, i64_w, i32_w]
                       rfl
                      refine done_ (done_of HT_.out (by kernel_rfl)) ?_
                      try go_wp2
                      go_roundg kj68
                      case measure => have := HK1.out; have := HJ6.out; have := HK3.out; have := HK4.out; have := HJ48.out; have := HJ68.out; omega
                      case rel => exact ⟨(x5_1), (wrap64 (x18_1 + 1)), (by first | rfl | (simp; done) | (simp [*]; done)), (by first | rfl | (simp; done) | (simp [*]; done)), H', ⟨by have := HK1.out; have := HJ6.out; have := HK3.out; have := HK4.out; have := HJ48.out; have := HJ68.out; omega⟩, ⟨by (with_reducible repeat (first | refine blk_drewN ?_ _ | refine blk_drew ?_ | refine blk_alloc ?_ _)); exact BK189.out⟩, ⟨by repeat (first | (with_reducible first | exact HB.out | apply below_alloc | apply pw_below_drewN | apply below_drew1 | refine below_set ?_ GE189.out | refine below_set ?_ GE191.out | refine below_set ?_ GE201.out) | exact HB.out)⟩⟩
                     ·rw [if_neg c84] at H
                      have c84b0 : decide (1048576 < (wrap64 ((wrap64 (t214 * t214)) + (wrap64 (t215 * t215))))) = false := decide_eq_false c84
                      clear c84
                      have H' := Aside0.mk H
                      clear H
                      try go_wp2
                      have n0_ := Aside0.mk (blk_drew BK189.out)
                      have n1_ := Aside0.mk (blk_drew BK191.out)
                      have n2_ := Aside0.mk (blk_drew BK201.out)
                      have n3_ := Aside0.mk (below_drew1 HB.out)
                      clear BK189; clear BK191; clear BK201; clear HB
                      have BK189 := n0_
                      have BK191 := n1_
                      have BK201 := n2_
                      have HB := n3_
                      clear n0_ n1_ n2_ n3_
                      refine start_ (n := 30) (S := fun w' => w'.cell? ⟨gb201, 0, none⟩ = some (.int .i64 t210) ∧ w'.cell? ⟨gb201, 1, none⟩ = some (.int .i64 t211) ∧ w'.cell? ⟨gb191, 0, none⟩ = some (.int .i64 ((rd_T45 l0 x18_1).f0)) ∧ w'.cell? ⟨gb191, 1, none⟩ = some (.int .i64 ((rd_T45 l0 x18_1).f1)) ∧ w'.cell? ⟨gb191, 2, none⟩ = some (.int .i64 ((rd_T45 l0 x18_1).f2)) ∧ w'.cell? ⟨gb191, 3, none⟩ = some (.int .i64 ((rd_T45 l0 x18_1).f3)) ∧ w'.cell? ⟨gb191, 4, none⟩ = some (.int .i64 ((rd_T45 l0 x18_1).f4)) ∧ w'.cell? ⟨gb191, 5, none⟩ = some (.int .i64 ((rd_T45 l0 x18_1).f5)) ∧ w'.cell? ⟨gb191, 6, none⟩ = some (.int .i64 ((rd_T45 l0 x18_1).f6)) ∧ w'.cell? ⟨gb191, 7, none⟩ = some (.int .i64 ((rd_T45 l0 x18_1).f7)) ∧ w'.cell? ⟨gb191, 8, none⟩ = some (.int .i64 ((rd_T45 l0 x18_1).f8)) ∧ w'.cell? ⟨gb191, 9, none⟩ = some (.int .i64 ((rd_T45 l0 x18_1).f9)) ∧ w'.cell? ⟨gb191, 10, none⟩ = some (.string ((rd_T45 l0 x18_1).f10)) ∧ w'.cell? ⟨gb191, 11, none⟩ = some (.string ((rd_T45 l0 x18_1).f11))) (ds := []) #[false, false, false, false, false, false, false, false, false, false, false, false, false, false, false, false, false, false, false, false, false, false, false, false, false, false, false, false, false, false] (by kernel_rfl) rfl rfl ⟨(blk_cell BK201.out 0).trans rfl, (blk_cell BK201.out 1).trans rfl, (blk_cell BK191.out 0).trans rfl, (blk_cell BK191.out 1).trans rfl, (blk_cell BK191.out 2).trans rfl, (blk_cell BK191.out 3).trans rfl, (blk_cell BK191.out 4).trans rfl, (blk_cell BK191.out 5).trans rfl, (blk_cell BK191.out 6).trans rfl, (blk_cell BK191.out 7).trans rfl, (blk_cell BK191.out 8).trans rfl, (blk_cell BK191.out 9).trans rfl, (blk_cell BK191.out 10).trans rfl, (blk_cell BK191.out 11).trans rfl⟩ (fun hHeld => ?_); refine with_tabW chanceryref3_HitShape.tab22 chanceryref3_HitShape.bits22 (fun HT_ HW_ => ?_)
                      generalize wc.drew = w86 at BK189 BK191 BK201 HB hHeld ⊢
                      refine pure_ (i := 0) (N := some 116) (v := ?_) (a' := ?_) #[true, false, false, false, false, false, false, false, false, false, false, false, false, false, false, false, false, false, false, false, false, false, false, false, false, false, false, false, false, false] rfl rfl (any_of HT_.out (by kernel_rfl)) (fun _ _ _ h => h) (Or.inl ⟨by rfl, ?_⟩) ?_ ?_
                      rotate_left
                      ·intro w'
                       go_simp
                       with_reducible rfl
                      rotate_left
                      ·simp only [Act.put, List.setIfInBounds_toArray, List.set_cons_zero, List.set_cons_succ, i64_w, i32_w]
                       rfl
                      refine pure_ (i := 3) (N := some 119) (v := ?_) (a' := ?_) #[true, false, false, true, false, false, false, false, false, false, false, false, false, false, false, false, false, false, false, false, false, false, false, false, false, false, false, false, false, false] rfl rfl (any_of HT_.out (by kernel_rfl)) (fun _ _ _ h => h) (Or.inl ⟨by rfl, ?_⟩) ?_ ?_
                      rotate_left
                      ·intro w'
                       go_simp
                       with_reducible rfl
                      rotate_left
                      ·simp only [Act.put, List.setIfInBounds_toArray, List.set_cons_zero, List.set_cons_succ, i64_w, i32_w]
                       rfl
                      refine pure_ (i := 7) (N := some 123) (v := ?_) (a' := ?_) #[true, false, false, true, false, false, false, true, false, false, false, false, false, false, false, false, false, false, false, false, false, false, false, false, false, false, false, false, false, false] rfl rfl (any_of HT_.out (by kernel_rfl)) (fun _ _ _ h => h) (Or.inl ⟨by rfl, ?_⟩) ?_ ?_
                      rotate_left
                      ·intro w'
                       go_simp
                       with_reducible rfl
                      rotate_left
                      ·simp only [Act.put, List.setIfInBounds_toArray, List.set_cons_zero, List.set_cons_succ, i64_w, i32_w]
                       rfl
                      refine pure_ (i := 11) (N := some 127) (v := ?_) (a' := ?_) #[true, false, false, true, false, false, false, true, false, false, false, true, false, false, false, false, false, false, false, false, false, false, false, false, false, false, false, false, false, false] rfl rfl (any_of HT_.out (by kernel_rfl)) (fun _ _ _ h => h) (Or.inl ⟨by rfl, ?_⟩) ?_ ?_
                      rotate_left
                      ·intro w'
                       go_simp
                       with_reducible rfl
                      rotate_left
                      ·simp only [Act.put, List.setIfInBounds_toArray, List.set_cons_zero, List.set_cons_succ, i64_w, i32_w]
                       rfl
                      refine pure_ (i := 14) (N := some 130) (v := ?_) (a' := ?_) #[true, false, false, true, false, false, false, true, false, false, false, true, false, false, true, false, false, false, false, false, false, false, false, false, false, false, false, false, false, false] rfl rfl (any_of HT_.out (by kernel_rfl)) (fun _ _ _ h => h) (Or.inl ⟨by rfl, ?_⟩) ?_ ?_
                      rotate_left
                      ·intro w'
                       go_simp
                       with_reducible rfl
                      rotate_left
                      ·simp only [Act.put, List.setIfInBounds_toArray, List.set_cons_zero, List.set_cons_succ, i64_w, i32_w]
                       rfl
                      refine pure_ (i := 17) (N := some 133) (v := ?_) (a' := ?_) #[true, false, false, true, false, false, false, true, false, false, false, true, false, false, true, false, false, true, false, false, false, false, false, false, false, false, false, false, false, false] rfl rfl (any_of HT_.out (by kernel_rfl)) (fun _ _ _ h => h) (Or.inl ⟨by rfl, ?_⟩) ?_ ?_
                      rotate_left
                      ·intro w'
                       go_simp
                       with_reducible rfl
                      rotate_left
                      ·simp only [Act.put, List.setIfInBounds_toArray, List.set_cons_zero, List.set_cons_succ, i64_w, i32_w]
                       rfl
                      refine pure_ (i := 21) (N := some 137) (v := ?_) (a' := ?_) #[true, false, false, true, false, false, false, true, false, false, false, true, false, false, true, false, false, true, false, false, false, true, false, false, false, false, false, false, false, false] rfl rfl (any_of HT_.out (by kernel_rfl)) (fun _ _ _ h => h) (Or.inl ⟨by rfl, ?_⟩) ?_ ?_
                      rotate_left
                      ·intro w'
                       go_simp
                       with_reducible rfl
                      rotate_left
                      ·simp only [Act.put, List.setIfInBounds_toArray, List.set_cons_zero, List.set_cons_succ, i64_w, i32_w]
                       rfl
                      refine pure_ (i := 25) (N := some 141) (v := ?_) (a' := ?_) #[true, false, false, true, false, false, false, true, false, false, false, true, false, false, true, false, false, true, false, false, false, true, false, false, false, true, false, false, false, false] rfl rfl (any_of HT_.out (by kernel_rfl)) (fun _ _ _ h => h) (Or.inl ⟨by rfl, ?_⟩) ?_ ?_
                      rotate_left
                      ·intro w'
                       go_simp
                       with_reducible rfl
                      rotate_left
                      ·simp only [Act.put, List.setIfInBounds_toArray, List.set_cons_zero, List.set_cons_succ, i64_w, i32_w]
                       rfl
                      refine take_ (i := 1) (N := some 117) (v := ?_) (a' := ?_) #[true, true, false, true, false, false, false, true, false, false, false, true, false, false, true, false, false, true, false, false, false, true, false, false, false, true, false, false, false, false] rfl rfl (take_ofW HT_.out HW_.out (by kernel_rfl)) (fun _ _ _ h => h) (Or.inl ⟨by rfl, ?_⟩) hHeld ?_ ?_
                      rotate_left
                      ·rintro w' ⟨s0, s1, s2, s3, s4, s5, s6, s7, s8, s9, s10, s11, s12, s13⟩
                       go_simp
                       with_reducible rfl
                      rotate_left
                      ·simp only [Act.put, List.setIfInBounds_toArray, List.set_cons_zero, List.set_cons_succ, i64_w, i32_w]
                       rfl
                      refine pure_ (i := 2) (N := some 118) (v := ?_) (a' := ?_) #[true, true, true, true, false, false, false, true, false, false, false, true, false, false, true, false, false, true, false, false, false, true, false, false, false, true, false, false, false, false] rfl rfl (any_of HT_.out (by kernel_rfl)) (fun _ _ _ h => h) (Or.inl ⟨by rfl, ?_⟩) ?_ ?_
                      rotate_left
                      ·intro w'
                       go_simp
                       with_reducible rfl
                      rotate_left
                      ·simp only [Act.put, List.setIfInBounds_toArray, List.set_cons_zero, List.set_cons_succ, i64_w, i32_w]
                       rfl
                      refine take_ (i := 4) (N := some 120) (v := ?_) (a' := ?_) #[true, true, true, true, true, false, false, true, false, false, false, true, false, false, true, false, false, true, false, false, false, true, false, false, false, true, false, false, false, false] rfl rfl (take_ofW HT_.out HW_.out (by kernel_rfl)) (fun _ _ _ h => h) (Or.inl ⟨by rfl, ?_⟩) hHeld ?_ ?_
                      rotate_left
                      ·rintro w' ⟨s0, s1, s2, s3, s4, s5, s6, s7, s8, s9, s10, s11, s12, s13⟩
                       go_simp
                       with_reducible rfl
                      rotate_left
                      ·simp only [Act.put, List.setIfInBounds_toArray, List.set_cons_zero, List.set_cons_succ, i64_w, i32_w]
                       rfl
                      refine pure_ (i := 5) (N := some 121) (v := ?_) (a' := ?_) #[true, true, true, true, true, true, false, true, false, false, false, true, false, false, true, false, false, true, false, false, false, true, false, false, false, true, false, false, false, false] rfl rfl (any_of HT_.out (by kernel_rfl)) (fun _ _ _ h => h) (Or.inl ⟨by rfl, ?_⟩) ?_ ?_
                      rotate_left
                      ·intro w'
                       go_simp
                       with_reducible rfl
                      rotate_left
                      ·simp only [Act.put, List.setIfInBounds_toArray, List.set_cons_zero, List.set_cons_succ, i64_w, i32_w]
                       rfl
                      refine pure_ (i := 6) (N := some 122) (v := ?_) (a' := ?_) #[true, true, true, true, true, true, true, true, false, false, false, true, false, false, true, false, false, true, false, false, false, true, false, false, false, true, false, false, false, false] rfl rfl (any_of HT_.out (by kernel_rfl)) (fun _ _ _ h => h) (Or.inl ⟨by rfl, ?_⟩) ?_ ?_
                      rotate_left
                      ·intro w'
                       go_simp
                       with_reducible rfl
                      rotate_left
                      ·simp only [Act.put, List.setIfInBounds_toArray, List.set_cons_zero, List.set_cons_succ, i64_w, i32_w]
                       rfl
                      refine take_ (i := 8) (N := some 124) (v := ?_) (a' := ?_) #[true, true, true, true, true, true, true, true, true, false, false, true, false, false, true, false, false, true, false, false, false, true, false, false, false, true, false, false, false, false] rfl rfl (take_ofW HT_.out HW_.out (by kernel_rfl)) (fun _ _ _ h => h) (Or.inl ⟨by rfl, ?_⟩) hHeld ?_ ?_
                      rotate_left
                      ·rintro w' ⟨s0, s1, s2, s3, s4, s5, s6, s7, s8, s9, s10, s11, s12, s13⟩
                       go_simp
                       with_reducible rfl
                      rotate_left
                      ·simp only [Act.put, List.setIfInBounds_toArray, List.set_cons_zero, List.set_cons_succ, i64_w, i32_w]
                       rfl
                      refine pure_ (i := 9) (N := some 125) (v := ?_) (a' := ?_) #[true, true, true, true, true, true, true, true, true, true, false, true, false, false, true, false, false, true, false, false, false, true, false, false, false, true, false, false, false, false] rfl rfl (any_of HT_.out (by kernel_rfl)) (fun _ _ _ h => h) (Or.inl ⟨by rfl, ?_⟩) ?_ ?_
                      rotate_left
                      ·intro w'
                       go_simp
                       with_reducible rfl
                      rotate_left
                      ·simp only [Act.put, List.setIfInBounds_toArray, List.set_cons_zero, List.set_cons_succ, i64_w, i32_w]
                       rfl
                      refine pure_ (i := 10) (N := some 126) (v := ?_) (a' := ?_) #[true, true, true, true, true, true, true, true, true, true, true, true, false, false, true, false, false, true, false, false, false, true, false, false, false, true, false, false, false, false] rfl rfl (any_of HT_.out (by kernel_rfl)) (fun _ _ _ h => h) (Or.inl ⟨by rfl, ?_⟩) ?_ ?_
                      rotate_left
                      ·intro w'
                       go_simp
                       with_reducible rfl
                      rotate_left
                      ·simp only [Act.put, List.setIfInBounds_toArray, List.set_cons_zero, List.set_cons_succ, i64_w, i32_w]
                       rfl
                      refine take_ (i := 12) (N := some 128) (v := ?_) (a' := ?_) #[true, true, true, true, true, true, true, true, true, true, true, true, true, false, true, false, false, true, false, false, false, true, false, false, false, true, false, false, false, false] rfl rfl (take_ofW HT_.out HW_.out (by kernel_rfl)) (fun _ _ _ h => h) (Or.inl ⟨by rfl, ?_⟩) hHeld ?_ ?_
                      rotate_left
                      ·rintro w' ⟨s0, s1, s2, s3, s4, s5, s6, s7, s8, s9, s10, s11, s12, s13⟩
                       go_simp
                       with_reducible rfl
                      rotate_left
                      ·simp only [Act.put, List.setIfInBounds_toArray, List.set_cons_zero, List.set_cons_succ, i64_w, i32_w]
                       rfl
                      refine take_ (i := 15) (N := some 131) (v := ?_) (a' := ?_) #[true, true, true, true, true, true, true, true, true, true, true, true, true, false, true, true, false, true, false, false, false, true, false, false, false, true, false, false, false, false] rfl rfl (take_ofW HT_.out HW_.out (by kernel_rfl)) (fun _ _ _ h => h) (Or.inl ⟨by rfl, ?_⟩) hHeld ?_ ?_
                      rotate_left
                      ·rintro w' ⟨s0, s1, s2, s3, s4, s5, s6, s7, s8, s9, s10, s11, s12, s13⟩
                       go_simp
                       with_reducible rfl
                      rotate_left
                      ·simp only [Act.put, List.setIfInBounds_toArray, List.set_cons_zero, List.set_cons_succ, i64_w, i32_w]
                       rfl
                      refine pure_ (i := 16) (N := some 132) (v := ?_) (a' := ?_) #[true, true, true, true, true, true, true, true, true, true, true, true, true, false, true, true, true, true, false, false, false, true, false, false, false, true, false, false, false, false] rfl rfl (any_of HT_.out (by kernel_rfl)) (fun _ _ _ h => h) (Or.inl ⟨by rfl, ?_⟩) ?_ ?_
                      rotate_left
                      ·intro w'
                       go_simp
                       with_reducible rfl
                      rotate_left
                      ·simp only [Act.put, List.setIfInBounds_toArray, List.set_cons_zero, List.set_cons_succ, i64_w, i32_w]
                       rfl
                      refine take_ (i := 18) (N := some 134) (v := ?_) (a' := ?_) #[true, true, true, true, true, true, true, true, true, true, true, true, true, false, true, true, true, true, true, false, false, true, false, false, false, true, false, false, false, false] rfl rfl (take_ofW HT_.out HW_.out (by kernel_rfl)) (fun _ _ _ h => h) (Or.inl ⟨by rfl, ?_⟩) hHeld ?_ ?_
                      rotate_left
                      ·rintro w' ⟨s0, s1, s2, s3, s4, s5, s6, s7, s8, s9, s10, s11, s12, s13⟩
                       go_simp
                       with_reducible rfl
                      rotate_left
                      ·simp only [Act.put, List.setIfInBounds_toArray, List.set_cons_zero, List.set_cons_succ, i64_w, i32_w]
                       rfl
                      refine pure_ (i := 19) (N := some 135) (v := ?_) (a' := ?_) #[true, true, true, true, true, true, true, true, true, true, true, true, true, false, true, true, true, true, true, true, false, true, false, false, false, true, false, false, false, false] rfl rfl (any_of HT_.out (by kernel_rfl)) (fun _ _ _ h => h) (Or.inl ⟨by rfl, ?_⟩) ?_ ?_
                      rotate_left
                      ·intro w'
                       go_simp
                       with_reducible rfl
                      rotate_left
                      ·simp only [Act.put, List.setIfInBounds_toArray, List.set_cons_zero, List.set_cons_succ, i64_w, i32_w]
                       rfl
                      refine pure_ (i := 20) (N := some 136) (v := ?_) (a' := ?_) #[true, true, true, true, true, true, true, true, true, true, true, true, true, false, true, true, true, true, true, true, true, true, false, false, false, true, false, false, false, false] rfl rfl (any_of HT_.out (by kernel_rfl)) (fun _ _ _ h => h) (Or.inl ⟨by rfl, ?_⟩) ?_ ?_
                      rotate_left
                      ·intro w'
                       go_simp
                       with_reducible rfl
                      rotate_left
                      ·simp only [Act.put, List.setIfInBounds_toArray, List.set_cons_zero, List.set_cons_succ, i64_w, i32_w]
                       rfl
                      refine take_ (i := 22) (N := some 138) (v := ?_) (a' := ?_) #[true, true, true, true, true, true, true, true, true, true, true, true, true, false, true, true, true, true, true, true, true, true, true, false, false, true, false, false, false, false] rfl rfl (take_ofW HT_.out HW_.out (by kernel_rfl)) (fun _ _ _ h => h) (Or.inl ⟨by rfl, ?_⟩) hHeld ?_ ?_
                      rotate_left
                      ·rintro w' ⟨s0, s1, s2, s3, s4, s5, s6, s7, s8, s9, s10, s11, s12, s13⟩
                       go_simp
                       with_reducible rfl
                      rotate_left
                      ·simp only [Act.put, List.setIfInBounds_toArray, List.set_cons_zero, List.set_cons_succ, i64_w, i32_w]
                       rfl
                      refine pure_ (i := 23) (N := some 139) (v := ?_) (a' := ?_) #[true, true, true, true, true, true, true, true, true, true, true, true, true, false, true, true, true, true, true, true, true, true, true, true, false, true, false, false, false, false] rfl rfl (any_of HT_.out (by kernel_rfl)) (fun _ _ _ h => h) (Or.inl ⟨by rfl, ?_⟩) ?_ ?_
                      rotate_left
                      ·intro w'
                       go_simp
                       with_reducible rfl
                      rotate_left
                      ·simp only [Act.put, List.setIfInBounds_toArray, List.set_cons_zero, List.set_cons_succ, i64_w, i32_w]
                       rfl
                      refine pure_ (i := 24) (N := some 140) (v := ?_) (a' := ?_) #[true, true, true, true, true, true, true, true, true, true, true, true, true, false, true, true, true, true, true, true, true, true, true, true, true, true, false, false, false, false] rfl rfl (any_of HT_.out (by kernel_rfl)) (fun _ _ _ h => h) (Or.inl ⟨by rfl, ?_⟩) ?_ ?_
                      rotate_left
                      ·intro w'
                       go_simp
                       with_reducible rfl
                      rotate_left
                      ·simp only [Act.put, List.setIfInBounds_toArray, List.set_cons_zero, List.set_cons_succ, i64_w, i32_w]
                       rfl
                      refine take_ (i := 26) (N := some 142) (v := ?_) (a' := ?_) #[true, true, true, true, true, true, true, true, true, true, true, true, true, false, true, true, true, true, true, true, true, true, true, true, true, true, true, false, false, false] rfl rfl (take_ofW HT_.out HW_.out (by kernel_rfl)) (fun _ _ _ h => h) (Or.inl ⟨by rfl, ?_⟩) hHeld ?_ ?_
                      rotate_left
                      ·rintro w' ⟨s0, s1, s2, s3, s4, s5, s6, s7, s8, s9, s10, s11, s12, s13⟩
                       go_simp
                       with_reducible rfl
                      rotate_left
                      ·simp only [Act.put, List.setIfInBounds_toArray, List.set_cons_zero, List.set_cons_succ, i64_w, i32_w]
                       rfl
                      refine one_ (i := 13) (N := some 129) #[true, true, true, true, true, true, true, true, true, true, true, true, true, true, true, true, true, true, true, true, true, true, true, true, true, true, true, false, false, false] rfl rfl (one_of HT_.out (by kernel_rfl)) (by decide) (fun K hK => ?_)
                      refine goes_ Tryd.func23 (by kernel_rfl) rfl #[.int .i64 (wrap64 (1024 * (wrap64 ((wrap64 ((wrap64 (2 * t210)) - (wrap64 (2 * ((rd_T45 l0 x18_1).f3))))) - ((rd_T45 l0 x18_1).f5))))), .int .i64 ((rd_T45 l0 x18_1).f5)] (by rfl) rfl rfl (by (try simp only [List.map_toArray, List.map_cons, List.map_nil]); first | done | rfl) ?_
                      with_reducible refine (chanceryref3_Near.calls (wrap64 (1024 * (wrap64 ((wrap64 ((wrap64 (2 * t210)) - (wrap64 (2 * ((rd_T45 l0 x18_1).f3))))) - ((rd_T45 l0 x18_1).f5))))) ((rd_T45 l0 x18_1).f5) t214 _ A82.out).mono ?_
                      rintro e w' ⟨rfl, ⟨nd, rfl⟩⟩
                      refine ⟨_, rfl, ?_⟩
                      refine hK.out _ _ ⟨(blk_cell BK201.out 0).trans rfl, (blk_cell BK201.out 1).trans rfl, (blk_cell BK191.out 0).trans rfl, (blk_cell BK191.out 1).trans rfl, (blk_cell BK191.out 2).trans rfl, (blk_cell BK191.out 3).trans rfl, (blk_cell BK191.out 4).trans rfl, (blk_cell BK191.out 5).trans rfl, (blk_cell BK191.out 6).trans rfl, (blk_cell BK191.out 7).trans rfl, (blk_cell BK191.out 8).trans rfl, (blk_cell BK191.out 9).trans rfl, (blk_cell BK191.out 10).trans rfl, (blk_cell BK191.out 11).trans rfl⟩ (fun hHeld => ?_)
                      clear hK K
                      refine norm_ (a' := ?_) ?_ ?_
                      rotate_left
                      ·show Act.put _ (some 129) _ = _
                       simp only [Act.put, List.setIfInBounds_toArray, List.set_cons_zero, List.set_cons_succ, i64_w, i32_w]
                       rfl
                      refine one_ (i := 27) (N := some 143) #[true, true, true, true, true, true, true, true, true, true, true, true, true, true, true, true, true, true, true, true, true, true, true, true, true, true, true, true, false, false] rfl rfl (one_of HT_.out (by kernel_rfl)) (by decide) (fun K hK => ?_)
                      refine goes_ Tryd.func23 (by kernel_rfl) rfl #[.int .i64 (wrap64 (1024 * (wrap64 ((wrap64 ((wrap64 (2 * t211)) - (wrap64 (2 * ((rd_T45 l0 x18_1).f4))))) - ((rd_T45 l0 x18_1).f6))))), .int .i64 ((rd_T45 l0 x18_1).f6)] (by rfl) rfl rfl (by (try simp only [List.map_toArray, List.map_cons, List.map_nil]); first | done | rfl) ?_
                      with_reducible refine (chanceryref3_Near.calls (wrap64 (1024 * (wrap64 ((wrap64 ((wrap64 (2 * t211)) - (wrap64 (2 * ((rd_T45 l0 x18_1).f4))))) - ((rd_T45 l0 x18_1).f6))))) ((rd_T45 l0 x18_1).f6) t215 _ A83.out).mono ?_
                      rintro e w' ⟨rfl, ⟨nd, rfl⟩⟩
                      refine ⟨_, rfl, ?_⟩
                      refine hK.out _ _ ⟨(blk_cell BK201.out 0).trans rfl, (blk_cell BK201.out 1).trans rfl, (blk_cell BK191.out 0).trans rfl, (blk_cell BK191.out 1).trans rfl, (blk_cell BK191.out 2).trans rfl, (blk_cell BK191.out 3).trans rfl, (blk_cell BK191.out 4).trans rfl, (blk_cell BK191.out 5).trans rfl, (blk_cell BK191.out 6).trans rfl, (blk_cell BK191.out 7).trans rfl, (blk_cell BK191.out 8).trans rfl, (blk_cell BK191.out 9).trans rfl, (blk_cell BK191.out 10).trans rfl, (blk_cell BK191.out 11).trans rfl⟩ (fun hHeld => ?_)
                      clear hK K
                      refine norm_ (a' := ?_) ?_ ?_
                      rotate_left
                      ·show Act.put _ (some 143) _ = _
                       simp only [Act.put, List.setIfInBounds_toArray, List.set_cons_zero, List.set_cons_succ, i64_w, i32_w]
                       rfl
                      refine pure_ (i := 28) (N := some 14) (v := ?_) (a' := ?_) #[true, true, true, true, true, true, true, true, true, true, true, true, true, true, true, true, true, true, true, true, true, true, true, true, true, true, true, true, true, false] rfl rfl (any_of HT_.out (by kernel_rfl)) (fun _ _ _ h => h) (Or.inl ⟨by rfl, ?_⟩) ?_ ?_
                      rotate_left
                      ·intro w'
                       go_simp
                       with_reducible rfl
                      rotate_left
                      ·simp only [Act.put, List.setIfInBounds_toArray, List.set_cons_zero, List.set_cons_succ, i64_w, i32_w]
                       rfl
                      refine pure_ (i := 29) (N := some 15) (v := ?_) (a' := ?_) #[true, true, true, true, true, true, true, true, true, true, true, true, true, true, true, true, true, true, true, true, true, true, true, true, true, true, true, true, true, true] rfl rfl (any_of HT_.out (by kernel_rfl)) (fun _ _ _ h => h) (Or.inl ⟨by rfl, ?_⟩) ?_ ?_
                      rotate_left
                      ·intro w'
                       go_simp
                       with_reducible rfl
                      rotate_left
                      ·simp only [Act.put, List.setIfInBounds_toArray, List.set_cons_zero, List.set_cons_succ, i64_w, i32_w]
                       rfl
                      refine done_ (done_of HT_.out (by kernel_rfl)) ?_
                      have hnb87 := NB191_189.out
                      have hnc87 := NB189_191.out
                      have hnb88 := NB191_201.out
                      have hnc88 := NB201_191.out
                      obtain ⟨hcz89_0, hcz89_1, hcz89_2, hcz89_3, hcz89_4, hcz89_5, hcz89_6, hcz89_7, hcz89_8, hcz89_9, hcz89_10, hcz89_11⟩ := cells12 BK191.out
                      have hfz89_ := fun j => blk_frozen BK191.out j
                      try go_wp2
                      go_roundg kj68
                      case measure => have := HK1.out; have := HJ6.out; have := HK3.out; have := HK4.out; have := HJ48.out; have := HJ68.out; omega
                      case rel => exact ⟨(((rd_T45 l0 x18_1).f0)), (wrap64 (x18_1 + 1)), (by first | rfl | (simp; done) | (simp [*]; done)), (by first | rfl | (simp; done) | (simp [*]; done)), H', ⟨by have := HK1.out; have := HJ6.out; have := HK3.out; have := HK4.out; have := HJ48.out; have := HJ68.out; omega⟩, ⟨by (with_reducible repeat (first | refine blk_drewN ?_ _ | refine blk_drew ?_ | refine blk_alloc ?_ _)); exact BK189.out⟩, ⟨by repeat (first | (with_reducible first | exact HB.out | apply below_alloc | apply pw_below_drewN | apply below_drew1 | refine below_set ?_ GE189.out | refine below_set ?_ GE191.out | refine below_set ?_ GE201.out) | exact HB.out)⟩⟩
                    ·replace c81 := Bool.eq_false_iff.mpr c81
                     subst c81
                     have H1 : (chanceryref3_HitShape.l0 kj68 l0 ((rd_T45 l0 x18_1).f0) l0 (l0.length : Int) (wrap64 (x18_1 + 1)) a1_0 a1_1) = some r := by rw [if_neg (show ¬ (false = true) by decide)] at H; exact H
                     clear H
                     have H := H1
                     clear H1
                     have H' := Aside0.mk H
                     clear H
                     have hnb90 := NB191_189.out
                     have hnc90 := NB189_191.out
                     have hnb91 := NB191_201.out
                     have hnc91 := NB201_191.out
                     obtain ⟨hcz92_0, hcz92_1, hcz92_2, hcz92_3, hcz92_4, hcz92_5, hcz92_6, hcz92_7, hcz92_8, hcz92_9, hcz92_10, hcz92_11⟩ := cells12 BK191.out
                     have hfz92_ := fun j => blk_frozen BK191.out j
                     go_wp2
                     go_roundg kj68
                     case measure => have := HK1.out; have := HJ6.out; have := HK3.out; have := HK4.out; have := HJ48.out; have := HJ68.out; omega
                     case rel => exact ⟨(((rd_T45 l0 x18_1).f0)), (wrap64 (x18_1 + 1)), (by first | rfl | (simp; done) | (simp [*]; done)), (by first | rfl | (simp; done) | (simp [*]; done)), H', ⟨by have := HK1.out; have := HJ6.out; have := HK3.out; have := HK4.out; have := HJ48.out; have := HJ68.out; omega⟩, ⟨by (with_reducible repeat (first | refine blk_drewN ?_ _ | refine blk_drew ?_ | refine blk_alloc ?_ _)); exact BK189.out⟩, ⟨by repeat (first | (with_reducible first | exact HB.out | apply below_alloc | apply pw_below_drewN | apply below_drew1 | refine below_set ?_ GE189.out | refine below_set ?_ GE191.out | refine below_set ?_ GE201.out) | exact HB.out)⟩⟩
           ·rw [if_neg c19] at H
            have c19b0 : (x9_3 == 0) = false := beq_eq_false_iff_ne.mpr c19
            have c19b1 : (x9_3 != 0) = true := bne_iff_ne.mpr c19
            replace H := Option.bind_eq_some_iff.mp H
            obtain ⟨t192, A930, H⟩ := H
            replace H : (if 0 ≤ t192 then (if t192 < (l0.length : Int) then ((some (([(⟨(rd_T45 l0 t192).f0, (rd_T45 l0 t192).f1, (rd_T45 l0 t192).f2, (rd_T45 l0 t192).f3, (rd_T45 l0 t192).f4, (rd_T45 l0 t192).f5, (rd_T45 l0 t192).f6, (rd_T45 l0 t192).f7, (rd_T45 l0 t192).f8, (rd_T45 l0 t192).f9, (rd_T45 l0 t192).f10, (rd_T45 l0 t192).f11⟩ : S45)] : List (S45)) : List (S45))).bind fun y195 => (if y195.length + x8_3.length < 1256584717458 then (chanceryref3_HitShape.l1 k3 l0 x5_1 (y195 ++ x8_3) ((rd_T45 l0 t192).f1) l0 (l0.length : Int) x18_1 a1_0 a1_1 ((rd_T45 l0 x18_1).f0) ((rd_T45 l0 x18_1).f1) ((rd_T45 l0 x18_1).f2) ((rd_T45 l0 x18_1).f3) ((rd_T45 l0 x18_1).f4) ((rd_T45 l0 x18_1).f5) ((rd_T45 l0 x18_1).f6) ((rd_T45 l0 x18_1).f7) ((rd_T45 l0 x18_1).f8) ((rd_T45 l0 x18_1).f9) ((rd_T45 l0 x18_1).f10) ((rd_T45 l0 x18_1).f11)) else (none))) else (none)) else (none)) = some r := H
            have A93 := Aside0.mk A930
            clear A930
            by_cases c94 : 0 ≤ t192
            ·rw [if_pos c94] at H
             have c94b0 : decide (0 ≤ t192) = true := decide_eq_true c94
             clear c94
             by_cases c95 : t192 < (l0.length : Int)
             ·rw [if_pos c95] at H
              have c95b0 : decide (t192 < (l0.length : Int)) = true := decide_eq_true c95
              clear c95
              obtain ⟨y195, hy195⟩ : ∃ y_ : List (S45), y_ = (([(⟨(rd_T45 l0 t192).f0, (rd_T45 l0 t192).f1, (rd_T45 l0 t192).f2, (rd_T45 l0 t192).f3, (rd_T45 l0 t192).f4, (rd_T45 l0 t192).f5, (rd_T45 l0 t192).f6, (rd_T45 l0 t192).f7, (rd_T45 l0 t192).f8, (rd_T45 l0 t192).f9, (rd_T45 l0 t192).f10, (rd_T45 l0 t192).f11⟩ : S45)] : List (S45))) := ⟨_, rfl⟩
              replace H : (if y195.length + x8_3.length < 1256584717458 then (chanceryref3_HitShape.l1 k3 l0 x5_1 (y195 ++ x8_3) ((rd_T45 l0 t192).f1) l0 (l0.length : Int) x18_1 a1_0 a1_1 ((rd_T45 l0 x18_1).f0) ((rd_T45 l0 x18_1).f1) ((rd_T45 l0 x18_1).f2) ((rd_T45 l0 x18_1).f3) ((rd_T45 l0 x18_1).f4) ((rd_T45 l0 x18_1).f5) ((rd_T45 l0 x18_1).f6) ((rd_T45 l0 x18_1).f7) ((rd_T45 l0 x18_1).f8) ((rd_T45 l0 x18_1).f9) ((rd_T45 l0 x18_1).f10) ((rd_T45 l0 x18_1).f11)) else (none)) = some r := by first | (rw [hy195]; with_reducible exact H) | (have H2_ := (Option.bind_some _ _).symm.trans H; rw [hy195]; with_reducible exact H2_) | (have H2_ := (Option.bind_some _ _).symm.trans H; with_reducible exact H2_) | with_reducible exact H | (rw [hy195]; exact H) | exact H
              have Ny195 := Aside0.mk hy195
              clear hy195
              by_cases c96 : y195.length + x8_3.length < 1256584717458
              ·rw [if_pos c96] at H
               have LMc96 := Aside0.mk c96
               clear c96
               obtain ⟨y198, hy198⟩ : ∃ y_ : List (S45), y_ = (y195 ++ x8_3) := ⟨_, rfl⟩
               replace H : (chanceryref3_HitShape.l1 k3 l0 x5_1 y198 ((rd_T45 l0 t192).f1) l0 (l0.length : Int) x18_1 a1_0 a1_1 ((rd_T45 l0 x18_1).f0) ((rd_T45 l0 x18_1).f1) ((rd_T45 l0 x18_1).f2) ((rd_T45 l0 x18_1).f3) ((rd_T45 l0 x18_1).f4) ((rd_T45 l0 x18_1).f5) ((rd_T45 l0 x18_1).f6) ((rd_T45 l0 x18_1).f7) ((rd_T45 l0 x18_1).f8) ((rd_T45 l0 x18_1).f9) ((rd_T45 l0 x18_1).f10) ((rd_T45 l0 x18_1).f11)) = some r := by first | (rw [hy198]; with_reducible exact H) | (have H2_ := (Option.bind_some _ _).symm.trans H; rw [hy198]; with_reducible exact H2_) | (have H2_ := (Option.bind_some _ _).symm.trans H; with_reducible exact H2_) | with_reducible exact H | (rw [hy198]; exact H) | exact H
               have Ny198 := Aside0.mk hy198
               clear hy198
               have H' := Aside0.mk H
               clear H
               go_wp2_with (first | ((with_reducible refine gate_callee (f := 11) rfl ?_); refine goesL_ (some 37) rfl rfl Tryd.func11 (by kernel_rfl) rfl #[.slice (some ad190) l0.length c0, .int .i64 x9_3] rfl (by (try simp only [List.map_toArray, List.map_cons, List.map_nil]); first | done | rfl) ?_; (with_reducible refine (chanceryref3_ShapeAt.calls k3 _ _ l0 x9_3 t192 _ ?side1 ?side2 A93.out).mono ?_); (case side1 => repeat (first | exact (Kd.C_below HR0.out HB.out) | (with_reducible refine Kd.C_alloc ?_ _) | (with_reducible refine Kd.C_drewN ?_ _) | (with_reducible refine Kd.C_drew ?_))); (case side2 => exact HC0.out); rintro e w97 ⟨rfl, hb⟩; refine ⟨_, rfl, ?_⟩; have n0_ := Aside0.mk (Kd.R_below (by (with_reducible repeat (first | apply Kd.R_alloc | apply Kd.R_drewN | apply Kd.R_drew)); exact HO_8.out) hb); have n1_ := Aside0.mk (blk_below (g := gb189) (o := .cells #[.int .i64 a1_0, .int .i64 a1_1] 37 (0, 0)) (by (with_reducible repeat (first | refine blk_drewN ?_ _ | refine blk_drew ?_ | refine blk_alloc ?_ _)); exact BK189.out) hb); have n2_ := Aside0.mk (blk_below (g := gb191) (o := .cells #[.int .i64 ((rd_T45 l0 x18_1).f0), .int .i64 ((rd_T45 l0 x18_1).f1), .int .i64 ((rd_T45 l0 x18_1).f2), .int .i64 ((rd_T45 l0 x18_1).f3), .int .i64 ((rd_T45 l0 x18_1).f4), .int .i64 ((rd_T45 l0 x18_1).f5), .int .i64 ((rd_T45 l0 x18_1).f6), .int .i64 ((rd_T45 l0 x18_1).f7), .int .i64 ((rd_T45 l0 x18_1).f8), .int .i64 ((rd_T45 l0 x18_1).f9), .string ((rd_T45 l0 x18_1).f10), .string ((rd_T45 l0 x18_1).f11)] 45 (0, 0)) (by (with_reducible repeat (first | refine blk_drewN ?_ _ | refine blk_drew ?_ | refine blk_alloc ?_ _)); exact BK191.out) hb); have n3_ := Aside0.mk (below_step (by repeat (first | (with_reducible first | exact HB.out | apply below_alloc | apply pw_below_drewN | apply below_drew1 | refine below_set ?_ GE189.out | refine below_set ?_ GE191.out) | exact HB.out)) hb); clear HO_8; clear BK189; clear BK191; clear HB; have HO_8 := n0_; have BK189 := n1_; have BK191 := n2_; have HB := n3_; clear n0_ n1_ n2_ n3_; (try clear hb); (try clear hb2); (try clear hk); (try clear hi); have p193 : 0 ≤ (t192 : Int) := of_decide_eq_true (by first | (with_reducible assumption) | assumption); have q193 : t192 < (l0.length : Int) := of_decide_eq_true (by first | (with_reducible assumption) | assumption); obtain ⟨ad193, e193, hx193_0, hx193_1, hx193_2, hx193_3, hx193_4, hx193_5, hx193_6, hx193_7, hx193_8, hx193_9, hx193_10, hx193_11⟩ := at_T45 HR0.out t192 p193 q193; obtain rfl : ad190 = ad193 := (by injection e193); replace hx193_0 := (HB.out.cell (World.block_lt_of_cell? w _ hx193_0)).trans hx193_0; replace hx193_1 := (HB.out.cell (World.block_lt_of_cell? w _ hx193_1)).trans hx193_1; replace hx193_2 := (HB.out.cell (World.block_lt_of_cell? w _ hx193_2)).trans hx193_2; replace hx193_3 := (HB.out.cell (World.block_lt_of_cell? w _ hx193_3)).trans hx193_3; replace hx193_4 := (HB.out.cell (World.block_lt_of_cell? w _ hx193_4)).trans hx193_4; replace hx193_5 := (HB.out.cell (World.block_lt_of_cell? w _ hx193_5)).trans hx193_5; replace hx193_6 := (HB.out.cell (World.block_lt_of_cell? w _ hx193_6)).trans hx193_6; replace hx193_7 := (HB.out.cell (World.block_lt_of_cell? w _ hx193_7)).trans hx193_7; replace hx193_8 := (HB.out.cell (World.block_lt_of_cell? w _ hx193_8)).trans hx193_8; replace hx193_9 := (HB.out.cell (World.block_lt_of_cell? w _ hx193_9)).trans hx193_9; replace hx193_10 := (HB.out.cell (World.block_lt_of_cell? w _ hx193_10)).trans hx193_10; replace hx193_11 := (HB.out.cell (World.block_lt_of_cell? w _ hx193_11)).trans hx193_11; replace p193 := eq_true p193; replace q193 := eq_true q193) | ((with_reducible refine gate_dst (N := 10) rfl ?_); refine box_event ?hg (N := 10) ?hd (cs := #[.int .i64 0, .int .i64 0, .int .i64 0, .int .i64 0, .int .i64 0, .int .i64 0, .int .i64 0, .int .i64 0, .int .i64 0, .int .i64 0, .string (⟨#[]⟩ : ByteArray), .string (⟨#[]⟩ : ByteArray)]) (t := 45) ?hr ?_; (case hd => rfl); (case hg => rfl); (case hr => first | (go_simp; done) | (go_simp; rfl)); intro gb194 hg w98 hbox hb; have n0_ := Aside0.mk (Kd.R_below (Kd.R_elderB (by (with_reducible repeat (first | apply Kd.R_alloc | apply Kd.R_drewN | apply Kd.R_drew)); exact HO_8.out) gb194 (Nat.le_of_eq hg.symm)) hb); have n1_ := Aside0.mk (blk_below (g := gb189) (o := .cells #[.int .i64 a1_0, .int .i64 a1_1] 37 (0, 0)) (by (with_reducible repeat (first | refine blk_drewN ?_ _ | refine blk_drew ?_ | refine blk_alloc ?_ _)); exact BK189.out) hb); have n2_ := Aside0.mk (blk_below (g := gb191) (o := .cells #[.int .i64 ((rd_T45 l0 x18_1).f0), .int .i64 ((rd_T45 l0 x18_1).f1), .int .i64 ((rd_T45 l0 x18_1).f2), .int .i64 ((rd_T45 l0 x18_1).f3), .int .i64 ((rd_T45 l0 x18_1).f4), .int .i64 ((rd_T45 l0 x18_1).f5), .int .i64 ((rd_T45 l0 x18_1).f6), .int .i64 ((rd_T45 l0 x18_1).f7), .int .i64 ((rd_T45 l0 x18_1).f8), .int .i64 ((rd_T45 l0 x18_1).f9), .string ((rd_T45 l0 x18_1).f10), .string ((rd_T45 l0 x18_1).f11)] 45 (0, 0)) (by (with_reducible repeat (first | refine blk_drewN ?_ _ | refine blk_drew ?_ | refine blk_alloc ?_ _)); exact BK191.out) hb); have n3_ := Aside0.mk (below_step (by repeat (first | (with_reducible first | exact HB.out | apply below_alloc | apply pw_below_drewN | apply below_drew1 | refine below_set ?_ GE189.out | refine below_set ?_ GE191.out) | exact HB.out)) hb); have n4_ := Aside0.mk (hbox); have n5_ := Aside0.mk ((by rw [hg]; exact (below_size (by repeat (first | (with_reducible first | exact HB.out | apply below_alloc | apply pw_below_drewN | apply below_drew1 | refine below_set ?_ GE189.out | refine below_set ?_ GE191.out) | exact HB.out))) : w.heap.size ≤ gb194)); have n6_ := Aside0.mk ((by rw [hg]; exact (below_size (by repeat (first | (with_reducible first | exact HB.out | apply below_alloc | apply pw_below_drewN | apply below_drew1 | refine below_set ?_ GE189.out | refine below_set ?_ GE191.out) | exact HB.out))) : w.heap.size ≤ gb194)); have n7_ := Aside0.mk ((by rw [hg]; exact Nat.ne_of_lt (blk_lt (g := gb189) (o := .cells #[.int .i64 a1_0, .int .i64 a1_1] 37 (0, 0)) (by (with_reducible repeat (first | refine blk_drewN ?_ _ | refine blk_drew ?_ | refine blk_alloc ?_ _)); exact BK189.out)) : gb189 ≠ gb194)); have n8_ := Aside0.mk ((by rw [hg]; exact Nat.ne_of_gt (blk_lt (g := gb189) (o := .cells #[.int .i64 a1_0, .int .i64 a1_1] 37 (0, 0)) (by (with_reducible repeat (first | refine blk_drewN ?_ _ | refine blk_drew ?_ | refine blk_alloc ?_ _)); exact BK189.out)) : gb194 ≠ gb189)); have n9_ := Aside0.mk ((by rw [hg]; exact Nat.ne_of_lt (blk_lt (g := gb191) (o := .cells #[.int .i64 ((rd_T45 l0 x18_1).f0), .int .i64 ((rd_T45 l0 x18_1).f1), .int .i64 ((rd_T45 l0 x18_1).f2), .int .i64 ((rd_T45 l0 x18_1).f3), .int .i64 ((rd_T45 l0 x18_1).f4), .int .i64 ((rd_T45 l0 x18_1).f5), .int .i64 ((rd_T45 l0 x18_1).f6), .int .i64 ((rd_T45 l0 x18_1).f7), .int .i64 ((rd_T45 l0 x18_1).f8), .int .i64 ((rd_T45 l0 x18_1).f9), .string ((rd_T45 l0 x18_1).f10), .string ((rd_T45 l0 x18_1).f11)] 45 (0, 0)) (by (with_reducible repeat (first | refine blk_drewN ?_ _ | refine blk_drew ?_ | refine blk_alloc ?_ _)); exact BK191.out)) : gb191 ≠ gb194)); have n10_ := Aside0.mk ((by rw [hg]; exact Nat.ne_of_gt (blk_lt (g := gb191) (o := .cells #[.int .i64 ((rd_T45 l0 x18_1).f0), .int .i64 ((rd_T45 l0 x18_1).f1), .int .i64 ((rd_T45 l0 x18_1).f2), .int .i64 ((rd_T45 l0 x18_1).f3), .int .i64 ((rd_T45 l0 x18_1).f4), .int .i64 ((rd_T45 l0 x18_1).f5), .int .i64 ((rd_T45 l0 x18_1).f6), .int .i64 ((rd_T45 l0 x18_1).f7), .int .i64 ((rd_T45 l0 x18_1).f8), .int .i64 ((rd_T45 l0 x18_1).f9), .string ((rd_T45 l0 x18_1).f10), .string ((rd_T45 l0 x18_1).f11)] 45 (0, 0)) (by (with_reducible repeat (first | refine blk_drewN ?_ _ | refine blk_drew ?_ | refine blk_alloc ?_ _)); exact BK191.out)) : gb194 ≠ gb191)); clear HO_8; clear BK189; clear BK191; clear HB; have HO_8 := n0_; have BK189 := n1_; have BK191 := n2_; have HB := n3_; have BK194 := n4_; have GW194 := n5_; have GE194 := n6_; have NB189_194 := n7_; have NB194_189 := n8_; have NB191_194 := n9_; have NB194_191 := n10_; clear n0_ n1_ n2_ n3_ n4_ n5_ n6_ n7_ n8_ n9_ n10_; clear hb hbox hg; have hnb99 := NB194_189.out; have hnc99 := NB189_194.out; have hnb100 := NB194_191.out; have hnc100 := NB191_194.out; obtain ⟨hcz101_0, hcz101_1, hcz101_2, hcz101_3, hcz101_4, hcz101_5, hcz101_6, hcz101_7, hcz101_8, hcz101_9, hcz101_10, hcz101_11⟩ := cells12 BK194.out; have hfz101_ := fun j => blk_frozen BK194.out j) | ((with_reducible refine gate_dst (N := 41) rfl ?_); refine Kd.R_lit k45 _ 45 ?hg (N := 41) ?hd (xs := ([(⟨(rd_T45 l0 t192).f0, (rd_T45 l0 t192).f1, (rd_T45 l0 t192).f2, (rd_T45 l0 t192).f3, (rd_T45 l0 t192).f4, (rd_T45 l0 t192).f5, (rd_T45 l0 t192).f6, (rd_T45 l0 t192).f7, (rd_T45 l0 t192).f8, (rd_T45 l0 t192).f9, (rd_T45 l0 t192).f10, (rd_T45 l0 t192).f11⟩ : S45)] : List (S45))) (inner := [.int .i64 ((rd_T45 l0 t192).f0), .int .i64 ((rd_T45 l0 t192).f1), .int .i64 ((rd_T45 l0 t192).f2), .int .i64 ((rd_T45 l0 t192).f3), .int .i64 ((rd_T45 l0 t192).f4), .int .i64 ((rd_T45 l0 t192).f5), .int .i64 ((rd_T45 l0 t192).f6), .int .i64 ((rd_T45 l0 t192).f7), .int .i64 ((rd_T45 l0 t192).f8), .int .i64 ((rd_T45 l0 t192).f9), .string ((rd_T45 l0 t192).f10), .string ((rd_T45 l0 t192).f11)]) (ok := fun _ => True) (okp := fun _ => True) ?hr ?hp (fun _ hk => hk) trivial (Below.refl _ _) (Nat.le_refl _) (by simp) ?_; (case hd => rfl); (case hg => rfl); (case hr => first | (go_simp; done) | (go_simp; rfl)); (case hp => exact (Reps.front (show Kd.M k45 _ _ _ (⟨(rd_T45 l0 t192).f0, (rd_T45 l0 t192).f1, (rd_T45 l0 t192).f2, (rd_T45 l0 t192).f3, (rd_T45 l0 t192).f4, (rd_T45 l0 t192).f5, (rd_T45 l0 t192).f6, (rd_T45 l0 t192).f7, (rd_T45 l0 t192).f8, (rd_T45 l0 t192).f9, (rd_T45 l0 t192).f10, (rd_T45 l0 t192).f11⟩ : S45) [.int .i64 ((rd_T45 l0 t192).f0), .int .i64 ((rd_T45 l0 t192).f1), .int .i64 ((rd_T45 l0 t192).f2), .int .i64 ((rd_T45 l0 t192).f3), .int .i64 ((rd_T45 l0 t192).f4), .int .i64 ((rd_T45 l0 t192).f5), .int .i64 ((rd_T45 l0 t192).f6), .int .i64 ((rd_T45 l0 t192).f7), .int .i64 ((rd_T45 l0 t192).f8), .int .i64 ((rd_T45 l0 t192).f9), .string ((rd_T45 l0 t192).f10), .string ((rd_T45 l0 t192).f11)] from (k45_mkM _ _ _ (⟨(rd_T45 l0 t192).f0, (rd_T45 l0 t192).f1, (rd_T45 l0 t192).f2, (rd_T45 l0 t192).f3, (rd_T45 l0 t192).f4, (rd_T45 l0 t192).f5, (rd_T45 l0 t192).f6, (rd_T45 l0 t192).f7, (rd_T45 l0 t192).f8, (rd_T45 l0 t192).f9, (rd_T45 l0 t192).f10, (rd_T45 l0 t192).f11⟩ : S45) )) rfl (Reps.none _ _) rfl)); intro v196 w102 ho103 hb hg_ hnew_; clear hg_ hnew_; (first | rw [← Ny195.out] at ho103 | (simp only [Int.reduceToNat] at ho103; rw [← Ny195.out] at ho103)); have n0_ := Aside0.mk (Kd.R_elder' (by (with_reducible repeat (first | apply Kd.R_alloc | apply Kd.R_drewN | apply Kd.R_drew)); exact (Kd.R_mono (Kd.R_far (p := ⟨gb194, 11, none⟩) (Kd.R_far (p := ⟨gb194, 10, none⟩) (Kd.R_far (p := ⟨gb194, 9, none⟩) (Kd.R_far (p := ⟨gb194, 8, none⟩) (Kd.R_far (p := ⟨gb194, 7, none⟩) (Kd.R_far (p := ⟨gb194, 6, none⟩) (Kd.R_far (p := ⟨gb194, 5, none⟩) (Kd.R_far (p := ⟨gb194, 4, none⟩) (Kd.R_far (p := ⟨gb194, 3, none⟩) (Kd.R_far (p := ⟨gb194, 2, none⟩) (Kd.R_far (p := ⟨gb194, 1, none⟩) (Kd.R_far (p := ⟨gb194, 0, none⟩) (Kd.R_mono HO_8.out (fun k_ hk => (⟨hk, hk.2⟩ : _ ∧ k_ ≠ gb194))) (fun _ hk => hk.2) (.int .i64 ((rd_T45 l0 t192).f0))) (fun _ hk => hk.2) (.int .i64 ((rd_T45 l0 t192).f1))) (fun _ hk => hk.2) (.int .i64 ((rd_T45 l0 t192).f2))) (fun _ hk => hk.2) (.int .i64 ((rd_T45 l0 t192).f3))) (fun _ hk => hk.2) (.int .i64 ((rd_T45 l0 t192).f4))) (fun _ hk => hk.2) (.int .i64 ((rd_T45 l0 t192).f5))) (fun _ hk => hk.2) (.int .i64 ((rd_T45 l0 t192).f6))) (fun _ hk => hk.2) (.int .i64 ((rd_T45 l0 t192).f7))) (fun _ hk => hk.2) (.int .i64 ((rd_T45 l0 t192).f8))) (fun _ hk => hk.2) (.int .i64 ((rd_T45 l0 t192).f9))) (fun _ hk => hk.2) (.string ((rd_T45 l0 t192).f10))) (fun _ hk => hk.2) (.string ((rd_T45 l0 t192).f11))) (fun _ h_ => h_.1))) (Kd.R_base ho103) hb); have n1_ := Aside0.mk (Kd.R_lower (Kd.R_newB (Kd.R_newB (Kd.R_new' ho103 (Kd.R_lt (by (with_reducible repeat (first | apply Kd.R_alloc | apply Kd.R_drewN | apply Kd.R_drew)); exact (Kd.R_mono (Kd.R_far (p := ⟨gb194, 11, none⟩) (Kd.R_far (p := ⟨gb194, 10, none⟩) (Kd.R_far (p := ⟨gb194, 9, none⟩) (Kd.R_far (p := ⟨gb194, 8, none⟩) (Kd.R_far (p := ⟨gb194, 7, none⟩) (Kd.R_far (p := ⟨gb194, 6, none⟩) (Kd.R_far (p := ⟨gb194, 5, none⟩) (Kd.R_far (p := ⟨gb194, 4, none⟩) (Kd.R_far (p := ⟨gb194, 3, none⟩) (Kd.R_far (p := ⟨gb194, 2, none⟩) (Kd.R_far (p := ⟨gb194, 1, none⟩) (Kd.R_far (p := ⟨gb194, 0, none⟩) (Kd.R_mono HO_8.out (fun k_ hk => (⟨hk, hk.2⟩ : _ ∧ k_ ≠ gb194))) (fun _ hk => hk.2) (.int .i64 ((rd_T45 l0 t192).f0))) (fun _ hk => hk.2) (.int .i64 ((rd_T45 l0 t192).f1))) (fun _ hk => hk.2) (.int .i64 ((rd_T45 l0 t192).f2))) (fun _ hk => hk.2) (.int .i64 ((rd_T45 l0 t192).f3))) (fun _ hk => hk.2) (.int .i64 ((rd_T45 l0 t192).f4))) (fun _ hk => hk.2) (.int .i64 ((rd_T45 l0 t192).f5))) (fun _ hk => hk.2) (.int .i64 ((rd_T45 l0 t192).f6))) (fun _ hk => hk.2) (.int .i64 ((rd_T45 l0 t192).f7))) (fun _ hk => hk.2) (.int .i64 ((rd_T45 l0 t192).f8))) (fun _ hk => hk.2) (.int .i64 ((rd_T45 l0 t192).f9))) (fun _ hk => hk.2) (.string ((rd_T45 l0 t192).f10))) (fun _ hk => hk.2) (.string ((rd_T45 l0 t192).f11))) (fun _ h_ => h_.1))))) (g := gb191) (o := .cells #[.int .i64 ((rd_T45 l0 x18_1).f0), .int .i64 ((rd_T45 l0 x18_1).f1), .int .i64 ((rd_T45 l0 x18_1).f2), .int .i64 ((rd_T45 l0 x18_1).f3), .int .i64 ((rd_T45 l0 x18_1).f4), .int .i64 ((rd_T45 l0 x18_1).f5), .int .i64 ((rd_T45 l0 x18_1).f6), .int .i64 ((rd_T45 l0 x18_1).f7), .int .i64 ((rd_T45 l0 x18_1).f8), .int .i64 ((rd_T45 l0 x18_1).f9), .string ((rd_T45 l0 x18_1).f10), .string ((rd_T45 l0 x18_1).f11)] 45 (0, 0)) (by (with_reducible repeat (first | refine blk_drewN ?_ _ | refine blk_drew ?_ | refine blk_alloc ?_ _)); refine blk_far ?_ NB191_194.out _; (with_reducible repeat (first | refine blk_drewN ?_ _ | refine blk_drew ?_ | refine blk_alloc ?_ _)); refine blk_far ?_ NB191_194.out _; (with_reducible repeat (first | refine blk_drewN ?_ _ | refine blk_drew ?_ | refine blk_alloc ?_ _)); refine blk_far ?_ NB191_194.out _; (with_reducible repeat (first | refine blk_drewN ?_ _ | refine blk_drew ?_ | refine blk_alloc ?_ _)); refine blk_far ?_ NB191_194.out _; (with_reducible repeat (first | refine blk_drewN ?_ _ | refine blk_drew ?_ | refine blk_alloc ?_ _)); refine blk_far ?_ NB191_194.out _; (with_reducible repeat (first | refine blk_drewN ?_ _ | refine blk_drew ?_ | refine blk_alloc ?_ _)); refine blk_far ?_ NB191_194.out _; (with_reducible repeat (first | refine blk_drewN ?_ _ | refine blk_drew ?_ | refine blk_alloc ?_ _)); refine blk_far ?_ NB191_194.out _; (with_reducible repeat (first | refine blk_drewN ?_ _ | refine blk_drew ?_ | refine blk_alloc ?_ _)); refine blk_far ?_ NB191_194.out _; (with_reducible repeat (first | refine blk_drewN ?_ _ | refine blk_drew ?_ | refine blk_alloc ?_ _)); refine blk_far ?_ NB191_194.out _; (with_reducible repeat (first | refine blk_drewN ?_ _ | refine blk_drew ?_ | refine blk_alloc ?_ _)); refine blk_far ?_ NB191_194.out _; (with_reducible repeat (first | refine blk_drewN ?_ _ | refine blk_drew ?_ | refine blk_alloc ?_ _)); refine blk_far ?_ NB191_194.out _; (with_reducible repeat (first | refine blk_drewN ?_ _ | refine blk_drew ?_ | refine blk_alloc ?_ _)); refine blk_far ?_ NB191_194.out _; (with_reducible repeat (first | refine blk_drewN ?_ _ | refine blk_drew ?_ | refine blk_alloc ?_ _)); exact BK191.out)) (g := gb194) (o := .cells #[.int .i64 ((rd_T45 l0 t192).f0), .int .i64 ((rd_T45 l0 t192).f1), .int .i64 ((rd_T45 l0 t192).f2), .int .i64 ((rd_T45 l0 t192).f3), .int .i64 ((rd_T45 l0 t192).f4), .int .i64 ((rd_T45 l0 t192).f5), .int .i64 ((rd_T45 l0 t192).f6), .int .i64 ((rd_T45 l0 t192).f7), .int .i64 ((rd_T45 l0 t192).f8), .int .i64 ((rd_T45 l0 t192).f9), .string ((rd_T45 l0 t192).f10), .string ((rd_T45 l0 t192).f11)] 45 (0, 0)) (by (with_reducible repeat (first | refine blk_drewN ?_ _ | refine blk_drew ?_ | refine blk_alloc ?_ _)); refine blk_put (cs := #[.int .i64 ((rd_T45 l0 t192).f0), .int .i64 ((rd_T45 l0 t192).f1), .int .i64 ((rd_T45 l0 t192).f2), .int .i64 ((rd_T45 l0 t192).f3), .int .i64 ((rd_T45 l0 t192).f4), .int .i64 ((rd_T45 l0 t192).f5), .int .i64 ((rd_T45 l0 t192).f6), .int .i64 ((rd_T45 l0 t192).f7), .int .i64 ((rd_T45 l0 t192).f8), .int .i64 ((rd_T45 l0 t192).f9), .string ((rd_T45 l0 t192).f10), .string (⟨#[]⟩ : ByteArray)]) ?_ 11 _ rfl; (with_reducible repeat (first | refine blk_drewN ?_ _ | refine blk_drew ?_ | refine blk_alloc ?_ _)); refine blk_put (cs := #[.int .i64 ((rd_T45 l0 t192).f0), .int .i64 ((rd_T45 l0 t192).f1), .int .i64 ((rd_T45 l0 t192).f2), .int .i64 ((rd_T45 l0 t192).f3), .int .i64 ((rd_T45 l0 t192).f4), .int .i64 ((rd_T45 l0 t192).f5), .int .i64 ((rd_T45 l0 t192).f6), .int .i64 ((rd_T45 l0 t192).f7), .int .i64 ((rd_T45 l0 t192).f8), .int .i64 ((rd_T45 l0 t192).f9), .string (⟨#[]⟩ : ByteArray), .string (⟨#[]⟩ : ByteArray)]) ?_ 10 _ rfl; (with_reducible repeat (first | refine blk_drewN ?_ _ | refine blk_drew ?_ | refine blk_alloc ?_ _)); refine blk_put (cs := #[.int .i64 ((rd_T45 l0 t192).f0), .int .i64 ((rd_T45 l0 t192).f1), .int .i64 ((rd_T45 l0 t192).f2), .int .i64 ((rd_T45 l0 t192).f3), .int .i64 ((rd_T45 l0 t192).f4), .int .i64 ((rd_T45 l0 t192).f5), .int .i64 ((rd_T45 l0 t192).f6), .int .i64 ((rd_T45 l0 t192).f7), .int .i64 ((rd_T45 l0 t192).f8), .int .i64 0, .string (⟨#[]⟩ : ByteArray), .string (⟨#[]⟩ : ByteArray)]) ?_ 9 _ rfl; (with_reducible repeat (first | refine blk_drewN ?_ _ | refine blk_drew ?_ | refine blk_alloc ?_ _)); refine blk_put (cs := #[.int .i64 ((rd_T45 l0 t192).f0), .int .i64 ((rd_T45 l0 t192).f1), .int .i64 ((rd_T45 l0 t192).f2), .int .i64 ((rd_T45 l0 t192).f3), .int .i64 ((rd_T45 l0 t192).f4), .int .i64 ((rd_T45 l0 t192).f5), .int .i64 ((rd_T45 l0 t192).f6), .int .i64 ((rd_T45 l0 t192).f7), .int .i64 0, .int .i64 0, .string (⟨#[]⟩ : ByteArray), .string (⟨#[]⟩ : ByteArray)]) ?_ 8 _ rfl; (with_reducible repeat (first | refine blk_drewN ?_ _ | refine blk_drew ?_ | refine blk_alloc ?_ _)); refine blk_put (cs := #[.int .i64 ((rd_T45 l0 t192).f0), .int .i64 ((rd_T45 l0 t192).f1), .int .i64 ((rd_T45 l0 t192).f2), .int .i64 ((rd_T45 l0 t192).f3), .int .i64 ((rd_T45 l0 t192).f4), .int .i64 ((rd_T45 l0 t192).f5), .int .i64 ((rd_T45 l0 t192).f6), .int .i64 0, .int .i64 0, .int .i64 0, .string (⟨#[]⟩ : ByteArray), .string (⟨#[]⟩ : ByteArray)]) ?_ 7 _ rfl; (with_reducible repeat (first | refine blk_drewN ?_ _ | refine blk_drew ?_ | refine blk_alloc ?_ _)); refine blk_put (cs := #[.int .i64 ((rd_T45 l0 t192).f0), .int .i64 ((rd_T45 l0 t192).f1), .int .i64 ((rd_T45 l0 t192).f2), .int .i64 ((rd_T45 l0 t192).f3), .int .i64 ((rd_T45 l0 t192).f4), .int .i64 ((rd_T45 l0 t192).f5), .int .i64 0, .int .i64 0, .int .i64 0, .int .i64 0, .string (⟨#[]⟩ : ByteArray), .string (⟨#[]⟩ : ByteArray)]) ?_ 6 _ rfl; (with_reducible repeat (first | refine blk_drewN ?_ _ | refine blk_drew ?_ | refine blk_alloc ?_ _)); refine blk_put (cs := #[.int .i64 ((rd_T45 l0 t192).f0), .int .i64 ((rd_T45 l0 t192).f1), .int .i64 ((rd_T45 l0 t192).f2), .int .i64 ((rd_T45 l0 t192).f3), .int .i64 ((rd_T45 l0 t192).f4), .int .i64 0, .int .i64 0, .int .i64 0, .int .i64 0, .int .i64 0, .string (⟨#[]⟩ : ByteArray), .string (⟨#[]⟩ : ByteArray)]) ?_ 5 _ rfl; (with_reducible repeat (first | refine blk_drewN ?_ _ | refine blk_drew ?_ | refine blk_alloc ?_ _)); refine blk_put (cs := #[.int .i64 ((rd_T45 l0 t192).f0), .int .i64 ((rd_T45 l0 t192).f1), .int .i64 ((rd_T45 l0 t192).f2), .int .i64 ((rd_T45 l0 t192).f3), .int .i64 0, .int .i64 0, .int .i64 0, .int .i64 0, .int .i64 0, .int .i64 0, .string (⟨#[]⟩ : ByteArray), .string (⟨#[]⟩ : ByteArray)]) ?_ 4 _ rfl; (with_reducible repeat (first | refine blk_drewN ?_ _ | refine blk_drew ?_ | refine blk_alloc ?_ _)); refine blk_put (cs := #[.int .i64 ((rd_T45 l0 t192).f0), .int .i64 ((rd_T45 l0 t192).f1), .int .i64 ((rd_T45 l0 t192).f2), .int .i64 0, .int .i64 0, .int .i64 0, .int .i64 0, .int .i64 0, .int .i64 0, .int .i64 0, .string (⟨#[]⟩ : ByteArray), .string (⟨#[]⟩ : ByteArray)]) ?_ 3 _ rfl; (with_reducible repeat (first | refine blk_drewN ?_ _ | refine blk_drew ?_ | refine blk_alloc ?_ _)); refine blk_put (cs := #[.int .i64 ((rd_T45 l0 t192).f0), .int .i64 ((rd_T45 l0 t192).f1), .int .i64 0, .int .i64 0, .int .i64 0, .int .i64 0, .int .i64 0, .int .i64 0, .int .i64 0, .int .i64 0, .string (⟨#[]⟩ : ByteArray), .string (⟨#[]⟩ : ByteArray)]) ?_ 2 _ rfl; (with_reducible repeat (first | refine blk_drewN ?_ _ | refine blk_drew ?_ | refine blk_alloc ?_ _)); refine blk_put (cs := #[.int .i64 ((rd_T45 l0 t192).f0), .int .i64 0, .int .i64 0, .int .i64 0, .int .i64 0, .int .i64 0, .int .i64 0, .int .i64 0, .int .i64 0, .int .i64 0, .string (⟨#[]⟩ : ByteArray), .string (⟨#[]⟩ : ByteArray)]) ?_ 1 _ rfl; (with_reducible repeat (first | refine blk_drewN ?_ _ | refine blk_drew ?_ | refine blk_alloc ?_ _)); refine blk_put (cs := #[.int .i64 0, .int .i64 0, .int .i64 0, .int .i64 0, .int .i64 0, .int .i64 0, .int .i64 0, .int .i64 0, .int .i64 0, .int .i64 0, .string (⟨#[]⟩ : ByteArray), .string (⟨#[]⟩ : ByteArray)]) ?_ 0 _ rfl; (with_reducible repeat (first | refine blk_drewN ?_ _ | refine blk_drew ?_ | refine blk_alloc ?_ _)); exact BK194.out)) (below_size (by repeat (first | (with_reducible first | exact HB.out | apply below_alloc | apply pw_below_drewN | apply below_drew1 | refine below_set ?_ GE189.out | refine below_set ?_ GE191.out | refine below_set ?_ GE194.out) | exact HB.out)))); have n2_ := Aside0.mk (blk_below (g := gb189) (o := .cells #[.int .i64 a1_0, .int .i64 a1_1] 37 (0, 0)) (by (with_reducible repeat (first | refine blk_drewN ?_ _ | refine blk_drew ?_ | refine blk_alloc ?_ _)); refine blk_far ?_ NB189_194.out _; (with_reducible repeat (first | refine blk_drewN ?_ _ | refine blk_drew ?_ | refine blk_alloc ?_ _)); refine blk_far ?_ NB189_194.out _; (with_reducible repeat (first | refine blk_drewN ?_ _ | refine blk_drew ?_ | refine blk_alloc ?_ _)); refine blk_far ?_ NB189_194.out _; (with_reducible repeat (first | refine blk_drewN ?_ _ | refine blk_drew ?_ | refine blk_alloc ?_ _)); refine blk_far ?_ NB189_194.out _; (with_reducible repeat (first | refine blk_drewN ?_ _ | refine blk_drew ?_ | refine blk_alloc ?_ _)); refine blk_far ?_ NB189_194.out _; (with_reducible repeat (first | refine blk_drewN ?_ _ | refine blk_drew ?_ | refine blk_alloc ?_ _)); refine blk_far ?_ NB189_194.out _; (with_reducible repeat (first | refine blk_drewN ?_ _ | refine blk_drew ?_ | refine blk_alloc ?_ _)); refine blk_far ?_ NB189_194.out _; (with_reducible repeat (first | refine blk_drewN ?_ _ | refine blk_drew ?_ | refine blk_alloc ?_ _)); refine blk_far ?_ NB189_194.out _; (with_reducible repeat (first | refine blk_drewN ?_ _ | refine blk_drew ?_ | refine blk_alloc ?_ _)); refine blk_far ?_ NB189_194.out _; (with_reducible repeat (first | refine blk_drewN ?_ _ | refine blk_drew ?_ | refine blk_alloc ?_ _)); refine blk_far ?_ NB189_194.out _; (with_reducible repeat (first | refine blk_drewN ?_ _ | refine blk_drew ?_ | refine blk_alloc ?_ _)); refine blk_far ?_ NB189_194.out _; (with_reducible repeat (first | refine blk_drewN ?_ _ | refine blk_drew ?_ | refine blk_alloc ?_ _)); refine blk_far ?_ NB189_194.out _; (with_reducible repeat (first | refine blk_drewN ?_ _ | refine blk_drew ?_ | refine blk_alloc ?_ _)); exact BK189.out) hb); have n3_ := Aside0.mk (blk_below (g := gb191) (o := .cells #[.int .i64 ((rd_T45 l0 x18_1).f0), .int .i64 ((rd_T45 l0 x18_1).f1), .int .i64 ((rd_T45 l0 x18_1).f2), .int .i64 ((rd_T45 l0 x18_1).f3), .int .i64 ((rd_T45 l0 x18_1).f4), .int .i64 ((rd_T45 l0 x18_1).f5), .int .i64 ((rd_T45 l0 x18_1).f6), .int .i64 ((rd_T45 l0 x18_1).f7), .int .i64 ((rd_T45 l0 x18_1).f8), .int .i64 ((rd_T45 l0 x18_1).f9), .string ((rd_T45 l0 x18_1).f10), .string ((rd_T45 l0 x18_1).f11)] 45 (0, 0)) (by (with_reducible repeat (first | refine blk_drewN ?_ _ | refine blk_drew ?_ | refine blk_alloc ?_ _)); refine blk_far ?_ NB191_194.out _; (with_reducible repeat (first | refine blk_drewN ?_ _ | refine blk_drew ?_ | refine blk_alloc ?_ _)); refine blk_far ?_ NB191_194.out _; (with_reducible repeat (first | refine blk_drewN ?_ _ | refine blk_drew ?_ | refine blk_alloc ?_ _)); refine blk_far ?_ NB191_194.out _; (with_reducible repeat (first | refine blk_drewN ?_ _ | refine blk_drew ?_ | refine blk_alloc ?_ _)); refine blk_far ?_ NB191_194.out _; (with_reducible repeat (first | refine blk_drewN ?_ _ | refine blk_drew ?_ | refine blk_alloc ?_ _)); refine blk_far ?_ NB191_194.out _; (with_reducible repeat (first | refine blk_drewN ?_ _ | refine blk_drew ?_ | refine blk_alloc ?_ _)); refine blk_far ?_ NB191_194.out _; (with_reducible repeat (first | refine blk_drewN ?_ _ | refine blk_drew ?_ | refine blk_alloc ?_ _)); refine blk_far ?_ NB191_194.out _; (with_reducible repeat (first | refine blk_drewN ?_ _ | refine blk_drew ?_ | refine blk_alloc ?_ _)); refine blk_far ?_ NB191_194.out _; (with_reducible repeat (first | refine blk_drewN ?_ _ | refine blk_drew ?_ | refine blk_alloc ?_ _)); refine blk_far ?_ NB191_194.out _; (with_reducible repeat (first | refine blk_drewN ?_ _ | refine blk_drew ?_ | refine blk_alloc ?_ _)); refine blk_far ?_ NB191_194.out _; (with_reducible repeat (first | refine blk_drewN ?_ _ | refine blk_drew ?_ | refine blk_alloc ?_ _)); refine blk_far ?_ NB191_194.out _; (with_reducible repeat (first | refine blk_drewN ?_ _ | refine blk_drew ?_ | refine blk_alloc ?_ _)); refine blk_far ?_ NB191_194.out _; (with_reducible repeat (first | refine blk_drewN ?_ _ | refine blk_drew ?_ | refine blk_alloc ?_ _)); exact BK191.out) hb); have n4_ := Aside0.mk (blk_below (g := gb194) (o := .cells #[.int .i64 ((rd_T45 l0 t192).f0), .int .i64 ((rd_T45 l0 t192).f1), .int .i64 ((rd_T45 l0 t192).f2), .int .i64 ((rd_T45 l0 t192).f3), .int .i64 ((rd_T45 l0 t192).f4), .int .i64 ((rd_T45 l0 t192).f5), .int .i64 ((rd_T45 l0 t192).f6), .int .i64 ((rd_T45 l0 t192).f7), .int .i64 ((rd_T45 l0 t192).f8), .int .i64 ((rd_T45 l0 t192).f9), .string ((rd_T45 l0 t192).f10), .string ((rd_T45 l0 t192).f11)] 45 (0, 0)) (by (with_reducible repeat (first | refine blk_drewN ?_ _ | refine blk_drew ?_ | refine blk_alloc ?_ _)); refine blk_put (cs := #[.int .i64 ((rd_T45 l0 t192).f0), .int .i64 ((rd_T45 l0 t192).f1), .int .i64 ((rd_T45 l0 t192).f2), .int .i64 ((rd_T45 l0 t192).f3), .int .i64 ((rd_T45 l0 t192).f4), .int .i64 ((rd_T45 l0 t192).f5), .int .i64 ((rd_T45 l0 t192).f6), .int .i64 ((rd_T45 l0 t192).f7), .int .i64 ((rd_T45 l0 t192).f8), .int .i64 ((rd_T45 l0 t192).f9), .string ((rd_T45 l0 t192).f10), .string (⟨#[]⟩ : ByteArray)]) ?_ 11 _ rfl; (with_reducible repeat (first | refine blk_drewN ?_ _ | refine blk_drew ?_ | refine blk_alloc ?_ _)); refine blk_put (cs := #[.int .i64 ((rd_T45 l0 t192).f0), .int .i64 ((rd_T45 l0 t192).f1), .int .i64 ((rd_T45 l0 t192).f2), .int .i64 ((rd_T45 l0 t192).f3), .int .i64 ((rd_T45 l0 t192).f4), .int .i64 ((rd_T45 l0 t192).f5), .int .i64 ((rd_T45 l0 t192).f6), .int .i64 ((rd_T45 l0 t192).f7), .int .i64 ((rd_T45 l0 t192).f8), .int .i64 ((rd_T45 l0 t192).f9), .string (⟨#[]⟩ : ByteArray), .string (⟨#[]⟩ : ByteArray)]) ?_ 10 _ rfl; (with_reducible repeat (first | refine blk_drewN ?_ _ | refine blk_drew ?_ | refine blk_alloc ?_ _)); refine blk_put (cs := #[.int .i64 ((rd_T45 l0 t192).f0), .int .i64 ((rd_T45 l0 t192).f1), .int .i64 ((rd_T45 l0 t192).f2), .int .i64 ((rd_T45 l0 t192).f3), .int .i64 ((rd_T45 l0 t192).f4), .int .i64 ((rd_T45 l0 t192).f5), .int .i64 ((rd_T45 l0 t192).f6), .int .i64 ((rd_T45 l0 t192).f7), .int .i64 ((rd_T45 l0 t192).f8), .int .i64 0, .string (⟨#[]⟩ : ByteArray), .string (⟨#[]⟩ : ByteArray)]) ?_ 9 _ rfl; (with_reducible repeat (first | refine blk_drewN ?_ _ | refine blk_drew ?_ | refine blk_alloc ?_ _)); refine blk_put (cs := #[.int .i64 ((rd_T45 l0 t192).f0), .int .i64 ((rd_T45 l0 t192).f1), .int .i64 ((rd_T45 l0 t192).f2), .int .i64 ((rd_T45 l0 t192).f3), .int .i64 ((rd_T45 l0 t192).f4), .int .i64 ((rd_T45 l0 t192).f5), .int .i64 ((rd_T45 l0 t192).f6), .int .i64 ((rd_T45 l0 t192).f7), .int .i64 0, .int .i64 0, .string (⟨#[]⟩ : ByteArray), .string (⟨#[]⟩ : ByteArray)]) ?_ 8 _ rfl; (with_reducible repeat (first | refine blk_drewN ?_ _ | refine blk_drew ?_ | refine blk_alloc ?_ _)); refine blk_put (cs := #[.int .i64 ((rd_T45 l0 t192).f0), .int .i64 ((rd_T45 l0 t192).f1), .int .i64 ((rd_T45 l0 t192).f2), .int .i64 ((rd_T45 l0 t192).f3), .int .i64 ((rd_T45 l0 t192).f4), .int .i64 ((rd_T45 l0 t192).f5), .int .i64 ((rd_T45 l0 t192).f6), .int .i64 0, .int .i64 0, .int .i64 0, .string (⟨#[]⟩ : ByteArray), .string (⟨#[]⟩ : ByteArray)]) ?_ 7 _ rfl; (with_reducible repeat (first | refine blk_drewN ?_ _ | refine blk_drew ?_ | refine blk_alloc ?_ _)); refine blk_put (cs := #[.int .i64 ((rd_T45 l0 t192).f0), .int .i64 ((rd_T45 l0 t192).f1), .int .i64 ((rd_T45 l0 t192).f2), .int .i64 ((rd_T45 l0 t192).f3), .int .i64 ((rd_T45 l0 t192).f4), .int .i64 ((rd_T45 l0 t192).f5), .int .i64 0, .int .i64 0, .int .i64 0, .int .i64 0, .string (⟨#[]⟩ : ByteArray), .string (⟨#[]⟩ : ByteArray)]) ?_ 6 _ rfl; (with_reducible repeat (first | refine blk_drewN ?_ _ | refine blk_drew ?_ | refine blk_alloc ?_ _)); refine blk_put (cs := #[.int .i64 ((rd_T45 l0 t192).f0), .int .i64 ((rd_T45 l0 t192).f1), .int .i64 ((rd_T45 l0 t192).f2), .int .i64 ((rd_T45 l0 t192).f3), .int .i64 ((rd_T45 l0 t192).f4), .int .i64 0, .int .i64 0, .int .i64 0, .int .i64 0, .int .i64 0, .string (⟨#[]⟩ : ByteArray), .string (⟨#[]⟩ : ByteArray)]) ?_ 5 _ rfl; (with_reducible repeat (first | refine blk_drewN ?_ _ | refine blk_drew ?_ | refine blk_alloc ?_ _)); refine blk_put (cs := #[.int .i64 ((rd_T45 l0 t192).f0), .int .i64 ((rd_T45 l0 t192).f1), .int .i64 ((rd_T45 l0 t192).f2), .int .i64 ((rd_T45 l0 t192).f3), .int .i64 0, .int .i64 0, .int .i64 0, .int .i64 0, .int .i64 0, .int .i64 0, .string (⟨#[]⟩ : ByteArray), .string (⟨#[]⟩ : ByteArray)]) ?_ 4 _ rfl; (with_reducible repeat (first | refine blk_drewN ?_ _ | refine blk_drew ?_ | refine blk_alloc ?_ _)); refine blk_put (cs := #[.int .i64 ((rd_T45 l0 t192).f0), .int .i64 ((rd_T45 l0 t192).f1), .int .i64 ((rd_T45 l0 t192).f2), .int .i64 0, .int .i64 0, .int .i64 0, .int .i64 0, .int .i64 0, .int .i64 0, .int .i64 0, .string (⟨#[]⟩ : ByteArray), .string (⟨#[]⟩ : ByteArray)]) ?_ 3 _ rfl; (with_reducible repeat (first | refine blk_drewN ?_ _ | refine blk_drew ?_ | refine blk_alloc ?_ _)); refine blk_put (cs := #[.int .i64 ((rd_T45 l0 t192).f0), .int .i64 ((rd_T45 l0 t192).f1), .int .i64 0, .int .i64 0, .int .i64 0, .int .i64 0, .int .i64 0, .int .i64 0, .int .i64 0, .int .i64 0, .string (⟨#[]⟩ : ByteArray), .string (⟨#[]⟩ : ByteArray)]) ?_ 2 _ rfl; (with_reducible repeat (first | refine blk_drewN ?_ _ | refine blk_drew ?_ | refine blk_alloc ?_ _)); refine blk_put (cs := #[.int .i64 ((rd_T45 l0 t192).f0), .int .i64 0, .int .i64 0, .int .i64 0, .int .i64 0, .int .i64 0, .int .i64 0, .int .i64 0, .int .i64 0, .int .i64 0, .string (⟨#[]⟩ : ByteArray), .string (⟨#[]⟩ : ByteArray)]) ?_ 1 _ rfl; (with_reducible repeat (first | refine blk_drewN ?_ _ | refine blk_drew ?_ | refine blk_alloc ?_ _)); refine blk_put (cs := #[.int .i64 0, .int .i64 0, .int .i64 0, .int .i64 0, .int .i64 0, .int .i64 0, .int .i64 0, .int .i64 0, .int .i64 0, .int .i64 0, .string (⟨#[]⟩ : ByteArray), .string (⟨#[]⟩ : ByteArray)]) ?_ 0 _ rfl; (with_reducible repeat (first | refine blk_drewN ?_ _ | refine blk_drew ?_ | refine blk_alloc ?_ _)); exact BK194.out) hb); have n5_ := Aside0.mk (below_step (by repeat (first | (with_reducible first | exact HB.out | apply below_alloc | apply pw_below_drewN | apply below_drew1 | refine below_set ?_ GE189.out | refine below_set ?_ GE191.out | refine below_set ?_ GE194.out) | exact HB.out)) hb); clear HO_8; clear BK189; clear BK191; clear BK194; clear HB; have HO_8 := n0_; have HO197 := n1_; have BK189 := n2_; have BK191 := n3_; have BK194 := n4_; have HB := n5_; clear n0_ n1_ n2_ n3_ n4_ n5_; clear hb ho103; obtain ⟨Ao105, co105, eo105⟩ := Kd.R_slice HO_8.out; subst eo105) | ((with_reducible refine gate_builtin (b := .append) (xs := #[.tmp 41, .tmp 42]) rfl ?_); at_builtin; refine Kd.R_append_rows k45 (w0 := w) w.heap.size rfl (.tmp 41) (.tmp 42) 22 45 (.agg #[(.int .i64 0), (.int .i64 0), (.int .i64 0), (.int .i64 0), (.int .i64 0), (.int .i64 0), (.int .i64 0), (.int .i64 0), (.int .i64 0), (.int .i64 0), (.string ⟨#[]⟩), (.string ⟨#[]⟩)]) 112 rfl Tryd.underlying22 info45 rfl (by decide) (by omega) v196 y195 x8_3 _ _ _ (fun k_ => some k_ ≠ (.slice Ao105 x8_3.length co105 : Value).ownBlock ∧ k_ ≠ gb191 ∧ k_ ≠ gb194) (fun _ => False) rfl rfl ?aO ?aR (fun _ _ h => h) (fun _ h => h.elim) ?aF ?aB ?aS ?aL ?_; (case aR => repeat (first | exact (Kd.R_reads' HO_8.out).2.2 | (with_reducible refine Kd.C_alloc ?_ _) | (with_reducible refine Kd.C_drewN ?_ _) | (with_reducible refine Kd.C_drew ?_))); (case aB => exact (by repeat (first | (with_reducible first | exact HB.out | apply below_alloc | apply pw_below_drewN | apply below_drew1 | refine below_set ?_ GE189.out | refine below_set ?_ GE191.out | refine below_set ?_ GE194.out) | exact HB.out))); (case aF => exact (fun k_ hk => ⟨Kd.fresh' (Kd.R_lt (by (with_reducible repeat (first | apply Kd.R_alloc | apply Kd.R_drewN | apply Kd.R_drew)); exact HO_8.out)) k_ hk, Kd.freshB (g := gb191) (o := .cells #[.int .i64 ((rd_T45 l0 x18_1).f0), .int .i64 ((rd_T45 l0 x18_1).f1), .int .i64 ((rd_T45 l0 x18_1).f2), .int .i64 ((rd_T45 l0 x18_1).f3), .int .i64 ((rd_T45 l0 x18_1).f4), .int .i64 ((rd_T45 l0 x18_1).f5), .int .i64 ((rd_T45 l0 x18_1).f6), .int .i64 ((rd_T45 l0 x18_1).f7), .int .i64 ((rd_T45 l0 x18_1).f8), .int .i64 ((rd_T45 l0 x18_1).f9), .string ((rd_T45 l0 x18_1).f10), .string ((rd_T45 l0 x18_1).f11)] 45 (0, 0)) (by (with_reducible repeat (first | refine blk_drewN ?_ _ | refine blk_drew ?_ | refine blk_alloc ?_ _)); exact BK191.out) k_ hk, Kd.freshB (g := gb194) (o := .cells #[.int .i64 ((rd_T45 l0 t192).f0), .int .i64 ((rd_T45 l0 t192).f1), .int .i64 ((rd_T45 l0 t192).f2), .int .i64 ((rd_T45 l0 t192).f3), .int .i64 ((rd_T45 l0 t192).f4), .int .i64 ((rd_T45 l0 t192).f5), .int .i64 ((rd_T45 l0 t192).f6), .int .i64 ((rd_T45 l0 t192).f7), .int .i64 ((rd_T45 l0 t192).f8), .int .i64 ((rd_T45 l0 t192).f9), .string ((rd_T45 l0 t192).f10), .string ((rd_T45 l0 t192).f11)] 45 (0, 0)) (by (with_reducible repeat (first | refine blk_drewN ?_ _ | refine blk_drew ?_ | refine blk_alloc ?_ _)); exact BK194.out) k_ hk⟩)); (case aO => exact (by (with_reducible repeat (first | apply Kd.R_alloc | apply Kd.R_drewN | apply Kd.R_drew)); exact Kd.R_mono HO197.out (fun _ hk => ⟨hk.1.1.2, ⟨hk.1.2, hk.2⟩⟩))); (case aS => exact (below_size (by repeat (first | (with_reducible first | exact HB.out | apply below_alloc | apply pw_below_drewN | apply below_drew1 | refine below_set ?_ GE189.out | refine below_set ?_ GE191.out | refine below_set ?_ GE194.out) | exact HB.out)))); (case aL => have := LMc96.out; omega); intro v199 w104 ho hb hg hat; rw [← Ny198.out] at ho; have n0_ := Aside0.mk (Kd.R_after (ok := (fun k_ => k_ ≠ gb191 ∧ k_ ≠ gb194)) (by (with_reducible repeat (first | apply Kd.R_alloc | apply Kd.R_drewN | apply Kd.R_drew)); exact HO_8.out) hg hat); have n1_ := Aside0.mk (blk_grown (g := gb189) (o := .cells #[.int .i64 a1_0, .int .i64 a1_1] 37 (0, 0)) (by (with_reducible repeat (first | refine blk_drewN ?_ _ | refine blk_drew ?_ | refine blk_alloc ?_ _)); exact BK189.out) hg (Kd.R_ne HO197.out BK189.out (by decide))); have n2_ := Aside0.mk (blk_grown (g := gb191) (o := .cells #[.int .i64 ((rd_T45 l0 x18_1).f0), .int .i64 ((rd_T45 l0 x18_1).f1), .int .i64 ((rd_T45 l0 x18_1).f2), .int .i64 ((rd_T45 l0 x18_1).f3), .int .i64 ((rd_T45 l0 x18_1).f4), .int .i64 ((rd_T45 l0 x18_1).f5), .int .i64 ((rd_T45 l0 x18_1).f6), .int .i64 ((rd_T45 l0 x18_1).f7), .int .i64 ((rd_T45 l0 x18_1).f8), .int .i64 ((rd_T45 l0 x18_1).f9), .string ((rd_T45 l0 x18_1).f10), .string ((rd_T45 l0 x18_1).f11)] 45 (0, 0)) (by (with_reducible repeat (first | refine blk_drewN ?_ _ | refine blk_drew ?_ | refine blk_alloc ?_ _)); exact BK191.out) hg (Kd.R_away HO197.out (fun _ hk => hk.1.2))); have n3_ := Aside0.mk (blk_grown (g := gb194) (o := .cells #[.int .i64 ((rd_T45 l0 t192).f0), .int .i64 ((rd_T45 l0 t192).f1), .int .i64 ((rd_T45 l0 t192).f2), .int .i64 ((rd_T45 l0 t192).f3), .int .i64 ((rd_T45 l0 t192).f4), .int .i64 ((rd_T45 l0 t192).f5), .int .i64 ((rd_T45 l0 t192).f6), .int .i64 ((rd_T45 l0 t192).f7), .int .i64 ((rd_T45 l0 t192).f8), .int .i64 ((rd_T45 l0 t192).f9), .string ((rd_T45 l0 t192).f10), .string ((rd_T45 l0 t192).f11)] 45 (0, 0)) (by (with_reducible repeat (first | refine blk_drewN ?_ _ | refine blk_drew ?_ | refine blk_alloc ?_ _)); exact BK194.out) hg (Kd.R_away HO197.out (fun _ hk => hk.2))); have n4_ := Aside0.mk (hb); have n5_ := Aside0.mk (ho); clear HO_8; clear BK189; clear BK191; clear BK194; clear HB; clear HO197; have HO_8 := n0_; have BK189 := n1_; have BK191 := n2_; have BK194 := n3_; have HB := n4_; have HO200 := n5_; clear n0_ n1_ n2_ n3_ n4_ n5_; clear ho hb hg hat; obtain ⟨hcz106_0, hcz106_1, hcz106_2, hcz106_3, hcz106_4, hcz106_5, hcz106_6, hcz106_7, hcz106_8, hcz106_9, hcz106_10, hcz106_11⟩ := cells12 BK194.out; have hfz106_ := fun j => blk_frozen BK194.out j))
               go_roundg k3
               case measure => have := HK1.out; have := HJ6.out; have := HK3.out; omega
               case rel => exact ⟨(y198), ((rd_T45 l0 t192).f1), (by first | rfl | (simp; done) | (simp [*]; done)), H', ⟨by have := HK1.out; have := HJ6.out; have := HK3.out; omega⟩, ⟨by (with_reducible repeat (first | apply Kd.R_alloc | apply Kd.R_drewN | apply Kd.R_drew)); exact Kd.R_mono HO200.out (fun _ hk => hk.2.1)⟩, ⟨by (with_reducible repeat (first | refine blk_drewN ?_ _ | refine blk_drew ?_ | refine blk_alloc ?_ _)); exact BK189.out⟩, ⟨by (with_reducible repeat (first | refine blk_drewN ?_ _ | refine blk_drew ?_ | refine blk_alloc ?_ _)); exact BK191.out⟩, ⟨by repeat (first | (with_reducible first | exact HB.out | apply below_alloc | apply pw_below_drewN | apply below_drew1 | refine below_set ?_ GE189.out | refine below_set ?_ GE191.out | refine below_set ?_ GE194.out) | exact HB.out)⟩⟩
              ·rw [if_neg c96] at H
               exact absurd H (by simp)
             ·rw [if_neg c95] at H
              exact absurd H (by simp)
            ·rw [if_neg c94] at H
             exact absurd H (by simp)
     ·rw [if_neg c6] at H
      exact absurd H (by simp)
    ·rw [if_neg c5] at H
     exact absurd H (by simp)
   ·rw [if_neg c4] at H
    have c4b0 : decide (x18_1 < (l0.length : Int)) = false := decide_eq_false c4
    clear c4
    obtain rfl := Option.some.inj H
    go_wp2
    go_ret
    exact ⟨by first | rfl | (simp [errW_none, errW_some] <;> rfl) | (simp [*, errW_none, errW_some] <;> rfl), by repeat (first | (with_reducible first | exact HB.out | apply below_alloc | apply pw_below_drewN | apply below_drew1 | refine below_set ?_ GE189.out) | exact HB.out)⟩
end Go.Proofs.YtmheeekbbhkmkaaDoor.QSH
