-- PRINTED BY print.sh 35421559b90ae4d0a3588c463048766b98c2df88dd9212a6774a882060cdf62d: not written by this session
import Derived.Test.YtihmbddneapooaaPClockLeftx0
namespace Go.Proofs.Ytihmbddneapooaa.PClockLeft
open Go.RowKit Go.Proofs.YtihmbddneapooaaW.PrintWords Go.Proofs.YtihmbddneapooaaW.PrintLast Go.Proofs.YtihmbddneapooaaW.PrintMore
attribute [local go_sem] max2_int min2_int max_two min_two max_three min_three max_four min_four   -- for this text's walks alone
set_option linter.unusedVariables false
set_option linter.unusedSimpArgs false

/-! ### clock_Check: function 36 -/
mutual
def clock_Check.l0 : Nat → Bool → Int → Bool → List (S72) → Int → Int → Option (Int)
  | 0, _, _, _, _, _, _ => none
  | k + 1, x3, x4, x5, x11, x12, x13 => if x13 < x12 then (if 0 ≤ x13 then (if x13 < (x11.length : Int) then (if ((rd_T72 x11 x13).f0) < 0 then (clock_Check.j1 k x3 x4 x5 x11 x12 x13 true ((rd_T72 x11 x13).f0) ((rd_T72 x11 x13).f1) ((rd_T72 x11 x13).f2)) else (clock_Check.j1 k x3 x4 x5 x11 x12 x13 (decide (((rd_T72 x11 x13).f0) > 3)) ((rd_T72 x11 x13).f0) ((rd_T72 x11 x13).f1) ((rd_T72 x11 x13).f2))) else (none)) else (none)) else (some 0)
def clock_Check.j1 : Nat → Bool → Int → Bool → List (S72) → Int → Int → Bool → Int → Int → Int → Option (Int)
  | 0, _, _, _, _, _, _, _, _, _, _ => none
  | k + 1, x3, x4, x5, x11, x12, x13, x24, x103000, x103001, x103002 => if x24 = true then (some 8) else (if x103001 < 0 then (clock_Check.j2 k x3 x4 x5 x11 x12 x13 true x103000 x103001 x103002) else (if x103001 > 10000000 then (clock_Check.j2 k x3 x4 x5 x11 x12 x13 true x103000 x103001 x103002) else (if x103002 < 0 then (clock_Check.j2 k x3 x4 x5 x11 x12 x13 true x103000 x103001 x103002) else (clock_Check.j2 k x3 x4 x5 x11 x12 x13 (decide (x103002 > 1000)) x103000 x103001 x103002))))
def clock_Check.j2 : Nat → Bool → Int → Bool → List (S72) → Int → Int → Bool → Int → Int → Int → Option (Int)
  | 0, _, _, _, _, _, _, _, _, _, _ => none
  | k + 1, x3, x4, x5, x11, x12, x13, x42, x103000, x103001, x103002 => if x42 = true then (some 2) else (if ((x103000 == 2) != (decide (x103002 > 0))) = true then (some 4) else (if x103001 < x4 then (some 5) else (if x5 = true then (clock_Check.j3 k x3 x5 x11 x12 x13 true x103000 x103001 x103002) else (if x103000 = 0 then (if x3 = true then (clock_Check.j3 k x3 x5 x11 x12 x13 true x103000 x103001 x103002) else (if x103000 = 1 then (clock_Check.j3 k x3 x5 x11 x12 x13 (!x3) x103000 x103001 x103002) else (clock_Check.j3 k x3 x5 x11 x12 x13 false x103000 x103001 x103002))) else (if x103000 = 1 then (clock_Check.j3 k x3 x5 x11 x12 x13 (!x3) x103000 x103001 x103002) else (clock_Check.j3 k x3 x5 x11 x12 x13 false x103000 x103001 x103002))))))
def clock_Check.j3 : Nat → Bool → Bool → List (S72) → Int → Int → Bool → Int → Int → Int → Option (Int)
  | 0, _, _, _, _, _, _, _, _, _ => none
  | k + 1, x3, x5, x11, x12, x13, x71, x103000, x103001, x103002 => if x71 = true then (some 13) else (if x103000 = 0 then (clock_Check.l0 k true x103001 x5 x11 x12 (wrap64 (x13 + 1))) else (if x103000 = 1 then (clock_Check.l0 k false x103001 x5 x11 x12 (wrap64 (x13 + 1))) else (if x103000 = 3 then (clock_Check.l0 k false x103001 true x11 x12 (wrap64 (x13 + 1))) else (clock_Check.l0 k x3 x103001 x5 x11 x12 (wrap64 (x13 + 1))))))
end
def clock_Check.f (k : Nat) (l0 : List (S72)) : Option (Int) := if (l0.length : Int) > 1000 then (some 3) else (clock_Check.l0 k false 0 false l0 (l0.length : Int) 0)
theorem clock_Check.mono_l : ∀ k, (∀ y0 y1 y2 y3 y4 y5, LeO (clock_Check.l0 k y0 y1 y2 y3 y4 y5) (clock_Check.l0 (k + 1) y0 y1 y2 y3 y4 y5)) ∧ (∀ y0 y1 y2 y3 y4 y5 y6 y7 y8 y9, LeO (clock_Check.j1 k y0 y1 y2 y3 y4 y5 y6 y7 y8 y9) (clock_Check.j1 (k + 1) y0 y1 y2 y3 y4 y5 y6 y7 y8 y9)) ∧ (∀ y0 y1 y2 y3 y4 y5 y6 y7 y8 y9, LeO (clock_Check.j2 k y0 y1 y2 y3 y4 y5 y6 y7 y8 y9) (clock_Check.j2 (k + 1) y0 y1 y2 y3 y4 y5 y6 y7 y8 y9)) ∧ (∀ y0 y1 y2 y3 y4 y5 y6 y7 y8, LeO (clock_Check.j3 k y0 y1 y2 y3 y4 y5 y6 y7 y8) (clock_Check.j3 (k + 1) y0 y1 y2 y3 y4 y5 y6 y7 y8))
  | 0 => ⟨fun _ _ _ _ _ _ r h => by simp [clock_Check.l0] at h, fun _ _ _ _ _ _ _ _ _ _ r h => by simp [clock_Check.j1] at h, fun _ _ _ _ _ _ _ _ _ _ r h => by simp [clock_Check.j2] at h, fun _ _ _ _ _ _ _ _ _ r h => by simp [clock_Check.j3] at h⟩
  | k + 1 => by
    obtain ⟨ih0, ih1, ih2, ih3⟩ := clock_Check.mono_l k
    refine ⟨?_, ?_, ?_, ?_⟩
    · intro y0 y1 y2 y3 y4 y5
      unfold clock_Check.l0
      repeat' first
      | (with_reducible exact ih0 _ _ _ _ _ _)
      | (with_reducible exact ih1 _ _ _ _ _ _ _ _ _ _)
      | (with_reducible exact ih2 _ _ _ _ _ _ _ _ _ _)
      | (with_reducible exact ih3 _ _ _ _ _ _ _ _ _)
      | (with_reducible exact LeO.refl _)
      | (with_reducible exact LeO.none _)
      | (with_reducible refine LeO.ite ?_ ?_)
      | (with_reducible refine LeO.bind ?_ (fun _ => ?_))
      | exact ih0 _ _ _ _ _ _
      | exact ih1 _ _ _ _ _ _ _ _ _ _
      | exact ih2 _ _ _ _ _ _ _ _ _ _
      | exact ih3 _ _ _ _ _ _ _ _ _
      | exact LeO.none _
      | refine LeO.ite ?_ ?_
      | refine LeO.bind ?_ (fun _ => ?_)
    · intro y0 y1 y2 y3 y4 y5 y6 y7 y8 y9
      unfold clock_Check.j1
      repeat' first
      | (with_reducible exact ih0 _ _ _ _ _ _)
      | (with_reducible exact ih1 _ _ _ _ _ _ _ _ _ _)
      | (with_reducible exact ih2 _ _ _ _ _ _ _ _ _ _)
      | (with_reducible exact ih3 _ _ _ _ _ _ _ _ _)
      | (with_reducible exact LeO.refl _)
      | (with_reducible exact LeO.none _)
      | (with_reducible refine LeO.ite ?_ ?_)
      | (with_reducible refine LeO.bind ?_ (fun _ => ?_))
      | exact ih0 _ _ _ _ _ _
      | exact ih1 _ _ _ _ _ _ _ _ _ _
      | exact ih2 _ _ _ _ _ _ _ _ _ _
      | exact ih3 _ _ _ _ _ _ _ _ _
      | exact LeO.none _
      | refine LeO.ite ?_ ?_
      | refine LeO.bind ?_ (fun _ => ?_)
    · intro y0 y1 y2 y3 y4 y5 y6 y7 y8 y9
      unfold clock_Check.j2
      repeat' first
      | (with_reducible exact ih0 _ _ _ _ _ _)
      | (with_reducible exact ih1 _ _ _ _ _ _ _ _ _ _)
      | (with_reducible exact ih2 _ _ _ _ _ _ _ _ _ _)
      | (with_reducible exact ih3 _ _ _ _ _ _ _ _ _)
      | (with_reducible exact LeO.refl _)
      | (with_reducible exact LeO.none _)
      | (with_reducible refine LeO.ite ?_ ?_)
      | (with_reducible refine LeO.bind ?_ (fun _ => ?_))
      | exact ih0 _ _ _ _ _ _
      | exact ih1 _ _ _ _ _ _ _ _ _ _
      | exact ih2 _ _ _ _ _ _ _ _ _ _
      | exact ih3 _ _ _ _ _ _ _ _ _
      | exact LeO.none _
      | refine LeO.ite ?_ ?_
      | refine LeO.bind ?_ (fun _ => ?_)
    · intro y0 y1 y2 y3 y4 y5 y6 y7 y8
      unfold clock_Check.j3
      repeat' first
      | (with_reducible exact ih0 _ _ _ _ _ _)
      | (with_reducible exact ih1 _ _ _ _ _ _ _ _ _ _)
      | (with_reducible exact ih2 _ _ _ _ _ _ _ _ _ _)
      | (with_reducible exact ih3 _ _ _ _ _ _ _ _ _)
      | (with_reducible exact LeO.refl _)
      | (with_reducible exact LeO.none _)
      | (with_reducible refine LeO.ite ?_ ?_)
      | (with_reducible refine LeO.bind ?_ (fun _ => ?_))
      | exact ih0 _ _ _ _ _ _
      | exact ih1 _ _ _ _ _ _ _ _ _ _
      | exact ih2 _ _ _ _ _ _ _ _ _ _
      | exact ih3 _ _ _ _ _ _ _ _ _
      | exact LeO.none _
      | refine LeO.ite ?_ ?_
      | refine LeO.bind ?_ (fun _ => ?_)
theorem clock_Check.mono : ∀ a0 k, LeO (clock_Check.f k a0) (clock_Check.f (k + 1) a0) := by
  intro a0 k
  obtain ⟨ih0, ih1, ih2, ih3⟩ := clock_Check.mono_l k
  unfold clock_Check.f
  repeat' first
      | (with_reducible exact ih0 _ _ _ _ _ _)
      | (with_reducible exact ih1 _ _ _ _ _ _ _ _ _ _)
      | (with_reducible exact ih2 _ _ _ _ _ _ _ _ _ _)
      | (with_reducible exact ih3 _ _ _ _ _ _ _ _ _)
      | (with_reducible exact LeO.refl _)
      | (with_reducible exact LeO.none _)
      | (with_reducible refine LeO.ite ?_ ?_)
      | (with_reducible refine LeO.bind ?_ (fun _ => ?_))
      | exact ih0 _ _ _ _ _ _
      | exact ih1 _ _ _ _ _ _ _ _ _ _
      | exact ih2 _ _ _ _ _ _ _ _ _ _
      | exact ih3 _ _ _ _ _ _ _ _ _
      | exact LeO.none _
      | refine LeO.ite ?_ ?_
      | refine LeO.bind ?_ (fun _ => ?_)
set_option maxHeartbeats 8000000 in
set_option maxRecDepth 100000 in
theorem clock_Check.calls (k : Nat) (A0 : Option Addr) (c0 : Nat) (l0 : List (S72)) (r : Int) (w : World) (hr0 : Kd.C k72 w A0 l0.length l0) (hc0 : l0.length ≤ c0) (h : clock_Check.f k l0 = some r) :
    Calls Try.prog 36 #[.slice A0 l0.length c0] w fun e w' => e = .returned (.int .i64 r) ∧ Below w.heap.size w w' := by
  have hu72 := Try.underlying72
  have HR0 := Aside0.mk hr0
  have HC0 := Aside0.mk hc0
  clear hr0 hc0
  have HB := Aside0.mk (Below.refl w.heap.size w)
  have H : (if (l0.length : Int) > 1000 then (some 3) else (clock_Check.l0 k false 0 false l0 (l0.length : Int) 0)) = some r := h
  clear h
  by_cases c2 : (l0.length : Int) > 1000
  · rw [if_pos c2] at H
    have c2b0 : decide (1000 < (l0.length : Int)) = true := decide_eq_true c2
    have c2b1 : decide (1000 < l0.length) = true := decide_eq_true (by omega)
    clear c2
    obtain rfl := Option.some.inj H
    go_enter Try.func36, Try.ntmps36
    go_wp2
    go_ret
    exact ⟨by first | rfl | (simp [errW_none, errW_some] <;> rfl) | (simp [*, errW_none, errW_some] <;> rfl), by repeat (first | (with_reducible first | exact HB.out | apply below_alloc | apply pw_below_drewN | apply below_drew1) | exact HB.out)⟩
  · rw [if_neg c2] at H
    have c2b0 : decide (1000 < (l0.length : Int)) = false := decide_eq_false c2
    have c2b1 : decide (1000 < l0.length) = false := decide_eq_false (by omega)
    clear c2
    have H' := Aside0.mk H
    clear H
    go_enter Try.func36, Try.ntmps36
    go_wp2
    go_loopg [3, 4, 5, 13] k (fun kq v3 v4 v5 v13 w' => ∃ (x3_1 : Bool) (x4_1 : Int) (x5_1 : Bool) (x13_1 : Int), v3 = .bool x3_1 ∧ v4 = .int .i64 x4_1 ∧ v5 = .bool x5_1 ∧ v13 = .int .i64 x13_1 ∧ Aside0 (clock_Check.l0 kq x3_1 x4_1 x5_1 l0 (l0.length : Int) x13_1 = some r) ∧ Aside0 (kq ≤ k) ∧ Aside0 (Below w.heap.size w w'))
    case atStart => exact ⟨(false), (0), (false), (0), (by first | rfl | (simp; done) | (simp [*]; done)), (by first | rfl | (simp; done) | (simp [*]; done)), (by first | rfl | (simp; done) | (simp [*]; done)), (by first | rfl | (simp; done) | (simp [*]; done)), H', ⟨Nat.le_refl _⟩, ⟨by repeat (first | (with_reducible first | exact HB.out | apply below_alloc | apply pw_below_drewN | apply below_drew1) | exact HB.out)⟩⟩
    case round =>
      clear H'
      try clear c2
      try clear c2b0
      try clear c2b1
      try clear p2
      obtain ⟨x3_1, x4_1, x5_1, x13_1, rfl, rfl, rfl, rfl, HA, HK1, HB⟩ := hrel
      cases gk with
      | zero => exact absurd HA.out (by simp [clock_Check.l0])
      | succ k1 =>
        have H := HA.out
        clear HA
        simp only [clock_Check.l0] at H
        by_cases c3 : x13_1 < (l0.length : Int)
        · rw [if_pos c3] at H
          have c3b0 : decide (x13_1 < (l0.length : Int)) = true := decide_eq_true c3
          clear c3
          by_cases c4 : 0 ≤ x13_1
          · rw [if_pos c4] at H
            have c4b0 : decide (0 ≤ x13_1) = true := decide_eq_true c4
            clear c4
            by_cases c5 : x13_1 < (l0.length : Int)
            · rw [if_pos c5] at H
              have c5b0 : decide (x13_1 < (l0.length : Int)) = true := decide_eq_true c5
              clear c5
              have HC6 := Aside0.mk H
              clear H
              have p101 : 0 ≤ (x13_1 : Int) := of_decide_eq_true (by first | (with_reducible assumption) | assumption)
              have q101 : x13_1 < (l0.length : Int) := of_decide_eq_true (by first | (with_reducible assumption) | assumption)
              obtain ⟨ad101, e101, hx101_0, hx101_1, hx101_2⟩ := at_T72 HR0.out x13_1 p101 q101
              cases e101
              replace hx101_0 := (HB.out.cell (World.block_lt_of_cell? w _ hx101_0)).trans hx101_0
              replace hx101_1 := (HB.out.cell (World.block_lt_of_cell? w _ hx101_1)).trans hx101_1
              replace hx101_2 := (HB.out.cell (World.block_lt_of_cell? w _ hx101_2)).trans hx101_2
              replace p101 := eq_true p101
              replace q101 := eq_true q101
              go_upto_region 7 with (first | ((with_reducible refine gate_dst (N := 7) rfl ?_); refine box_event ?hg (N := 7) ?hd (cs := #[.int .i64 0, .int .i64 0, .int .i64 0]) (t := 72) ?hr ?_; (case hd => rfl); (case hg => rfl); (case hr => first | (go_simp; done) | (go_simp; rfl)); intro gb102 hg w7 hbox hb; have n0_ := Aside0.mk (below_step (by repeat (first | (with_reducible first | exact HB.out | apply below_alloc | apply pw_below_drewN | apply below_drew1) | exact HB.out)) hb); have n1_ := Aside0.mk (hbox); have n2_ := Aside0.mk ((by rw [hg]; exact (below_size (by repeat (first | (with_reducible first | exact HB.out | apply below_alloc | apply pw_below_drewN | apply below_drew1) | exact HB.out))) : w.heap.size ≤ gb102)); have n3_ := Aside0.mk ((by rw [hg]; exact (below_size (by repeat (first | (with_reducible first | exact HB.out | apply below_alloc | apply pw_below_drewN | apply below_drew1) | exact HB.out))) : w.heap.size ≤ gb102)); clear HB; have HB := n0_; have BK102 := n1_; have GW102 := n2_; have GE102 := n3_; clear n0_ n1_ n2_ n3_; clear hb hbox hg; have hcz8_0 : w7.cell? ⟨gb102, 0, none⟩ = some (.int .i64 0) := (blk_cell BK102.out 0).trans rfl; have hcz8_1 : w7.cell? ⟨gb102, 1, none⟩ = some (.int .i64 0) := (blk_cell BK102.out 1).trans rfl; have hcz8_2 : w7.cell? ⟨gb102, 2, none⟩ = some (.int .i64 0) := (blk_cell BK102.out 2).trans rfl; have hfz8_0 := blk_frozen BK102.out 0; have hfz8_1 := blk_frozen BK102.out 1; have hfz8_2 := blk_frozen BK102.out 2))
              (try simp only [Act.put, List.setIfInBounds_toArray, List.set_cons_zero, List.set_cons_succ])
              go_cut [24] (fun v24 wc => ∃ (kq : Nat) (x24_5 : Bool), v24 = .bool x24_5 ∧ Aside0 (clock_Check.j1 kq x3_1 x4_1 x5_1 l0 (l0.length : Int) x13_1 x24_5 ((rd_T72 l0 x13_1).f0) ((rd_T72 l0 x13_1).f1) ((rd_T72 l0 x13_1).f2) = some r) ∧ Aside0 (kq ≤ k1) ∧ Aside0 (wc.heap[gb102]? = some (.cells #[.int .i64 ((rd_T72 l0 x13_1).f0), .int .i64 ((rd_T72 l0 x13_1).f1), .int .i64 ((rd_T72 l0 x13_1).f2)] 72 (0, 0))) ∧ Aside0 (Below w.heap.size w wc))
              case first =>
                have H := HC6.out
                clear HC6
                by_cases c9 : ((rd_T72 l0 x13_1).f0) < 0
                · rw [if_pos c9] at H
                  have c9b0 : decide (((rd_T72 l0 x13_1).f0) < 0) = true := decide_eq_true c9
                  clear c9
                  (first | rw [c9b0] | (simp only [i64_w, i32_w]; rw [c9b0]) | skip)
                  have H' := Aside0.mk H
                  clear H
                  have hcz10_0 : w7.cell? ⟨gb102, 0, none⟩ = some (.int .i64 0) := (blk_cell BK102.out 0).trans rfl
                  have hcz10_1 : w7.cell? ⟨gb102, 1, none⟩ = some (.int .i64 0) := (blk_cell BK102.out 1).trans rfl
                  have hcz10_2 : w7.cell? ⟨gb102, 2, none⟩ = some (.int .i64 0) := (blk_cell BK102.out 2).trans rfl
                  have hfz10_0 := blk_frozen BK102.out 0
                  have hfz10_1 := blk_frozen BK102.out 1
                  have hfz10_2 := blk_frozen BK102.out 2
                  go_wp2
                  go_meet
                  case rel => exact ⟨_, (true), (by first | rfl | (simp; done) | (simp [*]; done)), H', ⟨by have := HK1.out; first | omega | exact Nat.le_refl _⟩, ⟨by (with_reducible repeat (first | refine blk_drewN ?_ _ | refine blk_drew ?_ | refine blk_alloc ?_ _)); refine blk_put (cs := #[.int .i64 ((rd_T72 l0 x13_1).f0), .int .i64 ((rd_T72 l0 x13_1).f1), .int .i64 0]) ?_ 2 _ rfl; (with_reducible repeat (first | refine blk_drewN ?_ _ | refine blk_drew ?_ | refine blk_alloc ?_ _)); refine blk_put (cs := #[.int .i64 ((rd_T72 l0 x13_1).f0), .int .i64 0, .int .i64 0]) ?_ 1 _ rfl; (with_reducible repeat (first | refine blk_drewN ?_ _ | refine blk_drew ?_ | refine blk_alloc ?_ _)); refine blk_put (cs := #[.int .i64 0, .int .i64 0, .int .i64 0]) ?_ 0 _ rfl; (with_reducible repeat (first | refine blk_drewN ?_ _ | refine blk_drew ?_ | refine blk_alloc ?_ _)); exact BK102.out⟩, ⟨by repeat (first | (with_reducible first | exact HB.out | apply below_alloc | apply pw_below_drewN | apply below_drew1 | refine below_set ?_ GE102.out) | exact HB.out)⟩⟩
                · rw [if_neg c9] at H
                  have c9b0 : decide (((rd_T72 l0 x13_1).f0) < 0) = false := decide_eq_false c9
                  clear c9
                  (first | rw [c9b0] | (simp only [i64_w, i32_w]; rw [c9b0]) | skip)
                  have H' := Aside0.mk H
                  clear H
                  have hcz11_0 : w7.cell? ⟨gb102, 0, none⟩ = some (.int .i64 0) := (blk_cell BK102.out 0).trans rfl
                  have hcz11_1 : w7.cell? ⟨gb102, 1, none⟩ = some (.int .i64 0) := (blk_cell BK102.out 1).trans rfl
                  have hcz11_2 : w7.cell? ⟨gb102, 2, none⟩ = some (.int .i64 0) := (blk_cell BK102.out 2).trans rfl
                  have hfz11_0 := blk_frozen BK102.out 0
                  have hfz11_1 := blk_frozen BK102.out 1
                  have hfz11_2 := blk_frozen BK102.out 2
                  go_wp2
                  go_meet
                  case rel => exact ⟨_, (decide (((rd_T72 l0 x13_1).f0) > 3)), (by first | rfl | (simp; done) | (simp [*]; done)), H', ⟨by have := HK1.out; first | omega | exact Nat.le_refl _⟩, ⟨by (with_reducible repeat (first | refine blk_drewN ?_ _ | refine blk_drew ?_ | refine blk_alloc ?_ _)); refine blk_put (cs := #[.int .i64 ((rd_T72 l0 x13_1).f0), .int .i64 ((rd_T72 l0 x13_1).f1), .int .i64 0]) ?_ 2 _ rfl; (with_reducible repeat (first | refine blk_drewN ?_ _ | refine blk_drew ?_ | refine blk_alloc ?_ _)); refine blk_put (cs := #[.int .i64 ((rd_T72 l0 x13_1).f0), .int .i64 0, .int .i64 0]) ?_ 1 _ rfl; (with_reducible repeat (first | refine blk_drewN ?_ _ | refine blk_drew ?_ | refine blk_alloc ?_ _)); refine blk_put (cs := #[.int .i64 0, .int .i64 0, .int .i64 0]) ?_ 0 _ rfl; (with_reducible repeat (first | refine blk_drewN ?_ _ | refine blk_drew ?_ | refine blk_alloc ?_ _)); exact BK102.out⟩, ⟨by repeat (first | (with_reducible first | exact HB.out | apply below_alloc | apply pw_below_drewN | apply below_drew1 | refine below_set ?_ GE102.out) | exact HB.out)⟩⟩
              case rest =>
                clear HC6
                try clear p1
                try clear q1
                try clear hx1
                try clear c2
                try clear c2b0
                try clear c2b1
                try clear p2
                try clear c3
                try clear c3b0
                try clear c4
                try clear c4b0
                try clear c5
                try clear c5b0
                try clear c9
                try clear c9b0
                try clear p10
                try clear q10
                try clear hx10
                try clear hcz10_0
                try clear hcz10_1
                try clear hcz10_2
                try clear hcz11_0
                try clear hcz11_1
                try clear hcz11_2
                try clear hcz8_0
                try clear hcz8_1
                try clear hcz8_2
                try clear hfz10_0
                try clear hfz10_1
                try clear hfz10_2
                try clear hfz11_0
                try clear hfz11_1
                try clear hfz11_2
                try clear hfz8_0
                try clear hfz8_1
                try clear hfz8_2
                try clear hx101_0
                try clear hx101_1
                try clear hx101_2
                try clear p101
                try clear p2
                try clear q101
                obtain ⟨kq, x24_5, rfl, HA, HJ5, BK102, HB⟩ := hcut
                cases kq with
                | zero => exact absurd HA.out (by simp [clock_Check.j1])
                | succ kj5 =>
                  have H := HA.out
                  clear HA
                  simp only [clock_Check.j1] at H
                  by_cases c12 : x24_5 = true
                  · subst c12
                    have H1 : (some 8) = some r := by rw [if_pos rfl] at H; exact H
                    clear H
                    have H := H1
                    clear H1
                    obtain rfl := Option.some.inj H
                    go_wp2
                    go_ret
                    exact ⟨by first | rfl | (simp [errW_none, errW_some] <;> rfl) | (simp [*, errW_none, errW_some] <;> rfl), by repeat (first | (with_reducible first | exact HB.out | apply below_alloc | apply pw_below_drewN | apply below_drew1 | refine below_set ?_ GE102.out) | exact HB.out)⟩
                  · replace c12 := Bool.eq_false_iff.mpr c12
                    subst c12
                    have H1 : (if ((rd_T72 l0 x13_1).f1) < 0 then (clock_Check.j2 kj5 x3_1 x4_1 x5_1 l0 (l0.length : Int) x13_1 true ((rd_T72 l0 x13_1).f0) ((rd_T72 l0 x13_1).f1) ((rd_T72 l0 x13_1).f2)) else (if ((rd_T72 l0 x13_1).f1) > 10000000 then (clock_Check.j2 kj5 x3_1 x4_1 x5_1 l0 (l0.length : Int) x13_1 true ((rd_T72 l0 x13_1).f0) ((rd_T72 l0 x13_1).f1) ((rd_T72 l0 x13_1).f2)) else (if ((rd_T72 l0 x13_1).f2) < 0 then (clock_Check.j2 kj5 x3_1 x4_1 x5_1 l0 (l0.length : Int) x13_1 true ((rd_T72 l0 x13_1).f0) ((rd_T72 l0 x13_1).f1) ((rd_T72 l0 x13_1).f2)) else (clock_Check.j2 kj5 x3_1 x4_1 x5_1 l0 (l0.length : Int) x13_1 (decide (((rd_T72 l0 x13_1).f2) > 1000)) ((rd_T72 l0 x13_1).f0) ((rd_T72 l0 x13_1).f1) ((rd_T72 l0 x13_1).f2))))) = some r := by rw [if_neg (show ¬ (false = true) by decide)] at H; exact H
                    clear H
                    have H := H1
                    clear H1
                    have HC13 := Aside0.mk H
                    clear H
                    go_upto_region 9 with (fail)
                    go_cut [42] (fun v42 wc => ∃ (kq : Nat) (x42_12 : Bool), v42 = .bool x42_12 ∧ Aside0 (clock_Check.j2 kq x3_1 x4_1 x5_1 l0 (l0.length : Int) x13_1 x42_12 ((rd_T72 l0 x13_1).f0) ((rd_T72 l0 x13_1).f1) ((rd_T72 l0 x13_1).f2) = some r) ∧ Aside0 (kq ≤ kj5) ∧ Aside0 (wc.heap[gb102]? = some (.cells #[.int .i64 ((rd_T72 l0 x13_1).f0), .int .i64 ((rd_T72 l0 x13_1).f1), .int .i64 ((rd_T72 l0 x13_1).f2)] 72 (0, 0))) ∧ Aside0 (Below w.heap.size w wc))
                    case first =>
                      have H := HC13.out
                      clear HC13
                      by_cases c14 : ((rd_T72 l0 x13_1).f1) < 0
                      · rw [if_pos c14] at H
                        have c14b0 : decide (((rd_T72 l0 x13_1).f1) < 0) = true := decide_eq_true c14
                        clear c14
                        (first | rw [c14b0] | (simp only [i64_w, i32_w]; rw [c14b0]) | skip)
                        have H' := Aside0.mk H
                        clear H
                        have hcz15_0 : wc.cell? ⟨gb102, 0, none⟩ = some (.int .i64 ((rd_T72 l0 x13_1).f0)) := (blk_cell BK102.out 0).trans rfl
                        have hcz15_1 : wc.cell? ⟨gb102, 1, none⟩ = some (.int .i64 ((rd_T72 l0 x13_1).f1)) := (blk_cell BK102.out 1).trans rfl
                        have hcz15_2 : wc.cell? ⟨gb102, 2, none⟩ = some (.int .i64 ((rd_T72 l0 x13_1).f2)) := (blk_cell BK102.out 2).trans rfl
                        have hfz15_0 := blk_frozen BK102.out 0
                        have hfz15_1 := blk_frozen BK102.out 1
                        have hfz15_2 := blk_frozen BK102.out 2
                        go_wp2
                        go_meet
                        case rel => exact ⟨_, (true), (by first | rfl | (simp; done) | (simp [*]; done)), H', ⟨by have := HK1.out; have := HJ5.out; first | omega | exact Nat.le_refl _⟩, ⟨by (with_reducible repeat (first | refine blk_drewN ?_ _ | refine blk_drew ?_ | refine blk_alloc ?_ _)); exact BK102.out⟩, ⟨by repeat (first | (with_reducible first | exact HB.out | apply below_alloc | apply pw_below_drewN | apply below_drew1 | refine below_set ?_ GE102.out) | exact HB.out)⟩⟩
                      · rw [if_neg c14] at H
                        have c14b0 : decide (((rd_T72 l0 x13_1).f1) < 0) = false := decide_eq_false c14
                        clear c14
                        (first | rw [c14b0] | (simp only [i64_w, i32_w]; rw [c14b0]) | skip)
                        by_cases c16 : ((rd_T72 l0 x13_1).f1) > 10000000
                        · rw [if_pos c16] at H
                          have c16b0 : decide (10000000 < ((rd_T72 l0 x13_1).f1)) = true := decide_eq_true c16
                          clear c16
                          have H' := Aside0.mk H
                          clear H
                          have hcz17_0 : wc.cell? ⟨gb102, 0, none⟩ = some (.int .i64 ((rd_T72 l0 x13_1).f0)) := (blk_cell BK102.out 0).trans rfl
                          have hcz17_1 : wc.cell? ⟨gb102, 1, none⟩ = some (.int .i64 ((rd_T72 l0 x13_1).f1)) := (blk_cell BK102.out 1).trans rfl
                          have hcz17_2 : wc.cell? ⟨gb102, 2, none⟩ = some (.int .i64 ((rd_T72 l0 x13_1).f2)) := (blk_cell BK102.out 2).trans rfl
                          have hfz17_0 := blk_frozen BK102.out 0
                          have hfz17_1 := blk_frozen BK102.out 1
                          have hfz17_2 := blk_frozen BK102.out 2
                          go_wp2
                          go_meet
                          case rel => exact ⟨_, (true), (by first | rfl | (simp; done) | (simp [*]; done)), H', ⟨by have := HK1.out; have := HJ5.out; first | omega | exact Nat.le_refl _⟩, ⟨by (with_reducible repeat (first | refine blk_drewN ?_ _ | refine blk_drew ?_ | refine blk_alloc ?_ _)); exact BK102.out⟩, ⟨by repeat (first | (with_reducible first | exact HB.out | apply below_alloc | apply pw_below_drewN | apply below_drew1 | refine below_set ?_ GE102.out) | exact HB.out)⟩⟩
                        · rw [if_neg c16] at H
                          have c16b0 : decide (10000000 < ((rd_T72 l0 x13_1).f1)) = false := decide_eq_false c16
                          clear c16
                          by_cases c18 : ((rd_T72 l0 x13_1).f2) < 0
                          · rw [if_pos c18] at H
                            have c18b0 : decide (((rd_T72 l0 x13_1).f2) < 0) = true := decide_eq_true c18
                            clear c18
                            have H' := Aside0.mk H
                            clear H
                            have hcz19_0 : wc.cell? ⟨gb102, 0, none⟩ = some (.int .i64 ((rd_T72 l0 x13_1).f0)) := (blk_cell BK102.out 0).trans rfl
                            have hcz19_1 : wc.cell? ⟨gb102, 1, none⟩ = some (.int .i64 ((rd_T72 l0 x13_1).f1)) := (blk_cell BK102.out 1).trans rfl
                            have hcz19_2 : wc.cell? ⟨gb102, 2, none⟩ = some (.int .i64 ((rd_T72 l0 x13_1).f2)) := (blk_cell BK102.out 2).trans rfl
                            have hfz19_0 := blk_frozen BK102.out 0
                            have hfz19_1 := blk_frozen BK102.out 1
                            have hfz19_2 := blk_frozen BK102.out 2
                            go_wp2
                            go_meet
                            case rel => exact ⟨_, (true), (by first | rfl | (simp; done) | (simp [*]; done)), H', ⟨by have := HK1.out; have := HJ5.out; first | omega | exact Nat.le_refl _⟩, ⟨by (with_reducible repeat (first | refine blk_drewN ?_ _ | refine blk_drew ?_ | refine blk_alloc ?_ _)); exact BK102.out⟩, ⟨by repeat (first | (with_reducible first | exact HB.out | apply below_alloc | apply pw_below_drewN | apply below_drew1 | refine below_set ?_ GE102.out) | exact HB.out)⟩⟩
                          · rw [if_neg c18] at H
                            have c18b0 : decide (((rd_T72 l0 x13_1).f2) < 0) = false := decide_eq_false c18
                            clear c18
                            have H' := Aside0.mk H
                            clear H
                            have hcz20_0 : wc.cell? ⟨gb102, 0, none⟩ = some (.int .i64 ((rd_T72 l0 x13_1).f0)) := (blk_cell BK102.out 0).trans rfl
                            have hcz20_1 : wc.cell? ⟨gb102, 1, none⟩ = some (.int .i64 ((rd_T72 l0 x13_1).f1)) := (blk_cell BK102.out 1).trans rfl
                            have hcz20_2 : wc.cell? ⟨gb102, 2, none⟩ = some (.int .i64 ((rd_T72 l0 x13_1).f2)) := (blk_cell BK102.out 2).trans rfl
                            have hfz20_0 := blk_frozen BK102.out 0
                            have hfz20_1 := blk_frozen BK102.out 1
                            have hfz20_2 := blk_frozen BK102.out 2
                            go_wp2
                            go_meet
                            case rel => exact ⟨_, (decide (((rd_T72 l0 x13_1).f2) > 1000)), (by first | rfl | (simp; done) | (simp [*]; done)), H', ⟨by have := HK1.out; have := HJ5.out; first | omega | exact Nat.le_refl _⟩, ⟨by (with_reducible repeat (first | refine blk_drewN ?_ _ | refine blk_drew ?_ | refine blk_alloc ?_ _)); exact BK102.out⟩, ⟨by repeat (first | (with_reducible first | exact HB.out | apply below_alloc | apply pw_below_drewN | apply below_drew1 | refine below_set ?_ GE102.out) | exact HB.out)⟩⟩
                    case rest =>
                      clear HC13
                      try clear c1
                      try clear p1
                      try clear q1
                      try clear hx1
                      try clear c2
                      try clear c2b0
                      try clear c2b1
                      try clear p2
                      try clear c3
                      try clear c3b0
                      try clear c4
                      try clear c4b0
                      try clear c5
                      try clear c5b0
                      try clear c9
                      try clear c9b0
                      try clear p10
                      try clear q10
                      try clear hx10
                      try clear c12
                      try clear c14
                      try clear c14b0
                      try clear c16
                      try clear c16b0
                      try clear c18
                      try clear c18b0
                      try clear hcz10_0
                      try clear hcz10_1
                      try clear hcz10_2
                      try clear hcz11_0
                      try clear hcz11_1
                      try clear hcz11_2
                      try clear hcz15_0
                      try clear hcz15_1
                      try clear hcz15_2
                      try clear hcz17_0
                      try clear hcz17_1
                      try clear hcz17_2
                      try clear hcz19_0
                      try clear hcz19_1
                      try clear hcz19_2
                      try clear hcz20_0
                      try clear hcz20_1
                      try clear hcz20_2
                      try clear hcz8_0
                      try clear hcz8_1
                      try clear hcz8_2
                      try clear hfz10_0
                      try clear hfz10_1
                      try clear hfz10_2
                      try clear hfz11_0
                      try clear hfz11_1
                      try clear hfz11_2
                      try clear hfz15_0
                      try clear hfz15_1
                      try clear hfz15_2
                      try clear hfz17_0
                      try clear hfz17_1
                      try clear hfz17_2
                      try clear hfz19_0
                      try clear hfz19_1
                      try clear hfz19_2
                      try clear hfz20_0
                      try clear hfz20_1
                      try clear hfz20_2
                      try clear hfz8_0
                      try clear hfz8_1
                      try clear hfz8_2
                      try clear hx101_0
                      try clear hx101_1
                      try clear hx101_2
                      try clear p1
                      try clear p10
                      try clear p101
                      try clear p2
                      try clear q1
                      try clear q10
                      try clear q101
                      obtain ⟨kq, x42_12, rfl, HA, HJ12, BK102, HB⟩ := hcut
                      cases kq with
                      | zero => exact absurd HA.out (by simp [clock_Check.j2])
                      | succ kj12 =>
                        have H := HA.out
                        clear HA
                        simp only [clock_Check.j2] at H
                        by_cases c21 : x42_12 = true
                        · subst c21
                          have H1 : (some 2) = some r := by rw [if_pos rfl] at H; exact H
                          clear H
                          have H := H1
                          clear H1
                          obtain rfl := Option.some.inj H
                          go_wp2
                          go_ret
                          exact ⟨by first | rfl | (simp [errW_none, errW_some] <;> rfl) | (simp [*, errW_none, errW_some] <;> rfl), by repeat (first | (with_reducible first | exact HB.out | apply below_alloc | apply pw_below_drewN | apply below_drew1 | refine below_set ?_ GE102.out) | exact HB.out)⟩
                        · replace c21 := Bool.eq_false_iff.mpr c21
                          subst c21
                          have H1 : (if ((((rd_T72 l0 x13_1).f0) == 2) != (decide (((rd_T72 l0 x13_1).f2) > 0))) = true then (some 4) else (if ((rd_T72 l0 x13_1).f1) < x4_1 then (some 5) else (if x5_1 = true then (clock_Check.j3 kj12 x3_1 x5_1 l0 (l0.length : Int) x13_1 true ((rd_T72 l0 x13_1).f0) ((rd_T72 l0 x13_1).f1) ((rd_T72 l0 x13_1).f2)) else (if ((rd_T72 l0 x13_1).f0) = 0 then (if x3_1 = true then (clock_Check.j3 kj12 x3_1 x5_1 l0 (l0.length : Int) x13_1 true ((rd_T72 l0 x13_1).f0) ((rd_T72 l0 x13_1).f1) ((rd_T72 l0 x13_1).f2)) else (if ((rd_T72 l0 x13_1).f0) = 1 then (clock_Check.j3 kj12 x3_1 x5_1 l0 (l0.length : Int) x13_1 (!x3_1) ((rd_T72 l0 x13_1).f0) ((rd_T72 l0 x13_1).f1) ((rd_T72 l0 x13_1).f2)) else (clock_Check.j3 kj12 x3_1 x5_1 l0 (l0.length : Int) x13_1 false ((rd_T72 l0 x13_1).f0) ((rd_T72 l0 x13_1).f1) ((rd_T72 l0 x13_1).f2)))) else (if ((rd_T72 l0 x13_1).f0) = 1 then (clock_Check.j3 kj12 x3_1 x5_1 l0 (l0.length : Int) x13_1 (!x3_1) ((rd_T72 l0 x13_1).f0) ((rd_T72 l0 x13_1).f1) ((rd_T72 l0 x13_1).f2)) else (clock_Check.j3 kj12 x3_1 x5_1 l0 (l0.length : Int) x13_1 false ((rd_T72 l0 x13_1).f0) ((rd_T72 l0 x13_1).f1) ((rd_T72 l0 x13_1).f2))))))) = some r := by rw [if_neg (show ¬ (false = true) by decide)] at H; exact H
                          clear H
                          have H := H1
                          clear H1
                          by_cases c22 : ((((rd_T72 l0 x13_1).f0) == 2) != (decide (((rd_T72 l0 x13_1).f2) > 0))) = true
                          · rw [if_pos c22] at H
                            have c22b0 : ((((rd_T72 l0 x13_1).f0) == 2) != (decide (((rd_T72 l0 x13_1).f2) > 0))) = true := c22
                            (try (have c22b1 : decide ((((rd_T72 l0 x13_1).f0) == 2) = (decide (((rd_T72 l0 x13_1).f2) > 0))) = false := by simpa using c22))
                            (try (have c22b2 : ((((rd_T72 l0 x13_1).f0) == 2) == (decide (((rd_T72 l0 x13_1).f2) > 0))) = false := by simpa using c22))
                            (try (have c22b3 : ¬ ((((rd_T72 l0 x13_1).f0) == 2) = (decide (((rd_T72 l0 x13_1).f2) > 0))) := by simpa using c22))
                            clear c22
                            obtain rfl := Option.some.inj H
                            have hcz23_0 : wc.cell? ⟨gb102, 0, none⟩ = some (.int .i64 ((rd_T72 l0 x13_1).f0)) := (blk_cell BK102.out 0).trans rfl
                            have hcz23_1 : wc.cell? ⟨gb102, 1, none⟩ = some (.int .i64 ((rd_T72 l0 x13_1).f1)) := (blk_cell BK102.out 1).trans rfl
                            have hcz23_2 : wc.cell? ⟨gb102, 2, none⟩ = some (.int .i64 ((rd_T72 l0 x13_1).f2)) := (blk_cell BK102.out 2).trans rfl
                            have hfz23_0 := blk_frozen BK102.out 0
                            have hfz23_1 := blk_frozen BK102.out 1
                            have hfz23_2 := blk_frozen BK102.out 2
                            go_wp2
                            go_ret
                            exact ⟨by first | rfl | (simp [errW_none, errW_some] <;> rfl) | (simp [*, errW_none, errW_some] <;> rfl), by repeat (first | (with_reducible first | exact HB.out | apply below_alloc | apply pw_below_drewN | apply below_drew1 | refine below_set ?_ GE102.out) | exact HB.out)⟩
                          · rw [if_neg c22] at H
                            have c22b0 : ((((rd_T72 l0 x13_1).f0) == 2) != (decide (((rd_T72 l0 x13_1).f2) > 0))) = false := by simpa using c22
                            (try (have c22b1 : decide ((((rd_T72 l0 x13_1).f0) == 2) = (decide (((rd_T72 l0 x13_1).f2) > 0))) = true := by simpa using c22))
                            (try (have c22b2 : ((((rd_T72 l0 x13_1).f0) == 2) == (decide (((rd_T72 l0 x13_1).f2) > 0))) = true := by simpa using c22))
                            clear c22
                            by_cases c24 : ((rd_T72 l0 x13_1).f1) < x4_1
                            · rw [if_pos c24] at H
                              have c24b0 : decide (((rd_T72 l0 x13_1).f1) < x4_1) = true := decide_eq_true c24
                              clear c24
                              obtain rfl := Option.some.inj H
                              have hcz25_0 : wc.cell? ⟨gb102, 0, none⟩ = some (.int .i64 ((rd_T72 l0 x13_1).f0)) := (blk_cell BK102.out 0).trans rfl
                              have hcz25_1 : wc.cell? ⟨gb102, 1, none⟩ = some (.int .i64 ((rd_T72 l0 x13_1).f1)) := (blk_cell BK102.out 1).trans rfl
                              have hcz25_2 : wc.cell? ⟨gb102, 2, none⟩ = some (.int .i64 ((rd_T72 l0 x13_1).f2)) := (blk_cell BK102.out 2).trans rfl
                              have hfz25_0 := blk_frozen BK102.out 0
                              have hfz25_1 := blk_frozen BK102.out 1
                              have hfz25_2 := blk_frozen BK102.out 2
                              go_wp2
                              go_ret
                              exact ⟨by first | rfl | (simp [errW_none, errW_some] <;> rfl) | (simp [*, errW_none, errW_some] <;> rfl), by repeat (first | (with_reducible first | exact HB.out | apply below_alloc | apply pw_below_drewN | apply below_drew1 | refine below_set ?_ GE102.out) | exact HB.out)⟩
                            · rw [if_neg c24] at H
                              have c24b0 : decide (((rd_T72 l0 x13_1).f1) < x4_1) = false := decide_eq_false c24
                              clear c24
                              have HC26 := Aside0.mk H
                              clear H
                              have hcz27_0 : wc.cell? ⟨gb102, 0, none⟩ = some (.int .i64 ((rd_T72 l0 x13_1).f0)) := (blk_cell BK102.out 0).trans rfl
                              have hcz27_1 : wc.cell? ⟨gb102, 1, none⟩ = some (.int .i64 ((rd_T72 l0 x13_1).f1)) := (blk_cell BK102.out 1).trans rfl
                              have hcz27_2 : wc.cell? ⟨gb102, 2, none⟩ = some (.int .i64 ((rd_T72 l0 x13_1).f2)) := (blk_cell BK102.out 2).trans rfl
                              have hfz27_0 := blk_frozen BK102.out 0
                              have hfz27_1 := blk_frozen BK102.out 1
                              have hfz27_2 := blk_frozen BK102.out 2
                              go_upto_region 15 with (fail)
                              go_cut [71] (fun v71 wc => ∃ (kq : Nat) (x71_25 : Bool), v71 = .bool x71_25 ∧ Aside0 (clock_Check.j3 kq x3_1 x5_1 l0 (l0.length : Int) x13_1 x71_25 ((rd_T72 l0 x13_1).f0) ((rd_T72 l0 x13_1).f1) ((rd_T72 l0 x13_1).f2) = some r) ∧ Aside0 (kq ≤ kj12) ∧ Aside0 (wc.heap[gb102]? = some (.cells #[.int .i64 ((rd_T72 l0 x13_1).f0), .int .i64 ((rd_T72 l0 x13_1).f1), .int .i64 ((rd_T72 l0 x13_1).f2)] 72 (0, 0))) ∧ Aside0 (Below w.heap.size w wc))
                              case first =>
                                have H := HC26.out
                                clear HC26
                                by_cases c28 : x5_1 = true
                                · subst c28
                                  have H1 : (clock_Check.j3 kj12 x3_1 true l0 (l0.length : Int) x13_1 true ((rd_T72 l0 x13_1).f0) ((rd_T72 l0 x13_1).f1) ((rd_T72 l0 x13_1).f2)) = some r := by rw [if_pos rfl] at H; exact H
                                  clear H
                                  have H := H1
                                  clear H1
                                  have H' := Aside0.mk H
                                  clear H
                                  go_wp2
                                  go_meet
                                  case rel => exact ⟨_, (true), (by first | rfl | (simp; done) | (simp [*]; done)), H', ⟨by have := HK1.out; have := HJ5.out; have := HJ12.out; first | omega | exact Nat.le_refl _⟩, ⟨by (with_reducible repeat (first | refine blk_drewN ?_ _ | refine blk_drew ?_ | refine blk_alloc ?_ _)); exact BK102.out⟩, ⟨by repeat (first | (with_reducible first | exact HB.out | apply below_alloc | apply pw_below_drewN | apply below_drew1 | refine below_set ?_ GE102.out) | exact HB.out)⟩⟩
                                · replace c28 := Bool.eq_false_iff.mpr c28
                                  subst c28
                                  have H1 : (if ((rd_T72 l0 x13_1).f0) = 0 then (if x3_1 = true then (clock_Check.j3 kj12 x3_1 false l0 (l0.length : Int) x13_1 true ((rd_T72 l0 x13_1).f0) ((rd_T72 l0 x13_1).f1) ((rd_T72 l0 x13_1).f2)) else (if ((rd_T72 l0 x13_1).f0) = 1 then (clock_Check.j3 kj12 x3_1 false l0 (l0.length : Int) x13_1 (!x3_1) ((rd_T72 l0 x13_1).f0) ((rd_T72 l0 x13_1).f1) ((rd_T72 l0 x13_1).f2)) else (clock_Check.j3 kj12 x3_1 false l0 (l0.length : Int) x13_1 false ((rd_T72 l0 x13_1).f0) ((rd_T72 l0 x13_1).f1) ((rd_T72 l0 x13_1).f2)))) else (if ((rd_T72 l0 x13_1).f0) = 1 then (clock_Check.j3 kj12 x3_1 false l0 (l0.length : Int) x13_1 (!x3_1) ((rd_T72 l0 x13_1).f0) ((rd_T72 l0 x13_1).f1) ((rd_T72 l0 x13_1).f2)) else (clock_Check.j3 kj12 x3_1 false l0 (l0.length : Int) x13_1 false ((rd_T72 l0 x13_1).f0) ((rd_T72 l0 x13_1).f1) ((rd_T72 l0 x13_1).f2)))) = some r := by rw [if_neg (show ¬ (false = true) by decide)] at H; exact H
                                  clear H
                                  have H := H1
                                  clear H1
                                  by_cases c29 : ((rd_T72 l0 x13_1).f0) = 0
                                  · rw [if_pos c29] at H
                                    have c29b0 : (((rd_T72 l0 x13_1).f0) == 0) = true := beq_iff_eq.mpr c29
                                    have c29b1 : (((rd_T72 l0 x13_1).f0) != 0) = false := bne_eq_false_iff_eq.mpr c29
                                    clear c29
                                    (first | rw [c29b0] | (simp only [i64_w, i32_w]; rw [c29b0]) | skip)
                                    by_cases c30 : x3_1 = true
                                    · subst c30
                                      have H1 : (clock_Check.j3 kj12 true false l0 (l0.length : Int) x13_1 true ((rd_T72 l0 x13_1).f0) ((rd_T72 l0 x13_1).f1) ((rd_T72 l0 x13_1).f2)) = some r := by rw [if_pos rfl] at H; exact H
                                      clear H
                                      have H := H1
                                      clear H1
                                      have H' := Aside0.mk H
                                      clear H
                                      have hcz31_0 : wc.cell? ⟨gb102, 0, none⟩ = some (.int .i64 ((rd_T72 l0 x13_1).f0)) := (blk_cell BK102.out 0).trans rfl
                                      have hcz31_1 : wc.cell? ⟨gb102, 1, none⟩ = some (.int .i64 ((rd_T72 l0 x13_1).f1)) := (blk_cell BK102.out 1).trans rfl
                                      have hcz31_2 : wc.cell? ⟨gb102, 2, none⟩ = some (.int .i64 ((rd_T72 l0 x13_1).f2)) := (blk_cell BK102.out 2).trans rfl
                                      have hfz31_0 := blk_frozen BK102.out 0
                                      have hfz31_1 := blk_frozen BK102.out 1
                                      have hfz31_2 := blk_frozen BK102.out 2
                                      go_wp2
                                      go_meet
                                      case rel => exact ⟨_, (true), (by first | rfl | (simp; done) | (simp [*]; done)), H', ⟨by have := HK1.out; have := HJ5.out; have := HJ12.out; first | omega | exact Nat.le_refl _⟩, ⟨by (with_reducible repeat (first | refine blk_drewN ?_ _ | refine blk_drew ?_ | refine blk_alloc ?_ _)); exact BK102.out⟩, ⟨by repeat (first | (with_reducible first | exact HB.out | apply below_alloc | apply pw_below_drewN | apply below_drew1 | refine below_set ?_ GE102.out) | exact HB.out)⟩⟩
                                    · replace c30 := Bool.eq_false_iff.mpr c30
                                      subst c30
                                      have H1 : (if ((rd_T72 l0 x13_1).f0) = 1 then (clock_Check.j3 kj12 false false l0 (l0.length : Int) x13_1 (!false) ((rd_T72 l0 x13_1).f0) ((rd_T72 l0 x13_1).f1) ((rd_T72 l0 x13_1).f2)) else (clock_Check.j3 kj12 false false l0 (l0.length : Int) x13_1 false ((rd_T72 l0 x13_1).f0) ((rd_T72 l0 x13_1).f1) ((rd_T72 l0 x13_1).f2))) = some r := by rw [if_neg (show ¬ (false = true) by decide)] at H; exact H
                                      clear H
                                      have H := H1
                                      clear H1
                                      by_cases c32 : ((rd_T72 l0 x13_1).f0) = 1
                                      · rw [if_pos c32] at H
                                        have c32b0 : (((rd_T72 l0 x13_1).f0) == 1) = true := beq_iff_eq.mpr c32
                                        have c32b1 : (((rd_T72 l0 x13_1).f0) != 1) = false := bne_eq_false_iff_eq.mpr c32
                                        clear c32
                                        have H' := Aside0.mk H
                                        clear H
                                        have hcz33_0 : wc.cell? ⟨gb102, 0, none⟩ = some (.int .i64 ((rd_T72 l0 x13_1).f0)) := (blk_cell BK102.out 0).trans rfl
                                        have hcz33_1 : wc.cell? ⟨gb102, 1, none⟩ = some (.int .i64 ((rd_T72 l0 x13_1).f1)) := (blk_cell BK102.out 1).trans rfl
                                        have hcz33_2 : wc.cell? ⟨gb102, 2, none⟩ = some (.int .i64 ((rd_T72 l0 x13_1).f2)) := (blk_cell BK102.out 2).trans rfl
                                        have hfz33_0 := blk_frozen BK102.out 0
                                        have hfz33_1 := blk_frozen BK102.out 1
                                        have hfz33_2 := blk_frozen BK102.out 2
                                        go_wp2
                                        go_meet
                                        case rel => exact ⟨_, (!false), (by first | rfl | (simp; done) | (simp [*]; done)), H', ⟨by have := HK1.out; have := HJ5.out; have := HJ12.out; first | omega | exact Nat.le_refl _⟩, ⟨by (with_reducible repeat (first | refine blk_drewN ?_ _ | refine blk_drew ?_ | refine blk_alloc ?_ _)); exact BK102.out⟩, ⟨by repeat (first | (with_reducible first | exact HB.out | apply below_alloc | apply pw_below_drewN | apply below_drew1 | refine below_set ?_ GE102.out) | exact HB.out)⟩⟩
                                      · rw [if_neg c32] at H
                                        have c32b0 : (((rd_T72 l0 x13_1).f0) == 1) = false := beq_eq_false_iff_ne.mpr c32
                                        have c32b1 : (((rd_T72 l0 x13_1).f0) != 1) = true := bne_iff_ne.mpr c32
                                        have H' := Aside0.mk H
                                        clear H
                                        have hcz34_0 : wc.cell? ⟨gb102, 0, none⟩ = some (.int .i64 ((rd_T72 l0 x13_1).f0)) := (blk_cell BK102.out 0).trans rfl
                                        have hcz34_1 : wc.cell? ⟨gb102, 1, none⟩ = some (.int .i64 ((rd_T72 l0 x13_1).f1)) := (blk_cell BK102.out 1).trans rfl
                                        have hcz34_2 : wc.cell? ⟨gb102, 2, none⟩ = some (.int .i64 ((rd_T72 l0 x13_1).f2)) := (blk_cell BK102.out 2).trans rfl
                                        have hfz34_0 := blk_frozen BK102.out 0
                                        have hfz34_1 := blk_frozen BK102.out 1
                                        have hfz34_2 := blk_frozen BK102.out 2
                                        go_wp2
                                        go_meet
                                        case rel => exact ⟨_, (false), (by first | rfl | (simp; done) | (simp [*]; done)), H', ⟨by have := HK1.out; have := HJ5.out; have := HJ12.out; first | omega | exact Nat.le_refl _⟩, ⟨by (with_reducible repeat (first | refine blk_drewN ?_ _ | refine blk_drew ?_ | refine blk_alloc ?_ _)); exact BK102.out⟩, ⟨by repeat (first | (with_reducible first | exact HB.out | apply below_alloc | apply pw_below_drewN | apply below_drew1 | refine below_set ?_ GE102.out) | exact HB.out)⟩⟩
                                  · rw [if_neg c29] at H
                                    have c29b0 : (((rd_T72 l0 x13_1).f0) == 0) = false := beq_eq_false_iff_ne.mpr c29
                                    have c29b1 : (((rd_T72 l0 x13_1).f0) != 0) = true := bne_iff_ne.mpr c29
                                    (first | rw [c29b0] | (simp only [i64_w, i32_w]; rw [c29b0]) | skip)
                                    by_cases c35 : ((rd_T72 l0 x13_1).f0) = 1
                                    · rw [if_pos c35] at H
                                      have c35b0 : (((rd_T72 l0 x13_1).f0) == 1) = true := beq_iff_eq.mpr c35
                                      have c35b1 : (((rd_T72 l0 x13_1).f0) != 1) = false := bne_eq_false_iff_eq.mpr c35
                                      clear c35
                                      have H' := Aside0.mk H
                                      clear H
                                      have hcz36_0 : wc.cell? ⟨gb102, 0, none⟩ = some (.int .i64 ((rd_T72 l0 x13_1).f0)) := (blk_cell BK102.out 0).trans rfl
                                      have hcz36_1 : wc.cell? ⟨gb102, 1, none⟩ = some (.int .i64 ((rd_T72 l0 x13_1).f1)) := (blk_cell BK102.out 1).trans rfl
                                      have hcz36_2 : wc.cell? ⟨gb102, 2, none⟩ = some (.int .i64 ((rd_T72 l0 x13_1).f2)) := (blk_cell BK102.out 2).trans rfl
                                      have hfz36_0 := blk_frozen BK102.out 0
                                      have hfz36_1 := blk_frozen BK102.out 1
                                      have hfz36_2 := blk_frozen BK102.out 2
                                      go_wp2
                                      go_meet
                                      case rel => exact ⟨_, (!x3_1), (by first | rfl | (simp; done) | (simp [*]; done)), H', ⟨by have := HK1.out; have := HJ5.out; have := HJ12.out; first | omega | exact Nat.le_refl _⟩, ⟨by (with_reducible repeat (first | refine blk_drewN ?_ _ | refine blk_drew ?_ | refine blk_alloc ?_ _)); exact BK102.out⟩, ⟨by repeat (first | (with_reducible first | exact HB.out | apply below_alloc | apply pw_below_drewN | apply below_drew1 | refine below_set ?_ GE102.out) | exact HB.out)⟩⟩
                                    · rw [if_neg c35] at H
                                      have c35b0 : (((rd_T72 l0 x13_1).f0) == 1) = false := beq_eq_false_iff_ne.mpr c35
                                      have c35b1 : (((rd_T72 l0 x13_1).f0) != 1) = true := bne_iff_ne.mpr c35
                                      have H' := Aside0.mk H
                                      clear H
                                      have hcz37_0 : wc.cell? ⟨gb102, 0, none⟩ = some (.int .i64 ((rd_T72 l0 x13_1).f0)) := (blk_cell BK102.out 0).trans rfl
                                      have hcz37_1 : wc.cell? ⟨gb102, 1, none⟩ = some (.int .i64 ((rd_T72 l0 x13_1).f1)) := (blk_cell BK102.out 1).trans rfl
                                      have hcz37_2 : wc.cell? ⟨gb102, 2, none⟩ = some (.int .i64 ((rd_T72 l0 x13_1).f2)) := (blk_cell BK102.out 2).trans rfl
                                      have hfz37_0 := blk_frozen BK102.out 0
                                      have hfz37_1 := blk_frozen BK102.out 1
                                      have hfz37_2 := blk_frozen BK102.out 2
                                      go_wp2
                                      go_meet
                                      case rel => exact ⟨_, (false), (by first | rfl | (simp; done) | (simp [*]; done)), H', ⟨by have := HK1.out; have := HJ5.out; have := HJ12.out; first | omega | exact Nat.le_refl _⟩, ⟨by (with_reducible repeat (first | refine blk_drewN ?_ _ | refine blk_drew ?_ | refine blk_alloc ?_ _)); exact BK102.out⟩, ⟨by repeat (first | (with_reducible first | exact HB.out | apply below_alloc | apply pw_below_drewN | apply below_drew1 | refine below_set ?_ GE102.out) | exact HB.out)⟩⟩
                              case rest =>
                                clear HC26
                                try clear c1
                                try clear p1
                                try clear q1
                                try clear hx1
                                try clear c2
                                try clear c2b0
                                try clear c2b1
                                try clear p2
                                try clear c3
                                try clear c3b0
                                try clear c4
                                try clear c4b0
                                try clear c5
                                try clear c5b0
                                try clear c9
                                try clear c9b0
                                try clear p10
                                try clear q10
                                try clear hx10
                                try clear c12
                                try clear c14
                                try clear c14b0
                                try clear c16
                                try clear c16b0
                                try clear c18
                                try clear c18b0
                                try clear c21
                                try clear c22
                                try clear c22b0
                                try clear c22b1
                                try clear c22b2
                                try clear c24
                                try clear c24b0
                                try clear c28
                                try clear c29
                                try clear c29b0
                                try clear c29b1
                                try clear c30
                                try clear c32
                                try clear c32b0
                                try clear c32b1
                                try clear c35
                                try clear c35b0
                                try clear c35b1
                                try clear c36
                                try clear hcz10_0
                                try clear hcz10_1
                                try clear hcz10_2
                                try clear hcz11_0
                                try clear hcz11_1
                                try clear hcz11_2
                                try clear hcz15_0
                                try clear hcz15_1
                                try clear hcz15_2
                                try clear hcz17_0
                                try clear hcz17_1
                                try clear hcz17_2
                                try clear hcz19_0
                                try clear hcz19_1
                                try clear hcz19_2
                                try clear hcz20_0
                                try clear hcz20_1
                                try clear hcz20_2
                                try clear hcz23_0
                                try clear hcz23_1
                                try clear hcz23_2
                                try clear hcz25_0
                                try clear hcz25_1
                                try clear hcz25_2
                                try clear hcz27_0
                                try clear hcz27_1
                                try clear hcz27_2
                                try clear hcz31_0
                                try clear hcz31_1
                                try clear hcz31_2
                                try clear hcz33_0
                                try clear hcz33_1
                                try clear hcz33_2
                                try clear hcz34_0
                                try clear hcz34_1
                                try clear hcz34_2
                                try clear hcz36_0
                                try clear hcz36_1
                                try clear hcz36_2
                                try clear hcz37_0
                                try clear hcz37_1
                                try clear hcz37_2
                                try clear hcz8_0
                                try clear hcz8_1
                                try clear hcz8_2
                                try clear hfz10_0
                                try clear hfz10_1
                                try clear hfz10_2
                                try clear hfz11_0
                                try clear hfz11_1
                                try clear hfz11_2
                                try clear hfz15_0
                                try clear hfz15_1
                                try clear hfz15_2
                                try clear hfz17_0
                                try clear hfz17_1
                                try clear hfz17_2
                                try clear hfz19_0
                                try clear hfz19_1
                                try clear hfz19_2
                                try clear hfz20_0
                                try clear hfz20_1
                                try clear hfz20_2
                                try clear hfz23_0
                                try clear hfz23_1
                                try clear hfz23_2
                                try clear hfz25_0
                                try clear hfz25_1
                                try clear hfz25_2
                                try clear hfz27_0
                                try clear hfz27_1
                                try clear hfz27_2
                                try clear hfz31_0
                                try clear hfz31_1
                                try clear hfz31_2
                                try clear hfz33_0
                                try clear hfz33_1
                                try clear hfz33_2
                                try clear hfz34_0
                                try clear hfz34_1
                                try clear hfz34_2
                                try clear hfz36_0
                                try clear hfz36_1
                                try clear hfz36_2
                                try clear hfz37_0
                                try clear hfz37_1
                                try clear hfz37_2
                                try clear hfz8_0
                                try clear hfz8_1
                                try clear hfz8_2
                                try clear hx101_0
                                try clear hx101_1
                                try clear hx101_2
                                try clear p1
                                try clear p10
                                try clear p101
                                try clear p2
                                try clear q1
                                try clear q10
                                try clear q101
                                obtain ⟨kq, x71_25, rfl, HA, HJ25, BK102, HB⟩ := hcut
                                cases kq with
                                | zero => exact absurd HA.out (by simp [clock_Check.j3])
                                | succ kj25 =>
                                  have H := HA.out
                                  clear HA
                                  simp only [clock_Check.j3] at H
                                  by_cases c38 : x71_25 = true
                                  · subst c38
                                    have H1 : (some 13) = some r := by rw [if_pos rfl] at H; exact H
                                    clear H
                                    have H := H1
                                    clear H1
                                    obtain rfl := Option.some.inj H
                                    go_wp2
                                    go_ret
                                    exact ⟨by first | rfl | (simp [errW_none, errW_some] <;> rfl) | (simp [*, errW_none, errW_some] <;> rfl), by repeat (first | (with_reducible first | exact HB.out | apply below_alloc | apply pw_below_drewN | apply below_drew1 | refine below_set ?_ GE102.out) | exact HB.out)⟩
                                  · replace c38 := Bool.eq_false_iff.mpr c38
                                    subst c38
                                    have H1 : (if ((rd_T72 l0 x13_1).f0) = 0 then (clock_Check.l0 kj25 true ((rd_T72 l0 x13_1).f1) x5_1 l0 (l0.length : Int) (wrap64 (x13_1 + 1))) else (if ((rd_T72 l0 x13_1).f0) = 1 then (clock_Check.l0 kj25 false ((rd_T72 l0 x13_1).f1) x5_1 l0 (l0.length : Int) (wrap64 (x13_1 + 1))) else (if ((rd_T72 l0 x13_1).f0) = 3 then (clock_Check.l0 kj25 false ((rd_T72 l0 x13_1).f1) true l0 (l0.length : Int) (wrap64 (x13_1 + 1))) else (clock_Check.l0 kj25 x3_1 ((rd_T72 l0 x13_1).f1) x5_1 l0 (l0.length : Int) (wrap64 (x13_1 + 1)))))) = some r := by rw [if_neg (show ¬ (false = true) by decide)] at H; exact H
                                    clear H
                                    have H := H1
                                    clear H1
                                    by_cases c39 : ((rd_T72 l0 x13_1).f0) = 0
                                    · rw [if_pos c39] at H
                                      have c39b0 : (((rd_T72 l0 x13_1).f0) == 0) = true := beq_iff_eq.mpr c39
                                      have c39b1 : (((rd_T72 l0 x13_1).f0) != 0) = false := bne_eq_false_iff_eq.mpr c39
                                      clear c39
                                      have H' := Aside0.mk H
                                      clear H
                                      have hcz40_0 : wc.cell? ⟨gb102, 0, none⟩ = some (.int .i64 ((rd_T72 l0 x13_1).f0)) := (blk_cell BK102.out 0).trans rfl
                                      have hcz40_1 : wc.cell? ⟨gb102, 1, none⟩ = some (.int .i64 ((rd_T72 l0 x13_1).f1)) := (blk_cell BK102.out 1).trans rfl
                                      have hcz40_2 : wc.cell? ⟨gb102, 2, none⟩ = some (.int .i64 ((rd_T72 l0 x13_1).f2)) := (blk_cell BK102.out 2).trans rfl
                                      have hfz40_0 := blk_frozen BK102.out 0
                                      have hfz40_1 := blk_frozen BK102.out 1
                                      have hfz40_2 := blk_frozen BK102.out 2
                                      go_wp2
                                      go_roundg kj25
                                      case measure => have := HK1.out; have := HJ5.out; have := HJ12.out; have := HJ25.out; omega
                                      case rel => exact ⟨(true), (((rd_T72 l0 x13_1).f1)), (x5_1), (wrap64 (x13_1 + 1)), (by first | rfl | (simp; done) | (simp [*]; done)), (by first | rfl | (simp; done) | (simp [*]; done)), (by first | rfl | (simp; done) | (simp [*]; done)), (by first | rfl | (simp; done) | (simp [*]; done)), H', ⟨by have := HK1.out; have := HJ5.out; have := HJ12.out; have := HJ25.out; omega⟩, ⟨by repeat (first | (with_reducible first | exact HB.out | apply below_alloc | apply pw_below_drewN | apply below_drew1 | refine below_set ?_ GE102.out) | exact HB.out)⟩⟩
                                    · rw [if_neg c39] at H
                                      have c39b0 : (((rd_T72 l0 x13_1).f0) == 0) = false := beq_eq_false_iff_ne.mpr c39
                                      have c39b1 : (((rd_T72 l0 x13_1).f0) != 0) = true := bne_iff_ne.mpr c39
                                      by_cases c41 : ((rd_T72 l0 x13_1).f0) = 1
                                      · rw [if_pos c41] at H
                                        have c41b0 : (((rd_T72 l0 x13_1).f0) == 1) = true := beq_iff_eq.mpr c41
                                        have c41b1 : (((rd_T72 l0 x13_1).f0) != 1) = false := bne_eq_false_iff_eq.mpr c41
                                        clear c41
                                        have H' := Aside0.mk H
                                        clear H
                                        have hcz42_0 : wc.cell? ⟨gb102, 0, none⟩ = some (.int .i64 ((rd_T72 l0 x13_1).f0)) := (blk_cell BK102.out 0).trans rfl
                                        have hcz42_1 : wc.cell? ⟨gb102, 1, none⟩ = some (.int .i64 ((rd_T72 l0 x13_1).f1)) := (blk_cell BK102.out 1).trans rfl
                                        have hcz42_2 : wc.cell? ⟨gb102, 2, none⟩ = some (.int .i64 ((rd_T72 l0 x13_1).f2)) := (blk_cell BK102.out 2).trans rfl
                                        have hfz42_0 := blk_frozen BK102.out 0
                                        have hfz42_1 := blk_frozen BK102.out 1
                                        have hfz42_2 := blk_frozen BK102.out 2
                                        go_wp2
                                        go_roundg kj25
                                        case measure => have := HK1.out; have := HJ5.out; have := HJ12.out; have := HJ25.out; omega
                                        case rel => exact ⟨(false), (((rd_T72 l0 x13_1).f1)), (x5_1), (wrap64 (x13_1 + 1)), (by first | rfl | (simp; done) | (simp [*]; done)), (by first | rfl | (simp; done) | (simp [*]; done)), (by first | rfl | (simp; done) | (simp [*]; done)), (by first | rfl | (simp; done) | (simp [*]; done)), H', ⟨by have := HK1.out; have := HJ5.out; have := HJ12.out; have := HJ25.out; omega⟩, ⟨by repeat (first | (with_reducible first | exact HB.out | apply below_alloc | apply pw_below_drewN | apply below_drew1 | refine below_set ?_ GE102.out) | exact HB.out)⟩⟩
                                      · rw [if_neg c41] at H
                                        have c41b0 : (((rd_T72 l0 x13_1).f0) == 1) = false := beq_eq_false_iff_ne.mpr c41
                                        have c41b1 : (((rd_T72 l0 x13_1).f0) != 1) = true := bne_iff_ne.mpr c41
                                        by_cases c43 : ((rd_T72 l0 x13_1).f0) = 3
                                        · rw [if_pos c43] at H
                                          have c43b0 : (((rd_T72 l0 x13_1).f0) == 3) = true := beq_iff_eq.mpr c43
                                          have c43b1 : (((rd_T72 l0 x13_1).f0) != 3) = false := bne_eq_false_iff_eq.mpr c43
                                          clear c43
                                          have H' := Aside0.mk H
                                          clear H
                                          have hcz44_0 : wc.cell? ⟨gb102, 0, none⟩ = some (.int .i64 ((rd_T72 l0 x13_1).f0)) := (blk_cell BK102.out 0).trans rfl
                                          have hcz44_1 : wc.cell? ⟨gb102, 1, none⟩ = some (.int .i64 ((rd_T72 l0 x13_1).f1)) := (blk_cell BK102.out 1).trans rfl
                                          have hcz44_2 : wc.cell? ⟨gb102, 2, none⟩ = some (.int .i64 ((rd_T72 l0 x13_1).f2)) := (blk_cell BK102.out 2).trans rfl
                                          have hfz44_0 := blk_frozen BK102.out 0
                                          have hfz44_1 := blk_frozen BK102.out 1
                                          have hfz44_2 := blk_frozen BK102.out 2
                                          go_wp2
                                          go_roundg kj25
                                          case measure => have := HK1.out; have := HJ5.out; have := HJ12.out; have := HJ25.out; omega
                                          case rel => exact ⟨(false), (((rd_T72 l0 x13_1).f1)), (true), (wrap64 (x13_1 + 1)), (by first | rfl | (simp; done) | (simp [*]; done)), (by first | rfl | (simp; done) | (simp [*]; done)), (by first | rfl | (simp; done) | (simp [*]; done)), (by first | rfl | (simp; done) | (simp [*]; done)), H', ⟨by have := HK1.out; have := HJ5.out; have := HJ12.out; have := HJ25.out; omega⟩, ⟨by repeat (first | (with_reducible first | exact HB.out | apply below_alloc | apply pw_below_drewN | apply below_drew1 | refine below_set ?_ GE102.out) | exact HB.out)⟩⟩
                                        · rw [if_neg c43] at H
                                          have c43b0 : (((rd_T72 l0 x13_1).f0) == 3) = false := beq_eq_false_iff_ne.mpr c43
                                          have c43b1 : (((rd_T72 l0 x13_1).f0) != 3) = true := bne_iff_ne.mpr c43
                                          have H' := Aside0.mk H
                                          clear H
                                          have hcz45_0 : wc.cell? ⟨gb102, 0, none⟩ = some (.int .i64 ((rd_T72 l0 x13_1).f0)) := (blk_cell BK102.out 0).trans rfl
                                          have hcz45_1 : wc.cell? ⟨gb102, 1, none⟩ = some (.int .i64 ((rd_T72 l0 x13_1).f1)) := (blk_cell BK102.out 1).trans rfl
                                          have hcz45_2 : wc.cell? ⟨gb102, 2, none⟩ = some (.int .i64 ((rd_T72 l0 x13_1).f2)) := (blk_cell BK102.out 2).trans rfl
                                          have hfz45_0 := blk_frozen BK102.out 0
                                          have hfz45_1 := blk_frozen BK102.out 1
                                          have hfz45_2 := blk_frozen BK102.out 2
                                          go_wp2
                                          go_roundg kj25
                                          case measure => have := HK1.out; have := HJ5.out; have := HJ12.out; have := HJ25.out; omega
                                          case rel => exact ⟨(x3_1), (((rd_T72 l0 x13_1).f1)), (x5_1), (wrap64 (x13_1 + 1)), (by first | rfl | (simp; done) | (simp [*]; done)), (by first | rfl | (simp; done) | (simp [*]; done)), (by first | rfl | (simp; done) | (simp [*]; done)), (by first | rfl | (simp; done) | (simp [*]; done)), H', ⟨by have := HK1.out; have := HJ5.out; have := HJ12.out; have := HJ25.out; omega⟩, ⟨by repeat (first | (with_reducible first | exact HB.out | apply below_alloc | apply pw_below_drewN | apply below_drew1 | refine below_set ?_ GE102.out) | exact HB.out)⟩⟩
            · rw [if_neg c5] at H
              exact absurd H (by simp)
          · rw [if_neg c4] at H
            exact absurd H (by simp)
        · rw [if_neg c3] at H
          have c3b0 : decide (x13_1 < (l0.length : Int)) = false := decide_eq_false c3
          clear c3
          obtain rfl := Option.some.inj H
          go_wp2
          go_ret
          exact ⟨by first | rfl | (simp [errW_none, errW_some] <;> rfl) | (simp [*, errW_none, errW_some] <;> rfl), by repeat (first | (with_reducible first | exact HB.out | apply below_alloc | apply pw_below_drewN | apply below_drew1) | exact HB.out)⟩

-- NOT PRINTED: function 48 (api_ClockEvent)

-- NOT PRINTED: function 49 (clock_pass)

-- NOT PRINTED: function 50 (clock_show)

-- NOT PRINTED: function 34 (clock_Report)

-- NOT PRINTED: function 33 (chancerylaw3_clocked)

-- NOT PRINTED: function 44 (clock_Left)

-- NOT PRINTED: function 12 (chancerylaw3_ClockLeft)

end Go.Proofs.Ytihmbddneapooaa.PClockLeft
