-- WRITTEN BY wip/print2.py, a program of this session, over contracts of this session's own; no print of print.sh
import Derived.Test.YtihmbddneapooaaQPPx0
import Derived.Test.YtihmbddneapooaaQPPx1
import Derived.Test.YtihmbddneapooaaQPPx2
namespace Go.Proofs.Ytihmbddneapooaa.QPP
open Go.RowKit Go.Proofs.Ytihmbddneapooaa.HandPP Go.Proofs.YtihmbddneapooaaW.PrintWords Go.Proofs.YtihmbddneapooaaW.PrintLast Go.Proofs.YtihmbddneapooaaW.PrintMore
attribute [local go_sem] max2_int min2_int max_two min_two max_three min_three max_four min_four   -- for this text's walks alone
set_option linter.unusedVariables false
set_option linter.unusedSimpArgs false

attribute [local go_sem high] eqA23
/-! ### chancerylaw3_PrintingPlaces: function 3 -/
mutual
def chancerylaw3_PrintingPlaces.j0 : Nat → Int → Int → Bool → Int → Int → Int → Int → Option (Bool)
  | 0, _, _, _, _, _, _, _ => none
  | k + 1, x0, x1, x28, x102000, x102001, x102002, x102003 => if x28 = true then (some false) else ((printing_Place.f x0 x1 x102000 x102001 x102002 x102003).bind fun bt108 => ((chanceryref3_In.f x102000 0 31680).bind fun t114 => (if t114 = true then ((chanceryref3_In.f x102001 0 31680).bind fun t115 => (if t115 = true then ((chanceryref3_In.f x102002 0 31680).bind fun t116 => (if t116 = true then ((chanceryref3_In.f x102003 0 31680).bind fun t117 => (if t117 = true then ((chanceryref3_In.f x0 1 31680).bind fun t118 => (if t118 = true then ((chanceryref3_In.f x1 1 31680).bind fun t119 => (chancerylaw3_PrintingPlaces.j1 k x0 x1 bt108.2.2.2.2 (wrap64 (x102002 - x102000)) (wrap64 (x102003 - x102001)) (!t119) x102000 x102001 x102002 x102003 bt108.1 bt108.2.1 bt108.2.2.1 bt108.2.2.2.1)) else (chancerylaw3_PrintingPlaces.j1 k x0 x1 bt108.2.2.2.2 (wrap64 (x102002 - x102000)) (wrap64 (x102003 - x102001)) (!t118) x102000 x102001 x102002 x102003 bt108.1 bt108.2.1 bt108.2.2.1 bt108.2.2.2.1))) else (chancerylaw3_PrintingPlaces.j1 k x0 x1 bt108.2.2.2.2 (wrap64 (x102002 - x102000)) (wrap64 (x102003 - x102001)) (!t117) x102000 x102001 x102002 x102003 bt108.1 bt108.2.1 bt108.2.2.1 bt108.2.2.2.1))) else (chancerylaw3_PrintingPlaces.j1 k x0 x1 bt108.2.2.2.2 (wrap64 (x102002 - x102000)) (wrap64 (x102003 - x102001)) (!t116) x102000 x102001 x102002 x102003 bt108.1 bt108.2.1 bt108.2.2.1 bt108.2.2.2.1))) else (chancerylaw3_PrintingPlaces.j1 k x0 x1 bt108.2.2.2.2 (wrap64 (x102002 - x102000)) (wrap64 (x102003 - x102001)) (!t115) x102000 x102001 x102002 x102003 bt108.1 bt108.2.1 bt108.2.2.1 bt108.2.2.2.1))) else (chancerylaw3_PrintingPlaces.j1 k x0 x1 bt108.2.2.2.2 (wrap64 (x102002 - x102000)) (wrap64 (x102003 - x102001)) (!t114) x102000 x102001 x102002 x102003 bt108.1 bt108.2.1 bt108.2.2.1 bt108.2.2.2.1))))
def chancerylaw3_PrintingPlaces.j1 : Nat → Int → Int → Int → Int → Int → Bool → Int → Int → Int → Int → Int → Int → Int → Int → Option (Bool)
  | 0, _, _, _, _, _, _, _, _, _, _, _, _, _, _ => none
  | k + 1, x0, x1, x10, x11, x12, x46, x102000, x102001, x102002, x102003, x114000, x114001, x114002, x114003 => if x46 = true then (if x10 = 2 then (some (x114000 == 0 && (x114001 == 0 && (x114002 == 0 && (x114003 == 0))))) else (some false)) else (if x11 < 1 then (if x10 = 5 then (some (x114000 == 0 && (x114001 == 0 && (x114002 == 0 && (x114003 == 0))))) else (some false)) else (if x12 < 1 then (if x10 = 5 then (some (x114000 == 0 && (x114001 == 0 && (x114002 == 0 && (x114003 == 0))))) else (some false)) else (if x11 < x0 then (chancerylaw3_PrintingPlaces.j2 k x0 x1 x10 x11 x12 x0 x1 true x102000 x102001 x102002 x102003 x114000 x114001 x114002 x114003) else (chancerylaw3_PrintingPlaces.j2 k x0 x1 x10 x11 x12 x0 x1 (decide (x12 < x1)) x102000 x102001 x102002 x102003 x114000 x114001 x114002 x114003))))
def chancerylaw3_PrintingPlaces.j2 : Nat → Int → Int → Int → Int → Int → Int → Int → Bool → Int → Int → Int → Int → Int → Int → Int → Int → Option (Bool)
  | 0, _, _, _, _, _, _, _, _, _, _, _, _, _, _, _, _ => none
  | k + 1, x0, x1, x10, x11, x12, x13, x14, x99, x102000, x102001, x102002, x102003, x114000, x114001, x114002, x114003 => if x99 = true then (if (wrap64 (x11 * x1)) ≤ (wrap64 (x12 * x0)) then (if x0 = 0 then (none) else (if x10 = 0 then (some (x114000 == (wrap64 (x102000 + (wrap64 (Int.tdiv (wrap64 (x11 - (mx x11 1))) 2)))) && (x114001 == (wrap64 (x102001 + (wrap64 (Int.tdiv (wrap64 (x12 - (mx (wrap64 (Int.tdiv (wrap64 (x1 * x11)) x0)) 1))) 2)))) && (x114002 == (wrap64 ((wrap64 (x102000 + (wrap64 (Int.tdiv (wrap64 (x11 - (mx x11 1))) 2)))) + (mx x11 1))) && (x114003 == (wrap64 ((wrap64 (x102001 + (wrap64 (Int.tdiv (wrap64 (x12 - (mx (wrap64 (Int.tdiv (wrap64 (x1 * x11)) x0)) 1))) 2)))) + (mx (wrap64 (Int.tdiv (wrap64 (x1 * x11)) x0)) 1)))))))) else (some false))) else (if x1 = 0 then (none) else (if x10 = 0 then (some (x114000 == (wrap64 (x102000 + (wrap64 (Int.tdiv (wrap64 (x11 - (mx (wrap64 (Int.tdiv (wrap64 (x0 * x12)) x1)) 1))) 2)))) && (x114001 == (wrap64 (x102001 + (wrap64 (Int.tdiv (wrap64 (x12 - (mx x12 1))) 2)))) && (x114002 == (wrap64 ((wrap64 (x102000 + (wrap64 (Int.tdiv (wrap64 (x11 - (mx (wrap64 (Int.tdiv (wrap64 (x0 * x12)) x1)) 1))) 2)))) + (mx (wrap64 (Int.tdiv (wrap64 (x0 * x12)) x1)) 1))) && (x114003 == (wrap64 ((wrap64 (x102001 + (wrap64 (Int.tdiv (wrap64 (x12 - (mx x12 1))) 2)))) + (mx x12 1)))))))) else (some false)))) else (if x10 = 0 then (some (x114000 == (wrap64 (x102000 + (wrap64 (Int.tdiv (wrap64 (x11 - (mx x13 1))) 2)))) && (x114001 == (wrap64 (x102001 + (wrap64 (Int.tdiv (wrap64 (x12 - (mx x14 1))) 2)))) && (x114002 == (wrap64 ((wrap64 (x102000 + (wrap64 (Int.tdiv (wrap64 (x11 - (mx x13 1))) 2)))) + (mx x13 1))) && (x114003 == (wrap64 ((wrap64 (x102001 + (wrap64 (Int.tdiv (wrap64 (x12 - (mx x14 1))) 2)))) + (mx x14 1)))))))) else (some false))
end
def chancerylaw3_PrintingPlaces.f (k : Nat) (a0 : Int) (a1 : Int) (a2_0 : Int) (a2_1 : Int) (a2_2 : Int) (a2_3 : Int) : Option (Bool) := (printing_Place.f 200 100 0 0 100 100).bind fun bt102 => (if bt102.2.2.2.2 = 0 then (chancerylaw3_PrintingPlaces.j0 k a0 a1 (!(bt102.1 == 0) || (!(bt102.2.1 == 25) || (!(bt102.2.2.1 == 100) || (!(bt102.2.2.2.1 == 75))))) a2_0 a2_1 a2_2 a2_3) else (chancerylaw3_PrintingPlaces.j0 k a0 a1 true a2_0 a2_1 a2_2 a2_3))
theorem chancerylaw3_PrintingPlaces.mono_l : ∀ k, (∀ y0 y1 y2 y3 y4 y5 y6, LeO (chancerylaw3_PrintingPlaces.j0 k y0 y1 y2 y3 y4 y5 y6) (chancerylaw3_PrintingPlaces.j0 (k + 1) y0 y1 y2 y3 y4 y5 y6)) ∧ (∀ y0 y1 y2 y3 y4 y5 y6 y7 y8 y9 y10 y11 y12 y13, LeO (chancerylaw3_PrintingPlaces.j1 k y0 y1 y2 y3 y4 y5 y6 y7 y8 y9 y10 y11 y12 y13) (chancerylaw3_PrintingPlaces.j1 (k + 1) y0 y1 y2 y3 y4 y5 y6 y7 y8 y9 y10 y11 y12 y13)) ∧ (∀ y0 y1 y2 y3 y4 y5 y6 y7 y8 y9 y10 y11 y12 y13 y14 y15, LeO (chancerylaw3_PrintingPlaces.j2 k y0 y1 y2 y3 y4 y5 y6 y7 y8 y9 y10 y11 y12 y13 y14 y15) (chancerylaw3_PrintingPlaces.j2 (k + 1) y0 y1 y2 y3 y4 y5 y6 y7 y8 y9 y10 y11 y12 y13 y14 y15))
  | 0 => ⟨fun _ _ _ _ _ _ _ r h => by simp [chancerylaw3_PrintingPlaces.j0] at h, fun _ _ _ _ _ _ _ _ _ _ _ _ _ _ r h => by simp [chancerylaw3_PrintingPlaces.j1] at h, fun _ _ _ _ _ _ _ _ _ _ _ _ _ _ _ _ r h => by simp [chancerylaw3_PrintingPlaces.j2] at h⟩
  | k + 1 => by
    obtain ⟨ih0, ih1, ih2⟩ := chancerylaw3_PrintingPlaces.mono_l k
    refine ⟨?_, ?_, ?_⟩
    · intro y0 y1 y2 y3 y4 y5 y6
      unfold chancerylaw3_PrintingPlaces.j0
      repeat' first
      | (with_reducible exact ih0 _ _ _ _ _ _ _)
      | (with_reducible exact ih1 _ _ _ _ _ _ _ _ _ _ _ _ _ _)
      | (with_reducible exact ih2 _ _ _ _ _ _ _ _ _ _ _ _ _ _ _ _)
      | (with_reducible exact LeO.refl _)
      | (with_reducible exact LeO.none _)
      | (with_reducible refine LeO.ite ?_ ?_)
      | (with_reducible refine LeO.bind ?_ (fun _ => ?_))
      | exact ih0 _ _ _ _ _ _ _
      | exact ih1 _ _ _ _ _ _ _ _ _ _ _ _ _ _
      | exact ih2 _ _ _ _ _ _ _ _ _ _ _ _ _ _ _ _
      | exact LeO.none _
      | refine LeO.ite ?_ ?_
      | refine LeO.bind ?_ (fun _ => ?_)
    · intro y0 y1 y2 y3 y4 y5 y6 y7 y8 y9 y10 y11 y12 y13
      unfold chancerylaw3_PrintingPlaces.j1
      repeat' first
      | (with_reducible exact ih0 _ _ _ _ _ _ _)
      | (with_reducible exact ih1 _ _ _ _ _ _ _ _ _ _ _ _ _ _)
      | (with_reducible exact ih2 _ _ _ _ _ _ _ _ _ _ _ _ _ _ _ _)
      | (with_reducible exact LeO.refl _)
      | (with_reducible exact LeO.none _)
      | (with_reducible refine LeO.ite ?_ ?_)
      | (with_reducible refine LeO.bind ?_ (fun _ => ?_))
      | exact ih0 _ _ _ _ _ _ _
      | exact ih1 _ _ _ _ _ _ _ _ _ _ _ _ _ _
      | exact ih2 _ _ _ _ _ _ _ _ _ _ _ _ _ _ _ _
      | exact LeO.none _
      | refine LeO.ite ?_ ?_
      | refine LeO.bind ?_ (fun _ => ?_)
    · intro y0 y1 y2 y3 y4 y5 y6 y7 y8 y9 y10 y11 y12 y13 y14 y15
      unfold chancerylaw3_PrintingPlaces.j2
      repeat' first
      | (with_reducible exact ih0 _ _ _ _ _ _ _)
      | (with_reducible exact ih1 _ _ _ _ _ _ _ _ _ _ _ _ _ _)
      | (with_reducible exact ih2 _ _ _ _ _ _ _ _ _ _ _ _ _ _ _ _)
      | (with_reducible exact LeO.refl _)
      | (with_reducible exact LeO.none _)
      | (with_reducible refine LeO.ite ?_ ?_)
      | (with_reducible refine LeO.bind ?_ (fun _ => ?_))
      | exact ih0 _ _ _ _ _ _ _
      | exact ih1 _ _ _ _ _ _ _ _ _ _ _ _ _ _
      | exact ih2 _ _ _ _ _ _ _ _ _ _ _ _ _ _ _ _
      | exact LeO.none _
      | refine LeO.ite ?_ ?_
      | refine LeO.bind ?_ (fun _ => ?_)
theorem chancerylaw3_PrintingPlaces.mono : ∀ a0 a1 a2 a3 a4 a5 k, LeO (chancerylaw3_PrintingPlaces.f k a0 a1 a2 a3 a4 a5) (chancerylaw3_PrintingPlaces.f (k + 1) a0 a1 a2 a3 a4 a5) := by
  intro a0 a1 a2 a3 a4 a5 k
  obtain ⟨ih0, ih1, ih2⟩ := chancerylaw3_PrintingPlaces.mono_l k
  unfold chancerylaw3_PrintingPlaces.f
  repeat' first
      | (with_reducible exact ih0 _ _ _ _ _ _ _)
      | (with_reducible exact ih1 _ _ _ _ _ _ _ _ _ _ _ _ _ _)
      | (with_reducible exact ih2 _ _ _ _ _ _ _ _ _ _ _ _ _ _ _ _)
      | (with_reducible exact LeO.refl _)
      | (with_reducible exact LeO.none _)
      | (with_reducible refine LeO.ite ?_ ?_)
      | (with_reducible refine LeO.bind ?_ (fun _ => ?_))
      | exact ih0 _ _ _ _ _ _ _
      | exact ih1 _ _ _ _ _ _ _ _ _ _ _ _ _ _
      | exact ih2 _ _ _ _ _ _ _ _ _ _ _ _ _ _ _ _
      | exact LeO.none _
      | refine LeO.ite ?_ ?_
      | refine LeO.bind ?_ (fun _ => ?_)
set_option maxHeartbeats 8000000 in
set_option maxRecDepth 100000 in
theorem chancerylaw3_PrintingPlaces.calls (k : Nat) (a0 : Int) (a1 : Int) (a2_0 : Int) (a2_1 : Int) (a2_2 : Int) (a2_3 : Int) (r : Bool) (w : World) (h : chancerylaw3_PrintingPlaces.f k a0 a1 a2_0 a2_1 a2_2 a2_3 = some r) :
    Calls Try.prog 3 #[.int .i64 a0, .int .i64 a1, .agg #[.int .i64 a2_0, .int .i64 a2_1, .int .i64 a2_2, .int .i64 a2_3]] w fun e w' => e = .returned (.bool r) ∧ Below w.heap.size w w' := by
  have hu23 := Try.underlying23
  have HB := Aside0.mk (Below.refl w.heap.size w)
  have H : ((printing_Place.f 200 100 0 0 100 100).bind fun bt102 => (if bt102.2.2.2.2 = 0 then (chancerylaw3_PrintingPlaces.j0 k a0 a1 (!(bt102.1 == 0) || (!(bt102.2.1 == 25) || (!(bt102.2.2.1 == 100) || (!(bt102.2.2.2.1 == 75))))) a2_0 a2_1 a2_2 a2_3) else (chancerylaw3_PrintingPlaces.j0 k a0 a1 true a2_0 a2_1 a2_2 a2_3))) = some r := h
  clear h
  replace H := Option.bind_eq_some_iff.mp H
  obtain ⟨⟨t102, t103, t104, t105, t106⟩, A40, H⟩ := H
  replace H : (if t106 = 0 then (chancerylaw3_PrintingPlaces.j0 k a0 a1 (!(t102 == 0) || (!(t103 == 25) || (!(t104 == 100) || (!(t105 == 75))))) a2_0 a2_1 a2_2 a2_3) else (chancerylaw3_PrintingPlaces.j0 k a0 a1 true a2_0 a2_1 a2_2 a2_3)) = some r := H
  have A4 := Aside0.mk A40
  clear A40
  have HC5 := Aside0.mk H
  clear H
  go_enter Try.func3, Try.ntmps3
  go_upto_region 2 with (first | ((with_reducible refine gate_dst (N := 5) rfl ?_); refine box_event ?hg (N := 5) ?hd (cs := #[.int .i64 a2_0, .int .i64 a2_1, .int .i64 a2_2, .int .i64 a2_3]) (t := 23) ?hr ?_; (case hd => rfl); (case hg => rfl); (case hr => first | (go_simp; done) | (go_simp; rfl)); intro gb101 hg w6 hbox hb; have n0_ := Aside0.mk (below_step (by repeat (first | (with_reducible first | exact HB.out | apply below_alloc | apply pw_below_drewN | apply below_drew1) | exact HB.out)) hb); have n1_ := Aside0.mk (hbox); have n2_ := Aside0.mk ((by rw [hg]; exact (below_size (by repeat (first | (with_reducible first | exact HB.out | apply below_alloc | apply pw_below_drewN | apply below_drew1) | exact HB.out))) : w.heap.size ≤ gb101)); have n3_ := Aside0.mk ((by rw [hg]; exact (below_size (by repeat (first | (with_reducible first | exact HB.out | apply below_alloc | apply pw_below_drewN | apply below_drew1) | exact HB.out))) : w.heap.size ≤ gb101)); clear HB; have HB := n0_; have BK101 := n1_; have GW101 := n2_; have GE101 := n3_; clear n0_ n1_ n2_ n3_; clear hb hbox hg) | (go_at_call 13; (with_reducible refine (printing_Place.calls 200 100 0 0 100 100 t102 t103 t104 t105 t106 _ A4.out).mono ?_); rintro e w7 ⟨rfl, hb⟩; have n0_ := Aside0.mk (blk_below (g := gb101) (o := .cells #[.int .i64 a2_0, .int .i64 a2_1, .int .i64 a2_2, .int .i64 a2_3] 23 (0, 0)) (by (with_reducible repeat (first | refine blk_drewN ?_ _ | refine blk_drew ?_ | refine blk_alloc ?_ _)); exact BK101.out) hb); have n1_ := Aside0.mk (below_step (by repeat (first | (with_reducible first | exact HB.out | apply below_alloc | apply pw_below_drewN | apply below_drew1 | refine below_set ?_ GE101.out) | exact HB.out)) hb); clear BK101; clear HB; have BK101 := n0_; have HB := n1_; clear n0_ n1_; (try clear hb); (try clear hb2); (try clear hk); (try clear hi)) | ((with_reducible refine gate_dst (N := 7) rfl ?_); refine box_event ?hg (N := 7) ?hd (cs := #[.int .i64 0, .int .i64 0, .int .i64 0, .int .i64 0]) (t := 23) ?hr ?_; (case hd => rfl); (case hg => rfl); (case hr => first | (go_simp; done) | (go_simp; rfl)); intro gb107 hg w8 hbox hb; have n0_ := Aside0.mk (blk_below (g := gb101) (o := .cells #[.int .i64 a2_0, .int .i64 a2_1, .int .i64 a2_2, .int .i64 a2_3] 23 (0, 0)) (by (with_reducible repeat (first | refine blk_drewN ?_ _ | refine blk_drew ?_ | refine blk_alloc ?_ _)); exact BK101.out) hb); have n1_ := Aside0.mk (below_step (by repeat (first | (with_reducible first | exact HB.out | apply below_alloc | apply pw_below_drewN | apply below_drew1 | refine below_set ?_ GE101.out) | exact HB.out)) hb); have n2_ := Aside0.mk (hbox); have n3_ := Aside0.mk ((by rw [hg]; exact (below_size (by repeat (first | (with_reducible first | exact HB.out | apply below_alloc | apply pw_below_drewN | apply below_drew1 | refine below_set ?_ GE101.out) | exact HB.out))) : w.heap.size ≤ gb107)); have n4_ := Aside0.mk ((by rw [hg]; exact (below_size (by repeat (first | (with_reducible first | exact HB.out | apply below_alloc | apply pw_below_drewN | apply below_drew1 | refine below_set ?_ GE101.out) | exact HB.out))) : w.heap.size ≤ gb107)); have n5_ := Aside0.mk ((by rw [hg]; exact Nat.ne_of_lt (blk_lt (g := gb101) (o := .cells #[.int .i64 a2_0, .int .i64 a2_1, .int .i64 a2_2, .int .i64 a2_3] 23 (0, 0)) (by (with_reducible repeat (first | refine blk_drewN ?_ _ | refine blk_drew ?_ | refine blk_alloc ?_ _)); exact BK101.out)) : gb101 ≠ gb107)); have n6_ := Aside0.mk ((by rw [hg]; exact Nat.ne_of_gt (blk_lt (g := gb101) (o := .cells #[.int .i64 a2_0, .int .i64 a2_1, .int .i64 a2_2, .int .i64 a2_3] 23 (0, 0)) (by (with_reducible repeat (first | refine blk_drewN ?_ _ | refine blk_drew ?_ | refine blk_alloc ?_ _)); exact BK101.out)) : gb107 ≠ gb101)); clear BK101; clear HB; have BK101 := n0_; have HB := n1_; have BK107 := n2_; have GW107 := n3_; have GE107 := n4_; have NB101_107 := n5_; have NB107_101 := n6_; clear n0_ n1_ n2_ n3_ n4_ n5_ n6_; clear hb hbox hg; have hnb9 := NB107_101.out; have hnc9 := NB101_107.out; have hcz10_0 : w8.cell? ⟨gb107, 0, none⟩ = some (.int .i64 0) := (blk_cell BK107.out 0).trans rfl; have hcz10_1 : w8.cell? ⟨gb107, 1, none⟩ = some (.int .i64 0) := (blk_cell BK107.out 1).trans rfl; have hcz10_2 : w8.cell? ⟨gb107, 2, none⟩ = some (.int .i64 0) := (blk_cell BK107.out 2).trans rfl; have hcz10_3 : w8.cell? ⟨gb107, 3, none⟩ = some (.int .i64 0) := (blk_cell BK107.out 3).trans rfl; have hfz10_0 := blk_frozen BK107.out 0; have hfz10_1 := blk_frozen BK107.out 1; have hfz10_2 := blk_frozen BK107.out 2; have hfz10_3 := blk_frozen BK107.out 3))
  repeat (go_quiet (first | ((with_reducible refine gate_dst (N := 5) rfl ?_); refine box_event ?hg (N := 5) ?hd (cs := #[.int .i64 a2_0, .int .i64 a2_1, .int .i64 a2_2, .int .i64 a2_3]) (t := 23) ?hr ?_; (case hd => rfl); (case hg => rfl); (case hr => first | (go_simp; done) | (go_simp; rfl)); intro gb101 hg w6 hbox hb; have n0_ := Aside0.mk (below_step (by repeat (first | (with_reducible first | exact HB.out | apply below_alloc | apply pw_below_drewN | apply below_drew1) | exact HB.out)) hb); have n1_ := Aside0.mk (hbox); have n2_ := Aside0.mk ((by rw [hg]; exact (below_size (by repeat (first | (with_reducible first | exact HB.out | apply below_alloc | apply pw_below_drewN | apply below_drew1) | exact HB.out))) : w.heap.size ≤ gb101)); have n3_ := Aside0.mk ((by rw [hg]; exact (below_size (by repeat (first | (with_reducible first | exact HB.out | apply below_alloc | apply pw_below_drewN | apply below_drew1) | exact HB.out))) : w.heap.size ≤ gb101)); clear HB; have HB := n0_; have BK101 := n1_; have GW101 := n2_; have GE101 := n3_; clear n0_ n1_ n2_ n3_; clear hb hbox hg) | (go_at_call 13; (with_reducible refine (printing_Place.calls 200 100 0 0 100 100 t102 t103 t104 t105 t106 _ A4.out).mono ?_); rintro e w7 ⟨rfl, hb⟩; have n0_ := Aside0.mk (blk_below (g := gb101) (o := .cells #[.int .i64 a2_0, .int .i64 a2_1, .int .i64 a2_2, .int .i64 a2_3] 23 (0, 0)) (by (with_reducible repeat (first | refine blk_drewN ?_ _ | refine blk_drew ?_ | refine blk_alloc ?_ _)); exact BK101.out) hb); have n1_ := Aside0.mk (below_step (by repeat (first | (with_reducible first | exact HB.out | apply below_alloc | apply pw_below_drewN | apply below_drew1 | refine below_set ?_ GE101.out) | exact HB.out)) hb); clear BK101; clear HB; have BK101 := n0_; have HB := n1_; clear n0_ n1_; (try clear hb); (try clear hb2); (try clear hk); (try clear hi)) | ((with_reducible refine gate_dst (N := 7) rfl ?_); refine box_event ?hg (N := 7) ?hd (cs := #[.int .i64 0, .int .i64 0, .int .i64 0, .int .i64 0]) (t := 23) ?hr ?_; (case hd => rfl); (case hg => rfl); (case hr => first | (go_simp; done) | (go_simp; rfl)); intro gb107 hg w8 hbox hb; have n0_ := Aside0.mk (blk_below (g := gb101) (o := .cells #[.int .i64 a2_0, .int .i64 a2_1, .int .i64 a2_2, .int .i64 a2_3] 23 (0, 0)) (by (with_reducible repeat (first | refine blk_drewN ?_ _ | refine blk_drew ?_ | refine blk_alloc ?_ _)); exact BK101.out) hb); have n1_ := Aside0.mk (below_step (by repeat (first | (with_reducible first | exact HB.out | apply below_alloc | apply pw_below_drewN | apply below_drew1 | refine below_set ?_ GE101.out) | exact HB.out)) hb); have n2_ := Aside0.mk (hbox); have n3_ := Aside0.mk ((by rw [hg]; exact (below_size (by repeat (first | (with_reducible first | exact HB.out | apply below_alloc | apply pw_below_drewN | apply below_drew1 | refine below_set ?_ GE101.out) | exact HB.out))) : w.heap.size ≤ gb107)); have n4_ := Aside0.mk ((by rw [hg]; exact (below_size (by repeat (first | (with_reducible first | exact HB.out | apply below_alloc | apply pw_below_drewN | apply below_drew1 | refine below_set ?_ GE101.out) | exact HB.out))) : w.heap.size ≤ gb107)); have n5_ := Aside0.mk ((by rw [hg]; exact Nat.ne_of_lt (blk_lt (g := gb101) (o := .cells #[.int .i64 a2_0, .int .i64 a2_1, .int .i64 a2_2, .int .i64 a2_3] 23 (0, 0)) (by (with_reducible repeat (first | refine blk_drewN ?_ _ | refine blk_drew ?_ | refine blk_alloc ?_ _)); exact BK101.out)) : gb101 ≠ gb107)); have n6_ := Aside0.mk ((by rw [hg]; exact Nat.ne_of_gt (blk_lt (g := gb101) (o := .cells #[.int .i64 a2_0, .int .i64 a2_1, .int .i64 a2_2, .int .i64 a2_3] 23 (0, 0)) (by (with_reducible repeat (first | refine blk_drewN ?_ _ | refine blk_drew ?_ | refine blk_alloc ?_ _)); exact BK101.out)) : gb107 ≠ gb101)); clear BK101; clear HB; have BK101 := n0_; have HB := n1_; have BK107 := n2_; have GW107 := n3_; have GE107 := n4_; have NB101_107 := n5_; have NB107_101 := n6_; clear n0_ n1_ n2_ n3_ n4_ n5_ n6_; clear hb hbox hg; have hnb9 := NB107_101.out; have hnc9 := NB101_107.out; have hcz10_0 : w8.cell? ⟨gb107, 0, none⟩ = some (.int .i64 0) := (blk_cell BK107.out 0).trans rfl; have hcz10_1 : w8.cell? ⟨gb107, 1, none⟩ = some (.int .i64 0) := (blk_cell BK107.out 1).trans rfl; have hcz10_2 : w8.cell? ⟨gb107, 2, none⟩ = some (.int .i64 0) := (blk_cell BK107.out 2).trans rfl; have hcz10_3 : w8.cell? ⟨gb107, 3, none⟩ = some (.int .i64 0) := (blk_cell BK107.out 3).trans rfl; have hfz10_0 := blk_frozen BK107.out 0; have hfz10_1 := blk_frozen BK107.out 1; have hfz10_2 := blk_frozen BK107.out 2; have hfz10_3 := blk_frozen BK107.out 3)); go_upto_region 2 with (first | ((with_reducible refine gate_dst (N := 5) rfl ?_); refine box_event ?hg (N := 5) ?hd (cs := #[.int .i64 a2_0, .int .i64 a2_1, .int .i64 a2_2, .int .i64 a2_3]) (t := 23) ?hr ?_; (case hd => rfl); (case hg => rfl); (case hr => first | (go_simp; done) | (go_simp; rfl)); intro gb101 hg w6 hbox hb; have n0_ := Aside0.mk (below_step (by repeat (first | (with_reducible first | exact HB.out | apply below_alloc | apply pw_below_drewN | apply below_drew1) | exact HB.out)) hb); have n1_ := Aside0.mk (hbox); have n2_ := Aside0.mk ((by rw [hg]; exact (below_size (by repeat (first | (with_reducible first | exact HB.out | apply below_alloc | apply pw_below_drewN | apply below_drew1) | exact HB.out))) : w.heap.size ≤ gb101)); have n3_ := Aside0.mk ((by rw [hg]; exact (below_size (by repeat (first | (with_reducible first | exact HB.out | apply below_alloc | apply pw_below_drewN | apply below_drew1) | exact HB.out))) : w.heap.size ≤ gb101)); clear HB; have HB := n0_; have BK101 := n1_; have GW101 := n2_; have GE101 := n3_; clear n0_ n1_ n2_ n3_; clear hb hbox hg) | (go_at_call 13; (with_reducible refine (printing_Place.calls 200 100 0 0 100 100 t102 t103 t104 t105 t106 _ A4.out).mono ?_); rintro e w7 ⟨rfl, hb⟩; have n0_ := Aside0.mk (blk_below (g := gb101) (o := .cells #[.int .i64 a2_0, .int .i64 a2_1, .int .i64 a2_2, .int .i64 a2_3] 23 (0, 0)) (by (with_reducible repeat (first | refine blk_drewN ?_ _ | refine blk_drew ?_ | refine blk_alloc ?_ _)); exact BK101.out) hb); have n1_ := Aside0.mk (below_step (by repeat (first | (with_reducible first | exact HB.out | apply below_alloc | apply pw_below_drewN | apply below_drew1 | refine below_set ?_ GE101.out) | exact HB.out)) hb); clear BK101; clear HB; have BK101 := n0_; have HB := n1_; clear n0_ n1_; (try clear hb); (try clear hb2); (try clear hk); (try clear hi)) | ((with_reducible refine gate_dst (N := 7) rfl ?_); refine box_event ?hg (N := 7) ?hd (cs := #[.int .i64 0, .int .i64 0, .int .i64 0, .int .i64 0]) (t := 23) ?hr ?_; (case hd => rfl); (case hg => rfl); (case hr => first | (go_simp; done) | (go_simp; rfl)); intro gb107 hg w8 hbox hb; have n0_ := Aside0.mk (blk_below (g := gb101) (o := .cells #[.int .i64 a2_0, .int .i64 a2_1, .int .i64 a2_2, .int .i64 a2_3] 23 (0, 0)) (by (with_reducible repeat (first | refine blk_drewN ?_ _ | refine blk_drew ?_ | refine blk_alloc ?_ _)); exact BK101.out) hb); have n1_ := Aside0.mk (below_step (by repeat (first | (with_reducible first | exact HB.out | apply below_alloc | apply pw_below_drewN | apply below_drew1 | refine below_set ?_ GE101.out) | exact HB.out)) hb); have n2_ := Aside0.mk (hbox); have n3_ := Aside0.mk ((by rw [hg]; exact (below_size (by repeat (first | (with_reducible first | exact HB.out | apply below_alloc | apply pw_below_drewN | apply below_drew1 | refine below_set ?_ GE101.out) | exact HB.out))) : w.heap.size ≤ gb107)); have n4_ := Aside0.mk ((by rw [hg]; exact (below_size (by repeat (first | (with_reducible first | exact HB.out | apply below_alloc | apply pw_below_drewN | apply below_drew1 | refine below_set ?_ GE101.out) | exact HB.out))) : w.heap.size ≤ gb107)); have n5_ := Aside0.mk ((by rw [hg]; exact Nat.ne_of_lt (blk_lt (g := gb101) (o := .cells #[.int .i64 a2_0, .int .i64 a2_1, .int .i64 a2_2, .int .i64 a2_3] 23 (0, 0)) (by (with_reducible repeat (first | refine blk_drewN ?_ _ | refine blk_drew ?_ | refine blk_alloc ?_ _)); exact BK101.out)) : gb101 ≠ gb107)); have n6_ := Aside0.mk ((by rw [hg]; exact Nat.ne_of_gt (blk_lt (g := gb101) (o := .cells #[.int .i64 a2_0, .int .i64 a2_1, .int .i64 a2_2, .int .i64 a2_3] 23 (0, 0)) (by (with_reducible repeat (first | refine blk_drewN ?_ _ | refine blk_drew ?_ | refine blk_alloc ?_ _)); exact BK101.out)) : gb107 ≠ gb101)); clear BK101; clear HB; have BK101 := n0_; have HB := n1_; have BK107 := n2_; have GW107 := n3_; have GE107 := n4_; have NB101_107 := n5_; have NB107_101 := n6_; clear n0_ n1_ n2_ n3_ n4_ n5_ n6_; clear hb hbox hg; have hnb9 := NB107_101.out; have hnc9 := NB101_107.out; have hcz10_0 : w8.cell? ⟨gb107, 0, none⟩ = some (.int .i64 0) := (blk_cell BK107.out 0).trans rfl; have hcz10_1 : w8.cell? ⟨gb107, 1, none⟩ = some (.int .i64 0) := (blk_cell BK107.out 1).trans rfl; have hcz10_2 : w8.cell? ⟨gb107, 2, none⟩ = some (.int .i64 0) := (blk_cell BK107.out 2).trans rfl; have hcz10_3 : w8.cell? ⟨gb107, 3, none⟩ = some (.int .i64 0) := (blk_cell BK107.out 3).trans rfl; have hfz10_0 := blk_frozen BK107.out 0; have hfz10_1 := blk_frozen BK107.out 1; have hfz10_2 := blk_frozen BK107.out 2; have hfz10_3 := blk_frozen BK107.out 3)))
  (try simp only [Act.put, List.setIfInBounds_toArray, List.set_cons_zero, List.set_cons_succ])
  go_cut [28] (fun v28 wc => ∃ (kq : Nat) (x28_4 : Bool), v28 = .bool x28_4 ∧ Aside0 (chancerylaw3_PrintingPlaces.j0 kq a0 a1 x28_4 a2_0 a2_1 a2_2 a2_3 = some r) ∧ Aside0 (kq ≤ k) ∧ Aside0 (wc.heap[gb101]? = some (.cells #[.int .i64 a2_0, .int .i64 a2_1, .int .i64 a2_2, .int .i64 a2_3] 23 (0, 0))) ∧ Aside0 (wc.heap[gb107]? = some (.cells #[.int .i64 t102, .int .i64 t103, .int .i64 t104, .int .i64 t105] 23 (0, 0))) ∧ Aside0 (Below w.heap.size w wc))
  case first =>
    have H := HC5.out
    clear HC5
    by_cases c11 : t106 = 0
    · rw [if_pos c11] at H
      have c11b0 : (t106 == 0) = true := beq_iff_eq.mpr c11
      have c11b1 : (t106 != 0) = false := bne_eq_false_iff_eq.mpr c11
      clear c11
      (first | rw [c11b0] | (simp only [i64_w, i32_w]; rw [c11b0]) | skip)
      have H' := Aside0.mk H
      clear H
      have hnb12 := NB107_101.out
      have hnc12 := NB101_107.out
      have hcz13_0 : w8.cell? ⟨gb107, 0, none⟩ = some (.int .i64 0) := (blk_cell BK107.out 0).trans rfl
      have hcz13_1 : w8.cell? ⟨gb107, 1, none⟩ = some (.int .i64 0) := (blk_cell BK107.out 1).trans rfl
      have hcz13_2 : w8.cell? ⟨gb107, 2, none⟩ = some (.int .i64 0) := (blk_cell BK107.out 2).trans rfl
      have hcz13_3 : w8.cell? ⟨gb107, 3, none⟩ = some (.int .i64 0) := (blk_cell BK107.out 3).trans rfl
      have hfz13_0 := blk_frozen BK107.out 0
      have hfz13_1 := blk_frozen BK107.out 1
      have hfz13_2 := blk_frozen BK107.out 2
      have hfz13_3 := blk_frozen BK107.out 3
      go_wp2
      repeat (go_quiet (fail); try go_wp2)
      go_meet
      case rel => exact ⟨_, ((!(t102 == 0) || (!(t103 == 25) || (!(t104 == 100) || (!(t105 == 75)))))), (by first | rfl | (simp; done) | (simp [*]; done)), H', ⟨by first | omega | exact Nat.le_refl _⟩, ⟨by (with_reducible repeat (first | refine blk_drewN ?_ _ | refine blk_drew ?_ | refine blk_alloc ?_ _)); refine blk_far ?_ NB101_107.out _; (with_reducible repeat (first | refine blk_drewN ?_ _ | refine blk_drew ?_ | refine blk_alloc ?_ _)); refine blk_far ?_ NB101_107.out _; (with_reducible repeat (first | refine blk_drewN ?_ _ | refine blk_drew ?_ | refine blk_alloc ?_ _)); refine blk_far ?_ NB101_107.out _; (with_reducible repeat (first | refine blk_drewN ?_ _ | refine blk_drew ?_ | refine blk_alloc ?_ _)); refine blk_far ?_ NB101_107.out _; (with_reducible repeat (first | refine blk_drewN ?_ _ | refine blk_drew ?_ | refine blk_alloc ?_ _)); exact BK101.out⟩, ⟨by (with_reducible repeat (first | refine blk_drewN ?_ _ | refine blk_drew ?_ | refine blk_alloc ?_ _)); refine blk_put (cs := #[.int .i64 t102, .int .i64 t103, .int .i64 t104, .int .i64 0]) ?_ 3 _ rfl; (with_reducible repeat (first | refine blk_drewN ?_ _ | refine blk_drew ?_ | refine blk_alloc ?_ _)); refine blk_put (cs := #[.int .i64 t102, .int .i64 t103, .int .i64 0, .int .i64 0]) ?_ 2 _ rfl; (with_reducible repeat (first | refine blk_drewN ?_ _ | refine blk_drew ?_ | refine blk_alloc ?_ _)); refine blk_put (cs := #[.int .i64 t102, .int .i64 0, .int .i64 0, .int .i64 0]) ?_ 1 _ rfl; (with_reducible repeat (first | refine blk_drewN ?_ _ | refine blk_drew ?_ | refine blk_alloc ?_ _)); refine blk_put (cs := #[.int .i64 0, .int .i64 0, .int .i64 0, .int .i64 0]) ?_ 0 _ rfl; (with_reducible repeat (first | refine blk_drewN ?_ _ | refine blk_drew ?_ | refine blk_alloc ?_ _)); exact BK107.out⟩, ⟨by repeat (first | (with_reducible first | exact HB.out | apply below_alloc | apply pw_below_drewN | apply below_drew1 | refine below_set ?_ GE101.out | refine below_set ?_ GE107.out) | exact HB.out)⟩⟩
    · rw [if_neg c11] at H
      have c11b0 : (t106 == 0) = false := beq_eq_false_iff_ne.mpr c11
      have c11b1 : (t106 != 0) = true := bne_iff_ne.mpr c11
      (first | rw [c11b0] | (simp only [i64_w, i32_w]; rw [c11b0]) | skip)
      have H' := Aside0.mk H
      clear H
      go_wp2
      repeat (go_quiet (fail); try go_wp2)
      go_meet
      case rel => exact ⟨_, (true), (by first | rfl | (simp; done) | (simp [*]; done)), H', ⟨by first | omega | exact Nat.le_refl _⟩, ⟨by (with_reducible repeat (first | refine blk_drewN ?_ _ | refine blk_drew ?_ | refine blk_alloc ?_ _)); refine blk_far ?_ NB101_107.out _; (with_reducible repeat (first | refine blk_drewN ?_ _ | refine blk_drew ?_ | refine blk_alloc ?_ _)); refine blk_far ?_ NB101_107.out _; (with_reducible repeat (first | refine blk_drewN ?_ _ | refine blk_drew ?_ | refine blk_alloc ?_ _)); refine blk_far ?_ NB101_107.out _; (with_reducible repeat (first | refine blk_drewN ?_ _ | refine blk_drew ?_ | refine blk_alloc ?_ _)); refine blk_far ?_ NB101_107.out _; (with_reducible repeat (first | refine blk_drewN ?_ _ | refine blk_drew ?_ | refine blk_alloc ?_ _)); exact BK101.out⟩, ⟨by (with_reducible repeat (first | refine blk_drewN ?_ _ | refine blk_drew ?_ | refine blk_alloc ?_ _)); refine blk_put (cs := #[.int .i64 t102, .int .i64 t103, .int .i64 t104, .int .i64 0]) ?_ 3 _ rfl; (with_reducible repeat (first | refine blk_drewN ?_ _ | refine blk_drew ?_ | refine blk_alloc ?_ _)); refine blk_put (cs := #[.int .i64 t102, .int .i64 t103, .int .i64 0, .int .i64 0]) ?_ 2 _ rfl; (with_reducible repeat (first | refine blk_drewN ?_ _ | refine blk_drew ?_ | refine blk_alloc ?_ _)); refine blk_put (cs := #[.int .i64 t102, .int .i64 0, .int .i64 0, .int .i64 0]) ?_ 1 _ rfl; (with_reducible repeat (first | refine blk_drewN ?_ _ | refine blk_drew ?_ | refine blk_alloc ?_ _)); refine blk_put (cs := #[.int .i64 0, .int .i64 0, .int .i64 0, .int .i64 0]) ?_ 0 _ rfl; (with_reducible repeat (first | refine blk_drewN ?_ _ | refine blk_drew ?_ | refine blk_alloc ?_ _)); exact BK107.out⟩, ⟨by repeat (first | (with_reducible first | exact HB.out | apply below_alloc | apply pw_below_drewN | apply below_drew1 | refine below_set ?_ GE101.out | refine below_set ?_ GE107.out) | exact HB.out)⟩⟩
  case rest =>
    clear HC5
    try clear c1
    try clear p2
    try clear c3
    try clear c9
    try clear c11
    try clear c11b0
    try clear c11b1
    try clear c12
    try clear hcz10_0
    try clear hcz10_1
    try clear hcz10_2
    try clear hcz10_3
    try clear hcz13_0
    try clear hcz13_1
    try clear hcz13_2
    try clear hcz13_3
    try clear hfz10_0
    try clear hfz10_1
    try clear hfz10_2
    try clear hfz10_3
    try clear hfz13_0
    try clear hfz13_1
    try clear hfz13_2
    try clear hfz13_3
    obtain ⟨kq, x28_4, rfl, HA, HJ4, BK101, BK107, HB⟩ := hcut
    cases kq with
    | zero => exact absurd HA.out (by simp [chancerylaw3_PrintingPlaces.j0])
    | succ kj4 =>
      have H := HA.out
      clear HA
      simp only [chancerylaw3_PrintingPlaces.j0] at H
      by_cases c14 : x28_4 = true
      · subst c14
        have H1 : (some false) = some r := by rw [if_pos rfl] at H; exact H
        clear H
        have H := H1
        clear H1
        obtain rfl := Option.some.inj H
        go_wp2
        repeat (go_quiet (fail); try go_wp2)
        go_ret
        exact ⟨by first | rfl | (simp [errW_none, errW_some] <;> rfl) | (simp [*, errW_none, errW_some] <;> rfl), by repeat (first | (with_reducible first | exact HB.out | apply below_alloc | apply pw_below_drewN | apply below_drew1 | refine below_set ?_ GE101.out | refine below_set ?_ GE107.out) | exact HB.out)⟩
      · replace c14 := Bool.eq_false_iff.mpr c14
        subst c14
        have H1 : ((printing_Place.f a0 a1 a2_0 a2_1 a2_2 a2_3).bind fun bt108 => ((chanceryref3_In.f a2_0 0 31680).bind fun t114 => (if t114 = true then ((chanceryref3_In.f a2_1 0 31680).bind fun t115 => (if t115 = true then ((chanceryref3_In.f a2_2 0 31680).bind fun t116 => (if t116 = true then ((chanceryref3_In.f a2_3 0 31680).bind fun t117 => (if t117 = true then ((chanceryref3_In.f a0 1 31680).bind fun t118 => (if t118 = true then ((chanceryref3_In.f a1 1 31680).bind fun t119 => (chancerylaw3_PrintingPlaces.j1 kj4 a0 a1 bt108.2.2.2.2 (wrap64 (a2_2 - a2_0)) (wrap64 (a2_3 - a2_1)) (!t119) a2_0 a2_1 a2_2 a2_3 bt108.1 bt108.2.1 bt108.2.2.1 bt108.2.2.2.1)) else (chancerylaw3_PrintingPlaces.j1 kj4 a0 a1 bt108.2.2.2.2 (wrap64 (a2_2 - a2_0)) (wrap64 (a2_3 - a2_1)) (!t118) a2_0 a2_1 a2_2 a2_3 bt108.1 bt108.2.1 bt108.2.2.1 bt108.2.2.2.1))) else (chancerylaw3_PrintingPlaces.j1 kj4 a0 a1 bt108.2.2.2.2 (wrap64 (a2_2 - a2_0)) (wrap64 (a2_3 - a2_1)) (!t117) a2_0 a2_1 a2_2 a2_3 bt108.1 bt108.2.1 bt108.2.2.1 bt108.2.2.2.1))) else (chancerylaw3_PrintingPlaces.j1 kj4 a0 a1 bt108.2.2.2.2 (wrap64 (a2_2 - a2_0)) (wrap64 (a2_3 - a2_1)) (!t116) a2_0 a2_1 a2_2 a2_3 bt108.1 bt108.2.1 bt108.2.2.1 bt108.2.2.2.1))) else (chancerylaw3_PrintingPlaces.j1 kj4 a0 a1 bt108.2.2.2.2 (wrap64 (a2_2 - a2_0)) (wrap64 (a2_3 - a2_1)) (!t115) a2_0 a2_1 a2_2 a2_3 bt108.1 bt108.2.1 bt108.2.2.1 bt108.2.2.2.1))) else (chancerylaw3_PrintingPlaces.j1 kj4 a0 a1 bt108.2.2.2.2 (wrap64 (a2_2 - a2_0)) (wrap64 (a2_3 - a2_1)) (!t114) a2_0 a2_1 a2_2 a2_3 bt108.1 bt108.2.1 bt108.2.2.1 bt108.2.2.2.1)))) = some r := by rw [if_neg (show ¬ (false = true) by decide)] at H; exact H
        clear H
        have H := H1
        clear H1
        replace H := Option.bind_eq_some_iff.mp H
        obtain ⟨⟨t108, t109, t110, t111, t112⟩, A150, H⟩ := H
        replace H : ((chanceryref3_In.f a2_0 0 31680).bind fun t114 => (if t114 = true then ((chanceryref3_In.f a2_1 0 31680).bind fun t115 => (if t115 = true then ((chanceryref3_In.f a2_2 0 31680).bind fun t116 => (if t116 = true then ((chanceryref3_In.f a2_3 0 31680).bind fun t117 => (if t117 = true then ((chanceryref3_In.f a0 1 31680).bind fun t118 => (if t118 = true then ((chanceryref3_In.f a1 1 31680).bind fun t119 => (chancerylaw3_PrintingPlaces.j1 kj4 a0 a1 t112 (wrap64 (a2_2 - a2_0)) (wrap64 (a2_3 - a2_1)) (!t119) a2_0 a2_1 a2_2 a2_3 t108 t109 t110 t111)) else (chancerylaw3_PrintingPlaces.j1 kj4 a0 a1 t112 (wrap64 (a2_2 - a2_0)) (wrap64 (a2_3 - a2_1)) (!t118) a2_0 a2_1 a2_2 a2_3 t108 t109 t110 t111))) else (chancerylaw3_PrintingPlaces.j1 kj4 a0 a1 t112 (wrap64 (a2_2 - a2_0)) (wrap64 (a2_3 - a2_1)) (!t117) a2_0 a2_1 a2_2 a2_3 t108 t109 t110 t111))) else (chancerylaw3_PrintingPlaces.j1 kj4 a0 a1 t112 (wrap64 (a2_2 - a2_0)) (wrap64 (a2_3 - a2_1)) (!t116) a2_0 a2_1 a2_2 a2_3 t108 t109 t110 t111))) else (chancerylaw3_PrintingPlaces.j1 kj4 a0 a1 t112 (wrap64 (a2_2 - a2_0)) (wrap64 (a2_3 - a2_1)) (!t115) a2_0 a2_1 a2_2 a2_3 t108 t109 t110 t111))) else (chancerylaw3_PrintingPlaces.j1 kj4 a0 a1 t112 (wrap64 (a2_2 - a2_0)) (wrap64 (a2_3 - a2_1)) (!t114) a2_0 a2_1 a2_2 a2_3 t108 t109 t110 t111))) = some r := H
        have A15 := Aside0.mk A150
        clear A150
        replace H := Option.bind_eq_some_iff.mp H
        obtain ⟨t114, A160, H⟩ := H
        replace H : (if t114 = true then ((chanceryref3_In.f a2_1 0 31680).bind fun t115 => (if t115 = true then ((chanceryref3_In.f a2_2 0 31680).bind fun t116 => (if t116 = true then ((chanceryref3_In.f a2_3 0 31680).bind fun t117 => (if t117 = true then ((chanceryref3_In.f a0 1 31680).bind fun t118 => (if t118 = true then ((chanceryref3_In.f a1 1 31680).bind fun t119 => (chancerylaw3_PrintingPlaces.j1 kj4 a0 a1 t112 (wrap64 (a2_2 - a2_0)) (wrap64 (a2_3 - a2_1)) (!t119) a2_0 a2_1 a2_2 a2_3 t108 t109 t110 t111)) else (chancerylaw3_PrintingPlaces.j1 kj4 a0 a1 t112 (wrap64 (a2_2 - a2_0)) (wrap64 (a2_3 - a2_1)) (!t118) a2_0 a2_1 a2_2 a2_3 t108 t109 t110 t111))) else (chancerylaw3_PrintingPlaces.j1 kj4 a0 a1 t112 (wrap64 (a2_2 - a2_0)) (wrap64 (a2_3 - a2_1)) (!t117) a2_0 a2_1 a2_2 a2_3 t108 t109 t110 t111))) else (chancerylaw3_PrintingPlaces.j1 kj4 a0 a1 t112 (wrap64 (a2_2 - a2_0)) (wrap64 (a2_3 - a2_1)) (!t116) a2_0 a2_1 a2_2 a2_3 t108 t109 t110 t111))) else (chancerylaw3_PrintingPlaces.j1 kj4 a0 a1 t112 (wrap64 (a2_2 - a2_0)) (wrap64 (a2_3 - a2_1)) (!t115) a2_0 a2_1 a2_2 a2_3 t108 t109 t110 t111))) else (chancerylaw3_PrintingPlaces.j1 kj4 a0 a1 t112 (wrap64 (a2_2 - a2_0)) (wrap64 (a2_3 - a2_1)) (!t114) a2_0 a2_1 a2_2 a2_3 t108 t109 t110 t111)) = some r := H
        have A16 := Aside0.mk A160
        clear A160
        have HC17 := Aside0.mk H
        clear H
        have hnb18 := NB101_107.out
        have hnc18 := NB107_101.out
        have hcz19_0 : wc.cell? ⟨gb101, 0, none⟩ = some (.int .i64 a2_0) := (blk_cell BK101.out 0).trans rfl
        have hcz19_1 : wc.cell? ⟨gb101, 1, none⟩ = some (.int .i64 a2_1) := (blk_cell BK101.out 1).trans rfl
        have hcz19_2 : wc.cell? ⟨gb101, 2, none⟩ = some (.int .i64 a2_2) := (blk_cell BK101.out 2).trans rfl
        have hcz19_3 : wc.cell? ⟨gb101, 3, none⟩ = some (.int .i64 a2_3) := (blk_cell BK101.out 3).trans rfl
        have hfz19_0 := blk_frozen BK101.out 0
        have hfz19_1 := blk_frozen BK101.out 1
        have hfz19_2 := blk_frozen BK101.out 2
        have hfz19_3 := blk_frozen BK101.out 3
        go_upto_if 46 with (first | (go_at_call 13; (with_reducible refine (printing_Place.calls a0 a1 a2_0 a2_1 a2_2 a2_3 t108 t109 t110 t111 t112 _ A15.out).mono ?_); rintro e w20 ⟨rfl, hb⟩; have n0_ := Aside0.mk (blk_below (g := gb101) (o := .cells #[.int .i64 a2_0, .int .i64 a2_1, .int .i64 a2_2, .int .i64 a2_3] 23 (0, 0)) (by (with_reducible repeat (first | refine blk_drewN ?_ _ | refine blk_drew ?_ | refine blk_alloc ?_ _)); exact BK101.out) hb); have n1_ := Aside0.mk (blk_below (g := gb107) (o := .cells #[.int .i64 t102, .int .i64 t103, .int .i64 t104, .int .i64 t105] 23 (0, 0)) (by (with_reducible repeat (first | refine blk_drewN ?_ _ | refine blk_drew ?_ | refine blk_alloc ?_ _)); exact BK107.out) hb); have n2_ := Aside0.mk (below_step (by repeat (first | (with_reducible first | exact HB.out | apply below_alloc | apply pw_below_drewN | apply below_drew1 | refine below_set ?_ GE101.out | refine below_set ?_ GE107.out) | exact HB.out)) hb); clear BK101; clear BK107; clear HB; have BK101 := n0_; have BK107 := n1_; have HB := n2_; clear n0_ n1_ n2_; (try clear hb); (try clear hb2); (try clear hk); (try clear hi)) | ((with_reducible refine gate_dst (N := 9) rfl ?_); refine box_event ?hg (N := 9) ?hd (cs := #[.int .i64 0, .int .i64 0, .int .i64 0, .int .i64 0]) (t := 23) ?hr ?_; (case hd => rfl); (case hg => rfl); (case hr => first | (go_simp; done) | (go_simp; rfl)); intro gb113 hg w21 hbox hb; have n0_ := Aside0.mk (blk_below (g := gb101) (o := .cells #[.int .i64 a2_0, .int .i64 a2_1, .int .i64 a2_2, .int .i64 a2_3] 23 (0, 0)) (by (with_reducible repeat (first | refine blk_drewN ?_ _ | refine blk_drew ?_ | refine blk_alloc ?_ _)); exact BK101.out) hb); have n1_ := Aside0.mk (blk_below (g := gb107) (o := .cells #[.int .i64 t102, .int .i64 t103, .int .i64 t104, .int .i64 t105] 23 (0, 0)) (by (with_reducible repeat (first | refine blk_drewN ?_ _ | refine blk_drew ?_ | refine blk_alloc ?_ _)); exact BK107.out) hb); have n2_ := Aside0.mk (below_step (by repeat (first | (with_reducible first | exact HB.out | apply below_alloc | apply pw_below_drewN | apply below_drew1 | refine below_set ?_ GE101.out | refine below_set ?_ GE107.out) | exact HB.out)) hb); have n3_ := Aside0.mk (hbox); have n4_ := Aside0.mk ((by rw [hg]; exact (below_size (by repeat (first | (with_reducible first | exact HB.out | apply below_alloc | apply pw_below_drewN | apply below_drew1 | refine below_set ?_ GE101.out | refine below_set ?_ GE107.out) | exact HB.out))) : w.heap.size ≤ gb113)); have n5_ := Aside0.mk ((by rw [hg]; exact (below_size (by repeat (first | (with_reducible first | exact HB.out | apply below_alloc | apply pw_below_drewN | apply below_drew1 | refine below_set ?_ GE101.out | refine below_set ?_ GE107.out) | exact HB.out))) : w.heap.size ≤ gb113)); have n6_ := Aside0.mk ((by rw [hg]; exact Nat.ne_of_lt (blk_lt (g := gb101) (o := .cells #[.int .i64 a2_0, .int .i64 a2_1, .int .i64 a2_2, .int .i64 a2_3] 23 (0, 0)) (by (with_reducible repeat (first | refine blk_drewN ?_ _ | refine blk_drew ?_ | refine blk_alloc ?_ _)); exact BK101.out)) : gb101 ≠ gb113)); have n7_ := Aside0.mk ((by rw [hg]; exact Nat.ne_of_gt (blk_lt (g := gb101) (o := .cells #[.int .i64 a2_0, .int .i64 a2_1, .int .i64 a2_2, .int .i64 a2_3] 23 (0, 0)) (by (with_reducible repeat (first | refine blk_drewN ?_ _ | refine blk_drew ?_ | refine blk_alloc ?_ _)); exact BK101.out)) : gb113 ≠ gb101)); have n8_ := Aside0.mk ((by rw [hg]; exact Nat.ne_of_lt (blk_lt (g := gb107) (o := .cells #[.int .i64 t102, .int .i64 t103, .int .i64 t104, .int .i64 t105] 23 (0, 0)) (by (with_reducible repeat (first | refine blk_drewN ?_ _ | refine blk_drew ?_ | refine blk_alloc ?_ _)); exact BK107.out)) : gb107 ≠ gb113)); have n9_ := Aside0.mk ((by rw [hg]; exact Nat.ne_of_gt (blk_lt (g := gb107) (o := .cells #[.int .i64 t102, .int .i64 t103, .int .i64 t104, .int .i64 t105] 23 (0, 0)) (by (with_reducible repeat (first | refine blk_drewN ?_ _ | refine blk_drew ?_ | refine blk_alloc ?_ _)); exact BK107.out)) : gb113 ≠ gb107)); clear BK101; clear BK107; clear HB; have BK101 := n0_; have BK107 := n1_; have HB := n2_; have BK113 := n3_; have GW113 := n4_; have GE113 := n5_; have NB101_113 := n6_; have NB113_101 := n7_; have NB107_113 := n8_; have NB113_107 := n9_; clear n0_ n1_ n2_ n3_ n4_ n5_ n6_ n7_ n8_ n9_; clear hb hbox hg; have hnb22 := NB113_101.out; have hnc22 := NB101_113.out; have hnb23 := NB113_107.out; have hnc23 := NB107_113.out; have hcz24_0 : w21.cell? ⟨gb113, 0, none⟩ = some (.int .i64 0) := (blk_cell BK113.out 0).trans rfl; have hcz24_1 : w21.cell? ⟨gb113, 1, none⟩ = some (.int .i64 0) := (blk_cell BK113.out 1).trans rfl; have hcz24_2 : w21.cell? ⟨gb113, 2, none⟩ = some (.int .i64 0) := (blk_cell BK113.out 2).trans rfl; have hcz24_3 : w21.cell? ⟨gb113, 3, none⟩ = some (.int .i64 0) := (blk_cell BK113.out 3).trans rfl; have hfz24_0 := blk_frozen BK113.out 0; have hfz24_1 := blk_frozen BK113.out 1; have hfz24_2 := blk_frozen BK113.out 2; have hfz24_3 := blk_frozen BK113.out 3; have hcz25_0 : w21.cell? ⟨gb101, 0, none⟩ = some (.int .i64 a2_0) := (blk_cell BK101.out 0).trans rfl; have hcz25_1 : w21.cell? ⟨gb101, 1, none⟩ = some (.int .i64 a2_1) := (blk_cell BK101.out 1).trans rfl; have hcz25_2 : w21.cell? ⟨gb101, 2, none⟩ = some (.int .i64 a2_2) := (blk_cell BK101.out 2).trans rfl; have hcz25_3 : w21.cell? ⟨gb101, 3, none⟩ = some (.int .i64 a2_3) := (blk_cell BK101.out 3).trans rfl; have hfz25_0 := blk_frozen BK101.out 0; have hfz25_1 := blk_frozen BK101.out 1; have hfz25_2 := blk_frozen BK101.out 2; have hfz25_3 := blk_frozen BK101.out 3) | (go_at_call 14; (with_reducible refine (chanceryref3_In.calls a2_0 0 31680 t114 _ A16.out).mono ?_); rintro e w' ⟨rfl, ⟨nd, rfl⟩⟩; (try first | exact ⟨rfl, _, World.drewN_drewN _ _ _⟩ | exact ⟨rfl, _, Eq.trans (World.drewN_drewN _ _ _) (congrArg (World.drewN _) (Nat.add_assoc _ _ _))⟩)))
        repeat (go_quiet (first | (go_at_call 13; (with_reducible refine (printing_Place.calls a0 a1 a2_0 a2_1 a2_2 a2_3 t108 t109 t110 t111 t112 _ A15.out).mono ?_); rintro e w20 ⟨rfl, hb⟩; have n0_ := Aside0.mk (blk_below (g := gb101) (o := .cells #[.int .i64 a2_0, .int .i64 a2_1, .int .i64 a2_2, .int .i64 a2_3] 23 (0, 0)) (by (with_reducible repeat (first | refine blk_drewN ?_ _ | refine blk_drew ?_ | refine blk_alloc ?_ _)); exact BK101.out) hb); have n1_ := Aside0.mk (blk_below (g := gb107) (o := .cells #[.int .i64 t102, .int .i64 t103, .int .i64 t104, .int .i64 t105] 23 (0, 0)) (by (with_reducible repeat (first | refine blk_drewN ?_ _ | refine blk_drew ?_ | refine blk_alloc ?_ _)); exact BK107.out) hb); have n2_ := Aside0.mk (below_step (by repeat (first | (with_reducible first | exact HB.out | apply below_alloc | apply pw_below_drewN | apply below_drew1 | refine below_set ?_ GE101.out | refine below_set ?_ GE107.out) | exact HB.out)) hb); clear BK101; clear BK107; clear HB; have BK101 := n0_; have BK107 := n1_; have HB := n2_; clear n0_ n1_ n2_; (try clear hb); (try clear hb2); (try clear hk); (try clear hi)) | ((with_reducible refine gate_dst (N := 9) rfl ?_); refine box_event ?hg (N := 9) ?hd (cs := #[.int .i64 0, .int .i64 0, .int .i64 0, .int .i64 0]) (t := 23) ?hr ?_; (case hd => rfl); (case hg => rfl); (case hr => first | (go_simp; done) | (go_simp; rfl)); intro gb113 hg w21 hbox hb; have n0_ := Aside0.mk (blk_below (g := gb101) (o := .cells #[.int .i64 a2_0, .int .i64 a2_1, .int .i64 a2_2, .int .i64 a2_3] 23 (0, 0)) (by (with_reducible repeat (first | refine blk_drewN ?_ _ | refine blk_drew ?_ | refine blk_alloc ?_ _)); exact BK101.out) hb); have n1_ := Aside0.mk (blk_below (g := gb107) (o := .cells #[.int .i64 t102, .int .i64 t103, .int .i64 t104, .int .i64 t105] 23 (0, 0)) (by (with_reducible repeat (first | refine blk_drewN ?_ _ | refine blk_drew ?_ | refine blk_alloc ?_ _)); exact BK107.out) hb); have n2_ := Aside0.mk (below_step (by repeat (first | (with_reducible first | exact HB.out | apply below_alloc | apply pw_below_drewN | apply below_drew1 | refine below_set ?_ GE101.out | refine below_set ?_ GE107.out) | exact HB.out)) hb); have n3_ := Aside0.mk (hbox); have n4_ := Aside0.mk ((by rw [hg]; exact (below_size (by repeat (first | (with_reducible first | exact HB.out | apply below_alloc | apply pw_below_drewN | apply below_drew1 | refine below_set ?_ GE101.out | refine below_set ?_ GE107.out) | exact HB.out))) : w.heap.size ≤ gb113)); have n5_ := Aside0.mk ((by rw [hg]; exact (below_size (by repeat (first | (with_reducible first | exact HB.out | apply below_alloc | apply pw_below_drewN | apply below_drew1 | refine below_set ?_ GE101.out | refine below_set ?_ GE107.out) | exact HB.out))) : w.heap.size ≤ gb113)); have n6_ := Aside0.mk ((by rw [hg]; exact Nat.ne_of_lt (blk_lt (g := gb101) (o := .cells #[.int .i64 a2_0, .int .i64 a2_1, .int .i64 a2_2, .int .i64 a2_3] 23 (0, 0)) (by (with_reducible repeat (first | refine blk_drewN ?_ _ | refine blk_drew ?_ | refine blk_alloc ?_ _)); exact BK101.out)) : gb101 ≠ gb113)); have n7_ := Aside0.mk ((by rw [hg]; exact Nat.ne_of_gt (blk_lt (g := gb101) (o := .cells #[.int .i64 a2_0, .int .i64 a2_1, .int .i64 a2_2, .int .i64 a2_3] 23 (0, 0)) (by (with_reducible repeat (first | refine blk_drewN ?_ _ | refine blk_drew ?_ | refine blk_alloc ?_ _)); exact BK101.out)) : gb113 ≠ gb101)); have n8_ := Aside0.mk ((by rw [hg]; exact Nat.ne_of_lt (blk_lt (g := gb107) (o := .cells #[.int .i64 t102, .int .i64 t103, .int .i64 t104, .int .i64 t105] 23 (0, 0)) (by (with_reducible repeat (first | refine blk_drewN ?_ _ | refine blk_drew ?_ | refine blk_alloc ?_ _)); exact BK107.out)) : gb107 ≠ gb113)); have n9_ := Aside0.mk ((by rw [hg]; exact Nat.ne_of_gt (blk_lt (g := gb107) (o := .cells #[.int .i64 t102, .int .i64 t103, .int .i64 t104, .int .i64 t105] 23 (0, 0)) (by (with_reducible repeat (first | refine blk_drewN ?_ _ | refine blk_drew ?_ | refine blk_alloc ?_ _)); exact BK107.out)) : gb113 ≠ gb107)); clear BK101; clear BK107; clear HB; have BK101 := n0_; have BK107 := n1_; have HB := n2_; have BK113 := n3_; have GW113 := n4_; have GE113 := n5_; have NB101_113 := n6_; have NB113_101 := n7_; have NB107_113 := n8_; have NB113_107 := n9_; clear n0_ n1_ n2_ n3_ n4_ n5_ n6_ n7_ n8_ n9_; clear hb hbox hg; have hnb22 := NB113_101.out; have hnc22 := NB101_113.out; have hnb23 := NB113_107.out; have hnc23 := NB107_113.out; have hcz24_0 : w21.cell? ⟨gb113, 0, none⟩ = some (.int .i64 0) := (blk_cell BK113.out 0).trans rfl; have hcz24_1 : w21.cell? ⟨gb113, 1, none⟩ = some (.int .i64 0) := (blk_cell BK113.out 1).trans rfl; have hcz24_2 : w21.cell? ⟨gb113, 2, none⟩ = some (.int .i64 0) := (blk_cell BK113.out 2).trans rfl; have hcz24_3 : w21.cell? ⟨gb113, 3, none⟩ = some (.int .i64 0) := (blk_cell BK113.out 3).trans rfl; have hfz24_0 := blk_frozen BK113.out 0; have hfz24_1 := blk_frozen BK113.out 1; have hfz24_2 := blk_frozen BK113.out 2; have hfz24_3 := blk_frozen BK113.out 3; have hcz25_0 : w21.cell? ⟨gb101, 0, none⟩ = some (.int .i64 a2_0) := (blk_cell BK101.out 0).trans rfl; have hcz25_1 : w21.cell? ⟨gb101, 1, none⟩ = some (.int .i64 a2_1) := (blk_cell BK101.out 1).trans rfl; have hcz25_2 : w21.cell? ⟨gb101, 2, none⟩ = some (.int .i64 a2_2) := (blk_cell BK101.out 2).trans rfl; have hcz25_3 : w21.cell? ⟨gb101, 3, none⟩ = some (.int .i64 a2_3) := (blk_cell BK101.out 3).trans rfl; have hfz25_0 := blk_frozen BK101.out 0; have hfz25_1 := blk_frozen BK101.out 1; have hfz25_2 := blk_frozen BK101.out 2; have hfz25_3 := blk_frozen BK101.out 3) | (go_at_call 14; (with_reducible refine (chanceryref3_In.calls a2_0 0 31680 t114 _ A16.out).mono ?_); rintro e w' ⟨rfl, ⟨nd, rfl⟩⟩; (try first | exact ⟨rfl, _, World.drewN_drewN _ _ _⟩ | exact ⟨rfl, _, Eq.trans (World.drewN_drewN _ _ _) (congrArg (World.drewN _) (Nat.add_assoc _ _ _))⟩))); go_upto_if 46 with (first | (go_at_call 13; (with_reducible refine (printing_Place.calls a0 a1 a2_0 a2_1 a2_2 a2_3 t108 t109 t110 t111 t112 _ A15.out).mono ?_); rintro e w20 ⟨rfl, hb⟩; have n0_ := Aside0.mk (blk_below (g := gb101) (o := .cells #[.int .i64 a2_0, .int .i64 a2_1, .int .i64 a2_2, .int .i64 a2_3] 23 (0, 0)) (by (with_reducible repeat (first | refine blk_drewN ?_ _ | refine blk_drew ?_ | refine blk_alloc ?_ _)); exact BK101.out) hb); have n1_ := Aside0.mk (blk_below (g := gb107) (o := .cells #[.int .i64 t102, .int .i64 t103, .int .i64 t104, .int .i64 t105] 23 (0, 0)) (by (with_reducible repeat (first | refine blk_drewN ?_ _ | refine blk_drew ?_ | refine blk_alloc ?_ _)); exact BK107.out) hb); have n2_ := Aside0.mk (below_step (by repeat (first | (with_reducible first | exact HB.out | apply below_alloc | apply pw_below_drewN | apply below_drew1 | refine below_set ?_ GE101.out | refine below_set ?_ GE107.out) | exact HB.out)) hb); clear BK101; clear BK107; clear HB; have BK101 := n0_; have BK107 := n1_; have HB := n2_; clear n0_ n1_ n2_; (try clear hb); (try clear hb2); (try clear hk); (try clear hi)) | ((with_reducible refine gate_dst (N := 9) rfl ?_); refine box_event ?hg (N := 9) ?hd (cs := #[.int .i64 0, .int .i64 0, .int .i64 0, .int .i64 0]) (t := 23) ?hr ?_; (case hd => rfl); (case hg => rfl); (case hr => first | (go_simp; done) | (go_simp; rfl)); intro gb113 hg w21 hbox hb; have n0_ := Aside0.mk (blk_below (g := gb101) (o := .cells #[.int .i64 a2_0, .int .i64 a2_1, .int .i64 a2_2, .int .i64 a2_3] 23 (0, 0)) (by (with_reducible repeat (first | refine blk_drewN ?_ _ | refine blk_drew ?_ | refine blk_alloc ?_ _)); exact BK101.out) hb); have n1_ := Aside0.mk (blk_below (g := gb107) (o := .cells #[.int .i64 t102, .int .i64 t103, .int .i64 t104, .int .i64 t105] 23 (0, 0)) (by (with_reducible repeat (first | refine blk_drewN ?_ _ | refine blk_drew ?_ | refine blk_alloc ?_ _)); exact BK107.out) hb); have n2_ := Aside0.mk (below_step (by repeat (first | (with_reducible first | exact HB.out | apply below_alloc | apply pw_below_drewN | apply below_drew1 | refine below_set ?_ GE101.out | refine below_set ?_ GE107.out) | exact HB.out)) hb); have n3_ := Aside0.mk (hbox); have n4_ := Aside0.mk ((by rw [hg]; exact (below_size (by repeat (first | (with_reducible first | exact HB.out | apply below_alloc | apply pw_below_drewN | apply below_drew1 | refine below_set ?_ GE101.out | refine below_set ?_ GE107.out) | exact HB.out))) : w.heap.size ≤ gb113)); have n5_ := Aside0.mk ((by rw [hg]; exact (below_size (by repeat (first | (with_reducible first | exact HB.out | apply below_alloc | apply pw_below_drewN | apply below_drew1 | refine below_set ?_ GE101.out | refine below_set ?_ GE107.out) | exact HB.out))) : w.heap.size ≤ gb113)); have n6_ := Aside0.mk ((by rw [hg]; exact Nat.ne_of_lt (blk_lt (g := gb101) (o := .cells #[.int .i64 a2_0, .int .i64 a2_1, .int .i64 a2_2, .int .i64 a2_3] 23 (0, 0)) (by (with_reducible repeat (first | refine blk_drewN ?_ _ | refine blk_drew ?_ | refine blk_alloc ?_ _)); exact BK101.out)) : gb101 ≠ gb113)); have n7_ := Aside0.mk ((by rw [hg]; exact Nat.ne_of_gt (blk_lt (g := gb101) (o := .cells #[.int .i64 a2_0, .int .i64 a2_1, .int .i64 a2_2, .int .i64 a2_3] 23 (0, 0)) (by (with_reducible repeat (first | refine blk_drewN ?_ _ | refine blk_drew ?_ | refine blk_alloc ?_ _)); exact BK101.out)) : gb113 ≠ gb101)); have n8_ := Aside0.mk ((by rw [hg]; exact Nat.ne_of_lt (blk_lt (g := gb107) (o := .cells #[.int .i64 t102, .int .i64 t103, .int .i64 t104, .int .i64 t105] 23 (0, 0)) (by (with_reducible repeat (first | refine blk_drewN ?_ _ | refine blk_drew ?_ | refine blk_alloc ?_ _)); exact BK107.out)) : gb107 ≠ gb113)); have n9_ := Aside0.mk ((by rw [hg]; exact Nat.ne_of_gt (blk_lt (g := gb107) (o := .cells #[.int .i64 t102, .int .i64 t103, .int .i64 t104, .int .i64 t105] 23 (0, 0)) (by (with_reducible repeat (first | refine blk_drewN ?_ _ | refine blk_drew ?_ | refine blk_alloc ?_ _)); exact BK107.out)) : gb113 ≠ gb107)); clear BK101; clear BK107; clear HB; have BK101 := n0_; have BK107 := n1_; have HB := n2_; have BK113 := n3_; have GW113 := n4_; have GE113 := n5_; have NB101_113 := n6_; have NB113_101 := n7_; have NB107_113 := n8_; have NB113_107 := n9_; clear n0_ n1_ n2_ n3_ n4_ n5_ n6_ n7_ n8_ n9_; clear hb hbox hg; have hnb22 := NB113_101.out; have hnc22 := NB101_113.out; have hnb23 := NB113_107.out; have hnc23 := NB107_113.out; have hcz24_0 : w21.cell? ⟨gb113, 0, none⟩ = some (.int .i64 0) := (blk_cell BK113.out 0).trans rfl; have hcz24_1 : w21.cell? ⟨gb113, 1, none⟩ = some (.int .i64 0) := (blk_cell BK113.out 1).trans rfl; have hcz24_2 : w21.cell? ⟨gb113, 2, none⟩ = some (.int .i64 0) := (blk_cell BK113.out 2).trans rfl; have hcz24_3 : w21.cell? ⟨gb113, 3, none⟩ = some (.int .i64 0) := (blk_cell BK113.out 3).trans rfl; have hfz24_0 := blk_frozen BK113.out 0; have hfz24_1 := blk_frozen BK113.out 1; have hfz24_2 := blk_frozen BK113.out 2; have hfz24_3 := blk_frozen BK113.out 3; have hcz25_0 : w21.cell? ⟨gb101, 0, none⟩ = some (.int .i64 a2_0) := (blk_cell BK101.out 0).trans rfl; have hcz25_1 : w21.cell? ⟨gb101, 1, none⟩ = some (.int .i64 a2_1) := (blk_cell BK101.out 1).trans rfl; have hcz25_2 : w21.cell? ⟨gb101, 2, none⟩ = some (.int .i64 a2_2) := (blk_cell BK101.out 2).trans rfl; have hcz25_3 : w21.cell? ⟨gb101, 3, none⟩ = some (.int .i64 a2_3) := (blk_cell BK101.out 3).trans rfl; have hfz25_0 := blk_frozen BK101.out 0; have hfz25_1 := blk_frozen BK101.out 1; have hfz25_2 := blk_frozen BK101.out 2; have hfz25_3 := blk_frozen BK101.out 3) | (go_at_call 14; (with_reducible refine (chanceryref3_In.calls a2_0 0 31680 t114 _ A16.out).mono ?_); rintro e w' ⟨rfl, ⟨nd, rfl⟩⟩; (try first | exact ⟨rfl, _, World.drewN_drewN _ _ _⟩ | exact ⟨rfl, _, Eq.trans (World.drewN_drewN _ _ _) (congrArg (World.drewN _) (Nat.add_assoc _ _ _))⟩))))
        (try simp only [Act.put, List.setIfInBounds_toArray, List.set_cons_zero, List.set_cons_succ])
        go_cut [46] (fun v46 wc => ∃ (kq : Nat) (x46_16 : Bool), v46 = .bool x46_16 ∧ Aside0 (chancerylaw3_PrintingPlaces.j1 kq a0 a1 t112 (wrap64 (a2_2 - a2_0)) (wrap64 (a2_3 - a2_1)) x46_16 a2_0 a2_1 a2_2 a2_3 t108 t109 t110 t111 = some r) ∧ Aside0 (kq ≤ kj4) ∧ Aside0 (wc.heap[gb101]? = some (.cells #[.int .i64 a2_0, .int .i64 a2_1, .int .i64 a2_2, .int .i64 a2_3] 23 (0, 0))) ∧ Aside0 (wc.heap[gb107]? = some (.cells #[.int .i64 t102, .int .i64 t103, .int .i64 t104, .int .i64 t105] 23 (0, 0))) ∧ Aside0 (wc.heap[gb113]? = some (.cells #[.int .i64 t108, .int .i64 t109, .int .i64 t110, .int .i64 t111] 23 (0, 0))) ∧ Aside0 (Below w.heap.size w wc))
        case first =>
          have H := HC17.out
          clear HC17
          by_cases c26 : t114 = true
          · subst c26
            have H1 : ((chanceryref3_In.f a2_1 0 31680).bind fun t115 => (if t115 = true then ((chanceryref3_In.f a2_2 0 31680).bind fun t116 => (if t116 = true then ((chanceryref3_In.f a2_3 0 31680).bind fun t117 => (if t117 = true then ((chanceryref3_In.f a0 1 31680).bind fun t118 => (if t118 = true then ((chanceryref3_In.f a1 1 31680).bind fun t119 => (chancerylaw3_PrintingPlaces.j1 kj4 a0 a1 t112 (wrap64 (a2_2 - a2_0)) (wrap64 (a2_3 - a2_1)) (!t119) a2_0 a2_1 a2_2 a2_3 t108 t109 t110 t111)) else (chancerylaw3_PrintingPlaces.j1 kj4 a0 a1 t112 (wrap64 (a2_2 - a2_0)) (wrap64 (a2_3 - a2_1)) (!t118) a2_0 a2_1 a2_2 a2_3 t108 t109 t110 t111))) else (chancerylaw3_PrintingPlaces.j1 kj4 a0 a1 t112 (wrap64 (a2_2 - a2_0)) (wrap64 (a2_3 - a2_1)) (!t117) a2_0 a2_1 a2_2 a2_3 t108 t109 t110 t111))) else (chancerylaw3_PrintingPlaces.j1 kj4 a0 a1 t112 (wrap64 (a2_2 - a2_0)) (wrap64 (a2_3 - a2_1)) (!t116) a2_0 a2_1 a2_2 a2_3 t108 t109 t110 t111))) else (chancerylaw3_PrintingPlaces.j1 kj4 a0 a1 t112 (wrap64 (a2_2 - a2_0)) (wrap64 (a2_3 - a2_1)) (!t115) a2_0 a2_1 a2_2 a2_3 t108 t109 t110 t111))) = some r := by rw [if_pos rfl] at H; exact H
            clear H
            have H := H1
            clear H1
            replace H := Option.bind_eq_some_iff.mp H
            obtain ⟨t115, A270, H⟩ := H
            replace H : (if t115 = true then ((chanceryref3_In.f a2_2 0 31680).bind fun t116 => (if t116 = true then ((chanceryref3_In.f a2_3 0 31680).bind fun t117 => (if t117 = true then ((chanceryref3_In.f a0 1 31680).bind fun t118 => (if t118 = true then ((chanceryref3_In.f a1 1 31680).bind fun t119 => (chancerylaw3_PrintingPlaces.j1 kj4 a0 a1 t112 (wrap64 (a2_2 - a2_0)) (wrap64 (a2_3 - a2_1)) (!t119) a2_0 a2_1 a2_2 a2_3 t108 t109 t110 t111)) else (chancerylaw3_PrintingPlaces.j1 kj4 a0 a1 t112 (wrap64 (a2_2 - a2_0)) (wrap64 (a2_3 - a2_1)) (!t118) a2_0 a2_1 a2_2 a2_3 t108 t109 t110 t111))) else (chancerylaw3_PrintingPlaces.j1 kj4 a0 a1 t112 (wrap64 (a2_2 - a2_0)) (wrap64 (a2_3 - a2_1)) (!t117) a2_0 a2_1 a2_2 a2_3 t108 t109 t110 t111))) else (chancerylaw3_PrintingPlaces.j1 kj4 a0 a1 t112 (wrap64 (a2_2 - a2_0)) (wrap64 (a2_3 - a2_1)) (!t116) a2_0 a2_1 a2_2 a2_3 t108 t109 t110 t111))) else (chancerylaw3_PrintingPlaces.j1 kj4 a0 a1 t112 (wrap64 (a2_2 - a2_0)) (wrap64 (a2_3 - a2_1)) (!t115) a2_0 a2_1 a2_2 a2_3 t108 t109 t110 t111)) = some r := H
            have A27 := Aside0.mk A270
            clear A270
            by_cases c28 : t115 = true
            · subst c28
              have H1 : ((chanceryref3_In.f a2_2 0 31680).bind fun t116 => (if t116 = true then ((chanceryref3_In.f a2_3 0 31680).bind fun t117 => (if t117 = true then ((chanceryref3_In.f a0 1 31680).bind fun t118 => (if t118 = true then ((chanceryref3_In.f a1 1 31680).bind fun t119 => (chancerylaw3_PrintingPlaces.j1 kj4 a0 a1 t112 (wrap64 (a2_2 - a2_0)) (wrap64 (a2_3 - a2_1)) (!t119) a2_0 a2_1 a2_2 a2_3 t108 t109 t110 t111)) else (chancerylaw3_PrintingPlaces.j1 kj4 a0 a1 t112 (wrap64 (a2_2 - a2_0)) (wrap64 (a2_3 - a2_1)) (!t118) a2_0 a2_1 a2_2 a2_3 t108 t109 t110 t111))) else (chancerylaw3_PrintingPlaces.j1 kj4 a0 a1 t112 (wrap64 (a2_2 - a2_0)) (wrap64 (a2_3 - a2_1)) (!t117) a2_0 a2_1 a2_2 a2_3 t108 t109 t110 t111))) else (chancerylaw3_PrintingPlaces.j1 kj4 a0 a1 t112 (wrap64 (a2_2 - a2_0)) (wrap64 (a2_3 - a2_1)) (!t116) a2_0 a2_1 a2_2 a2_3 t108 t109 t110 t111))) = some r := by rw [if_pos rfl] at H; exact H
              clear H
              have H := H1
              clear H1
              replace H := Option.bind_eq_some_iff.mp H
              obtain ⟨t116, A290, H⟩ := H
              replace H : (if t116 = true then ((chanceryref3_In.f a2_3 0 31680).bind fun t117 => (if t117 = true then ((chanceryref3_In.f a0 1 31680).bind fun t118 => (if t118 = true then ((chanceryref3_In.f a1 1 31680).bind fun t119 => (chancerylaw3_PrintingPlaces.j1 kj4 a0 a1 t112 (wrap64 (a2_2 - a2_0)) (wrap64 (a2_3 - a2_1)) (!t119) a2_0 a2_1 a2_2 a2_3 t108 t109 t110 t111)) else (chancerylaw3_PrintingPlaces.j1 kj4 a0 a1 t112 (wrap64 (a2_2 - a2_0)) (wrap64 (a2_3 - a2_1)) (!t118) a2_0 a2_1 a2_2 a2_3 t108 t109 t110 t111))) else (chancerylaw3_PrintingPlaces.j1 kj4 a0 a1 t112 (wrap64 (a2_2 - a2_0)) (wrap64 (a2_3 - a2_1)) (!t117) a2_0 a2_1 a2_2 a2_3 t108 t109 t110 t111))) else (chancerylaw3_PrintingPlaces.j1 kj4 a0 a1 t112 (wrap64 (a2_2 - a2_0)) (wrap64 (a2_3 - a2_1)) (!t116) a2_0 a2_1 a2_2 a2_3 t108 t109 t110 t111)) = some r := H
              have A29 := Aside0.mk A290
              clear A290
              by_cases c30 : t116 = true
              · subst c30
                have H1 : ((chanceryref3_In.f a2_3 0 31680).bind fun t117 => (if t117 = true then ((chanceryref3_In.f a0 1 31680).bind fun t118 => (if t118 = true then ((chanceryref3_In.f a1 1 31680).bind fun t119 => (chancerylaw3_PrintingPlaces.j1 kj4 a0 a1 t112 (wrap64 (a2_2 - a2_0)) (wrap64 (a2_3 - a2_1)) (!t119) a2_0 a2_1 a2_2 a2_3 t108 t109 t110 t111)) else (chancerylaw3_PrintingPlaces.j1 kj4 a0 a1 t112 (wrap64 (a2_2 - a2_0)) (wrap64 (a2_3 - a2_1)) (!t118) a2_0 a2_1 a2_2 a2_3 t108 t109 t110 t111))) else (chancerylaw3_PrintingPlaces.j1 kj4 a0 a1 t112 (wrap64 (a2_2 - a2_0)) (wrap64 (a2_3 - a2_1)) (!t117) a2_0 a2_1 a2_2 a2_3 t108 t109 t110 t111))) = some r := by rw [if_pos rfl] at H; exact H
                clear H
                have H := H1
                clear H1
                replace H := Option.bind_eq_some_iff.mp H
                obtain ⟨t117, A310, H⟩ := H
                replace H : (if t117 = true then ((chanceryref3_In.f a0 1 31680).bind fun t118 => (if t118 = true then ((chanceryref3_In.f a1 1 31680).bind fun t119 => (chancerylaw3_PrintingPlaces.j1 kj4 a0 a1 t112 (wrap64 (a2_2 - a2_0)) (wrap64 (a2_3 - a2_1)) (!t119) a2_0 a2_1 a2_2 a2_3 t108 t109 t110 t111)) else (chancerylaw3_PrintingPlaces.j1 kj4 a0 a1 t112 (wrap64 (a2_2 - a2_0)) (wrap64 (a2_3 - a2_1)) (!t118) a2_0 a2_1 a2_2 a2_3 t108 t109 t110 t111))) else (chancerylaw3_PrintingPlaces.j1 kj4 a0 a1 t112 (wrap64 (a2_2 - a2_0)) (wrap64 (a2_3 - a2_1)) (!t117) a2_0 a2_1 a2_2 a2_3 t108 t109 t110 t111)) = some r := H
                have A31 := Aside0.mk A310
                clear A310
                by_cases c32 : t117 = true
                · subst c32
                  have H1 : ((chanceryref3_In.f a0 1 31680).bind fun t118 => (if t118 = true then ((chanceryref3_In.f a1 1 31680).bind fun t119 => (chancerylaw3_PrintingPlaces.j1 kj4 a0 a1 t112 (wrap64 (a2_2 - a2_0)) (wrap64 (a2_3 - a2_1)) (!t119) a2_0 a2_1 a2_2 a2_3 t108 t109 t110 t111)) else (chancerylaw3_PrintingPlaces.j1 kj4 a0 a1 t112 (wrap64 (a2_2 - a2_0)) (wrap64 (a2_3 - a2_1)) (!t118) a2_0 a2_1 a2_2 a2_3 t108 t109 t110 t111))) = some r := by rw [if_pos rfl] at H; exact H
                  clear H
                  have H := H1
                  clear H1
                  replace H := Option.bind_eq_some_iff.mp H
                  obtain ⟨t118, A330, H⟩ := H
                  replace H : (if t118 = true then ((chanceryref3_In.f a1 1 31680).bind fun t119 => (chancerylaw3_PrintingPlaces.j1 kj4 a0 a1 t112 (wrap64 (a2_2 - a2_0)) (wrap64 (a2_3 - a2_1)) (!t119) a2_0 a2_1 a2_2 a2_3 t108 t109 t110 t111)) else (chancerylaw3_PrintingPlaces.j1 kj4 a0 a1 t112 (wrap64 (a2_2 - a2_0)) (wrap64 (a2_3 - a2_1)) (!t118) a2_0 a2_1 a2_2 a2_3 t108 t109 t110 t111)) = some r := H
                  have A33 := Aside0.mk A330
                  clear A330
                  by_cases c34 : t118 = true
                  · subst c34
                    have H1 : ((chanceryref3_In.f a1 1 31680).bind fun t119 => (chancerylaw3_PrintingPlaces.j1 kj4 a0 a1 t112 (wrap64 (a2_2 - a2_0)) (wrap64 (a2_3 - a2_1)) (!t119) a2_0 a2_1 a2_2 a2_3 t108 t109 t110 t111)) = some r := by rw [if_pos rfl] at H; exact H
                    clear H
                    have H := H1
                    clear H1
                    replace H := Option.bind_eq_some_iff.mp H
                    obtain ⟨t119, A350, H⟩ := H
                    replace H : (chancerylaw3_PrintingPlaces.j1 kj4 a0 a1 t112 (wrap64 (a2_2 - a2_0)) (wrap64 (a2_3 - a2_1)) (!t119) a2_0 a2_1 a2_2 a2_3 t108 t109 t110 t111) = some r := H
                    have A35 := Aside0.mk A350
                    clear A350
                    have H' := Aside0.mk H
                    clear H
                    have hnb36 := NB101_107.out
                    have hnc36 := NB107_101.out
                    have hnb37 := NB101_113.out
                    have hnc37 := NB113_101.out
                    have hcz38_0 : w21.cell? ⟨gb101, 0, none⟩ = some (.int .i64 a2_0) := (blk_cell BK101.out 0).trans rfl
                    have hcz38_1 : w21.cell? ⟨gb101, 1, none⟩ = some (.int .i64 a2_1) := (blk_cell BK101.out 1).trans rfl
                    have hcz38_2 : w21.cell? ⟨gb101, 2, none⟩ = some (.int .i64 a2_2) := (blk_cell BK101.out 2).trans rfl
                    have hcz38_3 : w21.cell? ⟨gb101, 3, none⟩ = some (.int .i64 a2_3) := (blk_cell BK101.out 3).trans rfl
                    have hfz38_0 := blk_frozen BK101.out 0
                    have hfz38_1 := blk_frozen BK101.out 1
                    have hfz38_2 := blk_frozen BK101.out 2
                    have hfz38_3 := blk_frozen BK101.out 3
                    go_wp2_with (first | (go_at_call 14; (with_reducible refine (chanceryref3_In.calls a2_1 0 31680 true _ A27.out).mono ?_); rintro e w' ⟨rfl, ⟨nd, rfl⟩⟩; (try first | exact ⟨rfl, _, World.drewN_drewN _ _ _⟩ | exact ⟨rfl, _, Eq.trans (World.drewN_drewN _ _ _) (congrArg (World.drewN _) (Nat.add_assoc _ _ _))⟩)) | (go_at_call 14; (with_reducible refine (chanceryref3_In.calls a2_2 0 31680 true _ A29.out).mono ?_); rintro e w' ⟨rfl, ⟨nd, rfl⟩⟩; (try first | exact ⟨rfl, _, World.drewN_drewN _ _ _⟩ | exact ⟨rfl, _, Eq.trans (World.drewN_drewN _ _ _) (congrArg (World.drewN _) (Nat.add_assoc _ _ _))⟩)) | (go_at_call 14; (with_reducible refine (chanceryref3_In.calls a2_3 0 31680 true _ A31.out).mono ?_); rintro e w' ⟨rfl, ⟨nd, rfl⟩⟩; (try first | exact ⟨rfl, _, World.drewN_drewN _ _ _⟩ | exact ⟨rfl, _, Eq.trans (World.drewN_drewN _ _ _) (congrArg (World.drewN _) (Nat.add_assoc _ _ _))⟩)) | (go_at_call 14; (with_reducible refine (chanceryref3_In.calls a0 1 31680 true _ A33.out).mono ?_); rintro e w' ⟨rfl, ⟨nd, rfl⟩⟩; (try first | exact ⟨rfl, _, World.drewN_drewN _ _ _⟩ | exact ⟨rfl, _, Eq.trans (World.drewN_drewN _ _ _) (congrArg (World.drewN _) (Nat.add_assoc _ _ _))⟩)) | (go_at_call 14; (with_reducible refine (chanceryref3_In.calls a1 1 31680 t119 _ A35.out).mono ?_); rintro e w' ⟨rfl, ⟨nd, rfl⟩⟩; (try first | exact ⟨rfl, _, World.drewN_drewN _ _ _⟩ | exact ⟨rfl, _, Eq.trans (World.drewN_drewN _ _ _) (congrArg (World.drewN _) (Nat.add_assoc _ _ _))⟩)))
                    repeat (go_quiet (first | (go_at_call 14; (with_reducible refine (chanceryref3_In.calls a2_1 0 31680 true _ A27.out).mono ?_); rintro e w' ⟨rfl, ⟨nd, rfl⟩⟩; (try first | exact ⟨rfl, _, World.drewN_drewN _ _ _⟩ | exact ⟨rfl, _, Eq.trans (World.drewN_drewN _ _ _) (congrArg (World.drewN _) (Nat.add_assoc _ _ _))⟩)) | (go_at_call 14; (with_reducible refine (chanceryref3_In.calls a2_2 0 31680 true _ A29.out).mono ?_); rintro e w' ⟨rfl, ⟨nd, rfl⟩⟩; (try first | exact ⟨rfl, _, World.drewN_drewN _ _ _⟩ | exact ⟨rfl, _, Eq.trans (World.drewN_drewN _ _ _) (congrArg (World.drewN _) (Nat.add_assoc _ _ _))⟩)) | (go_at_call 14; (with_reducible refine (chanceryref3_In.calls a2_3 0 31680 true _ A31.out).mono ?_); rintro e w' ⟨rfl, ⟨nd, rfl⟩⟩; (try first | exact ⟨rfl, _, World.drewN_drewN _ _ _⟩ | exact ⟨rfl, _, Eq.trans (World.drewN_drewN _ _ _) (congrArg (World.drewN _) (Nat.add_assoc _ _ _))⟩)) | (go_at_call 14; (with_reducible refine (chanceryref3_In.calls a0 1 31680 true _ A33.out).mono ?_); rintro e w' ⟨rfl, ⟨nd, rfl⟩⟩; (try first | exact ⟨rfl, _, World.drewN_drewN _ _ _⟩ | exact ⟨rfl, _, Eq.trans (World.drewN_drewN _ _ _) (congrArg (World.drewN _) (Nat.add_assoc _ _ _))⟩)) | (go_at_call 14; (with_reducible refine (chanceryref3_In.calls a1 1 31680 t119 _ A35.out).mono ?_); rintro e w' ⟨rfl, ⟨nd, rfl⟩⟩; (try first | exact ⟨rfl, _, World.drewN_drewN _ _ _⟩ | exact ⟨rfl, _, Eq.trans (World.drewN_drewN _ _ _) (congrArg (World.drewN _) (Nat.add_assoc _ _ _))⟩))); try go_wp2_with (first | (go_at_call 14; (with_reducible refine (chanceryref3_In.calls a2_1 0 31680 true _ A27.out).mono ?_); rintro e w' ⟨rfl, ⟨nd, rfl⟩⟩; (try first | exact ⟨rfl, _, World.drewN_drewN _ _ _⟩ | exact ⟨rfl, _, Eq.trans (World.drewN_drewN _ _ _) (congrArg (World.drewN _) (Nat.add_assoc _ _ _))⟩)) | (go_at_call 14; (with_reducible refine (chanceryref3_In.calls a2_2 0 31680 true _ A29.out).mono ?_); rintro e w' ⟨rfl, ⟨nd, rfl⟩⟩; (try first | exact ⟨rfl, _, World.drewN_drewN _ _ _⟩ | exact ⟨rfl, _, Eq.trans (World.drewN_drewN _ _ _) (congrArg (World.drewN _) (Nat.add_assoc _ _ _))⟩)) | (go_at_call 14; (with_reducible refine (chanceryref3_In.calls a2_3 0 31680 true _ A31.out).mono ?_); rintro e w' ⟨rfl, ⟨nd, rfl⟩⟩; (try first | exact ⟨rfl, _, World.drewN_drewN _ _ _⟩ | exact ⟨rfl, _, Eq.trans (World.drewN_drewN _ _ _) (congrArg (World.drewN _) (Nat.add_assoc _ _ _))⟩)) | (go_at_call 14; (with_reducible refine (chanceryref3_In.calls a0 1 31680 true _ A33.out).mono ?_); rintro e w' ⟨rfl, ⟨nd, rfl⟩⟩; (try first | exact ⟨rfl, _, World.drewN_drewN _ _ _⟩ | exact ⟨rfl, _, Eq.trans (World.drewN_drewN _ _ _) (congrArg (World.drewN _) (Nat.add_assoc _ _ _))⟩)) | (go_at_call 14; (with_reducible refine (chanceryref3_In.calls a1 1 31680 t119 _ A35.out).mono ?_); rintro e w' ⟨rfl, ⟨nd, rfl⟩⟩; (try first | exact ⟨rfl, _, World.drewN_drewN _ _ _⟩ | exact ⟨rfl, _, Eq.trans (World.drewN_drewN _ _ _) (congrArg (World.drewN _) (Nat.add_assoc _ _ _))⟩))))
                    go_meet
                    case rel => exact ⟨_, (!t119), (by first | rfl | (simp; done) | (simp [*]; done)), H', ⟨by have := HJ4.out; first | omega | exact Nat.le_refl _⟩, ⟨by (with_reducible repeat (first | refine blk_drewN ?_ _ | refine blk_drew ?_ | refine blk_alloc ?_ _)); refine blk_far ?_ NB101_113.out _; (with_reducible repeat (first | refine blk_drewN ?_ _ | refine blk_drew ?_ | refine blk_alloc ?_ _)); refine blk_far ?_ NB101_113.out _; (with_reducible repeat (first | refine blk_drewN ?_ _ | refine blk_drew ?_ | refine blk_alloc ?_ _)); refine blk_far ?_ NB101_113.out _; (with_reducible repeat (first | refine blk_drewN ?_ _ | refine blk_drew ?_ | refine blk_alloc ?_ _)); refine blk_far ?_ NB101_113.out _; (with_reducible repeat (first | refine blk_drewN ?_ _ | refine blk_drew ?_ | refine blk_alloc ?_ _)); exact BK101.out⟩, ⟨by (with_reducible repeat (first | refine blk_drewN ?_ _ | refine blk_drew ?_ | refine blk_alloc ?_ _)); refine blk_far ?_ NB107_113.out _; (with_reducible repeat (first | refine blk_drewN ?_ _ | refine blk_drew ?_ | refine blk_alloc ?_ _)); refine blk_far ?_ NB107_113.out _; (with_reducible repeat (first | refine blk_drewN ?_ _ | refine blk_drew ?_ | refine blk_alloc ?_ _)); refine blk_far ?_ NB107_113.out _; (with_reducible repeat (first | refine blk_drewN ?_ _ | refine blk_drew ?_ | refine blk_alloc ?_ _)); refine blk_far ?_ NB107_113.out _; (with_reducible repeat (first | refine blk_drewN ?_ _ | refine blk_drew ?_ | refine blk_alloc ?_ _)); exact BK107.out⟩, ⟨by (with_reducible repeat (first | refine blk_drewN ?_ _ | refine blk_drew ?_ | refine blk_alloc ?_ _)); refine blk_put (cs := #[.int .i64 t108, .int .i64 t109, .int .i64 t110, .int .i64 0]) ?_ 3 _ rfl; (with_reducible repeat (first | refine blk_drewN ?_ _ | refine blk_drew ?_ | refine blk_alloc ?_ _)); refine blk_put (cs := #[.int .i64 t108, .int .i64 t109, .int .i64 0, .int .i64 0]) ?_ 2 _ rfl; (with_reducible repeat (first | refine blk_drewN ?_ _ | refine blk_drew ?_ | refine blk_alloc ?_ _)); refine blk_put (cs := #[.int .i64 t108, .int .i64 0, .int .i64 0, .int .i64 0]) ?_ 1 _ rfl; (with_reducible repeat (first | refine blk_drewN ?_ _ | refine blk_drew ?_ | refine blk_alloc ?_ _)); refine blk_put (cs := #[.int .i64 0, .int .i64 0, .int .i64 0, .int .i64 0]) ?_ 0 _ rfl; (with_reducible repeat (first | refine blk_drewN ?_ _ | refine blk_drew ?_ | refine blk_alloc ?_ _)); exact BK113.out⟩, ⟨by repeat (first | (with_reducible first | exact HB.out | apply below_alloc | apply pw_below_drewN | apply below_drew1 | refine below_set ?_ GE101.out | refine below_set ?_ GE107.out | refine below_set ?_ GE113.out) | exact HB.out)⟩⟩
                  · replace c34 := Bool.eq_false_iff.mpr c34
                    subst c34
                    have H1 : (chancerylaw3_PrintingPlaces.j1 kj4 a0 a1 t112 (wrap64 (a2_2 - a2_0)) (wrap64 (a2_3 - a2_1)) (!false) a2_0 a2_1 a2_2 a2_3 t108 t109 t110 t111) = some r := by rw [if_neg (show ¬ (false = true) by decide)] at H; exact H
                    clear H
                    have H := H1
                    clear H1
                    have H' := Aside0.mk H
                    clear H
                    have hnb39 := NB101_107.out
                    have hnc39 := NB107_101.out
                    have hnb40 := NB101_113.out
                    have hnc40 := NB113_101.out
                    have hcz41_0 : w21.cell? ⟨gb101, 0, none⟩ = some (.int .i64 a2_0) := (blk_cell BK101.out 0).trans rfl
                    have hcz41_1 : w21.cell? ⟨gb101, 1, none⟩ = some (.int .i64 a2_1) := (blk_cell BK101.out 1).trans rfl
                    have hcz41_2 : w21.cell? ⟨gb101, 2, none⟩ = some (.int .i64 a2_2) := (blk_cell BK101.out 2).trans rfl
                    have hcz41_3 : w21.cell? ⟨gb101, 3, none⟩ = some (.int .i64 a2_3) := (blk_cell BK101.out 3).trans rfl
                    have hfz41_0 := blk_frozen BK101.out 0
                    have hfz41_1 := blk_frozen BK101.out 1
                    have hfz41_2 := blk_frozen BK101.out 2
                    have hfz41_3 := blk_frozen BK101.out 3
                    go_wp2_with (first | (go_at_call 14; (with_reducible refine (chanceryref3_In.calls a2_1 0 31680 true _ A27.out).mono ?_); rintro e w' ⟨rfl, ⟨nd, rfl⟩⟩; (try first | exact ⟨rfl, _, World.drewN_drewN _ _ _⟩ | exact ⟨rfl, _, Eq.trans (World.drewN_drewN _ _ _) (congrArg (World.drewN _) (Nat.add_assoc _ _ _))⟩)) | (go_at_call 14; (with_reducible refine (chanceryref3_In.calls a2_2 0 31680 true _ A29.out).mono ?_); rintro e w' ⟨rfl, ⟨nd, rfl⟩⟩; (try first | exact ⟨rfl, _, World.drewN_drewN _ _ _⟩ | exact ⟨rfl, _, Eq.trans (World.drewN_drewN _ _ _) (congrArg (World.drewN _) (Nat.add_assoc _ _ _))⟩)) | (go_at_call 14; (with_reducible refine (chanceryref3_In.calls a2_3 0 31680 true _ A31.out).mono ?_); rintro e w' ⟨rfl, ⟨nd, rfl⟩⟩; (try first | exact ⟨rfl, _, World.drewN_drewN _ _ _⟩ | exact ⟨rfl, _, Eq.trans (World.drewN_drewN _ _ _) (congrArg (World.drewN _) (Nat.add_assoc _ _ _))⟩)) | (go_at_call 14; (with_reducible refine (chanceryref3_In.calls a0 1 31680 false _ A33.out).mono ?_); rintro e w' ⟨rfl, ⟨nd, rfl⟩⟩; (try first | exact ⟨rfl, _, World.drewN_drewN _ _ _⟩ | exact ⟨rfl, _, Eq.trans (World.drewN_drewN _ _ _) (congrArg (World.drewN _) (Nat.add_assoc _ _ _))⟩)))
                    repeat (go_quiet (first | (go_at_call 14; (with_reducible refine (chanceryref3_In.calls a2_1 0 31680 true _ A27.out).mono ?_); rintro e w' ⟨rfl, ⟨nd, rfl⟩⟩; (try first | exact ⟨rfl, _, World.drewN_drewN _ _ _⟩ | exact ⟨rfl, _, Eq.trans (World.drewN_drewN _ _ _) (congrArg (World.drewN _) (Nat.add_assoc _ _ _))⟩)) | (go_at_call 14; (with_reducible refine (chanceryref3_In.calls a2_2 0 31680 true _ A29.out).mono ?_); rintro e w' ⟨rfl, ⟨nd, rfl⟩⟩; (try first | exact ⟨rfl, _, World.drewN_drewN _ _ _⟩ | exact ⟨rfl, _, Eq.trans (World.drewN_drewN _ _ _) (congrArg (World.drewN _) (Nat.add_assoc _ _ _))⟩)) | (go_at_call 14; (with_reducible refine (chanceryref3_In.calls a2_3 0 31680 true _ A31.out).mono ?_); rintro e w' ⟨rfl, ⟨nd, rfl⟩⟩; (try first | exact ⟨rfl, _, World.drewN_drewN _ _ _⟩ | exact ⟨rfl, _, Eq.trans (World.drewN_drewN _ _ _) (congrArg (World.drewN _) (Nat.add_assoc _ _ _))⟩)) | (go_at_call 14; (with_reducible refine (chanceryref3_In.calls a0 1 31680 false _ A33.out).mono ?_); rintro e w' ⟨rfl, ⟨nd, rfl⟩⟩; (try first | exact ⟨rfl, _, World.drewN_drewN _ _ _⟩ | exact ⟨rfl, _, Eq.trans (World.drewN_drewN _ _ _) (congrArg (World.drewN _) (Nat.add_assoc _ _ _))⟩))); try go_wp2_with (first | (go_at_call 14; (with_reducible refine (chanceryref3_In.calls a2_1 0 31680 true _ A27.out).mono ?_); rintro e w' ⟨rfl, ⟨nd, rfl⟩⟩; (try first | exact ⟨rfl, _, World.drewN_drewN _ _ _⟩ | exact ⟨rfl, _, Eq.trans (World.drewN_drewN _ _ _) (congrArg (World.drewN _) (Nat.add_assoc _ _ _))⟩)) | (go_at_call 14; (with_reducible refine (chanceryref3_In.calls a2_2 0 31680 true _ A29.out).mono ?_); rintro e w' ⟨rfl, ⟨nd, rfl⟩⟩; (try first | exact ⟨rfl, _, World.drewN_drewN _ _ _⟩ | exact ⟨rfl, _, Eq.trans (World.drewN_drewN _ _ _) (congrArg (World.drewN _) (Nat.add_assoc _ _ _))⟩)) | (go_at_call 14; (with_reducible refine (chanceryref3_In.calls a2_3 0 31680 true _ A31.out).mono ?_); rintro e w' ⟨rfl, ⟨nd, rfl⟩⟩; (try first | exact ⟨rfl, _, World.drewN_drewN _ _ _⟩ | exact ⟨rfl, _, Eq.trans (World.drewN_drewN _ _ _) (congrArg (World.drewN _) (Nat.add_assoc _ _ _))⟩)) | (go_at_call 14; (with_reducible refine (chanceryref3_In.calls a0 1 31680 false _ A33.out).mono ?_); rintro e w' ⟨rfl, ⟨nd, rfl⟩⟩; (try first | exact ⟨rfl, _, World.drewN_drewN _ _ _⟩ | exact ⟨rfl, _, Eq.trans (World.drewN_drewN _ _ _) (congrArg (World.drewN _) (Nat.add_assoc _ _ _))⟩))))
                    go_meet
                    case rel => exact ⟨_, (!false), (by first | rfl | (simp; done) | (simp [*]; done)), H', ⟨by have := HJ4.out; first | omega | exact Nat.le_refl _⟩, ⟨by (with_reducible repeat (first | refine blk_drewN ?_ _ | refine blk_drew ?_ | refine blk_alloc ?_ _)); refine blk_far ?_ NB101_113.out _; (with_reducible repeat (first | refine blk_drewN ?_ _ | refine blk_drew ?_ | refine blk_alloc ?_ _)); refine blk_far ?_ NB101_113.out _; (with_reducible repeat (first | refine blk_drewN ?_ _ | refine blk_drew ?_ | refine blk_alloc ?_ _)); refine blk_far ?_ NB101_113.out _; (with_reducible repeat (first | refine blk_drewN ?_ _ | refine blk_drew ?_ | refine blk_alloc ?_ _)); refine blk_far ?_ NB101_113.out _; (with_reducible repeat (first | refine blk_drewN ?_ _ | refine blk_drew ?_ | refine blk_alloc ?_ _)); exact BK101.out⟩, ⟨by (with_reducible repeat (first | refine blk_drewN ?_ _ | refine blk_drew ?_ | refine blk_alloc ?_ _)); refine blk_far ?_ NB107_113.out _; (with_reducible repeat (first | refine blk_drewN ?_ _ | refine blk_drew ?_ | refine blk_alloc ?_ _)); refine blk_far ?_ NB107_113.out _; (with_reducible repeat (first | refine blk_drewN ?_ _ | refine blk_drew ?_ | refine blk_alloc ?_ _)); refine blk_far ?_ NB107_113.out _; (with_reducible repeat (first | refine blk_drewN ?_ _ | refine blk_drew ?_ | refine blk_alloc ?_ _)); refine blk_far ?_ NB107_113.out _; (with_reducible repeat (first | refine blk_drewN ?_ _ | refine blk_drew ?_ | refine blk_alloc ?_ _)); exact BK107.out⟩, ⟨by (with_reducible repeat (first | refine blk_drewN ?_ _ | refine blk_drew ?_ | refine blk_alloc ?_ _)); refine blk_put (cs := #[.int .i64 t108, .int .i64 t109, .int .i64 t110, .int .i64 0]) ?_ 3 _ rfl; (with_reducible repeat (first | refine blk_drewN ?_ _ | refine blk_drew ?_ | refine blk_alloc ?_ _)); refine blk_put (cs := #[.int .i64 t108, .int .i64 t109, .int .i64 0, .int .i64 0]) ?_ 2 _ rfl; (with_reducible repeat (first | refine blk_drewN ?_ _ | refine blk_drew ?_ | refine blk_alloc ?_ _)); refine blk_put (cs := #[.int .i64 t108, .int .i64 0, .int .i64 0, .int .i64 0]) ?_ 1 _ rfl; (with_reducible repeat (first | refine blk_drewN ?_ _ | refine blk_drew ?_ | refine blk_alloc ?_ _)); refine blk_put (cs := #[.int .i64 0, .int .i64 0, .int .i64 0, .int .i64 0]) ?_ 0 _ rfl; (with_reducible repeat (first | refine blk_drewN ?_ _ | refine blk_drew ?_ | refine blk_alloc ?_ _)); exact BK113.out⟩, ⟨by repeat (first | (with_reducible first | exact HB.out | apply below_alloc | apply pw_below_drewN | apply below_drew1 | refine below_set ?_ GE101.out | refine below_set ?_ GE107.out | refine below_set ?_ GE113.out) | exact HB.out)⟩⟩
                · replace c32 := Bool.eq_false_iff.mpr c32
                  subst c32
                  have H1 : (chancerylaw3_PrintingPlaces.j1 kj4 a0 a1 t112 (wrap64 (a2_2 - a2_0)) (wrap64 (a2_3 - a2_1)) (!false) a2_0 a2_1 a2_2 a2_3 t108 t109 t110 t111) = some r := by rw [if_neg (show ¬ (false = true) by decide)] at H; exact H
                  clear H
                  have H := H1
                  clear H1
                  have H' := Aside0.mk H
                  clear H
                  have hnb42 := NB101_107.out
                  have hnc42 := NB107_101.out
                  have hnb43 := NB101_113.out
                  have hnc43 := NB113_101.out
                  have hcz44_0 : w21.cell? ⟨gb101, 0, none⟩ = some (.int .i64 a2_0) := (blk_cell BK101.out 0).trans rfl
                  have hcz44_1 : w21.cell? ⟨gb101, 1, none⟩ = some (.int .i64 a2_1) := (blk_cell BK101.out 1).trans rfl
                  have hcz44_2 : w21.cell? ⟨gb101, 2, none⟩ = some (.int .i64 a2_2) := (blk_cell BK101.out 2).trans rfl
                  have hcz44_3 : w21.cell? ⟨gb101, 3, none⟩ = some (.int .i64 a2_3) := (blk_cell BK101.out 3).trans rfl
                  have hfz44_0 := blk_frozen BK101.out 0
                  have hfz44_1 := blk_frozen BK101.out 1
                  have hfz44_2 := blk_frozen BK101.out 2
                  have hfz44_3 := blk_frozen BK101.out 3
                  go_wp2_with (first | (go_at_call 14; (with_reducible refine (chanceryref3_In.calls a2_1 0 31680 true _ A27.out).mono ?_); rintro e w' ⟨rfl, ⟨nd, rfl⟩⟩; (try first | exact ⟨rfl, _, World.drewN_drewN _ _ _⟩ | exact ⟨rfl, _, Eq.trans (World.drewN_drewN _ _ _) (congrArg (World.drewN _) (Nat.add_assoc _ _ _))⟩)) | (go_at_call 14; (with_reducible refine (chanceryref3_In.calls a2_2 0 31680 true _ A29.out).mono ?_); rintro e w' ⟨rfl, ⟨nd, rfl⟩⟩; (try first | exact ⟨rfl, _, World.drewN_drewN _ _ _⟩ | exact ⟨rfl, _, Eq.trans (World.drewN_drewN _ _ _) (congrArg (World.drewN _) (Nat.add_assoc _ _ _))⟩)) | (go_at_call 14; (with_reducible refine (chanceryref3_In.calls a2_3 0 31680 false _ A31.out).mono ?_); rintro e w' ⟨rfl, ⟨nd, rfl⟩⟩; (try first | exact ⟨rfl, _, World.drewN_drewN _ _ _⟩ | exact ⟨rfl, _, Eq.trans (World.drewN_drewN _ _ _) (congrArg (World.drewN _) (Nat.add_assoc _ _ _))⟩)))
                  repeat (go_quiet (first | (go_at_call 14; (with_reducible refine (chanceryref3_In.calls a2_1 0 31680 true _ A27.out).mono ?_); rintro e w' ⟨rfl, ⟨nd, rfl⟩⟩; (try first | exact ⟨rfl, _, World.drewN_drewN _ _ _⟩ | exact ⟨rfl, _, Eq.trans (World.drewN_drewN _ _ _) (congrArg (World.drewN _) (Nat.add_assoc _ _ _))⟩)) | (go_at_call 14; (with_reducible refine (chanceryref3_In.calls a2_2 0 31680 true _ A29.out).mono ?_); rintro e w' ⟨rfl, ⟨nd, rfl⟩⟩; (try first | exact ⟨rfl, _, World.drewN_drewN _ _ _⟩ | exact ⟨rfl, _, Eq.trans (World.drewN_drewN _ _ _) (congrArg (World.drewN _) (Nat.add_assoc _ _ _))⟩)) | (go_at_call 14; (with_reducible refine (chanceryref3_In.calls a2_3 0 31680 false _ A31.out).mono ?_); rintro e w' ⟨rfl, ⟨nd, rfl⟩⟩; (try first | exact ⟨rfl, _, World.drewN_drewN _ _ _⟩ | exact ⟨rfl, _, Eq.trans (World.drewN_drewN _ _ _) (congrArg (World.drewN _) (Nat.add_assoc _ _ _))⟩))); try go_wp2_with (first | (go_at_call 14; (with_reducible refine (chanceryref3_In.calls a2_1 0 31680 true _ A27.out).mono ?_); rintro e w' ⟨rfl, ⟨nd, rfl⟩⟩; (try first | exact ⟨rfl, _, World.drewN_drewN _ _ _⟩ | exact ⟨rfl, _, Eq.trans (World.drewN_drewN _ _ _) (congrArg (World.drewN _) (Nat.add_assoc _ _ _))⟩)) | (go_at_call 14; (with_reducible refine (chanceryref3_In.calls a2_2 0 31680 true _ A29.out).mono ?_); rintro e w' ⟨rfl, ⟨nd, rfl⟩⟩; (try first | exact ⟨rfl, _, World.drewN_drewN _ _ _⟩ | exact ⟨rfl, _, Eq.trans (World.drewN_drewN _ _ _) (congrArg (World.drewN _) (Nat.add_assoc _ _ _))⟩)) | (go_at_call 14; (with_reducible refine (chanceryref3_In.calls a2_3 0 31680 false _ A31.out).mono ?_); rintro e w' ⟨rfl, ⟨nd, rfl⟩⟩; (try first | exact ⟨rfl, _, World.drewN_drewN _ _ _⟩ | exact ⟨rfl, _, Eq.trans (World.drewN_drewN _ _ _) (congrArg (World.drewN _) (Nat.add_assoc _ _ _))⟩))))
                  go_meet
                  case rel => exact ⟨_, (!false), (by first | rfl | (simp; done) | (simp [*]; done)), H', ⟨by have := HJ4.out; first | omega | exact Nat.le_refl _⟩, ⟨by (with_reducible repeat (first | refine blk_drewN ?_ _ | refine blk_drew ?_ | refine blk_alloc ?_ _)); refine blk_far ?_ NB101_113.out _; (with_reducible repeat (first | refine blk_drewN ?_ _ | refine blk_drew ?_ | refine blk_alloc ?_ _)); refine blk_far ?_ NB101_113.out _; (with_reducible repeat (first | refine blk_drewN ?_ _ | refine blk_drew ?_ | refine blk_alloc ?_ _)); refine blk_far ?_ NB101_113.out _; (with_reducible repeat (first | refine blk_drewN ?_ _ | refine blk_drew ?_ | refine blk_alloc ?_ _)); refine blk_far ?_ NB101_113.out _; (with_reducible repeat (first | refine blk_drewN ?_ _ | refine blk_drew ?_ | refine blk_alloc ?_ _)); exact BK101.out⟩, ⟨by (with_reducible repeat (first | refine blk_drewN ?_ _ | refine blk_drew ?_ | refine blk_alloc ?_ _)); refine blk_far ?_ NB107_113.out _; (with_reducible repeat (first | refine blk_drewN ?_ _ | refine blk_drew ?_ | refine blk_alloc ?_ _)); refine blk_far ?_ NB107_113.out _; (with_reducible repeat (first | refine blk_drewN ?_ _ | refine blk_drew ?_ | refine blk_alloc ?_ _)); refine blk_far ?_ NB107_113.out _; (with_reducible repeat (first | refine blk_drewN ?_ _ | refine blk_drew ?_ | refine blk_alloc ?_ _)); refine blk_far ?_ NB107_113.out _; (with_reducible repeat (first | refine blk_drewN ?_ _ | refine blk_drew ?_ | refine blk_alloc ?_ _)); exact BK107.out⟩, ⟨by (with_reducible repeat (first | refine blk_drewN ?_ _ | refine blk_drew ?_ | refine blk_alloc ?_ _)); refine blk_put (cs := #[.int .i64 t108, .int .i64 t109, .int .i64 t110, .int .i64 0]) ?_ 3 _ rfl; (with_reducible repeat (first | refine blk_drewN ?_ _ | refine blk_drew ?_ | refine blk_alloc ?_ _)); refine blk_put (cs := #[.int .i64 t108, .int .i64 t109, .int .i64 0, .int .i64 0]) ?_ 2 _ rfl; (with_reducible repeat (first | refine blk_drewN ?_ _ | refine blk_drew ?_ | refine blk_alloc ?_ _)); refine blk_put (cs := #[.int .i64 t108, .int .i64 0, .int .i64 0, .int .i64 0]) ?_ 1 _ rfl; (with_reducible repeat (first | refine blk_drewN ?_ _ | refine blk_drew ?_ | refine blk_alloc ?_ _)); refine blk_put (cs := #[.int .i64 0, .int .i64 0, .int .i64 0, .int .i64 0]) ?_ 0 _ rfl; (with_reducible repeat (first | refine blk_drewN ?_ _ | refine blk_drew ?_ | refine blk_alloc ?_ _)); exact BK113.out⟩, ⟨by repeat (first | (with_reducible first | exact HB.out | apply below_alloc | apply pw_below_drewN | apply below_drew1 | refine below_set ?_ GE101.out | refine below_set ?_ GE107.out | refine below_set ?_ GE113.out) | exact HB.out)⟩⟩
              · replace c30 := Bool.eq_false_iff.mpr c30
                subst c30
                have H1 : (chancerylaw3_PrintingPlaces.j1 kj4 a0 a1 t112 (wrap64 (a2_2 - a2_0)) (wrap64 (a2_3 - a2_1)) (!false) a2_0 a2_1 a2_2 a2_3 t108 t109 t110 t111) = some r := by rw [if_neg (show ¬ (false = true) by decide)] at H; exact H
                clear H
                have H := H1
                clear H1
                have H' := Aside0.mk H
                clear H
                have hnb45 := NB101_107.out
                have hnc45 := NB107_101.out
                have hnb46 := NB101_113.out
                have hnc46 := NB113_101.out
                have hcz47_0 : w21.cell? ⟨gb101, 0, none⟩ = some (.int .i64 a2_0) := (blk_cell BK101.out 0).trans rfl
                have hcz47_1 : w21.cell? ⟨gb101, 1, none⟩ = some (.int .i64 a2_1) := (blk_cell BK101.out 1).trans rfl
                have hcz47_2 : w21.cell? ⟨gb101, 2, none⟩ = some (.int .i64 a2_2) := (blk_cell BK101.out 2).trans rfl
                have hcz47_3 : w21.cell? ⟨gb101, 3, none⟩ = some (.int .i64 a2_3) := (blk_cell BK101.out 3).trans rfl
                have hfz47_0 := blk_frozen BK101.out 0
                have hfz47_1 := blk_frozen BK101.out 1
                have hfz47_2 := blk_frozen BK101.out 2
                have hfz47_3 := blk_frozen BK101.out 3
                go_wp2_with (first | (go_at_call 14; (with_reducible refine (chanceryref3_In.calls a2_1 0 31680 true _ A27.out).mono ?_); rintro e w' ⟨rfl, ⟨nd, rfl⟩⟩; (try first | exact ⟨rfl, _, World.drewN_drewN _ _ _⟩ | exact ⟨rfl, _, Eq.trans (World.drewN_drewN _ _ _) (congrArg (World.drewN _) (Nat.add_assoc _ _ _))⟩)) | (go_at_call 14; (with_reducible refine (chanceryref3_In.calls a2_2 0 31680 false _ A29.out).mono ?_); rintro e w' ⟨rfl, ⟨nd, rfl⟩⟩; (try first | exact ⟨rfl, _, World.drewN_drewN _ _ _⟩ | exact ⟨rfl, _, Eq.trans (World.drewN_drewN _ _ _) (congrArg (World.drewN _) (Nat.add_assoc _ _ _))⟩)))
                repeat (go_quiet (first | (go_at_call 14; (with_reducible refine (chanceryref3_In.calls a2_1 0 31680 true _ A27.out).mono ?_); rintro e w' ⟨rfl, ⟨nd, rfl⟩⟩; (try first | exact ⟨rfl, _, World.drewN_drewN _ _ _⟩ | exact ⟨rfl, _, Eq.trans (World.drewN_drewN _ _ _) (congrArg (World.drewN _) (Nat.add_assoc _ _ _))⟩)) | (go_at_call 14; (with_reducible refine (chanceryref3_In.calls a2_2 0 31680 false _ A29.out).mono ?_); rintro e w' ⟨rfl, ⟨nd, rfl⟩⟩; (try first | exact ⟨rfl, _, World.drewN_drewN _ _ _⟩ | exact ⟨rfl, _, Eq.trans (World.drewN_drewN _ _ _) (congrArg (World.drewN _) (Nat.add_assoc _ _ _))⟩))); try go_wp2_with (first | (go_at_call 14; (with_reducible refine (chanceryref3_In.calls a2_1 0 31680 true _ A27.out).mono ?_); rintro e w' ⟨rfl, ⟨nd, rfl⟩⟩; (try first | exact ⟨rfl, _, World.drewN_drewN _ _ _⟩ | exact ⟨rfl, _, Eq.trans (World.drewN_drewN _ _ _) (congrArg (World.drewN _) (Nat.add_assoc _ _ _))⟩)) | (go_at_call 14; (with_reducible refine (chanceryref3_In.calls a2_2 0 31680 false _ A29.out).mono ?_); rintro e w' ⟨rfl, ⟨nd, rfl⟩⟩; (try first | exact ⟨rfl, _, World.drewN_drewN _ _ _⟩ | exact ⟨rfl, _, Eq.trans (World.drewN_drewN _ _ _) (congrArg (World.drewN _) (Nat.add_assoc _ _ _))⟩))))
                go_meet
                case rel => exact ⟨_, (!false), (by first | rfl | (simp; done) | (simp [*]; done)), H', ⟨by have := HJ4.out; first | omega | exact Nat.le_refl _⟩, ⟨by (with_reducible repeat (first | refine blk_drewN ?_ _ | refine blk_drew ?_ | refine blk_alloc ?_ _)); refine blk_far ?_ NB101_113.out _; (with_reducible repeat (first | refine blk_drewN ?_ _ | refine blk_drew ?_ | refine blk_alloc ?_ _)); refine blk_far ?_ NB101_113.out _; (with_reducible repeat (first | refine blk_drewN ?_ _ | refine blk_drew ?_ | refine blk_alloc ?_ _)); refine blk_far ?_ NB101_113.out _; (with_reducible repeat (first | refine blk_drewN ?_ _ | refine blk_drew ?_ | refine blk_alloc ?_ _)); refine blk_far ?_ NB101_113.out _; (with_reducible repeat (first | refine blk_drewN ?_ _ | refine blk_drew ?_ | refine blk_alloc ?_ _)); exact BK101.out⟩, ⟨by (with_reducible repeat (first | refine blk_drewN ?_ _ | refine blk_drew ?_ | refine blk_alloc ?_ _)); refine blk_far ?_ NB107_113.out _; (with_reducible repeat (first | refine blk_drewN ?_ _ | refine blk_drew ?_ | refine blk_alloc ?_ _)); refine blk_far ?_ NB107_113.out _; (with_reducible repeat (first | refine blk_drewN ?_ _ | refine blk_drew ?_ | refine blk_alloc ?_ _)); refine blk_far ?_ NB107_113.out _; (with_reducible repeat (first | refine blk_drewN ?_ _ | refine blk_drew ?_ | refine blk_alloc ?_ _)); refine blk_far ?_ NB107_113.out _; (with_reducible repeat (first | refine blk_drewN ?_ _ | refine blk_drew ?_ | refine blk_alloc ?_ _)); exact BK107.out⟩, ⟨by (with_reducible repeat (first | refine blk_drewN ?_ _ | refine blk_drew ?_ | refine blk_alloc ?_ _)); refine blk_put (cs := #[.int .i64 t108, .int .i64 t109, .int .i64 t110, .int .i64 0]) ?_ 3 _ rfl; (with_reducible repeat (first | refine blk_drewN ?_ _ | refine blk_drew ?_ | refine blk_alloc ?_ _)); refine blk_put (cs := #[.int .i64 t108, .int .i64 t109, .int .i64 0, .int .i64 0]) ?_ 2 _ rfl; (with_reducible repeat (first | refine blk_drewN ?_ _ | refine blk_drew ?_ | refine blk_alloc ?_ _)); refine blk_put (cs := #[.int .i64 t108, .int .i64 0, .int .i64 0, .int .i64 0]) ?_ 1 _ rfl; (with_reducible repeat (first | refine blk_drewN ?_ _ | refine blk_drew ?_ | refine blk_alloc ?_ _)); refine blk_put (cs := #[.int .i64 0, .int .i64 0, .int .i64 0, .int .i64 0]) ?_ 0 _ rfl; (with_reducible repeat (first | refine blk_drewN ?_ _ | refine blk_drew ?_ | refine blk_alloc ?_ _)); exact BK113.out⟩, ⟨by repeat (first | (with_reducible first | exact HB.out | apply below_alloc | apply pw_below_drewN | apply below_drew1 | refine below_set ?_ GE101.out | refine below_set ?_ GE107.out | refine below_set ?_ GE113.out) | exact HB.out)⟩⟩
            · replace c28 := Bool.eq_false_iff.mpr c28
              subst c28
              have H1 : (chancerylaw3_PrintingPlaces.j1 kj4 a0 a1 t112 (wrap64 (a2_2 - a2_0)) (wrap64 (a2_3 - a2_1)) (!false) a2_0 a2_1 a2_2 a2_3 t108 t109 t110 t111) = some r := by rw [if_neg (show ¬ (false = true) by decide)] at H; exact H
              clear H
              have H := H1
              clear H1
              have H' := Aside0.mk H
              clear H
              have hnb48 := NB101_107.out
              have hnc48 := NB107_101.out
              have hnb49 := NB101_113.out
              have hnc49 := NB113_101.out
              have hcz50_0 : w21.cell? ⟨gb101, 0, none⟩ = some (.int .i64 a2_0) := (blk_cell BK101.out 0).trans rfl
              have hcz50_1 : w21.cell? ⟨gb101, 1, none⟩ = some (.int .i64 a2_1) := (blk_cell BK101.out 1).trans rfl
              have hcz50_2 : w21.cell? ⟨gb101, 2, none⟩ = some (.int .i64 a2_2) := (blk_cell BK101.out 2).trans rfl
              have hcz50_3 : w21.cell? ⟨gb101, 3, none⟩ = some (.int .i64 a2_3) := (blk_cell BK101.out 3).trans rfl
              have hfz50_0 := blk_frozen BK101.out 0
              have hfz50_1 := blk_frozen BK101.out 1
              have hfz50_2 := blk_frozen BK101.out 2
              have hfz50_3 := blk_frozen BK101.out 3
              go_wp2_with (first | (go_at_call 14; (with_reducible refine (chanceryref3_In.calls a2_1 0 31680 false _ A27.out).mono ?_); rintro e w' ⟨rfl, ⟨nd, rfl⟩⟩; (try first | exact ⟨rfl, _, World.drewN_drewN _ _ _⟩ | exact ⟨rfl, _, Eq.trans (World.drewN_drewN _ _ _) (congrArg (World.drewN _) (Nat.add_assoc _ _ _))⟩)))
              repeat (go_quiet (first | (go_at_call 14; (with_reducible refine (chanceryref3_In.calls a2_1 0 31680 false _ A27.out).mono ?_); rintro e w' ⟨rfl, ⟨nd, rfl⟩⟩; (try first | exact ⟨rfl, _, World.drewN_drewN _ _ _⟩ | exact ⟨rfl, _, Eq.trans (World.drewN_drewN _ _ _) (congrArg (World.drewN _) (Nat.add_assoc _ _ _))⟩))); try go_wp2_with (first | (go_at_call 14; (with_reducible refine (chanceryref3_In.calls a2_1 0 31680 false _ A27.out).mono ?_); rintro e w' ⟨rfl, ⟨nd, rfl⟩⟩; (try first | exact ⟨rfl, _, World.drewN_drewN _ _ _⟩ | exact ⟨rfl, _, Eq.trans (World.drewN_drewN _ _ _) (congrArg (World.drewN _) (Nat.add_assoc _ _ _))⟩))))
              go_meet
              case rel => exact ⟨_, (!false), (by first | rfl | (simp; done) | (simp [*]; done)), H', ⟨by have := HJ4.out; first | omega | exact Nat.le_refl _⟩, ⟨by (with_reducible repeat (first | refine blk_drewN ?_ _ | refine blk_drew ?_ | refine blk_alloc ?_ _)); refine blk_far ?_ NB101_113.out _; (with_reducible repeat (first | refine blk_drewN ?_ _ | refine blk_drew ?_ | refine blk_alloc ?_ _)); refine blk_far ?_ NB101_113.out _; (with_reducible repeat (first | refine blk_drewN ?_ _ | refine blk_drew ?_ | refine blk_alloc ?_ _)); refine blk_far ?_ NB101_113.out _; (with_reducible repeat (first | refine blk_drewN ?_ _ | refine blk_drew ?_ | refine blk_alloc ?_ _)); refine blk_far ?_ NB101_113.out _; (with_reducible repeat (first | refine blk_drewN ?_ _ | refine blk_drew ?_ | refine blk_alloc ?_ _)); exact BK101.out⟩, ⟨by (with_reducible repeat (first | refine blk_drewN ?_ _ | refine blk_drew ?_ | refine blk_alloc ?_ _)); refine blk_far ?_ NB107_113.out _; (with_reducible repeat (first | refine blk_drewN ?_ _ | refine blk_drew ?_ | refine blk_alloc ?_ _)); refine blk_far ?_ NB107_113.out _; (with_reducible repeat (first | refine blk_drewN ?_ _ | refine blk_drew ?_ | refine blk_alloc ?_ _)); refine blk_far ?_ NB107_113.out _; (with_reducible repeat (first | refine blk_drewN ?_ _ | refine blk_drew ?_ | refine blk_alloc ?_ _)); refine blk_far ?_ NB107_113.out _; (with_reducible repeat (first | refine blk_drewN ?_ _ | refine blk_drew ?_ | refine blk_alloc ?_ _)); exact BK107.out⟩, ⟨by (with_reducible repeat (first | refine blk_drewN ?_ _ | refine blk_drew ?_ | refine blk_alloc ?_ _)); refine blk_put (cs := #[.int .i64 t108, .int .i64 t109, .int .i64 t110, .int .i64 0]) ?_ 3 _ rfl; (with_reducible repeat (first | refine blk_drewN ?_ _ | refine blk_drew ?_ | refine blk_alloc ?_ _)); refine blk_put (cs := #[.int .i64 t108, .int .i64 t109, .int .i64 0, .int .i64 0]) ?_ 2 _ rfl; (with_reducible repeat (first | refine blk_drewN ?_ _ | refine blk_drew ?_ | refine blk_alloc ?_ _)); refine blk_put (cs := #[.int .i64 t108, .int .i64 0, .int .i64 0, .int .i64 0]) ?_ 1 _ rfl; (with_reducible repeat (first | refine blk_drewN ?_ _ | refine blk_drew ?_ | refine blk_alloc ?_ _)); refine blk_put (cs := #[.int .i64 0, .int .i64 0, .int .i64 0, .int .i64 0]) ?_ 0 _ rfl; (with_reducible repeat (first | refine blk_drewN ?_ _ | refine blk_drew ?_ | refine blk_alloc ?_ _)); exact BK113.out⟩, ⟨by repeat (first | (with_reducible first | exact HB.out | apply below_alloc | apply pw_below_drewN | apply below_drew1 | refine below_set ?_ GE101.out | refine below_set ?_ GE107.out | refine below_set ?_ GE113.out) | exact HB.out)⟩⟩
          · replace c26 := Bool.eq_false_iff.mpr c26
            subst c26
            have H1 : (chancerylaw3_PrintingPlaces.j1 kj4 a0 a1 t112 (wrap64 (a2_2 - a2_0)) (wrap64 (a2_3 - a2_1)) (!false) a2_0 a2_1 a2_2 a2_3 t108 t109 t110 t111) = some r := by rw [if_neg (show ¬ (false = true) by decide)] at H; exact H
            clear H
            have H := H1
            clear H1
            have H' := Aside0.mk H
            clear H
            go_wp2
            repeat (go_quiet (fail); try go_wp2)
            go_meet
            case rel => exact ⟨_, (!false), (by first | rfl | (simp; done) | (simp [*]; done)), H', ⟨by have := HJ4.out; first | omega | exact Nat.le_refl _⟩, ⟨by (with_reducible repeat (first | refine blk_drewN ?_ _ | refine blk_drew ?_ | refine blk_alloc ?_ _)); refine blk_far ?_ NB101_113.out _; (with_reducible repeat (first | refine blk_drewN ?_ _ | refine blk_drew ?_ | refine blk_alloc ?_ _)); refine blk_far ?_ NB101_113.out _; (with_reducible repeat (first | refine blk_drewN ?_ _ | refine blk_drew ?_ | refine blk_alloc ?_ _)); refine blk_far ?_ NB101_113.out _; (with_reducible repeat (first | refine blk_drewN ?_ _ | refine blk_drew ?_ | refine blk_alloc ?_ _)); refine blk_far ?_ NB101_113.out _; (with_reducible repeat (first | refine blk_drewN ?_ _ | refine blk_drew ?_ | refine blk_alloc ?_ _)); exact BK101.out⟩, ⟨by (with_reducible repeat (first | refine blk_drewN ?_ _ | refine blk_drew ?_ | refine blk_alloc ?_ _)); refine blk_far ?_ NB107_113.out _; (with_reducible repeat (first | refine blk_drewN ?_ _ | refine blk_drew ?_ | refine blk_alloc ?_ _)); refine blk_far ?_ NB107_113.out _; (with_reducible repeat (first | refine blk_drewN ?_ _ | refine blk_drew ?_ | refine blk_alloc ?_ _)); refine blk_far ?_ NB107_113.out _; (with_reducible repeat (first | refine blk_drewN ?_ _ | refine blk_drew ?_ | refine blk_alloc ?_ _)); refine blk_far ?_ NB107_113.out _; (with_reducible repeat (first | refine blk_drewN ?_ _ | refine blk_drew ?_ | refine blk_alloc ?_ _)); exact BK107.out⟩, ⟨by (with_reducible repeat (first | refine blk_drewN ?_ _ | refine blk_drew ?_ | refine blk_alloc ?_ _)); refine blk_put (cs := #[.int .i64 t108, .int .i64 t109, .int .i64 t110, .int .i64 0]) ?_ 3 _ rfl; (with_reducible repeat (first | refine blk_drewN ?_ _ | refine blk_drew ?_ | refine blk_alloc ?_ _)); refine blk_put (cs := #[.int .i64 t108, .int .i64 t109, .int .i64 0, .int .i64 0]) ?_ 2 _ rfl; (with_reducible repeat (first | refine blk_drewN ?_ _ | refine blk_drew ?_ | refine blk_alloc ?_ _)); refine blk_put (cs := #[.int .i64 t108, .int .i64 0, .int .i64 0, .int .i64 0]) ?_ 1 _ rfl; (with_reducible repeat (first | refine blk_drewN ?_ _ | refine blk_drew ?_ | refine blk_alloc ?_ _)); refine blk_put (cs := #[.int .i64 0, .int .i64 0, .int .i64 0, .int .i64 0]) ?_ 0 _ rfl; (with_reducible repeat (first | refine blk_drewN ?_ _ | refine blk_drew ?_ | refine blk_alloc ?_ _)); exact BK113.out⟩, ⟨by repeat (first | (with_reducible first | exact HB.out | apply below_alloc | apply pw_below_drewN | apply below_drew1 | refine below_set ?_ GE101.out | refine below_set ?_ GE107.out | refine below_set ?_ GE113.out) | exact HB.out)⟩⟩
        case rest =>
          clear HC17
          try clear c1
          try clear c2
          try clear p2
          try clear c3
          try clear c4
          try clear p6
          try clear c9
          try clear c11
          try clear c11b0
          try clear c11b1
          try clear c12
          try clear c14
          try clear c18
          try clear c22
          try clear c23
          try clear c26
          try clear c28
          try clear c30
          try clear c32
          try clear c34
          try clear c36
          try clear c37
          try clear c39
          try clear c40
          try clear c42
          try clear c43
          try clear c45
          try clear c46
          try clear c48
          try clear c49
          try clear hcz10_0
          try clear hcz10_1
          try clear hcz10_2
          try clear hcz10_3
          try clear hcz13_0
          try clear hcz13_1
          try clear hcz13_2
          try clear hcz13_3
          try clear hcz19_0
          try clear hcz19_1
          try clear hcz19_2
          try clear hcz19_3
          try clear hcz24_0
          try clear hcz24_1
          try clear hcz24_2
          try clear hcz24_3
          try clear hcz25_0
          try clear hcz25_1
          try clear hcz25_2
          try clear hcz25_3
          try clear hcz38_0
          try clear hcz38_1
          try clear hcz38_2
          try clear hcz38_3
          try clear hcz41_0
          try clear hcz41_1
          try clear hcz41_2
          try clear hcz41_3
          try clear hcz44_0
          try clear hcz44_1
          try clear hcz44_2
          try clear hcz44_3
          try clear hcz47_0
          try clear hcz47_1
          try clear hcz47_2
          try clear hcz47_3
          try clear hcz50_0
          try clear hcz50_1
          try clear hcz50_2
          try clear hcz50_3
          try clear hfz10_0
          try clear hfz10_1
          try clear hfz10_2
          try clear hfz10_3
          try clear hfz13_0
          try clear hfz13_1
          try clear hfz13_2
          try clear hfz13_3
          try clear hfz19_0
          try clear hfz19_1
          try clear hfz19_2
          try clear hfz19_3
          try clear hfz24_0
          try clear hfz24_1
          try clear hfz24_2
          try clear hfz24_3
          try clear hfz25_0
          try clear hfz25_1
          try clear hfz25_2
          try clear hfz25_3
          try clear hfz38_0
          try clear hfz38_1
          try clear hfz38_2
          try clear hfz38_3
          try clear hfz41_0
          try clear hfz41_1
          try clear hfz41_2
          try clear hfz41_3
          try clear hfz44_0
          try clear hfz44_1
          try clear hfz44_2
          try clear hfz44_3
          try clear hfz47_0
          try clear hfz47_1
          try clear hfz47_2
          try clear hfz47_3
          try clear hfz50_0
          try clear hfz50_1
          try clear hfz50_2
          try clear hfz50_3
          try clear p2
          obtain ⟨kq, x46_16, rfl, HA, HJ16, BK101, BK107, BK113, HB⟩ := hcut
          cases kq with
          | zero => exact absurd HA.out (by simp [chancerylaw3_PrintingPlaces.j1])
          | succ kj16 =>
            have H := HA.out
            clear HA
            simp only [chancerylaw3_PrintingPlaces.j1] at H
            by_cases c51 : x46_16 = true
            · subst c51
              have H1 : (if t112 = 2 then (some (t108 == 0 && (t109 == 0 && (t110 == 0 && (t111 == 0))))) else (some false)) = some r := by rw [if_pos rfl] at H; exact H
              clear H
              have H := H1
              clear H1
              by_cases c52 : t112 = 2
              · rw [if_pos c52] at H
                have c52b0 : (t112 == 2) = true := beq_iff_eq.mpr c52
                have c52b1 : (t112 != 2) = false := bne_eq_false_iff_eq.mpr c52
                clear c52
                obtain rfl := Option.some.inj H
                have hnb53 := NB113_101.out
                have hnc53 := NB101_113.out
                have hnb54 := NB113_107.out
                have hnc54 := NB107_113.out
                have hcz55_0 : wc.cell? ⟨gb113, 0, none⟩ = some (.int .i64 t108) := (blk_cell BK113.out 0).trans rfl
                have hcz55_1 : wc.cell? ⟨gb113, 1, none⟩ = some (.int .i64 t109) := (blk_cell BK113.out 1).trans rfl
                have hcz55_2 : wc.cell? ⟨gb113, 2, none⟩ = some (.int .i64 t110) := (blk_cell BK113.out 2).trans rfl
                have hcz55_3 : wc.cell? ⟨gb113, 3, none⟩ = some (.int .i64 t111) := (blk_cell BK113.out 3).trans rfl
                have hfz55_0 := blk_frozen BK113.out 0
                have hfz55_1 := blk_frozen BK113.out 1
                have hfz55_2 := blk_frozen BK113.out 2
                have hfz55_3 := blk_frozen BK113.out 3
                go_wp2
                repeat (go_quiet (fail); try go_wp2)
                go_ret
                exact ⟨by first | rfl | (simp [errW_none, errW_some] <;> rfl) | (simp [*, errW_none, errW_some] <;> rfl), by repeat (first | (with_reducible first | exact HB.out | apply below_alloc | apply pw_below_drewN | apply below_drew1 | refine below_set ?_ GE101.out | refine below_set ?_ GE107.out | refine below_set ?_ GE113.out) | exact HB.out)⟩
              · rw [if_neg c52] at H
                have c52b0 : (t112 == 2) = false := beq_eq_false_iff_ne.mpr c52
                have c52b1 : (t112 != 2) = true := bne_iff_ne.mpr c52
                obtain rfl := Option.some.inj H
                go_wp2
                repeat (go_quiet (fail); try go_wp2)
                go_ret
                exact ⟨by first | rfl | (simp [errW_none, errW_some] <;> rfl) | (simp [*, errW_none, errW_some] <;> rfl), by repeat (first | (with_reducible first | exact HB.out | apply below_alloc | apply pw_below_drewN | apply below_drew1 | refine below_set ?_ GE101.out | refine below_set ?_ GE107.out | refine below_set ?_ GE113.out) | exact HB.out)⟩
            · replace c51 := Bool.eq_false_iff.mpr c51
              subst c51
              have H1 : (if (wrap64 (a2_2 - a2_0)) < 1 then (if t112 = 5 then (some (t108 == 0 && (t109 == 0 && (t110 == 0 && (t111 == 0))))) else (some false)) else (if (wrap64 (a2_3 - a2_1)) < 1 then (if t112 = 5 then (some (t108 == 0 && (t109 == 0 && (t110 == 0 && (t111 == 0))))) else (some false)) else (if (wrap64 (a2_2 - a2_0)) < a0 then (chancerylaw3_PrintingPlaces.j2 kj16 a0 a1 t112 (wrap64 (a2_2 - a2_0)) (wrap64 (a2_3 - a2_1)) a0 a1 true a2_0 a2_1 a2_2 a2_3 t108 t109 t110 t111) else (chancerylaw3_PrintingPlaces.j2 kj16 a0 a1 t112 (wrap64 (a2_2 - a2_0)) (wrap64 (a2_3 - a2_1)) a0 a1 (decide ((wrap64 (a2_3 - a2_1)) < a1)) a2_0 a2_1 a2_2 a2_3 t108 t109 t110 t111)))) = some r := by rw [if_neg (show ¬ (false = true) by decide)] at H; exact H
              clear H
              have H := H1
              clear H1
              by_cases c56 : (wrap64 (a2_2 - a2_0)) < 1
              · rw [if_pos c56] at H
                have c56b0 : decide ((wrap64 (a2_2 - a2_0)) < 1) = true := decide_eq_true c56
                clear c56
                by_cases c57 : t112 = 5
                · rw [if_pos c57] at H
                  have c57b0 : (t112 == 5) = true := beq_iff_eq.mpr c57
                  have c57b1 : (t112 != 5) = false := bne_eq_false_iff_eq.mpr c57
                  clear c57
                  obtain rfl := Option.some.inj H
                  have hnb58 := NB113_101.out
                  have hnc58 := NB101_113.out
                  have hnb59 := NB113_107.out
                  have hnc59 := NB107_113.out
                  have hcz60_0 : wc.cell? ⟨gb113, 0, none⟩ = some (.int .i64 t108) := (blk_cell BK113.out 0).trans rfl
                  have hcz60_1 : wc.cell? ⟨gb113, 1, none⟩ = some (.int .i64 t109) := (blk_cell BK113.out 1).trans rfl
                  have hcz60_2 : wc.cell? ⟨gb113, 2, none⟩ = some (.int .i64 t110) := (blk_cell BK113.out 2).trans rfl
                  have hcz60_3 : wc.cell? ⟨gb113, 3, none⟩ = some (.int .i64 t111) := (blk_cell BK113.out 3).trans rfl
                  have hfz60_0 := blk_frozen BK113.out 0
                  have hfz60_1 := blk_frozen BK113.out 1
                  have hfz60_2 := blk_frozen BK113.out 2
                  have hfz60_3 := blk_frozen BK113.out 3
                  go_wp2
                  repeat (go_quiet (fail); try go_wp2)
                  go_ret
                  exact ⟨by first | rfl | (simp [errW_none, errW_some] <;> rfl) | (simp [*, errW_none, errW_some] <;> rfl), by repeat (first | (with_reducible first | exact HB.out | apply below_alloc | apply pw_below_drewN | apply below_drew1 | refine below_set ?_ GE101.out | refine below_set ?_ GE107.out | refine below_set ?_ GE113.out) | exact HB.out)⟩
                · rw [if_neg c57] at H
                  have c57b0 : (t112 == 5) = false := beq_eq_false_iff_ne.mpr c57
                  have c57b1 : (t112 != 5) = true := bne_iff_ne.mpr c57
                  obtain rfl := Option.some.inj H
                  go_wp2
                  repeat (go_quiet (fail); try go_wp2)
                  go_ret
                  exact ⟨by first | rfl | (simp [errW_none, errW_some] <;> rfl) | (simp [*, errW_none, errW_some] <;> rfl), by repeat (first | (with_reducible first | exact HB.out | apply below_alloc | apply pw_below_drewN | apply below_drew1 | refine below_set ?_ GE101.out | refine below_set ?_ GE107.out | refine below_set ?_ GE113.out) | exact HB.out)⟩
              · rw [if_neg c56] at H
                have c56b0 : decide ((wrap64 (a2_2 - a2_0)) < 1) = false := decide_eq_false c56
                clear c56
                by_cases c61 : (wrap64 (a2_3 - a2_1)) < 1
                · rw [if_pos c61] at H
                  have c61b0 : decide ((wrap64 (a2_3 - a2_1)) < 1) = true := decide_eq_true c61
                  clear c61
                  by_cases c62 : t112 = 5
                  · rw [if_pos c62] at H
                    have c62b0 : (t112 == 5) = true := beq_iff_eq.mpr c62
                    have c62b1 : (t112 != 5) = false := bne_eq_false_iff_eq.mpr c62
                    clear c62
                    obtain rfl := Option.some.inj H
                    have hnb63 := NB113_101.out
                    have hnc63 := NB101_113.out
                    have hnb64 := NB113_107.out
                    have hnc64 := NB107_113.out
                    have hcz65_0 : wc.cell? ⟨gb113, 0, none⟩ = some (.int .i64 t108) := (blk_cell BK113.out 0).trans rfl
                    have hcz65_1 : wc.cell? ⟨gb113, 1, none⟩ = some (.int .i64 t109) := (blk_cell BK113.out 1).trans rfl
                    have hcz65_2 : wc.cell? ⟨gb113, 2, none⟩ = some (.int .i64 t110) := (blk_cell BK113.out 2).trans rfl
                    have hcz65_3 : wc.cell? ⟨gb113, 3, none⟩ = some (.int .i64 t111) := (blk_cell BK113.out 3).trans rfl
                    have hfz65_0 := blk_frozen BK113.out 0
                    have hfz65_1 := blk_frozen BK113.out 1
                    have hfz65_2 := blk_frozen BK113.out 2
                    have hfz65_3 := blk_frozen BK113.out 3
                    go_wp2
                    repeat (go_quiet (fail); try go_wp2)
                    go_ret
                    exact ⟨by first | rfl | (simp [errW_none, errW_some] <;> rfl) | (simp [*, errW_none, errW_some] <;> rfl), by repeat (first | (with_reducible first | exact HB.out | apply below_alloc | apply pw_below_drewN | apply below_drew1 | refine below_set ?_ GE101.out | refine below_set ?_ GE107.out | refine below_set ?_ GE113.out) | exact HB.out)⟩
                  · rw [if_neg c62] at H
                    have c62b0 : (t112 == 5) = false := beq_eq_false_iff_ne.mpr c62
                    have c62b1 : (t112 != 5) = true := bne_iff_ne.mpr c62
                    obtain rfl := Option.some.inj H
                    go_wp2
                    repeat (go_quiet (fail); try go_wp2)
                    go_ret
                    exact ⟨by first | rfl | (simp [errW_none, errW_some] <;> rfl) | (simp [*, errW_none, errW_some] <;> rfl), by repeat (first | (with_reducible first | exact HB.out | apply below_alloc | apply pw_below_drewN | apply below_drew1 | refine below_set ?_ GE101.out | refine below_set ?_ GE107.out | refine below_set ?_ GE113.out) | exact HB.out)⟩
                · rw [if_neg c61] at H
                  have c61b0 : decide ((wrap64 (a2_3 - a2_1)) < 1) = false := decide_eq_false c61
                  clear c61
                  have HC66 := Aside0.mk H
                  clear H
                  go_upto_region 16 with (fail)
                  repeat (go_quiet (fail); go_upto_region 16 with (fail))
                  go_cut [99] (fun v99 wc => ∃ (kq : Nat) (x99_65 : Bool), v99 = .bool x99_65 ∧ Aside0 (chancerylaw3_PrintingPlaces.j2 kq a0 a1 t112 (wrap64 (a2_2 - a2_0)) (wrap64 (a2_3 - a2_1)) a0 a1 x99_65 a2_0 a2_1 a2_2 a2_3 t108 t109 t110 t111 = some r) ∧ Aside0 (kq ≤ kj16) ∧ Aside0 (wc.heap[gb101]? = some (.cells #[.int .i64 a2_0, .int .i64 a2_1, .int .i64 a2_2, .int .i64 a2_3] 23 (0, 0))) ∧ Aside0 (wc.heap[gb107]? = some (.cells #[.int .i64 t102, .int .i64 t103, .int .i64 t104, .int .i64 t105] 23 (0, 0))) ∧ Aside0 (wc.heap[gb113]? = some (.cells #[.int .i64 t108, .int .i64 t109, .int .i64 t110, .int .i64 t111] 23 (0, 0))) ∧ Aside0 (Below w.heap.size w wc))
                  case first =>
                    have H := HC66.out
                    clear HC66
                    by_cases c67 : (wrap64 (a2_2 - a2_0)) < a0
                    · rw [if_pos c67] at H
                      have c67b0 : decide ((wrap64 (a2_2 - a2_0)) < a0) = true := decide_eq_true c67
                      clear c67
                      (first | rw [c67b0] | (simp only [i64_w, i32_w]; rw [c67b0]) | skip)
                      have H' := Aside0.mk H
                      clear H
                      go_wp2
                      repeat (go_quiet (fail); try go_wp2)
                      go_meet
                      case rel => exact ⟨_, (true), (by first | rfl | (simp; done) | (simp [*]; done)), H', ⟨by have := HJ4.out; have := HJ16.out; first | omega | exact Nat.le_refl _⟩, ⟨by (with_reducible repeat (first | refine blk_drewN ?_ _ | refine blk_drew ?_ | refine blk_alloc ?_ _)); exact BK101.out⟩, ⟨by (with_reducible repeat (first | refine blk_drewN ?_ _ | refine blk_drew ?_ | refine blk_alloc ?_ _)); exact BK107.out⟩, ⟨by (with_reducible repeat (first | refine blk_drewN ?_ _ | refine blk_drew ?_ | refine blk_alloc ?_ _)); exact BK113.out⟩, ⟨by repeat (first | (with_reducible first | exact HB.out | apply below_alloc | apply pw_below_drewN | apply below_drew1 | refine below_set ?_ GE101.out | refine below_set ?_ GE107.out | refine below_set ?_ GE113.out) | exact HB.out)⟩⟩
                    · rw [if_neg c67] at H
                      have c67b0 : decide ((wrap64 (a2_2 - a2_0)) < a0) = false := decide_eq_false c67
                      clear c67
                      (first | rw [c67b0] | (simp only [i64_w, i32_w]; rw [c67b0]) | skip)
                      have H' := Aside0.mk H
                      clear H
                      go_wp2
                      repeat (go_quiet (fail); try go_wp2)
                      go_meet
                      case rel => exact ⟨_, (decide ((wrap64 (a2_3 - a2_1)) < a1)), (by first | rfl | (simp; done) | (simp [*]; done)), H', ⟨by have := HJ4.out; have := HJ16.out; first | omega | exact Nat.le_refl _⟩, ⟨by (with_reducible repeat (first | refine blk_drewN ?_ _ | refine blk_drew ?_ | refine blk_alloc ?_ _)); exact BK101.out⟩, ⟨by (with_reducible repeat (first | refine blk_drewN ?_ _ | refine blk_drew ?_ | refine blk_alloc ?_ _)); exact BK107.out⟩, ⟨by (with_reducible repeat (first | refine blk_drewN ?_ _ | refine blk_drew ?_ | refine blk_alloc ?_ _)); exact BK113.out⟩, ⟨by repeat (first | (with_reducible first | exact HB.out | apply below_alloc | apply pw_below_drewN | apply below_drew1 | refine below_set ?_ GE101.out | refine below_set ?_ GE107.out | refine below_set ?_ GE113.out) | exact HB.out)⟩⟩
                  case rest =>
                    clear HC66
                    try clear c1
                    try clear c2
                    try clear p2
                    try clear c3
                    try clear c4
                    try clear c5
                    try clear c6
                    try clear p6
                    try clear c9
                    try clear c11
                    try clear c11b0
                    try clear c11b1
                    try clear c12
                    try clear c14
                    try clear c18
                    try clear c22
                    try clear c23
                    try clear c26
                    try clear c28
                    try clear c30
                    try clear c32
                    try clear c34
                    try clear c36
                    try clear c37
                    try clear c39
                    try clear c40
                    try clear c42
                    try clear c43
                    try clear c45
                    try clear c46
                    try clear c48
                    try clear c49
                    try clear c51
                    try clear c52
                    try clear c52b0
                    try clear c52b1
                    try clear c53
                    try clear c54
                    try clear c56
                    try clear c56b0
                    try clear c57
                    try clear c57b0
                    try clear c57b1
                    try clear c58
                    try clear c59
                    try clear c61
                    try clear c61b0
                    try clear c62
                    try clear c62b0
                    try clear c62b1
                    try clear c63
                    try clear c64
                    try clear p64
                    try clear c67
                    try clear c67b0
                    try clear hcz10_0
                    try clear hcz10_1
                    try clear hcz10_2
                    try clear hcz10_3
                    try clear hcz13_0
                    try clear hcz13_1
                    try clear hcz13_2
                    try clear hcz13_3
                    try clear hcz19_0
                    try clear hcz19_1
                    try clear hcz19_2
                    try clear hcz19_3
                    try clear hcz24_0
                    try clear hcz24_1
                    try clear hcz24_2
                    try clear hcz24_3
                    try clear hcz25_0
                    try clear hcz25_1
                    try clear hcz25_2
                    try clear hcz25_3
                    try clear hcz38_0
                    try clear hcz38_1
                    try clear hcz38_2
                    try clear hcz38_3
                    try clear hcz41_0
                    try clear hcz41_1
                    try clear hcz41_2
                    try clear hcz41_3
                    try clear hcz44_0
                    try clear hcz44_1
                    try clear hcz44_2
                    try clear hcz44_3
                    try clear hcz47_0
                    try clear hcz47_1
                    try clear hcz47_2
                    try clear hcz47_3
                    try clear hcz50_0
                    try clear hcz50_1
                    try clear hcz50_2
                    try clear hcz50_3
                    try clear hcz55_0
                    try clear hcz55_1
                    try clear hcz55_2
                    try clear hcz55_3
                    try clear hcz60_0
                    try clear hcz60_1
                    try clear hcz60_2
                    try clear hcz60_3
                    try clear hcz65_0
                    try clear hcz65_1
                    try clear hcz65_2
                    try clear hcz65_3
                    try clear hfz10_0
                    try clear hfz10_1
                    try clear hfz10_2
                    try clear hfz10_3
                    try clear hfz13_0
                    try clear hfz13_1
                    try clear hfz13_2
                    try clear hfz13_3
                    try clear hfz19_0
                    try clear hfz19_1
                    try clear hfz19_2
                    try clear hfz19_3
                    try clear hfz24_0
                    try clear hfz24_1
                    try clear hfz24_2
                    try clear hfz24_3
                    try clear hfz25_0
                    try clear hfz25_1
                    try clear hfz25_2
                    try clear hfz25_3
                    try clear hfz38_0
                    try clear hfz38_1
                    try clear hfz38_2
                    try clear hfz38_3
                    try clear hfz41_0
                    try clear hfz41_1
                    try clear hfz41_2
                    try clear hfz41_3
                    try clear hfz44_0
                    try clear hfz44_1
                    try clear hfz44_2
                    try clear hfz44_3
                    try clear hfz47_0
                    try clear hfz47_1
                    try clear hfz47_2
                    try clear hfz47_3
                    try clear hfz50_0
                    try clear hfz50_1
                    try clear hfz50_2
                    try clear hfz50_3
                    try clear hfz55_0
                    try clear hfz55_1
                    try clear hfz55_2
                    try clear hfz55_3
                    try clear hfz60_0
                    try clear hfz60_1
                    try clear hfz60_2
                    try clear hfz60_3
                    try clear hfz65_0
                    try clear hfz65_1
                    try clear hfz65_2
                    try clear hfz65_3
                    try clear p2
                    try clear p6
                    obtain ⟨kq, x99_65, rfl, HA, HJ65, BK101, BK107, BK113, HB⟩ := hcut
                    cases kq with
                    | zero => exact absurd HA.out (by simp [chancerylaw3_PrintingPlaces.j2])
                    | succ kj65 =>
                      have H := HA.out
                      clear HA
                      simp only [chancerylaw3_PrintingPlaces.j2] at H
                      by_cases c68 : x99_65 = true
                      · subst c68
                        have H1 : (if (wrap64 ((wrap64 (a2_2 - a2_0)) * a1)) ≤ (wrap64 ((wrap64 (a2_3 - a2_1)) * a0)) then (if a0 = 0 then (none) else (if t112 = 0 then (some (t108 == (wrap64 (a2_0 + (wrap64 (Int.tdiv (wrap64 ((wrap64 (a2_2 - a2_0)) - (mx (wrap64 (a2_2 - a2_0)) 1))) 2)))) && (t109 == (wrap64 (a2_1 + (wrap64 (Int.tdiv (wrap64 ((wrap64 (a2_3 - a2_1)) - (mx (wrap64 (Int.tdiv (wrap64 (a1 * (wrap64 (a2_2 - a2_0)))) a0)) 1))) 2)))) && (t110 == (wrap64 ((wrap64 (a2_0 + (wrap64 (Int.tdiv (wrap64 ((wrap64 (a2_2 - a2_0)) - (mx (wrap64 (a2_2 - a2_0)) 1))) 2)))) + (mx (wrap64 (a2_2 - a2_0)) 1))) && (t111 == (wrap64 ((wrap64 (a2_1 + (wrap64 (Int.tdiv (wrap64 ((wrap64 (a2_3 - a2_1)) - (mx (wrap64 (Int.tdiv (wrap64 (a1 * (wrap64 (a2_2 - a2_0)))) a0)) 1))) 2)))) + (mx (wrap64 (Int.tdiv (wrap64 (a1 * (wrap64 (a2_2 - a2_0)))) a0)) 1)))))))) else (some false))) else (if a1 = 0 then (none) else (if t112 = 0 then (some (t108 == (wrap64 (a2_0 + (wrap64 (Int.tdiv (wrap64 ((wrap64 (a2_2 - a2_0)) - (mx (wrap64 (Int.tdiv (wrap64 (a0 * (wrap64 (a2_3 - a2_1)))) a1)) 1))) 2)))) && (t109 == (wrap64 (a2_1 + (wrap64 (Int.tdiv (wrap64 ((wrap64 (a2_3 - a2_1)) - (mx (wrap64 (a2_3 - a2_1)) 1))) 2)))) && (t110 == (wrap64 ((wrap64 (a2_0 + (wrap64 (Int.tdiv (wrap64 ((wrap64 (a2_2 - a2_0)) - (mx (wrap64 (Int.tdiv (wrap64 (a0 * (wrap64 (a2_3 - a2_1)))) a1)) 1))) 2)))) + (mx (wrap64 (Int.tdiv (wrap64 (a0 * (wrap64 (a2_3 - a2_1)))) a1)) 1))) && (t111 == (wrap64 ((wrap64 (a2_1 + (wrap64 (Int.tdiv (wrap64 ((wrap64 (a2_3 - a2_1)) - (mx (wrap64 (a2_3 - a2_1)) 1))) 2)))) + (mx (wrap64 (a2_3 - a2_1)) 1)))))))) else (some false)))) = some r := by rw [if_pos rfl] at H; exact H
                        clear H
                        have H := H1
                        clear H1
                        by_cases c69 : (wrap64 ((wrap64 (a2_2 - a2_0)) * a1)) ≤ (wrap64 ((wrap64 (a2_3 - a2_1)) * a0))
                        · rw [if_pos c69] at H
                          have c69b0 : decide ((wrap64 ((wrap64 (a2_2 - a2_0)) * a1)) ≤ (wrap64 ((wrap64 (a2_3 - a2_1)) * a0))) = true := decide_eq_true c69
                          clear c69
                          by_cases c70 : a0 = 0
                          · rw [if_pos c70] at H
                            exact absurd H (by simp)
                          · rw [if_neg c70] at H
                            have c70b0 : (a0 == 0) = false := beq_eq_false_iff_ne.mpr c70
                            have c70b1 : (a0 != 0) = true := bne_iff_ne.mpr c70
                            obtain ⟨ji71, hji71⟩ : ∃ j_ : Int, (mx (wrap64 (a2_2 - a2_0)) 1) = j_ := ⟨_, rfl⟩
                            replace H : (if t112 = 0 then (some (t108 == (wrap64 (a2_0 + (wrap64 (Int.tdiv (wrap64 ((wrap64 (a2_2 - a2_0)) - (ji71))) 2)))) && (t109 == (wrap64 (a2_1 + (wrap64 (Int.tdiv (wrap64 ((wrap64 (a2_3 - a2_1)) - (mx (wrap64 (Int.tdiv (wrap64 (a1 * (wrap64 (a2_2 - a2_0)))) a0)) 1))) 2)))) && (t110 == (wrap64 ((wrap64 (a2_0 + (wrap64 (Int.tdiv (wrap64 ((wrap64 (a2_2 - a2_0)) - (ji71))) 2)))) + (ji71))) && (t111 == (wrap64 ((wrap64 (a2_1 + (wrap64 (Int.tdiv (wrap64 ((wrap64 (a2_3 - a2_1)) - (mx (wrap64 (Int.tdiv (wrap64 (a1 * (wrap64 (a2_2 - a2_0)))) a0)) 1))) 2)))) + (mx (wrap64 (Int.tdiv (wrap64 (a1 * (wrap64 (a2_2 - a2_0)))) a0)) 1)))))))) else (some false)) = some r := by first | (rw [hji71] at H; exact H) | (simp only [hji71] at H ⊢; exact H)
                            have hji71_ : (if (wrap64 (a2_2 - a2_0)) < 1 then 1 else (wrap64 (a2_2 - a2_0))) = ji71 := hji71
                            obtain ⟨ji72, hji72⟩ : ∃ j_ : Int, (mx (wrap64 (Int.tdiv (wrap64 (a1 * (wrap64 (a2_2 - a2_0)))) a0)) 1) = j_ := ⟨_, rfl⟩
                            replace H : (if t112 = 0 then (some (t108 == (wrap64 (a2_0 + (wrap64 (Int.tdiv (wrap64 ((wrap64 (a2_2 - a2_0)) - (ji71))) 2)))) && (t109 == (wrap64 (a2_1 + (wrap64 (Int.tdiv (wrap64 ((wrap64 (a2_3 - a2_1)) - (ji72))) 2)))) && (t110 == (wrap64 ((wrap64 (a2_0 + (wrap64 (Int.tdiv (wrap64 ((wrap64 (a2_2 - a2_0)) - (ji71))) 2)))) + (ji71))) && (t111 == (wrap64 ((wrap64 (a2_1 + (wrap64 (Int.tdiv (wrap64 ((wrap64 (a2_3 - a2_1)) - (ji72))) 2)))) + (ji72)))))))) else (some false)) = some r := by first | (rw [hji72] at H; exact H) | (simp only [hji72] at H ⊢; exact H)
                            have hji72_ : (if (wrap64 (Int.tdiv (wrap64 (a1 * (wrap64 (a2_2 - a2_0)))) a0)) < 1 then 1 else (wrap64 (Int.tdiv (wrap64 (a1 * (wrap64 (a2_2 - a2_0)))) a0))) = ji72 := hji72
                            by_cases c73 : t112 = 0
                            · rw [if_pos c73] at H
                              have c73b0 : (t112 == 0) = true := beq_iff_eq.mpr c73
                              have c73b1 : (t112 != 0) = false := bne_eq_false_iff_eq.mpr c73
                              clear c73
                              obtain rfl := Option.some.inj H
                              have hnb74 := NB101_107.out
                              have hnc74 := NB107_101.out
                              have hnb75 := NB101_113.out
                              have hnc75 := NB113_101.out
                              have hcz76_0 : wc.cell? ⟨gb101, 0, none⟩ = some (.int .i64 a2_0) := (blk_cell BK101.out 0).trans rfl
                              have hcz76_1 : wc.cell? ⟨gb101, 1, none⟩ = some (.int .i64 a2_1) := (blk_cell BK101.out 1).trans rfl
                              have hcz76_2 : wc.cell? ⟨gb101, 2, none⟩ = some (.int .i64 a2_2) := (blk_cell BK101.out 2).trans rfl
                              have hcz76_3 : wc.cell? ⟨gb101, 3, none⟩ = some (.int .i64 a2_3) := (blk_cell BK101.out 3).trans rfl
                              have hfz76_0 := blk_frozen BK101.out 0
                              have hfz76_1 := blk_frozen BK101.out 1
                              have hfz76_2 := blk_frozen BK101.out 2
                              have hfz76_3 := blk_frozen BK101.out 3
                              have hnb77 := NB113_107.out
                              have hnc77 := NB107_113.out
                              have hcz78_0 : wc.cell? ⟨gb113, 0, none⟩ = some (.int .i64 t108) := (blk_cell BK113.out 0).trans rfl
                              have hcz78_1 : wc.cell? ⟨gb113, 1, none⟩ = some (.int .i64 t109) := (blk_cell BK113.out 1).trans rfl
                              have hcz78_2 : wc.cell? ⟨gb113, 2, none⟩ = some (.int .i64 t110) := (blk_cell BK113.out 2).trans rfl
                              have hcz78_3 : wc.cell? ⟨gb113, 3, none⟩ = some (.int .i64 t111) := (blk_cell BK113.out 3).trans rfl
                              have hfz78_0 := blk_frozen BK113.out 0
                              have hfz78_1 := blk_frozen BK113.out 1
                              have hfz78_2 := blk_frozen BK113.out 2
                              have hfz78_3 := blk_frozen BK113.out 3
                              go_wp2
                              repeat (go_quiet (fail); try go_wp2)
                              go_ret
                              exact ⟨by first | rfl | (simp [errW_none, errW_some] <;> rfl) | (simp only [← hji71, ← hji72]; first | rfl | (simp [errW_none, errW_some] <;> rfl)) | (simp [*, errW_none, errW_some] <;> rfl), by repeat (first | (with_reducible first | exact HB.out | apply below_alloc | apply pw_below_drewN | apply below_drew1 | refine below_set ?_ GE101.out | refine below_set ?_ GE107.out | refine below_set ?_ GE113.out) | exact HB.out)⟩
                            · rw [if_neg c73] at H
                              have c73b0 : (t112 == 0) = false := beq_eq_false_iff_ne.mpr c73
                              have c73b1 : (t112 != 0) = true := bne_iff_ne.mpr c73
                              obtain rfl := Option.some.inj H
                              have hnb79 := NB101_107.out
                              have hnc79 := NB107_101.out
                              have hnb80 := NB101_113.out
                              have hnc80 := NB113_101.out
                              have hcz81_0 : wc.cell? ⟨gb101, 0, none⟩ = some (.int .i64 a2_0) := (blk_cell BK101.out 0).trans rfl
                              have hcz81_1 : wc.cell? ⟨gb101, 1, none⟩ = some (.int .i64 a2_1) := (blk_cell BK101.out 1).trans rfl
                              have hcz81_2 : wc.cell? ⟨gb101, 2, none⟩ = some (.int .i64 a2_2) := (blk_cell BK101.out 2).trans rfl
                              have hcz81_3 : wc.cell? ⟨gb101, 3, none⟩ = some (.int .i64 a2_3) := (blk_cell BK101.out 3).trans rfl
                              have hfz81_0 := blk_frozen BK101.out 0
                              have hfz81_1 := blk_frozen BK101.out 1
                              have hfz81_2 := blk_frozen BK101.out 2
                              have hfz81_3 := blk_frozen BK101.out 3
                              go_wp2
                              repeat (go_quiet (fail); try go_wp2)
                              go_ret
                              exact ⟨by first | rfl | (simp [errW_none, errW_some] <;> rfl) | (simp only [← hji71, ← hji72]; first | rfl | (simp [errW_none, errW_some] <;> rfl)) | (simp [*, errW_none, errW_some] <;> rfl), by repeat (first | (with_reducible first | exact HB.out | apply below_alloc | apply pw_below_drewN | apply below_drew1 | refine below_set ?_ GE101.out | refine below_set ?_ GE107.out | refine below_set ?_ GE113.out) | exact HB.out)⟩
                        · rw [if_neg c69] at H
                          have c69b0 : decide ((wrap64 ((wrap64 (a2_2 - a2_0)) * a1)) ≤ (wrap64 ((wrap64 (a2_3 - a2_1)) * a0))) = false := decide_eq_false c69
                          clear c69
                          by_cases c82 : a1 = 0
                          · rw [if_pos c82] at H
                            exact absurd H (by simp)
                          · rw [if_neg c82] at H
                            have c82b0 : (a1 == 0) = false := beq_eq_false_iff_ne.mpr c82
                            have c82b1 : (a1 != 0) = true := bne_iff_ne.mpr c82
                            obtain ⟨ji83, hji83⟩ : ∃ j_ : Int, (mx (wrap64 (Int.tdiv (wrap64 (a0 * (wrap64 (a2_3 - a2_1)))) a1)) 1) = j_ := ⟨_, rfl⟩
                            replace H : (if t112 = 0 then (some (t108 == (wrap64 (a2_0 + (wrap64 (Int.tdiv (wrap64 ((wrap64 (a2_2 - a2_0)) - (ji83))) 2)))) && (t109 == (wrap64 (a2_1 + (wrap64 (Int.tdiv (wrap64 ((wrap64 (a2_3 - a2_1)) - (mx (wrap64 (a2_3 - a2_1)) 1))) 2)))) && (t110 == (wrap64 ((wrap64 (a2_0 + (wrap64 (Int.tdiv (wrap64 ((wrap64 (a2_2 - a2_0)) - (ji83))) 2)))) + (ji83))) && (t111 == (wrap64 ((wrap64 (a2_1 + (wrap64 (Int.tdiv (wrap64 ((wrap64 (a2_3 - a2_1)) - (mx (wrap64 (a2_3 - a2_1)) 1))) 2)))) + (mx (wrap64 (a2_3 - a2_1)) 1)))))))) else (some false)) = some r := by first | (rw [hji83] at H; exact H) | (simp only [hji83] at H ⊢; exact H)
                            have hji83_ : (if (wrap64 (Int.tdiv (wrap64 (a0 * (wrap64 (a2_3 - a2_1)))) a1)) < 1 then 1 else (wrap64 (Int.tdiv (wrap64 (a0 * (wrap64 (a2_3 - a2_1)))) a1))) = ji83 := hji83
                            obtain ⟨ji84, hji84⟩ : ∃ j_ : Int, (mx (wrap64 (a2_3 - a2_1)) 1) = j_ := ⟨_, rfl⟩
                            replace H : (if t112 = 0 then (some (t108 == (wrap64 (a2_0 + (wrap64 (Int.tdiv (wrap64 ((wrap64 (a2_2 - a2_0)) - (ji83))) 2)))) && (t109 == (wrap64 (a2_1 + (wrap64 (Int.tdiv (wrap64 ((wrap64 (a2_3 - a2_1)) - (ji84))) 2)))) && (t110 == (wrap64 ((wrap64 (a2_0 + (wrap64 (Int.tdiv (wrap64 ((wrap64 (a2_2 - a2_0)) - (ji83))) 2)))) + (ji83))) && (t111 == (wrap64 ((wrap64 (a2_1 + (wrap64 (Int.tdiv (wrap64 ((wrap64 (a2_3 - a2_1)) - (ji84))) 2)))) + (ji84)))))))) else (some false)) = some r := by first | (rw [hji84] at H; exact H) | (simp only [hji84] at H ⊢; exact H)
                            have hji84_ : (if (wrap64 (a2_3 - a2_1)) < 1 then 1 else (wrap64 (a2_3 - a2_1))) = ji84 := hji84
                            by_cases c85 : t112 = 0
                            · rw [if_pos c85] at H
                              have c85b0 : (t112 == 0) = true := beq_iff_eq.mpr c85
                              have c85b1 : (t112 != 0) = false := bne_eq_false_iff_eq.mpr c85
                              clear c85
                              obtain rfl := Option.some.inj H
                              have hnb86 := NB101_107.out
                              have hnc86 := NB107_101.out
                              have hnb87 := NB101_113.out
                              have hnc87 := NB113_101.out
                              have hcz88_0 : wc.cell? ⟨gb101, 0, none⟩ = some (.int .i64 a2_0) := (blk_cell BK101.out 0).trans rfl
                              have hcz88_1 : wc.cell? ⟨gb101, 1, none⟩ = some (.int .i64 a2_1) := (blk_cell BK101.out 1).trans rfl
                              have hcz88_2 : wc.cell? ⟨gb101, 2, none⟩ = some (.int .i64 a2_2) := (blk_cell BK101.out 2).trans rfl
                              have hcz88_3 : wc.cell? ⟨gb101, 3, none⟩ = some (.int .i64 a2_3) := (blk_cell BK101.out 3).trans rfl
                              have hfz88_0 := blk_frozen BK101.out 0
                              have hfz88_1 := blk_frozen BK101.out 1
                              have hfz88_2 := blk_frozen BK101.out 2
                              have hfz88_3 := blk_frozen BK101.out 3
                              have hnb89 := NB113_107.out
                              have hnc89 := NB107_113.out
                              have hcz90_0 : wc.cell? ⟨gb113, 0, none⟩ = some (.int .i64 t108) := (blk_cell BK113.out 0).trans rfl
                              have hcz90_1 : wc.cell? ⟨gb113, 1, none⟩ = some (.int .i64 t109) := (blk_cell BK113.out 1).trans rfl
                              have hcz90_2 : wc.cell? ⟨gb113, 2, none⟩ = some (.int .i64 t110) := (blk_cell BK113.out 2).trans rfl
                              have hcz90_3 : wc.cell? ⟨gb113, 3, none⟩ = some (.int .i64 t111) := (blk_cell BK113.out 3).trans rfl
                              have hfz90_0 := blk_frozen BK113.out 0
                              have hfz90_1 := blk_frozen BK113.out 1
                              have hfz90_2 := blk_frozen BK113.out 2
                              have hfz90_3 := blk_frozen BK113.out 3
                              go_wp2
                              repeat (go_quiet (fail); try go_wp2)
                              go_ret
                              exact ⟨by first | rfl | (simp [errW_none, errW_some] <;> rfl) | (simp only [← hji83, ← hji84]; first | rfl | (simp [errW_none, errW_some] <;> rfl)) | (simp [*, errW_none, errW_some] <;> rfl), by repeat (first | (with_reducible first | exact HB.out | apply below_alloc | apply pw_below_drewN | apply below_drew1 | refine below_set ?_ GE101.out | refine below_set ?_ GE107.out | refine below_set ?_ GE113.out) | exact HB.out)⟩
                            · rw [if_neg c85] at H
                              have c85b0 : (t112 == 0) = false := beq_eq_false_iff_ne.mpr c85
                              have c85b1 : (t112 != 0) = true := bne_iff_ne.mpr c85
                              obtain rfl := Option.some.inj H
                              have hnb91 := NB101_107.out
                              have hnc91 := NB107_101.out
                              have hnb92 := NB101_113.out
                              have hnc92 := NB113_101.out
                              have hcz93_0 : wc.cell? ⟨gb101, 0, none⟩ = some (.int .i64 a2_0) := (blk_cell BK101.out 0).trans rfl
                              have hcz93_1 : wc.cell? ⟨gb101, 1, none⟩ = some (.int .i64 a2_1) := (blk_cell BK101.out 1).trans rfl
                              have hcz93_2 : wc.cell? ⟨gb101, 2, none⟩ = some (.int .i64 a2_2) := (blk_cell BK101.out 2).trans rfl
                              have hcz93_3 : wc.cell? ⟨gb101, 3, none⟩ = some (.int .i64 a2_3) := (blk_cell BK101.out 3).trans rfl
                              have hfz93_0 := blk_frozen BK101.out 0
                              have hfz93_1 := blk_frozen BK101.out 1
                              have hfz93_2 := blk_frozen BK101.out 2
                              have hfz93_3 := blk_frozen BK101.out 3
                              go_wp2
                              repeat (go_quiet (fail); try go_wp2)
                              go_ret
                              exact ⟨by first | rfl | (simp [errW_none, errW_some] <;> rfl) | (simp only [← hji83, ← hji84]; first | rfl | (simp [errW_none, errW_some] <;> rfl)) | (simp [*, errW_none, errW_some] <;> rfl), by repeat (first | (with_reducible first | exact HB.out | apply below_alloc | apply pw_below_drewN | apply below_drew1 | refine below_set ?_ GE101.out | refine below_set ?_ GE107.out | refine below_set ?_ GE113.out) | exact HB.out)⟩
                      · replace c68 := Bool.eq_false_iff.mpr c68
                        subst c68
                        have H1 : (if t112 = 0 then (some (t108 == (wrap64 (a2_0 + (wrap64 (Int.tdiv (wrap64 ((wrap64 (a2_2 - a2_0)) - (mx a0 1))) 2)))) && (t109 == (wrap64 (a2_1 + (wrap64 (Int.tdiv (wrap64 ((wrap64 (a2_3 - a2_1)) - (mx a1 1))) 2)))) && (t110 == (wrap64 ((wrap64 (a2_0 + (wrap64 (Int.tdiv (wrap64 ((wrap64 (a2_2 - a2_0)) - (mx a0 1))) 2)))) + (mx a0 1))) && (t111 == (wrap64 ((wrap64 (a2_1 + (wrap64 (Int.tdiv (wrap64 ((wrap64 (a2_3 - a2_1)) - (mx a1 1))) 2)))) + (mx a1 1)))))))) else (some false)) = some r := by rw [if_neg (show ¬ (false = true) by decide)] at H; exact H
                        clear H
                        have H := H1
                        clear H1
                        obtain ⟨ji94, hji94⟩ : ∃ j_ : Int, (mx a0 1) = j_ := ⟨_, rfl⟩
                        replace H : (if t112 = 0 then (some (t108 == (wrap64 (a2_0 + (wrap64 (Int.tdiv (wrap64 ((wrap64 (a2_2 - a2_0)) - (ji94))) 2)))) && (t109 == (wrap64 (a2_1 + (wrap64 (Int.tdiv (wrap64 ((wrap64 (a2_3 - a2_1)) - (mx a1 1))) 2)))) && (t110 == (wrap64 ((wrap64 (a2_0 + (wrap64 (Int.tdiv (wrap64 ((wrap64 (a2_2 - a2_0)) - (ji94))) 2)))) + (ji94))) && (t111 == (wrap64 ((wrap64 (a2_1 + (wrap64 (Int.tdiv (wrap64 ((wrap64 (a2_3 - a2_1)) - (mx a1 1))) 2)))) + (mx a1 1)))))))) else (some false)) = some r := by first | (rw [hji94] at H; exact H) | (simp only [hji94] at H ⊢; exact H)
                        have hji94_ : (if a0 < 1 then 1 else a0) = ji94 := hji94
                        obtain ⟨ji95, hji95⟩ : ∃ j_ : Int, (mx a1 1) = j_ := ⟨_, rfl⟩
                        replace H : (if t112 = 0 then (some (t108 == (wrap64 (a2_0 + (wrap64 (Int.tdiv (wrap64 ((wrap64 (a2_2 - a2_0)) - (ji94))) 2)))) && (t109 == (wrap64 (a2_1 + (wrap64 (Int.tdiv (wrap64 ((wrap64 (a2_3 - a2_1)) - (ji95))) 2)))) && (t110 == (wrap64 ((wrap64 (a2_0 + (wrap64 (Int.tdiv (wrap64 ((wrap64 (a2_2 - a2_0)) - (ji94))) 2)))) + (ji94))) && (t111 == (wrap64 ((wrap64 (a2_1 + (wrap64 (Int.tdiv (wrap64 ((wrap64 (a2_3 - a2_1)) - (ji95))) 2)))) + (ji95)))))))) else (some false)) = some r := by first | (rw [hji95] at H; exact H) | (simp only [hji95] at H ⊢; exact H)
                        have hji95_ : (if a1 < 1 then 1 else a1) = ji95 := hji95
                        by_cases c96 : t112 = 0
                        · rw [if_pos c96] at H
                          have c96b0 : (t112 == 0) = true := beq_iff_eq.mpr c96
                          have c96b1 : (t112 != 0) = false := bne_eq_false_iff_eq.mpr c96
                          clear c96
                          obtain rfl := Option.some.inj H
                          have hnb97 := NB101_107.out
                          have hnc97 := NB107_101.out
                          have hnb98 := NB101_113.out
                          have hnc98 := NB113_101.out
                          have hcz99_0 : wc.cell? ⟨gb101, 0, none⟩ = some (.int .i64 a2_0) := (blk_cell BK101.out 0).trans rfl
                          have hcz99_1 : wc.cell? ⟨gb101, 1, none⟩ = some (.int .i64 a2_1) := (blk_cell BK101.out 1).trans rfl
                          have hcz99_2 : wc.cell? ⟨gb101, 2, none⟩ = some (.int .i64 a2_2) := (blk_cell BK101.out 2).trans rfl
                          have hcz99_3 : wc.cell? ⟨gb101, 3, none⟩ = some (.int .i64 a2_3) := (blk_cell BK101.out 3).trans rfl
                          have hfz99_0 := blk_frozen BK101.out 0
                          have hfz99_1 := blk_frozen BK101.out 1
                          have hfz99_2 := blk_frozen BK101.out 2
                          have hfz99_3 := blk_frozen BK101.out 3
                          have hnb100 := NB113_107.out
                          have hnc100 := NB107_113.out
                          have hcz101_0 : wc.cell? ⟨gb113, 0, none⟩ = some (.int .i64 t108) := (blk_cell BK113.out 0).trans rfl
                          have hcz101_1 : wc.cell? ⟨gb113, 1, none⟩ = some (.int .i64 t109) := (blk_cell BK113.out 1).trans rfl
                          have hcz101_2 : wc.cell? ⟨gb113, 2, none⟩ = some (.int .i64 t110) := (blk_cell BK113.out 2).trans rfl
                          have hcz101_3 : wc.cell? ⟨gb113, 3, none⟩ = some (.int .i64 t111) := (blk_cell BK113.out 3).trans rfl
                          have hfz101_0 := blk_frozen BK113.out 0
                          have hfz101_1 := blk_frozen BK113.out 1
                          have hfz101_2 := blk_frozen BK113.out 2
                          have hfz101_3 := blk_frozen BK113.out 3
                          go_wp2
                          repeat (go_quiet (fail); try go_wp2)
                          go_ret
                          exact ⟨by first | rfl | (simp [errW_none, errW_some] <;> rfl) | (simp only [← hji94, ← hji95]; first | rfl | (simp [errW_none, errW_some] <;> rfl)) | (simp [*, errW_none, errW_some] <;> rfl), by repeat (first | (with_reducible first | exact HB.out | apply below_alloc | apply pw_below_drewN | apply below_drew1 | refine below_set ?_ GE101.out | refine below_set ?_ GE107.out | refine below_set ?_ GE113.out) | exact HB.out)⟩
                        · rw [if_neg c96] at H
                          have c96b0 : (t112 == 0) = false := beq_eq_false_iff_ne.mpr c96
                          have c96b1 : (t112 != 0) = true := bne_iff_ne.mpr c96
                          obtain rfl := Option.some.inj H
                          have hnb102 := NB101_107.out
                          have hnc102 := NB107_101.out
                          have hnb103 := NB101_113.out
                          have hnc103 := NB113_101.out
                          have hcz104_0 : wc.cell? ⟨gb101, 0, none⟩ = some (.int .i64 a2_0) := (blk_cell BK101.out 0).trans rfl
                          have hcz104_1 : wc.cell? ⟨gb101, 1, none⟩ = some (.int .i64 a2_1) := (blk_cell BK101.out 1).trans rfl
                          have hcz104_2 : wc.cell? ⟨gb101, 2, none⟩ = some (.int .i64 a2_2) := (blk_cell BK101.out 2).trans rfl
                          have hcz104_3 : wc.cell? ⟨gb101, 3, none⟩ = some (.int .i64 a2_3) := (blk_cell BK101.out 3).trans rfl
                          have hfz104_0 := blk_frozen BK101.out 0
                          have hfz104_1 := blk_frozen BK101.out 1
                          have hfz104_2 := blk_frozen BK101.out 2
                          have hfz104_3 := blk_frozen BK101.out 3
                          go_wp2
                          repeat (go_quiet (fail); try go_wp2)
                          go_ret
                          exact ⟨by first | rfl | (simp [errW_none, errW_some] <;> rfl) | (simp only [← hji94, ← hji95]; first | rfl | (simp [errW_none, errW_some] <;> rfl)) | (simp [*, errW_none, errW_some] <;> rfl), by repeat (first | (with_reducible first | exact HB.out | apply below_alloc | apply pw_below_drewN | apply below_drew1 | refine below_set ?_ GE101.out | refine below_set ?_ GE107.out | refine below_set ?_ GE113.out) | exact HB.out)⟩

end Go.Proofs.Ytihmbddneapooaa.QPP
