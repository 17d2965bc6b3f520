-- WRITTEN BY wip/print2.py, a program of this session, over contracts of this session's own; no print of print.sh
import Derived.Test.YtemginkjkmmimaaQCBx0
namespace Go.Proofs.Ytemginkjkmmimaa.QCB
open Go.RowKit Go.Proofs.Ytemginkjkmmimaa.Cells Go.Proofs.YtemginkjkmmimaaW.PrintWords Go.Proofs.YtemginkjkmmimaaW.PrintLast Go.Proofs.YtemginkjkmmimaaW.PrintMore
attribute [local go_sem] max2_int min2_int max_two min_two max_three min_three max_four min_four   -- for this text's walks alone
set_option linter.unusedVariables false
set_option linter.unusedSimpArgs false

/-! ### chart_Check: function 9 -/
mutual
def chart_Check.j0 : Nat → Bool → Int → List ByteArray → List (List Int) → Option (Int)
 | 0, _, _, _, _ => none
 | k + 1, x14, x102000, x102001, x102002 => if x14 = true then (some 8) else (if (x102001.length : Int) = 0 then (chart_Check.j1 k true x102000 x102001 x102002) else (chart_Check.j1 k ((x102002.length : Int) == 0) x102000 x102001 x102002))
def chart_Check.j1 : Nat → Bool → Int → List ByteArray → List (List Int) → Option (Int)
 | 0, _, _, _, _ => none
 | k + 1, x24, x102000, x102001, x102002 => if x24 = true then (some 7) else (if (x102001.length : Int) > 200 then (chart_Check.j2 k true x102000 x102001 x102002) else (chart_Check.j2 k (decide ((x102002.length : Int) > 12)) x102000 x102001 x102002))
def chart_Check.j2 : Nat → Bool → Int → List ByteArray → List (List Int) → Option (Int)
 | 0, _, _, _, _ => none
 | k + 1, x34, x102000, x102001, x102002 => if x34 = true then (some 3) else (if x102000 = 3 then (chart_Check.j3 k (decide ((x102002.length : Int) > 1)) x102000 x102001 x102002) else (chart_Check.j3 k false x102000 x102001 x102002))
def chart_Check.j3 : Nat → Bool → Int → List ByteArray → List (List Int) → Option (Int)
 | 0, _, _, _, _ => none
 | k + 1, x43, x102000, x102001, x102002 => if x43 = true then (some 4) else (chart_Check.l0 k x102002 (x102002.length : Int) 0 x102000 x102001 x102002)
def chart_Check.l0 : Nat → List (List Int) → Int → Int → Int → List ByteArray → List (List Int) → Option (Int)
 | 0, _, _, _, _, _, _ => none
 | k + 1, x45, x46, x47, x102000, x102001, x102002 => if x47 < x46 then (if 0 ≤ x47 then (if x47 < (x45.length : Int) then (if ((rd_L1 x45 x47).length : Int) = (x102001.length : Int) then (chart_Check.l1 k x45 x46 x47 (rd_L1 x45 x47) ((rd_L1 x45 x47).length : Int) 0 x102000 x102001 x102002) else (some 14)) else (none)) else (none)) else (some 0)
def chart_Check.l1 : Nat → List (List Int) → Int → Int → List Int → Int → Int → Int → List ByteArray → List (List Int) → Option (Int)
 | 0, _, _, _, _, _, _, _, _, _ => none
 | k + 1, x45, x46, x47, x57, x58, x59, x102000, x102001, x102002 => if x59 < x58 then (if 0 ≤ x59 then (if x59 < (x57.length : Int) then (if (rd x57 x59) < (-83333333333) then (some 2) else (if (rd x57 x59) > 83333333333 then (some 2) else (if (rd x57 x59) < 0 then (if x102000 = 3 then (some 2) else (if x102000 = 1 then (some 2) else (chart_Check.l1 k x45 x46 x47 x57 x58 (wrap64 (x59 + 1)) x102000 x102001 x102002))) else (chart_Check.l1 k x45 x46 x47 x57 x58 (wrap64 (x59 + 1)) x102000 x102001 x102002)))) else (none)) else (none)) else (chart_Check.l0 k x45 x46 (wrap64 (x47 + 1)) x102000 x102001 x102002)
end
def chart_Check.f (k : Nat) (a0_0 : Int) (l0_1 : List ByteArray) (l0_2 : List (List Int)) : Option (Int) := if a0_0 < 0 then (chart_Check.j0 k true a0_0 l0_1 l0_2) else (chart_Check.j0 k (decide (a0_0 > 3)) a0_0 l0_1 l0_2)
theorem chart_Check.mono_l : ∀ k, (∀ y0 y1 y2 y3, LeO (chart_Check.j0 k y0 y1 y2 y3) (chart_Check.j0 (k + 1) y0 y1 y2 y3)) ∧ (∀ y0 y1 y2 y3, LeO (chart_Check.j1 k y0 y1 y2 y3) (chart_Check.j1 (k + 1) y0 y1 y2 y3)) ∧ (∀ y0 y1 y2 y3, LeO (chart_Check.j2 k y0 y1 y2 y3) (chart_Check.j2 (k + 1) y0 y1 y2 y3)) ∧ (∀ y0 y1 y2 y3, LeO (chart_Check.j3 k y0 y1 y2 y3) (chart_Check.j3 (k + 1) y0 y1 y2 y3)) ∧ (∀ y0 y1 y2 y3 y4 y5, LeO (chart_Check.l0 k y0 y1 y2 y3 y4 y5) (chart_Check.l0 (k + 1) y0 y1 y2 y3 y4 y5)) ∧ (∀ y0 y1 y2 y3 y4 y5 y6 y7 y8, LeO (chart_Check.l1 k y0 y1 y2 y3 y4 y5 y6 y7 y8) (chart_Check.l1 (k + 1) y0 y1 y2 y3 y4 y5 y6 y7 y8))
 | 0 => ⟨fun _ _ _ _ r h => by simp [chart_Check.j0] at h, fun _ _ _ _ r h => by simp [chart_Check.j1] at h, fun _ _ _ _ r h => by simp [chart_Check.j2] at h, fun _ _ _ _ r h => by simp [chart_Check.j3] at h, fun _ _ _ _ _ _ r h => by simp [chart_Check.l0] at h, fun _ _ _ _ _ _ _ _ _ r h => by simp [chart_Check.l1] at h⟩
 | k + 1 => by
  obtain ⟨ih0, ih1, ih2, ih3, ih4, ih5⟩ := chart_Check.mono_l k
  refine ⟨?_, ?_, ?_, ?_, ?_, ?_⟩
  ·intro y0 y1 y2 y3
   unfold chart_Check.j0
   repeat' first
   | (with_reducible exact ih0 _ _ _ _)
   | (with_reducible exact ih1 _ _ _ _)
   | (with_reducible exact ih2 _ _ _ _)
   | (with_reducible exact ih3 _ _ _ _)
   | (with_reducible exact ih4 _ _ _ _ _ _)
   | (with_reducible exact ih5 _ _ _ _ _ _ _ _ _)
   | (with_reducible exact LeO.refl _)
   | (with_reducible exact LeO.none _)
   | (with_reducible refine LeO.ite ?_ ?_)
   | (with_reducible refine LeO.bind ?_ (fun _ => ?_))
   | exact ih0 _ _ _ _
   | exact ih1 _ _ _ _
   | exact ih2 _ _ _ _
   | exact ih3 _ _ _ _
   | exact ih4 _ _ _ _ _ _
   | exact ih5 _ _ _ _ _ _ _ _ _
   | exact LeO.none _
   | refine LeO.ite ?_ ?_
   | refine LeO.bind ?_ (fun _ => ?_)
  ·intro y0 y1 y2 y3
   unfold chart_Check.j1
   repeat' first
   | (with_reducible exact ih0 _ _ _ _)
   | (with_reducible exact ih1 _ _ _ _)
   | (with_reducible exact ih2 _ _ _ _)
   | (with_reducible exact ih3 _ _ _ _)
   | (with_reducible exact ih4 _ _ _ _ _ _)
   | (with_reducible exact ih5 _ _ _ _ _ _ _ _ _)
   | (with_reducible exact LeO.refl _)
   | (with_reducible exact LeO.none _)
   | (with_reducible refine LeO.ite ?_ ?_)
   | (with_reducible refine LeO.bind ?_ (fun _ => ?_))
   | exact ih0 _ _ _ _
   | exact ih1 _ _ _ _
   | exact ih2 _ _ _ _
   | exact ih3 _ _ _ _
   | exact ih4 _ _ _ _ _ _
   | exact ih5 _ _ _ _ _ _ _ _ _
   | exact LeO.none _
   | refine LeO.ite ?_ ?_
   | refine LeO.bind ?_ (fun _ => ?_)
  ·intro y0 y1 y2 y3
   unfold chart_Check.j2
   repeat' first
   | (with_reducible exact ih0 _ _ _ _)
   | (with_reducible exact ih1 _ _ _ _)
   | (with_reducible exact ih2 _ _ _ _)
   | (with_reducible exact ih3 _ _ _ _)
   | (with_reducible exact ih4 _ _ _ _ _ _)
   | (with_reducible exact ih5 _ _ _ _ _ _ _ _ _)
   | (with_reducible exact LeO.refl _)
   | (with_reducible exact LeO.none _)
   | (with_reducible refine LeO.ite ?_ ?_)
   | (with_reducible refine LeO.bind ?_ (fun _ => ?_))
   | exact ih0 _ _ _ _
   | exact ih1 _ _ _ _
   | exact ih2 _ _ _ _
   | exact ih3 _ _ _ _
   | exact ih4 _ _ _ _ _ _
   | exact ih5 _ _ _ _ _ _ _ _ _
   | exact LeO.none _
   | refine LeO.ite ?_ ?_
   | refine LeO.bind ?_ (fun _ => ?_)
  ·intro y0 y1 y2 y3
   unfold chart_Check.j3
   repeat' first
   | (with_reducible exact ih0 _ _ _ _)
   | (with_reducible exact ih1 _ _ _ _)
   | (with_reducible exact ih2 _ _ _ _)
   | (with_reducible exact ih3 _ _ _ _)
   | (with_reducible exact ih4 _ _ _ _ _ _)
   | (with_reducible exact ih5 _ _ _ _ _ _ _ _ _)
   | (with_reducible exact LeO.refl _)
   | (with_reducible exact LeO.none _)
   | (with_reducible refine LeO.ite ?_ ?_)
   | (with_reducible refine LeO.bind ?_ (fun _ => ?_))
   | exact ih0 _ _ _ _
   | exact ih1 _ _ _ _
   | exact ih2 _ _ _ _
   | exact ih3 _ _ _ _
   | exact ih4 _ _ _ _ _ _
   | exact ih5 _ _ _ _ _ _ _ _ _
   | exact LeO.none _
   | refine LeO.ite ?_ ?_
   | refine LeO.bind ?_ (fun _ => ?_)
  ·intro y0 y1 y2 y3 y4 y5
   unfold chart_Check.l0
   repeat' first
   | (with_reducible exact ih0 _ _ _ _)
   | (with_reducible exact ih1 _ _ _ _)
   | (with_reducible exact ih2 _ _ _ _)
   | (with_reducible exact ih3 _ _ _ _)
   | (with_reducible exact ih4 _ _ _ _ _ _)
   | (with_reducible exact ih5 _ _ _ _ _ _ _ _ _)
   | (with_reducible exact LeO.refl _)
   | (with_reducible exact LeO.none _)
   | (with_reducible refine LeO.ite ?_ ?_)
   | (with_reducible refine LeO.bind ?_ (fun _ => ?_))
   | exact ih0 _ _ _ _
   | exact ih1 _ _ _ _
   | exact ih2 _ _ _ _
   | exact ih3 _ _ _ _
   | exact ih4 _ _ _ _ _ _
   | exact ih5 _ _ _ _ _ _ _ _ _
   | exact LeO.none _
   | refine LeO.ite ?_ ?_
   | refine LeO.bind ?_ (fun _ => ?_)
  ·intro y0 y1 y2 y3 y4 y5 y6 y7 y8
   unfold chart_Check.l1
   repeat' first
   | (with_reducible exact ih0 _ _ _ _)
   | (with_reducible exact ih1 _ _ _ _)
   | (with_reducible exact ih2 _ _ _ _)
   | (with_reducible exact ih3 _ _ _ _)
   | (with_reducible exact ih4 _ _ _ _ _ _)
   | (with_reducible exact ih5 _ _ _ _ _ _ _ _ _)
   | (with_reducible exact LeO.refl _)
   | (with_reducible exact LeO.none _)
   | (with_reducible refine LeO.ite ?_ ?_)
   | (with_reducible refine LeO.bind ?_ (fun _ => ?_))
   | exact ih0 _ _ _ _
   | exact ih1 _ _ _ _
   | exact ih2 _ _ _ _
   | exact ih3 _ _ _ _
   | exact ih4 _ _ _ _ _ _
   | exact ih5 _ _ _ _ _ _ _ _ _
   | exact LeO.none _
   | refine LeO.ite ?_ ?_
   | refine LeO.bind ?_ (fun _ => ?_)
theorem chart_Check.mono : ∀ a0 a1 a2 k, LeO (chart_Check.f k a0 a1 a2) (chart_Check.f (k + 1) a0 a1 a2) := by
 intro a0 a1 a2 k
 obtain ⟨ih0, ih1, ih2, ih3, ih4, ih5⟩ := chart_Check.mono_l k
 unfold chart_Check.f
 repeat' first
   | (with_reducible exact ih0 _ _ _ _)
   | (with_reducible exact ih1 _ _ _ _)
   | (with_reducible exact ih2 _ _ _ _)
   | (with_reducible exact ih3 _ _ _ _)
   | (with_reducible exact ih4 _ _ _ _ _ _)
   | (with_reducible exact ih5 _ _ _ _ _ _ _ _ _)
   | (with_reducible exact LeO.refl _)
   | (with_reducible exact LeO.none _)
   | (with_reducible refine LeO.ite ?_ ?_)
   | (with_reducible refine LeO.bind ?_ (fun _ => ?_))
   | exact ih0 _ _ _ _
   | exact ih1 _ _ _ _
   | exact ih2 _ _ _ _
   | exact ih3 _ _ _ _
   | exact ih4 _ _ _ _ _ _
   | exact ih5 _ _ _ _ _ _ _ _ _
   | exact LeO.none _
   | refine LeO.ite ?_ ?_
   | refine LeO.bind ?_ (fun _ => ?_)
set_option maxHeartbeats 8000000 in
set_option maxRecDepth 100000 in
theorem chart_Check.calls (k : Nat) (a0_0 : Int) (A0_1 : Option Addr) (c0_1 : Nat) (l0_1 : List ByteArray) (A0_2 : Option Addr) (c0_2 : Nat) (l0_2 : List (List Int)) (r : Int) (w : World) (hr0_1 : Kd.C Kd.string w A0_1 l0_1.length l0_1) (hc0_1 : l0_1.length ≤ c0_1) (hr0_2 : Kd.C (Kd.slice 3 (Kd.int .i64)) w A0_2 l0_2.length l0_2) (hc0_2 : l0_2.length ≤ c0_2) (h : chart_Check.f k a0_0 l0_1 l0_2 = some r) :
  Calls Try.prog 9 #[.agg #[.int .i64 a0_0, .slice A0_1 l0_1.length c0_1, .slice A0_2 l0_2.length c0_2]] w fun e w' => e = .returned (.int .i64 r) ∧ Below w.heap.size w w' := by
 have hu25 := Try.underlying25
 have HR0_1 := Aside0.mk hr0_1
 have HC0_1 := Aside0.mk hc0_1
 clear hr0_1 hc0_1
 have HR0_2 := Aside0.mk hr0_2
 have HC0_2 := Aside0.mk hc0_2
 clear hr0_2 hc0_2
 have HB := Aside0.mk (Below.refl w.heap.size w)
 have H : (if a0_0 < 0 then (chart_Check.j0 k true a0_0 l0_1 l0_2) else (chart_Check.j0 k (decide (a0_0 > 3)) a0_0 l0_1 l0_2)) = some r := h
 clear h
 have HC2 := Aside0.mk H
 clear H
 go_enter Try.func9, Try.ntmps9
 go_upto_region 1 with (first | ((with_reducible refine gate_dst (N := 1) rfl ?_); (try (refine gate_guard (by rfl) ?_; dsimp only)); refine box_event ?hg (N := 1) ?hd (cs := #[.int .i64 a0_0, .slice A0_1 l0_1.length c0_1, .slice A0_2 l0_2.length c0_2]) (t := 25) ?hr ?_; (case hd => rfl); (case hg => rfl); (case hr => first | (go_simp; done) | (go_simp; rfl)); intro gb101 hg w3 hbox hb; have n0_ := Aside0.mk (below_step (by repeat (first | (with_reducible first | exact HB.out | apply below_alloc | apply pw_below_drewN | apply below_drew1) | exact HB.out)) hb); have n1_ := Aside0.mk (hbox); have n2_ := Aside0.mk ((by rw [hg]; exact (below_size (by repeat (first | (with_reducible first | exact HB.out | apply below_alloc | apply pw_below_drewN | apply below_drew1) | exact HB.out))) : w.heap.size ≤ gb101)); have n3_ := Aside0.mk ((by rw [hg]; exact (below_size (by repeat (first | (with_reducible first | exact HB.out | apply below_alloc | apply pw_below_drewN | apply below_drew1) | exact HB.out))) : w.heap.size ≤ gb101)); clear HB; have HB := n0_; have BK101 := n1_; have GW101 := n2_; have GE101 := n3_; clear n0_ n1_ n2_ n3_; clear hb hbox hg))
 (try simp only [Act.put, List.setIfInBounds_toArray, List.set_cons_zero, List.set_cons_succ])
 go_cut [14] (fun v14 wc => ∃ (kq : Nat) (x14_1 : Bool), v14 = .bool x14_1 ∧ Aside0 (chart_Check.j0 kq x14_1 a0_0 l0_1 l0_2 = some r) ∧ Aside0 (kq ≤ k) ∧ Aside0 (wc.heap[gb101]? = some (.cells #[.int .i64 a0_0, (.slice A0_1 l0_1.length c0_1), (.slice A0_2 l0_2.length c0_2)] 25 (0, 0))) ∧ Aside0 (Below w.heap.size w wc))
 case first =>
  have H := HC2.out
  clear HC2
  by_cases c4 : a0_0 < 0
  ·rw [if_pos c4] at H
   have c4b0 : decide (a0_0 < 0) = true := decide_eq_true c4
   clear c4
   (first | rw [c4b0] | (simp only [i64_w, i32_w]; rw [c4b0]) | skip)
   have H' := Aside0.mk H
   clear H
   have hcz5_0 : w3.cell? ⟨gb101, 0, none⟩ = some (.int .i64 a0_0) := (blk_cell BK101.out 0).trans rfl
   have hcz5_1 : w3.cell? ⟨gb101, 1, none⟩ = some (.slice A0_1 l0_1.length c0_1) := (blk_cell BK101.out 1).trans rfl
   have hcz5_2 : w3.cell? ⟨gb101, 2, none⟩ = some (.slice A0_2 l0_2.length c0_2) := (blk_cell BK101.out 2).trans rfl
   have hfz5_0 := blk_frozen BK101.out 0
   have hfz5_1 := blk_frozen BK101.out 1
   have hfz5_2 := blk_frozen BK101.out 2
   go_wp2
   go_meet
   case rel => exact ⟨_, (true), (by first | rfl | (simp; done) | (simp [*]; done)), H', ⟨by first | omega | exact Nat.le_refl _⟩, ⟨by (with_reducible repeat (first | refine blk_drewN ?_ _ | refine blk_drew ?_ | refine blk_alloc ?_ _)); exact BK101.out⟩, ⟨by repeat (first | (with_reducible first | exact HB.out | apply below_alloc | apply pw_below_drewN | apply below_drew1 | refine below_set ?_ GE101.out) | exact HB.out)⟩⟩
  ·rw [if_neg c4] at H
   have c4b0 : decide (a0_0 < 0) = false := decide_eq_false c4
   clear c4
   (first | rw [c4b0] | (simp only [i64_w, i32_w]; rw [c4b0]) | skip)
   have H' := Aside0.mk H
   clear H
   have hcz6_0 : w3.cell? ⟨gb101, 0, none⟩ = some (.int .i64 a0_0) := (blk_cell BK101.out 0).trans rfl
   have hcz6_1 : w3.cell? ⟨gb101, 1, none⟩ = some (.slice A0_1 l0_1.length c0_1) := (blk_cell BK101.out 1).trans rfl
   have hcz6_2 : w3.cell? ⟨gb101, 2, none⟩ = some (.slice A0_2 l0_2.length c0_2) := (blk_cell BK101.out 2).trans rfl
   have hfz6_0 := blk_frozen BK101.out 0
   have hfz6_1 := blk_frozen BK101.out 1
   have hfz6_2 := blk_frozen BK101.out 2
   go_wp2
   go_meet
   case rel => exact ⟨_, (decide (a0_0 > 3)), (by first | rfl | (simp; done) | (simp [*]; done)), H', ⟨by first | omega | exact Nat.le_refl _⟩, ⟨by (with_reducible repeat (first | refine blk_drewN ?_ _ | refine blk_drew ?_ | refine blk_alloc ?_ _)); exact BK101.out⟩, ⟨by repeat (first | (with_reducible first | exact HB.out | apply below_alloc | apply pw_below_drewN | apply below_drew1 | refine below_set ?_ GE101.out) | exact HB.out)⟩⟩
 case rest =>
  clear HC2; try clear p2; try clear c4; try clear c4b0; try clear hcz5_0; try clear hcz5_1; try clear hcz5_2; try clear hcz6_0; try clear hcz6_1; try clear hcz6_2; try clear hfz5_0; try clear hfz5_1; try clear hfz5_2; try clear hfz6_0; try clear hfz6_1; try clear hfz6_2
  obtain ⟨kq, x14_1, rfl, HA, HJ1, BK101, HB⟩ := hcut
  cases kq with
  | zero => exact absurd HA.out (by simp [chart_Check.j0])
  | succ kj1 =>
   have H := HA.out
   clear HA
   simp only [chart_Check.j0] at H
   by_cases c7 : x14_1 = true
   ·subst c7
    have H1 : (some 8) = some r := by rw [if_pos rfl] at H; exact H
    clear H
    have H := H1
    clear H1
    obtain rfl := Option.some.inj H
    go_wp2
    go_ret
    exact ⟨by first | rfl | (simp [errW_none, errW_some] <;> rfl) | (simp [*, errW_none, errW_some] <;> rfl), by repeat (first | (with_reducible first | exact HB.out | apply below_alloc | apply pw_below_drewN | apply below_drew1 | refine below_set ?_ GE101.out) | exact HB.out)⟩
   ·replace c7 := Bool.eq_false_iff.mpr c7
    subst c7
    have H1 : (if (l0_1.length : Int) = 0 then (chart_Check.j1 kj1 true a0_0 l0_1 l0_2) else (chart_Check.j1 kj1 ((l0_2.length : Int) == 0) a0_0 l0_1 l0_2)) = some r := by rw [if_neg (show ¬ (false = true) by decide)] at H; exact H
    clear H
    have H := H1
    clear H1
    have HC8 := Aside0.mk H
    clear H
    go_upto_region 3 with (fail)
    go_cut [24] (fun v24 wc => ∃ (kq : Nat) (x24_7 : Bool), v24 = .bool x24_7 ∧ Aside0 (chart_Check.j1 kq x24_7 a0_0 l0_1 l0_2 = some r) ∧ Aside0 (kq ≤ kj1) ∧ Aside0 (wc.heap[gb101]? = some (.cells #[.int .i64 a0_0, (.slice A0_1 l0_1.length c0_1), (.slice A0_2 l0_2.length c0_2)] 25 (0, 0))) ∧ Aside0 (Below w.heap.size w wc))
    case first =>
     have H := HC8.out
     clear HC8
     by_cases c9 : (l0_1.length : Int) = 0
     ·rw [if_pos c9] at H
      have c9b0 : ((l0_1.length : Int) == 0) = true := beq_iff_eq.mpr c9
      have c9b1 : ((l0_1.length : Int) != 0) = false := bne_eq_false_iff_eq.mpr c9
      clear c9
      (first | rw [c9b0] | (simp only [i64_w, i32_w]; rw [c9b0]) | skip)
      have H' := Aside0.mk H
      clear H
      have hcz10_0 : wc.cell? ⟨gb101, 0, none⟩ = some (.int .i64 a0_0) := (blk_cell BK101.out 0).trans rfl
      have hcz10_1 : wc.cell? ⟨gb101, 1, none⟩ = some (.slice A0_1 l0_1.length c0_1) := (blk_cell BK101.out 1).trans rfl
      have hcz10_2 : wc.cell? ⟨gb101, 2, none⟩ = some (.slice A0_2 l0_2.length c0_2) := (blk_cell BK101.out 2).trans rfl
      have hfz10_0 := blk_frozen BK101.out 0
      have hfz10_1 := blk_frozen BK101.out 1
      have hfz10_2 := blk_frozen BK101.out 2
      go_wp2
      go_meet
      case rel => exact ⟨_, (true), (by first | rfl | (simp; done) | (simp [*]; done)), H', ⟨by have := HJ1.out; first | omega | exact Nat.le_refl _⟩, ⟨by (with_reducible repeat (first | refine blk_drewN ?_ _ | refine blk_drew ?_ | refine blk_alloc ?_ _)); exact BK101.out⟩, ⟨by repeat (first | (with_reducible first | exact HB.out | apply below_alloc | apply pw_below_drewN | apply below_drew1 | refine below_set ?_ GE101.out) | exact HB.out)⟩⟩
     ·rw [if_neg c9] at H
      have c9b0 : ((l0_1.length : Int) == 0) = false := beq_eq_false_iff_ne.mpr c9
      have c9b1 : ((l0_1.length : Int) != 0) = true := bne_iff_ne.mpr c9
      have c9b2 : ¬ (l0_1 = []) := fun h_ => c9 (by rw [h_]; rfl)
      (first | rw [c9b0] | (simp only [i64_w, i32_w]; rw [c9b0]) | skip)
      have H' := Aside0.mk H
      clear H
      have hcz11_0 : wc.cell? ⟨gb101, 0, none⟩ = some (.int .i64 a0_0) := (blk_cell BK101.out 0).trans rfl
      have hcz11_1 : wc.cell? ⟨gb101, 1, none⟩ = some (.slice A0_1 l0_1.length c0_1) := (blk_cell BK101.out 1).trans rfl
      have hcz11_2 : wc.cell? ⟨gb101, 2, none⟩ = some (.slice A0_2 l0_2.length c0_2) := (blk_cell BK101.out 2).trans rfl
      have hfz11_0 := blk_frozen BK101.out 0
      have hfz11_1 := blk_frozen BK101.out 1
      have hfz11_2 := blk_frozen BK101.out 2
      go_wp2
      go_meet
      case rel => exact ⟨_, (((l0_2.length : Int) == 0)), (by first | rfl | (simp; done) | (simp [*]; done)), H', ⟨by have := HJ1.out; first | omega | exact Nat.le_refl _⟩, ⟨by (with_reducible repeat (first | refine blk_drewN ?_ _ | refine blk_drew ?_ | refine blk_alloc ?_ _)); exact BK101.out⟩, ⟨by repeat (first | (with_reducible first | exact HB.out | apply below_alloc | apply pw_below_drewN | apply below_drew1 | refine below_set ?_ GE101.out) | exact HB.out)⟩⟩
    case rest =>
     clear HC8; try clear p2; try clear c4; try clear c4b0; try clear c7; try clear c9; try clear c9b0; try clear c9b1; try clear c9b2; try clear hcz10_0; try clear hcz10_1; try clear hcz10_2; try clear hcz11_0; try clear hcz11_1; try clear hcz11_2; try clear hcz5_0; try clear hcz5_1; try clear hcz5_2; try clear hcz6_0; try clear hcz6_1; try clear hcz6_2; try clear hfz10_0; try clear hfz10_1; try clear hfz10_2; try clear hfz11_0; try clear hfz11_1; try clear hfz11_2; try clear hfz5_0; try clear hfz5_1; try clear hfz5_2; try clear hfz6_0; try clear hfz6_1; try clear hfz6_2
     obtain ⟨kq, x24_7, rfl, HA, HJ7, BK101, HB⟩ := hcut
     cases kq with
     | zero => exact absurd HA.out (by simp [chart_Check.j1])
     | succ kj7 =>
      have H := HA.out
      clear HA
      simp only [chart_Check.j1] at H
      by_cases c12 : x24_7 = true
      ·subst c12
       have H1 : (some 7) = some r := by rw [if_pos rfl] at H; exact H
       clear H
       have H := H1
       clear H1
       obtain rfl := Option.some.inj H
       go_wp2
       go_ret
       exact ⟨by first | rfl | (simp [errW_none, errW_some] <;> rfl) | (simp [*, errW_none, errW_some] <;> rfl), by repeat (first | (with_reducible first | exact HB.out | apply below_alloc | apply pw_below_drewN | apply below_drew1 | refine below_set ?_ GE101.out) | exact HB.out)⟩
      ·replace c12 := Bool.eq_false_iff.mpr c12
       subst c12
       have H1 : (if (l0_1.length : Int) > 200 then (chart_Check.j2 kj7 true a0_0 l0_1 l0_2) else (chart_Check.j2 kj7 (decide ((l0_2.length : Int) > 12)) a0_0 l0_1 l0_2)) = some r := by rw [if_neg (show ¬ (false = true) by decide)] at H; exact H
       clear H
       have H := H1
       clear H1
       have HC13 := Aside0.mk H
       clear H
       go_upto_region 5 with (fail)
       go_cut [34] (fun v34 wc => ∃ (kq : Nat) (x34_12 : Bool), v34 = .bool x34_12 ∧ Aside0 (chart_Check.j2 kq x34_12 a0_0 l0_1 l0_2 = some r) ∧ Aside0 (kq ≤ kj7) ∧ Aside0 (wc.heap[gb101]? = some (.cells #[.int .i64 a0_0, (.slice A0_1 l0_1.length c0_1), (.slice A0_2 l0_2.length c0_2)] 25 (0, 0))) ∧ Aside0 (Below w.heap.size w wc))
       case first =>
        have H := HC13.out
        clear HC13
        by_cases c14 : (l0_1.length : Int) > 200
        ·rw [if_pos c14] at H
         have c14b0 : decide (200 < (l0_1.length : Int)) = true := decide_eq_true c14
         have c14b1 : decide (200 < l0_1.length) = true := decide_eq_true (by omega)
         clear c14
         (first | rw [c14b0] | (simp only [i64_w, i32_w]; rw [c14b0]) | skip)
         have H' := Aside0.mk H
         clear H
         have hcz15_0 : wc.cell? ⟨gb101, 0, none⟩ = some (.int .i64 a0_0) := (blk_cell BK101.out 0).trans rfl
         have hcz15_1 : wc.cell? ⟨gb101, 1, none⟩ = some (.slice A0_1 l0_1.length c0_1) := (blk_cell BK101.out 1).trans rfl
         have hcz15_2 : wc.cell? ⟨gb101, 2, none⟩ = some (.slice A0_2 l0_2.length c0_2) := (blk_cell BK101.out 2).trans rfl
         have hfz15_0 := blk_frozen BK101.out 0
         have hfz15_1 := blk_frozen BK101.out 1
         have hfz15_2 := blk_frozen BK101.out 2
         go_wp2
         go_meet
         case rel => exact ⟨_, (true), (by first | rfl | (simp; done) | (simp [*]; done)), H', ⟨by have := HJ1.out; have := HJ7.out; first | omega | exact Nat.le_refl _⟩, ⟨by (with_reducible repeat (first | refine blk_drewN ?_ _ | refine blk_drew ?_ | refine blk_alloc ?_ _)); exact BK101.out⟩, ⟨by repeat (first | (with_reducible first | exact HB.out | apply below_alloc | apply pw_below_drewN | apply below_drew1 | refine below_set ?_ GE101.out) | exact HB.out)⟩⟩
        ·rw [if_neg c14] at H
         have c14b0 : decide (200 < (l0_1.length : Int)) = false := decide_eq_false c14
         have c14b1 : decide (200 < l0_1.length) = false := decide_eq_false (by omega)
         clear c14
         (first | rw [c14b0] | (simp only [i64_w, i32_w]; rw [c14b0]) | skip)
         have H' := Aside0.mk H
         clear H
         have hcz16_0 : wc.cell? ⟨gb101, 0, none⟩ = some (.int .i64 a0_0) := (blk_cell BK101.out 0).trans rfl
         have hcz16_1 : wc.cell? ⟨gb101, 1, none⟩ = some (.slice A0_1 l0_1.length c0_1) := (blk_cell BK101.out 1).trans rfl
         have hcz16_2 : wc.cell? ⟨gb101, 2, none⟩ = some (.slice A0_2 l0_2.length c0_2) := (blk_cell BK101.out 2).trans rfl
         have hfz16_0 := blk_frozen BK101.out 0
         have hfz16_1 := blk_frozen BK101.out 1
         have hfz16_2 := blk_frozen BK101.out 2
         go_wp2
         go_meet
         case rel => exact ⟨_, (decide ((l0_2.length : Int) > 12)), (by first | rfl | (simp; done) | (simp [*]; done)), H', ⟨by have := HJ1.out; have := HJ7.out; first | omega | exact Nat.le_refl _⟩, ⟨by (with_reducible repeat (first | refine blk_drewN ?_ _ | refine blk_drew ?_ | refine blk_alloc ?_ _)); exact BK101.out⟩, ⟨by repeat (first | (with_reducible first | exact HB.out | apply below_alloc | apply pw_below_drewN | apply below_drew1 | refine below_set ?_ GE101.out) | exact HB.out)⟩⟩
       case rest =>
        clear HC13; try clear c1; try clear p2; try clear c4; try clear c4b0; try clear c7; try clear c9; try clear c9b0; try clear c9b1; try clear c9b2; try clear c12; try clear c14; try clear c14b0; try clear c14b1; try clear hcz10_0; try clear hcz10_1; try clear hcz10_2; try clear hcz11_0; try clear hcz11_1; try clear hcz11_2; try clear hcz15_0; try clear hcz15_1; try clear hcz15_2; try clear hcz16_0; try clear hcz16_1; try clear hcz16_2; try clear hcz5_0; try clear hcz5_1; try clear hcz5_2; try clear hcz6_0; try clear hcz6_1; try clear hcz6_2; try clear hfz10_0; try clear hfz10_1; try clear hfz10_2; try clear hfz11_0; try clear hfz11_1; try clear hfz11_2; try clear hfz15_0; try clear hfz15_1; try clear hfz15_2; try clear hfz16_0; try clear hfz16_1; try clear hfz16_2; try clear hfz5_0; try clear hfz5_1; try clear hfz5_2; try clear hfz6_0; try clear hfz6_1; try clear hfz6_2
        obtain ⟨kq, x34_12, rfl, HA, HJ12, BK101, HB⟩ := hcut
        cases kq with
        | zero => exact absurd HA.out (by simp [chart_Check.j2])
        | succ kj12 =>
         have H := HA.out
         clear HA
         simp only [chart_Check.j2] at H
         by_cases c17 : x34_12 = true
         ·subst c17
          have H1 : (some 3) = some r := by rw [if_pos rfl] at H; exact H
          clear H
          have H := H1
          clear H1
          obtain rfl := Option.some.inj H
          go_wp2
          go_ret
          exact ⟨by first | rfl | (simp [errW_none, errW_some] <;> rfl) | (simp [*, errW_none, errW_some] <;> rfl), by repeat (first | (with_reducible first | exact HB.out | apply below_alloc | apply pw_below_drewN | apply below_drew1 | refine below_set ?_ GE101.out) | exact HB.out)⟩
         ·replace c17 := Bool.eq_false_iff.mpr c17
          subst c17
          have H1 : (if a0_0 = 3 then (chart_Check.j3 kj12 (decide ((l0_2.length : Int) > 1)) a0_0 l0_1 l0_2) else (chart_Check.j3 kj12 false a0_0 l0_1 l0_2)) = some r := by rw [if_neg (show ¬ (false = true) by decide)] at H; exact H
          clear H
          have H := H1
          clear H1
          have HC18 := Aside0.mk H
          clear H
          go_upto_region 7 with (fail)
          go_cut [43] (fun v43 wc => ∃ (kq : Nat) (x43_17 : Bool), v43 = .bool x43_17 ∧ Aside0 (chart_Check.j3 kq x43_17 a0_0 l0_1 l0_2 = some r) ∧ Aside0 (kq ≤ kj12) ∧ Aside0 (wc.heap[gb101]? = some (.cells #[.int .i64 a0_0, (.slice A0_1 l0_1.length c0_1), (.slice A0_2 l0_2.length c0_2)] 25 (0, 0))) ∧ Aside0 (Below w.heap.size w wc))
          case first =>
           have H := HC18.out
           clear HC18
           by_cases c19 : a0_0 = 3
           ·rw [if_pos c19] at H
            have c19b0 : (a0_0 == 3) = true := beq_iff_eq.mpr c19
            have c19b1 : (a0_0 != 3) = false := bne_eq_false_iff_eq.mpr c19
            clear c19
            (first | rw [c19b0] | (simp only [i64_w, i32_w]; rw [c19b0]) | skip)
            have H' := Aside0.mk H
            clear H
            have hcz20_0 : wc.cell? ⟨gb101, 0, none⟩ = some (.int .i64 a0_0) := (blk_cell BK101.out 0).trans rfl
            have hcz20_1 : wc.cell? ⟨gb101, 1, none⟩ = some (.slice A0_1 l0_1.length c0_1) := (blk_cell BK101.out 1).trans rfl
            have hcz20_2 : wc.cell? ⟨gb101, 2, none⟩ = some (.slice A0_2 l0_2.length c0_2) := (blk_cell BK101.out 2).trans rfl
            have hfz20_0 := blk_frozen BK101.out 0
            have hfz20_1 := blk_frozen BK101.out 1
            have hfz20_2 := blk_frozen BK101.out 2
            go_wp2
            go_meet
            case rel => exact ⟨_, (decide ((l0_2.length : Int) > 1)), (by first | rfl | (simp; done) | (simp [*]; done)), H', ⟨by have := HJ1.out; have := HJ7.out; have := HJ12.out; first | omega | exact Nat.le_refl _⟩, ⟨by (with_reducible repeat (first | refine blk_drewN ?_ _ | refine blk_drew ?_ | refine blk_alloc ?_ _)); exact BK101.out⟩, ⟨by repeat (first | (with_reducible first | exact HB.out | apply below_alloc | apply pw_below_drewN | apply below_drew1 | refine below_set ?_ GE101.out) | exact HB.out)⟩⟩
           ·rw [if_neg c19] at H
            have c19b0 : (a0_0 == 3) = false := beq_eq_false_iff_ne.mpr c19
            have c19b1 : (a0_0 != 3) = true := bne_iff_ne.mpr c19
            (first | rw [c19b0] | (simp only [i64_w, i32_w]; rw [c19b0]) | skip)
            have H' := Aside0.mk H
            clear H
            have hcz21_0 : wc.cell? ⟨gb101, 0, none⟩ = some (.int .i64 a0_0) := (blk_cell BK101.out 0).trans rfl
            have hcz21_1 : wc.cell? ⟨gb101, 1, none⟩ = some (.slice A0_1 l0_1.length c0_1) := (blk_cell BK101.out 1).trans rfl
            have hcz21_2 : wc.cell? ⟨gb101, 2, none⟩ = some (.slice A0_2 l0_2.length c0_2) := (blk_cell BK101.out 2).trans rfl
            have hfz21_0 := blk_frozen BK101.out 0
            have hfz21_1 := blk_frozen BK101.out 1
            have hfz21_2 := blk_frozen BK101.out 2
            go_wp2
            go_meet
            case rel => exact ⟨_, (false), (by first | rfl | (simp; done) | (simp [*]; done)), H', ⟨by have := HJ1.out; have := HJ7.out; have := HJ12.out; first | omega | exact Nat.le_refl _⟩, ⟨by (with_reducible repeat (first | refine blk_drewN ?_ _ | refine blk_drew ?_ | refine blk_alloc ?_ _)); exact BK101.out⟩, ⟨by repeat (first | (with_reducible first | exact HB.out | apply below_alloc | apply pw_below_drewN | apply below_drew1 | refine below_set ?_ GE101.out) | exact HB.out)⟩⟩
          case rest =>
           clear HC18; try clear c1; try clear p2; try clear c4; try clear c4b0; try clear c7; try clear c9; try clear c9b0; try clear c9b1; try clear c9b2; try clear c12; try clear c14; try clear c14b0; try clear c14b1; try clear c17; try clear c19; try clear c19b0; try clear c19b1; try clear hcz10_0; try clear hcz10_1; try clear hcz10_2; try clear hcz11_0; try clear hcz11_1; try clear hcz11_2; try clear hcz15_0; try clear hcz15_1; try clear hcz15_2; try clear hcz16_0; try clear hcz16_1; try clear hcz16_2; try clear hcz20_0; try clear hcz20_1; try clear hcz20_2; try clear hcz21_0; try clear hcz21_1; try clear hcz21_2; try clear hcz5_0; try clear hcz5_1; try clear hcz5_2; try clear hcz6_0; try clear hcz6_1; try clear hcz6_2; try clear hfz10_0; try clear hfz10_1; try clear hfz10_2; try clear hfz11_0; try clear hfz11_1; try clear hfz11_2; try clear hfz15_0; try clear hfz15_1; try clear hfz15_2; try clear hfz16_0; try clear hfz16_1; try clear hfz16_2; try clear hfz20_0; try clear hfz20_1; try clear hfz20_2; try clear hfz21_0; try clear hfz21_1; try clear hfz21_2; try clear hfz5_0; try clear hfz5_1; try clear hfz5_2; try clear hfz6_0; try clear hfz6_1; try clear hfz6_2
           obtain ⟨kq, x43_17, rfl, HA, HJ17, BK101, HB⟩ := hcut
           cases kq with
           | zero => exact absurd HA.out (by simp [chart_Check.j3])
           | succ kj17 =>
            have H := HA.out
            clear HA
            simp only [chart_Check.j3] at H
            by_cases c22 : x43_17 = true
            ·subst c22
             have H1 : (some 4) = some r := by rw [if_pos rfl] at H; exact H
             clear H
             have H := H1
             clear H1
             obtain rfl := Option.some.inj H
             go_wp2
             go_ret
             exact ⟨by first | rfl | (simp [errW_none, errW_some] <;> rfl) | (simp [*, errW_none, errW_some] <;> rfl), by repeat (first | (with_reducible first | exact HB.out | apply below_alloc | apply pw_below_drewN | apply below_drew1 | refine below_set ?_ GE101.out) | exact HB.out)⟩
            ·replace c22 := Bool.eq_false_iff.mpr c22
             subst c22
             have H1 : (chart_Check.l0 kj17 l0_2 (l0_2.length : Int) 0 a0_0 l0_1 l0_2) = some r := by rw [if_neg (show ¬ (false = true) by decide)] at H; exact H
             clear H
             have H := H1
             clear H1
             have H' := Aside0.mk H
             clear H
             have hcz23_0 : wc.cell? ⟨gb101, 0, none⟩ = some (.int .i64 a0_0) := (blk_cell BK101.out 0).trans rfl
             have hcz23_1 : wc.cell? ⟨gb101, 1, none⟩ = some (.slice A0_1 l0_1.length c0_1) := (blk_cell BK101.out 1).trans rfl
             have hcz23_2 : wc.cell? ⟨gb101, 2, none⟩ = some (.slice A0_2 l0_2.length c0_2) := (blk_cell BK101.out 2).trans rfl
             have hfz23_0 := blk_frozen BK101.out 0
             have hfz23_1 := blk_frozen BK101.out 1
             have hfz23_2 := blk_frozen BK101.out 2
             go_wp2
             go_loopg [47] kj17 (fun kq v47 w' => ∃ (x47_5 : Int), v47 = .int .i64 x47_5 ∧ Aside0 (chart_Check.l0 kq l0_2 (l0_2.length : Int) x47_5 a0_0 l0_1 l0_2 = some r) ∧ Aside0 (kq ≤ kj17) ∧ Aside0 (w'.heap[gb101]? = some (.cells #[.int .i64 a0_0, (.slice A0_1 l0_1.length c0_1), (.slice A0_2 l0_2.length c0_2)] 25 (0, 0))) ∧ Aside0 (Below w.heap.size w w'))
             case atStart => exact ⟨(0), (by first | rfl | (simp; done) | (simp [*]; done)), H', ⟨Nat.le_refl _⟩, ⟨by (with_reducible repeat (first | refine blk_drewN ?_ _ | refine blk_drew ?_ | refine blk_alloc ?_ _)); exact BK101.out⟩, ⟨by repeat (first | (with_reducible first | exact HB.out | apply below_alloc | apply pw_below_drewN | apply below_drew1 | refine below_set ?_ GE101.out) | exact HB.out)⟩⟩
             case round =>
              clear H'
              try clear c1; try clear c2; try clear p2; try clear c4; try clear c4b0; try clear c7; try clear c9; try clear c9b0; try clear c9b1; try clear c9b2; try clear c12; try clear c14; try clear c14b0; try clear c14b1; try clear c17; try clear c19; try clear c19b0; try clear c19b1; try clear c22; try clear hcz10_0; try clear hcz10_1; try clear hcz10_2; try clear hcz11_0; try clear hcz11_1; try clear hcz11_2; try clear hcz15_0; try clear hcz15_1; try clear hcz15_2; try clear hcz16_0; try clear hcz16_1; try clear hcz16_2; try clear hcz20_0; try clear hcz20_1; try clear hcz20_2; try clear hcz21_0; try clear hcz21_1; try clear hcz21_2; try clear hcz23_0; try clear hcz23_1; try clear hcz23_2; try clear hcz5_0; try clear hcz5_1; try clear hcz5_2; try clear hcz6_0; try clear hcz6_1; try clear hcz6_2; try clear hfz10_0; try clear hfz10_1; try clear hfz10_2; try clear hfz11_0; try clear hfz11_1; try clear hfz11_2; try clear hfz15_0; try clear hfz15_1; try clear hfz15_2; try clear hfz16_0; try clear hfz16_1; try clear hfz16_2; try clear hfz20_0; try clear hfz20_1; try clear hfz20_2; try clear hfz21_0; try clear hfz21_1; try clear hfz21_2; try clear hfz23_0; try clear hfz23_1; try clear hfz23_2; try clear hfz5_0; try clear hfz5_1; try clear hfz5_2; try clear hfz6_0; try clear hfz6_1; try clear hfz6_2
              obtain ⟨x47_5, rfl, HA, HK5, BK101, HB⟩ := hrel
              cases gk with
              | zero => exact absurd HA.out (by simp [chart_Check.l0])
              | succ k5 =>
               have H := HA.out
               clear HA
               simp only [chart_Check.l0] at H
               by_cases c24 : x47_5 < (l0_2.length : Int)
               ·rw [if_pos c24] at H
                have c24b0 : decide (x47_5 < (l0_2.length : Int)) = true := decide_eq_true c24
                clear c24
                by_cases c25 : 0 ≤ x47_5
                ·rw [if_pos c25] at H
                 have c25b0 : decide (0 ≤ x47_5) = true := decide_eq_true c25
                 clear c25
                 by_cases c26 : x47_5 < (l0_2.length : Int)
                 ·rw [if_pos c26] at H
                  have c26b0 : decide (x47_5 < (l0_2.length : Int)) = true := decide_eq_true c26
                  clear c26
                  by_cases c27 : ((rd_L1 l0_2 x47_5).length : Int) = (l0_1.length : Int)
                  ·rw [if_pos c27] at H
                   have c27b0 : (((rd_L1 l0_2 x47_5).length : Int) == (l0_1.length : Int)) = true := beq_iff_eq.mpr c27
                   have c27b1 : (((rd_L1 l0_2 x47_5).length : Int) != (l0_1.length : Int)) = false := bne_eq_false_iff_eq.mpr c27
                   have c27b2 : ((rd_L1 l0_2 x47_5).length == l0_1.length) = true := by first | simpa using c27 | (simp at c27 ⊢; omega)
                   clear c27
                   have H' := Aside0.mk H
                   clear H
                   have p102 : 0 ≤ (x47_5 : Int) := of_decide_eq_true (by first | (with_reducible assumption) | assumption)
                   have q102 : x47_5 < (l0_2.length : Int) := of_decide_eq_true (by first | (with_reducible assumption) | assumption)
                   obtain ⟨ad102, A102_0, c102_0, e102, hx102_0, hl102_0, hi102_0⟩ := at_L1 HR0_2.out x47_5 p102 q102
                   cases e102
                   replace hx102_0 := (HB.out.cell (World.block_lt_of_cell? w _ hx102_0)).trans hx102_0
                   have HR102_0 := Aside0.mk hi102_0
                   have HC102_0 := Aside0.mk hl102_0
                   clear hi102_0 hl102_0
                   replace p102 := eq_true p102
                   replace q102 := eq_true q102
                   have hcz28_0 : wr.cell? ⟨gb101, 0, none⟩ = some (.int .i64 a0_0) := (blk_cell BK101.out 0).trans rfl
                   have hcz28_1 : wr.cell? ⟨gb101, 1, none⟩ = some (.slice A0_1 l0_1.length c0_1) := (blk_cell BK101.out 1).trans rfl
                   have hcz28_2 : wr.cell? ⟨gb101, 2, none⟩ = some (.slice (some ad102) l0_2.length c0_2) := (blk_cell BK101.out 2).trans rfl
                   have hfz28_0 := blk_frozen BK101.out 0
                   have hfz28_1 := blk_frozen BK101.out 1
                   have hfz28_2 := blk_frozen BK101.out 2
                   go_wp2
                   go_loopg [59] k5 (fun kq v59 w' => ∃ (x59_6 : Int), v59 = .int .i64 x59_6 ∧ Aside0 (chart_Check.l1 kq l0_2 (l0_2.length : Int) x47_5 (rd_L1 l0_2 x47_5) ((rd_L1 l0_2 x47_5).length : Int) x59_6 a0_0 l0_1 l0_2 = some r) ∧ Aside0 (kq ≤ k5) ∧ Aside0 (w'.heap[gb101]? = some (.cells #[.int .i64 a0_0, (.slice A0_1 l0_1.length c0_1), (.slice (some ad102) l0_2.length c0_2)] 25 (0, 0))) ∧ Aside0 (Below w.heap.size w w'))
                   case atStart => exact ⟨(0), (by first | rfl | (simp; done) | (simp [*]; done)), H', ⟨Nat.le_refl _⟩, ⟨by (with_reducible repeat (first | refine blk_drewN ?_ _ | refine blk_drew ?_ | refine blk_alloc ?_ _)); exact BK101.out⟩, ⟨by repeat (first | (with_reducible first | exact HB.out | apply below_alloc | apply pw_below_drewN | apply below_drew1 | refine below_set ?_ GE101.out) | exact HB.out)⟩⟩
                   case round =>
                    clear H'
                    try clear c1; try clear p1; try clear q1; try clear hx1; try clear c2; try clear p2; try clear c4; try clear c4b0; try clear c7; try clear c9; try clear c9b0; try clear c9b1; try clear c9b2; try clear c10; try clear p10; try clear q10; try clear hx10; try clear c12; try clear c14; try clear c14b0; try clear c14b1; try clear c17; try clear c19; try clear c19b0; try clear c19b1; try clear c22; try clear c24; try clear c24b0; try clear c25; try clear c25b0; try clear c26; try clear c26b0; try clear c27; try clear c27b0; try clear c27b1; try clear c27b2; try clear hcz10_0; try clear hcz10_1; try clear hcz10_2; try clear hcz11_0; try clear hcz11_1; try clear hcz11_2; try clear hcz15_0; try clear hcz15_1; try clear hcz15_2; try clear hcz16_0; try clear hcz16_1; try clear hcz16_2; try clear hcz20_0; try clear hcz20_1; try clear hcz20_2; try clear hcz21_0; try clear hcz21_1; try clear hcz21_2; try clear hcz23_0; try clear hcz23_1; try clear hcz23_2; try clear hcz28_0; try clear hcz28_1; try clear hcz28_2; try clear hcz5_0; try clear hcz5_1; try clear hcz5_2; try clear hcz6_0; try clear hcz6_1; try clear hcz6_2; try clear hfz10_0; try clear hfz10_1; try clear hfz10_2; try clear hfz11_0; try clear hfz11_1; try clear hfz11_2; try clear hfz15_0; try clear hfz15_1; try clear hfz15_2; try clear hfz16_0; try clear hfz16_1; try clear hfz16_2; try clear hfz20_0; try clear hfz20_1; try clear hfz20_2; try clear hfz21_0; try clear hfz21_1; try clear hfz21_2; try clear hfz23_0; try clear hfz23_1; try clear hfz23_2; try clear hfz28_0; try clear hfz28_1; try clear hfz28_2; try clear hfz5_0; try clear hfz5_1; try clear hfz5_2; try clear hfz6_0; try clear hfz6_1; try clear hfz6_2; try clear hx102_0; try clear p102; try clear q102
                    obtain ⟨x59_6, rfl, HA, HK6, BK101, HB⟩ := hrel
                    cases gk with
                    | zero => exact absurd HA.out (by simp [chart_Check.l1])
                    | succ k6 =>
                     have H := HA.out
                     clear HA
                     simp only [chart_Check.l1] at H
                     by_cases c29 : x59_6 < ((rd_L1 l0_2 x47_5).length : Int)
                     ·rw [if_pos c29] at H
                      have c29b0 : decide (x59_6 < ((rd_L1 l0_2 x47_5).length : Int)) = true := decide_eq_true c29
                      clear c29
                      by_cases c30 : 0 ≤ x59_6
                      ·rw [if_pos c30] at H
                       have c30b0 : decide (0 ≤ x59_6) = true := decide_eq_true c30
                       clear c30
                       by_cases c31 : x59_6 < ((rd_L1 l0_2 x47_5).length : Int)
                       ·rw [if_pos c31] at H
                        have c31b0 : decide (x59_6 < ((rd_L1 l0_2 x47_5).length : Int)) = true := decide_eq_true c31
                        clear c31
                        by_cases c32 : (rd (rd_L1 l0_2 x47_5) x59_6) < (-83333333333)
                        ·rw [if_pos c32] at H
                         have c32b0 : decide ((rd (rd_L1 l0_2 x47_5) x59_6) < (-83333333333)) = true := decide_eq_true c32
                         clear c32
                         obtain rfl := Option.some.inj H
                         have p103 : 0 ≤ (x59_6 : Int) := of_decide_eq_true (by first | (with_reducible assumption) | assumption)
                         have q103 : x59_6 < ((rd_L1 l0_2 x47_5).length : Int) := of_decide_eq_true (by first | (with_reducible assumption) | assumption)
                         obtain ⟨ad103, e103, hx103_0⟩ := Kd.at_int HR102_0.out x59_6 p103 q103
                         cases e103
                         replace hx103_0 := (HB.out.cell (World.block_lt_of_cell? w _ hx103_0)).trans hx103_0
                         replace p103 := eq_true p103
                         replace q103 := eq_true q103
                         go_wp2
                         go_ret
                         exact ⟨by first | rfl | (simp [errW_none, errW_some] <;> rfl) | (simp [*, errW_none, errW_some] <;> rfl), by repeat (first | (with_reducible first | exact HB.out | apply below_alloc | apply pw_below_drewN | apply below_drew1 | refine below_set ?_ GE101.out) | exact HB.out)⟩
                        ·rw [if_neg c32] at H
                         have c32b0 : decide ((rd (rd_L1 l0_2 x47_5) x59_6) < (-83333333333)) = false := decide_eq_false c32
                         clear c32
                         by_cases c33 : (rd (rd_L1 l0_2 x47_5) x59_6) > 83333333333
                         ·rw [if_pos c33] at H
                          have c33b0 : decide (83333333333 < (rd (rd_L1 l0_2 x47_5) x59_6)) = true := decide_eq_true c33
                          clear c33
                          obtain rfl := Option.some.inj H
                          have p103 : 0 ≤ (x59_6 : Int) := of_decide_eq_true (by first | (with_reducible assumption) | assumption)
                          have q103 : x59_6 < ((rd_L1 l0_2 x47_5).length : Int) := of_decide_eq_true (by first | (with_reducible assumption) | assumption)
                          obtain ⟨ad103, e103, hx103_0⟩ := Kd.at_int HR102_0.out x59_6 p103 q103
                          cases e103
                          replace hx103_0 := (HB.out.cell (World.block_lt_of_cell? w _ hx103_0)).trans hx103_0
                          replace p103 := eq_true p103
                          replace q103 := eq_true q103
                          go_wp2
                          go_ret
                          exact ⟨by first | rfl | (simp [errW_none, errW_some] <;> rfl) | (simp [*, errW_none, errW_some] <;> rfl), by repeat (first | (with_reducible first | exact HB.out | apply below_alloc | apply pw_below_drewN | apply below_drew1 | refine below_set ?_ GE101.out) | exact HB.out)⟩
                         ·rw [if_neg c33] at H
                          have c33b0 : decide (83333333333 < (rd (rd_L1 l0_2 x47_5) x59_6)) = false := decide_eq_false c33
                          clear c33
                          by_cases c34 : (rd (rd_L1 l0_2 x47_5) x59_6) < 0
                          ·rw [if_pos c34] at H
                           have c34b0 : decide ((rd (rd_L1 l0_2 x47_5) x59_6) < 0) = true := decide_eq_true c34
                           clear c34
                           by_cases c35 : a0_0 = 3
                           ·rw [if_pos c35] at H
                            have c35b0 : (a0_0 == 3) = true := beq_iff_eq.mpr c35
                            have c35b1 : (a0_0 != 3) = false := bne_eq_false_iff_eq.mpr c35
                            clear c35
                            obtain rfl := Option.some.inj H
                            have p103 : 0 ≤ (x59_6 : Int) := of_decide_eq_true (by first | (with_reducible assumption) | assumption)
                            have q103 : x59_6 < ((rd_L1 l0_2 x47_5).length : Int) := of_decide_eq_true (by first | (with_reducible assumption) | assumption)
                            obtain ⟨ad103, e103, hx103_0⟩ := Kd.at_int HR102_0.out x59_6 p103 q103
                            cases e103
                            replace hx103_0 := (HB.out.cell (World.block_lt_of_cell? w _ hx103_0)).trans hx103_0
                            replace p103 := eq_true p103
                            replace q103 := eq_true q103
                            have hcz36_0 : wr.cell? ⟨gb101, 0, none⟩ = some (.int .i64 a0_0) := (blk_cell BK101.out 0).trans rfl
                            have hcz36_1 : wr.cell? ⟨gb101, 1, none⟩ = some (.slice A0_1 l0_1.length c0_1) := (blk_cell BK101.out 1).trans rfl
                            have hcz36_2 : wr.cell? ⟨gb101, 2, none⟩ = some (.slice (some ad102) l0_2.length c0_2) := (blk_cell BK101.out 2).trans rfl
                            have hfz36_0 := blk_frozen BK101.out 0
                            have hfz36_1 := blk_frozen BK101.out 1
                            have hfz36_2 := blk_frozen BK101.out 2
                            go_wp2
                            go_ret
                            exact ⟨by first | rfl | (simp [errW_none, errW_some] <;> rfl) | (simp [*, errW_none, errW_some] <;> rfl), by repeat (first | (with_reducible first | exact HB.out | apply below_alloc | apply pw_below_drewN | apply below_drew1 | refine below_set ?_ GE101.out) | exact HB.out)⟩
                           ·rw [if_neg c35] at H
                            have c35b0 : (a0_0 == 3) = false := beq_eq_false_iff_ne.mpr c35
                            have c35b1 : (a0_0 != 3) = true := bne_iff_ne.mpr c35
                            by_cases c37 : a0_0 = 1
                            ·rw [if_pos c37] at H
                             have c37b0 : (a0_0 == 1) = true := beq_iff_eq.mpr c37
                             have c37b1 : (a0_0 != 1) = false := bne_eq_false_iff_eq.mpr c37
                             clear c37
                             obtain rfl := Option.some.inj H
                             have p103 : 0 ≤ (x59_6 : Int) := of_decide_eq_true (by first | (with_reducible assumption) | assumption)
                             have q103 : x59_6 < ((rd_L1 l0_2 x47_5).length : Int) := of_decide_eq_true (by first | (with_reducible assumption) | assumption)
                             obtain ⟨ad103, e103, hx103_0⟩ := Kd.at_int HR102_0.out x59_6 p103 q103
                             cases e103
                             replace hx103_0 := (HB.out.cell (World.block_lt_of_cell? w _ hx103_0)).trans hx103_0
                             replace p103 := eq_true p103
                             replace q103 := eq_true q103
                             have hcz38_0 : wr.cell? ⟨gb101, 0, none⟩ = some (.int .i64 a0_0) := (blk_cell BK101.out 0).trans rfl
                             have hcz38_1 : wr.cell? ⟨gb101, 1, none⟩ = some (.slice A0_1 l0_1.length c0_1) := (blk_cell BK101.out 1).trans rfl
                             have hcz38_2 : wr.cell? ⟨gb101, 2, none⟩ = some (.slice (some ad102) l0_2.length c0_2) := (blk_cell BK101.out 2).trans rfl
                             have hfz38_0 := blk_frozen BK101.out 0
                             have hfz38_1 := blk_frozen BK101.out 1
                             have hfz38_2 := blk_frozen BK101.out 2
                             go_wp2
                             go_ret
                             exact ⟨by first | rfl | (simp [errW_none, errW_some] <;> rfl) | (simp [*, errW_none, errW_some] <;> rfl), by repeat (first | (with_reducible first | exact HB.out | apply below_alloc | apply pw_below_drewN | apply below_drew1 | refine below_set ?_ GE101.out) | exact HB.out)⟩
                            ·rw [if_neg c37] at H
                             have c37b0 : (a0_0 == 1) = false := beq_eq_false_iff_ne.mpr c37
                             have c37b1 : (a0_0 != 1) = true := bne_iff_ne.mpr c37
                             have H' := Aside0.mk H
                             clear H
                             have p103 : 0 ≤ (x59_6 : Int) := of_decide_eq_true (by first | (with_reducible assumption) | assumption)
                             have q103 : x59_6 < ((rd_L1 l0_2 x47_5).length : Int) := of_decide_eq_true (by first | (with_reducible assumption) | assumption)
                             obtain ⟨ad103, e103, hx103_0⟩ := Kd.at_int HR102_0.out x59_6 p103 q103
                             cases e103
                             replace hx103_0 := (HB.out.cell (World.block_lt_of_cell? w _ hx103_0)).trans hx103_0
                             replace p103 := eq_true p103
                             replace q103 := eq_true q103
                             have hcz39_0 : wr.cell? ⟨gb101, 0, none⟩ = some (.int .i64 a0_0) := (blk_cell BK101.out 0).trans rfl
                             have hcz39_1 : wr.cell? ⟨gb101, 1, none⟩ = some (.slice A0_1 l0_1.length c0_1) := (blk_cell BK101.out 1).trans rfl
                             have hcz39_2 : wr.cell? ⟨gb101, 2, none⟩ = some (.slice (some ad102) l0_2.length c0_2) := (blk_cell BK101.out 2).trans rfl
                             have hfz39_0 := blk_frozen BK101.out 0
                             have hfz39_1 := blk_frozen BK101.out 1
                             have hfz39_2 := blk_frozen BK101.out 2
                             go_wp2
                             go_roundg k6
                             case measure => have := HJ1.out; have := HJ7.out; have := HJ12.out; have := HJ17.out; have := HK5.out; have := HK6.out; omega
                             case rel => exact ⟨(wrap64 (x59_6 + 1)), (by first | rfl | (simp; done) | (simp [*]; done)), H', ⟨by have := HJ1.out; have := HJ7.out; have := HJ12.out; have := HJ17.out; have := HK5.out; have := HK6.out; omega⟩, ⟨by (with_reducible repeat (first | refine blk_drewN ?_ _ | refine blk_drew ?_ | refine blk_alloc ?_ _)); exact BK101.out⟩, ⟨by repeat (first | (with_reducible first | exact HB.out | apply below_alloc | apply pw_below_drewN | apply below_drew1 | refine below_set ?_ GE101.out) | exact HB.out)⟩⟩
                          ·rw [if_neg c34] at H
                           have c34b0 : decide ((rd (rd_L1 l0_2 x47_5) x59_6) < 0) = false := decide_eq_false c34
                           clear c34
                           have H' := Aside0.mk H
                           clear H
                           have p103 : 0 ≤ (x59_6 : Int) := of_decide_eq_true (by first | (with_reducible assumption) | assumption)
                           have q103 : x59_6 < ((rd_L1 l0_2 x47_5).length : Int) := of_decide_eq_true (by first | (with_reducible assumption) | assumption)
                           obtain ⟨ad103, e103, hx103_0⟩ := Kd.at_int HR102_0.out x59_6 p103 q103
                           cases e103
                           replace hx103_0 := (HB.out.cell (World.block_lt_of_cell? w _ hx103_0)).trans hx103_0
                           replace p103 := eq_true p103
                           replace q103 := eq_true q103
                           go_wp2
                           go_roundg k6
                           case measure => have := HJ1.out; have := HJ7.out; have := HJ12.out; have := HJ17.out; have := HK5.out; have := HK6.out; omega
                           case rel => exact ⟨(wrap64 (x59_6 + 1)), (by first | rfl | (simp; done) | (simp [*]; done)), H', ⟨by have := HJ1.out; have := HJ7.out; have := HJ12.out; have := HJ17.out; have := HK5.out; have := HK6.out; omega⟩, ⟨by (with_reducible repeat (first | refine blk_drewN ?_ _ | refine blk_drew ?_ | refine blk_alloc ?_ _)); exact BK101.out⟩, ⟨by repeat (first | (with_reducible first | exact HB.out | apply below_alloc | apply pw_below_drewN | apply below_drew1 | refine below_set ?_ GE101.out) | exact HB.out)⟩⟩
                       ·rw [if_neg c31] at H
                        exact absurd H (by simp)
                      ·rw [if_neg c30] at H
                       exact absurd H (by simp)
                     ·rw [if_neg c29] at H
                      have c29b0 : decide (x59_6 < ((rd_L1 l0_2 x47_5).length : Int)) = false := decide_eq_false c29
                      clear c29
                      have H' := Aside0.mk H
                      clear H
                      go_wp2
                      go_roundg k6
                      case measure => have := HJ1.out; have := HJ7.out; have := HJ12.out; have := HJ17.out; have := HK5.out; have := HK6.out; omega
                      case rel => exact ⟨(wrap64 (x47_5 + 1)), (by first | rfl | (simp; done) | (simp [*]; done)), H', ⟨by have := HJ1.out; have := HJ7.out; have := HJ12.out; have := HJ17.out; have := HK5.out; have := HK6.out; omega⟩, ⟨by (with_reducible repeat (first | refine blk_drewN ?_ _ | refine blk_drew ?_ | refine blk_alloc ?_ _)); exact BK101.out⟩, ⟨by repeat (first | (with_reducible first | exact HB.out | apply below_alloc | apply pw_below_drewN | apply below_drew1 | refine below_set ?_ GE101.out) | exact HB.out)⟩⟩
                  ·rw [if_neg c27] at H
                   have c27b0 : (((rd_L1 l0_2 x47_5).length : Int) == (l0_1.length : Int)) = false := beq_eq_false_iff_ne.mpr c27
                   have c27b1 : (((rd_L1 l0_2 x47_5).length : Int) != (l0_1.length : Int)) = true := bne_iff_ne.mpr c27
                   have c27b2 : ((rd_L1 l0_2 x47_5).length == l0_1.length) = false := by first | simpa using c27 | (simp at c27 ⊢; omega)
                   obtain rfl := Option.some.inj H
                   have p102 : 0 ≤ (x47_5 : Int) := of_decide_eq_true (by first | (with_reducible assumption) | assumption)
                   have q102 : x47_5 < (l0_2.length : Int) := of_decide_eq_true (by first | (with_reducible assumption) | assumption)
                   obtain ⟨ad102, A102_0, c102_0, e102, hx102_0, hl102_0, hi102_0⟩ := at_L1 HR0_2.out x47_5 p102 q102
                   cases e102
                   replace hx102_0 := (HB.out.cell (World.block_lt_of_cell? w _ hx102_0)).trans hx102_0
                   have HR102_0 := Aside0.mk hi102_0
                   have HC102_0 := Aside0.mk hl102_0
                   clear hi102_0 hl102_0
                   replace p102 := eq_true p102
                   replace q102 := eq_true q102
                   have hcz40_0 : wr.cell? ⟨gb101, 0, none⟩ = some (.int .i64 a0_0) := (blk_cell BK101.out 0).trans rfl
                   have hcz40_1 : wr.cell? ⟨gb101, 1, none⟩ = some (.slice A0_1 l0_1.length c0_1) := (blk_cell BK101.out 1).trans rfl
                   have hcz40_2 : wr.cell? ⟨gb101, 2, none⟩ = some (.slice (some ad102) l0_2.length c0_2) := (blk_cell BK101.out 2).trans rfl
                   have hfz40_0 := blk_frozen BK101.out 0
                   have hfz40_1 := blk_frozen BK101.out 1
                   have hfz40_2 := blk_frozen BK101.out 2
                   go_wp2
                   go_ret
                   exact ⟨by first | rfl | (simp [errW_none, errW_some] <;> rfl) | (simp [*, errW_none, errW_some] <;> rfl), by repeat (first | (with_reducible first | exact HB.out | apply below_alloc | apply pw_below_drewN | apply below_drew1 | refine below_set ?_ GE101.out) | exact HB.out)⟩
                 ·rw [if_neg c26] at H
                  exact absurd H (by simp)
                ·rw [if_neg c25] at H
                 exact absurd H (by simp)
               ·rw [if_neg c24] at H
                have c24b0 : decide (x47_5 < (l0_2.length : Int)) = false := decide_eq_false c24
                clear c24
                obtain rfl := Option.some.inj H
                go_wp2
                go_ret
                exact ⟨by first | rfl | (simp [errW_none, errW_some] <;> rfl) | (simp [*, errW_none, errW_some] <;> rfl), by repeat (first | (with_reducible first | exact HB.out | apply below_alloc | apply pw_below_drewN | apply below_drew1 | refine below_set ?_ GE101.out) | exact HB.out)⟩

end Go.Proofs.Ytemginkjkmmimaa.QCB
