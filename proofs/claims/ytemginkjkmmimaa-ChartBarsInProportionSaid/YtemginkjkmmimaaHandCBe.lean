/- Walked by hand: chart.Bars, whole: its early answers, and the bars. -/
import Derived.Test.YtemginkjkmmimaaHandCBd
import Derived.Test.YtemginkjkmmimaaPureCBa
namespace Go.Proofs.Ytemginkjkmmimaa.HandCB
open Go.Proofs.Ytemginkjkmmimaa.Lib (w64)
open Go.RowKit Go.Proofs.YtemginkjkmmimaaW.PrintWords Go.Proofs.YtemginkjkmmimaaW.PrintLast Go.Proofs.YtemginkjkmmimaaW.PrintMore Go.Proofs.Ytemginkjkmmimaa.QCB
set_option linter.unusedVariables false
attribute [local go_sem] max2_int min2_int max_two min_two
section
variable (kr : Nat) (kind : Int) (A1 : Option Addr) (c1 : Nat) (nm : List ByteArray) (A2 : Option Addr) (c2 : Nat) (ss : List (List Int)) (lo hi st wd ht : Int) (w : World)
    (hr1 : Kd.C Kd.string w A1 nm.length nm) (hc1 : nm.length ≤ c1) (hr2 : kL.C w A2 ss.length ss) (hc2 : ss.length ≤ c2)
include hr1 hc1 hr2 hc2 in
set_option maxHeartbeats 8000000 in
set_option maxRecDepth 100000 in
theorem bars_e1 (low high r : Int) (hR : chart_Range.f kr kind nm ss = some (low, high, r)) (h0 : r ≠ 0) :
    Calls Try.prog 7 #[.agg #[.int .i64 kind, .slice A1 nm.length c1, .slice A2 ss.length c2], .agg #[.int .i64 lo, .int .i64 hi, .int .i64 st], .int .i64 wd, .int .i64 ht] w fun e w' => ∃ v0_ : Value, e = .returned (.tuple #[v0_, .int .i64 r]) ∧ Kd.R k42 42 w' w.heap.size (fun _ => True) v0_ [] ∧ Below w.heap.size w w' := by
  have hu25 := Try.underlying25
  have hu27 := Try.underlying27
  have hu57 := Try.underlying57
  have HR1 := Aside0.mk hr1
  have HC1 := Aside0.mk hc1
  have HR2 := Aside0.mk hr2
  have HC2 := Aside0.mk hc2
  have HR := Aside0.mk hR
  have HB := Aside0.mk (Below.refl w.heap.size w)
  have n0 : (r != 0) = true := bne_iff_ne.2 h0
  clear h0
  clear hr1 hc1 hr2 hc2 hR
  go_enter Try.func7, Try.ntmps7
  go_upto_region 1 with (first
    | ((with_reducible refine gate_dst (N := 4) rfl ?_); refine box_event ?hg (N := 4) ?hd (cs := #[.int .i64 kind, .slice A1 nm.length c1, .slice A2 ss.length c2]) (t := 25) ?hr ?_; (case hd => rfl); (case hg => rfl); (case hr => first | (go_simp; done) | (go_simp; rfl)); intro gb4 hg w5 hbox hb; (have hbb := below_step (by repeat (first | (with_reducible first | exact HB.out | apply below_alloc | apply pw_below_drewN | apply below_drew1) | exact HB.out)) hb); (have hge : w.heap.size ≤ gb4 := by rw [hg]; exact (below_size (by repeat (first | (with_reducible first | exact HB.out | apply below_alloc | apply pw_below_drewN | apply below_drew1) | exact HB.out)))); clear HB; (have HB := Aside0.mk hbb); (have BK4 := Aside0.mk hbox); (have GE4 := Aside0.mk hge); clear hb hbox hg hbb hge)
    | ((with_reducible refine gate_dst (N := 5) rfl ?_); refine box_event ?hg (N := 5) ?hd (cs := #[.int .i64 lo, .int .i64 hi, .int .i64 st]) (t := 27) ?hr ?_; (case hd => rfl); (case hg => rfl); (case hr => first | (go_simp; done) | (go_simp; rfl)); intro gb5 hg w6 hbox hb; (have hbb := below_step (by repeat (first | (with_reducible first | exact HB.out | apply below_alloc | apply pw_below_drewN | apply below_drew1) | exact HB.out)) hb); (have hbk4 := blk_below BK4.out hb); clear HB BK4; (have HB := Aside0.mk hbb); (have BK4 := Aside0.mk hbk4); (have BK5 := Aside0.mk hbox); clear hb hbox hg hbb hbk4))
  have hcz4_0 : w6.cell? ⟨gb4, 0, none⟩ = some (.int .i64 kind) := (blk_cell BK4.out 0).trans rfl
  have hcz4_1 : w6.cell? ⟨gb4, 1, none⟩ = some (.slice A1 nm.length c1) := (blk_cell BK4.out 1).trans rfl
  have hcz4_2 : w6.cell? ⟨gb4, 2, none⟩ = some (.slice A2 ss.length c2) := (blk_cell BK4.out 2).trans rfl
  go_upto_region 2 with (go_at_call 6; refine (chart_Range.calls kr kind A1 c1 nm A2 c2 ss low high r _ (Kd.C_below HR1.out HB.out) HC1.out (Kd.C_below HR2.out HB.out) HC2.out HR.out).mono ?_; rintro e w7 ⟨rfl, hb⟩; (have hbb := below_step HB.out hb); (have hbk4 := blk_below BK4.out hb); (have hbk5 := blk_below BK5.out hb); clear HB BK4 BK5; (have HB := Aside0.mk hbb); (have BK4 := Aside0.mk hbk4); (have BK5 := Aside0.mk hbk5); clear hb hbb hbk4 hbk5)
  clear hcz4_0 hcz4_1 hcz4_2
  go_wp2
  go_ret2
  exact ⟨_, rfl, Kd.R_nil _ _ _ _ _, HB.out⟩
include hr1 hc1 hr2 hc2 in
set_option maxHeartbeats 8000000 in
set_option maxRecDepth 100000 in
theorem bars_e2 (low high r : Int) (hR : chart_Range.f kr kind nm ss = some (low, high, 0)) (hC : scale_Check.f kr lo hi st = some r) (h0 : r ≠ 0) :
    Calls Try.prog 7 #[.agg #[.int .i64 kind, .slice A1 nm.length c1, .slice A2 ss.length c2], .agg #[.int .i64 lo, .int .i64 hi, .int .i64 st], .int .i64 wd, .int .i64 ht] w fun e w' => ∃ v0_ : Value, e = .returned (.tuple #[v0_, .int .i64 r]) ∧ Kd.R k42 42 w' w.heap.size (fun _ => True) v0_ [] ∧ Below w.heap.size w w' := by
  have hu25 := Try.underlying25
  have hu27 := Try.underlying27
  have hu57 := Try.underlying57
  have HR1 := Aside0.mk hr1
  have HC1 := Aside0.mk hc1
  have HR2 := Aside0.mk hr2
  have HC2 := Aside0.mk hc2
  have HR := Aside0.mk hR
  have HC := Aside0.mk hC
  have HB := Aside0.mk (Below.refl w.heap.size w)
  have n0 : (r != 0) = true := bne_iff_ne.2 h0
  clear h0
  clear hr1 hc1 hr2 hc2 hR hC
  go_enter Try.func7, Try.ntmps7
  go_upto_region 1 with (first
    | ((with_reducible refine gate_dst (N := 4) rfl ?_); refine box_event ?hg (N := 4) ?hd (cs := #[.int .i64 kind, .slice A1 nm.length c1, .slice A2 ss.length c2]) (t := 25) ?hr ?_; (case hd => rfl); (case hg => rfl); (case hr => first | (go_simp; done) | (go_simp; rfl)); intro gb4 hg w5 hbox hb; (have hbb := below_step (by repeat (first | (with_reducible first | exact HB.out | apply below_alloc | apply pw_below_drewN | apply below_drew1) | exact HB.out)) hb); (have hge : w.heap.size ≤ gb4 := by rw [hg]; exact (below_size (by repeat (first | (with_reducible first | exact HB.out | apply below_alloc | apply pw_below_drewN | apply below_drew1) | exact HB.out)))); clear HB; (have HB := Aside0.mk hbb); (have BK4 := Aside0.mk hbox); (have GE4 := Aside0.mk hge); clear hb hbox hg hbb hge)
    | ((with_reducible refine gate_dst (N := 5) rfl ?_); refine box_event ?hg (N := 5) ?hd (cs := #[.int .i64 lo, .int .i64 hi, .int .i64 st]) (t := 27) ?hr ?_; (case hd => rfl); (case hg => rfl); (case hr => first | (go_simp; done) | (go_simp; rfl)); intro gb5 hg w6 hbox hb; (have hbb := below_step (by repeat (first | (with_reducible first | exact HB.out | apply below_alloc | apply pw_below_drewN | apply below_drew1) | exact HB.out)) hb); (have hbk4 := blk_below BK4.out hb); clear HB BK4; (have HB := Aside0.mk hbb); (have BK4 := Aside0.mk hbk4); (have BK5 := Aside0.mk hbox); clear hb hbox hg hbb hbk4))
  have hcz4_0 : w6.cell? ⟨gb4, 0, none⟩ = some (.int .i64 kind) := (blk_cell BK4.out 0).trans rfl
  have hcz4_1 : w6.cell? ⟨gb4, 1, none⟩ = some (.slice A1 nm.length c1) := (blk_cell BK4.out 1).trans rfl
  have hcz4_2 : w6.cell? ⟨gb4, 2, none⟩ = some (.slice A2 ss.length c2) := (blk_cell BK4.out 2).trans rfl
  go_upto_region 2 with (go_at_call 6; refine (chart_Range.calls kr kind A1 c1 nm A2 c2 ss low high 0 _ (Kd.C_below HR1.out HB.out) HC1.out (Kd.C_below HR2.out HB.out) HC2.out HR.out).mono ?_; rintro e w7 ⟨rfl, hb⟩; (have hbb := below_step HB.out hb); (have hbk4 := blk_below BK4.out hb); (have hbk5 := blk_below BK5.out hb); clear HB BK4 BK5; (have HB := Aside0.mk hbb); (have BK4 := Aside0.mk hbk4); (have BK5 := Aside0.mk hbk5); clear hb hbb hbk4 hbk5)
  clear hcz4_0 hcz4_1 hcz4_2
  have hcz5_0 : w7.cell? ⟨gb5, 0, none⟩ = some (.int .i64 lo) := (blk_cell BK5.out 0).trans rfl
  have hcz5_1 : w7.cell? ⟨gb5, 1, none⟩ = some (.int .i64 hi) := (blk_cell BK5.out 1).trans rfl
  have hcz5_2 : w7.cell? ⟨gb5, 2, none⟩ = some (.int .i64 st) := (blk_cell BK5.out 2).trans rfl
  go_upto_region 5 with (go_at_call 11; refine (scale_Check.calls kr lo hi st r _ HC.out).mono ?_; rintro e w8 ⟨rfl, hb⟩; (have hbb := below_step HB.out hb); (have hbk4 := blk_below BK4.out hb); (have hbk5 := blk_below BK5.out hb); clear HB BK4 BK5; (have HB := Aside0.mk hbb); (have BK4 := Aside0.mk hbk4); (have BK5 := Aside0.mk hbk5); clear hb hbb hbk4 hbk5)
  clear hcz5_0 hcz5_1 hcz5_2
  go_wp2
  go_ret2
  exact ⟨_, rfl, Kd.R_nil _ _ _ _ _, HB.out⟩
include hr1 hc1 hr2 hc2 in
set_option maxHeartbeats 8000000 in
set_option maxRecDepth 100000 in
theorem bars_e3 (low high : Int) (hR : chart_Range.f kr kind nm ss = some (low, high, 0)) (hC : scale_Check.f kr lo hi st = some 0) (hk : kind = 3) :
    Calls Try.prog 7 #[.agg #[.int .i64 kind, .slice A1 nm.length c1, .slice A2 ss.length c2], .agg #[.int .i64 lo, .int .i64 hi, .int .i64 st], .int .i64 wd, .int .i64 ht] w fun e w' => ∃ v0_ : Value, e = .returned (.tuple #[v0_, .int .i64 8]) ∧ Kd.R k42 42 w' w.heap.size (fun _ => True) v0_ [] ∧ Below w.heap.size w w' := by
  have hu25 := Try.underlying25
  have hu27 := Try.underlying27
  have hu57 := Try.underlying57
  have HR1 := Aside0.mk hr1
  have HC1 := Aside0.mk hc1
  have HR2 := Aside0.mk hr2
  have HC2 := Aside0.mk hc2
  have HR := Aside0.mk hR
  have HC := Aside0.mk hC
  have HB := Aside0.mk (Below.refl w.heap.size w)
  have n0 : (kind == 3) = true := beq_iff_eq.2 hk
  clear hk
  clear hr1 hc1 hr2 hc2 hR hC
  go_enter Try.func7, Try.ntmps7
  go_upto_region 1 with (first
    | ((with_reducible refine gate_dst (N := 4) rfl ?_); refine box_event ?hg (N := 4) ?hd (cs := #[.int .i64 kind, .slice A1 nm.length c1, .slice A2 ss.length c2]) (t := 25) ?hr ?_; (case hd => rfl); (case hg => rfl); (case hr => first | (go_simp; done) | (go_simp; rfl)); intro gb4 hg w5 hbox hb; (have hbb := below_step (by repeat (first | (with_reducible first | exact HB.out | apply below_alloc | apply pw_below_drewN | apply below_drew1) | exact HB.out)) hb); (have hge : w.heap.size ≤ gb4 := by rw [hg]; exact (below_size (by repeat (first | (with_reducible first | exact HB.out | apply below_alloc | apply pw_below_drewN | apply below_drew1) | exact HB.out)))); clear HB; (have HB := Aside0.mk hbb); (have BK4 := Aside0.mk hbox); (have GE4 := Aside0.mk hge); clear hb hbox hg hbb hge)
    | ((with_reducible refine gate_dst (N := 5) rfl ?_); refine box_event ?hg (N := 5) ?hd (cs := #[.int .i64 lo, .int .i64 hi, .int .i64 st]) (t := 27) ?hr ?_; (case hd => rfl); (case hg => rfl); (case hr => first | (go_simp; done) | (go_simp; rfl)); intro gb5 hg w6 hbox hb; (have hbb := below_step (by repeat (first | (with_reducible first | exact HB.out | apply below_alloc | apply pw_below_drewN | apply below_drew1) | exact HB.out)) hb); (have hbk4 := blk_below BK4.out hb); clear HB BK4; (have HB := Aside0.mk hbb); (have BK4 := Aside0.mk hbk4); (have BK5 := Aside0.mk hbox); clear hb hbox hg hbb hbk4))
  have hcz4_0 : w6.cell? ⟨gb4, 0, none⟩ = some (.int .i64 kind) := (blk_cell BK4.out 0).trans rfl
  have hcz4_1 : w6.cell? ⟨gb4, 1, none⟩ = some (.slice A1 nm.length c1) := (blk_cell BK4.out 1).trans rfl
  have hcz4_2 : w6.cell? ⟨gb4, 2, none⟩ = some (.slice A2 ss.length c2) := (blk_cell BK4.out 2).trans rfl
  go_upto_region 2 with (go_at_call 6; refine (chart_Range.calls kr kind A1 c1 nm A2 c2 ss low high 0 _ (Kd.C_below HR1.out HB.out) HC1.out (Kd.C_below HR2.out HB.out) HC2.out HR.out).mono ?_; rintro e w7 ⟨rfl, hb⟩; (have hbb := below_step HB.out hb); (have hbk4 := blk_below BK4.out hb); (have hbk5 := blk_below BK5.out hb); clear HB BK4 BK5; (have HB := Aside0.mk hbb); (have BK4 := Aside0.mk hbk4); (have BK5 := Aside0.mk hbk5); clear hb hbb hbk4 hbk5)
  clear hcz4_0 hcz4_1 hcz4_2
  have hcz5_0 : w7.cell? ⟨gb5, 0, none⟩ = some (.int .i64 lo) := (blk_cell BK5.out 0).trans rfl
  have hcz5_1 : w7.cell? ⟨gb5, 1, none⟩ = some (.int .i64 hi) := (blk_cell BK5.out 1).trans rfl
  have hcz5_2 : w7.cell? ⟨gb5, 2, none⟩ = some (.int .i64 st) := (blk_cell BK5.out 2).trans rfl
  go_upto_region 5 with (go_at_call 11; refine (scale_Check.calls kr lo hi st 0 _ HC.out).mono ?_; rintro e w8 ⟨rfl, hb⟩; (have hbb := below_step HB.out hb); (have hbk4 := blk_below BK4.out hb); (have hbk5 := blk_below BK5.out hb); clear HB BK4 BK5; (have HB := Aside0.mk hbb); (have BK4 := Aside0.mk hbk4); (have BK5 := Aside0.mk hbk5); clear hb hbb hbk4 hbk5)
  clear hcz5_0 hcz5_1 hcz5_2
  have hcz4_0 : w8.cell? ⟨gb4, 0, none⟩ = some (.int .i64 kind) := (blk_cell BK4.out 0).trans rfl
  have hcz4_1 : w8.cell? ⟨gb4, 1, none⟩ = some (.slice A1 nm.length c1) := (blk_cell BK4.out 1).trans rfl
  have hcz4_2 : w8.cell? ⟨gb4, 2, none⟩ = some (.slice A2 ss.length c2) := (blk_cell BK4.out 2).trans rfl
  have hcz5_0 : w8.cell? ⟨gb5, 0, none⟩ = some (.int .i64 lo) := (blk_cell BK5.out 0).trans rfl
  have hcz5_1 : w8.cell? ⟨gb5, 1, none⟩ = some (.int .i64 hi) := (blk_cell BK5.out 1).trans rfl
  have hcz5_2 : w8.cell? ⟨gb5, 2, none⟩ = some (.int .i64 st) := (blk_cell BK5.out 2).trans rfl
  go_wp2
  go_ret2
  exact ⟨_, rfl, Kd.R_nil _ _ _ _ _, HB.out⟩
include hr1 hc1 hr2 hc2 in
set_option maxHeartbeats 8000000 in
set_option maxRecDepth 100000 in
theorem bars_e4a (low high : Int) (hR : chart_Range.f kr kind nm ss = some (low, high, 0)) (hC : scale_Check.f kr lo hi st = some 0) (hk : kind ≠ 3) (b0 : wd < 1) :
    Calls Try.prog 7 #[.agg #[.int .i64 kind, .slice A1 nm.length c1, .slice A2 ss.length c2], .agg #[.int .i64 lo, .int .i64 hi, .int .i64 st], .int .i64 wd, .int .i64 ht] w fun e w' => ∃ v0_ : Value, e = .returned (.tuple #[v0_, .int .i64 2]) ∧ Kd.R k42 42 w' w.heap.size (fun _ => True) v0_ [] ∧ Below w.heap.size w w' := by
  have hu25 := Try.underlying25
  have hu27 := Try.underlying27
  have hu57 := Try.underlying57
  have HR1 := Aside0.mk hr1
  have HC1 := Aside0.mk hc1
  have HR2 := Aside0.mk hr2
  have HC2 := Aside0.mk hc2
  have HR := Aside0.mk hR
  have HC := Aside0.mk hC
  have HB := Aside0.mk (Below.refl w.heap.size w)
  have n0 : (kind == 3) = false := beq_eq_false_iff_ne.2 hk
  clear hk
  have d0 : decide (wd < 1) = true := decide_eq_true b0
  clear b0
  clear hr1 hc1 hr2 hc2 hR hC
  go_enter Try.func7, Try.ntmps7
  go_upto_region 1 with (first
    | ((with_reducible refine gate_dst (N := 4) rfl ?_); refine box_event ?hg (N := 4) ?hd (cs := #[.int .i64 kind, .slice A1 nm.length c1, .slice A2 ss.length c2]) (t := 25) ?hr ?_; (case hd => rfl); (case hg => rfl); (case hr => first | (go_simp; done) | (go_simp; rfl)); intro gb4 hg w5 hbox hb; (have hbb := below_step (by repeat (first | (with_reducible first | exact HB.out | apply below_alloc | apply pw_below_drewN | apply below_drew1) | exact HB.out)) hb); (have hge : w.heap.size ≤ gb4 := by rw [hg]; exact (below_size (by repeat (first | (with_reducible first | exact HB.out | apply below_alloc | apply pw_below_drewN | apply below_drew1) | exact HB.out)))); clear HB; (have HB := Aside0.mk hbb); (have BK4 := Aside0.mk hbox); (have GE4 := Aside0.mk hge); clear hb hbox hg hbb hge)
    | ((with_reducible refine gate_dst (N := 5) rfl ?_); refine box_event ?hg (N := 5) ?hd (cs := #[.int .i64 lo, .int .i64 hi, .int .i64 st]) (t := 27) ?hr ?_; (case hd => rfl); (case hg => rfl); (case hr => first | (go_simp; done) | (go_simp; rfl)); intro gb5 hg w6 hbox hb; (have hbb := below_step (by repeat (first | (with_reducible first | exact HB.out | apply below_alloc | apply pw_below_drewN | apply below_drew1) | exact HB.out)) hb); (have hbk4 := blk_below BK4.out hb); clear HB BK4; (have HB := Aside0.mk hbb); (have BK4 := Aside0.mk hbk4); (have BK5 := Aside0.mk hbox); clear hb hbox hg hbb hbk4))
  have hcz4_0 : w6.cell? ⟨gb4, 0, none⟩ = some (.int .i64 kind) := (blk_cell BK4.out 0).trans rfl
  have hcz4_1 : w6.cell? ⟨gb4, 1, none⟩ = some (.slice A1 nm.length c1) := (blk_cell BK4.out 1).trans rfl
  have hcz4_2 : w6.cell? ⟨gb4, 2, none⟩ = some (.slice A2 ss.length c2) := (blk_cell BK4.out 2).trans rfl
  go_upto_region 2 with (go_at_call 6; refine (chart_Range.calls kr kind A1 c1 nm A2 c2 ss low high 0 _ (Kd.C_below HR1.out HB.out) HC1.out (Kd.C_below HR2.out HB.out) HC2.out HR.out).mono ?_; rintro e w7 ⟨rfl, hb⟩; (have hbb := below_step HB.out hb); (have hbk4 := blk_below BK4.out hb); (have hbk5 := blk_below BK5.out hb); clear HB BK4 BK5; (have HB := Aside0.mk hbb); (have BK4 := Aside0.mk hbk4); (have BK5 := Aside0.mk hbk5); clear hb hbb hbk4 hbk5)
  clear hcz4_0 hcz4_1 hcz4_2
  have hcz5_0 : w7.cell? ⟨gb5, 0, none⟩ = some (.int .i64 lo) := (blk_cell BK5.out 0).trans rfl
  have hcz5_1 : w7.cell? ⟨gb5, 1, none⟩ = some (.int .i64 hi) := (blk_cell BK5.out 1).trans rfl
  have hcz5_2 : w7.cell? ⟨gb5, 2, none⟩ = some (.int .i64 st) := (blk_cell BK5.out 2).trans rfl
  go_upto_region 5 with (go_at_call 11; refine (scale_Check.calls kr lo hi st 0 _ HC.out).mono ?_; rintro e w8 ⟨rfl, hb⟩; (have hbb := below_step HB.out hb); (have hbk4 := blk_below BK4.out hb); (have hbk5 := blk_below BK5.out hb); clear HB BK4 BK5; (have HB := Aside0.mk hbb); (have BK4 := Aside0.mk hbk4); (have BK5 := Aside0.mk hbk5); clear hb hbb hbk4 hbk5)
  clear hcz5_0 hcz5_1 hcz5_2
  have hcz4_0 : w8.cell? ⟨gb4, 0, none⟩ = some (.int .i64 kind) := (blk_cell BK4.out 0).trans rfl
  have hcz4_1 : w8.cell? ⟨gb4, 1, none⟩ = some (.slice A1 nm.length c1) := (blk_cell BK4.out 1).trans rfl
  have hcz4_2 : w8.cell? ⟨gb4, 2, none⟩ = some (.slice A2 ss.length c2) := (blk_cell BK4.out 2).trans rfl
  have hcz5_0 : w8.cell? ⟨gb5, 0, none⟩ = some (.int .i64 lo) := (blk_cell BK5.out 0).trans rfl
  have hcz5_1 : w8.cell? ⟨gb5, 1, none⟩ = some (.int .i64 hi) := (blk_cell BK5.out 1).trans rfl
  have hcz5_2 : w8.cell? ⟨gb5, 2, none⟩ = some (.int .i64 st) := (blk_cell BK5.out 2).trans rfl
  go_wp2
  go_ret2
  exact ⟨_, rfl, Kd.R_nil _ _ _ _ _, HB.out⟩
include hr1 hc1 hr2 hc2 in
set_option maxHeartbeats 8000000 in
set_option maxRecDepth 100000 in
theorem bars_e4b (low high : Int) (hR : chart_Range.f kr kind nm ss = some (low, high, 0)) (hC : scale_Check.f kr lo hi st = some 0) (hk : kind ≠ 3) (b0 : ¬ (wd < 1)) (b1 : wd > 100000) :
    Calls Try.prog 7 #[.agg #[.int .i64 kind, .slice A1 nm.length c1, .slice A2 ss.length c2], .agg #[.int .i64 lo, .int .i64 hi, .int .i64 st], .int .i64 wd, .int .i64 ht] w fun e w' => ∃ v0_ : Value, e = .returned (.tuple #[v0_, .int .i64 2]) ∧ Kd.R k42 42 w' w.heap.size (fun _ => True) v0_ [] ∧ Below w.heap.size w w' := by
  have hu25 := Try.underlying25
  have hu27 := Try.underlying27
  have hu57 := Try.underlying57
  have HR1 := Aside0.mk hr1
  have HC1 := Aside0.mk hc1
  have HR2 := Aside0.mk hr2
  have HC2 := Aside0.mk hc2
  have HR := Aside0.mk hR
  have HC := Aside0.mk hC
  have HB := Aside0.mk (Below.refl w.heap.size w)
  have n0 : (kind == 3) = false := beq_eq_false_iff_ne.2 hk
  clear hk
  have d0 : decide (wd < 1) = false := decide_eq_false b0
  clear b0
  have d1 : decide (wd > 100000) = true := decide_eq_true b1
  clear b1
  clear hr1 hc1 hr2 hc2 hR hC
  go_enter Try.func7, Try.ntmps7
  go_upto_region 1 with (first
    | ((with_reducible refine gate_dst (N := 4) rfl ?_); refine box_event ?hg (N := 4) ?hd (cs := #[.int .i64 kind, .slice A1 nm.length c1, .slice A2 ss.length c2]) (t := 25) ?hr ?_; (case hd => rfl); (case hg => rfl); (case hr => first | (go_simp; done) | (go_simp; rfl)); intro gb4 hg w5 hbox hb; (have hbb := below_step (by repeat (first | (with_reducible first | exact HB.out | apply below_alloc | apply pw_below_drewN | apply below_drew1) | exact HB.out)) hb); (have hge : w.heap.size ≤ gb4 := by rw [hg]; exact (below_size (by repeat (first | (with_reducible first | exact HB.out | apply below_alloc | apply pw_below_drewN | apply below_drew1) | exact HB.out)))); clear HB; (have HB := Aside0.mk hbb); (have BK4 := Aside0.mk hbox); (have GE4 := Aside0.mk hge); clear hb hbox hg hbb hge)
    | ((with_reducible refine gate_dst (N := 5) rfl ?_); refine box_event ?hg (N := 5) ?hd (cs := #[.int .i64 lo, .int .i64 hi, .int .i64 st]) (t := 27) ?hr ?_; (case hd => rfl); (case hg => rfl); (case hr => first | (go_simp; done) | (go_simp; rfl)); intro gb5 hg w6 hbox hb; (have hbb := below_step (by repeat (first | (with_reducible first | exact HB.out | apply below_alloc | apply pw_below_drewN | apply below_drew1) | exact HB.out)) hb); (have hbk4 := blk_below BK4.out hb); clear HB BK4; (have HB := Aside0.mk hbb); (have BK4 := Aside0.mk hbk4); (have BK5 := Aside0.mk hbox); clear hb hbox hg hbb hbk4))
  have hcz4_0 : w6.cell? ⟨gb4, 0, none⟩ = some (.int .i64 kind) := (blk_cell BK4.out 0).trans rfl
  have hcz4_1 : w6.cell? ⟨gb4, 1, none⟩ = some (.slice A1 nm.length c1) := (blk_cell BK4.out 1).trans rfl
  have hcz4_2 : w6.cell? ⟨gb4, 2, none⟩ = some (.slice A2 ss.length c2) := (blk_cell BK4.out 2).trans rfl
  go_upto_region 2 with (go_at_call 6; refine (chart_Range.calls kr kind A1 c1 nm A2 c2 ss low high 0 _ (Kd.C_below HR1.out HB.out) HC1.out (Kd.C_below HR2.out HB.out) HC2.out HR.out).mono ?_; rintro e w7 ⟨rfl, hb⟩; (have hbb := below_step HB.out hb); (have hbk4 := blk_below BK4.out hb); (have hbk5 := blk_below BK5.out hb); clear HB BK4 BK5; (have HB := Aside0.mk hbb); (have BK4 := Aside0.mk hbk4); (have BK5 := Aside0.mk hbk5); clear hb hbb hbk4 hbk5)
  clear hcz4_0 hcz4_1 hcz4_2
  have hcz5_0 : w7.cell? ⟨gb5, 0, none⟩ = some (.int .i64 lo) := (blk_cell BK5.out 0).trans rfl
  have hcz5_1 : w7.cell? ⟨gb5, 1, none⟩ = some (.int .i64 hi) := (blk_cell BK5.out 1).trans rfl
  have hcz5_2 : w7.cell? ⟨gb5, 2, none⟩ = some (.int .i64 st) := (blk_cell BK5.out 2).trans rfl
  go_upto_region 5 with (go_at_call 11; refine (scale_Check.calls kr lo hi st 0 _ HC.out).mono ?_; rintro e w8 ⟨rfl, hb⟩; (have hbb := below_step HB.out hb); (have hbk4 := blk_below BK4.out hb); (have hbk5 := blk_below BK5.out hb); clear HB BK4 BK5; (have HB := Aside0.mk hbb); (have BK4 := Aside0.mk hbk4); (have BK5 := Aside0.mk hbk5); clear hb hbb hbk4 hbk5)
  clear hcz5_0 hcz5_1 hcz5_2
  have hcz4_0 : w8.cell? ⟨gb4, 0, none⟩ = some (.int .i64 kind) := (blk_cell BK4.out 0).trans rfl
  have hcz4_1 : w8.cell? ⟨gb4, 1, none⟩ = some (.slice A1 nm.length c1) := (blk_cell BK4.out 1).trans rfl
  have hcz4_2 : w8.cell? ⟨gb4, 2, none⟩ = some (.slice A2 ss.length c2) := (blk_cell BK4.out 2).trans rfl
  have hcz5_0 : w8.cell? ⟨gb5, 0, none⟩ = some (.int .i64 lo) := (blk_cell BK5.out 0).trans rfl
  have hcz5_1 : w8.cell? ⟨gb5, 1, none⟩ = some (.int .i64 hi) := (blk_cell BK5.out 1).trans rfl
  have hcz5_2 : w8.cell? ⟨gb5, 2, none⟩ = some (.int .i64 st) := (blk_cell BK5.out 2).trans rfl
  go_wp2
  go_ret2
  exact ⟨_, rfl, Kd.R_nil _ _ _ _ _, HB.out⟩
include hr1 hc1 hr2 hc2 in
set_option maxHeartbeats 8000000 in
set_option maxRecDepth 100000 in
theorem bars_e4c (low high : Int) (hR : chart_Range.f kr kind nm ss = some (low, high, 0)) (hC : scale_Check.f kr lo hi st = some 0) (hk : kind ≠ 3) (b0 : ¬ (wd < 1)) (b1 : ¬ (wd > 100000)) (b2 : ht < 1) :
    Calls Try.prog 7 #[.agg #[.int .i64 kind, .slice A1 nm.length c1, .slice A2 ss.length c2], .agg #[.int .i64 lo, .int .i64 hi, .int .i64 st], .int .i64 wd, .int .i64 ht] w fun e w' => ∃ v0_ : Value, e = .returned (.tuple #[v0_, .int .i64 2]) ∧ Kd.R k42 42 w' w.heap.size (fun _ => True) v0_ [] ∧ Below w.heap.size w w' := by
  have hu25 := Try.underlying25
  have hu27 := Try.underlying27
  have hu57 := Try.underlying57
  have HR1 := Aside0.mk hr1
  have HC1 := Aside0.mk hc1
  have HR2 := Aside0.mk hr2
  have HC2 := Aside0.mk hc2
  have HR := Aside0.mk hR
  have HC := Aside0.mk hC
  have HB := Aside0.mk (Below.refl w.heap.size w)
  have n0 : (kind == 3) = false := beq_eq_false_iff_ne.2 hk
  clear hk
  have d0 : decide (wd < 1) = false := decide_eq_false b0
  clear b0
  have d1 : decide (wd > 100000) = false := decide_eq_false b1
  clear b1
  have d2 : decide (ht < 1) = true := decide_eq_true b2
  clear b2
  clear hr1 hc1 hr2 hc2 hR hC
  go_enter Try.func7, Try.ntmps7
  go_upto_region 1 with (first
    | ((with_reducible refine gate_dst (N := 4) rfl ?_); refine box_event ?hg (N := 4) ?hd (cs := #[.int .i64 kind, .slice A1 nm.length c1, .slice A2 ss.length c2]) (t := 25) ?hr ?_; (case hd => rfl); (case hg => rfl); (case hr => first | (go_simp; done) | (go_simp; rfl)); intro gb4 hg w5 hbox hb; (have hbb := below_step (by repeat (first | (with_reducible first | exact HB.out | apply below_alloc | apply pw_below_drewN | apply below_drew1) | exact HB.out)) hb); (have hge : w.heap.size ≤ gb4 := by rw [hg]; exact (below_size (by repeat (first | (with_reducible first | exact HB.out | apply below_alloc | apply pw_below_drewN | apply below_drew1) | exact HB.out)))); clear HB; (have HB := Aside0.mk hbb); (have BK4 := Aside0.mk hbox); (have GE4 := Aside0.mk hge); clear hb hbox hg hbb hge)
    | ((with_reducible refine gate_dst (N := 5) rfl ?_); refine box_event ?hg (N := 5) ?hd (cs := #[.int .i64 lo, .int .i64 hi, .int .i64 st]) (t := 27) ?hr ?_; (case hd => rfl); (case hg => rfl); (case hr => first | (go_simp; done) | (go_simp; rfl)); intro gb5 hg w6 hbox hb; (have hbb := below_step (by repeat (first | (with_reducible first | exact HB.out | apply below_alloc | apply pw_below_drewN | apply below_drew1) | exact HB.out)) hb); (have hbk4 := blk_below BK4.out hb); clear HB BK4; (have HB := Aside0.mk hbb); (have BK4 := Aside0.mk hbk4); (have BK5 := Aside0.mk hbox); clear hb hbox hg hbb hbk4))
  have hcz4_0 : w6.cell? ⟨gb4, 0, none⟩ = some (.int .i64 kind) := (blk_cell BK4.out 0).trans rfl
  have hcz4_1 : w6.cell? ⟨gb4, 1, none⟩ = some (.slice A1 nm.length c1) := (blk_cell BK4.out 1).trans rfl
  have hcz4_2 : w6.cell? ⟨gb4, 2, none⟩ = some (.slice A2 ss.length c2) := (blk_cell BK4.out 2).trans rfl
  go_upto_region 2 with (go_at_call 6; refine (chart_Range.calls kr kind A1 c1 nm A2 c2 ss low high 0 _ (Kd.C_below HR1.out HB.out) HC1.out (Kd.C_below HR2.out HB.out) HC2.out HR.out).mono ?_; rintro e w7 ⟨rfl, hb⟩; (have hbb := below_step HB.out hb); (have hbk4 := blk_below BK4.out hb); (have hbk5 := blk_below BK5.out hb); clear HB BK4 BK5; (have HB := Aside0.mk hbb); (have BK4 := Aside0.mk hbk4); (have BK5 := Aside0.mk hbk5); clear hb hbb hbk4 hbk5)
  clear hcz4_0 hcz4_1 hcz4_2
  have hcz5_0 : w7.cell? ⟨gb5, 0, none⟩ = some (.int .i64 lo) := (blk_cell BK5.out 0).trans rfl
  have hcz5_1 : w7.cell? ⟨gb5, 1, none⟩ = some (.int .i64 hi) := (blk_cell BK5.out 1).trans rfl
  have hcz5_2 : w7.cell? ⟨gb5, 2, none⟩ = some (.int .i64 st) := (blk_cell BK5.out 2).trans rfl
  go_upto_region 5 with (go_at_call 11; refine (scale_Check.calls kr lo hi st 0 _ HC.out).mono ?_; rintro e w8 ⟨rfl, hb⟩; (have hbb := below_step HB.out hb); (have hbk4 := blk_below BK4.out hb); (have hbk5 := blk_below BK5.out hb); clear HB BK4 BK5; (have HB := Aside0.mk hbb); (have BK4 := Aside0.mk hbk4); (have BK5 := Aside0.mk hbk5); clear hb hbb hbk4 hbk5)
  clear hcz5_0 hcz5_1 hcz5_2
  have hcz4_0 : w8.cell? ⟨gb4, 0, none⟩ = some (.int .i64 kind) := (blk_cell BK4.out 0).trans rfl
  have hcz4_1 : w8.cell? ⟨gb4, 1, none⟩ = some (.slice A1 nm.length c1) := (blk_cell BK4.out 1).trans rfl
  have hcz4_2 : w8.cell? ⟨gb4, 2, none⟩ = some (.slice A2 ss.length c2) := (blk_cell BK4.out 2).trans rfl
  have hcz5_0 : w8.cell? ⟨gb5, 0, none⟩ = some (.int .i64 lo) := (blk_cell BK5.out 0).trans rfl
  have hcz5_1 : w8.cell? ⟨gb5, 1, none⟩ = some (.int .i64 hi) := (blk_cell BK5.out 1).trans rfl
  have hcz5_2 : w8.cell? ⟨gb5, 2, none⟩ = some (.int .i64 st) := (blk_cell BK5.out 2).trans rfl
  go_wp2
  go_ret2
  exact ⟨_, rfl, Kd.R_nil _ _ _ _ _, HB.out⟩
include hr1 hc1 hr2 hc2 in
set_option maxHeartbeats 8000000 in
set_option maxRecDepth 100000 in
theorem bars_e4d (low high : Int) (hR : chart_Range.f kr kind nm ss = some (low, high, 0)) (hC : scale_Check.f kr lo hi st = some 0) (hk : kind ≠ 3) (b0 : ¬ (wd < 1)) (b1 : ¬ (wd > 100000)) (b2 : ¬ (ht < 1)) (b3 : ht > 100000) :
    Calls Try.prog 7 #[.agg #[.int .i64 kind, .slice A1 nm.length c1, .slice A2 ss.length c2], .agg #[.int .i64 lo, .int .i64 hi, .int .i64 st], .int .i64 wd, .int .i64 ht] w fun e w' => ∃ v0_ : Value, e = .returned (.tuple #[v0_, .int .i64 2]) ∧ Kd.R k42 42 w' w.heap.size (fun _ => True) v0_ [] ∧ Below w.heap.size w w' := by
  have hu25 := Try.underlying25
  have hu27 := Try.underlying27
  have hu57 := Try.underlying57
  have HR1 := Aside0.mk hr1
  have HC1 := Aside0.mk hc1
  have HR2 := Aside0.mk hr2
  have HC2 := Aside0.mk hc2
  have HR := Aside0.mk hR
  have HC := Aside0.mk hC
  have HB := Aside0.mk (Below.refl w.heap.size w)
  have n0 : (kind == 3) = false := beq_eq_false_iff_ne.2 hk
  clear hk
  have d0 : decide (wd < 1) = false := decide_eq_false b0
  clear b0
  have d1 : decide (wd > 100000) = false := decide_eq_false b1
  clear b1
  have d2 : decide (ht < 1) = false := decide_eq_false b2
  clear b2
  have d3 : decide (ht > 100000) = true := decide_eq_true b3
  clear b3
  clear hr1 hc1 hr2 hc2 hR hC
  go_enter Try.func7, Try.ntmps7
  go_upto_region 1 with (first
    | ((with_reducible refine gate_dst (N := 4) rfl ?_); refine box_event ?hg (N := 4) ?hd (cs := #[.int .i64 kind, .slice A1 nm.length c1, .slice A2 ss.length c2]) (t := 25) ?hr ?_; (case hd => rfl); (case hg => rfl); (case hr => first | (go_simp; done) | (go_simp; rfl)); intro gb4 hg w5 hbox hb; (have hbb := below_step (by repeat (first | (with_reducible first | exact HB.out | apply below_alloc | apply pw_below_drewN | apply below_drew1) | exact HB.out)) hb); (have hge : w.heap.size ≤ gb4 := by rw [hg]; exact (below_size (by repeat (first | (with_reducible first | exact HB.out | apply below_alloc | apply pw_below_drewN | apply below_drew1) | exact HB.out)))); clear HB; (have HB := Aside0.mk hbb); (have BK4 := Aside0.mk hbox); (have GE4 := Aside0.mk hge); clear hb hbox hg hbb hge)
    | ((with_reducible refine gate_dst (N := 5) rfl ?_); refine box_event ?hg (N := 5) ?hd (cs := #[.int .i64 lo, .int .i64 hi, .int .i64 st]) (t := 27) ?hr ?_; (case hd => rfl); (case hg => rfl); (case hr => first | (go_simp; done) | (go_simp; rfl)); intro gb5 hg w6 hbox hb; (have hbb := below_step (by repeat (first | (with_reducible first | exact HB.out | apply below_alloc | apply pw_below_drewN | apply below_drew1) | exact HB.out)) hb); (have hbk4 := blk_below BK4.out hb); clear HB BK4; (have HB := Aside0.mk hbb); (have BK4 := Aside0.mk hbk4); (have BK5 := Aside0.mk hbox); clear hb hbox hg hbb hbk4))
  have hcz4_0 : w6.cell? ⟨gb4, 0, none⟩ = some (.int .i64 kind) := (blk_cell BK4.out 0).trans rfl
  have hcz4_1 : w6.cell? ⟨gb4, 1, none⟩ = some (.slice A1 nm.length c1) := (blk_cell BK4.out 1).trans rfl
  have hcz4_2 : w6.cell? ⟨gb4, 2, none⟩ = some (.slice A2 ss.length c2) := (blk_cell BK4.out 2).trans rfl
  go_upto_region 2 with (go_at_call 6; refine (chart_Range.calls kr kind A1 c1 nm A2 c2 ss low high 0 _ (Kd.C_below HR1.out HB.out) HC1.out (Kd.C_below HR2.out HB.out) HC2.out HR.out).mono ?_; rintro e w7 ⟨rfl, hb⟩; (have hbb := below_step HB.out hb); (have hbk4 := blk_below BK4.out hb); (have hbk5 := blk_below BK5.out hb); clear HB BK4 BK5; (have HB := Aside0.mk hbb); (have BK4 := Aside0.mk hbk4); (have BK5 := Aside0.mk hbk5); clear hb hbb hbk4 hbk5)
  clear hcz4_0 hcz4_1 hcz4_2
  have hcz5_0 : w7.cell? ⟨gb5, 0, none⟩ = some (.int .i64 lo) := (blk_cell BK5.out 0).trans rfl
  have hcz5_1 : w7.cell? ⟨gb5, 1, none⟩ = some (.int .i64 hi) := (blk_cell BK5.out 1).trans rfl
  have hcz5_2 : w7.cell? ⟨gb5, 2, none⟩ = some (.int .i64 st) := (blk_cell BK5.out 2).trans rfl
  go_upto_region 5 with (go_at_call 11; refine (scale_Check.calls kr lo hi st 0 _ HC.out).mono ?_; rintro e w8 ⟨rfl, hb⟩; (have hbb := below_step HB.out hb); (have hbk4 := blk_below BK4.out hb); (have hbk5 := blk_below BK5.out hb); clear HB BK4 BK5; (have HB := Aside0.mk hbb); (have BK4 := Aside0.mk hbk4); (have BK5 := Aside0.mk hbk5); clear hb hbb hbk4 hbk5)
  clear hcz5_0 hcz5_1 hcz5_2
  have hcz4_0 : w8.cell? ⟨gb4, 0, none⟩ = some (.int .i64 kind) := (blk_cell BK4.out 0).trans rfl
  have hcz4_1 : w8.cell? ⟨gb4, 1, none⟩ = some (.slice A1 nm.length c1) := (blk_cell BK4.out 1).trans rfl
  have hcz4_2 : w8.cell? ⟨gb4, 2, none⟩ = some (.slice A2 ss.length c2) := (blk_cell BK4.out 2).trans rfl
  have hcz5_0 : w8.cell? ⟨gb5, 0, none⟩ = some (.int .i64 lo) := (blk_cell BK5.out 0).trans rfl
  have hcz5_1 : w8.cell? ⟨gb5, 1, none⟩ = some (.int .i64 hi) := (blk_cell BK5.out 1).trans rfl
  have hcz5_2 : w8.cell? ⟨gb5, 2, none⟩ = some (.int .i64 st) := (blk_cell BK5.out 2).trans rfl
  go_wp2
  go_ret2
  exact ⟨_, rfl, Kd.R_nil _ _ _ _ _, HB.out⟩
include hr1 hc1 hr2 hc2 in
set_option maxHeartbeats 8000000 in
set_option maxRecDepth 100000 in
theorem bars_e4e (low high : Int) (hR : chart_Range.f kr kind nm ss = some (low, high, 0)) (hC : scale_Check.f kr lo hi st = some 0) (hk : kind ≠ 3) (b0 : ¬ (wd < 1)) (b1 : ¬ (wd > 100000)) (b2 : ¬ (ht < 1)) (b3 : ¬ (ht > 100000)) (b4 : low < lo) :
    Calls Try.prog 7 #[.agg #[.int .i64 kind, .slice A1 nm.length c1, .slice A2 ss.length c2], .agg #[.int .i64 lo, .int .i64 hi, .int .i64 st], .int .i64 wd, .int .i64 ht] w fun e w' => ∃ v0_ : Value, e = .returned (.tuple #[v0_, .int .i64 2]) ∧ Kd.R k42 42 w' w.heap.size (fun _ => True) v0_ [] ∧ Below w.heap.size w w' := by
  have hu25 := Try.underlying25
  have hu27 := Try.underlying27
  have hu57 := Try.underlying57
  have HR1 := Aside0.mk hr1
  have HC1 := Aside0.mk hc1
  have HR2 := Aside0.mk hr2
  have HC2 := Aside0.mk hc2
  have HR := Aside0.mk hR
  have HC := Aside0.mk hC
  have HB := Aside0.mk (Below.refl w.heap.size w)
  have n0 : (kind == 3) = false := beq_eq_false_iff_ne.2 hk
  clear hk
  have d0 : decide (wd < 1) = false := decide_eq_false b0
  clear b0
  have d1 : decide (wd > 100000) = false := decide_eq_false b1
  clear b1
  have d2 : decide (ht < 1) = false := decide_eq_false b2
  clear b2
  have d3 : decide (ht > 100000) = false := decide_eq_false b3
  clear b3
  have d4 : decide (low < lo) = true := decide_eq_true b4
  clear b4
  clear hr1 hc1 hr2 hc2 hR hC
  go_enter Try.func7, Try.ntmps7
  go_upto_region 1 with (first
    | ((with_reducible refine gate_dst (N := 4) rfl ?_); refine box_event ?hg (N := 4) ?hd (cs := #[.int .i64 kind, .slice A1 nm.length c1, .slice A2 ss.length c2]) (t := 25) ?hr ?_; (case hd => rfl); (case hg => rfl); (case hr => first | (go_simp; done) | (go_simp; rfl)); intro gb4 hg w5 hbox hb; (have hbb := below_step (by repeat (first | (with_reducible first | exact HB.out | apply below_alloc | apply pw_below_drewN | apply below_drew1) | exact HB.out)) hb); (have hge : w.heap.size ≤ gb4 := by rw [hg]; exact (below_size (by repeat (first | (with_reducible first | exact HB.out | apply below_alloc | apply pw_below_drewN | apply below_drew1) | exact HB.out)))); clear HB; (have HB := Aside0.mk hbb); (have BK4 := Aside0.mk hbox); (have GE4 := Aside0.mk hge); clear hb hbox hg hbb hge)
    | ((with_reducible refine gate_dst (N := 5) rfl ?_); refine box_event ?hg (N := 5) ?hd (cs := #[.int .i64 lo, .int .i64 hi, .int .i64 st]) (t := 27) ?hr ?_; (case hd => rfl); (case hg => rfl); (case hr => first | (go_simp; done) | (go_simp; rfl)); intro gb5 hg w6 hbox hb; (have hbb := below_step (by repeat (first | (with_reducible first | exact HB.out | apply below_alloc | apply pw_below_drewN | apply below_drew1) | exact HB.out)) hb); (have hbk4 := blk_below BK4.out hb); clear HB BK4; (have HB := Aside0.mk hbb); (have BK4 := Aside0.mk hbk4); (have BK5 := Aside0.mk hbox); clear hb hbox hg hbb hbk4))
  have hcz4_0 : w6.cell? ⟨gb4, 0, none⟩ = some (.int .i64 kind) := (blk_cell BK4.out 0).trans rfl
  have hcz4_1 : w6.cell? ⟨gb4, 1, none⟩ = some (.slice A1 nm.length c1) := (blk_cell BK4.out 1).trans rfl
  have hcz4_2 : w6.cell? ⟨gb4, 2, none⟩ = some (.slice A2 ss.length c2) := (blk_cell BK4.out 2).trans rfl
  go_upto_region 2 with (go_at_call 6; refine (chart_Range.calls kr kind A1 c1 nm A2 c2 ss low high 0 _ (Kd.C_below HR1.out HB.out) HC1.out (Kd.C_below HR2.out HB.out) HC2.out HR.out).mono ?_; rintro e w7 ⟨rfl, hb⟩; (have hbb := below_step HB.out hb); (have hbk4 := blk_below BK4.out hb); (have hbk5 := blk_below BK5.out hb); clear HB BK4 BK5; (have HB := Aside0.mk hbb); (have BK4 := Aside0.mk hbk4); (have BK5 := Aside0.mk hbk5); clear hb hbb hbk4 hbk5)
  clear hcz4_0 hcz4_1 hcz4_2
  have hcz5_0 : w7.cell? ⟨gb5, 0, none⟩ = some (.int .i64 lo) := (blk_cell BK5.out 0).trans rfl
  have hcz5_1 : w7.cell? ⟨gb5, 1, none⟩ = some (.int .i64 hi) := (blk_cell BK5.out 1).trans rfl
  have hcz5_2 : w7.cell? ⟨gb5, 2, none⟩ = some (.int .i64 st) := (blk_cell BK5.out 2).trans rfl
  go_upto_region 5 with (go_at_call 11; refine (scale_Check.calls kr lo hi st 0 _ HC.out).mono ?_; rintro e w8 ⟨rfl, hb⟩; (have hbb := below_step HB.out hb); (have hbk4 := blk_below BK4.out hb); (have hbk5 := blk_below BK5.out hb); clear HB BK4 BK5; (have HB := Aside0.mk hbb); (have BK4 := Aside0.mk hbk4); (have BK5 := Aside0.mk hbk5); clear hb hbb hbk4 hbk5)
  clear hcz5_0 hcz5_1 hcz5_2
  have hcz4_0 : w8.cell? ⟨gb4, 0, none⟩ = some (.int .i64 kind) := (blk_cell BK4.out 0).trans rfl
  have hcz4_1 : w8.cell? ⟨gb4, 1, none⟩ = some (.slice A1 nm.length c1) := (blk_cell BK4.out 1).trans rfl
  have hcz4_2 : w8.cell? ⟨gb4, 2, none⟩ = some (.slice A2 ss.length c2) := (blk_cell BK4.out 2).trans rfl
  have hcz5_0 : w8.cell? ⟨gb5, 0, none⟩ = some (.int .i64 lo) := (blk_cell BK5.out 0).trans rfl
  have hcz5_1 : w8.cell? ⟨gb5, 1, none⟩ = some (.int .i64 hi) := (blk_cell BK5.out 1).trans rfl
  have hcz5_2 : w8.cell? ⟨gb5, 2, none⟩ = some (.int .i64 st) := (blk_cell BK5.out 2).trans rfl
  go_wp2
  go_ret2
  exact ⟨_, rfl, Kd.R_nil _ _ _ _ _, HB.out⟩
include hr1 hc1 hr2 hc2 in
set_option maxHeartbeats 8000000 in
set_option maxRecDepth 100000 in
theorem bars_e4f (low high : Int) (hR : chart_Range.f kr kind nm ss = some (low, high, 0)) (hC : scale_Check.f kr lo hi st = some 0) (hk : kind ≠ 3) (b0 : ¬ (wd < 1)) (b1 : ¬ (wd > 100000)) (b2 : ¬ (ht < 1)) (b3 : ¬ (ht > 100000)) (b4 : ¬ (low < lo)) (b5 : high > hi) :
    Calls Try.prog 7 #[.agg #[.int .i64 kind, .slice A1 nm.length c1, .slice A2 ss.length c2], .agg #[.int .i64 lo, .int .i64 hi, .int .i64 st], .int .i64 wd, .int .i64 ht] w fun e w' => ∃ v0_ : Value, e = .returned (.tuple #[v0_, .int .i64 2]) ∧ Kd.R k42 42 w' w.heap.size (fun _ => True) v0_ [] ∧ Below w.heap.size w w' := by
  have hu25 := Try.underlying25
  have hu27 := Try.underlying27
  have hu57 := Try.underlying57
  have HR1 := Aside0.mk hr1
  have HC1 := Aside0.mk hc1
  have HR2 := Aside0.mk hr2
  have HC2 := Aside0.mk hc2
  have HR := Aside0.mk hR
  have HC := Aside0.mk hC
  have HB := Aside0.mk (Below.refl w.heap.size w)
  have n0 : (kind == 3) = false := beq_eq_false_iff_ne.2 hk
  clear hk
  have d0 : decide (wd < 1) = false := decide_eq_false b0
  clear b0
  have d1 : decide (wd > 100000) = false := decide_eq_false b1
  clear b1
  have d2 : decide (ht < 1) = false := decide_eq_false b2
  clear b2
  have d3 : decide (ht > 100000) = false := decide_eq_false b3
  clear b3
  have d4 : decide (low < lo) = false := decide_eq_false b4
  clear b4
  have d5 : decide (high > hi) = true := decide_eq_true b5
  clear b5
  clear hr1 hc1 hr2 hc2 hR hC
  go_enter Try.func7, Try.ntmps7
  go_upto_region 1 with (first
    | ((with_reducible refine gate_dst (N := 4) rfl ?_); refine box_event ?hg (N := 4) ?hd (cs := #[.int .i64 kind, .slice A1 nm.length c1, .slice A2 ss.length c2]) (t := 25) ?hr ?_; (case hd => rfl); (case hg => rfl); (case hr => first | (go_simp; done) | (go_simp; rfl)); intro gb4 hg w5 hbox hb; (have hbb := below_step (by repeat (first | (with_reducible first | exact HB.out | apply below_alloc | apply pw_below_drewN | apply below_drew1) | exact HB.out)) hb); (have hge : w.heap.size ≤ gb4 := by rw [hg]; exact (below_size (by repeat (first | (with_reducible first | exact HB.out | apply below_alloc | apply pw_below_drewN | apply below_drew1) | exact HB.out)))); clear HB; (have HB := Aside0.mk hbb); (have BK4 := Aside0.mk hbox); (have GE4 := Aside0.mk hge); clear hb hbox hg hbb hge)
    | ((with_reducible refine gate_dst (N := 5) rfl ?_); refine box_event ?hg (N := 5) ?hd (cs := #[.int .i64 lo, .int .i64 hi, .int .i64 st]) (t := 27) ?hr ?_; (case hd => rfl); (case hg => rfl); (case hr => first | (go_simp; done) | (go_simp; rfl)); intro gb5 hg w6 hbox hb; (have hbb := below_step (by repeat (first | (with_reducible first | exact HB.out | apply below_alloc | apply pw_below_drewN | apply below_drew1) | exact HB.out)) hb); (have hbk4 := blk_below BK4.out hb); clear HB BK4; (have HB := Aside0.mk hbb); (have BK4 := Aside0.mk hbk4); (have BK5 := Aside0.mk hbox); clear hb hbox hg hbb hbk4))
  have hcz4_0 : w6.cell? ⟨gb4, 0, none⟩ = some (.int .i64 kind) := (blk_cell BK4.out 0).trans rfl
  have hcz4_1 : w6.cell? ⟨gb4, 1, none⟩ = some (.slice A1 nm.length c1) := (blk_cell BK4.out 1).trans rfl
  have hcz4_2 : w6.cell? ⟨gb4, 2, none⟩ = some (.slice A2 ss.length c2) := (blk_cell BK4.out 2).trans rfl
  go_upto_region 2 with (go_at_call 6; refine (chart_Range.calls kr kind A1 c1 nm A2 c2 ss low high 0 _ (Kd.C_below HR1.out HB.out) HC1.out (Kd.C_below HR2.out HB.out) HC2.out HR.out).mono ?_; rintro e w7 ⟨rfl, hb⟩; (have hbb := below_step HB.out hb); (have hbk4 := blk_below BK4.out hb); (have hbk5 := blk_below BK5.out hb); clear HB BK4 BK5; (have HB := Aside0.mk hbb); (have BK4 := Aside0.mk hbk4); (have BK5 := Aside0.mk hbk5); clear hb hbb hbk4 hbk5)
  clear hcz4_0 hcz4_1 hcz4_2
  have hcz5_0 : w7.cell? ⟨gb5, 0, none⟩ = some (.int .i64 lo) := (blk_cell BK5.out 0).trans rfl
  have hcz5_1 : w7.cell? ⟨gb5, 1, none⟩ = some (.int .i64 hi) := (blk_cell BK5.out 1).trans rfl
  have hcz5_2 : w7.cell? ⟨gb5, 2, none⟩ = some (.int .i64 st) := (blk_cell BK5.out 2).trans rfl
  go_upto_region 5 with (go_at_call 11; refine (scale_Check.calls kr lo hi st 0 _ HC.out).mono ?_; rintro e w8 ⟨rfl, hb⟩; (have hbb := below_step HB.out hb); (have hbk4 := blk_below BK4.out hb); (have hbk5 := blk_below BK5.out hb); clear HB BK4 BK5; (have HB := Aside0.mk hbb); (have BK4 := Aside0.mk hbk4); (have BK5 := Aside0.mk hbk5); clear hb hbb hbk4 hbk5)
  clear hcz5_0 hcz5_1 hcz5_2
  have hcz4_0 : w8.cell? ⟨gb4, 0, none⟩ = some (.int .i64 kind) := (blk_cell BK4.out 0).trans rfl
  have hcz4_1 : w8.cell? ⟨gb4, 1, none⟩ = some (.slice A1 nm.length c1) := (blk_cell BK4.out 1).trans rfl
  have hcz4_2 : w8.cell? ⟨gb4, 2, none⟩ = some (.slice A2 ss.length c2) := (blk_cell BK4.out 2).trans rfl
  have hcz5_0 : w8.cell? ⟨gb5, 0, none⟩ = some (.int .i64 lo) := (blk_cell BK5.out 0).trans rfl
  have hcz5_1 : w8.cell? ⟨gb5, 1, none⟩ = some (.int .i64 hi) := (blk_cell BK5.out 1).trans rfl
  have hcz5_2 : w8.cell? ⟨gb5, 2, none⟩ = some (.int .i64 st) := (blk_cell BK5.out 2).trans rfl
  go_wp2
  go_ret2
  exact ⟨_, rfl, Kd.R_nil _ _ _ _ _, HB.out⟩
end
def chart_Bars.f (k : Nat) (kind : Int) (nm : List ByteArray) (ss : List (List Int)) (lo hi st wd ht : Int) : Option (List S42 × Int) :=
  (chart_Range.f k kind nm ss).bind fun r => if r.2.2 = 0 then (scale_Check.f k lo hi st).bind fun e => if e = 0 then (if kind = 3 then some ([], 8) else if wd < 1 ∨ wd > 100000 ∨ ht < 1 ∨ ht > 100000 ∨ r.1 < lo ∨ r.2.1 > hi then some ([], 2) else some (barsC kind ss lo hi ht (edg wd nm.length) nm.length, 0)) else some ([], e) else some ([], r.2.2)
theorem chart_Bars.mono (kind : Int) (nm : List ByteArray) (ss : List (List Int)) (lo hi st wd ht : Int) (k : Nat) : LeO (chart_Bars.f k kind nm ss lo hi st wd ht) (chart_Bars.f (k + 1) kind nm ss lo hi st wd ht) := by
  unfold chart_Bars.f
  exact LeO.bind (chart_Range.mono _ _ _ k) fun r => LeO.ite (LeO.bind (scale_Check.mono _ _ _ k) fun e => LeO.refl _) (LeO.refl _)
open Go.Proofs.Ytemginkjkmmimaa.ChartB in
set_option maxHeartbeats 4000000 in
theorem chart_Bars.calls (k : Nat) (a0_0 : Int) (A0_1 : Option Addr) (c0_1 : Nat) (l0_1 : List ByteArray) (A0_2 : Option Addr) (c0_2 : Nat) (l0_2 : List (List Int)) (a1_0 a1_1 a1_2 a2 a3 : Int) (r1 : List S42) (r2 : Int) (w : World) (hr0_1 : Kd.C Kd.string w A0_1 l0_1.length l0_1) (hc0_1 : l0_1.length ≤ c0_1) (hr0_2 : Kd.C (Kd.slice 3 (Kd.int .i64)) w A0_2 l0_2.length l0_2) (hc0_2 : l0_2.length ≤ c0_2) (h : chart_Bars.f k a0_0 l0_1 l0_2 a1_0 a1_1 a1_2 a2 a3 = some (r1, r2)) :
    Calls Try.prog 7 #[.agg #[.int .i64 a0_0, .slice A0_1 l0_1.length c0_1, .slice A0_2 l0_2.length c0_2], .agg #[.int .i64 a1_0, .int .i64 a1_1, .int .i64 a1_2], .int .i64 a2, .int .i64 a3] w fun e w' => ∃ v0_ : Value, e = .returned (.tuple #[v0_, .int .i64 r2]) ∧ Kd.R k42 42 w' w.heap.size (fun _ => True) v0_ r1 ∧ Below w.heap.size w w' := by
  unfold chart_Bars.f at h
  obtain ⟨⟨low, high, e⟩, hR, h⟩ := Option.bind_eq_some_iff.1 h
  simp only at h
  by_cases e0 : e = 0
  · subst e0
    rw [if_pos rfl] at h
    obtain ⟨s, hC, h⟩ := Option.bind_eq_some_iff.1 h
    by_cases s0 : s = 0
    · subst s0
      rw [if_pos rfl] at h
      by_cases hk : a0_0 = 3
      · rw [if_pos hk] at h
        simp only [Option.some.injEq, Prod.mk.injEq] at h
        obtain ⟨rfl, rfl⟩ := h
        exact bars_e3 k a0_0 A0_1 c0_1 l0_1 A0_2 c0_2 l0_2 a1_0 a1_1 a1_2 a2 a3 w hr0_1 hc0_1 hr0_2 hc0_2 low high hR hC hk
      · rw [if_neg hk] at h
        by_cases hb : a2 < 1 ∨ a2 > 100000 ∨ a3 < 1 ∨ a3 > 100000 ∨ low < a1_0 ∨ high > a1_1
        · rw [if_pos hb] at h
          simp only [Option.some.injEq, Prod.mk.injEq] at h
          obtain ⟨rfl, rfl⟩ := h
          by_cases b0 : a2 < 1
          · exact bars_e4a k a0_0 A0_1 c0_1 l0_1 A0_2 c0_2 l0_2 a1_0 a1_1 a1_2 a2 a3 w hr0_1 hc0_1 hr0_2 hc0_2 low high hR hC hk b0
          · by_cases b1 : a2 > 100000
            · exact bars_e4b k a0_0 A0_1 c0_1 l0_1 A0_2 c0_2 l0_2 a1_0 a1_1 a1_2 a2 a3 w hr0_1 hc0_1 hr0_2 hc0_2 low high hR hC hk b0 b1
            · by_cases b2 : a3 < 1
              · exact bars_e4c k a0_0 A0_1 c0_1 l0_1 A0_2 c0_2 l0_2 a1_0 a1_1 a1_2 a2 a3 w hr0_1 hc0_1 hr0_2 hc0_2 low high hR hC hk b0 b1 b2
              · by_cases b3 : a3 > 100000
                · exact bars_e4d k a0_0 A0_1 c0_1 l0_1 A0_2 c0_2 l0_2 a1_0 a1_1 a1_2 a2 a3 w hr0_1 hc0_1 hr0_2 hc0_2 low high hR hC hk b0 b1 b2 b3
                · by_cases b4 : low < a1_0
                  · exact bars_e4e k a0_0 A0_1 c0_1 l0_1 A0_2 c0_2 l0_2 a1_0 a1_1 a1_2 a2 a3 w hr0_1 hc0_1 hr0_2 hc0_2 low high hR hC hk b0 b1 b2 b3 b4
                  · exact bars_e4f k a0_0 A0_1 c0_1 l0_1 A0_2 c0_2 l0_2 a1_0 a1_1 a1_2 a2 a3 w hr0_1 hc0_1 hr0_2 hc0_2 low high hR hC hk b0 b1 b2 b3 b4 (by omega)
        · rw [if_neg hb] at h
          simp only [Option.some.injEq, Prod.mk.injEq] at h
          obtain ⟨rfl, rfl⟩ := h
          obtain ⟨k0, k3⟩ := range_kind k a0_0 l0_1 l0_2 low high hR
          obtain ⟨n1, n2, m1, m2, hl, hg⟩ := range_shape k a0_0 l0_1 l0_2 low high hR
          obtain ⟨rfl, rfl⟩ := range_val k a0_0 l0_1 l0_2 low high hR
          have hz := chk_of k a1_0 a1_1 a1_2 0 hC
          obtain ⟨K, hX, hE, hP⟩ := rounds_all a1_0 a1_1 a1_2 a2 a3 l0_1.length l0_2.length hz (by omega) (by omega) (by omega) (by omega) n1 n2 m1 m2
          obtain ⟨q1, q2, q3⟩ := bounds_all a0_0 l0_1 l0_2 a1_0 a1_1 a1_2 hz n1 n2 m1 m2 hl hg (by omega) (by omega)
          exact bars_good K k a0_0 A0_1 c0_1 l0_1 A0_2 c0_2 l0_2 a1_0 a1_1 a1_2 a2 a3 _ _ (edg a2 l0_1.length) w hr0_1 hc0_1 hr0_2 hc0_2 (by omega) n2 m2 hR hC (by omega) (by omega) (by omega) (by omega)
            hX (by rw [edg_length _ _ (by omega)]; omega) hE hP q1 q2 q3 hl
    · rw [if_neg s0] at h
      simp only [Option.some.injEq, Prod.mk.injEq] at h
      obtain ⟨rfl, rfl⟩ := h
      exact bars_e2 k a0_0 A0_1 c0_1 l0_1 A0_2 c0_2 l0_2 a1_0 a1_1 a1_2 a2 a3 w hr0_1 hc0_1 hr0_2 hc0_2 low high _ hR hC s0
  · rw [if_neg e0] at h
    simp only [Option.some.injEq, Prod.mk.injEq] at h
    obtain ⟨rfl, rfl⟩ := h
    exact bars_e1 k a0_0 A0_1 c0_1 l0_1 A0_2 c0_2 l0_2 a1_0 a1_1 a1_2 a2 a3 w hr0_1 hc0_1 hr0_2 hc0_2 low high _ hR e0
end Go.Proofs.Ytemginkjkmmimaa.HandCB
