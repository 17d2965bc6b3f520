/- Walked by hand: chart.Bars, where everything is in order: the bars of each name, one name after the other. -/
import Derived.Test.YtemginkjkmmimaaHandCBc
namespace Go.Proofs.Ytemginkjkmmimaa.HandCB
open Go.Proofs.Ytemginkjkmmimaa.Lib (w64)
open Go.RowKit Go.Proofs.YtemginkjkmmimaaW.PrintWords Go.Proofs.YtemginkjkmmimaaW.PrintLast Go.Proofs.YtemginkjkmmimaaW.PrintMore Go.Proofs.Ytemginkjkmmimaa.QCB
set_option linter.unusedVariables false
set_option linter.unusedSimpArgs false
attribute [local go_sem] max2_int min2_int max_two min_two
def edg (wd p : Int) : List Int := Lib.tab (fun i => wd * i / p) (p + 1).toNat
def PL (lo hi ht v : Int) : Int := (2 * ((v - lo) * ht) + (hi - lo)) / (2 * (hi - lo))
/-- One point of a line. -/
def dotOf (ht : Int) (sr vl x nb : Int) : S42 := ⟨sr, vl, x, wrap64 (ht - nb), 0, 0⟩
def lineL (ht i x : Int) (nn : Int → Int) (m : Nat) : List S42 := (List.range m).map fun j : Nat => dotOf ht (j : Int) i x (nn (j : Int))
theorem lineL_succ (ht i x : Int) (nn : Int → Int) (m : Nat) : lineL ht i x nn (m + 1) = lineL ht i x nn m ++ [dotOf ht m i x (nn m)] := by
  unfold lineL
  rw [List.range_succ, List.map_append]
  rfl
def itemC (kind : Int) (ss : List (List Int)) (lo hi ht : Int) (X : List Int) (i : Int) : List S42 :=
  if kind = 0 then besideL ht i (rd X i) (PL lo hi ht (mn (mx 0 lo) hi)) (edg (wrap64 (rd X (i + 1) - rd X i)) (2 * ss.length + 2)) (fun j => PL lo hi ht (rd (rd_L1 ss j) i)) ss.length
  else if kind = 1 then stackL ht i (rd X i) (edg (wrap64 (rd X (i + 1) - rd X i)) 4) (fun j => PL lo hi ht (sumS (mn (mx 0 lo) hi) ss i j)) ss.length
  else lineL ht i (wrap64 (Int.tdiv (wrap64 (rd X i + rd X (i + 1))) 2)) (fun j => PL lo hi ht (rd (rd_L1 ss j) i)) ss.length
def barsC (kind : Int) (ss : List (List Int)) (lo hi ht : Int) (X : List Int) (n : Nat) : List S42 := (List.range n).flatMap fun i : Nat => itemC kind ss lo hi ht X i
theorem barsC_succ (kind : Int) (ss : List (List Int)) (lo hi ht : Int) (X : List Int) (n : Nat) : barsC kind ss lo hi ht X (n + 1) = barsC kind ss lo hi ht X n ++ itemC kind ss lo hi ht X n := by
  unfold barsC
  rw [List.range_succ, List.flatMap_append]
  simp
theorem itemC_length (kind : Int) (ss : List (List Int)) (lo hi ht : Int) (X : List Int) (i : Int) : (itemC kind ss lo hi ht X i).length = ss.length := by
  unfold itemC
  split
  · simp [besideL]
  · split
    · simp [stackL]
    · simp [lineL]
theorem barsC_length (kind : Int) (ss : List (List Int)) (lo hi ht : Int) (X : List Int) (n : Nat) : (barsC kind ss lo hi ht X n).length = n * ss.length := by
  induction n with
  | zero => simp [barsC]
  | succ n ih => rw [barsC_succ, List.length_append, ih, itemC_length, Nat.succ_mul]
set_option maxHeartbeats 8000000 in
set_option maxRecDepth 100000 in
theorem bars_good (k kr : Nat) (kind : Int) (A1 : Option Addr) (c1 : Nat) (nm : List ByteArray) (A2 : Option Addr) (c2 : Nat) (ss : List (List Int)) (lo hi st wd ht low high : Int) (X : List Int) (w : World)
    (hr1 : Kd.C Kd.string w A1 nm.length nm) (hc1 : nm.length ≤ c1) (hr2 : kL.C w A2 ss.length ss) (hc2 : ss.length ≤ c2)
    (hk : kind = 0 ∨ kind = 1 ∨ kind = 2) (hn : nm.length ≤ 200) (hm : ss.length ≤ 12)
    (hR : chart_Range.f kr kind nm ss = some (low, high, 0)) (hC : scale_Check.f kr lo hi st = some 0) (hwd : 1 ≤ wd ∧ wd ≤ 100000) (hht : 1 ≤ ht ∧ ht ≤ 100000) (hlo : lo ≤ low) (hhi : high ≤ hi)
    (hX : chart_edges.f k wd nm.length = some X) (hXl : X.length = nm.length + 1)
    (hE : ∀ i : Int, 0 ≤ i → i < nm.length → chart_edges.f k (wrap64 (rd X (i + 1) - rd X i)) (2 * ss.length + 2) = some (edg (wrap64 (rd X (i + 1) - rd X i)) (2 * ss.length + 2)) ∧ chart_edges.f k (wrap64 (rd X (i + 1) - rd X i)) 4 = some (edg (wrap64 (rd X (i + 1) - rd X i)) 4))
    (hP : ∀ v, lo ≤ v → v ≤ hi → scale_Place.f k lo hi st v ht = some (PL lo hi ht v, 0))
    (hV : kind ≠ 1 → ∀ i j : Int, 0 ≤ i → i < nm.length → 0 ≤ j → j < ss.length → lo ≤ rd (rd_L1 ss j) i ∧ rd (rd_L1 ss j) i ≤ hi)
    (hS : kind = 1 → ∀ i : Int, 0 ≤ i → i < nm.length → ∀ j : Nat, j ≤ ss.length → lo ≤ sumS (mn (mx 0 lo) hi) ss i j ∧ sumS (mn (mx 0 lo) hi) ss i j ≤ hi)
    (hZ : lo ≤ mn (mx 0 lo) hi ∧ mn (mx 0 lo) hi ≤ hi) (hL : ∀ j : Int, 0 ≤ j → j < ss.length → (rd_L1 ss j).length = nm.length) :
    Calls Try.prog 7 #[.agg #[.int .i64 kind, .slice A1 nm.length c1, .slice A2 ss.length c2], .agg #[.int .i64 lo, .int .i64 hi, .int .i64 st], .int .i64 wd, .int .i64 ht] w fun e w' => ∃ v0_ : Value, e = .returned (.tuple #[v0_, .int .i64 0]) ∧ Kd.R k42 42 w' w.heap.size (fun _ => True) v0_ (barsC kind ss lo hi ht X nm.length) ∧ Below w.heap.size w w' := by
  have hu25 := Try.underlying25
  have hu27 := Try.underlying27
  have hu57 := Try.underlying57
  have hu42 := Try.underlying42
  have HR1 := Aside0.mk hr1
  have HC1 := Aside0.mk hc1
  have HR2 := Aside0.mk hr2
  have HC2 := Aside0.mk hc2
  have HR := Aside0.mk hR
  have HC := Aside0.mk hC
  have HX := Aside0.mk hX
  have HXL := Aside0.mk hXl
  have HE := Aside0.mk hE
  have HP := Aside0.mk hP
  have HV := Aside0.mk hV
  have HS := Aside0.mk hS
  have HZ := Aside0.mk hZ
  have HL := Aside0.mk hL
  have HB := Aside0.mk (Below.refl w.heap.size w)
  have b1 : decide (wd < 1) = false := decide_eq_false (by omega)
  have b2 : decide (wd > 100000) = false := decide_eq_false (by omega)
  have b3 : decide (ht < 1) = false := decide_eq_false (by omega)
  have b4 : decide (ht > 100000) = false := decide_eq_false (by omega)
  have b5 : decide (low < lo) = false := decide_eq_false (by omega)
  have b6 : decide (high > hi) = false := decide_eq_false (by omega)
  have b7 : (kind == 3) = false := beq_eq_false_iff_ne.2 (by omega)
  clear hr1 hc1 hr2 hc2 hR hC hX hXl hE hP hV hS hZ hL
  go_enter Try.func7, Try.ntmps7
  go_upto_region 1 with (first
    | ((with_reducible refine gate_dst (N := 4) rfl ?_); refine box_event ?hg (N := 4) ?hd (cs := #[.int .i64 kind, .slice A1 nm.length c1, .slice A2 ss.length c2]) (t := 25) ?hr ?_; (case hd => rfl); (case hg => rfl); (case hr => first | (go_simp; done) | (go_simp; rfl)); intro gb4 hg w5 hbox hb; (have hbb := below_step (by repeat (first | (with_reducible first | exact HB.out | apply below_alloc | apply pw_below_drewN | apply below_drew1) | exact HB.out)) hb); (have hge : w.heap.size ≤ gb4 := by rw [hg]; exact (below_size (by repeat (first | (with_reducible first | exact HB.out | apply below_alloc | apply pw_below_drewN | apply below_drew1) | exact HB.out)))); clear HB; (have HB := Aside0.mk hbb); (have BK4 := Aside0.mk hbox); (have GE4 := Aside0.mk hge); clear hb hbox hg hbb hge)
    | ((with_reducible refine gate_dst (N := 5) rfl ?_); refine box_event ?hg (N := 5) ?hd (cs := #[.int .i64 lo, .int .i64 hi, .int .i64 st]) (t := 27) ?hr ?_; (case hd => rfl); (case hg => rfl); (case hr => first | (go_simp; done) | (go_simp; rfl)); intro gb5 hg w6 hbox hb; (have hbb := below_step (by repeat (first | (with_reducible first | exact HB.out | apply below_alloc | apply pw_below_drewN | apply below_drew1) | exact HB.out)) hb); (have hbk4 := blk_below BK4.out hb); clear HB BK4; (have HB := Aside0.mk hbb); (have BK4 := Aside0.mk hbk4); (have BK5 := Aside0.mk hbox); clear hb hbox hg hbb hbk4))
  have hcz4_0 : w6.cell? ⟨gb4, 0, none⟩ = some (.int .i64 kind) := (blk_cell BK4.out 0).trans rfl
  have hcz4_1 : w6.cell? ⟨gb4, 1, none⟩ = some (.slice A1 nm.length c1) := (blk_cell BK4.out 1).trans rfl
  have hcz4_2 : w6.cell? ⟨gb4, 2, none⟩ = some (.slice A2 ss.length c2) := (blk_cell BK4.out 2).trans rfl
  go_upto_region 2 with (go_at_call 6; refine (chart_Range.calls kr kind A1 c1 nm A2 c2 ss low high 0 _ (Kd.C_below HR1.out HB.out) HC1.out (Kd.C_below HR2.out HB.out) HC2.out HR.out).mono ?_; rintro e w7 ⟨rfl, hb⟩; (have hbb := below_step HB.out hb); (have hbk4 := blk_below BK4.out hb); (have hbk5 := blk_below BK5.out hb); clear HB BK4 BK5; (have HB := Aside0.mk hbb); (have BK4 := Aside0.mk hbk4); (have BK5 := Aside0.mk hbk5); clear hb hbb hbk4 hbk5)
  clear hcz4_0 hcz4_1 hcz4_2
  have hcz5_0 : w7.cell? ⟨gb5, 0, none⟩ = some (.int .i64 lo) := (blk_cell BK5.out 0).trans rfl
  have hcz5_1 : w7.cell? ⟨gb5, 1, none⟩ = some (.int .i64 hi) := (blk_cell BK5.out 1).trans rfl
  have hcz5_2 : w7.cell? ⟨gb5, 2, none⟩ = some (.int .i64 st) := (blk_cell BK5.out 2).trans rfl
  go_upto_region 5 with (go_at_call 11; refine (scale_Check.calls kr lo hi st 0 _ HC.out).mono ?_; rintro e w8 ⟨rfl, hb⟩; (have hbb := below_step HB.out hb); (have hbk4 := blk_below BK4.out hb); (have hbk5 := blk_below BK5.out hb); clear HB BK4 BK5; (have HB := Aside0.mk hbb); (have BK4 := Aside0.mk hbk4); (have BK5 := Aside0.mk hbk5); clear hb hbb hbk4 hbk5)
  clear hcz5_0 hcz5_1 hcz5_2
  have hcz4_0 : w8.cell? ⟨gb4, 0, none⟩ = some (.int .i64 kind) := (blk_cell BK4.out 0).trans rfl
  have hcz4_1 : w8.cell? ⟨gb4, 1, none⟩ = some (.slice A1 nm.length c1) := (blk_cell BK4.out 1).trans rfl
  have hcz4_2 : w8.cell? ⟨gb4, 2, none⟩ = some (.slice A2 ss.length c2) := (blk_cell BK4.out 2).trans rfl
  have hcz5_0 : w8.cell? ⟨gb5, 0, none⟩ = some (.int .i64 lo) := (blk_cell BK5.out 0).trans rfl
  have hcz5_1 : w8.cell? ⟨gb5, 1, none⟩ = some (.int .i64 hi) := (blk_cell BK5.out 1).trans rfl
  have hcz5_2 : w8.cell? ⟨gb5, 2, none⟩ = some (.int .i64 st) := (blk_cell BK5.out 2).trans rfl
  go_upto_region 11 with (fail)
  go_upto_region 12 with ((with_reducible refine gate_dst (N := 66) rfl ?_); refine box_event ?hg (N := 66) ?hd (cs := #[.int .i64 kind, .slice A1 nm.length c1, .slice A2 ss.length c2, .int .i64 lo, .int .i64 hi, .int .i64 st, .int .i64 ht, .slice none 0 0]) (t := 57) ?hr ?_; (case hd => rfl); (case hg => rfl); (case hr => first | (go_simp; done) | (go_simp; rfl)); intro g hg w9 hbox hb; (have hbb := below_step (by repeat (first | (with_reducible first | exact HB.out | apply below_alloc | apply pw_below_drewN | apply below_drew1) | exact HB.out)) hb); (have hge : w.heap.size ≤ g := by rw [hg]; exact (below_size (by repeat (first | (with_reducible first | exact HB.out | apply below_alloc | apply pw_below_drewN | apply below_drew1) | exact HB.out)))); (have hbk4 := blk_below BK4.out hb); clear HB BK4 BK5; (have HB := Aside0.mk hbb); (have BK4 := Aside0.mk hbk4); (have hM0 : MK w.heap.size w9 g kind (.slice A1 nm.length c1) (.slice A2 ss.length c2) lo hi st ht [] := ⟨.slice none 0 0, hbox, hge, Kd.R_nil _ _ _ _ _⟩); (have HM := Aside0.mk hM0); clear hb hbox hg hbb hge hbk4 hM0)
  clear hcz4_0 hcz4_1 hcz4_2 hcz5_0 hcz5_1 hcz5_2
  have hcz4_0 : w9.cell? ⟨gb4, 0, none⟩ = some (.int .i64 kind) := (blk_cell BK4.out 0).trans rfl
  have hcz4_1 : w9.cell? ⟨gb4, 1, none⟩ = some (.slice A1 nm.length c1) := (blk_cell BK4.out 1).trans rfl
  have hcz4_2 : w9.cell? ⟨gb4, 2, none⟩ = some (.slice A2 ss.length c2) := (blk_cell BK4.out 2).trans rfl
  go_upto_region 13 with (go_at_call 18; refine (chart_edges.calls k wd nm.length X _ HX.out).mono ?_; rintro e w10 ⟨v10, rfl, ho, hb⟩; (have hmm := MK.below HM.out hb); (have hoo := Kd.R_lower ho HB.out.size); (have hbb := below_step HB.out hb); (have hbk4 := blk_below BK4.out hb); clear HM HB BK4; (have HM := Aside0.mk hmm); (have HB := Aside0.mk hbb); (have BK4 := Aside0.mk hbk4); (have HO := Aside0.mk hoo); clear hmm hbb hbk4 hoo ho hb)
  obtain ⟨Ae, ce, rfl⟩ := Kd.R_slice HO.out
  have hcz4_1 : w10.cell? ⟨gb4, 1, none⟩ = some (.slice A1 nm.length c1) := (blk_cell BK4.out 1).trans rfl
  go_wp2
  go_loopw [75] (fun v75 w' => ∃ i : Int, v75 = .int .i64 i ∧ 0 ≤ i ∧ i ≤ (nm.length : Int) ∧ Aside0 (MK w.heap.size w' g kind (.slice A1 nm.length c1) (.slice A2 ss.length c2) lo hi st ht (barsC kind ss lo hi ht X i.toNat)) ∧ Aside0 (Below w.heap.size w w') ∧ Aside0 (w'.heap[gb4]? = some (.cells #[.int .i64 kind, .slice A1 nm.length c1, .slice A2 ss.length c2] 25 (0, 0))) ∧ Aside0 (kI.R 3 w' w.heap.size (fun _ => True) (.slice Ae X.length ce) X)) (fun v75 _ => nm.length - (intOf v75).toNat)
  case atStart => exact ⟨0, rfl, by omega, by omega, HM, HB, BK4, HO⟩
  case round =>
    clear HM HB HO BK4 hcz4_0 hcz4_1 hcz4_2
    obtain ⟨i, rfl, hi0, hi1, HM, HB, BK4, HO⟩ := hrel
    by_cases hlt : i < (nm.length : Int)
    · have him : wrap64 (i + 1) = i + 1 := w64 (by omega) (by omega)
      have him2 : IntKind.i64.wrap (i + 1) = i + 1 := (i64_w (i + 1)).trans him
      have hcz4_0 : wr.cell? ⟨gb4, 0, none⟩ = some (.int .i64 kind) := (blk_cell BK4.out 0).trans rfl
      have hcz4_1 : wr.cell? ⟨gb4, 1, none⟩ = some (.slice A1 nm.length c1) := (blk_cell BK4.out 1).trans rfl
      have hcz4_2 : wr.cell? ⟨gb4, 2, none⟩ = some (.slice A2 ss.length c2) := (blk_cell BK4.out 2).trans rfl
      obtain ⟨ge, cc, e, hrb, hrl, hrt⟩ := Kd.R_form HO.out (by have := HXL.out; omega)
      injection e with e1 e2 e3
      subst e1 e3
      clear e2 hrb hrl hrt
      have hle1 : i < (X.length : Int) := by have := HXL.out; omega
      have hle2 : i + 1 < (X.length : Int) := by have := HXL.out; omega
      have hg2 : 0 ≤ i + 1 := by omega
      obtain ⟨hy0, hyf⟩ := Kd.R_celln 0 HO.out i (by omega) (by omega)
      obtain ⟨hz0, hzf⟩ := Kd.R_celln 0 HO.out (i + 1) (by omega) (by omega)
      clear hyf hzf
      obtain ⟨q1, hq1⟩ : ∃ q, rdOf 0 X i = q := ⟨_, rfl⟩
      obtain ⟨q3, hq3⟩ : ∃ q, rdOf 0 X (i + 1) = q := ⟨_, rfl⟩
      rw [hq1] at hy0
      rw [hq3] at hz0
      have HQ : Aside0 (rd X i = q1 ∧ rd X (i + 1) = q3) := ⟨⟨hq1, hq3⟩⟩
      clear hq1 hq3
      have HOL : Aside0 ((barsC kind ss lo hi ht X i.toNat).length ≤ 800000) := ⟨by
        rw [barsC_length]
        have h1 : i.toNat * ss.length ≤ 200 * 12 := Nat.mul_le_mul (by omega) hm
        omega⟩
      rcases hk with rfl | rfl | rfl
      · go_upto_region 23 with (fail)
        have hei := HE.out i hi0 hlt
        rw [HQ.out.1, HQ.out.2] at hei
        have HEI := Aside0.mk hei
        clear hei
        refine wp_region_still_tail 16 (by kernel_rfl) (by kernel_rfl) ?_
        simp only [List.take_succ_cons, List.take_zero, List.drop_succ_cons, List.drop_zero]
        have hm5 := MK.below HM.out (pw_below_drewN (Below.refl wr.heap.size wr) 1)
        have hb5 : Below w.heap.size w (wr.drewN 1) := pw_below_drewN HB.out 1
        have hk5 : (wr.drewN 1).heap[gb4]? = some (.cells #[.int .i64 0, .slice A1 nm.length c1, .slice A2 ss.length c2] 25 (0, 0)) := BK4.out
        have ho5 : kI.R 3 (wr.drewN 1) w.heap.size (fun _ => True) (.slice (some ⟨ge, 0, none⟩) X.length ce) X := Kd.R_drewN HO.out 1
        generalize hwq : ({ wr with drawn := wr.drawn + 1 } : World) = wq
        have hwq2 : wr.drewN 1 = wq := hwq
        rw [hwq2] at hm5 hb5 hk5 ho5
        have hy0 : wq.cell? ⟨ge, i.toNat, none⟩ = some (.int .i64 q1) := by rw [← hwq]; exact hy0
        have hz0 : wq.cell? ⟨ge, (i + 1).toNat, none⟩ = some (.int .i64 q3) := by rw [← hwq]; exact hz0
        clear hwq hwq2 HM HB BK4 HO
        have HM := Aside0.mk hm5
        have HB := Aside0.mk hb5
        have BK4 := Aside0.mk hk5
        have HO := Aside0.mk ho5
        clear hm5 hb5 hk5 ho5
        repeat still_step
        refine wpStill_nil ?_
        go_wp2_with (go_at_call 19; refine (beside_ok w _ k g 0 (.slice A1 nm.length c1) A2 c2 ss lo hi st ht _ i q1 (wrap64 (q3 - q1)) (PL lo hi ht (mn (mx 0 lo) hi)) 0 (edg (wrap64 (q3 - q1)) (2 * ss.length + 2)) (fun j => PL lo hi ht (rd (rd_L1 ss j) i)) (fun _ => 0) HR2.out HB.out HM.out (by omega) (by have := HOL.out; omega) hi0 (fun j h1 h2 => by rw [HL.out j h1 h2]; exact hlt) HEI.out.1 (by rw [edg, Lib.tab_length]; omega) (HP.out _ HZ.out.1 HZ.out.2) (fun j h1 h2 => HP.out _ (HV.out (by decide) i j hi0 hlt h1 h2).1 (HV.out (by decide) i j hi0 hlt h1 h2).2)).mono ?_; rintro e w12 ⟨rfl, hm7, hb7, ht7⟩; (have hmm : MK w.heap.size w12 g 0 (.slice A1 nm.length c1) (.slice A2 ss.length c2) lo hi st ht (barsC 0 ss lo hi ht X (i.toNat + 1)) := by rw [barsC_succ, show ((i.toNat : Nat) : Int) = i by omega, itemC, if_pos rfl, HQ.out.1, HQ.out.2]; exact hm7); (obtain ⟨u6, hbg6, _, _⟩ := HM.out); (have hne : gb4 ≠ g := fun e => by have h1 := BK4.out; rw [e, hbg6] at h1; simp at h1); (have hk7 := ht7 gb4 _ 25 _ BK4.out (by decide) hne); (have ho7 := R_TK HO.out ht7 hbg6 (by decide)); clear HM HB BK4 HO hbg6 hm7 ht7 hne; (have HM := Aside0.mk hmm); (have HB := Aside0.mk hb7); (have BK4 := Aside0.mk hk7); (have HO := Aside0.mk ho7); clear hmm hb7 hk7 ho7)
        go_roundw
        case rel => exact ⟨i + 1, by first | rfl | rw [him], by omega, by omega, by rw [show (i + 1).toNat = i.toNat + 1 by omega]; exact HM, HB, BK4, HO⟩
        case measure => first | (simp [intOf]; omega) | (rw [him]; simp [intOf]; omega)
      · go_upto_region 25 with (fail)
        have hei := HE.out i hi0 hlt
        rw [HQ.out.1, HQ.out.2] at hei
        have HEI := Aside0.mk hei
        clear hei
        refine wp_region_still_tail 16 (by kernel_rfl) (by kernel_rfl) ?_
        simp only [List.take_succ_cons, List.take_zero, List.drop_succ_cons, List.drop_zero]
        have hm5 := MK.below HM.out (pw_below_drewN (Below.refl wr.heap.size wr) 1)
        have hb5 : Below w.heap.size w (wr.drewN 1) := pw_below_drewN HB.out 1
        have hk5 : (wr.drewN 1).heap[gb4]? = some (.cells #[.int .i64 1, .slice A1 nm.length c1, .slice A2 ss.length c2] 25 (0, 0)) := BK4.out
        have ho5 : kI.R 3 (wr.drewN 1) w.heap.size (fun _ => True) (.slice (some ⟨ge, 0, none⟩) X.length ce) X := Kd.R_drewN HO.out 1
        generalize hwq : ({ wr with drawn := wr.drawn + 1 } : World) = wq
        have hwq2 : wr.drewN 1 = wq := hwq
        rw [hwq2] at hm5 hb5 hk5 ho5
        have hy0 : wq.cell? ⟨ge, i.toNat, none⟩ = some (.int .i64 q1) := by rw [← hwq]; exact hy0
        have hz0 : wq.cell? ⟨ge, (i + 1).toNat, none⟩ = some (.int .i64 q3) := by rw [← hwq]; exact hz0
        clear hwq hwq2 HM HB BK4 HO
        have HM := Aside0.mk hm5
        have HB := Aside0.mk hb5
        have BK4 := Aside0.mk hk5
        have HO := Aside0.mk ho5
        clear hm5 hb5 hk5 ho5
        repeat still_step
        refine wpStill_nil ?_
        go_wp2_with (go_at_call 20; refine (stacked_ok w _ k g 1 (.slice A1 nm.length c1) A2 c2 ss lo hi st ht _ i q1 (wrap64 (q3 - q1)) (edg (wrap64 (q3 - q1)) 4) (fun j => PL lo hi ht (sumS (mn (mx 0 lo) hi) ss i j)) (fun _ => 0) HR2.out HB.out HM.out (by omega) (by have := HOL.out; omega) hi0 (fun j h1 h2 => by rw [HL.out j h1 h2]; exact hlt) HEI.out.2 (by rw [edg, Lib.tab_length]; rfl) (fun j hj => HP.out _ (HS.out rfl i hi0 hlt j hj).1 (HS.out rfl i hi0 hlt j hj).2)).mono ?_; rintro e w12 ⟨rfl, hm7, hb7, ht7⟩; (have hmm : MK w.heap.size w12 g 1 (.slice A1 nm.length c1) (.slice A2 ss.length c2) lo hi st ht (barsC 1 ss lo hi ht X (i.toNat + 1)) := by rw [barsC_succ, show ((i.toNat : Nat) : Int) = i by omega, itemC, if_neg (by decide), if_pos rfl, HQ.out.1, HQ.out.2]; exact hm7); (obtain ⟨u6, hbg6, _, _⟩ := HM.out); (have hne : gb4 ≠ g := fun e => by have h1 := BK4.out; rw [e, hbg6] at h1; simp at h1); (have hk7 := ht7 gb4 _ 25 _ BK4.out (by decide) hne); (have ho7 := R_TK HO.out ht7 hbg6 (by decide)); clear HM HB BK4 HO hbg6 hm7 ht7 hne; (have HM := Aside0.mk hmm); (have HB := Aside0.mk hb7); (have BK4 := Aside0.mk hk7); (have HO := Aside0.mk ho7); clear hmm hb7 hk7 ho7)
        go_roundw
        case rel => exact ⟨i + 1, by first | rfl | rw [him], by omega, by omega, by rw [show (i + 1).toNat = i.toNat + 1 by omega]; exact HM, HB, BK4, HO⟩
        case measure => first | (simp [intOf]; omega) | (rw [him]; simp [intOf]; omega)
      · go_wp2
        go_loopw [83] (fun v83 w' => ∃ j : Int, v83 = .int .i64 j ∧ 0 ≤ j ∧ j ≤ (ss.length : Int) ∧ Aside0 (MK w.heap.size w' g 2 (.slice A1 nm.length c1) (.slice A2 ss.length c2) lo hi st ht (barsC 2 ss lo hi ht X i.toNat ++ lineL ht i (wrap64 (Int.tdiv (wrap64 (q1 + q3)) 2)) (fun j => PL lo hi ht (rd (rd_L1 ss j) i)) j.toNat)) ∧ Aside0 (Below w.heap.size w w') ∧ Aside0 (w'.heap[gb4]? = some (.cells #[.int .i64 2, .slice A1 nm.length c1, .slice A2 ss.length c2] 25 (0, 0))) ∧ Aside0 (kI.R 3 w' w.heap.size (fun _ => True) (.slice (some ⟨ge, 0, none⟩) X.length ce) X)) (fun v83 _ => ss.length - (intOf v83).toNat)
        case atStart => exact ⟨0, rfl, by omega, by omega, ⟨by rw [show lineL ht i (wrap64 (Int.tdiv (wrap64 (q1 + q3)) 2)) (fun j => PL lo hi ht (rd (rd_L1 ss j) i)) (0 : Int).toNat = [] from rfl, List.append_nil]; exact HM.out⟩, HB, BK4, HO⟩
        case round =>
          clear HM HB HO BK4 hcz4_0 hcz4_1 hcz4_2 hy0 hz0
          obtain ⟨j, rfl, hj0, hj1, HM, HB, BK4, HO⟩ := hrel
          by_cases hlj : j < (ss.length : Int)
          · have hjm : wrap64 (j + 1) = j + 1 := w64 (by omega) (by omega)
            obtain ⟨ad, Al, cl, ea, hx0, hcl, hC⟩ := at_L1 HR2.out j hj0 hlj
            subst ea
            have hil : i < (rd_L1 ss j).length := by rw [HL.out j hj0 hlj]; exact hlt
            have hpv := HP.out _ (HV.out (by decide) i j hi0 hlt hj0 hlj).1 (HV.out (by decide) i j hi0 hlt hj0 hlj).2
            have hyy : ∀ q, PL lo hi ht (rd (rd_L1 ss j) i) = q → lineL ht i (wrap64 (Int.tdiv (wrap64 (q1 + q3)) 2)) (fun j => PL lo hi ht (rd (rd_L1 ss j) i)) (j.toNat + 1) = lineL ht i (wrap64 (Int.tdiv (wrap64 (q1 + q3)) 2)) (fun j => PL lo hi ht (rd (rd_L1 ss j) i)) j.toNat ++ [⟨j, i, wrap64 (Int.tdiv (wrap64 (q1 + q3)) 2), wrap64 (ht - q), 0, 0⟩] := fun q hq => by
              rw [lineL_succ, show ((j.toNat : Nat) : Int) = j by omega, hq]
              rfl
            obtain ⟨pv, hpv2⟩ : ∃ q, PL lo hi ht (rd (rd_L1 ss j) i) = q := ⟨_, rfl⟩
            replace hyy := hyy pv hpv2
            rw [hpv2] at hpv
            clear hpv2
            have HYY := Aside0.mk hyy
            clear hyy
            obtain ⟨l, hl⟩ : ∃ l, rd_L1 ss j = l := ⟨_, rfl⟩
            rw [hl] at hx0 hcl hC hil hpv
            replace hx0 := (HB.out.cell (World.block_lt_of_cell? _ _ hx0)).trans hx0
            have HPV := Aside0.mk hpv
            clear hl hpv
            obtain ⟨al, cs9, ea, -, hK9, hc9⟩ := Kd.C_get hC (0 : Int) i hi0 (by omega)
            subst ea
            obtain rfl : cs9 = [.int .i64 (l.getD i.toNat 0)] := hK9
            have hv00 : w.cell? (al.add i.toNat) = some (.int .i64 (rd l i)) := by have hq := hc9 0 _ rfl; rwa [show i.toNat * kI.sz + 0 = i.toNat from by show i.toNat * 1 + 0 = i.toNat; omega] at hq
            have hv0 : wr.cell? (al.add i.toNat) = some (.int .i64 (rd l i)) := (HB.out.cell (World.block_lt_of_cell? _ _ hv00)).trans hv00
            clear hc9 hC hv00
            obtain ⟨hy0, hyf⟩ := Kd.R_celln 0 HO.out i (by omega) (by omega)
            obtain ⟨hz0, hzf⟩ := Kd.R_celln 0 HO.out (i + 1) (by omega) (by omega)
            clear hyf hzf
            rw [show rdOf 0 X i = q1 from HQ.out.1] at hy0
            rw [show rdOf 0 X (i + 1) = q3 from HQ.out.2] at hz0
            go_upto_region 20 with (fail)
            clear hx0
            obtain ⟨OUT, hOUT⟩ : ∃ O, barsC 2 ss lo hi ht X i.toNat ++ lineL ht i (wrap64 (Int.tdiv (wrap64 (q1 + q3)) 2)) (fun j => PL lo hi ht (rd (rd_L1 ss j) i)) j.toNat = O := ⟨_, rfl⟩
            have hOL : OUT.length ≤ 1000000 := by rw [← hOUT, List.length_append, lineL, List.length_map, List.length_range]; have := HOL.out; omega
            have HOL2 := Aside0.mk hOL
            clear hOL
            have hb1 : Below wr.heap.size wr wr.drew := below_drew1 (Below.refl wr.heap.size wr)
            have hm5 := MK.below HM.out hb1
            rw [hOUT] at hm5
            have HOUT := Aside0.mk hOUT
            clear hOUT
            have hb5 := below_step HB.out hb1
            have hk5 := blk_below BK4.out hb1
            have ho5 := Kd.R_below HO.out hb1
            have hy0 : wr.drew.cell? ⟨ge, i.toNat, none⟩ = some (.int .i64 q1) := hy0
            have hz0 : wr.drew.cell? ⟨ge, (i + 1).toNat, none⟩ = some (.int .i64 q3) := hz0
            have hv0 : wr.drew.cell? (al.add i.toNat) = some (.int .i64 (rd l i)) := hv0
            clear hb1 HM HB BK4 HO
            obtain ⟨u5, hbg5, hgg, hRR⟩ := id hm5
            obtain ⟨Ao, co, rfl⟩ := Kd.R_slice hRR
            have hc7 : wr.drew.cell? ⟨g, 7, none⟩ = some (.slice Ao OUT.length co) := (blk_cell hbg5 7).trans rfl
            have HGG := Aside0.mk hgg
            clear hgg
            -- REGION 20
            refine start_ (n := 30) (S := fun w' => w'.cell? ⟨ge, i.toNat, none⟩ = some (.int .i64 q1) ∧ w'.cell? ⟨ge, (i + 1).toNat, none⟩ = some (.int .i64 q3) ∧ w'.cell? (al.add i.toNat) = some (.int .i64 (rd l i)) ∧ w'.cell? ⟨g, 7, none⟩ = some (.slice Ao OUT.length co)) (ds := [26, 29]) #[false, false, false, false, false, false, false, false, false, false, false, false, false, false, false, false, false, false, false, false, false, false, false, false, false, false, false, false, false, false] (by kernel_rfl) rfl rfl ⟨hy0, hz0, hv0, hc7⟩ (fun hHeld => ?_)
            generalize wr.drew = wq at hm5 hb5 hk5 ho5 hbg5 hRR hHeld ⊢
            have HM := Aside0.mk hm5
            have HB := Aside0.mk hb5
            have BK4 := Aside0.mk hk5
            have HO := Aside0.mk ho5
            have HBG := Aside0.mk hbg5
            have HRR := Aside0.mk hRR
            clear hm5 hb5 hk5 ho5 hbg5 hRR
            refine pure_ (i := 0) (N := some 88) (v := ?_) (a' := ?_) #[true, false, false, false, false, false, false, false, false, false, false, false, false, false, false, false, false, false, false, false, false, false, false, false, false, false, false, false, false, false] rfl rfl (by kernel_rfl) (fun _ _ _ h => h) (Or.inl ⟨by rfl, ?_⟩) ?_ ?_
            rotate_left
            · intro w'
              go_simp
              with_reducible rfl
            rotate_left
            · simp only [Act.put, List.setIfInBounds_toArray, List.set_cons_zero, List.set_cons_succ, i64_w, i32_w]
              rfl
            refine pure_ (i := 1) (N := some 89) (v := ?_) (a' := ?_) #[true, true, false, false, false, false, false, false, false, false, false, false, false, false, false, false, false, false, false, false, false, false, false, false, false, false, false, false, false, false] rfl rfl (by kernel_rfl) (fun _ _ _ h => h) (Or.inl ⟨by rfl, ?_⟩) ?_ ?_
            rotate_left
            · intro w'
              go_simp
              with_reducible rfl
            rotate_left
            · simp only [Act.put, List.setIfInBounds_toArray, List.set_cons_zero, List.set_cons_succ, i64_w, i32_w]
              rfl
            refine pure_ (i := 2) (N := some 90) (v := ?_) (a' := ?_) #[true, true, true, false, false, false, false, false, false, false, false, false, false, false, false, false, false, false, false, false, false, false, false, false, false, false, false, false, false, false] rfl rfl (by kernel_rfl) (fun _ _ _ h => h) (Or.inl ⟨by rfl, ?_⟩) ?_ ?_
            rotate_left
            · intro w'
              go_simp
              with_reducible rfl
            rotate_left
            · simp only [Act.put, List.setIfInBounds_toArray, List.set_cons_zero, List.set_cons_succ, i64_w, i32_w]
              rfl
            refine pure_ (i := 3) (N := some 91) (v := ?_) (a' := ?_) #[true, true, true, true, false, false, false, false, false, false, false, false, false, false, false, false, false, false, false, false, false, false, false, false, false, false, false, false, false, false] rfl rfl (by kernel_rfl) (fun _ _ _ h => h) (Or.inl ⟨by rfl, ?_⟩) ?_ ?_
            rotate_left
            · intro w'
              go_simp
              with_reducible rfl
            rotate_left
            · simp only [Act.put, List.setIfInBounds_toArray, List.set_cons_zero, List.set_cons_succ, i64_w, i32_w]
              rfl
            refine pure_ (i := 5) (N := some 93) (v := ?_) (a' := ?_) #[true, true, true, true, false, true, false, false, false, false, false, false, false, false, false, false, false, false, false, false, false, false, false, false, false, false, false, false, false, false] rfl rfl (by kernel_rfl) (fun _ _ _ h => h) (Or.inl ⟨by rfl, ?_⟩) ?_ ?_
            rotate_left
            · intro w'
              go_simp
              with_reducible rfl
            rotate_left
            · simp only [Act.put, List.setIfInBounds_toArray, List.set_cons_zero, List.set_cons_succ, i64_w, i32_w]
              rfl
            refine pure_ (i := 6) (N := some 94) (v := ?_) (a' := ?_) #[true, true, true, true, false, true, true, false, false, false, false, false, false, false, false, false, false, false, false, false, false, false, false, false, false, false, false, false, false, false] rfl rfl (by kernel_rfl) (fun _ _ _ h => h) (Or.inl ⟨by rfl, ?_⟩) ?_ ?_
            rotate_left
            · intro w'
              go_simp
              with_reducible rfl
            rotate_left
            · simp only [Act.put, List.setIfInBounds_toArray, List.set_cons_zero, List.set_cons_succ, i64_w, i32_w]
              rfl
            refine pure_ (i := 7) (N := some 95) (v := ?_) (a' := ?_) #[true, true, true, true, false, true, true, true, false, false, false, false, false, false, false, false, false, false, false, false, false, false, false, false, false, false, false, false, false, false] rfl rfl (by kernel_rfl) (fun _ _ _ h => h) (Or.inl ⟨by rfl, ?_⟩) ?_ ?_
            rotate_left
            · intro w'
              go_simp
              with_reducible rfl
            rotate_left
            · simp only [Act.put, List.setIfInBounds_toArray, List.set_cons_zero, List.set_cons_succ, i64_w, i32_w]
              rfl
            refine pure_ (i := 8) (N := some 96) (v := ?_) (a' := ?_) #[true, true, true, true, false, true, true, true, true, false, false, false, false, false, false, false, false, false, false, false, false, false, false, false, false, false, false, false, false, false] rfl rfl (by kernel_rfl) (fun _ _ _ h => h) (Or.inl ⟨by rfl, ?_⟩) ?_ ?_
            rotate_left
            · intro w'
              go_simp
              with_reducible rfl
            rotate_left
            · simp only [Act.put, List.setIfInBounds_toArray, List.set_cons_zero, List.set_cons_succ, i64_w, i32_w]
              rfl
            refine pure_ (i := 9) (N := some 97) (v := ?_) (a' := ?_) #[true, true, true, true, false, true, true, true, true, true, false, false, false, false, false, false, false, false, false, false, false, false, false, false, false, false, false, false, false, false] rfl rfl (by kernel_rfl) (fun _ _ _ h => h) (Or.inl ⟨by rfl, ?_⟩) ?_ ?_
            rotate_left
            · intro w'
              go_simp
              with_reducible rfl
            rotate_left
            · simp only [Act.put, List.setIfInBounds_toArray, List.set_cons_zero, List.set_cons_succ, i64_w, i32_w]
              rfl
            refine pure_ (i := 11) (N := some 99) (v := ?_) (a' := ?_) #[true, true, true, true, false, true, true, true, true, true, false, true, false, false, false, false, false, false, false, false, false, false, false, false, false, false, false, false, false, false] rfl rfl (by kernel_rfl) (fun _ _ _ h => h) (Or.inl ⟨by rfl, ?_⟩) ?_ ?_
            rotate_left
            · intro w'
              go_simp
              with_reducible rfl
            rotate_left
            · simp only [Act.put, List.setIfInBounds_toArray, List.set_cons_zero, List.set_cons_succ, i64_w, i32_w]
              rfl
            refine pure_ (i := 12) (N := some 100) (v := ?_) (a' := ?_) #[true, true, true, true, false, true, true, true, true, true, false, true, true, false, false, false, false, false, false, false, false, false, false, false, false, false, false, false, false, false] rfl rfl (by kernel_rfl) (fun _ _ _ h => h) (Or.inl ⟨by rfl, ?_⟩) ?_ ?_
            rotate_left
            · intro w'
              go_simp
              with_reducible rfl
            rotate_left
            · simp only [Act.put, List.setIfInBounds_toArray, List.set_cons_zero, List.set_cons_succ, i64_w, i32_w]
              rfl
            refine pure_ (i := 13) (N := some 101) (v := ?_) (a' := ?_) #[true, true, true, true, false, true, true, true, true, true, false, true, true, true, false, false, false, false, false, false, false, false, false, false, false, false, false, false, false, false] rfl rfl (by kernel_rfl) (fun _ _ _ h => h) (Or.inl ⟨by rfl, ?_⟩) ?_ ?_
            rotate_left
            · intro w'
              go_simp
              with_reducible rfl
            rotate_left
            · simp only [Act.put, List.setIfInBounds_toArray, List.set_cons_zero, List.set_cons_succ, i64_w, i32_w]
              rfl
            refine pure_ (i := 14) (N := some 102) (v := ?_) (a' := ?_) #[true, true, true, true, false, true, true, true, true, true, false, true, true, true, true, false, false, false, false, false, false, false, false, false, false, false, false, false, false, false] rfl rfl (by kernel_rfl) (fun _ _ _ h => h) (Or.inl ⟨by rfl, ?_⟩) ?_ ?_
            rotate_left
            · intro w'
              go_simp
              with_reducible rfl
            rotate_left
            · simp only [Act.put, List.setIfInBounds_toArray, List.set_cons_zero, List.set_cons_succ, i64_w, i32_w]
              rfl
            refine pure_ (i := 18) (N := some 106) (v := ?_) (a' := ?_) #[true, true, true, true, false, true, true, true, true, true, false, true, true, true, true, false, false, false, true, false, false, false, false, false, false, false, false, false, false, false] rfl rfl (by kernel_rfl) (fun _ _ _ h => h) (Or.inl ⟨by rfl, ?_⟩) ?_ ?_
            rotate_left
            · intro w'
              go_simp
              with_reducible rfl
            rotate_left
            · simp only [Act.put, List.setIfInBounds_toArray, List.set_cons_zero, List.set_cons_succ, i64_w, i32_w]
              rfl
            refine pure_ (i := 19) (N := some 107) (v := ?_) (a' := ?_) #[true, true, true, true, false, true, true, true, true, true, false, true, true, true, true, false, false, false, true, true, false, false, false, false, false, false, false, false, false, false] rfl rfl (by kernel_rfl) (fun _ _ _ h => h) (Or.inl ⟨by rfl, ?_⟩) ?_ ?_
            rotate_left
            · intro w'
              go_simp
              with_reducible rfl
            rotate_left
            · simp only [Act.put, List.setIfInBounds_toArray, List.set_cons_zero, List.set_cons_succ, i64_w, i32_w]
              rfl
            refine pure_ (i := 20) (N := some 108) (v := ?_) (a' := ?_) #[true, true, true, true, false, true, true, true, true, true, false, true, true, true, true, false, false, false, true, true, true, false, false, false, false, false, false, false, false, false] rfl rfl (by kernel_rfl) (fun _ _ _ h => h) (Or.inl ⟨by rfl, ?_⟩) ?_ ?_
            rotate_left
            · intro w'
              go_simp
              with_reducible rfl
            rotate_left
            · simp only [Act.put, List.setIfInBounds_toArray, List.set_cons_zero, List.set_cons_succ, i64_w, i32_w]
              rfl
            refine pure_ (i := 21) (N := some 109) (v := ?_) (a' := ?_) #[true, true, true, true, false, true, true, true, true, true, false, true, true, true, true, false, false, false, true, true, true, true, false, false, false, false, false, false, false, false] rfl rfl (by kernel_rfl) (fun _ _ _ h => h) (Or.inl ⟨by rfl, ?_⟩) ?_ ?_
            rotate_left
            · intro w'
              go_simp
              with_reducible rfl
            rotate_left
            · simp only [Act.put, List.setIfInBounds_toArray, List.set_cons_zero, List.set_cons_succ, i64_w, i32_w]
              rfl
            refine take_ (i := 4) (N := some 92) (v := ?_) (a' := ?_) #[true, true, true, true, true, true, true, true, true, true, false, true, true, true, true, false, false, false, true, true, true, true, false, false, false, false, false, false, false, false] rfl rfl (by kernel_rfl) (fun _ _ _ h => h) (Or.inl ⟨by rfl, ?_⟩) hHeld ?_ ?_
            rotate_left
            · rintro w' ⟨s0, s1, s2, s3⟩
              go_simp
              with_reducible rfl
            rotate_left
            · simp only [Act.put, List.setIfInBounds_toArray, List.set_cons_zero, List.set_cons_succ, i64_w, i32_w]
              rfl
            refine take_ (i := 10) (N := some 98) (v := ?_) (a' := ?_) #[true, true, true, true, true, true, true, true, true, true, true, true, true, true, true, false, false, false, true, true, true, true, false, false, false, false, false, false, false, false] rfl rfl (by kernel_rfl) (fun _ _ _ h => h) (Or.inl ⟨by rfl, ?_⟩) hHeld ?_ ?_
            rotate_left
            · rintro w' ⟨s0, s1, s2, s3⟩
              go_simp
              with_reducible rfl
            rotate_left
            · simp only [Act.put, List.setIfInBounds_toArray, List.set_cons_zero, List.set_cons_succ, i64_w, i32_w]
              rfl
            refine take_ (i := 15) (N := some 103) (v := ?_) (a' := ?_) #[true, true, true, true, true, true, true, true, true, true, true, true, true, true, true, true, false, false, true, true, true, true, false, false, false, false, false, false, false, false] rfl rfl (by kernel_rfl) (fun _ _ _ h => h) (Or.inl ⟨by rfl, ?_⟩) hHeld ?_ ?_
            rotate_left
            · rintro w' ⟨s0, s1, s2, s3⟩
              go_simp
              with_reducible rfl
            rotate_left
            · simp only [Act.put, List.setIfInBounds_toArray, List.set_cons_zero, List.set_cons_succ, i64_w, i32_w]
              rfl
            refine pure_ (i := 16) (N := some 104) (v := ?_) (a' := ?_) #[true, true, true, true, true, true, true, true, true, true, true, true, true, true, true, true, true, false, true, true, true, true, false, false, false, false, false, false, false, false] rfl rfl (by kernel_rfl) (fun _ _ _ h => h) (Or.inl ⟨by rfl, ?_⟩) ?_ ?_
            rotate_left
            · intro w'
              go_simp
              with_reducible rfl
            rotate_left
            · simp only [Act.put, List.setIfInBounds_toArray, List.set_cons_zero, List.set_cons_succ, i64_w, i32_w]
              rfl
            refine pure_ (i := 17) (N := some 105) (v := ?_) (a' := ?_) #[true, true, true, true, true, true, true, true, true, true, true, true, true, true, true, true, true, true, true, true, true, true, false, false, false, false, false, false, false, false] rfl rfl (by kernel_rfl) (fun _ _ _ h => h) (Or.inl ⟨by rfl, ?_⟩) ?_ ?_
            rotate_left
            · intro w'
              go_simp
              with_reducible rfl
            rotate_left
            · simp only [Act.put, List.setIfInBounds_toArray, List.set_cons_zero, List.set_cons_succ, i64_w, i32_w]
              rfl
            refine take_ (i := 22) (N := some 110) (v := ?_) (a' := ?_) #[true, true, true, true, true, true, true, true, true, true, true, true, true, true, true, true, true, true, true, true, true, true, true, false, false, false, false, false, false, false] rfl rfl (by kernel_rfl) (fun _ _ _ h => h) (Or.inl ⟨by rfl, ?_⟩) hHeld ?_ ?_
            rotate_left
            · rintro w' ⟨s0, s1, s2, s3⟩
              go_simp
              with_reducible rfl
            rotate_left
            · simp only [Act.put, List.setIfInBounds_toArray, List.set_cons_zero, List.set_cons_succ, i64_w, i32_w]
              rfl
            refine one_ (i := 23) (N := some 111) #[true, true, true, true, true, true, true, true, true, true, true, true, true, true, true, true, true, true, true, true, true, true, true, true, false, false, false, false, false, false] rfl rfl (by kernel_rfl) (by decide) (fun K hK => ?_)
            refine goes_ Try.func21 (by kernel_rfl) rfl #[.pointer (some ⟨g, 0, none⟩), .int .i64 (rd l i)] (by rfl) rfl rfl (by simp only [List.map_toArray, List.map_cons, List.map_nil]; rfl) ?_
            with_reducible refine (y_ok w.heap.size g 2 (.slice A1 nm.length c1) (.slice (some ad) ss.length c2) lo hi st ht OUT _ k (rd l i) pv 0 HM.out HPV.out).mono ?_
            rintro e w12 ⟨rfl, hb⟩
            refine ⟨_, rfl, ?_⟩
            have hbb := below_step HB.out hb
            have hbk4 := blk_below BK4.out hb
            have hoo := Kd.R_below HO.out hb
            have hbg := blk_below HBG.out hb
            have hrr := Kd.R_below HRR.out hb
            clear HM HB BK4 HO HBG HRR
            have HB := Aside0.mk hbb
            have BK4 := Aside0.mk hbk4
            have HO := Aside0.mk hoo
            have HBG := Aside0.mk hbg
            have HRR := Aside0.mk hrr
            clear hbb hbk4 hoo hbg hrr
            refine hK.out _ _ ⟨(hb.cell (World.block_lt_of_cell? _ _ hHeld.1)).trans hHeld.1, (hb.cell (World.block_lt_of_cell? _ _ hHeld.2.1)).trans hHeld.2.1, (hb.cell (World.block_lt_of_cell? _ _ hHeld.2.2.1)).trans hHeld.2.2.1, (hb.cell (World.block_lt_of_cell? _ _ hHeld.2.2.2)).trans hHeld.2.2.2⟩ (fun hHeld => ?_)
            clear hK K
            refine norm_ (a' := ?_) ?_ ?_
            rotate_left
            · show Act.put _ (some 111) _ = _
              simp only [Act.put, List.setIfInBounds_toArray, List.set_cons_zero, List.set_cons_succ, i64_w, i32_w]
              rfl
            refine pure_ (i := 24) (N := some 112) (v := ?_) (a' := ?_) #[true, true, true, true, true, true, true, true, true, true, true, true, true, true, true, true, true, true, true, true, true, true, true, true, true, false, false, false, false, false] rfl rfl (by kernel_rfl) (fun _ _ _ h => h) (Or.inl ⟨by rfl, ?_⟩) ?_ ?_
            rotate_left
            · intro w'
              go_simp
              with_reducible rfl
            rotate_left
            · simp only [Act.put, List.setIfInBounds_toArray, List.set_cons_zero, List.set_cons_succ, i64_w, i32_w]
              rfl
            refine one_ (i := 25) (N := some 113) #[true, true, true, true, true, true, true, true, true, true, true, true, true, true, true, true, true, true, true, true, true, true, true, true, true, true, false, false, false, false] rfl rfl (by kernel_rfl) (by decide) (fun K hK => ?_)
            refine value_ (w1 := ?_) (v := ?_) (by rfl) rfl ?_ ?_
            rotate_left 2
            · go_simp
              constructor
              · rfl
              · rfl
            refine hK.out _ _ ⟨((below_alloc (Below.refl w12.heap.size w12) _).cell (World.block_lt_of_cell? _ _ hHeld.1)).trans hHeld.1, ((below_alloc (Below.refl w12.heap.size w12) _).cell (World.block_lt_of_cell? _ _ hHeld.2.1)).trans hHeld.2.1, ((below_alloc (Below.refl w12.heap.size w12) _).cell (World.block_lt_of_cell? _ _ hHeld.2.2.1)).trans hHeld.2.2.1, ((below_alloc (Below.refl w12.heap.size w12) _).cell (World.block_lt_of_cell? _ _ hHeld.2.2.2)).trans hHeld.2.2.2⟩ (fun hHeld => ?_)
            clear hK K
            refine norm_ (a' := ?_) ?_ ?_
            rotate_left
            · show Act.put _ (some 113) _ = _
              simp only [Act.put, List.setIfInBounds_toArray, List.set_cons_zero, List.set_cons_succ, i64_w, i32_w]
              rfl
            refine last_ (i := 26) (N := some 114) #[true, true, true, true, true, true, true, true, true, true, true, true, true, true, true, true, true, true, true, true, true, true, true, true, true, true, true, false, false, false] rfl rfl (by kernel_rfl) (by decide) (fun K hK => ?_)
            refine Kd.R_append_step k42 (w0 := w) w.heap.size (by rfl) (.tmp 92) (.tmp 113) 32 42 (.agg #[(.int .i64 0), (.int .i64 0), (.int .i64 0), (.int .i64 0), (.int .i64 0), (.int .i64 0)]) 48 rfl Try.underlying32 info42 rfl (by decide) (by omega) (.slice Ao OUT.length co) OUT (⟨j, i, wrap64 (Int.tdiv (wrap64 (q1 + q3)) 2), wrap64 (ht - pv), 0, 0⟩ : S42) [.int .i64 j, .int .i64 i, .int .i64 (wrap64 (Int.tdiv (wrap64 (q1 + q3)) 2)), .int .i64 (wrap64 (ht - pv)), .int .i64 0, .int .i64 0] (fun _ => True) (fun _ => False) rfl rfl (k42_mkM _ _ _ (⟨j, i, wrap64 (Int.tdiv (wrap64 (q1 + q3)) 2), wrap64 (ht - pv), 0, 0⟩ : S42)) (fun _ hk => hk.elim) (fun _ _ => trivial) HRR.out HB.out HB.out.size (by have := HOL2.out; omega) ?_
            intro v4 w4 ho hb4 hgr hat
            obtain ⟨A4, c4, rfl⟩ := Kd.R_slice ho
            simp only [List.length_append, List.length_singleton] at ho
            have hbk := blk_grown HBG.out hgr (Kd.R_ne HRR.out HBG.out (by decide))
            have hc4 : w4.cell? ⟨g, 7, none⟩ = some (.slice Ao OUT.length co) := (blk_cell hbk 7).trans rfl
            have hf4 : w4.frozen? ⟨g, 7, none⟩ = false := blk_frozen hbk 7
            have HO4 := Aside0.mk ho
            have HB4 := Aside0.mk hb4
            have HK4 := Aside0.mk hbk
            have HT4 := Aside0.mk (TK.row (TK.refl g _) hgr (fun k hk => Kd.R_typed HRR.out k hk))
            clear ho hb4 hgr hat hbk
            refine hK.out _ _ ?_
            clear hK K
            refine norm_ (a' := ?_) ?_ ?_
            rotate_left
            · show Act.put _ (some 114) _ = _
              simp only [Act.put, List.setIfInBounds_toArray, List.set_cons_zero, List.set_cons_succ, i64_w, i32_w]
              rfl
            refine pure_ (i := 27) (N := some 115) (v := ?_) (a' := ?_) #[true, true, true, true, true, true, true, true, true, true, true, true, true, true, true, true, true, true, true, true, true, true, true, true, true, true, true, true, false, false] rfl rfl (by kernel_rfl) (fun _ _ _ h => h) (Or.inl ⟨by rfl, ?_⟩) ?_ ?_
            rotate_left
            · intro w'
              go_simp
              with_reducible rfl
            rotate_left
            · simp only [Act.put, List.setIfInBounds_toArray, List.set_cons_zero, List.set_cons_succ, i64_w, i32_w]
              rfl
            refine pure_ (i := 28) (N := some 116) (v := ?_) (a' := ?_) #[true, true, true, true, true, true, true, true, true, true, true, true, true, true, true, true, true, true, true, true, true, true, true, true, true, true, true, true, true, false] rfl rfl (by kernel_rfl) (fun _ _ _ h => h) (Or.inl ⟨by rfl, ?_⟩) ?_ ?_
            rotate_left
            · intro w'
              go_simp
              with_reducible rfl
            rotate_left
            · simp only [Act.put, List.setIfInBounds_toArray, List.set_cons_zero, List.set_cons_succ, i64_w, i32_w]
              rfl
            refine last_ (i := 29) (N := none) #[true, true, true, true, true, true, true, true, true, true, true, true, true, true, true, true, true, true, true, true, true, true, true, true, true, true, true, true, true, true] rfl rfl (by kernel_rfl) (by decide) (fun K hK => ?_)
            refine skip_ (w1 := ?_) (by rfl) rfl ?_ ?_
            rotate_left
            · go_simp
              rfl
            refine hK.out _ _ ?_
            clear hK K
            refine done_ (by kernel_rfl) ?_

            -- END 20
            go_wp2
            go_roundw
            case rel =>
              have htt := TK.set (i := 7) HT4.out (.slice A4 (OUT.length + 1) c4)
              have hne : gb4 ≠ g := fun e => by have h1 := BK4.out; rw [e, HBG.out] at h1; simp at h1
              refine ⟨j + 1, by first | rfl | rw [hjm], by omega, by omega, ⟨?_⟩, ⟨below_set HB4.out HGG.out⟩, ⟨htt gb4 _ 25 _ BK4.out (by decide) hne⟩, ⟨R_TK HO.out htt HBG.out (by decide)⟩⟩
              rw [show (j + 1).toNat = j.toNat + 1 by omega, HYY.out, ← List.append_assoc, HOUT.out]
              exact ⟨.slice A4 (OUT.length + 1) c4, blk_set HK4.out 7 _, HGG.out, Kd.R_mono (Kd.R_far (Kd.R_types HO4.out HK4.out (by decide)) (fun _ hk => hk.2) _) (fun _ _ => trivial)⟩
            case measure => first | (simp [intOf]; omega) | (rw [hjm]; simp [intOf]; omega)
          · obtain rfl : j = (ss.length : Int) := by omega
            go_wp2
            go_roundw
            case rel =>
              refine ⟨i + 1, by first | rfl | rw [him], by omega, by omega, ⟨?_⟩, HB, BK4, HO⟩
              rw [show (i + 1).toNat = i.toNat + 1 by omega, barsC_succ, show ((i.toNat : Nat) : Int) = i by omega, itemC, if_neg (by decide), if_neg (by decide), HQ.out.1, HQ.out.2]
              exact HM.out
            case measure => first | (simp [intOf]; omega) | (rw [him]; simp [intOf]; omega)
    · obtain ⟨v11, hbg, hgg, hRR⟩ := HM.out
      have hc7 : wr.cell? ⟨g, 7, none⟩ = some v11 := (blk_cell hbg 7).trans rfl
      obtain rfl : i = (nm.length : Int) := by omega
      have HRR := Aside0.mk hRR
      clear hbg hRR
      go_wp2
      go_ret2
      refine ⟨v11, rfl, ?_, HB.out⟩
      exact HRR.out
end Go.Proofs.Ytemginkjkmmimaa.HandCB
