/- Walked by hand: the law ClockReports where the events have an error or the time is out of range; the walks put together. -/
import Derived.Test.YtihmbddneapooaaHandCRa
namespace Go.Proofs.Ytihmbddneapooaa.HandCR
open Go.Proofs.Ytihmbddneapooaa.Lib (w64)
open Go.RowKit Go.Proofs.YtihmbddneapooaaW.PrintWords Go.Proofs.YtihmbddneapooaaW.PrintLast Go.Proofs.YtihmbddneapooaaW.PrintMore Go.Proofs.Ytihmbddneapooaa.PClockLeft Go.Proofs.Ytihmbddneapooaa.HandCK Go.Proofs.Ytihmbddneapooaa.QCL Go.Proofs.Ytihmbddneapooaa.QCR
set_option linter.unusedVariables false
attribute [local go_sem] max2_int min2_int max_two min_two
set_option maxHeartbeats 8000000 in
set_option maxRecDepth 100000 in
theorem law_err (k : Nat) (A : Option Addr) (c : Nat) (l : List S72) (at_ : Int) (r1 : Bool) (r2 r3 : Int) (r4 : List S74) (w : World) (hr : Kd.C k72 w A l.length l) (hc : l.length ≤ c)
    (h0 : chancerylaw3_clocked.f k = some true) (e0 : Int) (he0 : e0 ≠ 0) (hr2 : r2 = 0) (hr4 : r4.length = 0) (h1 : clock_Report.f k l at_ = some (r1, r2, r3, r4, e0)) (h2 : chancerylaw3_clockError.f k l = some e0) (h3 : clock_Check.f k l = some e0) :
    Law A c l at_ w true := by
  have hu67 := Try.underlying67
  have hu72 := Try.underlying72
  have hu74 := Try.underlying74
  have HR := Aside0.mk hr
  have HC := Aside0.mk hc
  have H0 := Aside0.mk h0
  have H1 := Aside0.mk h1
  have H2 := Aside0.mk h2
  have H3 := Aside0.mk h3
  have e0b : (e0 == 0) = false := beq_eq_false_iff_ne.2 he0
  have e0c : (e0 != 0) = true := bne_iff_ne.2 he0
  have e0d : (e0 == e0) = true := beq_self_eq_true e0
  have e0e : (e0 != e0) = false := bne_self_eq_false e0
  have r2b : (r2 == 0) = true := beq_iff_eq.2 hr2
  have r4b : ((r4.length : Int) == 0) = true := beq_iff_eq.2 (by omega)
  clear he0 hr2 hr4
  have HB := Aside0.mk (Below.refl w.heap.size w)
  clear hr hc h0 h1 h2 h3
  unfold Law
  go_enter Try.func9, Try.ntmps9
  go_wp2_with (first | (go_at_call 33; refine (chancerylaw3_clocked.calls k true _ H0.out).mono ?_; rintro e w1 ⟨rfl, hb⟩; have hb2 := below_step HB.out hb; clear HB; have HB := Aside0.mk hb2; clear hb hb2) | (go_at_call 34; refine (clock_Report.calls k A c l at_ r1 r2 r3 r4 e0 _ ?sR HC.out H1.out).mono ?_; (case sR => exact Kd.C_below HR.out HB.out); rintro e w2 ⟨v2, rfl, ho, hb⟩; have hb2 := below_step HB.out hb; have HO := Aside0.mk (Kd.R_lower ho HB.out.size); clear HB; have HB := Aside0.mk hb2; clear ho hb hb2; obtain ⟨A2, c2, rfl⟩ := Kd.R_slice HO.out) | ((with_reducible refine gate_dst (N := 5) rfl ?_); refine box_event ?hg (N := 5) ?hd (cs := #[.bool false, .int .i64 0, .int .i64 0, .slice none 0 0]) (t := 67) ?hr ?_; (case hd => rfl); (case hg => rfl); (case hr => first | (go_simp; done) | (go_simp; rfl)); intro g0 hg w3 hbox hb; have HGE := Aside0.mk (show w.heap.size ≤ g0 by rw [hg]; exact HB.out.size); have HBX := Aside0.mk hbox; have ho3 := Kd.R_below HO.out hb; have hb2 := below_step HB.out hb; clear HB HO; have HB := Aside0.mk hb2; have HO := Aside0.mk ho3; clear hbox hg hb hb2 ho3) | ((with_reducible refine gate_store (t := 67) (p := 5) rfl ?_); refine agg_event (w0 := w) rfl rfl 67 (.tmp 5) (.tmp 22) rfl (g := g0) (e := 67) (.agg #[.bool r1, .int .i64 r2, .int .i64 r3, .slice A2 r4.length c2]) [.bool r1, .int .i64 r2, .int .i64 r3, .slice A2 r4.length c2] rfl rfl rfl (by kernel_rfl) HBX.out rfl (by simp only [List.mem_cons, List.not_mem_nil, or_false, forall_eq_or_imp, forall_eq]; exact ⟨rfl, rfl, rfl, rfl⟩) HB.out HGE.out ?_; intro w4 hbox hb hgr; have hrr4 := Kd.R_mono (Kd.R_grown (Kd.R_types HO.out HBX.out (by decide)) hgr (fun j hj e => hj.2 (by injection e))) (fun _ _ => trivial : ∀ k : Nat, _ → True); clear HBX HB HO; have HBX := Aside0.mk hbox; have HB := Aside0.mk hb; have HO := Aside0.mk hrr4; clear hbox hb hgr hrr4) | (go_at_call 35; refine (chancerylaw3_clockError.calls k A c l e0 _ ?sR HC.out H2.out).mono ?_; (case sR => exact Kd.C_below HR.out HB.out); rintro e w5 ⟨rfl, hb⟩; have hbx := (hb.block _ (blk_lt HBX.out)).trans HBX.out; have ho5 := Kd.R_below HO.out hb; have hb2 := below_step HB.out hb; clear HB HBX HO; have HBX := Aside0.mk hbx; have HB := Aside0.mk hb2; have HO := Aside0.mk ho5; clear hb hbx hb2 ho5) | (go_at_call 36; refine (clock_Check.calls k A c l e0 _ ?sR HC.out H3.out).mono ?_; (case sR => exact Kd.C_below HR.out HB.out); rintro e w6 ⟨rfl, hb⟩; have hbx := (hb.block _ (blk_lt HBX.out)).trans HBX.out; have ho6 := Kd.R_below HO.out hb; have hb2 := below_step HB.out hb; clear HB HBX HO; have HBX := Aside0.mk hbx; have HB := Aside0.mk hb2; have HO := Aside0.mk ho6; have hb1 : w6.cell? ⟨g0, 1, none⟩ = some (.int .i64 r2) := (blk_cell HBX.out 1).trans rfl; have hb3 : w6.cell? ⟨g0, 3, none⟩ = some (.slice A2 r4.length c2) := (blk_cell HBX.out 3).trans rfl; clear hb hbx hb2 ho6))
  go_ret
  exact ⟨rfl, HB.out⟩
set_option maxHeartbeats 8000000 in
set_option maxRecDepth 100000 in
theorem law_far (k : Nat) (A : Option Addr) (c : Nat) (l : List S72) (at_ : Int) (r1 : Bool) (r2 r3 : Int) (r4 : List S74) (w : World) (hr : Kd.C k72 w A l.length l) (hc : l.length ≤ c)
    (h0 : chancerylaw3_clocked.f k = some true) (hr2 : r2 = 0) (hr4 : r4.length = 0) (h1 : clock_Report.f k l at_ = some (r1, r2, r3, r4, 2)) (h2 : chancerylaw3_clockError.f k l = some 0) (h3 : clock_Check.f k l = some 0) (hlo : ¬ (0 ≤ at_ ∧ at_ ≤ 10000000)) :
    Law A c l at_ w true := by
  have hu67 := Try.underlying67
  have hu72 := Try.underlying72
  have hu74 := Try.underlying74
  have HR := Aside0.mk hr
  have HC := Aside0.mk hc
  have H0 := Aside0.mk h0
  have H1 := Aside0.mk h1
  have H2 := Aside0.mk h2
  have H3 := Aside0.mk h3
  have r2b : (r2 == 0) = true := beq_iff_eq.2 hr2
  have r4b : ((r4.length : Int) == 0) = true := beq_iff_eq.2 (by omega)
  have HIN : chanceryref3_In.f at_ 0 10000000 = some false := by
    unfold chanceryref3_In.f
    by_cases h : at_ ≥ 0
    · rw [if_pos h]
      exact congrArg some (decide_eq_false (by omega))
    · rw [if_neg h]
  have HI := Aside0.mk HIN
  clear hr2 hr4
  have HB := Aside0.mk (Below.refl w.heap.size w)
  clear hr hc h0 h1 h2 h3 HIN hlo
  unfold Law
  go_enter Try.func9, Try.ntmps9
  go_wp2_with (first | (go_at_call 33; refine (chancerylaw3_clocked.calls k true _ H0.out).mono ?_; rintro e w1 ⟨rfl, hb⟩; have hb2 := below_step HB.out hb; clear HB; have HB := Aside0.mk hb2; clear hb hb2) | (go_at_call 34; refine (clock_Report.calls k A c l at_ r1 r2 r3 r4 2 _ ?sR HC.out H1.out).mono ?_; (case sR => exact Kd.C_below HR.out HB.out); rintro e w2 ⟨v2, rfl, ho, hb⟩; have hb2 := below_step HB.out hb; have HO := Aside0.mk (Kd.R_lower ho HB.out.size); clear HB; have HB := Aside0.mk hb2; clear ho hb hb2; obtain ⟨A2, c2, rfl⟩ := Kd.R_slice HO.out) | ((with_reducible refine gate_dst (N := 5) rfl ?_); refine box_event ?hg (N := 5) ?hd (cs := #[.bool false, .int .i64 0, .int .i64 0, .slice none 0 0]) (t := 67) ?hr ?_; (case hd => rfl); (case hg => rfl); (case hr => first | (go_simp; done) | (go_simp; rfl)); intro g0 hg w3 hbox hb; have HGE := Aside0.mk (show w.heap.size ≤ g0 by rw [hg]; exact HB.out.size); have HBX := Aside0.mk hbox; have ho3 := Kd.R_below HO.out hb; have hb2 := below_step HB.out hb; clear HB HO; have HB := Aside0.mk hb2; have HO := Aside0.mk ho3; clear hbox hg hb hb2 ho3) | ((with_reducible refine gate_store (t := 67) (p := 5) rfl ?_); refine agg_event (w0 := w) rfl rfl 67 (.tmp 5) (.tmp 22) rfl (g := g0) (e := 67) (.agg #[.bool r1, .int .i64 r2, .int .i64 r3, .slice A2 r4.length c2]) [.bool r1, .int .i64 r2, .int .i64 r3, .slice A2 r4.length c2] rfl rfl rfl (by kernel_rfl) HBX.out rfl (by simp only [List.mem_cons, List.not_mem_nil, or_false, forall_eq_or_imp, forall_eq]; exact ⟨rfl, rfl, rfl, rfl⟩) HB.out HGE.out ?_; intro w4 hbox hb hgr; have hrr4 := Kd.R_mono (Kd.R_grown (Kd.R_types HO.out HBX.out (by decide)) hgr (fun j hj e => hj.2 (by injection e))) (fun _ _ => trivial : ∀ k : Nat, _ → True); clear HBX HB HO; have HBX := Aside0.mk hbox; have HB := Aside0.mk hb; have HO := Aside0.mk hrr4; clear hbox hb hgr hrr4) | (go_at_call 35; refine (chancerylaw3_clockError.calls k A c l 0 _ ?sR HC.out H2.out).mono ?_; (case sR => exact Kd.C_below HR.out HB.out); rintro e w5 ⟨rfl, hb⟩; have hbx := (hb.block _ (blk_lt HBX.out)).trans HBX.out; have ho5 := Kd.R_below HO.out hb; have hb2 := below_step HB.out hb; clear HB HBX HO; have HBX := Aside0.mk hbx; have HB := Aside0.mk hb2; have HO := Aside0.mk ho5; clear hb hbx hb2 ho5) | (go_at_call 36; refine (clock_Check.calls k A c l 0 _ ?sR HC.out H3.out).mono ?_; (case sR => exact Kd.C_below HR.out HB.out); rintro e w6 ⟨rfl, hb⟩; have hbx := (hb.block _ (blk_lt HBX.out)).trans HBX.out; have ho6 := Kd.R_below HO.out hb; have hb2 := below_step HB.out hb; clear HB HBX HO; have HBX := Aside0.mk hbx; have HB := Aside0.mk hb2; have HO := Aside0.mk ho6; have hb1 : w6.cell? ⟨g0, 1, none⟩ = some (.int .i64 r2) := (blk_cell HBX.out 1).trans rfl; have hb3 : w6.cell? ⟨g0, 3, none⟩ = some (.slice A2 r4.length c2) := (blk_cell HBX.out 3).trans rfl; clear hb hbx hb2 ho6) | (go_at_call 14; (with_reducible refine (chanceryref3_In.calls at_ 0 10000000 false _ HI.out).mono ?_); rintro e w' ⟨rfl, ⟨nd, rfl⟩⟩; have hb1 : (w6.drewN nd).cell? ⟨g0, 1, none⟩ = some (.int .i64 r2) := hb1; have hb3 : (w6.drewN nd).cell? ⟨g0, 3, none⟩ = some (.slice A2 r4.length c2) := hb3; have HB2 := Aside0.mk (pw_below_drewN HB.out nd)))
  go_ret
  exact ⟨rfl, HB2.out⟩
noncomputable def chancerylaw3_ClockReports.f (k : Nat) (l : List S72) (at_ : Int) : Option Bool :=
  (chancerylaw3_clocked.f k).bind fun c => (clock_Report.f k l at_).bind fun r => (chancerylaw3_clockError.f k l).bind fun e => (clock_Check.f k l).bind fun e2 =>
    if c = true ∧ e2 = e then
      (if e ≠ 0 then (if r.2.1 = 0 ∧ r.2.2.2.1.length = 0 ∧ r.2.2.2.2 = e then some true else none)
       else if 0 ≤ at_ ∧ at_ ≤ 10000000 then (if l.length ≤ 1000 ∧ r.2.2.2.2 = 0 then some (same r.1 r.2.1 r.2.2.1 r.2.2.2.1 (lawGo at_ ⟨false, 0, 0, []⟩ l)) else none)
       else if r.2.1 = 0 ∧ r.2.2.2.1.length = 0 ∧ r.2.2.2.2 = 2 then some true else none)
    else none
theorem chancerylaw3_ClockReports.mono (a0 : List S72) (a1 : Int) (k : Nat) : LeO (chancerylaw3_ClockReports.f k a0 a1) (chancerylaw3_ClockReports.f (k + 1) a0 a1) := by
  unfold chancerylaw3_ClockReports.f
  exact LeO.bind (chancerylaw3_clocked.mono _) fun _ => LeO.bind (clock_Report.mono _ _ _) fun _ => LeO.bind (chancerylaw3_clockError.mono _ _) fun _ => LeO.bind (clock_Check.mono _ _) fun _ => LeO.refl _
theorem chancerylaw3_ClockReports.calls (k : Nat) (A0 : Option Addr) (c0 : Nat) (l0 : List S72) (a1 : Int) (r : Bool) (w : World) (hr0 : Kd.C k72 w A0 l0.length l0) (hc0 : l0.length ≤ c0) (h : chancerylaw3_ClockReports.f k l0 a1 = some r) :
    Calls Try.prog 9 #[.slice A0 l0.length c0, .int .i64 a1] w fun e w' => e = .returned (.bool r) ∧ Below w.heap.size w w' := by
  unfold chancerylaw3_ClockReports.f at h
  obtain ⟨c, h0, hA⟩ := Option.bind_eq_some_iff.1 h
  clear h
  obtain ⟨⟨r1, r2, r3, r4, r5⟩, h1, hB⟩ := Option.bind_eq_some_iff.1 hA
  clear hA
  obtain ⟨e, h2, hA⟩ := Option.bind_eq_some_iff.1 hB
  clear hB
  obtain ⟨e2, h3, h⟩ := Option.bind_eq_some_iff.1 hA
  clear hA
  dsimp only at h
  by_cases g1 : c = true ∧ e2 = e
  · rw [if_pos g1] at h
    obtain ⟨rfl, rfl⟩ := g1
    by_cases g2 : e2 ≠ 0
    · rw [if_pos g2] at h
      by_cases g3 : r2 = 0 ∧ r4.length = 0 ∧ r5 = e2
      · rw [if_pos g3] at h
        injection h with h
        obtain ⟨g4, g5, rfl⟩ := g3
        rw [← h]
        exact law_err k A0 c0 l0 a1 r1 r2 r3 r4 w hr0 hc0 h0 r5 g2 g4 g5 h1 h2 h3
      · rw [if_neg g3] at h
        cases h
    · rw [if_neg g2] at h
      obtain rfl : e2 = 0 := by omega
      by_cases g3 : 0 ≤ a1 ∧ a1 ≤ 10000000
      · rw [if_pos g3] at h
        by_cases g4 : l0.length ≤ 1000 ∧ r5 = 0
        · rw [if_pos g4] at h
          injection h with h
          obtain ⟨g5, rfl⟩ := g4
          rw [← h]
          exact law_main k A0 c0 l0 a1 r1 r2 r3 r4 w hr0 hc0 h0 h1 h2 h3 g3.1 g3.2 g5
        · rw [if_neg g4] at h
          cases h
      · rw [if_neg g3] at h
        by_cases g4 : r2 = 0 ∧ r4.length = 0 ∧ r5 = 2
        · rw [if_pos g4] at h
          injection h with h
          obtain ⟨g5, g6, rfl⟩ := g4
          rw [← h]
          exact law_far k A0 c0 l0 a1 r1 r2 r3 r4 w hr0 hc0 h0 g5 g6 h1 h2 h3 g3
        · rw [if_neg g4] at h
          cases h
  · rw [if_neg g1] at h
    cases h
end Go.Proofs.Ytihmbddneapooaa.HandCR
