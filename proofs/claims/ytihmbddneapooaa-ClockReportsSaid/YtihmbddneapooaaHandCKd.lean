/- Walked by hand: clock.Report, at times out of range and in range. -/
import Derived.Test.YtihmbddneapooaaHandCKc
namespace Go.Proofs.Ytihmbddneapooaa.HandCK
open Go.Proofs.Ytihmbddneapooaa.Lib (w64)
open Go.RowKit Go.Proofs.YtihmbddneapooaaW.PrintWords Go.Proofs.YtihmbddneapooaaW.PrintLast Go.Proofs.YtihmbddneapooaaW.PrintMore Go.Proofs.Ytihmbddneapooaa.PClockLeft
set_option linter.unusedVariables false
attribute [local go_sem] max2_int min2_int max_two min_two
set_option maxHeartbeats 8000000 in
set_option maxRecDepth 100000 in
theorem report_low (k : Nat) (A : Option Addr) (c : Nat) (l : List S72) (at_ : Int) (w : World) (hr : Kd.C k72 w A l.length l) (hc : l.length ≤ c) (he : clock_Check.f k l = some 0) (h0 : at_ < 0) : Ans A c l at_ w ⟨false, 0, 0, []⟩ 2 := by
  have hu67 := Try.underlying67
  have hu72 := Try.underlying72
  have HR := Aside0.mk hr
  have HC := Aside0.mk hc
  have HE := Aside0.mk he
  have HB := Aside0.mk (Below.refl w.heap.size w)
  clear hr hc he
  unfold Ans
  have h0b : decide (at_ < 0) = true := decide_eq_true h0
  go_enter Try.func34, Try.ntmps34
  go_wp2_with (first | (go_at_call 36; refine (clock_Check.calls k A c l 0 _ ?sR HC.out HE.out).mono ?_; (case sR => exact Kd.C_below HR.out HB.out); rintro e w2 ⟨rfl, hb⟩; have hbx := (hb.block _ (blk_lt HBX.out)).trans HBX.out; have hb2 := below_step HB.out hb; clear HB HBX; have HBX := Aside0.mk hbx; have HB := Aside0.mk hb2; clear hb hbx hb2) | ((with_reducible refine gate_dst (N := 4) rfl ?_); refine box_event ?hg (N := 4) ?hd (cs := #[.bool false, .int .i64 0, .int .i64 0, .slice none 0 0]) (t := 67) ?hr ?_; (case hd => rfl); (case hg => rfl); (case hr => first | (go_simp; done) | (go_simp; rfl)); intro g0 hg w1 hbox hb; have HBX := Aside0.mk hbox; have HGE := Aside0.mk (show w.heap.size ≤ g0 by rw [hg]; exact Nat.le_refl _); have HB1 := Aside0.mk (below_step HB.out hb); clear hbox hg hb HB; have HB := HB1; clear HB1) | ((with_reducible refine gate_store (t := 67) (p := 4) rfl ?_); refine agg_event (w0 := w) rfl rfl 67 (.tmp 4) (.tmp 24) rfl (g := g0) (e := 67) (.agg #[.bool false, .int .i64 0, .int .i64 0, .slice none 0 0]) [.bool false, .int .i64 0, .int .i64 0, .slice none 0 0] rfl rfl rfl (by kernel_rfl) HBX.out rfl (by simp only [List.mem_cons, List.not_mem_nil, or_false, forall_eq_or_imp, forall_eq]; exact ⟨rfl, rfl, rfl, rfl⟩) HB.out HGE.out ?_; intro w3 hbox hb hgr; clear HBX HB; have HBX := Aside0.mk hbox; have HB := Aside0.mk hb; clear hbox hb hgr))
  refine bodyPost_ret (results_ct rfl _ _ g0 67 #[.bool false, .int .i64 0, .int .i64 0, .slice none 0 0] (0, 0) _ rfl HBX.out hu67 rfl (by kernel_rfl)) rfl ?_
  exact ⟨_, rfl, Kd.R_nil _ _ _ _ _, HB.out⟩
set_option maxHeartbeats 8000000 in
set_option maxRecDepth 100000 in
theorem report_high (k : Nat) (A : Option Addr) (c : Nat) (l : List S72) (at_ : Int) (w : World) (hr : Kd.C k72 w A l.length l) (hc : l.length ≤ c) (he : clock_Check.f k l = some 0) (h0 : ¬ at_ < 0) (h1 : at_ > 10000000) : Ans A c l at_ w ⟨false, 0, 0, []⟩ 2 := by
  have hu67 := Try.underlying67
  have hu72 := Try.underlying72
  have HR := Aside0.mk hr
  have HC := Aside0.mk hc
  have HE := Aside0.mk he
  have HB := Aside0.mk (Below.refl w.heap.size w)
  clear hr hc he
  unfold Ans
  have h0b : decide (at_ < 0) = false := decide_eq_false h0
  have h1b : decide (at_ > 10000000) = true := decide_eq_true h1
  have h1c : decide (10000000 < at_) = true := decide_eq_true h1
  go_enter Try.func34, Try.ntmps34
  go_wp2_with (first | (go_at_call 36; refine (clock_Check.calls k A c l 0 _ ?sR HC.out HE.out).mono ?_; (case sR => exact Kd.C_below HR.out HB.out); rintro e w2 ⟨rfl, hb⟩; have hbx := (hb.block _ (blk_lt HBX.out)).trans HBX.out; have hb2 := below_step HB.out hb; clear HB HBX; have HBX := Aside0.mk hbx; have HB := Aside0.mk hb2; clear hb hbx hb2) | ((with_reducible refine gate_dst (N := 4) rfl ?_); refine box_event ?hg (N := 4) ?hd (cs := #[.bool false, .int .i64 0, .int .i64 0, .slice none 0 0]) (t := 67) ?hr ?_; (case hd => rfl); (case hg => rfl); (case hr => first | (go_simp; done) | (go_simp; rfl)); intro g0 hg w1 hbox hb; have HBX := Aside0.mk hbox; have HGE := Aside0.mk (show w.heap.size ≤ g0 by rw [hg]; exact Nat.le_refl _); have HB1 := Aside0.mk (below_step HB.out hb); clear hbox hg hb HB; have HB := HB1; clear HB1) | ((with_reducible refine gate_store (t := 67) (p := 4) rfl ?_); refine agg_event (w0 := w) rfl rfl 67 (.tmp 4) (.tmp 24) rfl (g := g0) (e := 67) (.agg #[.bool false, .int .i64 0, .int .i64 0, .slice none 0 0]) [.bool false, .int .i64 0, .int .i64 0, .slice none 0 0] rfl rfl rfl (by kernel_rfl) HBX.out rfl (by simp only [List.mem_cons, List.not_mem_nil, or_false, forall_eq_or_imp, forall_eq]; exact ⟨rfl, rfl, rfl, rfl⟩) HB.out HGE.out ?_; intro w3 hbox hb hgr; clear HBX HB; have HBX := Aside0.mk hbox; have HB := Aside0.mk hb; clear hbox hb hgr))
  refine bodyPost_ret (results_ct rfl _ _ g0 67 #[.bool false, .int .i64 0, .int .i64 0, .slice none 0 0] (0, 0) _ rfl HBX.out hu67 rfl (by kernel_rfl)) rfl ?_
  exact ⟨_, rfl, Kd.R_nil _ _ _ _ _, HB.out⟩
set_option maxHeartbeats 8000000 in
set_option maxRecDepth 100000 in
theorem report_ok (k : Nat) (A : Option Addr) (c : Nat) (l : List S72) (at_ : Int) (w : World) (hr : Kd.C k72 w A l.length l) (hc : l.length ≤ c) (he : clock_Check.f k l = some 0) (h0 : ¬ at_ < 0) (h1 : ¬ at_ > 10000000) (hl : l.length ≤ 1000) : Ans A c l at_ w (after at_ (evs l at_) (l.length + 1)).1 0 := by
  have hu67 := Try.underlying67
  have hu72 := Try.underlying72
  have HR := Aside0.mk hr
  have HC := Aside0.mk hc
  have HE := Aside0.mk he
  have HB := Aside0.mk (Below.refl w.heap.size w)
  clear hr hc he
  unfold Ans
  have HL := Aside0.mk hl
  clear hl
  have h0b : decide (at_ < 0) = false := decide_eq_false h0
  have h1b : decide (at_ > 10000000) = false := decide_eq_false h1
  have h1c : decide (10000000 < at_) = false := decide_eq_false h1
  clear h0 h1
  go_enter Try.func34, Try.ntmps34
  go_wp2_with (first | (go_at_call 36; refine (clock_Check.calls k A c l 0 _ ?sR HC.out HE.out).mono ?_; (case sR => exact Kd.C_below HR.out HB.out); rintro e w2 ⟨rfl, hb⟩; have hbx := (hb.block _ (blk_lt HBX.out)).trans HBX.out; have hb2 := below_step HB.out hb; clear HB HBX; have HBX := Aside0.mk hbx; have HB := Aside0.mk hb2; clear hb hbx hb2) | ((with_reducible refine gate_dst (N := 4) rfl ?_); refine box_event ?hg (N := 4) ?hd (cs := #[.bool false, .int .i64 0, .int .i64 0, .slice none 0 0]) (t := 67) ?hr ?_; (case hd => rfl); (case hg => rfl); (case hr => first | (go_simp; done) | (go_simp; rfl)); intro g0 hg w1 hbox hb; have HBX := Aside0.mk hbox; have HGE := Aside0.mk (show w.heap.size ≤ g0 by rw [hg]; exact Nat.le_refl _); have HB1 := Aside0.mk (below_step HB.out hb); clear hbox hg hb HB; have HB := HB1; clear HB1) | ((with_reducible refine gate_dst (N := 7) rfl ?_); refine box_event ?hg (N := 7) ?hd (cs := #[.bool false, .int .i64 0, .int .i64 0, .slice none 0 0]) (t := 67) ?hr ?_; (case hd => rfl); (case hg => rfl); (case hr => first | (go_simp; done) | (go_simp; rfl)); intro g hg w4 hbox hb; have hbx := (hb.block _ (blk_lt HBX.out)).trans HBX.out; have HST := Aside0.mk (St.new (A := none) (c := 0) (n := 0) hbox (show w.heap.size ≤ g by rw [hg]; exact HB.out.size)); have HNE := Aside0.mk (show g ≠ g0 by rw [hg]; exact Nat.ne_of_gt (blk_lt HBX.out)); have hb2 := below_step HB.out hb; clear HBX HB; have HBX := Aside0.mk hbx; have HB := Aside0.mk hb2; clear hbox hg hb hbx hb2) | (go_at_call 48; refine (clone_ok A c l _ (Kd.C_below HR.out HB.out) (by have := HL.out; omega)).mono ?_; rintro e w5 ⟨v26, rfl, ho, hb⟩; have hbx := (hb.block _ (blk_lt HBX.out)).trans HBX.out; have hst := St.below HST.out hb; have hb2 := below_step HB.out hb; have HO := Aside0.mk (Kd.R_lower ho HB.out.size); clear HBX HB HST; have HBX := Aside0.mk hbx; have HB := Aside0.mk hb2; have HST := Aside0.mk hst; clear ho hb hbx hb2 hst) | ((with_reducible refine gate_builtin (b := .append) (xs := #[.tmp 26, .tmp 29]) rfl ?_); at_builtin; refine Kd.R_append k72 (w0 := w) w.heap.size rfl (.tmp 26) (.tmp 29) 63 72 (.agg #[(.int .i64 0), (.int .i64 0), (.int .i64 0)]) 24 rfl Try.underlying63 info72 rfl (by decide) (by omega) v26 l (⟨-1, at_, 0⟩ : S72) [.int .i64 (-1), .int .i64 at_, .int .i64 0] (fun _ => True) (fun _ => False) rfl rfl ?aP (fun _ hk => hk.elim) ?aF ?aO ?aB ?aS ?aL ?_; (case aP => exact k72_mkM _ _ _ (⟨-1, at_, 0⟩ : S72)); (case aB => exact HB.out); (case aF => exact (fun _ _ => trivial)); (case aO => exact HO.out); (case aS => exact (below_size HB.out)); (case aL => have := HL.out; omega); intro v30 w6 ho hb hg hat; have hbx6 := blk_grown (g := g0) HBX.out hg (Kd.R_ne HO.out HBX.out (by decide)); have hst6 := St.row HST.out hg (fun k hk => Kd.R_typed HO.out k hk); obtain ⟨A6, c6, rfl⟩ := Kd.R_slice ho; simp only [List.length_append, List.length_singleton] at ho; clear HBX HST HO HB; have HBX := Aside0.mk hbx6; have HST := Aside0.mk hst6; have HO := Aside0.mk (show Kd.R k72 72 w6 w.heap.size (fun _ => True) (.slice A6 (l.length + 1) c6) (evs l at_) from ho); have HB := Aside0.mk hb; clear hbx6 hst6 ho hb hg hat))
  go_loopw [8, 32] (fun v8 v32 w' => ∃ i : Int, v32 = .int .i64 i ∧ v8 = .int .i64 (after at_ (evs l at_) i.toNat).2 ∧ 0 ≤ i ∧ i ≤ (l.length : Int) + 1 ∧ Aside0 (St w.heap.size w' g (after at_ (evs l at_) i.toNat).1) ∧ Aside0 (w'.heap[g0]? = some (.cells #[.bool false, .int .i64 0, .int .i64 0, .slice none 0 0] 67 (0, 0))) ∧ Aside0 (Kd.R k72 72 w' w.heap.size (fun _ => True) (.slice A6 (l.length + 1) c6) (evs l at_)) ∧ Aside0 (Below w.heap.size w w')) (fun _ v32 _ => l.length + 1 - (intOf v32).toNat)
  case atStart => exact ⟨0, rfl, rfl, by omega, by omega, HST, HBX, HO, HB⟩
  case round =>
    clear HBX HST HO HB
    obtain ⟨i, rfl, rfl, hi0, hi1, HST, HBX, HO, HB⟩ := hrel
    have HEL : Aside0 ((evs l at_).length = l.length + 1) := ⟨by simp [evs]⟩
    by_cases hlt : i < (l.length : Int) + 1
    · have hPL := after_len at_ (evs l at_) i.toNat (by rw [HEL.out]; omega)
      obtain ⟨P, hP⟩ : ∃ P, after at_ (evs l at_) i.toNat = P := ⟨_, rfl⟩
      rw [hP] at HST hPL
      have HPL := Aside0.mk (show P.1.sls.length ≤ 1000000 by have := HL.out; omega)
      clear hPL
      obtain ⟨x, hx⟩ : ∃ x, (evs l at_).getD i.toNat z72 = x := ⟨_, rfl⟩
      obtain ⟨ad, e126, hx0, hx1, hx2⟩ := at_T72 (Kd.R_reads' HO.out).2.2 i hi0 (by rw [HEL.out]; omega)
      have e7 : rd_T72 (evs l at_) i = x := hx
      rw [e7] at hx0 hx1 hx2
      subst e126
      have HX0 := Aside0.mk hx
      have HP := Aside0.mk hP
      have hlt2 : i < ((l.length + 1 : Nat) : Int) := by omega
      rw [hP]
      clear hx e7 hP
      by_cases hat : at_ < x.f1
      · have hatb : decide (at_ < x.f1) = true := decide_eq_true hat
        have hatc : decide (x.f1 > at_) = true := decide_eq_true hat
        have HAT := Aside0.mk hat
        go_wp2_with (first | (go_at_call 49; refine (pass_ok w g P.1 (wrap64 (at_ - P.2)) _ (St.alloc HST.out _) (below_alloc HB.out _)).mono ?_; rintro e w9 ⟨rfl, hst9, hb9, ht⟩; have ho9 := ev_st (Kd.R_alloc HO.out _) (St.alloc HST.out _) ht; have hbx9 := ht g0 _ _ _ (blk_alloc HBX.out _) (by decide) HNE.out.symm; have hx9 := ht wr.heap.size _ _ _ (blk_new wr _) (by decide) (Nat.ne_of_gt (St.lt HST.out)); have hd0 : w9.cell? ⟨wr.heap.size, 0, none⟩ = some (.int .i64 x.f0) := (blk_cell hx9 0).trans rfl; have hd1 : w9.cell? ⟨wr.heap.size, 1, none⟩ = some (.int .i64 x.f1) := (blk_cell hx9 1).trans rfl; have hd2 : w9.cell? ⟨wr.heap.size, 2, none⟩ = some (.int .i64 x.f2) := (blk_cell hx9 2).trans rfl; obtain ⟨hr0, hr1⟩ := St.cell0 hst9; clear HBX HST HO HB; have HBX := Aside0.mk hbx9; have HST := Aside0.mk hst9; have HO := Aside0.mk ho9; have HB := Aside0.mk hb9; clear hst9 hb9 ht ho9 hbx9 hx9))
        go_roundw
        case rel =>
          have HSE : stepE at_ P x = (passF P.1 (wrap64 (at_ - P.2)), at_) := by exact if_pos HAT.out
          refine ⟨i + 1, by first | rfl | rw [w64 (by omega) (by have := HL.out; omega)], by rw [show (i + 1).toNat = i.toNat + 1 by omega, after_succ _ _ _ (by rw [HEL.out]; omega), HX0.out, HP.out, HSE], by omega, by omega, ⟨?_⟩, ⟨?_⟩, ⟨?_⟩, ⟨?_⟩⟩
          · rw [show (i + 1).toNat = i.toNat + 1 by omega, after_succ _ _ _ (by rw [HEL.out]; omega), HX0.out, HP.out, HSE]
            exact HST.out
          · exact HBX.out
          · exact HO.out
          · exact HB.out
        case measure => first | (simp [intOf]; omega) | (rw [w64 (by omega) (by have := HL.out; omega)]; simp [intOf]; omega)
      · have hatb : decide (at_ < x.f1) = false := decide_eq_false hat
        have hatc : decide (x.f1 > at_) = false := decide_eq_false hat
        have HAT := Aside0.mk hat
        by_cases k0 : x.f0 = 0
        · have kb0 : (x.f0 == 0) = true := beq_iff_eq.2 k0
          have K0 := Aside0.mk k0
          clear k0
          go_wp2_with (first | (go_at_call 49; refine (pass_ok w g P.1 (wrap64 (x.f1 - P.2)) _ (St.alloc HST.out _) (below_alloc HB.out _)).mono ?_; rintro e w9 ⟨rfl, hst9, hb9, ht⟩; have ho9 := ev_st (Kd.R_alloc HO.out _) (St.alloc HST.out _) ht; have hbx9 := ht g0 _ _ _ (blk_alloc HBX.out _) (by decide) HNE.out.symm; have hx9 := ht wr.heap.size _ _ _ (blk_new wr _) (by decide) (Nat.ne_of_gt (St.lt HST.out)); have hd0 : w9.cell? ⟨wr.heap.size, 0, none⟩ = some (.int .i64 x.f0) := (blk_cell hx9 0).trans rfl; have hd1 : w9.cell? ⟨wr.heap.size, 1, none⟩ = some (.int .i64 x.f1) := (blk_cell hx9 1).trans rfl; have hd2 : w9.cell? ⟨wr.heap.size, 2, none⟩ = some (.int .i64 x.f2) := (blk_cell hx9 2).trans rfl; obtain ⟨hr0, hr1⟩ := St.cell0 hst9; clear HBX HST HO HB; have HBX := Aside0.mk hbx9; have HST := Aside0.mk hst9; have HO := Aside0.mk ho9; have HB := Aside0.mk hb9; clear hst9 hb9 ht ho9 hbx9 hx9))
          go_roundw
          case rel =>
            have HSE : stepE at_ P x = ({ passF P.1 (wrap64 (x.f1 - P.2)) with run := true }, x.f1) := by rw [stepE, if_neg (show ¬ at_ < x.f1 by have := HAT.out; omega), if_pos K0.out]
            refine ⟨i + 1, by first | rfl | rw [w64 (by omega) (by have := HL.out; omega)], by rw [show (i + 1).toNat = i.toNat + 1 by omega, after_succ _ _ _ (by rw [HEL.out]; omega), HX0.out, HP.out, HSE], by omega, by omega, ⟨?_⟩, ⟨?_⟩, ⟨?_⟩, ⟨?_⟩⟩
            · rw [show (i + 1).toNat = i.toNat + 1 by omega, after_succ _ _ _ (by rw [HEL.out]; omega), HX0.out, HP.out, HSE]
              exact St.setRun HST.out _
            · exact (TK.set (TK.refl g _) _ : TK g _ _) g0 _ _ _ HBX.out (by decide) HNE.out.symm
            · exact ev_st HO.out HST.out (TK.set (TK.refl g _) _)
            · exact below_set HB.out (St.ge HST.out)
          case measure => first | (simp [intOf]; omega) | (rw [w64 (by omega) (by have := HL.out; omega)]; simp [intOf]; omega)
        · have kb0 : (x.f0 == 0) = false := beq_eq_false_iff_ne.2 k0
          have K0 := Aside0.mk k0
          clear k0
          by_cases k1 : x.f0 = 1
          · have kb1 : (x.f0 == 1) = true := beq_iff_eq.2 k1
            have K1 := Aside0.mk k1
            clear k1
            go_wp2_with (first | (go_at_call 49; refine (pass_ok w g P.1 (wrap64 (x.f1 - P.2)) _ (St.alloc HST.out _) (below_alloc HB.out _)).mono ?_; rintro e w9 ⟨rfl, hst9, hb9, ht⟩; have ho9 := ev_st (Kd.R_alloc HO.out _) (St.alloc HST.out _) ht; have hbx9 := ht g0 _ _ _ (blk_alloc HBX.out _) (by decide) HNE.out.symm; have hx9 := ht wr.heap.size _ _ _ (blk_new wr _) (by decide) (Nat.ne_of_gt (St.lt HST.out)); have hd0 : w9.cell? ⟨wr.heap.size, 0, none⟩ = some (.int .i64 x.f0) := (blk_cell hx9 0).trans rfl; have hd1 : w9.cell? ⟨wr.heap.size, 1, none⟩ = some (.int .i64 x.f1) := (blk_cell hx9 1).trans rfl; have hd2 : w9.cell? ⟨wr.heap.size, 2, none⟩ = some (.int .i64 x.f2) := (blk_cell hx9 2).trans rfl; obtain ⟨hr0, hr1⟩ := St.cell0 hst9; clear HBX HST HO HB; have HBX := Aside0.mk hbx9; have HST := Aside0.mk hst9; have HO := Aside0.mk ho9; have HB := Aside0.mk hb9; clear hst9 hb9 ht ho9 hbx9 hx9))
            go_roundw
            case rel =>
              have HSE : stepE at_ P x = ({ passF P.1 (wrap64 (x.f1 - P.2)) with run := false }, x.f1) := by rw [stepE, if_neg (show ¬ at_ < x.f1 by have := HAT.out; omega), if_neg K0.out, if_pos (.inl K1.out)]
              refine ⟨i + 1, by first | rfl | rw [w64 (by omega) (by have := HL.out; omega)], by rw [show (i + 1).toNat = i.toNat + 1 by omega, after_succ _ _ _ (by rw [HEL.out]; omega), HX0.out, HP.out, HSE], by omega, by omega, ⟨?_⟩, ⟨?_⟩, ⟨?_⟩, ⟨?_⟩⟩
              · rw [show (i + 1).toNat = i.toNat + 1 by omega, after_succ _ _ _ (by rw [HEL.out]; omega), HX0.out, HP.out, HSE]
                exact St.setRun HST.out _
              · exact (TK.set (TK.refl g _) _ : TK g _ _) g0 _ _ _ HBX.out (by decide) HNE.out.symm
              · exact ev_st HO.out HST.out (TK.set (TK.refl g _) _)
              · exact below_set HB.out (St.ge HST.out)
            case measure => first | (simp [intOf]; omega) | (rw [w64 (by omega) (by have := HL.out; omega)]; simp [intOf]; omega)
          · have kb1 : (x.f0 == 1) = false := beq_eq_false_iff_ne.2 k1
            have K1 := Aside0.mk k1
            clear k1
            by_cases k3 : x.f0 = 3
            · have kb3 : (x.f0 == 3) = true := beq_iff_eq.2 k3
              have K3 := Aside0.mk k3
              clear k3
              go_wp2_with (first | (go_at_call 49; refine (pass_ok w g P.1 (wrap64 (x.f1 - P.2)) _ (St.alloc HST.out _) (below_alloc HB.out _)).mono ?_; rintro e w9 ⟨rfl, hst9, hb9, ht⟩; have ho9 := ev_st (Kd.R_alloc HO.out _) (St.alloc HST.out _) ht; have hbx9 := ht g0 _ _ _ (blk_alloc HBX.out _) (by decide) HNE.out.symm; have hx9 := ht wr.heap.size _ _ _ (blk_new wr _) (by decide) (Nat.ne_of_gt (St.lt HST.out)); have hd0 : w9.cell? ⟨wr.heap.size, 0, none⟩ = some (.int .i64 x.f0) := (blk_cell hx9 0).trans rfl; have hd1 : w9.cell? ⟨wr.heap.size, 1, none⟩ = some (.int .i64 x.f1) := (blk_cell hx9 1).trans rfl; have hd2 : w9.cell? ⟨wr.heap.size, 2, none⟩ = some (.int .i64 x.f2) := (blk_cell hx9 2).trans rfl; obtain ⟨hr0, hr1⟩ := St.cell0 hst9; clear HBX HST HO HB; have HBX := Aside0.mk hbx9; have HST := Aside0.mk hst9; have HO := Aside0.mk ho9; have HB := Aside0.mk hb9; clear hst9 hb9 ht ho9 hbx9 hx9))
              go_roundw
              case rel =>
                have HSE : stepE at_ P x = ({ passF P.1 (wrap64 (x.f1 - P.2)) with run := false }, x.f1) := by rw [stepE, if_neg (show ¬ at_ < x.f1 by have := HAT.out; omega), if_neg K0.out, if_pos (.inr K3.out)]
                refine ⟨i + 1, by first | rfl | rw [w64 (by omega) (by have := HL.out; omega)], by rw [show (i + 1).toNat = i.toNat + 1 by omega, after_succ _ _ _ (by rw [HEL.out]; omega), HX0.out, HP.out, HSE], by omega, by omega, ⟨?_⟩, ⟨?_⟩, ⟨?_⟩, ⟨?_⟩⟩
                · rw [show (i + 1).toNat = i.toNat + 1 by omega, after_succ _ _ _ (by rw [HEL.out]; omega), HX0.out, HP.out, HSE]
                  exact St.setRun HST.out _
                · exact (TK.set (TK.refl g _) _ : TK g _ _) g0 _ _ _ HBX.out (by decide) HNE.out.symm
                · exact ev_st HO.out HST.out (TK.set (TK.refl g _) _)
                · exact below_set HB.out (St.ge HST.out)
              case measure => first | (simp [intOf]; omega) | (rw [w64 (by omega) (by have := HL.out; omega)]; simp [intOf]; omega)
            · have kb3 : (x.f0 == 3) = false := beq_eq_false_iff_ne.2 k3
              have K3 := Aside0.mk k3
              clear k3
              by_cases k2 : x.f0 = 2
              · have kb2 : (x.f0 == 2) = true := beq_iff_eq.2 k2
                have K2 := Aside0.mk k2
                clear k2
                go_wp2_with (first | (go_at_call 49; refine (pass_ok w g P.1 (wrap64 (x.f1 - P.2)) _ (St.alloc HST.out _) (below_alloc HB.out _)).mono ?_; rintro e w9 ⟨rfl, hst9, hb9, ht⟩; have ho9 := ev_st (Kd.R_alloc HO.out _) (St.alloc HST.out _) ht; have hbx9 := ht g0 _ _ _ (blk_alloc HBX.out _) (by decide) HNE.out.symm; have hx9 := ht wr.heap.size _ _ _ (blk_new wr _) (by decide) (Nat.ne_of_gt (St.lt HST.out)); have hd0 : w9.cell? ⟨wr.heap.size, 0, none⟩ = some (.int .i64 x.f0) := (blk_cell hx9 0).trans rfl; have hd1 : w9.cell? ⟨wr.heap.size, 1, none⟩ = some (.int .i64 x.f1) := (blk_cell hx9 1).trans rfl; have hd2 : w9.cell? ⟨wr.heap.size, 2, none⟩ = some (.int .i64 x.f2) := (blk_cell hx9 2).trans rfl; obtain ⟨hr0, hr1⟩ := St.cell0 hst9; clear HBX HST HO HB; have HBX := Aside0.mk hbx9; have HST := Aside0.mk hst9; have HO := Aside0.mk ho9; have HB := Aside0.mk hb9; clear hst9 hb9 ht ho9 hbx9 hx9) | (go_at_call 50; refine (show_ok w g (passF P.1 (wrap64 (x.f1 - P.2))) x.f2 _ HST.out HB.out (by rw [pass_len]; exact HPL.out)).mono ?_; rintro e w10 ⟨rfl, hst9, hb9, ht⟩; have ho9 := ev_st HO.out HST.out ht; have hbx9 := ht g0 _ _ _ HBX.out (by decide) HNE.out.symm; clear HBX HST HO HB; have HBX := Aside0.mk hbx9; have HST := Aside0.mk hst9; have HO := Aside0.mk ho9; have HB := Aside0.mk hb9; clear hst9 hb9 ht ho9 hbx9))
                go_roundw
                case rel =>
                  have HSE : stepE at_ P x = (showF (passF P.1 (wrap64 (x.f1 - P.2))) x.f2, x.f1) := by rw [stepE, if_neg (show ¬ at_ < x.f1 by have := HAT.out; omega), if_neg K0.out, if_neg (fun h => Or.elim h K1.out K3.out), if_pos K2.out]
                  refine ⟨i + 1, by first | rfl | rw [w64 (by omega) (by have := HL.out; omega)], by rw [show (i + 1).toNat = i.toNat + 1 by omega, after_succ _ _ _ (by rw [HEL.out]; omega), HX0.out, HP.out, HSE], by omega, by omega, ⟨?_⟩, ⟨?_⟩, ⟨?_⟩, ⟨?_⟩⟩
                  · rw [show (i + 1).toNat = i.toNat + 1 by omega, after_succ _ _ _ (by rw [HEL.out]; omega), HX0.out, HP.out, HSE]
                    exact HST.out
                  · exact HBX.out
                  · exact HO.out
                  · exact HB.out
                case measure => first | (simp [intOf]; omega) | (rw [w64 (by omega) (by have := HL.out; omega)]; simp [intOf]; omega)
              · have kb2 : (x.f0 == 2) = false := beq_eq_false_iff_ne.2 k2
                have K2 := Aside0.mk k2
                clear k2
                go_wp2_with (first | (go_at_call 49; refine (pass_ok w g P.1 (wrap64 (x.f1 - P.2)) _ (St.alloc HST.out _) (below_alloc HB.out _)).mono ?_; rintro e w9 ⟨rfl, hst9, hb9, ht⟩; have ho9 := ev_st (Kd.R_alloc HO.out _) (St.alloc HST.out _) ht; have hbx9 := ht g0 _ _ _ (blk_alloc HBX.out _) (by decide) HNE.out.symm; have hx9 := ht wr.heap.size _ _ _ (blk_new wr _) (by decide) (Nat.ne_of_gt (St.lt HST.out)); have hd0 : w9.cell? ⟨wr.heap.size, 0, none⟩ = some (.int .i64 x.f0) := (blk_cell hx9 0).trans rfl; have hd1 : w9.cell? ⟨wr.heap.size, 1, none⟩ = some (.int .i64 x.f1) := (blk_cell hx9 1).trans rfl; have hd2 : w9.cell? ⟨wr.heap.size, 2, none⟩ = some (.int .i64 x.f2) := (blk_cell hx9 2).trans rfl; obtain ⟨hr0, hr1⟩ := St.cell0 hst9; clear HBX HST HO HB; have HBX := Aside0.mk hbx9; have HST := Aside0.mk hst9; have HO := Aside0.mk ho9; have HB := Aside0.mk hb9; clear hst9 hb9 ht ho9 hbx9 hx9))
                go_roundw
                case rel =>
                  have HSE : stepE at_ P x = (passF P.1 (wrap64 (x.f1 - P.2)), x.f1) := by rw [stepE, if_neg (show ¬ at_ < x.f1 by have := HAT.out; omega), if_neg K0.out, if_neg (fun h => Or.elim h K1.out K3.out), if_neg K2.out]
                  refine ⟨i + 1, by first | rfl | rw [w64 (by omega) (by have := HL.out; omega)], by rw [show (i + 1).toNat = i.toNat + 1 by omega, after_succ _ _ _ (by rw [HEL.out]; omega), HX0.out, HP.out, HSE], by omega, by omega, ⟨?_⟩, ⟨?_⟩, ⟨?_⟩, ⟨?_⟩⟩
                  · rw [show (i + 1).toNat = i.toNat + 1 by omega, after_succ _ _ _ (by rw [HEL.out]; omega), HX0.out, HP.out, HSE]
                    exact HST.out
                  · exact HBX.out
                  · exact HO.out
                  · exact HB.out
                case measure => first | (simp [intOf]; omega) | (rw [w64 (by omega) (by have := HL.out; omega)]; simp [intOf]; omega)
    · obtain rfl : i = (l.length : Int) + 1 := by omega
      obtain ⟨s, hs⟩ : ∃ s, (after at_ (evs l at_) (l.length + 1)).1 = s := ⟨_, rfl⟩
      have hst := HST.out
      rw [show ((l.length : Int) + 1).toNat = l.length + 1 by omega, hs] at hst
      have HS := Aside0.mk hs
      clear hs HST
      obtain ⟨v, hbg, hgg, hRR⟩ := hst
      obtain ⟨A9, c9, rfl⟩ := Kd.R_slice hRR
      have hg0 : wr.cell? ⟨g, 0, none⟩ = some (.bool s.run) := (blk_cell hbg 0).trans rfl
      have hg1 : wr.cell? ⟨g, 1, none⟩ = some (.int .i64 s.tot) := (blk_cell hbg 1).trans rfl
      have hg2 : wr.cell? ⟨g, 2, none⟩ = some (.int .i64 s.sl) := (blk_cell hbg 2).trans rfl
      have hg3 : wr.cell? ⟨g, 3, none⟩ = some (.slice A9 s.sls.length c9) := (blk_cell hbg 3).trans rfl
      have HRR := Aside0.mk hRR
      clear hbg hgg hRR
      go_wp2_with ((with_reducible refine gate_store (t := 67) (p := 4) rfl ?_); refine agg_event (w0 := w) rfl rfl 67 (.tmp 4) (.tmp 64) rfl (g := g0) (e := 67) (.agg #[.bool s.run, .int .i64 s.tot, .int .i64 s.sl, .slice A9 s.sls.length c9]) [.bool s.run, .int .i64 s.tot, .int .i64 s.sl, .slice A9 s.sls.length c9] rfl rfl rfl (by kernel_rfl) HBX.out rfl (by simp only [List.mem_cons, List.not_mem_nil, or_false, forall_eq_or_imp, forall_eq]; exact ⟨rfl, rfl, rfl, rfl⟩) HB.out HGE.out ?_; intro w3 hbox hb hgr; have hrr3 := Kd.R_mono (Kd.R_grown (Kd.R_types HRR.out HBX.out (by decide)) hgr (fun j hj e => hj.2 (by injection e))) (fun _ _ => trivial : ∀ k : Nat, _ → True); clear HBX HB HRR; have HBX := Aside0.mk hbox; have HB := Aside0.mk hb; have HRR := Aside0.mk hrr3; clear hbox hb hgr hrr3)
      refine bodyPost_ret (results_ct rfl _ _ g0 67 #[.bool s.run, .int .i64 s.tot, .int .i64 s.sl, .slice A9 s.sls.length c9] (0, 0) _ rfl HBX.out hu67 rfl (by kernel_rfl)) rfl ?_
      rw [HS.out]
      exact ⟨_, rfl, HRR.out, HB.out⟩
end Go.Proofs.Ytihmbddneapooaa.HandCK
