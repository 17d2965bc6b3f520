/- Walked by hand: the law ClockReports where the events are fit and the time is in range. -/
import Derived.Test.YtihmbddneapooaaQCRx1
import Derived.Test.YtihmbddneapooaaLib
import Derived.StillTailTactics
namespace Go.Proofs.Ytihmbddneapooaa.HandCR
open Go.Proofs.Ytihmbddneapooaa.Lib (w64)
open Go.RowKit Go.Proofs.YtihmbddneapooaaW.PrintWords Go.Proofs.YtihmbddneapooaaW.PrintLast Go.Proofs.YtihmbddneapooaaW.PrintMore Go.Proofs.Ytihmbddneapooaa.PClockLeft Go.Proofs.Ytihmbddneapooaa.HandCK Go.Proofs.Ytihmbddneapooaa.QCL Go.Proofs.Ytihmbddneapooaa.QCR
set_option linter.unusedVariables false
attribute [local go_sem] max2_int min2_int max_two min_two
attribute [local go_sem high] eqA74
/-- The last place of a slide's number among the first i, -1 if none. -/
def lastAt (n : Int) (xs : List S74) : Nat → Int
  | 0 => -1
  | i + 1 => if (xs.getD i z74).f0 = n then (i : Int) else lastAt n xs i
theorem lastAt_ge (n : Int) (xs : List S74) : ∀ i : Nat, -1 ≤ lastAt n xs i ∧ lastAt n xs i < (i : Int)
  | 0 => by simp [lastAt]
  | i + 1 => by
    have h := lastAt_ge n xs i
    rw [lastAt]
    split
    · omega
    · omega
/-- What the law makes of a slide that is shown. -/
def addF (s : Rep) (n : Int) : List S74 := if lastAt n s.sls s.sls.length < 0 then s.sls ++ [⟨n, 0, 0⟩] else s.sls
def addK (s : Rep) (n : Int) : Int := if lastAt n s.sls s.sls.length < 0 then (s.sls.length : Int) else lastAt n s.sls s.sls.length
def lawShow (s : Rep) (n : Int) : Rep := ⟨s.run, s.tot, n, if s.sl = n then addF s n else (addF s n).set (addK s n).toNat (upX ((addF s n).getD (addK s n).toNat z74))⟩
def lawKind (s : Rep) (x : S72) : Rep := if x.f0 = 0 then { s with run := true } else if x.f0 = 2 then lawShow s x.f2 else { s with run := false }
def lstep (t : Int) (s : Rep) (x : S72) : Rep := passF (lawKind s x) (wrap64 (t - x.f1))
def toOf (at_ : Int) : List S72 → Int
  | [] => at_
  | y :: _ => mn at_ y.f1
def lawGo (at_ : Int) : Rep → List S72 → Rep
  | s, [] => s
  | s, x :: l => if at_ < x.f1 then s else lawGo at_ (lstep (toOf at_ l) s x) l
theorem addF_len (s : Rep) (n : Int) : (addF s n).length ≤ s.sls.length + 1 := by unfold addF; split <;> simp
theorem lastAt_yes (n : Int) (xs : List S74) (m : Int) (h0 : 0 ≤ m) (h : (xs.getD m.toNat z74).f0 = n) : lastAt n xs (m + 1).toNat = m := by
  rw [show (m + 1).toNat = m.toNat + 1 by omega, lastAt, if_pos h]
  omega
theorem lastAt_no (n : Int) (xs : List S74) (m : Int) (h0 : 0 ≤ m) (h : (xs.getD m.toNat z74).f0 ≠ n) : lastAt n xs (m + 1).toNat = lastAt n xs m.toNat := by
  rw [show (m + 1).toNat = m.toNat + 1 by omega, lastAt, if_neg h]
theorem addF_new (s : Rep) (n : Int) (h : lastAt n s.sls s.sls.length < 0) : addF s n = s.sls ++ [⟨n, 0, 0⟩] := if_pos h
theorem addF_old (s : Rep) (n : Int) (h : ¬ lastAt n s.sls s.sls.length < 0) : addF s n = s.sls := if_neg h
theorem addK_new (s : Rep) (n : Int) (h : lastAt n s.sls s.sls.length < 0) : addK s n = (s.sls.length : Int) := if_pos h
theorem addK_old (s : Rep) (n : Int) (h : ¬ lastAt n s.sls s.sls.length < 0) : addK s n = lastAt n s.sls s.sls.length := if_neg h
theorem addK_lt (s : Rep) (n : Int) : 0 ≤ addK s n ∧ addK s n < ((addF s n).length : Int) := by
  have h := lastAt_ge n s.sls s.sls.length
  by_cases hk : lastAt n s.sls s.sls.length < 0
  · rw [addK_new s n hk, addF_new s n hk]
    simp
    omega
  · rw [addK_old s n hk, addF_old s n hk]
    omega
theorem lawKind_len (s : Rep) (x : S72) : (lawKind s x).sls.length ≤ s.sls.length + 1 := by
  unfold lawKind
  split
  · exact Nat.le_succ _
  · split
    · unfold lawShow
      dsimp only
      split
      · exact addF_len s _
      · rw [List.length_set]; exact addF_len s _
    · exact Nat.le_succ _
theorem lawGo_stop (at_ : Int) (s : Rep) (l : List S72) (i : Nat) (hi : i < l.length) (h : at_ < (l.getD i z72).f1) : lawGo at_ s (l.drop i) = s := by
  rw [List.drop_eq_getElem_cons hi, lawGo, if_pos]
  rw [List.getD_eq_getElem?_getD, List.getElem?_eq_getElem hi] at h
  exact h
theorem lawGo_on (at_ : Int) (s : Rep) (l : List S72) (i : Nat) (hi : i < l.length) (h : ¬ at_ < (l.getD i z72).f1) : lawGo at_ s (l.drop i) = lawGo at_ (lstep (if i + 1 < l.length then mn at_ (l.getD (i + 1) z72).f1 else at_) s (l.getD i z72)) (l.drop (i + 1)) := by
  have e : l.getD i z72 = l[i] := by rw [List.getD_eq_getElem?_getD, List.getElem?_eq_getElem hi]; rfl
  rw [e] at h
  rw [List.drop_eq_getElem_cons hi, lawGo, if_neg h, e]
  by_cases h2 : i + 1 < l.length
  · rw [if_pos h2, List.drop_eq_getElem_cons h2, toOf]
    rw [List.getD_eq_getElem?_getD, List.getElem?_eq_getElem h2]
    rfl
  · rw [if_neg h2, List.drop_eq_nil_of_le (by omega)]
    rfl
/- Whether two reports are alike. -/
noncomputable def same (r1 : Bool) (r2 r3 : Int) (r4 : List S74) (s : Rep) : Bool := @decide (r1 = s.run ∧ r2 = s.tot ∧ r3 = s.sl ∧ r4 = s.sls) (Classical.propDecidable _)
theorem same_no {r1 : Bool} {r2 r3 : Int} {r4 : List S74} {s : Rep} (h : ¬ (r1 = s.run ∧ r2 = s.tot ∧ r3 = s.sl ∧ r4 = s.sls)) : same r1 r2 r3 r4 s = false := @decide_eq_false _ (Classical.propDecidable _) h
theorem same_yes {r1 : Bool} {r2 r3 : Int} {r4 : List S74} {s : Rep} (h : r1 = s.run ∧ r2 = s.tot ∧ r3 = s.sl ∧ r4 = s.sls) : same r1 r2 r3 r4 s = true := @decide_eq_true _ (Classical.propDecidable _) h
theorem all_same (a b : List S74) (hl : a.length = b.length) (h : ∀ j : Nat, j < b.length → a.getD j z74 = b.getD j z74) : a = b := by
  refine List.ext_getElem hl fun i h1 h2 => ?_
  have e := h i h2
  rw [List.getD_eq_getElem?_getD, List.getD_eq_getElem?_getD, List.getElem?_eq_getElem h1, List.getElem?_eq_getElem h2] at e
  exact e
theorem s74_ext {y z : S74} (h : (y.f0 == z.f0 && (y.f1 == z.f1 && (y.f2 == z.f2))) = true) : y = z := by
  obtain ⟨a, b, c⟩ := y
  obtain ⟨d, e, f⟩ := z
  simp only [Bool.and_eq_true, beq_iff_eq] at h
  obtain ⟨rfl, rfl, rfl⟩ := h
  rfl
def Law (A : Option Addr) (c : Nat) (l : List S72) (at_ : Int) (w : World) (b : Bool) : Prop :=
  Calls Try.prog 9 #[.slice A l.length c, .int .i64 at_] w fun e w' => e = .returned (.bool b) ∧ Below w.heap.size w w'
set_option maxHeartbeats 8000000 in
set_option maxRecDepth 100000 in
theorem law_main (k : Nat) (A : Option Addr) (c : Nat) (l : List S72) (at_ : Int) (r1 : Bool) (r2 r3 : Int) (r4 : List S74) (w : World) (hr : Kd.C k72 w A l.length l) (hc : l.length ≤ c)
    (h0 : chancerylaw3_clocked.f k = some true) (h1 : clock_Report.f k l at_ = some (r1, r2, r3, r4, 0)) (h2 : chancerylaw3_clockError.f k l = some 0) (h3 : clock_Check.f k l = some 0) (hlo : 0 ≤ at_) (hhi : at_ ≤ 10000000) (hl : l.length ≤ 1000) :
    Law A c l at_ w (same r1 r2 r3 r4 (lawGo at_ ⟨false, 0, 0, []⟩ l)) := by
  have hu67 := Try.underlying67
  have hu72 := Try.underlying72
  have hu74 := Try.underlying74
  have HR := Aside0.mk hr
  have HC := Aside0.mk hc
  have H0 := Aside0.mk h0
  have H1 := Aside0.mk h1
  have H2 := Aside0.mk h2
  have H3 := Aside0.mk h3
  have HIN : chanceryref3_In.f at_ 0 10000000 = some true := by unfold chanceryref3_In.f; rw [if_pos (by omega)]; exact congrArg some (decide_eq_true hhi)
  have HI := Aside0.mk HIN
  have HLO := Aside0.mk (And.intro hlo hhi)
  have HL := Aside0.mk hl
  have HB := Aside0.mk (Below.refl w.heap.size w)
  clear hr hc h0 h1 h2 h3 HIN hlo hhi hl
  unfold Law
  go_enter Try.func9, Try.ntmps9
  go_upto_region 11 with (first | (go_at_call 33; refine (chancerylaw3_clocked.calls k true _ H0.out).mono ?_; rintro e w1 ⟨rfl, hb⟩; have hb2 := below_step HB.out hb; clear HB; have HB := Aside0.mk hb2; clear hb hb2) | (go_at_call 34; refine (clock_Report.calls k A c l at_ r1 r2 r3 r4 0 _ ?sR HC.out H1.out).mono ?_; (case sR => exact Kd.C_below HR.out HB.out); rintro e w2 ⟨v2, rfl, ho, hb⟩; have hb2 := below_step HB.out hb; have HO := Aside0.mk (Kd.R_lower ho HB.out.size); clear HB; have HB := Aside0.mk hb2; clear ho hb hb2; obtain ⟨A2, c2, rfl⟩ := Kd.R_slice HO.out) | ((with_reducible refine gate_dst (N := 5) rfl ?_); refine box_event ?hg (N := 5) ?hd (cs := #[.bool false, .int .i64 0, .int .i64 0, .slice none 0 0]) (t := 67) ?hr ?_; (case hd => rfl); (case hg => rfl); (case hr => first | (go_simp; done) | (go_simp; rfl)); intro g0 hg w3 hbox hb; have HGE := Aside0.mk (show w.heap.size ≤ g0 by rw [hg]; exact HB.out.size); have HBX := Aside0.mk hbox; have ho3 := Kd.R_below HO.out hb; have hb2 := below_step HB.out hb; clear HB HO; have HB := Aside0.mk hb2; have HO := Aside0.mk ho3; clear hbox hg hb hb2 ho3) | ((with_reducible refine gate_store (t := 67) (p := 5) rfl ?_); refine agg_event (w0 := w) rfl rfl 67 (.tmp 5) (.tmp 22) rfl (g := g0) (e := 67) (.agg #[.bool r1, .int .i64 r2, .int .i64 r3, .slice A2 r4.length c2]) [.bool r1, .int .i64 r2, .int .i64 r3, .slice A2 r4.length c2] rfl rfl rfl (by kernel_rfl) HBX.out rfl (by simp only [List.mem_cons, List.not_mem_nil, or_false, forall_eq_or_imp, forall_eq]; exact ⟨rfl, rfl, rfl, rfl⟩) HB.out HGE.out ?_; intro w4 hbox hb hgr; have hrr4 := Kd.R_mono (Kd.R_grown (Kd.R_types HO.out HBX.out (by decide)) hgr (fun j hj e => hj.2 (by injection e))) (fun _ _ => trivial : ∀ k : Nat, _ → True); clear HBX HB HO; have HBX := Aside0.mk hbox; have HB := Aside0.mk hb; have HO := Aside0.mk hrr4; clear hbox hb hgr hrr4) | (go_at_call 35; refine (chancerylaw3_clockError.calls k A c l 0 _ ?sR HC.out H2.out).mono ?_; (case sR => exact Kd.C_below HR.out HB.out); rintro e w5 ⟨rfl, hb⟩; have hbx := (hb.block _ (blk_lt HBX.out)).trans HBX.out; have ho5 := Kd.R_below HO.out hb; have hb2 := below_step HB.out hb; clear HB HBX HO; have HBX := Aside0.mk hbx; have HB := Aside0.mk hb2; have HO := Aside0.mk ho5; clear hb hbx hb2 ho5) | (go_at_call 36; refine (clock_Check.calls k A c l 0 _ ?sR HC.out H3.out).mono ?_; (case sR => exact Kd.C_below HR.out HB.out); rintro e w6 ⟨rfl, hb⟩; have hbx := (hb.block _ (blk_lt HBX.out)).trans HBX.out; have ho6 := Kd.R_below HO.out hb; have hb2 := below_step HB.out hb; clear HB HBX HO; have HBX := Aside0.mk hbx; have HB := Aside0.mk hb2; have HO := Aside0.mk ho6; clear hb hbx hb2 ho6) | (go_at_call 14; (with_reducible refine (chanceryref3_In.calls at_ 0 10000000 true _ HI.out).mono ?_); rintro e w' ⟨rfl, ⟨nd, rfl⟩⟩; (try first | exact ⟨rfl, _, World.drewN_drewN _ _ _⟩ | exact ⟨rfl, _, Eq.trans (World.drewN_drewN _ _ _) (congrArg (World.drewN _) (Nat.add_assoc _ _ _))⟩)))
  have hbx0 := HBX.out
  have ho0 := Kd.R_drewN HO.out nd
  have hb0 := pw_below_drewN HB.out nd
  generalize hwb : w6.drewN nd = wb at ho0 hb0 ⊢
  have hbx1 : wb.heap[g0]? = some (.cells #[.bool r1, .int .i64 r2, .int .i64 r3, .slice A2 r4.length c2] 67 (0, 0)) := by rw [← hwb]; exact hbx0
  have hr1 := Kd.C_below HR.out hb0
  clear HBX HO HB hbx0 hwb HR
  have HBX := Aside0.mk hbx1
  have HO := Aside0.mk ho0
  have HW := Aside0.mk hb0
  have HR := Aside0.mk hr1
  have HB := Aside0.mk (Below.refl wb.heap.size wb)
  clear hbx1 ho0 hb0 hr1
  go_upto_block 0 with (((with_reducible refine gate_dst (N := 8) rfl ?_); refine box_event ?hg (N := 8) ?hd (cs := #[.bool false, .int .i64 0, .int .i64 0, .slice none 0 0]) (t := 67) ?hr ?_; (case hd => rfl); (case hg => rfl); (case hr => first | (go_simp; done) | (go_simp; rfl)); intro g hg w7 hbox hb; have HST := Aside0.mk (St.new (A := none) (c := 0) (n := 0) hbox (show wb.heap.size ≤ g by rw [hg]; exact Nat.le_refl _)); have hb2 := below_step HB.out hb; clear HB; have HB := Aside0.mk hb2; clear hbox hg hb hb2))
  (try simp only [Act.put, List.setIfInBounds_toArray, List.set_cons_zero, List.set_cons_succ])
  go_cut [] (fun wc => Aside0 (St wb.heap.size wc g (lawGo at_ ⟨false, 0, 0, []⟩ l)) ∧ Aside0 (Below wb.heap.size wb wc))
  case first =>
   try go_wp2
   go_loopw [55] (fun v55 w' => ∃ (i : Int) (s : Rep), v55 = .int .i64 i ∧ 0 ≤ i ∧ i ≤ (l.length : Int) ∧ Aside0 (St wb.heap.size w' g s) ∧ Aside0 (Below wb.heap.size wb w') ∧ Aside0 (s.sls.length ≤ i.toNat) ∧ Aside0 (lawGo at_ s (l.drop i.toNat) = lawGo at_ ⟨false, 0, 0, []⟩ l)) (fun v55 _ => l.length - (intOf v55).toNat)
   case atStart => exact ⟨0, ⟨false, 0, 0, []⟩, rfl, by omega, by omega, HST, HB, ⟨Nat.zero_le _⟩, ⟨rfl⟩⟩
   case round =>
    clear HST HB
    obtain ⟨i, s, rfl, hi0, hi1, HST, HB, HSL, HGO⟩ := hrel
    by_cases hlt : i < (l.length : Int)
    · obtain ⟨x, hx⟩ : ∃ x, l.getD i.toNat z72 = x := ⟨_, rfl⟩
      obtain ⟨ad, e126, hx0, hx1, hx2⟩ := at_T72 (Kd.C_below HR.out HB.out) i hi0 hlt
      have e7 : rd_T72 l i = x := hx
      rw [e7] at hx0 hx1 hx2
      subst e126
      have HX := Aside0.mk hx
      clear hx e7
      by_cases hat : at_ < x.f1
      · have hatb : decide (at_ < x.f1) = true := decide_eq_true hat
        have hatc : decide (x.f1 > at_) = true := decide_eq_true hat
        have HAT := Aside0.mk hat
        clear hat
        go_wp2
        go_meet
        case rel =>
          rw [lawGo_stop at_ s l i.toNat (by omega) (by rw [HX.out]; exact HAT.out)] at HGO
          rw [← HGO.out]
          exact ⟨⟨St.alloc HST.out _⟩, ⟨below_alloc HB.out _⟩⟩
      · have hatb : decide (at_ < x.f1) = false := decide_eq_false hat
        have hatc : decide (x.f1 > at_) = false := decide_eq_false hat
        have HGN := Aside0.mk (lawGo_on at_ s l i.toNat (by omega) (by rw [HX.out]; exact hat))
        have HAT := Aside0.mk hat
        clear hat
        have hj : wrap64 (i + 1) = i + 1 := w64 (by omega) (by have := HL.out; omega)
        obtain ⟨T, hT⟩ : ∃ T : Int, (if i.toNat + 1 < l.length then mn at_ (l.getD (i.toNat + 1) z72).f1 else at_) = T := ⟨_, rfl⟩
        rw [hT, HX.out, HGO.out] at HGN
        have HT := Aside0.mk hT
        clear hT HGO
        go_upto_if 69 with (fail)
        go_cut [11] (fun v11 wc => v11 = .int .i64 T ∧ Aside0 (St wb.heap.size wc g s) ∧ Aside0 (Below wb.heap.size wb wc) ∧ Aside0 (wc.heap[wr.heap.size]? = some (.cells #[.int .i64 x.f0, .int .i64 x.f1, .int .i64 x.f2] 72 (0, 0))))
        case first =>
          by_cases h2 : i + 1 < (l.length : Int)
          · have h2b : decide (i + 1 < (l.length : Int)) = true := decide_eq_true h2
            obtain ⟨y, hy⟩ : ∃ y, l.getD (i.toNat + 1) z72 = y := ⟨_, rfl⟩
            have h3 : 0 ≤ i + 1 := by omega
            obtain ⟨ad2, e2, hy0, hy1, hy2⟩ := at_T72 (Kd.C_alloc (Kd.C_below HR.out HB.out) (.cells #[.int .i64 x.f0, .int .i64 x.f1, .int .i64 x.f2] 72 (0, 0))) (i + 1) h3 h2
            have e3 : rd_T72 l (i + 1) = y := by rw [← hy]; unfold rd_T72; rw [show (i + 1).toNat = i.toNat + 1 by omega]
            rw [e3] at hy0 hy1 hy2
            cases e2
            have HY := Aside0.mk hy
            clear hy e3
            by_cases h4 : y.f1 < at_
            · go_wp2
              go_meet
              case rel =>
                refine ⟨?_, ⟨St.alloc HST.out _⟩, ⟨below_alloc HB.out _⟩, ⟨blk_new wr _⟩⟩
                rw [← HT.out, if_pos (by omega), HY.out, show mn at_ y.f1 = y.f1 from if_pos (by omega)]
            · go_wp2
              go_meet
              case rel =>
                refine ⟨?_, ⟨St.alloc HST.out _⟩, ⟨below_alloc HB.out _⟩, ⟨blk_new wr _⟩⟩
                rw [← HT.out, if_pos (by omega), HY.out, show mn at_ y.f1 = at_ from if_neg (by omega)]
          · have h2b : decide (i + 1 < (l.length : Int)) = false := decide_eq_false h2
            go_wp2
            go_meet
            case rel =>
              refine ⟨?_, ⟨St.alloc HST.out _⟩, ⟨below_alloc HB.out _⟩, ⟨blk_new wr _⟩⟩
              rw [← HT.out, if_neg (by omega)]
        case rest =>
          clear HST HB hx0 hx1 hx2 hatb hatc
          obtain ⟨rfl, HST, HB, HXB⟩ := hcut
          generalize hgx : wr.heap.size = gx at HXB ⊢
          clear hgx
          have HNE := Aside0.mk (show g ≠ gx from St.ne HST.out HXB.out (by decide))
          have hd0 : wc.cell? ⟨gx, 0, none⟩ = some (.int .i64 x.f0) := (blk_cell HXB.out 0).trans rfl
          have hd1 : wc.cell? ⟨gx, 1, none⟩ = some (.int .i64 x.f1) := (blk_cell HXB.out 1).trans rfl
          have hd2 : wc.cell? ⟨gx, 2, none⟩ = some (.int .i64 x.f2) := (blk_cell HXB.out 2).trans rfl
          go_upto_block 2 with (fail)
          go_cut [] (fun wc => Aside0 (St wb.heap.size wc g (lawKind s x)) ∧ Aside0 (Below wb.heap.size wb wc) ∧ Aside0 (wc.heap[gx]? = some (.cells #[.int .i64 x.f0, .int .i64 x.f1, .int .i64 x.f2] 72 (0, 0))))
          case first =>
            by_cases k0 : x.f0 = 0
            · have kb0 : (x.f0 == 0) = true := beq_iff_eq.2 k0
              have K0 := Aside0.mk k0
              have hf0 : wc.frozen? ⟨g, 0, none⟩ = false := (St.cell0 HST.out).2
              have hc0 : wc.cell? ⟨g, 0, none⟩ = some (.bool s.run) := (St.cell0 HST.out).1
              clear k0
              go_wp2
              go_meet
              case rel =>
                refine ⟨⟨?_⟩, ⟨below_set HB.out (St.ge HST.out)⟩, ⟨(TK.set (TK.refl g _) _ : TK g _ _) gx _ _ _ HXB.out (by decide) HNE.out.symm⟩⟩
                rw [lawKind, if_pos K0.out]
                exact St.setRun HST.out true
            · have kb0 : (x.f0 == 0) = false := beq_eq_false_iff_ne.2 k0
              have K0 := Aside0.mk k0
              clear k0
              by_cases k2 : x.f0 = 2
              · have kb2 : (x.f0 == 2) = true := beq_iff_eq.2 k2
                have K2 := Aside0.mk k2
                clear k2
                obtain ⟨run, tot, sl, xs⟩ := s
                have HN : Aside0 (xs.length ≤ 1000000) := ⟨by have h1 : xs.length ≤ i.toNat := HSL.out; have := HL.out; omega⟩
                obtain ⟨v, hbg, hgg, hRR⟩ := HST.out
                obtain ⟨A9, c9, rfl⟩ := Kd.R_slice hRR
                have hc3 : wc.cell? ⟨g, 3, none⟩ = some (.slice A9 xs.length c9) := (blk_cell hbg 3).trans rfl
                have HBK := Aside0.mk hbg
                have HG := Aside0.mk hgg
                have HRR := Aside0.mk hRR
                clear hbg hgg hRR HST
                go_upto_block 3 with (fail)
                go_cut [12] (fun v12 wc => v12 = .int .i64 (lastAt x.f2 xs xs.length) ∧ Aside0 (wc.heap[g]? = some (.cells #[.bool run, .int .i64 tot, .int .i64 sl, .slice A9 xs.length c9] 67 (0, 0))) ∧ Aside0 (Kd.R k74 74 wc wb.heap.size (fun _ => True) (.slice A9 xs.length c9) xs) ∧ Aside0 (Below wb.heap.size wb wc) ∧ Aside0 (wc.heap[gx]? = some (.cells #[.int .i64 x.f0, .int .i64 x.f1, .int .i64 x.f2] 72 (0, 0))))
                case first =>
                  try go_wp2
                  go_loopw [12, 89] (fun v12 v89 w' => ∃ m : Int, v12 = .int .i64 (lastAt x.f2 xs m.toNat) ∧ v89 = .int .i64 m ∧ 0 ≤ m ∧ m ≤ (xs.length : Int) ∧ Aside0 (w'.heap[g]? = some (.cells #[.bool run, .int .i64 tot, .int .i64 sl, .slice A9 xs.length c9] 67 (0, 0))) ∧ Aside0 (Kd.R k74 74 w' wb.heap.size (fun _ => True) (.slice A9 xs.length c9) xs) ∧ Aside0 (Below wb.heap.size wb w') ∧ Aside0 (w'.heap[gx]? = some (.cells #[.int .i64 x.f0, .int .i64 x.f1, .int .i64 x.f2] 72 (0, 0)))) (fun _ v89 _ => xs.length - (intOf v89).toNat)
                  case atStart => exact ⟨0, rfl, rfl, by omega, by omega, HBK, HRR, HB, HXB⟩
                  case round =>
                    clear HBK HRR HB HXB hc3 hd0 hd1 hd2
                    obtain ⟨m, rfl, rfl, hm0, hm1, HBK, HRR, HB, HXB⟩ := hrel
                    have hc3 : wr.cell? ⟨g, 3, none⟩ = some (.slice A9 xs.length c9) := (blk_cell HBK.out 3).trans rfl
                    have hd2 : wr.cell? ⟨gx, 2, none⟩ = some (.int .i64 x.f2) := (blk_cell HXB.out 2).trans rfl
                    by_cases hlm : m < (xs.length : Int)
                    · obtain ⟨gr, cc, e, hrb, hrl, hrt⟩ := Kd.R_form HRR.out (by omega)
                      injection e with e1 e2 e3
                      subst e1 e3
                      clear e2 hrb hrl hrt
                      obtain ⟨cl, hcl, hM, hcc, hfz⟩ := Kd.R_elem HRR.out z74 m hm0 hlm
                      generalize hz : xs.getD m.toNat z74 = z at hM
                      obtain rfl := k74_openM hM
                      have hz0 : wr.cell? ⟨gr, m.toNat * 3, none⟩ = some (.int .i64 z.f0) := hcc 0 _ rfl
                      have HZ := Aside0.mk hz
                      clear hcl hM hcc hfz hz
                      have hjm : wrap64 (m + 1) = m + 1 := w64 (by omega) (by have := HN.out; omega)
                      by_cases hs : z.f0 = x.f2
                      · have hsb : (z.f0 == x.f2) = true := beq_iff_eq.2 hs
                        have HS := Aside0.mk hs
                        clear hs
                        go_wp2
                        repeat (go_quiet (fail); try go_wp2)
                        go_roundw
                        case rel =>
                          refine ⟨m + 1, ?_, by rw [hjm], by omega, by omega, HBK, ⟨Kd.R_drewN HRR.out _⟩, ⟨pw_below_drewN HB.out _⟩, HXB⟩
                          rw [lastAt_yes x.f2 xs m hm0 (by rw [HZ.out]; exact HS.out)]
                        case measure => first | (simp [intOf]; omega) | (rw [hjm]; simp [intOf]; omega)
                      · have hsb : (z.f0 == x.f2) = false := beq_eq_false_iff_ne.2 hs
                        have HS := Aside0.mk hs
                        clear hs
                        go_wp2
                        repeat (go_quiet (fail); try go_wp2)
                        go_roundw
                        case rel =>
                          refine ⟨m + 1, ?_, by rw [hjm], by omega, by omega, HBK, ⟨Kd.R_drewN HRR.out _⟩, ⟨pw_below_drewN HB.out _⟩, HXB⟩
                          rw [lastAt_no x.f2 xs m hm0 (by rw [HZ.out]; exact HS.out)]
                        case measure => first | (simp [intOf]; omega) | (rw [hjm]; simp [intOf]; omega)
                    · go_wp2
                      go_meet
                      case rel =>
                        obtain rfl : m = (xs.length : Int) := by omega
                        exact ⟨rfl, HBK, HRR, HB, HXB⟩
                case rest =>
                  clear HBK HRR HB HXB hc3 hd0 hd1 hd2
                  obtain ⟨rfl, HBK, HRR, HB, HXB⟩ := hcut
                  have hla := lastAt_ge x.f2 xs xs.length
                  obtain ⟨K, hK⟩ : ∃ K, lastAt x.f2 xs xs.length = K := ⟨_, rfl⟩
                  rw [hK] at hla ⊢
                  have HK := Aside0.mk hK
                  have HLA := Aside0.mk hla
                  clear hK hla
                  have hc3 : wc.cell? ⟨g, 3, none⟩ = some (.slice A9 xs.length c9) := (blk_cell HBK.out 3).trans rfl
                  have hd2 : wc.cell? ⟨gx, 2, none⟩ = some (.int .i64 x.f2) := (blk_cell HXB.out 2).trans rfl
                  go_upto_if 104 with (fail)
                  go_cut [12] (fun v12 wc => v12 = .int .i64 (addK ⟨run, tot, sl, xs⟩ x.f2) ∧ Aside0 (St wb.heap.size wc g ⟨run, tot, sl, addF ⟨run, tot, sl, xs⟩ x.f2⟩) ∧ Aside0 (Below wb.heap.size wb wc) ∧ Aside0 (wc.heap[gx]? = some (.cells #[.int .i64 x.f0, .int .i64 x.f1, .int .i64 x.f2] 72 (0, 0))))
                  case first =>
                    by_cases hk : K < 0
                    · have hkb : decide (K < 0) = true := decide_eq_true hk
                      have HKN := Aside0.mk hk
                      have hf3 : wc.frozen? ⟨g, 3, none⟩ = false := blk_frozen HBK.out 3
                      go_wp2_with ((with_reducible refine gate_builtin (b := .append) (xs := #[.tmp 109, .tmp 113]) rfl ?_); at_builtin; refine Kd.R_append k74 (w0 := wb) wb.heap.size rfl (.tmp 109) (.tmp 113) 65 74 (.agg #[(.int .i64 0), (.int .i64 0), (.int .i64 0)]) 24 rfl Try.underlying65 info74 rfl (by decide) (by omega) (.slice A9 xs.length c9) xs (⟨x.f2, 0, 0⟩ : S74) [.int .i64 x.f2, .int .i64 0, .int .i64 0] (fun _ => True) (fun _ => False) rfl rfl ?aP (fun _ hk => hk.elim) ?aF ?aO ?aB ?aS ?aL ?_; (case aP => exact k74_mkM _ _ _ (⟨x.f2, 0, 0⟩ : S74)); (case aB => exact HB.out); (case aF => exact (fun _ _ => trivial)); (case aO => exact HRR.out); (case aS => exact Nat.le_trans HB.out.size (Nat.le_refl _)); (case aL => have := HN.out; omega); intro v4 w4 ho hb hgr hat; obtain ⟨A4, c4, rfl⟩ := Kd.R_slice ho; simp only [List.length_append, List.length_singleton] at ho; have hbk4 := blk_grown HBK.out hgr (Kd.R_ne HRR.out HBK.out (by decide)); have hx4 := blk_grown HXB.out hgr (Kd.R_ne HRR.out HXB.out (by decide)); have hc4 : w4.cell? ⟨g, 3, none⟩ = some (.slice A9 xs.length c9) := (blk_cell hbk4 3).trans rfl; have hf4 : w4.frozen? ⟨g, 3, none⟩ = false := blk_frozen hbk4 3; have HO4 := Aside0.mk ho; have HB4 := Aside0.mk hb; have HK4 := Aside0.mk hbk4; have HX4 := Aside0.mk hx4; clear ho hb hgr hat hbk4 hx4)
                      go_meet
                      case rel =>
                        refine ⟨?_, ⟨⟨.slice A4 (xs.length + 1) c4, blk_set HK4.out 3 _, HG.out, ?_⟩⟩, ⟨below_set HB4.out HG.out⟩, ⟨(TK.set (TK.refl g _) _ : TK g _ _) gx _ _ _ HX4.out (by decide) HNE.out.symm⟩⟩
                        · rw [addK_new _ _ (by rw [HK.out]; exact HKN.out)]
                        · rw [addF_new _ _ (by rw [HK.out]; exact HKN.out)]
                          exact Kd.R_mono (Kd.R_far (Kd.R_types HO4.out HK4.out (by decide)) (fun _ hk => hk.2) _) (fun _ _ => trivial)
                    · have hkb : decide (K < 0) = false := decide_eq_false hk
                      have HKN := Aside0.mk hk
                      go_wp2
                      go_meet
                      case rel =>
                        refine ⟨?_, ⟨⟨_, HBK.out, HG.out, ?_⟩⟩, HB, HXB⟩
                        · rw [addK_old _ _ (by rw [HK.out]; exact Int.not_lt.2 HKN.out)]
                          exact congrArg (Value.int IntKind.i64) HK.out.symm
                        · rw [addF_old _ _ (by rw [HK.out]; exact Int.not_lt.2 HKN.out)]
                          exact HRR.out
                  case rest =>
                    clear HBK HRR HB HXB hc3 hd2
                    obtain ⟨rfl, HST, HB, HXB⟩ := hcut
                    have hq1 := addK_lt ⟨run, tot, sl, xs⟩ x.f2
                    have hy1 := addF_len ⟨run, tot, sl, xs⟩ x.f2
                    obtain ⟨q, hq⟩ : ∃ q, addK ⟨run, tot, sl, xs⟩ x.f2 = q := ⟨_, rfl⟩
                    obtain ⟨ys, hys⟩ : ∃ ys, addF ⟨run, tot, sl, xs⟩ x.f2 = ys := ⟨_, rfl⟩
                    rw [hys] at HST hq1 hy1
                    rw [hq] at hq1 ⊢
                    have HQ := Aside0.mk hq
                    have HYS := Aside0.mk hys
                    obtain ⟨hq0, hq1⟩ := hq1
                    have HNY : Aside0 (ys.length ≤ 1000001) := ⟨Nat.le_trans hy1 (Nat.succ_le_succ HN.out)⟩
                    clear hq hys hy1
                    obtain ⟨v, hbg, hgg, hRR⟩ := HST.out
                    obtain ⟨A9, c9, rfl⟩ := Kd.R_slice hRR
                    have hc2 : wc.cell? ⟨g, 2, none⟩ = some (.int .i64 sl) := (blk_cell hbg 2).trans rfl
                    have hc3 : wc.cell? ⟨g, 3, none⟩ = some (.slice A9 ys.length c9) := (blk_cell hbg 3).trans rfl
                    have hd2 : wc.cell? ⟨gx, 2, none⟩ = some (.int .i64 x.f2) := (blk_cell HXB.out 2).trans rfl
                    have HBK := Aside0.mk hbg
                    have HRR : Aside0 (Kd.R k74 74 wc wb.heap.size (fun _ => True) (.slice A9 ys.length c9) ys) := ⟨hRR⟩
                    clear hbg hgg hRR
                    go_upto_if 120 with (fail)
                    go_cut [] (fun wc => Aside0 (St wb.heap.size wc g ⟨run, tot, sl, if sl = x.f2 then ys else ys.set q.toNat (upX (ys.getD q.toNat z74))⟩) ∧ Aside0 (Below wb.heap.size wb wc) ∧ Aside0 (wc.heap[gx]? = some (.cells #[.int .i64 x.f0, .int .i64 x.f1, .int .i64 x.f2] 72 (0, 0))))
                    case first =>
                      by_cases hs : sl = x.f2
                      · have hsb : (sl == x.f2) = true := beq_iff_eq.2 hs
                        have HS := Aside0.mk hs
                        clear hs
                        go_wp2
                        go_meet
                        case rel =>
                          refine ⟨⟨?_⟩, HB, HXB⟩
                          rw [if_pos HS.out]
                          exact HST.out
                      · have hsb : (sl == x.f2) = false := beq_eq_false_iff_ne.2 hs
                        have HS := Aside0.mk hs
                        clear hs
                        obtain ⟨gr, cc, e, hrb, hrl, hrt⟩ := Kd.R_form HRR.out (by omega)
                        injection e with e1 e2 e3
                        subst e1 e3
                        clear e2
                        have HRT := Aside0.mk (And.intro hrb (And.intro hrl hrt))
                        clear hrb hrl hrt
                        obtain ⟨cl, hcl, hM, hcc, hfz⟩ := Kd.R_elem HRR.out z74 q hq0 hq1
                        generalize hz : ys.getD q.toNat z74 = z at hM
                        obtain rfl := k74_openM hM
                        have hz2 : wc.cell? ⟨gr, q.toNat * 3 + 2, none⟩ = some (.int .i64 z.f2) := hcc 2 _ rfl
                        have hzf : wc.frozen? ⟨gr, q.toNat * 3 + 2, none⟩ = false := hfz 2
                        have HZ := Aside0.mk hz
                        have HCC := Aside0.mk hcc
                        clear hcl hM hcc hfz hz
                        go_wp2
                        go_meet
                        case rel =>
                          have G : Kd.R k74 74 (wc.setCell ⟨gr, q.toNat * 3 + 2, none⟩ (.int .i64 (wrap64 (z.f2 + 1)))) wb.heap.size (fun _ => True) (.slice (some ⟨gr, 0, none⟩) ys.length c9) (ys.set q.toNat (upX z)) ∧ wc.grownBy (wc.setCell ⟨gr, q.toNat * 3 + 2, none⟩ (.int .i64 (wrap64 (z.f2 + 1)))) (some gr) :=
                            Kd.R_seg (W := wc) (j := 2) (seg := [.int .i64 (wrap64 (z.f2 + 1))]) (okp := fun _ => False) HRR.out q hq0 hq1 (c := [.int .i64 z.f0, .int .i64 z.f1, .int .i64 z.f2]) rfl HCC.out (Nat.le_refl 3) (k74_mkM _ _ _ (⟨z.f0, z.f1, wrap64 (z.f2 + 1)⟩ : S74)) (fun _ (h : False) => h.elim)
                          have hfar : ∀ (k : Nat) (cs : Array Value) (q9 : TypeId), wc.heap[k]? = some (.cells cs q9 (0, 0)) → q9 ≠ 74 → (wc.setCell ⟨gr, q.toNat * 3 + 2, none⟩ (.int .i64 (wrap64 (z.f2 + 1)))).heap[k]? = some (.cells cs q9 (0, 0)) := fun k cs q9 hk hq9 =>
                            (G.2.block k (blk_lt hk) (fun e => by
                              obtain ⟨_, _, _, hct⟩ := HRT.out
                              injection e with e
                              subst e
                              rw [hct] at hk
                              injection hk with hk
                              injection hk with _ hk
                              exact hq9 hk.symm)).trans hk
                          refine ⟨⟨⟨_, hfar g _ _ HBK.out (by decide), HG.out, ?_⟩⟩, ⟨?_⟩, ⟨hfar gx _ _ HXB.out (by decide)⟩⟩
                          · rw [if_neg HS.out, HZ.out]
                            exact G.1
                          · exact pw_below_grown HB.out _ HB.out.size G.2 (fun k hk => by cases hk; exact Kd.R_base HRR.out gr rfl)
                    case rest =>
                      clear HST HBK HRR HB HXB hc2 hc3 hd2
                      obtain ⟨HST, HB, HXB⟩ := hcut
                      have hf2 : wc.frozen? ⟨g, 2, none⟩ = false := by obtain ⟨_, hb9, _, _⟩ := HST.out; exact blk_frozen hb9 2
                      have hc2 : wc.cell? ⟨g, 2, none⟩ = some (.int .i64 sl) := by obtain ⟨_, hb9, _, _⟩ := HST.out; exact (blk_cell hb9 2).trans rfl
                      have hd2 : wc.cell? ⟨gx, 2, none⟩ = some (.int .i64 x.f2) := (blk_cell HXB.out 2).trans rfl
                      go_wp2
                      go_meet
                      case rel =>
                        obtain ⟨v8, hb8, hg8, hR8⟩ := HST.out
                        refine ⟨⟨?_⟩, ⟨below_set HB.out HG.out⟩, ⟨(TK.set (TK.refl g _) _ : TK g _ _) gx _ _ _ HXB.out (by decide) HNE.out.symm⟩⟩
                        rw [lawKind, if_neg K0.out, if_pos K2.out, lawShow, HQ.out, HYS.out]
                        exact ⟨v8, blk_set hb8 2 _, hg8, Kd.R_mono (Kd.R_far (Kd.R_types hR8 hb8 (by decide)) (fun _ hk => hk.2) _) (fun _ _ => trivial)⟩
              · have kb2 : (x.f0 == 2) = false := beq_eq_false_iff_ne.2 k2
                have K2 := Aside0.mk k2
                have hf0 : wc.frozen? ⟨g, 0, none⟩ = false := (St.cell0 HST.out).2
                have hc0 : wc.cell? ⟨g, 0, none⟩ = some (.bool s.run) := (St.cell0 HST.out).1
                clear k2
                go_wp2
                go_meet
                case rel =>
                  refine ⟨⟨?_⟩, ⟨below_set HB.out (St.ge HST.out)⟩, ⟨(TK.set (TK.refl g _) _ : TK g _ _) gx _ _ _ HXB.out (by decide) HNE.out.symm⟩⟩
                  rw [lawKind, if_neg K0.out, if_neg K2.out]
                  exact St.setRun HST.out false
          case rest =>
            clear HST HB HXB hd0 hd1 hd2
            obtain ⟨HST, HB, HXB⟩ := hcut
            have hl1 := lawKind_len s x
            obtain ⟨s1, hs1⟩ : ∃ s1, lawKind s x = s1 := ⟨_, rfl⟩
            have HGM := Aside0.mk (show lawGo at_ (passF s1 (wrap64 (T - x.f1))) (l.drop (i.toNat + 1)) = lawGo at_ ⟨false, 0, 0, []⟩ l from by rw [← hs1]; exact HGN.out.symm)
            rw [hs1] at HST hl1
            have HL1 := Aside0.mk (show s1.sls.length ≤ (i + 1).toNat by have := HSL.out; omega)
            clear hs1 hl1 HGN
            obtain ⟨run, tot, sl, xs⟩ := s1
            obtain ⟨v, hbg, hgg, hRR⟩ := HST.out
            obtain ⟨A9, c9, rfl⟩ := Kd.R_slice hRR
            have hc0 : wc.cell? ⟨g, 0, none⟩ = some (.bool run) := (blk_cell hbg 0).trans rfl
            have hc1 : wc.cell? ⟨g, 1, none⟩ = some (.int .i64 tot) := (blk_cell hbg 1).trans rfl
            have hc2 : wc.cell? ⟨g, 2, none⟩ = some (.int .i64 sl) := (blk_cell hbg 2).trans rfl
            have hc3 : wc.cell? ⟨g, 3, none⟩ = some (.slice A9 xs.length c9) := (blk_cell hbg 3).trans rfl
            have hf1 : wc.frozen? ⟨g, 1, none⟩ = false := blk_frozen hbg 1
            have hd1 : wc.cell? ⟨gx, 1, none⟩ = some (.int .i64 x.f1) := (blk_cell HXB.out 1).trans rfl
            have HBK := Aside0.mk hbg
            have HG := Aside0.mk hgg
            have HRR := Aside0.mk hRR
            clear hbg hgg hRR
            cases run
            · go_wp2
              go_roundw
              case rel =>
                refine ⟨i + 1, ⟨false, tot, sl, xs⟩, by rw [hj], by omega, by omega, HST, HB, HL1, ⟨?_⟩⟩
                rw [show (i + 1).toNat = i.toNat + 1 by omega]
                exact HGM.out
              case measure => first | (simp [intOf]; omega) | (rw [hj]; simp [intOf]; omega)
            · clear HST
              have HN : Aside0 (xs.length ≤ 1000000) := ⟨by have h1 : xs.length ≤ (i + 1).toNat := HL1.out; have := HL.out; omega⟩
              obtain ⟨d, hd⟩ : ∃ d, wrap64 (T - x.f1) = d := ⟨_, rfl⟩
              rw [hd] at HGM
              go_wp2
              go_loopw [147] (fun v147 w' => ∃ m : Int, v147 = .int .i64 m ∧ 0 ≤ m ∧ m ≤ (xs.length : Int) ∧ Aside0 (w'.heap[g]? = some (.cells #[.bool true, .int .i64 (wrap64 (tot + d)), .int .i64 sl, .slice A9 xs.length c9] 67 (0, 0))) ∧ Aside0 (Kd.R k74 74 w' wb.heap.size (fun _ => True) (.slice A9 xs.length c9) (mapTo (passX sl d) xs m.toNat)) ∧ Aside0 (Below wb.heap.size wb w') ∧ Aside0 (w'.heap[gx]? = some (.cells #[.int .i64 x.f0, .int .i64 x.f1, .int .i64 x.f2] 72 (0, 0)))) (fun v147 _ => xs.length - (intOf v147).toNat)
              case atStart =>
                refine ⟨0, rfl, by omega, by omega, ⟨blk_set HBK.out 1 _⟩, ⟨?_⟩, ⟨below_set HB.out HG.out⟩, ⟨(TK.set (TK.refl g _) _ : TK g _ _) gx _ _ _ HXB.out (by decide) HNE.out.symm⟩⟩
                rw [show (0 : Int).toNat = 0 from rfl, mapTo_zero]
                exact Kd.R_mono (Kd.R_far (Kd.R_types HRR.out HBK.out (by decide)) (fun _ hk => hk.2) _) (fun _ _ => trivial)
              case round =>
                clear HBK HRR HB HXB hc0 hc1 hc2 hc3 hf1 hd1
                obtain ⟨m, rfl, hm0, hm1, HBK, HO5, HB, HXB⟩ := hrel
                have hc2 : wr.cell? ⟨g, 2, none⟩ = some (.int .i64 sl) := (blk_cell HBK.out 2).trans rfl
                have hc3 : wr.cell? ⟨g, 3, none⟩ = some (.slice A9 xs.length c9) := (blk_cell HBK.out 3).trans rfl
                have hd1 : wr.cell? ⟨gx, 1, none⟩ = some (.int .i64 x.f1) := (blk_cell HXB.out 1).trans rfl
                by_cases hlm : m < (xs.length : Int)
                · obtain ⟨gr, cc, e, hrb, hrl, hrt⟩ := Kd.R_form HO5.out (by rw [mapTo_length]; omega)
                  injection e with e1 e2 e3
                  subst e1 e3
                  clear e2
                  have HRT := Aside0.mk (And.intro hrb (And.intro hrl hrt))
                  clear hrb hrl hrt
                  obtain ⟨cl, hcl, hM, hcc, hfz⟩ := Kd.R_elem HO5.out z74 m hm0 hlm
                  rw [mapTo_at] at hM
                  generalize hz : xs.getD m.toNat z74 = z at hM
                  obtain rfl := k74_openM hM
                  have hz0 : wr.cell? ⟨gr, m.toNat * 3, none⟩ = some (.int .i64 z.f0) := hcc 0 _ rfl
                  have hz1 : wr.cell? ⟨gr, m.toNat * 3 + 1, none⟩ = some (.int .i64 z.f1) := hcc 1 _ rfl
                  have hzf : wr.frozen? ⟨gr, m.toNat * 3 + 1, none⟩ = false := hfz 1
                  have HZ := Aside0.mk hz
                  have HCC := Aside0.mk hcc
                  clear hcl hM hcc hfz hz
                  have hjm : wrap64 (m + 1) = m + 1 := w64 (by omega) (by have := HN.out; omega)
                  by_cases hs : z.f0 = sl
                  · have hsb : (z.f0 == sl) = true := beq_iff_eq.2 hs
                    have HS := Aside0.mk hs
                    clear hs
                    go_wp2
                    go_quiet (fail)
                    try go_wp2
                    refine wp_region_still_tail 13 (by kernel_rfl) (by kernel_rfl) ?_
                    simp only [List.take_succ_cons, List.take_zero, List.drop_succ_cons, List.drop_zero]
                    generalize hwq : ({ (wr.drewN nq) with drawn := (wr.drewN nq).drawn + 1 } : World) = wq
                    have hwq2 : wq = wr.drewN (nq + 1) := hwq.symm
                    have hc2 : wq.cell? ⟨g, 2, none⟩ = some (.int .i64 sl) := by rw [← hwq]; exact hc2
                    have hc3 : wq.cell? ⟨g, 3, none⟩ = some (.slice (some ⟨gr, 0, none⟩) xs.length c9) := by rw [← hwq]; exact hc3
                    have hd1 : wq.cell? ⟨gx, 1, none⟩ = some (.int .i64 x.f1) := by rw [← hwq]; exact hd1
                    have hz1 : wq.cell? ⟨gr, m.toNat * 3 + 1, none⟩ = some (.int .i64 z.f1) := by rw [← hwq]; exact hz1
                    have hzf : wq.frozen? ⟨gr, m.toNat * 3 + 1, none⟩ = false := by rw [← hwq]; exact hzf
                    clear hwq
                    have HWQ := Aside0.mk hwq2
                    clear hwq2
                    repeat still_step
                    refine wpStill_nil ?_
                    go_wp2
                    go_roundw
                    case rel =>
                      obtain rfl := HWQ.out
                      have G : Kd.R k74 74 ((wr.drewN (nq + 1)).setCell ⟨gr, m.toNat * 3 + 1, none⟩ (.int .i64 (wrap64 (z.f1 + d)))) wb.heap.size (fun _ => True) (.slice (some ⟨gr, 0, none⟩) xs.length c9) ((mapTo (passX sl d) xs m.toNat).set m.toNat (⟨z.f0, wrap64 (z.f1 + d), z.f2⟩ : S74)) ∧ (wr.drewN (nq + 1)).grownBy ((wr.drewN (nq + 1)).setCell ⟨gr, m.toNat * 3 + 1, none⟩ (.int .i64 (wrap64 (z.f1 + d)))) (some gr) :=
                        Kd.R_seg (W := wr.drewN (nq + 1)) (j := 1) (seg := [.int .i64 (wrap64 (z.f1 + d))]) (okp := fun _ => False) (Kd.R_drewN HO5.out (nq + 1)) m hm0 hlm (c := [.int .i64 z.f0, .int .i64 z.f1, .int .i64 z.f2]) rfl HCC.out (Nat.le_succ 2) (k74_mkM _ _ _ (⟨z.f0, wrap64 (z.f1 + d), z.f2⟩ : S74)) (fun _ (h : False) => h.elim)
                      have hfar : ∀ (k : Nat) (cs : Array Value) (q : TypeId), wr.heap[k]? = some (.cells cs q (0, 0)) → q ≠ 74 → ((wr.drewN (nq + 1)).setCell ⟨gr, m.toNat * 3 + 1, none⟩ (.int .i64 (wrap64 (z.f1 + d)))).heap[k]? = some (.cells cs q (0, 0)) := fun k cs q hk hq =>
                        (G.2.block k (blk_lt hk) (fun e => by
                          obtain ⟨_, _, _, hct⟩ := HRT.out
                          injection e with e
                          subst e
                          rw [hct] at hk
                          injection hk with hk
                          injection hk with _ hk
                          exact hq hk.symm)).trans hk
                      refine ⟨m + 1, by rw [hjm], by omega, by omega, ⟨hfar g _ _ HBK.out (by decide)⟩, ⟨?_⟩, ⟨?_⟩, ⟨hfar gx _ _ HXB.out (by decide)⟩⟩
                      · rw [show (m + 1).toNat = m.toNat + 1 by omega, mapTo_succ _ _ _ (by omega) z74, HZ.out, show passX sl d z = ⟨z.f0, wrap64 (z.f1 + d), z.f2⟩ from if_pos HS.out]
                        exact G.1
                      · exact pw_below_grown (pw_below_drewN HB.out (nq + 1)) _ HB.out.size G.2 (fun k hk => by cases hk; exact Kd.R_base HO5.out gr rfl)
                    case measure => first | (simp [intOf]; omega) | (rw [hjm]; simp [intOf]; omega)
                  · have hsb : (z.f0 == sl) = false := beq_eq_false_iff_ne.2 hs
                    have HS := Aside0.mk hs
                    clear hs
                    go_wp2
                    repeat (go_quiet (fail); try go_wp2)
                    go_roundw
                    case rel =>
                      refine ⟨m + 1, by rw [hjm], by omega, by omega, HBK, ⟨?_⟩, ⟨pw_below_drewN HB.out _⟩, HXB⟩
                      rw [show (m + 1).toNat = m.toNat + 1 by omega, mapTo_same _ _ _ (by omega) z74 (by rw [HZ.out]; exact if_neg HS.out)]
                      exact Kd.R_drewN HO5.out _
                    case measure => first | (simp [intOf]; omega) | (rw [hjm]; simp [intOf]; omega)
                · go_wp2
                  go_roundw
                  case rel =>
                    obtain rfl : m = (xs.length : Int) := by omega
                    have h9 := HO5.out
                    rw [show ((xs.length : Int)).toNat = xs.length by omega, mapTo_all] at h9
                    refine ⟨i + 1, ⟨true, wrap64 (tot + d), sl, xs.map (passX sl d)⟩, by rw [hj], by omega, by omega, ⟨⟨_, HBK.out, HG.out, h9⟩⟩, HB, ⟨by have := HL1.out; simpa using this⟩, ⟨?_⟩⟩
                    rw [show (i + 1).toNat = i.toNat + 1 by omega]
                    exact HGM.out
                  case measure => first | (simp [intOf]; omega) | (rw [hj]; simp [intOf]; omega)
    · go_wp2
      go_meet
      case rel =>
        obtain rfl : i = (l.length : Int) := by omega
        have h9 := HGO.out
        rw [List.drop_eq_nil_of_le (by omega), lawGo] at h9
        rw [← h9]
        exact ⟨HST, HB⟩
  case rest =>
    clear HST HB
    obtain ⟨HST, HB⟩ := hcut
    obtain ⟨s, hs⟩ : ∃ s, lawGo at_ ⟨false, 0, 0, []⟩ l = s := ⟨_, rfl⟩
    rw [hs] at HST
    have HS := Aside0.mk hs
    clear hs
    obtain ⟨run, tot, sl, xs⟩ := s
    obtain ⟨v, hbg, hgg, hRR⟩ := HST.out
    obtain ⟨A9, c9, rfl⟩ := Kd.R_slice hRR
    have hbx := (HB.out.block _ (blk_lt HBX.out)).trans HBX.out
    have hc0 : wc.cell? ⟨g, 0, none⟩ = some (.bool run) := (blk_cell hbg 0).trans rfl
    have hc1 : wc.cell? ⟨g, 1, none⟩ = some (.int .i64 tot) := (blk_cell hbg 1).trans rfl
    have hc2 : wc.cell? ⟨g, 2, none⟩ = some (.int .i64 sl) := (blk_cell hbg 2).trans rfl
    have hc3 : wc.cell? ⟨g, 3, none⟩ = some (.slice A9 xs.length c9) := (blk_cell hbg 3).trans rfl
    have hb0 : wc.cell? ⟨g0, 0, none⟩ = some (.bool r1) := (blk_cell hbx 0).trans rfl
    have hb1 : wc.cell? ⟨g0, 1, none⟩ = some (.int .i64 r2) := (blk_cell hbx 1).trans rfl
    have hb2 : wc.cell? ⟨g0, 2, none⟩ = some (.int .i64 r3) := (blk_cell hbx 2).trans rfl
    have hb3 : wc.cell? ⟨g0, 3, none⟩ = some (.slice A2 r4.length c2) := (blk_cell hbx 3).trans rfl
    have HO2 := Aside0.mk (Kd.R_below HO.out HB.out)
    have HRR := Aside0.mk hRR
    have HBK := Aside0.mk hbg
    have HB0 := Aside0.mk hbx
    have HBW := Aside0.mk (below_step HW.out HB.out)
    clear hbg hgg hRR hbx HST HBX HO
    go_wp2   -- splits at the four comparisons: four ways end in false, one comes to loop block 7
    · rename_i e1 e2 e3 e4
      have HN := Aside0.mk e4
      go_ret
      refine ⟨?_, HBW.out⟩
      rw [HS.out, same_no (fun h => by have e := HN.out; rw [h.2.2.2] at e; simp at e)]
      rfl
    · rename_i e1 e2 e3 e4 K9 a9
      subst e1 e2 e3
      have hle : r4.length = xs.length := by have e := bne_eq_false_iff_eq.1 e4; omega
      have HLE := Aside0.mk hle
      have HN : Aside0 ((xs.length : Int) ≤ 9223372036854775807) := ⟨by have h9 : xs.length ≤ 9223372036854775807 := (Kd.R_reads' HRR.out).2.2.2.1; omega⟩
      clear hle e4
      go_loopw [209] (fun v209 w' => ∃ m : Int, v209 = .int .i64 m ∧ 0 ≤ m ∧ m ≤ (xs.length : Int) ∧ Aside0 (w'.heap[g]? = some (.cells #[.bool r1, .int .i64 r2, .int .i64 r3, .slice A9 xs.length c9] 67 (0, 0))) ∧ Aside0 (w'.heap[g0]? = some (.cells #[.bool r1, .int .i64 r2, .int .i64 r3, .slice A2 r4.length c2] 67 (0, 0))) ∧ Aside0 (Kd.R k74 74 w' wb.heap.size (fun _ => True) (.slice A9 xs.length c9) xs) ∧ Aside0 (Kd.R k74 74 w' w.heap.size (fun _ => True) (.slice A2 r4.length c2) r4) ∧ Aside0 (Below w.heap.size w w') ∧ Aside0 (∀ j : Nat, (j : Int) < m → r4.getD j z74 = xs.getD j z74)) (fun v209 _ => xs.length - (intOf v209).toNat)
      case atStart => exact ⟨0, rfl, by omega, by omega, HBK, HB0, ⟨HRR.out⟩, HO2, HBW, ⟨fun j hj => by omega⟩⟩
      case round =>
        clear HBK HB0 HRR HO2 HBW HB hc0 hc1 hc2 hc3 hb0 hb1 hb2 hb3
        obtain ⟨m, rfl, hm0, hm1, HBK, HB0, HRR, HO2, HBW, HEQ⟩ := hrel
        have hc3 : wr.cell? ⟨g, 3, none⟩ = some (.slice A9 xs.length c9) := (blk_cell HBK.out 3).trans rfl
        have hb3 : wr.cell? ⟨g0, 3, none⟩ = some (.slice A2 r4.length c2) := (blk_cell HB0.out 3).trans rfl
        by_cases hlm : m < (xs.length : Int)
        · have hlm2 : m < (r4.length : Int) := by have := HLE.out; omega
          obtain ⟨gr, cc, e, hrb, hrl, hrt⟩ := Kd.R_form HRR.out (by omega)
          injection e with e1 e2 e3
          subst e1 e3
          clear e2 hrb hrl hrt
          obtain ⟨gs, cs, e, hrb, hrl, hrt⟩ := Kd.R_form HO2.out (by omega)
          injection e with e1 e2 e3
          subst e1 e3
          clear e2 hrb hrl hrt
          obtain ⟨cl, hcl, hM, hcc, hfz⟩ := Kd.R_elem HRR.out z74 m hm0 hlm
          generalize hz : xs.getD m.toNat z74 = z at hM
          obtain rfl := k74_openM hM
          have hz0 : wr.cell? ⟨gr, m.toNat * 3, none⟩ = some (.int .i64 z.f0) := hcc 0 _ rfl
          have hz1 : wr.cell? ⟨gr, m.toNat * 3 + 1, none⟩ = some (.int .i64 z.f1) := hcc 1 _ rfl
          have hz2 : wr.cell? ⟨gr, m.toNat * 3 + 2, none⟩ = some (.int .i64 z.f2) := hcc 2 _ rfl
          have HZ := Aside0.mk hz
          clear hcl hM hcc hfz hz
          obtain ⟨cl, hcl, hM, hcc, hfz⟩ := Kd.R_elem HO2.out z74 m hm0 hlm2
          generalize hy : r4.getD m.toNat z74 = y at hM
          obtain rfl := k74_openM hM
          have hy0 : wr.cell? ⟨gs, m.toNat * 3, none⟩ = some (.int .i64 y.f0) := hcc 0 _ rfl
          have hy1 : wr.cell? ⟨gs, m.toNat * 3 + 1, none⟩ = some (.int .i64 y.f1) := hcc 1 _ rfl
          have hy2 : wr.cell? ⟨gs, m.toNat * 3 + 2, none⟩ = some (.int .i64 y.f2) := hcc 2 _ rfl
          have HY := Aside0.mk hy
          clear hcl hM hcc hfz hy
          have hjm : wrap64 (m + 1) = m + 1 := w64 (by omega) (by have := HN.out; omega)
          obtain ⟨b, hb⟩ : ∃ b, (y.f0 == z.f0 && (y.f1 == z.f1 && (y.f2 == z.f2))) = b := ⟨_, rfl⟩
          have HYZ := Aside0.mk hb
          cases b
          · go_wp2
            repeat (go_quiet (fail); try go_wp2)
            go_ret
            refine ⟨?_, pw_below_drewN HBW.out _⟩
            rw [HS.out, same_no (fun h => by
              have e : y = z := by rw [← HY.out, ← HZ.out, h.2.2.2]
              have e9 := HYZ.out
              rw [e] at e9
              simp at e9)]
            rfl
          · go_wp2
            repeat (go_quiet (fail); try go_wp2)
            go_roundw
            case rel =>
              refine ⟨m + 1, by rw [hjm], by omega, by omega, HBK, HB0, ⟨Kd.R_drewN HRR.out _⟩, ⟨Kd.R_drewN HO2.out _⟩, ⟨pw_below_drewN HBW.out _⟩, ⟨fun j hj => ?_⟩⟩
              by_cases hj2 : (j : Int) < m
              · exact HEQ.out j hj2
              · obtain rfl : j = m.toNat := by omega
                rw [HY.out, HZ.out]
                exact s74_ext HYZ.out
            case measure => first | (simp [intOf]; omega) | (rw [hjm]; simp [intOf]; omega)
        · go_wp2
          go_ret
          refine ⟨?_, HBW.out⟩
          have hall : r4 = xs := all_same r4 xs HLE.out fun j hj => HEQ.out j (by omega)
          rw [HS.out, same_yes (s := ⟨r1, r2, r3, xs⟩) ⟨rfl, rfl, rfl, hall⟩]
          rfl
    · rename_i e1 e2 e3
      have HN := Aside0.mk e3
      go_ret
      refine ⟨?_, HBW.out⟩
      rw [HS.out, same_no (fun h => HN.out h.2.2.1)]
      rfl
    · rename_i e1 e2
      have HN := Aside0.mk e2
      go_ret
      refine ⟨?_, HBW.out⟩
      rw [HS.out, same_no (fun h => HN.out h.2.1)]
      rfl
    · rename_i e1
      have HN := Aside0.mk e1
      go_ret
      refine ⟨?_, HBW.out⟩
      rw [HS.out, same_no (fun h => HN.out h.1)]
      rfl
end Go.Proofs.Ytihmbddneapooaa.HandCR
