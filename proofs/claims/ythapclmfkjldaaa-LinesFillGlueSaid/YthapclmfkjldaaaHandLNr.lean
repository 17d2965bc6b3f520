import Derived.Test.YthapclmfkjldaaaHandLNq
namespace Go.Proofs.Ythapclmfkjldaaa.HandLN
set_option linter.unusedSectionVars false
set_option linter.unusedVariables false
set_option linter.unusedSimpArgs false
open Go.Proofs.Ythapclmfkjldaaa.Lib (w64)
open Go.RowKit Go.Proofs.YthapclmfkjldaaaW.PrintWords Go.Proofs.YthapclmfkjldaaaW.PrintLast Go.Proofs.YthapclmfkjldaaaW.PrintMore Go.Proofs.Ythapclmfkjldaaa.QLN Go.Proofs.Ythapclmfkjldaaa.LinesP Go.Proofs.Ythapclmfkjldaaa.Cells Go.Proofs.Ythapclmfkjldaaa.Lib
attribute [local go_sem] max2_int min2_int max_two min_two
theorem one_pure (L : List S49) (hF : Fine L) (f t wd : Int) (f0 : 0 ≤ f) (ft : f ≤ t) (t1 : t ≤ L.length) : Ev (fun k => chanceryref3_OneLine.f k L [wd] 0 f t 0) (f, t, natP L f t, growP L f t, yieldP L f t, wd) := by
 have h := oneLine_pure L [wd] 0 hF (Nat.le_refl _) (show 1 ≤ 20 by decide) f t 0 f0 ft t1 (Int.le_refl _)
 have e1 : (lineP L [wd] (fillT hW1 L (L.length : Int)) (fillT (·.f2) L (L.length : Int)) (fillT (·.f3) L (L.length : Int)) f t 0).f2 = natP L f t := by
  show rd _ t - rd _ f + addP L t = _
  rw [fill_end hW1 L t (by omega) t1, fill_end hW1 L f f0 (by omega)]
  rfl
 have e2 : (lineP L [wd] (fillT hW1 L (L.length : Int)) (fillT (·.f2) L (L.length : Int)) (fillT (·.f3) L (L.length : Int)) f t 0).f3 = growP L f t := by
  show rd _ t - rd _ f = _
  rw [fill_end (·.f2) L t (by omega) t1, fill_end (·.f2) L f f0 (by omega)]
  rfl
 have e3 : (lineP L [wd] (fillT hW1 L (L.length : Int)) (fillT (·.f2) L (L.length : Int)) (fillT (·.f3) L (L.length : Int)) f t 0).f4 = yieldP L f t := by
  show rd _ t - rd _ f = _
  rw [fill_end (·.f3) L t (by omega) t1, fill_end (·.f3) L f f0 (by omega)]
  rfl
 dsimp only at h
 rw [e1, e2, e3] at h
 exact h
section
variable (L : List S49) (hF : Fine L) (hG : Glue L)
include hF hG
set_option maxHeartbeats 8000000 in
set_option maxRecDepth 100000 in
theorem filled_ok (A0 : Option Addr) (c0 : Nat) (x0 x1 x2 x3 x4 x5 : Int) (jy : Bool) (f0 : 0 ≤ x0) (ft : x0 ≤ x1) (t1 : x1 ≤ L.length) (wd0 : 1 ≤ x5) (wd1 : x5 ≤ 100000) (w : World) (hL : Kd.C k49 w A0 L.length L) (hc : L.length ≤ c0) :
    Calls Try.prog 20 #[.slice A0 L.length c0, .agg #[.int .i64 x0, .int .i64 x1, .int .i64 x2, .int .i64 x3, .int .i64 x4, .int .i64 x5], .bool jy] w fun e w' => ∃ v : Value, e = .returned v ∧ kI.R 3 w' w.heap.size (fun _ => True) v (fillP L x0 x1 x5 jy) ∧ Below w.heap.size w w' := by
 have hu41 := Try.underlying41
 have hu49 := Try.underlying49
 have hu25 := Try.underlying25
 have hn := hF.1
 have HF := Aside0.mk hF
 have HG := Aside0.mk hG
 have HL := Aside0.mk hL
 have HC0 := Aside0.mk hc
 obtain ⟨k1, hk1⟩ := (one_pure L hF x0 x1 x5 f0 ft t1).rounds
 have HB := Aside0.mk (Below.refl w.heap.size w)
 have e1 := eq_true f0
 have e2 := eq_true ft
 have e3 := eq_true t1
 have HFB := Aside0.mk (fill_bd L hF x0 x1 x5 jy f0 ft t1 wd0 wd1)
 obtain ⟨i0, hi0, _, hsz, _⟩ := info_parts info49
 have hcut := cut_mid (P := Try.prog) 22 49 .i64 .i64 Try.underlying22 hi0 6 hsz A0 L.length c0 x0 x1 f0 ft t1 hc
 have hr := Kd.C_mid (lo := x0.toNat) (hi := x1.toNat) (c := c0) hL (by omega) (by omega) hc
 obtain ⟨A9, hA9⟩ : ∃ A1, A1 = (if c0 = x0.toNat then A0 else (A0 : Option Addr).map (·.add (x0.toNat * 6))) := ⟨_, rfl⟩
 obtain ⟨c9, hc9⟩ : ∃ c1, c1 = c0 - x0.toNat := ⟨_, rfl⟩
 obtain ⟨y, hy⟩ : ∃ y, y = (L.take x1.toNat).drop x0.toNat := ⟨_, rfl⟩
 have hyl : y.length = x1.toNat - x0.toNat := by rw [hy, List.length_drop, List.length_take]; omega
 rw [← hy] at hr
 replace hr : Kd.C k49 w A9 y.length y := by rw [hA9]; exact hr
 rw [← hyl, ← hA9, ← hc9] at hcut
 have HYA := Aside0.mk (fun (i : Int) (i0 : 0 ≤ i) (i1 : i < x1 - x0) => (show rd_T49 y i = pt L (x0 + i) by rw [hy]; exact sub_at L x0 x1 i f0 ft t1 i0 i1))
 have hyi : (y.length : Int) = x1 - x0 := by omega
 have HYL := Aside0.mk hyi
 have HR := Aside0.mk hr
 have HCUT := Aside0.mk hcut
 have HFT := Aside0.mk (And.intro f0 (And.intro ft (And.intro t1 (And.intro wd0 wd1))))
 have HN := Aside0.mk hn
 obtain ⟨gr, hgr⟩ : ∃ q, growP L x0 x1 = q := ⟨_, rfl⟩
 obtain ⟨yi, hyi_⟩ : ∃ q, yieldP L x0 x1 = q := ⟨_, rfl⟩
 obtain ⟨na, hna⟩ : ∃ q, natP L x0 x1 = q := ⟨_, rfl⟩
 have hfb := HFB.out
 have HDEF : Aside0 (fillP L x0 x1 x5 jy = glueW L x0 (fillD (x5 - na) gr yi jy) (fillC (x5 - na) gr yi) (fillS (x5 - na)) (x1 - x0).toNat) := ⟨by unfold fillP; rw [hgr, hyi_, hna]⟩
 rw [hgr, hyi_, hna] at hk1 hfb
 obtain ⟨⟨nb0, nb1⟩, ⟨gb0, gb1⟩, ⟨yb0, yb1⟩⟩ := hfb
 have H35 := Aside0.mk (fun W2 A1 c1 h h1 h2 => chanceryref3_OneLine.calls k1 A0 c0 L A1 c1 [x5] 0 x0 x1 0 x0 x1 na gr yi x5 W2 h hc h1 h2 hk1)
 clear hF hG hL hi0 hsz hc9 hA9 hy hyl hr hcut hyi f0 ft t1 hn hc hgr hyi_ hna hk1 HFB
 go_enter Try.func20, Try.ntmps20
 go_upto_region 2 with (first
  | ((with_reducible refine gate_dst (N := 4) rfl ?_); refine box_event ?hg (N := 4) ?hd (cs := #[.int .i64 x0, .int .i64 x1, .int .i64 x2, .int .i64 x3, .int .i64 x4, .int .i64 x5]) (t := 41) ?hr ?_; (case hd => rfl); (case hg => rfl); (case hr => first | (go_simp; done) | (go_simp; rfl)); intro g4 hg wb4 hbox hb; (have hbb := below_step HB.out hb); clear HB; (have HB := Aside0.mk hbb); (have H4 := Aside0.mk hbox); obtain ⟨hs0, hs1, hs2, hs3, hs4, hs5⟩ := cells6 H4.out; clear hg hbox hb hbb)
  | ((with_reducible refine gate_dst (N := 20) rfl ?_); refine Kd.R_lit kI _ 3 ?hg (N := 20) ?hd (xs := ([x5] : List Int)) (inner := [.int .i64 x5]) (ok := fun _ => True) (okp := fun _ => True) ?hr ?hp (fun _ hk => hk) trivial (Below.refl _ _) (Nat.le_refl _) (by simp) ?_; (case hd => rfl); (case hg => rfl); (case hr => first | (go_simp; done) | (go_simp; rfl)); (case hp => exact (Reps.one (show Kd.M kI _ _ _ x5 [.int .i64 x5] from rfl) (Reps.none _ _))); intro v20 w20 ho hb hg_ hnew_; clear hg_ hnew_; obtain ⟨A20, c20, rfl, hl20, -⟩ := Kd.R_reads ho; (have HL20 := Aside0.mk hl20); (have h4 := blk_below H4.out hb); (have hbb := below_step HB.out hb); clear HB H4 hs0 hs1 hs2 hs3 hs4 hs5; (have HB := Aside0.mk hbb); (have H4 := Aside0.mk h4); (have HO20 := Aside0.mk ho); obtain ⟨hs0, hs1, hs2, hs3, hs4, hs5⟩ := cells6 H4.out; clear hb hbb h4 ho hl20)
  | (go_at_call 35; refine (H35.out _ A20 c20 (Kd.C_below HL.out HB.out) (Kd.R_reads' HO20.out).2.2 HL20.out).mono ?_; rintro e w3 ⟨rfl, hb⟩; (have hbb := below_step HB.out hb); (have h4 := blk_below H4.out hb); clear HB H4 HO20 hs0 hs1 hs2 hs3 hs4 hs5; (have HB := Aside0.mk hbb); (have H4 := Aside0.mk h4); clear hb hbb h4)
  | ((with_reducible refine gate_dst (N := 7) rfl ?_); refine box_event ?hg (N := 7) ?hd (cs := #[.int .i64 0, .int .i64 0, .int .i64 0, .int .i64 0, .int .i64 0, .int .i64 0]) (t := 41) ?hr ?_; (case hd => rfl); (case hg => rfl); (case hr => first | (go_simp; done) | (go_simp; rfl)); intro g7 hg wb7 hbox hb; (have hge : w.heap.size ≤ g7 := by rw [hg]; exact HB.out.size); (have hne : g4 ≠ g7 := by rw [hg]; exact Nat.ne_of_lt (blk_lt H4.out)); (have h4 := blk_below H4.out hb); (have hbb3 := below_step HB.out hb); clear HB H4; (have HB := Aside0.mk hbb3); (have H4 := Aside0.mk h4); (have H7 := Aside0.mk hbox); (have G7 := Aside0.mk hge); (have N7 := Aside0.mk hne); clear hg hbox hb hbb3 hge hne h4)
  | ((with_reducible refine gate_store (t := 41) (p := 7) rfl ?_); refine agg_event (w0 := w) rfl rfl 41 (.tmp 7) (.tmp 26) rfl (g := g7) (e := 41) (.agg #[.int .i64 x0, .int .i64 x1, .int .i64 na, .int .i64 gr, .int .i64 yi, .int .i64 x5]) [.int .i64 x0, .int .i64 x1, .int .i64 na, .int .i64 gr, .int .i64 yi, .int .i64 x5] rfl rfl rfl (by kernel_rfl) H7.out rfl (by simp only [List.mem_cons, List.not_mem_nil, or_false, forall_eq_or_imp, forall_eq]; exact ⟨rfl, rfl, rfl, rfl, rfl, rfl⟩) HB.out G7.out ?_; intro ws7 hbox hb hgr; (have h4 := (hgr.block g4 (blk_lt H4.out) (fun e => N7.out (by injection e))).trans H4.out); clear HB H7 H4; (have HB := Aside0.mk hb); (have H7 := Aside0.mk hbox); (have H4 := Aside0.mk h4); obtain ⟨hs0, hs1, hs2, hs3, hs4, hs5⟩ := cells6 H7.out; clear hbox hb hgr h4))
 obtain ⟨f0, ft, t1, wd0, wd1⟩ := HFT.out
 obtain ⟨by_, hby⟩ : ∃ q, x5 - na = q := ⟨_, rfl⟩
 have yb : wrap64 (x5 - na) = by_ := (w64 (by omega) (by omega)).trans hby
 have yb' := (i64_w (x5 - na)).trans yb
 rw [hby] at HDEF
 have bb0 : -800999999 ≤ by_ ∧ by_ ≤ 100000 := by omega
 have yn : wrap64 (-by_) = -by_ := w64 (by omega) (by omega)
 have yn' := (i64_w (-by_)).trans yn
 clear hby nb0 nb1
 go_upto_if 36 with (fail)
 (try simp only [Act.put, List.setIfInBounds_toArray, List.set_cons_zero, List.set_cons_succ])
 obtain ⟨ls, hls⟩ : ∃ b, decide (by_ < 0) = b := ⟨_, rfl⟩
 rw [hls]
 go_cut [8, 10] (fun v8 v10 wc => v8 = .int .i64 (fillD by_ gr yi jy) ∧ v10 = .int .i64 (fillC by_ gr yi) ∧ Aside0 (Below w.heap.size w wc) ∧ Aside0 (wc.heap[g4]? = some (.cells #[.int .i64 x0, .int .i64 x1, .int .i64 x2, .int .i64 x3, .int .i64 x4, .int .i64 x5] 41 (0, 0))))
 case first =>
  cases ls with
  | true =>
   have q := of_decide_eq_true hls
   have hD : fillD by_ gr yi jy = mn (-by_) yi := if_pos q
   have hC : fillC by_ gr yi = yi := if_pos q
   have HC := Aside0.mk hC
   by_cases z : yi < -by_
   · have zd : decide (yi < -by_) = true := decide_eq_true z
     have HD : Aside0 (fillD by_ gr yi jy = yi) := ⟨by rw [hD]; exact if_pos z⟩
     clear hD hC hls
     go_wp2
     repeat (go_quiet (fail); try go_wp2)
     go_meet
     case rel => exact ⟨by rw [HD.out], by rw [HC.out], ⟨by repeat (first | (with_reducible first | exact HB.out | apply pw_below_drewN | apply below_drew1) | exact HB.out)⟩, ⟨by (with_reducible repeat (first | refine blk_drewN ?_ _ | refine blk_drew ?_)); exact H4.out⟩⟩
   · have zd : decide (yi < -by_) = false := decide_eq_false z
     have HD : Aside0 (fillD by_ gr yi jy = -by_) := ⟨by rw [hD]; exact if_neg z⟩
     clear hD hC hls
     go_wp2
     repeat (go_quiet (fail); try go_wp2)
     go_meet
     case rel => exact ⟨by rw [HD.out], by rw [HC.out], ⟨by repeat (first | (with_reducible first | exact HB.out | apply pw_below_drewN | apply below_drew1) | exact HB.out)⟩, ⟨by (with_reducible repeat (first | refine blk_drewN ?_ _ | refine blk_drew ?_)); exact H4.out⟩⟩
  | false =>
   have q := of_decide_eq_false hls
   have HC := Aside0.mk (show fillC by_ gr yi = gr from if_neg q)
   have hD : fillD by_ gr yi jy = if jy = false ∨ gr = 0 then 0 else by_ := if_neg q
   clear hls
   cases jy with
   | false =>
    rw [if_pos (Or.inl rfl)] at hD
    have HD := Aside0.mk hD
    clear hD
    go_wp2
    repeat (go_quiet (fail); try go_wp2)
    go_meet
    case rel => exact ⟨by rw [HD.out], by rw [HC.out], ⟨by repeat (first | (with_reducible first | exact HB.out | apply pw_below_drewN | apply below_drew1) | exact HB.out)⟩, ⟨by (with_reducible repeat (first | refine blk_drewN ?_ _ | refine blk_drew ?_)); exact H4.out⟩⟩
   | true =>
    by_cases z : gr = 0
    · rw [if_pos (Or.inr z)] at hD
      have HD := Aside0.mk hD
      have zb : (gr == 0) = true := beq_iff_eq.2 z
      clear hD z
      go_wp2
      repeat (go_quiet (fail); try go_wp2)
      go_meet
      case rel => exact ⟨by rw [HD.out], by rw [HC.out], ⟨by repeat (first | (with_reducible first | exact HB.out | apply pw_below_drewN | apply below_drew1) | exact HB.out)⟩, ⟨by (with_reducible repeat (first | refine blk_drewN ?_ _ | refine blk_drew ?_)); exact H4.out⟩⟩
    · rw [if_neg (by simp [z])] at hD
      have HD := Aside0.mk hD
      have zb : (gr == 0) = false := beq_eq_false_iff_ne.2 z
      clear hD z
      go_wp2
      repeat (go_quiet (fail); try go_wp2)
      go_meet
      case rel => exact ⟨by rw [HD.out], by rw [HC.out], ⟨by repeat (first | (with_reducible first | exact HB.out | apply pw_below_drewN | apply below_drew1) | exact HB.out)⟩, ⟨by (with_reducible repeat (first | refine blk_drewN ?_ _ | refine blk_drew ?_)); exact H4.out⟩⟩
 case rest =>
  clear HB H4 H7 hs0 hs1 hs2 hs3 hs4 hs5
  obtain ⟨rfl, rfl, HB, H4⟩ := hcut
  have hd : 0 ≤ fillD by_ gr yi jy ∧ fillD by_ gr yi jy ≤ 800000000 := by
   unfold fillD mn
   repeat' split
   all_goals omega
  have hc : 0 ≤ fillC by_ gr yi ∧ fillC by_ gr yi ≤ 800000000 := by
   unfold fillC
   split <;> omega
  have hdc : 0 < fillD by_ gr yi jy → 0 < fillC by_ gr yi := by
   unfold fillD fillC mn
   repeat' split
   all_goals first | omega | (intro h; rename_i k; omega) | (intro h; rename_i k; have := fun e => k (Or.inr e); omega)
  have hs : fillS by_ = if ls = true then -1 else 1 := by
   unfold fillS
   rw [← hls]
   by_cases q : by_ < 0 <;> simp [q]
  obtain ⟨d, hde⟩ : ∃ q, fillD by_ gr yi jy = q := ⟨_, rfl⟩
  obtain ⟨c, hce⟩ : ∃ q, fillC by_ gr yi = q := ⟨_, rfl⟩
  obtain ⟨s, hse⟩ : ∃ q, fillS by_ = q := ⟨_, rfl⟩
  rw [hde] at hd HDEF hdc ⊢
  rw [hce] at hc HDEF hdc ⊢
  rw [hse] at hs HDEF
  clear hde hce hse bb0 yb yb' yn yn' gb0 gb1 yb0 yb1 hls
  have HDB := Aside0.mk (And.intro hd (And.intro hc (And.intro hdc hs)))
  clear hd hc hs hdc
  obtain ⟨ht0, ht1, ht2, ht3, ht4, ht5⟩ := cells6 H4.out
  have hcut := HCUT.out
  go_wp2
  go_loopw [11, 12, 13, 58] (fun v11 v12 v13 v58 w' => ∃ i : Int, v58 = .int .i64 i ∧ v12 = .int .i64 (if 0 < d then upS s L x0 i else 0) ∧ v13 = .int .i64 (if 0 < d then Int.tdiv (d * upS s L x0 i) c else 0) ∧ 0 ≤ i ∧ i ≤ x1 - x0 ∧ Aside0 (kI.R 3 w' w.heap.size (fun _ => True) v11 (glueW L x0 d c s i.toNat)) ∧ Aside0 (Below w.heap.size w w') ∧ Aside0 (w'.heap[g4]? = some (.cells #[.int .i64 x0, .int .i64 x1, .int .i64 x2, .int .i64 x3, .int .i64 x4, .int .i64 x5] 41 (0, 0)))) (fun _ _ _ v58 _ => (x1 - x0).toNat - (intOf v58).toNat)
  case atStart => exact ⟨0, rfl, by rw [upS_zero, ite_self], by rw [upS_zero, Int.mul_zero, Int.zero_tdiv, ite_self], Int.le_refl _, by omega, ⟨Kd.R_nil _ _ _ _ _⟩, HB, H4⟩
  case round =>
   clear HB H4 ht0 ht1 ht2 ht3 ht4 ht5 hcut
   obtain ⟨i, rfl, rfl, rfl, i0, i1, HO, HB, H4⟩ := hrel
   obtain ⟨Ao, co, rfl⟩ := Kd.R_slice HO.out
   have hyl := HYL.out
   have hn := HN.out
   by_cases ci : i < x1 - x0
   · have hlt : i < (y.length : Int) := by omega
     have hlt' := eq_true hlt
     have hltd : decide (i < (y.length : Int)) = true := decide_eq_true hlt
     obtain ⟨ad, ea, hx0, hx1, hx2, hx3, hx4, hx5⟩ := at_T49 (Kd.C_below HR.out HB.out) i i0 hlt
     subst ea
     rw [HYA.out i i0 ci] at hx0 hx1 hx2 hx3 hx4 hx5
     have hpp := HF.out.2 (x0 + i) (by omega) (by omega)
     have hgg := HG.out (x0 + i) (by omega) (by omega)
     have hs0 := upS_bd L HF.out s x0 i f0 i0 (by omega)
     have hs1 := upS_bd L HF.out s x0 (i + 1) f0 (by omega) (by omega)
     have hss := upS_succ s L x0 i f0 i0
     have hgw : glueW L x0 d c s (i + 1).toNat = glueW L x0 d c s i.toNat ++ if (pt L (x0 + i)).f0 = 1 then [(pt L (x0 + i)).f1 + s * (Int.tdiv (d * upS s L x0 (i + 1)) c - Int.tdiv (d * upS s L x0 i) c)] else [] := by
      rw [show (i + 1).toNat = i.toNat + 1 by omega, glueW, show ((i.toNat : Nat) : Int) = i by omega]
     have hol := glueW_len L x0 d c s i.toNat
     have hol2 : (glueW L x0 d c s i.toNat).length ≤ 8001 := by omega
     have HOL := Aside0.mk hol2
     obtain ⟨out, hout⟩ : ∃ q, glueW L x0 d c s i.toNat = q := ⟨_, rfl⟩
     obtain ⟨S0, hS0⟩ : ∃ q, upS s L x0 i = q := ⟨_, rfl⟩
     obtain ⟨S1, hS1⟩ : ∃ q, upS s L x0 (i + 1) = q := ⟨_, rfl⟩
     rw [hout] at hgw HO HOL ⊢
     rw [hS0] at hs0 hss hgw ⊢
     rw [hS1] at hs1 hss hgw
     have HS1 := Aside0.mk hS1
     clear hout hS0 hS1 hol hol2
     obtain ⟨p, hp⟩ : ∃ p, pt L (x0 + i) = p := ⟨_, rfl⟩
     rw [hp] at hx0 hx1 hx2 hx3 hx4 hx5 hpp hgg hss hgw
     clear hp
     obtain ⟨p0, p1, p2, p3, p4, p5⟩ := p
     simp only at hx0 hx1 hx2 hx3 hx4 hx5 hpp hgg hss hgw
     have wi : wrap64 (i + 1) = i + 1 := w64 (by omega) (by omega)
     have wi' := (i64_w (i + 1)).trans wi
     have HMS : Aside0 ((x1 - x0).toNat - (i + 1).toNat < (x1 - x0).toNat - i.toNat) := ⟨by omega⟩
     have HI : Aside0 (0 ≤ i + 1 ∧ i + 1 ≤ x1 - x0) := ⟨by omega⟩
     have HP1 : Aside0 (0 ≤ p1 ∧ p1 ≤ 100000) := ⟨by omega⟩
     have HSB : Aside0 ((0 ≤ S0 ∧ S0 ≤ 800000000) ∧ (0 ≤ S1 ∧ S1 ≤ 800000000)) := ⟨hs0, hs1⟩
     clear hyl hn ci hpp hs0 hs1
     go_upto_if 64 with (first
      | ((with_reducible refine gate_dst (N := 15) rfl ?_); refine box_event ?hg (N := 15) ?hd (cs := #[.int .i64 0, .int .i64 0, .int .i64 0, .int .i64 0, .int .i64 0, .bool false]) (t := 49) ?hr ?_; (case hd => rfl); (case hg => rfl); (case hr => first | (go_simp; done) | (go_simp; rfl)); intro g20 hg wb20 hbox hb; (have hge : w.heap.size ≤ g20 := by rw [hg]; exact HB.out.size); (have hne : g4 ≠ g20 := by rw [hg]; exact Nat.ne_of_lt (blk_lt H4.out)); (have hoo := Kd.R_below (Kd.R_elderB HO.out g20 (Nat.le_of_eq hg.symm)) hb); (have h4 := blk_below H4.out hb); (have hbb3 := below_step HB.out hb); clear HB H4 HO; (have HB := Aside0.mk hbb3); (have HO := Aside0.mk hoo); (have H4 := Aside0.mk h4); (have H20 := Aside0.mk hbox); (have G20 := Aside0.mk hge); (have N20 := Aside0.mk hne); clear hg hbox hb hbb3 hge hne h4 hoo)
      | ((with_reducible refine gate_store (t := 49) (p := 15) rfl ?_); refine agg_event (w0 := w) rfl rfl 49 (.tmp 15) (.tmp 61) rfl (g := g20) (e := 49) (.agg #[.int .i64 p0, .int .i64 p1, .int .i64 p2, .int .i64 p3, .int .i64 p4, .bool p5]) [.int .i64 p0, .int .i64 p1, .int .i64 p2, .int .i64 p3, .int .i64 p4, .bool p5] rfl rfl rfl (by kernel_rfl) H20.out rfl (by simp only [List.mem_cons, List.not_mem_nil, or_false, forall_eq_or_imp, forall_eq]; exact ⟨rfl, rfl, rfl, rfl, rfl, rfl⟩) HB.out G20.out ?_; intro ws20 hbox hb hgr; (have h4 := (hgr.block g4 (blk_lt H4.out) (fun e => N20.out (by injection e))).trans H4.out); (have hoo := Kd.R_grown HO.out hgr (fun k hk e => hk.2 (by injection e))); clear HB H20 H4 HO; (have HB := Aside0.mk hb); (have HO := Aside0.mk hoo); (have H20 := Aside0.mk hbox); (have H4 := Aside0.mk h4); clear hx0 hx1 hx2 hx3 hx4 hx5; obtain ⟨hs0, hs1, hs2, hs3, hs4, hs5⟩ := cells6 H20.out; clear hbox hb hgr h4 hoo))
     by_cases c2 : p0 = 1
     · subst c2
       rw [if_pos rfl] at hgw
       have hq := HSB.out
       have hp1 := HP1.out
       by_cases cd : 0 < d
       · have cdd : decide (0 < d) = true := decide_eq_true cd
         have md0 := HDB.out
         have cc := md0.2.2.1 cd
         have cc1 : (c == 0) = false := beq_eq_false_iff_ne.2 (by omega)
         have cc2 : c ≠ 0 := by omega
         have cc3 : (c = 0) = False := eq_false cc2
         have m0 := mul_bd d S0 md0.1.1 md0.1.2 hq.1.1 hq.1.2
         have m1 := mul_bd d S1 md0.1.1 md0.1.2 hq.2.1 hq.2.2
         have t0 := tdiv_bd (d * S0) c m0.1 md0.2.1.1
         have t1 := tdiv_bd (d * S1) c m1.1 md0.2.1.1
         rw [if_pos cd, if_pos cd]
         obtain ⟨K0, hK0⟩ : ∃ q, Int.tdiv (d * S0) c = q := ⟨_, rfl⟩
         obtain ⟨M1, hM1⟩ : ∃ q, d * S1 = q := ⟨_, rfl⟩
         rw [hK0] at t0 hgw ⊢
         rw [hM1] at m1 t1 hgw
         obtain ⟨K1, hK1⟩ : ∃ q, Int.tdiv M1 c = q := ⟨_, rfl⟩
         rw [hK1] at t1 hgw
         obtain ⟨sh, hsh⟩ : ∃ q, K1 - K0 = q := ⟨_, rfl⟩
         rw [hsh] at hgw
         have y1 : wrap64 (d * S1) = M1 := (w64 (by omega) (by omega)).trans hM1
         have y1' := (i64_w (d * S1)).trans y1
         have y3 : wrap64 (Int.tdiv M1 c) = K1 := (w64 (by omega) (by omega)).trans hK1
         have y3' := (i64_w (Int.tdiv M1 c)).trans y3
         have y4 : wrap64 (K1 - K0) = sh := (w64 (by omega) (by omega)).trans hsh
         have y4' := (i64_w (K1 - K0)).trans y4
         have HIF : Aside0 ((if 0 < d then upS s L x0 (i + 1) else 0) = S1 ∧ (if 0 < d then Int.tdiv (d * upS s L x0 (i + 1)) c else 0) = K1) := ⟨by rw [if_pos cd, HS1.out], by rw [if_pos cd, HS1.out, hM1, hK1]⟩
         have hse := md0.2.2.2
         cases ls with
         | true =>
          rw [if_pos rfl] at hse
          have hf : fillH s (⟨1, p1, p2, p3, p4, p5⟩ : S49) = p3 := if_pos (by omega)
          rw [hf] at hss
          have y7 : wrap64 (S0 + p3) = S1 := (w64 (by omega) (by omega)).trans hss.symm
          have y7' := (i64_w (S0 + p3)).trans y7
          obtain ⟨wv, hwv⟩ : ∃ q, p1 - sh = q := ⟨_, rfl⟩
          have y6 : wrap64 (p1 - sh) = wv := (w64 (by omega) (by omega)).trans hwv
          have y6' := (i64_w (p1 - sh)).trans y6
          have HGW : Aside0 (glueW L x0 d c s (i + 1).toNat = out ++ [wv]) := ⟨by rw [hgw, hse, ← hwv]; congr 2; omega⟩
          clear hM1 hK0 hK1 hsh hwv hgw hss hgg hf hse md0 m0 m1 t0 t1 hp1 hq cd cc
          go_wp2_with (((with_reducible refine gate_builtin (b := .append) (xs := #[.tmp 101, .tmp 103]) rfl ?_); at_builtin; refine Kd.R_append kI (w0 := w) w.heap.size rfl (.tmp 101) (.tmp 103) 23 3 (.int .i64 0) 8 rfl Try.underlying23 info3 rfl (by decide) (by omega) _ out wv [.int .i64 wv] (fun _ => True) (fun _ => False) rfl (by first | (go_simp; done) | (go_simp; rfl)) ?aP (fun _ hk => hk.elim) ?aF ?aO ?aB ?aS ?aL ?_; (case aP => exact rfl); (case aB => exact by repeat (first | (with_reducible first | exact HB.out | apply pw_below_drewN | apply below_drew1) | exact HB.out)); (case aF => exact (fun _ _ => trivial)); (case aO => exact by (with_reducible repeat (first | apply Kd.R_drewN | apply Kd.R_drew)); exact Kd.R_mono HO.out (fun _ _ => trivial)); (case aS => exact (below_size (by repeat (first | (with_reducible first | exact HB.out | apply pw_below_drewN | apply below_drew1) | exact HB.out)))); (case aL => have := HOL.out; omega); intro v9 wa ho hb hgr hat; (have h4 := blk_grown (g := g4) (o := .cells #[.int .i64 x0, .int .i64 x1, .int .i64 x2, .int .i64 x3, .int .i64 x4, .int .i64 x5] 41 (0, 0)) (by (with_reducible repeat (first | refine blk_drewN ?_ _ | refine blk_drew ?_)); exact H4.out) hgr (Kd.R_ne HO.out H4.out (by decide))); obtain ⟨A5, c5, rfl⟩ := Kd.R_slice ho; clear HB HO H4 hgr hat hs0 hs1 hs2 hs3 hs4 hs5; (try clear hs1d hs2d hs3d); (have HB := Aside0.mk hb); (have HO := Aside0.mk ho); (have H4 := Aside0.mk h4); clear hb ho h4))
          repeat (go_quiet ((((with_reducible refine gate_builtin (b := .append) (xs := #[.tmp 101, .tmp 103]) rfl ?_); at_builtin; refine Kd.R_append kI (w0 := w) w.heap.size rfl (.tmp 101) (.tmp 103) 23 3 (.int .i64 0) 8 rfl Try.underlying23 info3 rfl (by decide) (by omega) _ out wv [.int .i64 wv] (fun _ => True) (fun _ => False) rfl (by first | (go_simp; done) | (go_simp; rfl)) ?aP (fun _ hk => hk.elim) ?aF ?aO ?aB ?aS ?aL ?_; (case aP => exact rfl); (case aB => exact by repeat (first | (with_reducible first | exact HB.out | apply pw_below_drewN | apply below_drew1) | exact HB.out)); (case aF => exact (fun _ _ => trivial)); (case aO => exact by (with_reducible repeat (first | apply Kd.R_drewN | apply Kd.R_drew)); exact Kd.R_mono HO.out (fun _ _ => trivial)); (case aS => exact (below_size (by repeat (first | (with_reducible first | exact HB.out | apply pw_below_drewN | apply below_drew1) | exact HB.out)))); (case aL => have := HOL.out; omega); intro v9 wa ho hb hgr hat; (have h4 := blk_grown (g := g4) (o := .cells #[.int .i64 x0, .int .i64 x1, .int .i64 x2, .int .i64 x3, .int .i64 x4, .int .i64 x5] 41 (0, 0)) (by (with_reducible repeat (first | refine blk_drewN ?_ _ | refine blk_drew ?_)); exact H4.out) hgr (Kd.R_ne HO.out H4.out (by decide))); obtain ⟨A5, c5, rfl⟩ := Kd.R_slice ho; clear HB HO H4 hgr hat hs0 hs1 hs2 hs3 hs4 hs5; (try clear hs1d hs2d hs3d); (have HB := Aside0.mk hb); (have HO := Aside0.mk ho); (have H4 := Aside0.mk h4); clear hb ho h4))); try go_wp2_with (((with_reducible refine gate_builtin (b := .append) (xs := #[.tmp 101, .tmp 103]) rfl ?_); at_builtin; refine Kd.R_append kI (w0 := w) w.heap.size rfl (.tmp 101) (.tmp 103) 23 3 (.int .i64 0) 8 rfl Try.underlying23 info3 rfl (by decide) (by omega) _ out wv [.int .i64 wv] (fun _ => True) (fun _ => False) rfl (by first | (go_simp; done) | (go_simp; rfl)) ?aP (fun _ hk => hk.elim) ?aF ?aO ?aB ?aS ?aL ?_; (case aP => exact rfl); (case aB => exact by repeat (first | (with_reducible first | exact HB.out | apply pw_below_drewN | apply below_drew1) | exact HB.out)); (case aF => exact (fun _ _ => trivial)); (case aO => exact by (with_reducible repeat (first | apply Kd.R_drewN | apply Kd.R_drew)); exact Kd.R_mono HO.out (fun _ _ => trivial)); (case aS => exact (below_size (by repeat (first | (with_reducible first | exact HB.out | apply pw_below_drewN | apply below_drew1) | exact HB.out)))); (case aL => have := HOL.out; omega); intro v9 wa ho hb hgr hat; (have h4 := blk_grown (g := g4) (o := .cells #[.int .i64 x0, .int .i64 x1, .int .i64 x2, .int .i64 x3, .int .i64 x4, .int .i64 x5] 41 (0, 0)) (by (with_reducible repeat (first | refine blk_drewN ?_ _ | refine blk_drew ?_)); exact H4.out) hgr (Kd.R_ne HO.out H4.out (by decide))); obtain ⟨A5, c5, rfl⟩ := Kd.R_slice ho; clear HB HO H4 hgr hat hs0 hs1 hs2 hs3 hs4 hs5; (try clear hs1d hs2d hs3d); (have HB := Aside0.mk hb); (have HO := Aside0.mk ho); (have H4 := Aside0.mk h4); clear hb ho h4)))
          go_roundw
          case measure => exact HMS.out
          case rel => exact ⟨i + 1, by first | rfl | rw [wi], by rw [HIF.out.1], by rw [HIF.out.2], HI.out.1, HI.out.2, ⟨by rw [HGW.out]; have h := HO.out; simp only [List.length_append, List.length_singleton] at h; (with_reducible repeat (first | apply Kd.R_drewN | apply Kd.R_drew)); exact Kd.R_mono h (fun _ _ => trivial)⟩, ⟨by repeat (first | (with_reducible first | exact HB.out | apply pw_below_drewN | apply below_drew1) | exact HB.out)⟩, ⟨by (with_reducible repeat (first | refine blk_drewN ?_ _ | refine blk_drew ?_)); exact H4.out⟩⟩
         | false =>
          rw [if_neg (by decide)] at hse
          have hf : fillH s (⟨1, p1, p2, p3, p4, p5⟩ : S49) = p2 := if_neg (by omega)
          rw [hf] at hss
          have y7 : wrap64 (S0 + p2) = S1 := (w64 (by omega) (by omega)).trans hss.symm
          have y7' := (i64_w (S0 + p2)).trans y7
          obtain ⟨wv, hwv⟩ : ∃ q, p1 + sh = q := ⟨_, rfl⟩
          have y6 : wrap64 (p1 + sh) = wv := (w64 (by omega) (by omega)).trans hwv
          have y6' := (i64_w (p1 + sh)).trans y6
          have HGW : Aside0 (glueW L x0 d c s (i + 1).toNat = out ++ [wv]) := ⟨by rw [hgw, hse, ← hwv]; congr 2; omega⟩
          clear hM1 hK0 hK1 hsh hwv hgw hss hgg hf hse md0 m0 m1 t0 t1 hp1 hq cd cc
          go_wp2_with (((with_reducible refine gate_builtin (b := .append) (xs := #[.tmp 101, .tmp 103]) rfl ?_); at_builtin; refine Kd.R_append kI (w0 := w) w.heap.size rfl (.tmp 101) (.tmp 103) 23 3 (.int .i64 0) 8 rfl Try.underlying23 info3 rfl (by decide) (by omega) _ out wv [.int .i64 wv] (fun _ => True) (fun _ => False) rfl (by first | (go_simp; done) | (go_simp; rfl)) ?aP (fun _ hk => hk.elim) ?aF ?aO ?aB ?aS ?aL ?_; (case aP => exact rfl); (case aB => exact by repeat (first | (with_reducible first | exact HB.out | apply pw_below_drewN | apply below_drew1) | exact HB.out)); (case aF => exact (fun _ _ => trivial)); (case aO => exact by (with_reducible repeat (first | apply Kd.R_drewN | apply Kd.R_drew)); exact Kd.R_mono HO.out (fun _ _ => trivial)); (case aS => exact (below_size (by repeat (first | (with_reducible first | exact HB.out | apply pw_below_drewN | apply below_drew1) | exact HB.out)))); (case aL => have := HOL.out; omega); intro v9 wa ho hb hgr hat; (have h4 := blk_grown (g := g4) (o := .cells #[.int .i64 x0, .int .i64 x1, .int .i64 x2, .int .i64 x3, .int .i64 x4, .int .i64 x5] 41 (0, 0)) (by (with_reducible repeat (first | refine blk_drewN ?_ _ | refine blk_drew ?_)); exact H4.out) hgr (Kd.R_ne HO.out H4.out (by decide))); obtain ⟨A5, c5, rfl⟩ := Kd.R_slice ho; clear HB HO H4 hgr hat hs0 hs1 hs2 hs3 hs4 hs5; (try clear hs1d hs2d hs3d); (have HB := Aside0.mk hb); (have HO := Aside0.mk ho); (have H4 := Aside0.mk h4); clear hb ho h4))
          repeat (go_quiet ((((with_reducible refine gate_builtin (b := .append) (xs := #[.tmp 101, .tmp 103]) rfl ?_); at_builtin; refine Kd.R_append kI (w0 := w) w.heap.size rfl (.tmp 101) (.tmp 103) 23 3 (.int .i64 0) 8 rfl Try.underlying23 info3 rfl (by decide) (by omega) _ out wv [.int .i64 wv] (fun _ => True) (fun _ => False) rfl (by first | (go_simp; done) | (go_simp; rfl)) ?aP (fun _ hk => hk.elim) ?aF ?aO ?aB ?aS ?aL ?_; (case aP => exact rfl); (case aB => exact by repeat (first | (with_reducible first | exact HB.out | apply pw_below_drewN | apply below_drew1) | exact HB.out)); (case aF => exact (fun _ _ => trivial)); (case aO => exact by (with_reducible repeat (first | apply Kd.R_drewN | apply Kd.R_drew)); exact Kd.R_mono HO.out (fun _ _ => trivial)); (case aS => exact (below_size (by repeat (first | (with_reducible first | exact HB.out | apply pw_below_drewN | apply below_drew1) | exact HB.out)))); (case aL => have := HOL.out; omega); intro v9 wa ho hb hgr hat; (have h4 := blk_grown (g := g4) (o := .cells #[.int .i64 x0, .int .i64 x1, .int .i64 x2, .int .i64 x3, .int .i64 x4, .int .i64 x5] 41 (0, 0)) (by (with_reducible repeat (first | refine blk_drewN ?_ _ | refine blk_drew ?_)); exact H4.out) hgr (Kd.R_ne HO.out H4.out (by decide))); obtain ⟨A5, c5, rfl⟩ := Kd.R_slice ho; clear HB HO H4 hgr hat hs0 hs1 hs2 hs3 hs4 hs5; (try clear hs1d hs2d hs3d); (have HB := Aside0.mk hb); (have HO := Aside0.mk ho); (have H4 := Aside0.mk h4); clear hb ho h4))); try go_wp2_with (((with_reducible refine gate_builtin (b := .append) (xs := #[.tmp 101, .tmp 103]) rfl ?_); at_builtin; refine Kd.R_append kI (w0 := w) w.heap.size rfl (.tmp 101) (.tmp 103) 23 3 (.int .i64 0) 8 rfl Try.underlying23 info3 rfl (by decide) (by omega) _ out wv [.int .i64 wv] (fun _ => True) (fun _ => False) rfl (by first | (go_simp; done) | (go_simp; rfl)) ?aP (fun _ hk => hk.elim) ?aF ?aO ?aB ?aS ?aL ?_; (case aP => exact rfl); (case aB => exact by repeat (first | (with_reducible first | exact HB.out | apply pw_below_drewN | apply below_drew1) | exact HB.out)); (case aF => exact (fun _ _ => trivial)); (case aO => exact by (with_reducible repeat (first | apply Kd.R_drewN | apply Kd.R_drew)); exact Kd.R_mono HO.out (fun _ _ => trivial)); (case aS => exact (below_size (by repeat (first | (with_reducible first | exact HB.out | apply pw_below_drewN | apply below_drew1) | exact HB.out)))); (case aL => have := HOL.out; omega); intro v9 wa ho hb hgr hat; (have h4 := blk_grown (g := g4) (o := .cells #[.int .i64 x0, .int .i64 x1, .int .i64 x2, .int .i64 x3, .int .i64 x4, .int .i64 x5] 41 (0, 0)) (by (with_reducible repeat (first | refine blk_drewN ?_ _ | refine blk_drew ?_)); exact H4.out) hgr (Kd.R_ne HO.out H4.out (by decide))); obtain ⟨A5, c5, rfl⟩ := Kd.R_slice ho; clear HB HO H4 hgr hat hs0 hs1 hs2 hs3 hs4 hs5; (try clear hs1d hs2d hs3d); (have HB := Aside0.mk hb); (have HO := Aside0.mk ho); (have H4 := Aside0.mk h4); clear hb ho h4)))
          go_roundw
          case measure => exact HMS.out
          case rel => exact ⟨i + 1, by first | rfl | rw [wi], by rw [HIF.out.1], by rw [HIF.out.2], HI.out.1, HI.out.2, ⟨by rw [HGW.out]; have h := HO.out; simp only [List.length_append, List.length_singleton] at h; (with_reducible repeat (first | apply Kd.R_drewN | apply Kd.R_drew)); exact Kd.R_mono h (fun _ _ => trivial)⟩, ⟨by repeat (first | (with_reducible first | exact HB.out | apply pw_below_drewN | apply below_drew1) | exact HB.out)⟩, ⟨by (with_reducible repeat (first | refine blk_drewN ?_ _ | refine blk_drew ?_)); exact H4.out⟩⟩
       · have cdd : decide (0 < d) = false := decide_eq_false cd
         have md0 := HDB.out
         have d0_ : d = 0 := by omega
         replace hgw := hgw.trans (show _ = out ++ [p1] by rw [d0_, Int.zero_mul, Int.zero_mul, Int.sub_self, Int.mul_zero, Int.add_zero])
         obtain ⟨wv, hwv⟩ : ∃ q, p1 = q := ⟨_, rfl⟩
         rw [hwv] at hgw
         have HWV := Aside0.mk hwv
         rw [if_neg cd, if_neg cd]
         have HGW := Aside0.mk hgw
         have HIF : Aside0 ((if 0 < d then upS s L x0 (i + 1) else 0) = 0 ∧ (if 0 < d then Int.tdiv (d * upS s L x0 (i + 1)) c else 0) = 0) := ⟨if_neg cd, if_neg cd⟩
         subst hwv
         clear hgw hss hgg md0 hp1 hq cd d0_ HWV
         go_wp2_with (((with_reducible refine gate_builtin (b := .append) (xs := #[.tmp 101, .tmp 103]) rfl ?_); at_builtin; refine Kd.R_append kI (w0 := w) w.heap.size rfl (.tmp 101) (.tmp 103) 23 3 (.int .i64 0) 8 rfl Try.underlying23 info3 rfl (by decide) (by omega) _ out p1 [.int .i64 p1] (fun _ => True) (fun _ => False) rfl (by first | (go_simp; done) | (go_simp; rfl)) ?aP (fun _ hk => hk.elim) ?aF ?aO ?aB ?aS ?aL ?_; (case aP => exact rfl); (case aB => exact by repeat (first | (with_reducible first | exact HB.out | apply pw_below_drewN | apply below_drew1) | exact HB.out)); (case aF => exact (fun _ _ => trivial)); (case aO => exact by (with_reducible repeat (first | apply Kd.R_drewN | apply Kd.R_drew)); exact Kd.R_mono HO.out (fun _ _ => trivial)); (case aS => exact (below_size (by repeat (first | (with_reducible first | exact HB.out | apply pw_below_drewN | apply below_drew1) | exact HB.out)))); (case aL => have := HOL.out; omega); intro v9 wa ho hb hgr hat; (have h4 := blk_grown (g := g4) (o := .cells #[.int .i64 x0, .int .i64 x1, .int .i64 x2, .int .i64 x3, .int .i64 x4, .int .i64 x5] 41 (0, 0)) (by (with_reducible repeat (first | refine blk_drewN ?_ _ | refine blk_drew ?_)); exact H4.out) hgr (Kd.R_ne HO.out H4.out (by decide))); obtain ⟨A5, c5, rfl⟩ := Kd.R_slice ho; clear HB HO H4 hgr hat hs0 hs1 hs2 hs3 hs4 hs5; (try clear hs1d hs2d hs3d); (have HB := Aside0.mk hb); (have HO := Aside0.mk ho); (have H4 := Aside0.mk h4); clear hb ho h4))
         repeat (go_quiet ((((with_reducible refine gate_builtin (b := .append) (xs := #[.tmp 101, .tmp 103]) rfl ?_); at_builtin; refine Kd.R_append kI (w0 := w) w.heap.size rfl (.tmp 101) (.tmp 103) 23 3 (.int .i64 0) 8 rfl Try.underlying23 info3 rfl (by decide) (by omega) _ out p1 [.int .i64 p1] (fun _ => True) (fun _ => False) rfl (by first | (go_simp; done) | (go_simp; rfl)) ?aP (fun _ hk => hk.elim) ?aF ?aO ?aB ?aS ?aL ?_; (case aP => exact rfl); (case aB => exact by repeat (first | (with_reducible first | exact HB.out | apply pw_below_drewN | apply below_drew1) | exact HB.out)); (case aF => exact (fun _ _ => trivial)); (case aO => exact by (with_reducible repeat (first | apply Kd.R_drewN | apply Kd.R_drew)); exact Kd.R_mono HO.out (fun _ _ => trivial)); (case aS => exact (below_size (by repeat (first | (with_reducible first | exact HB.out | apply pw_below_drewN | apply below_drew1) | exact HB.out)))); (case aL => have := HOL.out; omega); intro v9 wa ho hb hgr hat; (have h4 := blk_grown (g := g4) (o := .cells #[.int .i64 x0, .int .i64 x1, .int .i64 x2, .int .i64 x3, .int .i64 x4, .int .i64 x5] 41 (0, 0)) (by (with_reducible repeat (first | refine blk_drewN ?_ _ | refine blk_drew ?_)); exact H4.out) hgr (Kd.R_ne HO.out H4.out (by decide))); obtain ⟨A5, c5, rfl⟩ := Kd.R_slice ho; clear HB HO H4 hgr hat hs0 hs1 hs2 hs3 hs4 hs5; (try clear hs1d hs2d hs3d); (have HB := Aside0.mk hb); (have HO := Aside0.mk ho); (have H4 := Aside0.mk h4); clear hb ho h4))); try go_wp2_with (((with_reducible refine gate_builtin (b := .append) (xs := #[.tmp 101, .tmp 103]) rfl ?_); at_builtin; refine Kd.R_append kI (w0 := w) w.heap.size rfl (.tmp 101) (.tmp 103) 23 3 (.int .i64 0) 8 rfl Try.underlying23 info3 rfl (by decide) (by omega) _ out p1 [.int .i64 p1] (fun _ => True) (fun _ => False) rfl (by first | (go_simp; done) | (go_simp; rfl)) ?aP (fun _ hk => hk.elim) ?aF ?aO ?aB ?aS ?aL ?_; (case aP => exact rfl); (case aB => exact by repeat (first | (with_reducible first | exact HB.out | apply pw_below_drewN | apply below_drew1) | exact HB.out)); (case aF => exact (fun _ _ => trivial)); (case aO => exact by (with_reducible repeat (first | apply Kd.R_drewN | apply Kd.R_drew)); exact Kd.R_mono HO.out (fun _ _ => trivial)); (case aS => exact (below_size (by repeat (first | (with_reducible first | exact HB.out | apply pw_below_drewN | apply below_drew1) | exact HB.out)))); (case aL => have := HOL.out; omega); intro v9 wa ho hb hgr hat; (have h4 := blk_grown (g := g4) (o := .cells #[.int .i64 x0, .int .i64 x1, .int .i64 x2, .int .i64 x3, .int .i64 x4, .int .i64 x5] 41 (0, 0)) (by (with_reducible repeat (first | refine blk_drewN ?_ _ | refine blk_drew ?_)); exact H4.out) hgr (Kd.R_ne HO.out H4.out (by decide))); obtain ⟨A5, c5, rfl⟩ := Kd.R_slice ho; clear HB HO H4 hgr hat hs0 hs1 hs2 hs3 hs4 hs5; (try clear hs1d hs2d hs3d); (have HB := Aside0.mk hb); (have HO := Aside0.mk ho); (have H4 := Aside0.mk h4); clear hb ho h4)))
         go_roundw
         case measure => exact HMS.out
         case rel => exact ⟨i + 1, by first | rfl | rw [wi], by rw [HIF.out.1], by rw [HIF.out.2], HI.out.1, HI.out.2, ⟨by rw [HGW.out]; have h := HO.out; simp only [List.length_append, List.length_singleton] at h; (with_reducible repeat (first | apply Kd.R_drewN | apply Kd.R_drew)); exact Kd.R_mono h (fun _ _ => trivial)⟩, ⟨by repeat (first | (with_reducible first | exact HB.out | apply pw_below_drewN | apply below_drew1) | exact HB.out)⟩, ⟨by (with_reducible repeat (first | refine blk_drewN ?_ _ | refine blk_drew ?_)); exact H4.out⟩⟩
     · have c2b : (p0 != 1) = true := bne_iff_ne.2 c2
       obtain ⟨rfl, rfl⟩ := hgg c2
       have hf : fillH s (⟨p0, p1, 0, 0, p4, p5⟩ : S49) = 0 := by unfold fillH; split <;> rfl
       rw [hf, Int.add_zero] at hss
       rw [if_neg c2, List.append_nil] at hgw
       have HSS := Aside0.mk hss
       have HGW := Aside0.mk hgw
       clear hss hgw hf hgg
       go_wp2
       repeat (go_quiet (fail); try go_wp2)
       go_roundw
       case measure => exact HMS.out
       case rel => exact ⟨i + 1, by first | rfl | rw [wi], by rw [HS1.out, HSS.out], by rw [HS1.out, HSS.out], HI.out.1, HI.out.2, ⟨by rw [HGW.out]; (with_reducible repeat (first | apply Kd.R_drewN | apply Kd.R_drew)); exact Kd.R_mono HO.out (fun _ _ => trivial)⟩, ⟨by repeat (first | (with_reducible first | exact HB.out | apply pw_below_drewN | apply below_drew1) | exact HB.out)⟩, ⟨by (with_reducible repeat (first | refine blk_drewN ?_ _ | refine blk_drew ?_)); exact H4.out⟩⟩
   · have hie : i = x1 - x0 := by omega
     subst hie
     have hltd : decide (x1 - x0 < (y.length : Int)) = false := decide_eq_false (by omega)
     clear hyl ci
     generalize (if 0 < d then upS s L x0 (x1 - x0) else 0) = vv
     generalize (if 0 < d then Int.tdiv (d * upS s L x0 (x1 - x0)) c else 0) = vu
     go_wp2
     (try simp only [Act.put, List.setIfInBounds_toArray, List.set_cons_zero, List.set_cons_succ])
     go_ret
     exact ⟨_, rfl, by rw [HDEF.out]; exact HO.out, HB.out⟩
end
end Go.Proofs.Ythapclmfkjldaaa.HandLN
