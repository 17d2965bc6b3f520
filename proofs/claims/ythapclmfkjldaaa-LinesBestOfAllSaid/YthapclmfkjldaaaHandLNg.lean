import Derived.Test.YthapclmfkjldaaaPureLNc
namespace Go.Proofs.Ythapclmfkjldaaa.HandLN
set_option linter.unusedSectionVars false
set_option linter.unusedVariables false
set_option linter.unusedSimpArgs false
open Go.Proofs.Ythapclmfkjldaaa.Lib (w64)
open Go.RowKit Go.Proofs.YthapclmfkjldaaaW.PrintWords Go.Proofs.YthapclmfkjldaaaW.PrintLast Go.Proofs.YthapclmfkjldaaaW.PrintMore Go.Proofs.Ythapclmfkjldaaa.QLN Go.Proofs.Ythapclmfkjldaaa.LinesP
attribute [local go_sem] max2_int min2_int max_two min_two
set_option maxHeartbeats 8000000 in
set_option maxRecDepth 100000 in
theorem lineCost_ok (A0 : Option Addr) (c0 : Nat) (L : List S49) (A1 : Option Addr) (c1 n1 : Nat) (D x0 x1 x2 x3 x4 x5 : Int) (beh : Bool) (w : World) (hL : Kd.C k49 w A0 L.length L) (hc : L.length ≤ c0) (hF : Fine L) (hD0 : 0 ≤ D ∧ D ≤ 1000000)
    (t0 : 0 ≤ x1) (t1 : x1 ≤ L.length) (b2 : 0 ≤ x2 ∧ x2 ≤ 900000000) (b3 : 0 ≤ x3 ∧ x3 ≤ 800000000) (b4 : 0 ≤ x4 ∧ x4 ≤ 800000000) (b5 : 1 ≤ x5 ∧ x5 ≤ 100000) :
    Calls Try.prog 33 #[.slice A0 L.length c0, .agg #[.slice A1 n1 c1, .int .i64 D], .agg #[.int .i64 x0, .int .i64 x1, .int .i64 x2, .int .i64 x3, .int .i64 x4, .int .i64 x5], .bool beh] w fun e w' => e = .returned (.int .i64 (costR L D ⟨x0, x1, x2, x3, x4, x5⟩ beh)) ∧ Below w.heap.size w w' := by
 have hu49 := Try.underlying49
 have hu41 := Try.underlying41
 have hu25 := Try.underlying25
 have hn := hF.1
 have hp := hF.2
 have hN := n1P_bd L (begT L (-1)) ⟨x0, x1, x2, x3, x4, x5⟩ b2 b3.1 b4 b5
 obtain ⟨kf, hkf⟩ := (follow_pure L hn x1 t0 t1).rounds
 have hNE : n1P L (begT L (-1)) ⟨x0, x1, x2, x3, x4, x5⟩ = if x5 - x2 < -x4 then 1099511627776 + 1000 * (-(x5 - x2) - x4) else if x5 - x2 < 0 then (10 + badP (-(x5 - x2)) x4) * (10 + badP (-(x5 - x2)) x4) else if mustP L x1 = true ∨ afterP L (begT L (-1)) x1 = L.length then 100 else (10 + badP (x5 - x2) x3) * (10 + badP (x5 - x2) x3) := rfl
 have hCE : costP L (begT L (-1)) ⟨x0, x1, x2, x3, x4, x5⟩ = if x1 < L.length ∧ (pt L x1).f0 = 2 ∧ (pt L x1).f4 ≠ -10000 then (if (pt L x1).f4 < 0 then n1P L (begT L (-1)) ⟨x0, x1, x2, x3, x4, x5⟩ - (pt L x1).f4 * (pt L x1).f4 else n1P L (begT L (-1)) ⟨x0, x1, x2, x3, x4, x5⟩ + (pt L x1).f4 * (pt L x1).f4) else n1P L (begT L (-1)) ⟨x0, x1, x2, x3, x4, x5⟩ := rfl
 obtain ⟨N, hNN⟩ : ∃ N, n1P L (begT L (-1)) ⟨x0, x1, x2, x3, x4, x5⟩ = N := ⟨_, rfl⟩
 rw [hNN] at hN hNE hCE
 clear hNN
 obtain ⟨af, haf⟩ : ∃ q, afterP L (begT L (-1)) x1 = q := ⟨_, rfl⟩
 rw [haf] at hNE hkf
 have HKF := Aside0.mk hkf
 have HNE := Aside0.mk hNE
 have HCE := Aside0.mk hCE
 have HPP := Aside0.mk hp
 have HL := Aside0.mk hL
 have HC := Aside0.mk hc
 have HB := Aside0.mk (Below.refl w.heap.size w)
 have k1 : wrap64 (x5 - x2) = x5 - x2 := w64 (by omega) (by omega)
 have k2 : wrap64 (-x4) = -x4 := w64 (by omega) (by omega)
 have k3 : wrap64 (-(x5 - x2)) = -(x5 - x2) := w64 (by omega) (by omega)
 have y3 := (i64_w (-(x5 - x2))).trans k3
 clear hL hNE hCE hkf haf hp hF hc
 go_enter Try.func33, Try.ntmps33
 go_upto_block 0 with (first
  | ((with_reducible refine gate_dst (N := 5) rfl ?_); refine box_event ?hg (N := 5) ?hd (cs := #[.slice A1 n1 c1, .int .i64 D]) (t := 25) ?hr ?_; (case hd => rfl); (case hg => rfl); (case hr => first | (go_simp; done) | (go_simp; rfl)); intro g5 hg w4 hbox hb; (have hbb := below_step HB.out hb); clear HB; (have HB := Aside0.mk hbb); (have H5 := Aside0.mk hbox); clear hg hbox hb hbb)
  | ((with_reducible refine gate_dst (N := 6) rfl ?_); refine box_event ?hg (N := 6) ?hd (cs := #[.int .i64 x0, .int .i64 x1, .int .i64 x2, .int .i64 x3, .int .i64 x4, .int .i64 x5]) (t := 41) ?hr ?_; (case hd => rfl); (case hg => rfl); (case hr => first | (go_simp; done) | (go_simp; rfl)); intro g6 hg w5 hbox hb; (have hbb := below_step HB.out hb); (have h5 := blk_below H5.out hb); clear HB H5; (have HB := Aside0.mk hbb); (have H5 := Aside0.mk h5); (have H6 := Aside0.mk hbox); (have hs1 : w5.cell? ⟨g6, 1, none⟩ = some (.int .i64 x1) := (blk_cell hbox 1).trans rfl); (have hs2 : w5.cell? ⟨g6, 2, none⟩ = some (.int .i64 x2) := (blk_cell hbox 2).trans rfl); (have hs3 : w5.cell? ⟨g6, 3, none⟩ = some (.int .i64 x3) := (blk_cell hbox 3).trans rfl); (have hs4 : w5.cell? ⟨g6, 4, none⟩ = some (.int .i64 x4) := (blk_cell hbox 4).trans rfl); (have hs5 : w5.cell? ⟨g6, 5, none⟩ = some (.int .i64 x5) := (blk_cell hbox 5).trans rfl); clear hg hbox hb hbb h5))
 go_cut [10] (fun v10 wc => v10 = .int .i64 N ∧ Aside0 (Below w.heap.size w wc) ∧ Aside0 (wc.heap[g5]? = some (.cells #[.slice A1 n1 c1, .int .i64 D] 25 (0, 0))) ∧ Aside0 (wc.heap[g6]? = some (.cells #[.int .i64 x0, .int .i64 x1, .int .i64 x2, .int .i64 x3, .int .i64 x4, .int .i64 x5] 41 (0, 0))))
 case first =>
  by_cases e1 : x5 - x2 < -x4
  · have e1b : decide (-(x5 - x2) > x4) = true := decide_eq_true (by omega)
    have EN : Aside0 (1099511627776 + 1000 * (-(x5 - x2) - x4) = N) := ⟨by rw [HNE.out, if_pos e1]⟩
    have k4 : wrap64 (-(x5 - x2) - x4) = -(x5 - x2) - x4 := w64 (by omega) (by omega)
    have k5 : wrap64 (1000 * (-(x5 - x2) - x4)) = 1000 * (-(x5 - x2) - x4) := w64 (by omega) (by omega)
    have k6 : wrap64 (1099511627776 + 1000 * (-(x5 - x2) - x4)) = 1099511627776 + 1000 * (-(x5 - x2) - x4) := w64 (by omega) (by omega)
    clear e1
    go_wp2
    go_meet
    case rel => exact ⟨by rw [EN.out], HB, H5, H6⟩
  · have e1b : decide (-(x5 - x2) > x4) = false := decide_eq_false (by omega)
    by_cases e2 : x5 - x2 < 0
    · have e2b : decide (x5 - x2 < 0) = true := decide_eq_true e2
      obtain ⟨b, hb⟩ : ∃ b, badP (-(x5 - x2)) x4 = b := ⟨_, rfl⟩
      have bb := badP_bd (-(x5 - x2)) x4 (by omega) b4.1
      rw [hb] at bb
      have EN : Aside0 ((10 + b) * (10 + b) = N) := ⟨by rw [HNE.out, if_neg e1, if_pos e2, hb]⟩
      have k4 : wrap64 (10 + b) = 10 + b := w64 (by omega) (by omega)
      have sq : 0 ≤ (10 + b) * (10 + b) ∧ (10 + b) * (10 + b) ≤ 10010 * 10010 := ⟨Int.mul_nonneg (by omega) (by omega), Int.mul_le_mul (by omega) (by omega) (by omega) (by omega)⟩
      have k5 : wrap64 ((10 + b) * (10 + b)) = (10 + b) * (10 + b) := w64 (by omega) (by omega)
      have y4 := (i64_w (10 + b)).trans k4
      have y5 := (i64_w ((10 + b) * (10 + b))).trans k5
      have HBb := Aside0.mk hb
      have hK : ∀ (W2 : World) (m : Nat), Calls Try.prog 43 #[.int .i64 (-(x5 - x2)), .int .i64 x4] (W2.drewN m) fun e w' => e = .returned (.int .i64 b) ∧ ∃ q, w' = (W2.drewN m).drewN q := fun W2 m => (chanceryref3_bad.calls (-(x5 - x2)) x4 b _ (by rw [← HBb.out]; exact bad_pure _ _ (by omega) (by omega) (by omega))).mono fun e w' ⟨h1, h2⟩ => ⟨h1, h2.out⟩
      have HK := Aside0.mk hK
      clear e1 hb sq hK
      go_upto_region 7 with (fail)
      go_quiet (first | (go_at_call 43; exact Calls.quiet_of (HK.out _ _)))
      go_wp2
      go_meet
      case rel => exact ⟨by first | rw [EN.out] | (rw [k5, EN.out]) | (simp only [i64_w]; rw [k5, EN.out]), ⟨pw_below_drewN HB.out _⟩, ⟨H5.out⟩, ⟨H6.out⟩⟩
    · have e2b : decide (x5 - x2 < 0) = false := decide_eq_false e2
      obtain ⟨mu, hmu⟩ : ∃ m, mustP L x1 = m := ⟨_, rfl⟩
      have HMU := Aside0.mk hmu
      cases mu with
      | true =>
       have EN : Aside0 (100 = N) := ⟨by rw [HNE.out, if_neg e1, if_neg e2, if_pos (.inl hmu)]⟩
       clear e1 e2 hmu
       go_wp2_with (go_at_call 36; refine (chanceryref3_stop.calls A0 c0 L x1 true _ (Kd.C_below HL.out HB.out) HC.out (by rw [← HMU.out]; exact stop_pure L x1 t0 t1)).mono ?_; rintro e w6 ⟨rfl, ⟨nd, rfl⟩⟩; (have hb9 := pw_below_drewN (Below.refl w5.heap.size w5) nd); (have hbb := below_step HB.out hb9); (have h5 := blk_below H5.out hb9); (have h6 := blk_below H6.out hb9); generalize w5.drewN nd = w6 at hbb h5 h6 ⊢; clear HB H5 H6 hb9; (have HB := Aside0.mk hbb); (have H5 := Aside0.mk h5); (have H6 := Aside0.mk h6); (have hs1 : w6.cell? ⟨g6, 1, none⟩ = some (.int .i64 x1) := (blk_cell h6 1).trans rfl); (have hs3 : w6.cell? ⟨g6, 3, none⟩ = some (.int .i64 x3) := (blk_cell h6 3).trans rfl); clear hbb h5 h6)
       go_meet
       case rel => exact ⟨by rw [← EN.out], HB, H5, H6⟩
      | false =>
       by_cases e3 : af = L.length
       · have EN : Aside0 (100 = N) := ⟨by rw [HNE.out, if_neg e1, if_neg e2, if_pos (.inr e3)]⟩
         have e3b : (af == (L.length : Int)) = true := beq_iff_eq.2 e3
         clear e1 e2 hmu e3
         go_wp2_with (first | (go_at_call 36; refine (chanceryref3_stop.calls A0 c0 L x1 false _ (Kd.C_below HL.out HB.out) HC.out (by rw [← HMU.out]; exact stop_pure L x1 t0 t1)).mono ?_; rintro e w6 ⟨rfl, ⟨nd, rfl⟩⟩; (have hb9 := pw_below_drewN (Below.refl w5.heap.size w5) nd); (have hbb := below_step HB.out hb9); (have h5 := blk_below H5.out hb9); (have h6 := blk_below H6.out hb9); generalize w5.drewN nd = w6 at hbb h5 h6 ⊢; clear HB H5 H6 hb9; (have HB := Aside0.mk hbb); (have H5 := Aside0.mk h5); (have H6 := Aside0.mk h6); (have hs1 : w6.cell? ⟨g6, 1, none⟩ = some (.int .i64 x1) := (blk_cell h6 1).trans rfl); (have hs3 : w6.cell? ⟨g6, 3, none⟩ = some (.int .i64 x3) := (blk_cell h6 3).trans rfl); clear hbb h5 h6) | (go_at_call 34; refine (chanceryref3_follow.calls kf A0 c0 L x1 af _ (Kd.C_below HL.out HB.out) HC.out HKF.out).mono ?_; rintro e w7 ⟨rfl, ⟨nd, rfl⟩⟩; (have hb9 := pw_below_drewN (Below.refl w6.heap.size w6) nd); (have hbb := below_step HB.out hb9); (have h5 := blk_below H5.out hb9); (have h6 := blk_below H6.out hb9); generalize w6.drewN nd = w7 at hbb h5 h6 ⊢; clear HB H5 H6 hb9; (have HB := Aside0.mk hbb); (have H5 := Aside0.mk h5); (have H6 := Aside0.mk h6); (have hs3 : w7.cell? ⟨g6, 3, none⟩ = some (.int .i64 x3) := (blk_cell h6 3).trans rfl); clear hbb h5 h6))
         go_meet
         case rel => exact ⟨by rw [← EN.out], HB, H5, H6⟩
       · obtain ⟨b, hb⟩ : ∃ b, badP (x5 - x2) x3 = b := ⟨_, rfl⟩
         have bb := badP_bd (x5 - x2) x3 (by omega) b3.1
         rw [hb] at bb
         have EN : Aside0 ((10 + b) * (10 + b) = N) := ⟨by rw [HNE.out, if_neg e1, if_neg e2, if_neg (by rw [hmu]; simp [e3]), hb]⟩
         have e3b : (af == (L.length : Int)) = false := beq_eq_false_iff_ne.2 e3
         have k4 : wrap64 (10 + b) = 10 + b := w64 (by omega) (by omega)
         have sq : 0 ≤ (10 + b) * (10 + b) ∧ (10 + b) * (10 + b) ≤ 10010 * 10010 := ⟨Int.mul_nonneg (by omega) (by omega), Int.mul_le_mul (by omega) (by omega) (by omega) (by omega)⟩
         have k5 : wrap64 ((10 + b) * (10 + b)) = (10 + b) * (10 + b) := w64 (by omega) (by omega)
         have y4 := (i64_w (10 + b)).trans k4
         have y5 := (i64_w ((10 + b) * (10 + b))).trans k5
         have HBb := Aside0.mk hb
         have hd0 : 0 ≤ x5 - x2 := by omega
         have hK : ∀ (W2 : World) (m : Nat), Calls Try.prog 43 #[.int .i64 (x5 - x2), .int .i64 x3] (W2.drewN m) fun e w' => e = .returned (.int .i64 b) ∧ ∃ q, w' = (W2.drewN m).drewN q := fun W2 m => (chanceryref3_bad.calls (x5 - x2) x3 b _ (by rw [← HBb.out]; exact bad_pure _ _ (by omega) (by omega) (by omega))).mono fun e w' ⟨h1, h2⟩ => ⟨h1, h2.out⟩
         have HK := Aside0.mk hK
         clear e1 e2 hmu e3 hb sq hK
         go_upto_region 3 with (first | (go_at_call 36; refine (chanceryref3_stop.calls A0 c0 L x1 false _ (Kd.C_below HL.out HB.out) HC.out (by rw [← HMU.out]; exact stop_pure L x1 t0 t1)).mono ?_; rintro e w6 ⟨rfl, ⟨nd, rfl⟩⟩; (have hb9 := pw_below_drewN (Below.refl w5.heap.size w5) nd); (have hbb := below_step HB.out hb9); (have h5 := blk_below H5.out hb9); (have h6 := blk_below H6.out hb9); generalize w5.drewN nd = w6 at hbb h5 h6 ⊢; clear HB H5 H6 hb9; (have HB := Aside0.mk hbb); (have H5 := Aside0.mk h5); (have H6 := Aside0.mk h6); (have hs1 : w6.cell? ⟨g6, 1, none⟩ = some (.int .i64 x1) := (blk_cell h6 1).trans rfl); (have hs3 : w6.cell? ⟨g6, 3, none⟩ = some (.int .i64 x3) := (blk_cell h6 3).trans rfl); clear hbb h5 h6) | (go_at_call 34; refine (chanceryref3_follow.calls kf A0 c0 L x1 af _ (Kd.C_below HL.out HB.out) HC.out HKF.out).mono ?_; rintro e w7 ⟨rfl, ⟨nd, rfl⟩⟩; (have hb9 := pw_below_drewN (Below.refl w6.heap.size w6) nd); (have hbb := below_step HB.out hb9); (have h5 := blk_below H5.out hb9); (have h6 := blk_below H6.out hb9); generalize w6.drewN nd = w7 at hbb h5 h6 ⊢; clear HB H5 H6 hb9; (have HB := Aside0.mk hbb); (have H5 := Aside0.mk h5); (have H6 := Aside0.mk h6); (have hs3 : w7.cell? ⟨g6, 3, none⟩ = some (.int .i64 x3) := (blk_cell h6 3).trans rfl); clear hbb h5 h6))
         go_quiet (first | (go_at_call 43; exact Calls.quiet_of (HK.out _ _)))
         go_wp2
         go_meet
         case rel => exact ⟨by first | rw [EN.out] | (rw [k5, EN.out]) | (simp only [i64_w]; rw [k5, EN.out]), ⟨pw_below_drewN HB.out _⟩, ⟨H5.out⟩, ⟨H6.out⟩⟩
 case rest =>
  clear hs1 hs2 hs3 hs4 hs5 HB H5 H6
  obtain ⟨rfl, HB, H5, H6⟩ := hcut
  have hs1 : wc.cell? ⟨g6, 1, none⟩ = some (.int .i64 x1) := (blk_cell H6.out 1).trans rfl
  by_cases e : x1 = L.length
  · have eb : (x1 == (L.length : Int)) = true := beq_iff_eq.2 e
    have ER : Aside0 (costR L D ⟨x0, x1, x2, x3, x4, x5⟩ beh = N) := ⟨by
     unfold costR
     rw [HCE.out, if_neg (fun h => by omega)]
     simp [flagP, e]⟩
    clear e
    go_wp2
    go_ret
    exact ⟨congrArg (fun z => Ending.returned (Value.int .i64 z)) ER.out.symm, HB.out⟩
  · have eb : (x1 == (L.length : Int)) = false := beq_eq_false_iff_ne.2 e
    have hlt : x1 < (L.length : Int) := by omega
    obtain ⟨ad, ea, hx0, hx1, hx2, hx3, hx4, hx5⟩ := at_T49 HL.out x1 t0 hlt
    subst ea
    have q := HPP.out x1 t0 hlt
    obtain ⟨p, hp⟩ : ∃ p, rd_T49 L x1 = p := ⟨_, rfl⟩
    rw [hp] at hx0 hx1 hx2 hx3 hx4 hx5
    rw [show pt L x1 = p from hp] at q HCE
    obtain ⟨fl, hfl⟩ : ∃ b, p.f5 = b := ⟨_, rfl⟩
    have HFL : Aside0 (decide (x1 < (L.length : Int)) = true ∧ (pt L x1).f5 = fl) := ⟨⟨decide_eq_true hlt, by rw [show pt L x1 = p from hp]; exact hfl⟩⟩
    have X5 := Aside0.mk hx5
    replace hx0 := (HB.out.cell (World.block_lt_of_cell? _ _ hx0)).trans hx0
    replace hx1 := (HB.out.cell (World.block_lt_of_cell? _ _ hx1)).trans hx1
    replace hx2 := (HB.out.cell (World.block_lt_of_cell? _ _ hx2)).trans hx2
    replace hx3 := (HB.out.cell (World.block_lt_of_cell? _ _ hx3)).trans hx3
    replace hx4 := (HB.out.cell (World.block_lt_of_cell? _ _ hx4)).trans hx4
    replace hx5 := (HB.out.cell (World.block_lt_of_cell? _ _ hx5)).trans hx5
    have hsz : ∀ {g : Nat} {o : Obj} {W2 : World}, wc.heap[g]? = some o → Below wc.heap.size wc W2 → W2.heap[g]? = some o := fun h hb => blk_below h hb
    have HWC := Aside0.mk HB.out
    have HFF := Aside0.mk hfl
    clear hp e hfl
    go_upto_region 13 with (first
     | ((with_reducible refine gate_dst (N := 11) rfl ?_); refine box_event ?hg (N := 11) ?hd (cs := #[.int .i64 0, .int .i64 0, .int .i64 0, .int .i64 0, .int .i64 0, .bool false]) (t := 49) ?hr ?_; (case hd => rfl); (case hg => rfl); (case hr => first | (go_simp; done) | (go_simp; rfl)); intro g11 hg w11 hbox hb; (have hge : wc.heap.size ≤ g11 := by rw [hg]; exact Nat.le_refl _); (have hgw : w.heap.size ≤ g11 := by rw [hg]; exact HB.out.size); (have hbb := below_step HB.out hb); (have h5 := blk_below H5.out hb); (have h6 := blk_below H6.out hb); (have n5 : g5 ≠ g11 := fun e => by have := blk_lt H5.out; omega); (have n6 : g6 ≠ g11 := fun e => by have := blk_lt H6.out; omega); clear HB H5 H6; (have HB := Aside0.mk hbb); (have H5 := Aside0.mk h5); (have H6 := Aside0.mk h6); (have H11 := Aside0.mk hbox); (have G11 := Aside0.mk hgw); (have N5 := Aside0.mk n5); (have N6 := Aside0.mk n6); clear hg hbox hb hbb hge hgw h5 h6 n5 n6)
     | ((with_reducible refine gate_store (t := 49) (p := 11) rfl ?_); refine agg_event (w0 := w) rfl rfl 49 (.tmp 11) (.tmp 81) rfl (g := g11) (e := 49) (.agg #[.int .i64 p.f0, .int .i64 p.f1, .int .i64 p.f2, .int .i64 p.f3, .int .i64 p.f4, .bool p.f5]) [.int .i64 p.f0, .int .i64 p.f1, .int .i64 p.f2, .int .i64 p.f3, .int .i64 p.f4, .bool p.f5] rfl rfl rfl (by kernel_rfl) H11.out rfl (by simp only [List.mem_cons, List.not_mem_nil, or_false, forall_eq_or_imp, forall_eq]; exact ⟨rfl, rfl, rfl, rfl, rfl, rfl⟩) HB.out G11.out ?_; intro w12 hbox hb hgr; (have h5 := (hgr.block g5 (blk_lt H5.out) (fun e => N5.out (by injection e))).trans H5.out); (have h6 := (hgr.block g6 (blk_lt H6.out) (fun e => N6.out (by injection e))).trans H6.out); clear HB H5 H6 H11; (have HB := Aside0.mk hb); (have H5 := Aside0.mk h5); (have H6 := Aside0.mk h6); (have H11 := Aside0.mk hbox); clear hb hbox hgr h5 h6))
    clear hx0 hx1 hx2 hx3 hx4 hx5 hs1 hsz HWC
    have hs1 : w12.cell? ⟨g6, 1, none⟩ = some (.int .i64 x1) := (blk_cell H6.out 1).trans rfl
    have hd1 : w12.cell? ⟨g5, 1, none⟩ = some (.int .i64 D) := (blk_cell H5.out 1).trans rfl
    have hp0 : w12.cell? ⟨g11, 0, none⟩ = some (.int .i64 p.f0) := (blk_cell H11.out 0).trans rfl
    have hp4 : w12.cell? ⟨g11, 4, none⟩ = some (.int .i64 p.f4) := (blk_cell H11.out 4).trans rfl
    have hx5 := (HB.out.cell (World.block_lt_of_cell? _ _ X5.out)).trans X5.out
    rw [HFF.out] at hx5
    clear HFF X5
    by_cases e2 : p.f0 = 2
    · have e2b : (p.f0 == 2) = true := beq_iff_eq.2 e2
      obtain ⟨c, hc⟩ : ∃ c, p.f4 = c := ⟨_, rfl⟩
      rw [hc] at q HCE hp4
      clear hc
      by_cases e3 : c = -10000
      · have e3b : decide (c > -10000) = false := decide_eq_false (by omega)
        have EC : Aside0 (costP L (begT L (-1)) ⟨x0, x1, x2, x3, x4, x5⟩ = N) := ⟨by rw [HCE.out, if_neg (fun h => h.2.2 e3)]⟩
        clear e2 e3 q
        cases beh with
        | false =>
         have ER : Aside0 (costR L D ⟨x0, x1, x2, x3, x4, x5⟩ false = N) := ⟨by unfold costR; rw [EC.out]; simp⟩
         go_wp2
         go_ret
         first | exact ⟨congrArg (fun z => Ending.returned (Value.int .i64 z)) (ER.out.symm), HB.out⟩
        | true =>
         have hf : flagP L x1 = fl := by simp only [flagP, HFL.out.1, Bool.true_and]; exact HFL.out.2
         cases fl with
         | false =>
          have ER : Aside0 (costR L D ⟨x0, x1, x2, x3, x4, x5⟩ true = N) := ⟨by unfold costR; rw [EC.out]; simp [hf]⟩
          clear hf
          go_wp2
          go_ret
          first | exact ⟨congrArg (fun z => Ending.returned (Value.int .i64 z)) (ER.out.symm), HB.out⟩
         | true =>
          have ER : Aside0 (costR L D ⟨x0, x1, x2, x3, x4, x5⟩ true = N + D) := ⟨by unfold costR; rw [EC.out]; simp [hf]⟩
          have k9 : wrap64 (N + D) = N + D := w64 (by omega) (by omega)
          clear hf
          go_wp2
          go_ret
          first | exact ⟨congrArg (fun z => Ending.returned (Value.int .i64 z)) (ER.out.symm), HB.out⟩ | exact ⟨congrArg (fun z => Ending.returned (Value.int .i64 z)) (k9.trans ER.out.symm), HB.out⟩
      · have e3b : decide (c > -10000) = true := decide_eq_true (by omega)
        have cc : 0 ≤ c * c ∧ c * c ≤ 10000 * 10000 := by
         rcases Int.le_total 0 c with h | h
         · exact ⟨Int.mul_nonneg h h, Int.mul_le_mul (by omega) (by omega) h (by omega)⟩
         · have h1 : c * c = (-c) * (-c) := by rw [Int.neg_mul_neg]
           rw [h1]
           exact ⟨Int.mul_nonneg (by omega) (by omega), Int.mul_le_mul (by omega) (by omega) (by omega) (by omega)⟩
        have k7 : wrap64 (c * c) = c * c := w64 (by omega) (by omega)
        by_cases e4 : c < 0
        · have e4b : decide (c < 0) = true := decide_eq_true e4
          have EC : Aside0 (costP L (begT L (-1)) ⟨x0, x1, x2, x3, x4, x5⟩ = N - c * c) := ⟨by rw [HCE.out, if_pos ⟨hlt, e2, e3⟩, if_pos e4]⟩
          have k8 : wrap64 (N - c * c) = N - c * c := w64 (by omega) (by omega)
          clear e2 e3 q e4
          cases beh with
          | false =>
           have ER : Aside0 (costR L D ⟨x0, x1, x2, x3, x4, x5⟩ false = (N - c * c)) := ⟨by unfold costR; rw [EC.out]; simp⟩
           go_wp2
           go_ret
           first | exact ⟨congrArg (fun z => Ending.returned (Value.int .i64 z)) (ER.out.symm), HB.out⟩ | exact ⟨congrArg (fun z => Ending.returned (Value.int .i64 z)) (k8.trans ER.out.symm), HB.out⟩
          | true =>
           have hf : flagP L x1 = fl := by simp only [flagP, HFL.out.1, Bool.true_and]; exact HFL.out.2
           cases fl with
           | false =>
            have ER : Aside0 (costR L D ⟨x0, x1, x2, x3, x4, x5⟩ true = (N - c * c)) := ⟨by unfold costR; rw [EC.out]; simp [hf]⟩
            clear hf
            go_wp2
            go_ret
            first | exact ⟨congrArg (fun z => Ending.returned (Value.int .i64 z)) (ER.out.symm), HB.out⟩ | exact ⟨congrArg (fun z => Ending.returned (Value.int .i64 z)) (k8.trans ER.out.symm), HB.out⟩
           | true =>
            have ER : Aside0 (costR L D ⟨x0, x1, x2, x3, x4, x5⟩ true = (N - c * c) + D) := ⟨by unfold costR; rw [EC.out]; simp [hf]⟩
            have k9 : wrap64 ((N - c * c) + D) = (N - c * c) + D := w64 (by omega) (by omega)
            clear hf
            go_wp2
            go_ret
            first | exact ⟨congrArg (fun z => Ending.returned (Value.int .i64 z)) (ER.out.symm), HB.out⟩ | exact ⟨congrArg (fun z => Ending.returned (Value.int .i64 z)) (k9.trans ER.out.symm), HB.out⟩
        · have e4b : decide (c < 0) = false := decide_eq_false e4
          have EC : Aside0 (costP L (begT L (-1)) ⟨x0, x1, x2, x3, x4, x5⟩ = N + c * c) := ⟨by rw [HCE.out, if_pos ⟨hlt, e2, e3⟩, if_neg e4]⟩
          have k8 : wrap64 (N + c * c) = N + c * c := w64 (by omega) (by omega)
          clear e2 e3 q e4
          cases beh with
          | false =>
           have ER : Aside0 (costR L D ⟨x0, x1, x2, x3, x4, x5⟩ false = (N + c * c)) := ⟨by unfold costR; rw [EC.out]; simp⟩
           go_wp2
           go_ret
           first | exact ⟨congrArg (fun z => Ending.returned (Value.int .i64 z)) (ER.out.symm), HB.out⟩ | exact ⟨congrArg (fun z => Ending.returned (Value.int .i64 z)) (k8.trans ER.out.symm), HB.out⟩
          | true =>
           have hf : flagP L x1 = fl := by simp only [flagP, HFL.out.1, Bool.true_and]; exact HFL.out.2
           cases fl with
           | false =>
            have ER : Aside0 (costR L D ⟨x0, x1, x2, x3, x4, x5⟩ true = (N + c * c)) := ⟨by unfold costR; rw [EC.out]; simp [hf]⟩
            clear hf
            go_wp2
            go_ret
            first | exact ⟨congrArg (fun z => Ending.returned (Value.int .i64 z)) (ER.out.symm), HB.out⟩ | exact ⟨congrArg (fun z => Ending.returned (Value.int .i64 z)) (k8.trans ER.out.symm), HB.out⟩
           | true =>
            have ER : Aside0 (costR L D ⟨x0, x1, x2, x3, x4, x5⟩ true = (N + c * c) + D) := ⟨by unfold costR; rw [EC.out]; simp [hf]⟩
            have k9 : wrap64 ((N + c * c) + D) = (N + c * c) + D := w64 (by omega) (by omega)
            clear hf
            go_wp2
            go_ret
            first | exact ⟨congrArg (fun z => Ending.returned (Value.int .i64 z)) (ER.out.symm), HB.out⟩ | exact ⟨congrArg (fun z => Ending.returned (Value.int .i64 z)) (k9.trans ER.out.symm), HB.out⟩
    · have e2b : (p.f0 == 2) = false := beq_eq_false_iff_ne.2 e2
      have EC : Aside0 (costP L (begT L (-1)) ⟨x0, x1, x2, x3, x4, x5⟩ = N) := ⟨by rw [HCE.out, if_neg (fun h => e2 h.2.1)]⟩
      clear e2 q
      cases beh with
      | false =>
       have ER : Aside0 (costR L D ⟨x0, x1, x2, x3, x4, x5⟩ false = N) := ⟨by unfold costR; rw [EC.out]; simp⟩
       go_wp2
       go_ret
       first | exact ⟨congrArg (fun z => Ending.returned (Value.int .i64 z)) (ER.out.symm), HB.out⟩
      | true =>
       have hf : flagP L x1 = fl := by simp only [flagP, HFL.out.1, Bool.true_and]; exact HFL.out.2
       cases fl with
       | false =>
        have ER : Aside0 (costR L D ⟨x0, x1, x2, x3, x4, x5⟩ true = N) := ⟨by unfold costR; rw [EC.out]; simp [hf]⟩
        clear hf
        go_wp2
        go_ret
        first | exact ⟨congrArg (fun z => Ending.returned (Value.int .i64 z)) (ER.out.symm), HB.out⟩
       | true =>
        have ER : Aside0 (costR L D ⟨x0, x1, x2, x3, x4, x5⟩ true = N + D) := ⟨by unfold costR; rw [EC.out]; simp [hf]⟩
        have k9 : wrap64 (N + D) = N + D := w64 (by omega) (by omega)
        clear hf
        go_wp2
        go_ret
        first | exact ⟨congrArg (fun z => Ending.returned (Value.int .i64 z)) (ER.out.symm), HB.out⟩ | exact ⟨congrArg (fun z => Ending.returned (Value.int .i64 z)) (k9.trans ER.out.symm), HB.out⟩
end Go.Proofs.Ythapclmfkjldaaa.HandLN
