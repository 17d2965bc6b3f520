import Derived.Test.YthapclmfkjldaaaHandLNc
import Derived.Deep.Cut
import Derived.Deep.CutBlock
namespace Go.Proofs.Ythapclmfkjldaaa.HandLN
set_option linter.unusedSectionVars false
set_option linter.unusedVariables false
set_option linter.unusedSimpArgs false
open Go.Proofs.Ythapclmfkjldaaa.Lib (w64)
open Go.RowKit Go.Proofs.YthapclmfkjldaaaW.PrintWords Go.Proofs.YthapclmfkjldaaaW.PrintLast Go.Proofs.YthapclmfkjldaaaW.PrintMore Go.Proofs.Ythapclmfkjldaaa.QLN
attribute [local go_sem] max2_int min2_int max_two min_two
def n1P (L : List S49) (be : List Int) (x : S41) : Int :=
 if x.f5 - x.f2 < -x.f4 then 1099511627776 + 1000 * (-(x.f5 - x.f2) - x.f4)
 else if x.f5 - x.f2 < 0 then (10 + badP (-(x.f5 - x.f2)) x.f4) * (10 + badP (-(x.f5 - x.f2)) x.f4)
 else if mustP L x.f1 = true ∨ afterP L be x.f1 = L.length then 100
 else (10 + badP (x.f5 - x.f2) x.f3) * (10 + badP (x.f5 - x.f2) x.f3)
def costP (L : List S49) (be : List Int) (x : S41) : Int :=
 if x.f1 < L.length ∧ (pt L x.f1).f0 = 2 ∧ (pt L x.f1).f4 ≠ -10000 then (if (pt L x.f1).f4 < 0 then n1P L be x - (pt L x.f1).f4 * (pt L x.f1).f4 else n1P L be x + (pt L x.f1).f4 * (pt L x.f1).f4) else n1P L be x
theorem badP_bd (d c : Int) (h0 : 0 ≤ d) (c0 : 0 ≤ c) : 0 ≤ badP d c ∧ badP d c ≤ 10000 := by
 unfold badP
 split
 · omega
 · split
   · omega
   · have p0 : 0 ≤ 1000 * d / c := Int.ediv_nonneg (by omega) c0
     have q0 : 0 ≤ mn (1000 * d / c) 5000 := by unfold mn; split <;> omega
     have r0 : 0 ≤ mn (1000 * d / c) 5000 * mn (1000 * d / c) 5000 * mn (1000 * d / c) 5000 / 10000000 := Int.ediv_nonneg (Int.mul_nonneg (Int.mul_nonneg q0 q0) q0) (by omega)
     generalize mn (1000 * d / c) 5000 * mn (1000 * d / c) 5000 * mn (1000 * d / c) 5000 / 10000000 = u at r0
     unfold mn
     split <;> omega
theorem n1P_bd (L : List S49) (be : List Int) (x : S41) (h2 : 0 ≤ x.f2 ∧ x.f2 ≤ 900000000) (h3 : 0 ≤ x.f3) (h4 : 0 ≤ x.f4 ∧ x.f4 ≤ 800000000) (h5 : 1 ≤ x.f5 ∧ x.f5 ≤ 100000) : 0 ≤ n1P L be x ∧ n1P L be x ≤ 2099511627776 := by
 have sq : ∀ b : Int, 0 ≤ b → b ≤ 10000 → 0 ≤ (10 + b) * (10 + b) ∧ (10 + b) * (10 + b) ≤ 10010 * 10010 := fun b h0 h1 => ⟨Int.mul_nonneg (by omega) (by omega), Int.mul_le_mul (by omega) (by omega) (by omega) (by omega)⟩
 unfold n1P
 split
 · omega
 · split
   · have b := badP_bd (-(x.f5 - x.f2)) x.f4 (by omega) h4.1
     have := sq _ b.1 b.2
     omega
   · split
     · omega
     · have b := badP_bd (x.f5 - x.f2) x.f3 (by omega) h3
       have := sq _ b.1 b.2
       omega
section
variable (w : World) (g : Nat) (L : List S49) (W : List Int) (D : Int) (wi gr yi be : List Int) (hM : MK w g L W D wi gr yi be) (hD : Bd L W wi gr yi be)
include hM hD
set_option maxHeartbeats 8000000 in
set_option maxRecDepth 100000 in
theorem cost_ok (x0 x1 x2 x3 x4 x5 : Int) (t0 : 0 ≤ x1) (t1 : x1 ≤ L.length) (b2 : 0 ≤ x2 ∧ x2 ≤ 900000000) (b3 : 0 ≤ x3 ∧ x3 ≤ 800000000) (b4 : 0 ≤ x4 ∧ x4 ≤ 800000000) (b5 : 1 ≤ x5 ∧ x5 ≤ 100000) :
    Calls Try.prog 31 #[.pointer (some ⟨g, 0, none⟩), .agg #[.int .i64 x0, .int .i64 x1, .int .i64 x2, .int .i64 x3, .int .i64 x4, .int .i64 x5]] w fun e w' => e = .returned (.int .i64 (costP L be ⟨x0, x1, x2, x3, x4, x5⟩)) ∧ Below w.heap.size w w' := by
 have hu57 := Try.underlying57
 have hu49 := Try.underlying49
 have hu41 := Try.underlying41
 have hin : L.length ≤ 1000000 := by have := hD.1; omega
 have hbe : be.length = L.length + 2 := hD.2.2.2.2.2.2.1
 have d9 := hD.2.2.2.2.2.2.2.2.1
 have hN := n1P_bd L be ⟨x0, x1, x2, x3, x4, x5⟩ b2 b3.1 b4 b5
 have hNE : n1P L be ⟨x0, x1, x2, x3, x4, x5⟩ = if x5 - x2 < -x4 then 1099511627776 + 1000 * (-(x5 - x2) - x4) else if x5 - x2 < 0 then (10 + badP (-(x5 - x2)) x4) * (10 + badP (-(x5 - x2)) x4) else if mustP L x1 = true ∨ afterP L be x1 = L.length then 100 else (10 + badP (x5 - x2) x3) * (10 + badP (x5 - x2) x3) := rfl
 have hCE : costP L be ⟨x0, x1, x2, x3, x4, x5⟩ = if x1 < L.length ∧ (pt L x1).f0 = 2 ∧ (pt L x1).f4 ≠ -10000 then (if (pt L x1).f4 < 0 then n1P L be ⟨x0, x1, x2, x3, x4, x5⟩ - (pt L x1).f4 * (pt L x1).f4 else n1P L be ⟨x0, x1, x2, x3, x4, x5⟩ + (pt L x1).f4 * (pt L x1).f4) else n1P L be ⟨x0, x1, x2, x3, x4, x5⟩ := rfl
 obtain ⟨N, hNN⟩ : ∃ N, n1P L be ⟨x0, x1, x2, x3, x4, x5⟩ = N := ⟨_, rfl⟩
 rw [hNN] at hN hNE hCE
 clear hNN
 have hMu := must_ok w g L W D wi gr yi be x1 hM t0 t1 hin
 have HM := Aside0.mk hM
 have HNE := Aside0.mk hNE
 have HCE := Aside0.mk hCE
 have D9 := Aside0.mk d9
 have HB := Aside0.mk (Below.refl w.heap.size w)
 have k1 : wrap64 (x5 - x2) = x5 - x2 := w64 (by omega) (by omega)
 have k2 : wrap64 (-x4) = -x4 := w64 (by omega) (by omega)
 have k3 : wrap64 (-(x5 - x2)) = -(x5 - x2) := w64 (by omega) (by omega)
 have hMM := hM
 clear hM hD hNE hCE d9 hMu
 go_enter Try.func31, Try.ntmps31
 go_upto_block 0 with ((with_reducible refine gate_dst (N := 3) rfl ?_); refine box_event ?hg (N := 3) ?hd (cs := #[.int .i64 x0, .int .i64 x1, .int .i64 x2, .int .i64 x3, .int .i64 x4, .int .i64 x5]) (t := 41) ?hr ?_; (case hd => rfl); (case hg => rfl); (case hr => first | (go_simp; done) | (go_simp; rfl)); intro g3 hg w5 hbox hb; (have hbb := below_step HB.out hb); clear HB; (have HB := Aside0.mk hbb); (have H3 := Aside0.mk hbox); (have hs1 : w5.cell? ⟨g3, 1, none⟩ = some (.int .i64 x1) := (blk_cell hbox 1).trans rfl); (have hs2 : w5.cell? ⟨g3, 2, none⟩ = some (.int .i64 x2) := (blk_cell hbox 2).trans rfl); (have hs3 : w5.cell? ⟨g3, 3, none⟩ = some (.int .i64 x3) := (blk_cell hbox 3).trans rfl); (have hs4 : w5.cell? ⟨g3, 4, none⟩ = some (.int .i64 x4) := (blk_cell hbox 4).trans rfl); (have hs5 : w5.cell? ⟨g3, 5, none⟩ = some (.int .i64 x5) := (blk_cell hbox 5).trans rfl); clear hg hbox hb hbb)
 clear hMM
 go_cut [6] (fun v6 wc => v6 = .int .i64 N ∧ Aside0 (Below w.heap.size w wc) ∧ Aside0 (wc.heap[g3]? = some (.cells #[.int .i64 x0, .int .i64 x1, .int .i64 x2, .int .i64 x3, .int .i64 x4, .int .i64 x5] 41 (0, 0))))
 case first =>
  by_cases e1 : x5 - x2 < -x4
  · have e1b : decide (x5 - x2 < -x4) = true := decide_eq_true e1
    have EN : Aside0 (1099511627776 + 1000 * (-(x5 - x2) - x4) = N) := ⟨by rw [HNE.out, if_pos e1]⟩
    have k4 : wrap64 (-(x5 - x2) - x4) = -(x5 - x2) - x4 := w64 (by omega) (by omega)
    have k5 : wrap64 (1000 * (-(x5 - x2) - x4)) = 1000 * (-(x5 - x2) - x4) := w64 (by omega) (by omega)
    have k6 : wrap64 (1099511627776 + 1000 * (-(x5 - x2) - x4)) = 1099511627776 + 1000 * (-(x5 - x2) - x4) := w64 (by omega) (by omega)
    clear e1
    go_wp2
    go_meet
    case rel => exact ⟨by rw [EN.out], HB, H3⟩
  · have e1b : decide (x5 - x2 < -x4) = false := decide_eq_false e1
    by_cases e2 : x5 - x2 < 0
    · have e2b : decide (x5 - x2 < 0) = true := decide_eq_true e2
      obtain ⟨b, hb⟩ : ∃ b, badP (-(x5 - x2)) x4 = b := ⟨_, rfl⟩
      have bb := badP_bd (-(x5 - x2)) x4 (by omega) b4.1
      rw [hb] at bb
      have EN : Aside0 ((10 + b) * (10 + b) = N) := ⟨by rw [HNE.out, if_neg e1, if_pos e2, hb]⟩
      have k4 : wrap64 (10 + b) = 10 + b := w64 (by omega) (by omega)
      have sq : 0 ≤ (10 + b) * (10 + b) ∧ (10 + b) * (10 + b) ≤ 10010 * 10010 := ⟨Int.mul_nonneg (by omega) (by omega), Int.mul_le_mul (by omega) (by omega) (by omega) (by omega)⟩
      have k5 : wrap64 ((10 + b) * (10 + b)) = (10 + b) * (10 + b) := w64 (by omega) (by omega)
      have HBb := Aside0.mk hb
      clear e1 hb sq
      go_wp2_with (go_at_call 41; refine (bad_ok _ (-(x5 - x2)) x4 (by omega) (by omega) (by omega) (by omega)).mono ?_; rintro e w6 ⟨rfl, hb⟩; rw [HBb.out]; (have hbb := below_step HB.out hb); (have h3 := blk_below H3.out hb); clear HB H3; (have HB := Aside0.mk hbb); (have H3 := Aside0.mk h3); clear hb hbb h3)
      go_meet
      case rel => exact ⟨by first | rw [k5, EN.out] | rw [EN.out], HB, H3⟩
    · have e2b : decide (x5 - x2 < 0) = false := decide_eq_false e2
      obtain ⟨mu, hmu⟩ : ∃ m, mustP L x1 = m := ⟨_, rfl⟩
      have HMU := Aside0.mk hmu
      cases mu with
      | true =>
       have EN : Aside0 (100 = N) := ⟨by rw [HNE.out, if_neg e1, if_neg e2, if_pos (.inl hmu)]⟩
       clear e1 e2 hmu
       go_wp2_with (go_at_call 38; refine (must_ok _ g L W D wi gr yi be x1 (MK.below HM.out HB.out) t0 t1 hin).mono ?_; rintro e w6 ⟨rfl, rfl⟩; rw [HMU.out])
       go_meet
       case rel => exact ⟨by rw [← EN.out], HB, H3⟩
      | false =>
       by_cases e3 : afterP L be x1 = L.length
       · have EN : Aside0 (100 = N) := ⟨by rw [HNE.out, if_neg e1, if_neg e2, if_pos (.inr e3)]⟩
         have HL3 : Aside0 ((afterP L be x1 == (L.length : Int)) = true) := ⟨beq_iff_eq.2 e3⟩
         clear e1 e2 hmu e3
         go_wp2_with (first
          | (go_at_call 38; refine (must_ok _ g L W D wi gr yi be x1 (MK.below HM.out HB.out) t0 t1 hin).mono ?_; rintro e w6 ⟨rfl, rfl⟩; rw [HMU.out])
          | (go_at_call 25; refine (last_ok _ g L W D wi gr yi be x1 (MK.below HM.out HB.out) t0 t1 hin hbe).mono ?_; rintro e w7 ⟨rfl, hb⟩; rw [HL3.out]; (have hbb := below_step HB.out hb); (have h3 := blk_below H3.out hb); clear HB H3; (have HB := Aside0.mk hbb); (have H3 := Aside0.mk h3); clear hb hbb h3))
         go_meet
         case rel => exact ⟨by rw [← EN.out], HB, H3⟩
       · obtain ⟨b, hb⟩ : ∃ b, badP (x5 - x2) x3 = b := ⟨_, rfl⟩
         have bb := badP_bd (x5 - x2) x3 (by omega) b3.1
         rw [hb] at bb
         have EN : Aside0 ((10 + b) * (10 + b) = N) := ⟨by rw [HNE.out, if_neg e1, if_neg e2, if_neg (by rw [hmu]; simp [e3]), hb]⟩
         have HL3 : Aside0 ((afterP L be x1 == (L.length : Int)) = false) := ⟨beq_eq_false_iff_ne.2 e3⟩
         have k4 : wrap64 (10 + b) = 10 + b := w64 (by omega) (by omega)
         have sq : 0 ≤ (10 + b) * (10 + b) ∧ (10 + b) * (10 + b) ≤ 10010 * 10010 := ⟨Int.mul_nonneg (by omega) (by omega), Int.mul_le_mul (by omega) (by omega) (by omega) (by omega)⟩
         have k5 : wrap64 ((10 + b) * (10 + b)) = (10 + b) * (10 + b) := w64 (by omega) (by omega)
         have HBb := Aside0.mk hb
         have hd0 : 0 ≤ x5 - x2 := by omega
         clear e1 e2 hmu e3 hb sq
         go_wp2_with (first
          | (go_at_call 38; refine (must_ok _ g L W D wi gr yi be x1 (MK.below HM.out HB.out) t0 t1 hin).mono ?_; rintro e w6 ⟨rfl, rfl⟩; rw [HMU.out])
          | (go_at_call 25; refine (last_ok _ g L W D wi gr yi be x1 (MK.below HM.out HB.out) t0 t1 hin hbe).mono ?_; rintro e w7 ⟨rfl, hb⟩; rw [HL3.out]; (have hbb := below_step HB.out hb); (have h3 := blk_below H3.out hb); clear HB H3; (have HB := Aside0.mk hbb); (have H3 := Aside0.mk h3); (have hs3 : w7.cell? ⟨g3, 3, none⟩ = some (.int .i64 x3) := (blk_cell h3 3).trans rfl); clear hb hbb h3)
          | (go_at_call 41; refine (bad_ok _ (x5 - x2) x3 (by omega) (by omega) (by omega) (by omega)).mono ?_; rintro e w8 ⟨rfl, hb⟩; rw [HBb.out]; (have hbb := below_step HB.out hb); (have h3 := blk_below H3.out hb); clear HB H3; (have HB := Aside0.mk hbb); (have H3 := Aside0.mk h3); clear hb hbb h3))
         go_meet
         case rel => exact ⟨by first | rw [k5, EN.out] | rw [EN.out], HB, H3⟩
 case rest =>
  clear hs1 hs2 hs3 hs4 hs5 HB H3
  obtain ⟨rfl, HB, H3⟩ := hcut
  obtain ⟨A0, c0, A1, c1, A2, c2, A3, c3, A4, c4, A5, c5, hbk, hL, -⟩ := MK.below HM.out HB.out
  have hc0 : wc.cell? ⟨g, 0, none⟩ = some (.slice A0 L.length c0) := (blk_cell hbk 0).trans rfl
  have hs1 : wc.cell? ⟨g3, 1, none⟩ = some (.int .i64 x1) := (blk_cell H3.out 1).trans rfl
  clear hbk
  by_cases e : x1 < L.length
  · have eb : decide (x1 < (L.length : Int)) = true := decide_eq_true e
    obtain ⟨ad, rfl, hx0, hx1, hx2, hx3, hx4, hx5⟩ := at_T49 hL x1 t0 e
    have q := D9.out x1 t0 e
    by_cases e2 : (rd_T49 L x1).f0 = 2
    · have e2b : ((rd_T49 L x1).f0 == 2) = true := beq_iff_eq.2 e2
      obtain ⟨c, hc⟩ : ∃ c, (rd_T49 L x1).f4 = c := ⟨_, rfl⟩
      rw [show (pt L x1).f4 = c from hc] at q HCE
      rw [hc] at hx4
      clear hc hL hx1 hx2 hx3 hx5
      by_cases e3 : c = -10000
      · have e3b : (c != -10000) = false := bne_eq_false_iff_eq.2 e3
        have EC : Aside0 (costP L be ⟨x0, x1, x2, x3, x4, x5⟩ = N) := ⟨by rw [HCE.out, if_neg (fun h => h.2.2 e3)]⟩
        clear e2 e3 q
        go_wp2
        go_quiet (fail)
        go_wp2
        go_ret
        exact ⟨by rw [EC.out]; rfl, pw_below_drewN HB.out _⟩
      · have e3b : (c != -10000) = true := bne_iff_ne.2 e3
        have cc : 0 ≤ c * c ∧ c * c ≤ 10000 * 10000 := by
         rcases Int.le_total 0 c with h | h
         · exact ⟨Int.mul_nonneg h h, Int.mul_le_mul q.2.2.2 q.2.2.2 h (by omega)⟩
         · have h1 : c * c = (-c) * (-c) := by rw [Int.neg_mul_neg]
           rw [h1]
           exact ⟨Int.mul_nonneg (by omega) (by omega), Int.mul_le_mul (by omega) (by omega) (by omega) (by omega)⟩
        have k7 : wrap64 (c * c) = c * c := w64 (by omega) (by omega)
        by_cases e4 : c < 0
        · have e4b : decide (c < 0) = true := decide_eq_true e4
          have EC : Aside0 (costP L be ⟨x0, x1, x2, x3, x4, x5⟩ = N - c * c) := ⟨by rw [HCE.out, if_pos ⟨e, e2, e3⟩, if_pos e4]⟩
          have k8 : wrap64 (N - c * c) = N - c * c := w64 (by omega) (by omega)
          clear e2 e3 q cc e4
          go_wp2
          go_quiet (fail)
          go_wp2
          go_quiet (fail)
          go_wp2
          go_ret
          exact ⟨congrArg (fun z => Ending.returned (Value.int .i64 z)) (k8.trans EC.out.symm), by repeat (first | exact HB.out | apply pw_below_drewN)⟩
        · have e4b : decide (c < 0) = false := decide_eq_false e4
          have EC : Aside0 (costP L be ⟨x0, x1, x2, x3, x4, x5⟩ = N + c * c) := ⟨by rw [HCE.out, if_pos ⟨e, e2, e3⟩, if_neg e4]⟩
          have k8 : wrap64 (N + c * c) = N + c * c := w64 (by omega) (by omega)
          clear e2 e3 q cc e4
          go_wp2
          go_quiet (fail)
          go_wp2
          go_quiet (fail)
          go_wp2
          go_ret
          exact ⟨congrArg (fun z => Ending.returned (Value.int .i64 z)) (k8.trans EC.out.symm), by repeat (first | exact HB.out | apply pw_below_drewN)⟩
    · have e2b : ((rd_T49 L x1).f0 == 2) = false := beq_eq_false_iff_ne.2 e2
      have EC : Aside0 (costP L be ⟨x0, x1, x2, x3, x4, x5⟩ = N) := ⟨by rw [HCE.out, if_neg (fun h => e2 h.2.1)]⟩
      clear e2 q hL hx1 hx2 hx3 hx5
      go_wp2
      go_quiet (fail)
      go_wp2
      go_ret
      exact ⟨by rw [EC.out]; rfl, pw_below_drewN HB.out _⟩
  · have eb : decide (x1 < (L.length : Int)) = false := decide_eq_false e
    have EC : Aside0 (costP L be ⟨x0, x1, x2, x3, x4, x5⟩ = N) := ⟨by rw [HCE.out, if_neg (fun h => e h.1)]⟩
    clear e hL
    go_wp2
    go_quiet (fail)
    go_wp2
    go_ret
    exact ⟨by rw [EC.out]; rfl, pw_below_drewN HB.out _⟩
end
end Go.Proofs.Ythapclmfkjldaaa.HandLN
