/- Walked by hand: the maker's bars on top of each other. -/
import Derived.Test.YtemginkjkmmimaaHandCBb
import Derived.StillTailTactics
namespace Go.Proofs.Ytemginkjkmmimaa.HandCB
open Go.Proofs.Ytemginkjkmmimaa.Lib (w64)
open Go.RowKit Go.Proofs.YtemginkjkmmimaaW.PrintWords Go.Proofs.YtemginkjkmmimaaW.PrintLast Go.Proofs.YtemginkjkmmimaaW.PrintMore Go.Proofs.Ytemginkjkmmimaa.QCB
set_option linter.unusedVariables false
attribute [local go_sem] max2_int min2_int max_two min_two
/-- The sums, from z on. -/
def sumS (z : Int) (ss : List (List Int)) (i : Int) : Nat → Int
  | 0 => z
  | j + 1 => wrap64 (sumS z ss i j + rd (rd_L1 ss j) i)
def stackL (ht i x : Int) (es : List Int) (nn : Nat → Int) (m : Nat) : List S42 := (List.range m).map fun j : Nat => barOf ht (j : Int) i (wrap64 (x + rd es 1)) (wrap64 (rd es 3 - rd es 1)) (nn j) (nn (j + 1))
theorem stackL_succ (ht i x : Int) (es : List Int) (nn : Nat → Int) (m : Nat) : stackL ht i x es nn (m + 1) = stackL ht i x es nn m ++ [barOf ht m i (wrap64 (x + rd es 1)) (wrap64 (rd es 3 - rd es 1)) (nn m) (nn (m + 1))] := by
  unfold stackL
  rw [List.range_succ, List.map_append]
  rfl
set_option maxHeartbeats 8000000 in
set_option maxRecDepth 100000 in
theorem stacked_ok (w0 w : World) (k g : Nat) (kd : Int) (NM : Value) (A2 : Option Addr) (c2 : Nat) (ss : List (List Int)) (lo hi st ht : Int) (out : List S42) (i x wd : Int) (es : List Int) (nn ee : Nat → Int)
    (hr : kL.C w0 A2 ss.length ss) (hB : Below w0.heap.size w0 w) (hM : MK w0.heap.size w g kd NM (.slice A2 ss.length c2) lo hi st ht out) (hm : ss.length ≤ 1000) (hn : out.length ≤ 900000) (hi0 : 0 ≤ i) (hil : ∀ j : Int, 0 ≤ j → j < ss.length → i < (rd_L1 ss j).length)
    (hE : chart_edges.f k wd 4 = some es) (hel : es.length = 5) (hp : ∀ j : Nat, j ≤ ss.length → scale_Place.f k lo hi st (sumS (mn (mx 0 lo) hi) ss i j) ht = some (nn j, ee j)) :
    Calls Try.prog 20 #[.pointer (some ⟨g, 0, none⟩), .int .i64 i, .int .i64 x, .int .i64 wd] w fun e w' => e = .returned (.tuple #[]) ∧
      MK w0.heap.size w' g kd NM (.slice A2 ss.length c2) lo hi st ht (out ++ stackL ht i x es nn ss.length) ∧ Below w0.heap.size w0 w' ∧ TK g w w' := by
  have hu57 := Try.underlying57
  have hu25 := Try.underlying25
  obtain ⟨u, hbg, hgg, hRR⟩ := hM
  have hc2 : w.cell? ⟨g, 2, none⟩ = some (.slice A2 ss.length c2) := (blk_cell hbg 2).trans rfl
  have HM := Aside0.mk (show MK w0.heap.size w g kd NM (.slice A2 ss.length c2) lo hi st ht out from ⟨u, hbg, hgg, hRR⟩)
  have HB := Aside0.mk hB
  have HR := Aside0.mk hr
  have HN := Aside0.mk hn
  have HIL := Aside0.mk hil
  have HE := Aside0.mk hE
  have HEL := Aside0.mk hel
  have HT := Aside0.mk (TK.refl g w)
  obtain ⟨z, hz⟩ : ∃ z, mn (mx 0 lo) hi = z := ⟨_, rfl⟩
  have HZ := Aside0.mk hz
  rw [hz] at hp
  have HP := Aside0.mk hp
  clear hbg hgg hRR hB hr hn hil hE hel hz hp
  go_enter Try.func20, Try.ntmps20
  go_upto_region 1 with (go_at_call 18; refine (chart_edges.calls k wd 4 es _ HE.out).mono ?_; rintro e w2 ⟨v2, rfl, ho, hb⟩; (have hmm := MK.below HM.out hb); (have htt := TK.below HT.out hb); (have hoo := Kd.R_lower ho HB.out.size); (have hbb := below_step HB.out hb); clear HM HB HT; (have HM := Aside0.mk hmm); (have HB := Aside0.mk hbb); (have HT := Aside0.mk htt); (have HO := Aside0.mk hoo); clear hmm hbb htt hoo ho hb)
  obtain ⟨Ae, ce, rfl⟩ := Kd.R_slice HO.out
  go_upto_region 2 with (go_at_call 27; refine (zero_ok w0.heap.size g kd NM _ lo hi st ht _ _ HM.out).mono ?_; rintro e w3 ⟨rfl, hb⟩; rw [HZ.out]; (have hmm := MK.below HM.out hb); (have htt := TK.below HT.out hb); (have hoo := Kd.R_below HO.out hb); (have hbb := below_step HB.out hb); clear HM HB HT HO; (have HM := Aside0.mk hmm); (have HB := Aside0.mk hbb); (have HT := Aside0.mk htt); (have HO := Aside0.mk hoo); clear hmm hbb htt hoo hb)
  obtain ⟨u2, hbg, hgg, hRR⟩ := HM.out
  have hc2 : w3.cell? ⟨g, 2, none⟩ = some (.slice A2 ss.length c2) := (blk_cell hbg 2).trans rfl
  clear hbg hgg hRR
  go_wp2
  go_loopw [9, 22] (fun v9 v22 w' => ∃ j : Int, v9 = .int .i64 (sumS z ss i j.toNat) ∧ v22 = .int .i64 j ∧ 0 ≤ j ∧ j ≤ (ss.length : Int) ∧ Aside0 (MK w0.heap.size w' g kd NM (.slice A2 ss.length c2) lo hi st ht (out ++ stackL ht i x es nn j.toNat)) ∧ Aside0 (Below w0.heap.size w0 w') ∧ Aside0 (TK g w w') ∧ Aside0 (kI.R 3 w' w0.heap.size (fun _ => True) (.slice Ae es.length ce) es)) (fun _ v22 _ => ss.length - (intOf v22).toNat)
  case atStart => exact ⟨0, rfl, rfl, by omega, by omega, ⟨by rw [show stackL ht i x es nn (0 : Int).toNat = [] from rfl, List.append_nil]; exact HM.out⟩, HB, HT, HO⟩
  case round =>
    clear HM HB HT HO
    obtain ⟨j, rfl, rfl, hj0, hj1, HM, HB, HT, HO⟩ := hrel
    by_cases hlt : j < (ss.length : Int)
    · have hjm : wrap64 (j + 1) = j + 1 := w64 (by omega) (by omega)
      obtain ⟨ad, Al, cl, ea, hx0, hcl, hC⟩ := at_L1 HR.out j hj0 hlt
      subst ea
      have hil := HIL.out j hj0 hlt
      have hp1 := HP.out j.toNat (by omega)
      have hp2 := HP.out (j.toNat + 1) (by omega)
      have hS : sumS z ss i (j.toNat + 1) = wrap64 (sumS z ss i j.toNat + rd (rd_L1 ss j) i) := by rw [sumS, show ((j.toNat : Nat) : Int) = j by omega]
      obtain ⟨l, hl⟩ : ∃ l, rd_L1 ss j = l := ⟨_, rfl⟩
      rw [hl] at hx0 hcl hC hil hS
      replace hx0 := (HB.out.cell (World.block_lt_of_cell? _ _ hx0)).trans hx0
      obtain ⟨S, hSS⟩ : ∃ S, sumS z ss i j.toNat = S := ⟨_, rfl⟩
      rw [hSS] at hp1 hS ⊢
      rw [hS] at hp2
      have HP1 := Aside0.mk hp1
      have HP2 := Aside0.mk hp2
      have HS := Aside0.mk hS
      have HCL := Aside0.mk hC
      clear hl hp1 hp2 hS hSS hC
      obtain ⟨ge, cc, e, hrb, hrl, hrt⟩ := Kd.R_form HO.out (by have := HEL.out; omega)
      injection e with e1 e2 e3
      subst e1 e3
      clear e2 hrb hrl hrt
      obtain ⟨hy0, hyf⟩ := Kd.R_celln 0 HO.out 1 (by omega) (by have := HEL.out; omega)
      obtain ⟨hz0, hzf⟩ := Kd.R_celln 0 HO.out 3 (by omega) (by have := HEL.out; omega)
      clear hyf hzf
      rw [show (1 : Int).toNat = 1 from rfl] at hy0
      rw [show (3 : Int).toNat = 3 from rfl] at hz0
      have hle1 : (1 : Int) < (es.length : Int) := by have := HEL.out; omega
      have hle2 : (3 : Int) < (es.length : Int) := by have := HEL.out; omega
      obtain ⟨al, cs9, ea, -, hK9, hc9⟩ := Kd.C_get HCL.out (0 : Int) i hi0 (by omega)
      subst ea
      obtain rfl : cs9 = [.int .i64 (l.getD i.toNat 0)] := hK9
      have hv00 : w0.cell? (al.add i.toNat) = some (.int .i64 (rd l i)) := by have hq := hc9 0 _ rfl; rwa [show i.toNat * kI.sz + 0 = i.toNat from by show i.toNat * 1 + 0 = i.toNat; omega] at hq
      have HV := Aside0.mk hv00
      have hv0 : wr.cell? (al.add i.toNat) = some (.int .i64 (rd l i)) := (HB.out.cell (World.block_lt_of_cell? _ _ hv00)).trans hv00
      clear hc9 HCL hv00
      go_upto_region 5 with (fail)
      clear hx0
      obtain ⟨q1, hq1⟩ : ∃ q, rdOf 0 es 1 = q := ⟨_, rfl⟩
      obtain ⟨q3, hq3⟩ : ∃ q, rdOf 0 es 3 = q := ⟨_, rfl⟩
      rw [hq1] at hy0
      rw [hq3] at hz0
      have HQ : Aside0 (rd es 1 = q1 ∧ rd es 3 = q3) := ⟨⟨hq1, hq3⟩⟩
      clear hq1 hq3
      have HOL : Aside0 ((out ++ stackL ht i x es nn j.toNat).length ≤ 1000000) := ⟨by have := HN.out; rw [List.length_append, stackL, List.length_map, List.length_range]; omega⟩
      refine wp_region_still_tail 22 (by kernel_rfl) (by kernel_rfl) ?_
      simp only [List.take_succ_cons, List.take_zero, List.drop_succ_cons, List.drop_zero]
      have hm5 : MK w0.heap.size (wr.drewN 1) g kd NM (.slice (some ad) ss.length c2) lo hi st ht (out ++ stackL ht i x es nn j.toNat) := MK.below HM.out (pw_below_drewN (Below.refl _ _) 1)
      have hb5 : Below w0.heap.size w0 (wr.drewN 1) := pw_below_drewN HB.out 1
      have ht5 : TK g w (wr.drewN 1) := TK.below HT.out (pw_below_drewN (Below.refl _ _) 1)
      have ho5 : kI.R 3 (wr.drewN 1) w0.heap.size (fun _ => True) (.slice (some ⟨ge, 0, none⟩) es.length ce) es := Kd.R_drewN HO.out 1
      generalize hwq : ({ wr with drawn := wr.drawn + 1 } : World) = wq
      have hwq2 : wr.drewN 1 = wq := hwq
      rw [hwq2] at hm5 hb5 ht5 ho5
      have hv0 : wq.cell? (al.add i.toNat) = some (.int .i64 (rd l i)) := by rw [← hwq]; exact hv0
      have hy0 : wq.cell? ⟨ge, 1, none⟩ = some (.int .i64 q1) := by rw [← hwq]; exact hy0
      have hz0 : wq.cell? ⟨ge, 3, none⟩ = some (.int .i64 q3) := by rw [← hwq]; exact hz0
      clear hwq hwq2 HM HB HT HO
      have HM := Aside0.mk hm5
      have HB := Aside0.mk hb5
      have HT := Aside0.mk ht5
      have HO := Aside0.mk ho5
      clear hm5 hb5 ht5 ho5
      repeat still_step
      refine wpStill_nil ?_
      go_wp2_with (go_at_call 26; refine (bar_ok w0.heap.size g kd NM (.slice (some ad) ss.length c2) lo hi st ht _ _ w0 k j i S (wrap64 (S + rd l i)) (wrap64 (x + q1)) (wrap64 (q3 - q1)) (nn j.toNat) (ee j.toNat) (nn (j.toNat + 1)) (ee (j.toNat + 1)) rfl HB.out HM.out HP1.out HP2.out HOL.out).mono ?_; rintro e w7 ⟨rfl, hm7, hb7, ht7⟩; (obtain ⟨u6, hbg6, _, _⟩ := HM.out); (have ho7 := R_TK HO.out ht7 hbg6 (by decide)); (have htt := TK.trans HT.out ht7); (have hmm : MK w0.heap.size w7 g kd NM (.slice (some ad) ss.length c2) lo hi st ht (out ++ stackL ht i x es nn (j.toNat + 1)) := by rw [stackL_succ, ← List.append_assoc, show ((j.toNat : Nat) : Int) = j by omega, HQ.out.1, HQ.out.2]; exact hm7); (have hv7 : w7.cell? (al.add i.toNat) = some (.int .i64 (rd l i)) := (hb7.cell (World.block_lt_of_cell? _ _ HV.out)).trans HV.out); clear HM HB HT HO hbg6 hm7 ht7; (have HM := Aside0.mk hmm); (have HB := Aside0.mk hb7); (have HT := Aside0.mk htt); (have HO := Aside0.mk ho7); clear hmm hb7 htt ho7)
      go_roundw
      case rel => exact ⟨j + 1, by rw [show (j + 1).toNat = j.toNat + 1 by omega, HS.out], by first | rfl | rw [hjm], by omega, by omega, ⟨by rw [show (j + 1).toNat = j.toNat + 1 by omega]; exact HM.out⟩, HB, HT, HO⟩
      case measure => first | (simp [intOf]; omega) | (rw [hjm]; simp [intOf]; omega)
    · go_wp2
      go_end0
      obtain rfl : j = (ss.length : Int) := by omega
      exact ⟨rfl, HM.out, HB.out, HT.out⟩
end Go.Proofs.Ytemginkjkmmimaa.HandCB
