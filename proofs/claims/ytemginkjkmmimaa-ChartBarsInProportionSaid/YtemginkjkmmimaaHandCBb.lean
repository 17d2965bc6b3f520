/- Walked by hand: the maker's bars beside each other. -/
import Derived.Test.YtemginkjkmmimaaHandCBa
namespace Go.Proofs.Ytemginkjkmmimaa.HandCB
open Go.Proofs.Ytemginkjkmmimaa.Lib (w64)
open Go.RowKit Go.Proofs.YtemginkjkmmimaaW.PrintWords Go.Proofs.YtemginkjkmmimaaW.PrintLast Go.Proofs.YtemginkjkmmimaaW.PrintMore Go.Proofs.Ytemginkjkmmimaa.QCB
set_option linter.unusedVariables false
attribute [local go_sem] max2_int min2_int max_two min_two
abbrev kI : Kd Int := Kd.int .i64
abbrev kL : Kd (List Int) := Kd.slice 3 (Kd.int .i64)
/-- One bar, from y's of two values. -/
def barOf (ht : Int) (sr vl x wd na nb : Int) : S42 := ⟨sr, vl, x, mn (wrap64 (ht - na)) (wrap64 (ht - nb)), wd, wrap64 (mx (wrap64 (ht - na)) (wrap64 (ht - nb)) - mn (wrap64 (ht - na)) (wrap64 (ht - nb)))⟩
def besideL (ht i x nz : Int) (es : List Int) (nn : Int → Int) (m : Nat) : List S42 := (List.range m).map fun j : Nat => barOf ht (j : Int) i (wrap64 (x + rd es (2 * (j : Int) + 1))) (wrap64 (rd es (2 * (j : Int) + 3) - rd es (2 * (j : Int) + 1))) nz (nn (j : Int))
theorem besideL_succ (ht i x nz : Int) (es : List Int) (nn : Int → Int) (m : Nat) : besideL ht i x nz es nn (m + 1) = besideL ht i x nz es nn m ++ [barOf ht m i (wrap64 (x + rd es (2 * m + 1))) (wrap64 (rd es (2 * m + 3) - rd es (2 * m + 1))) nz (nn m)] := by
  unfold besideL
  rw [List.range_succ, List.map_append]
  rfl
theorem TK.trans {g : Nat} {w w1 w2 : World} (h : TK g w w1) (k : TK g w1 w2) : TK g w w2 := fun j c q f hj hq hg => k j c q f (h j c q f hj hq hg) hq hg
set_option maxHeartbeats 8000000 in
set_option maxRecDepth 100000 in
theorem beside_ok (w0 w : World) (k g : Nat) (kd : Int) (NM : Value) (A2 : Option Addr) (c2 : Nat) (ss : List (List Int)) (lo hi st ht : Int) (out : List S42) (i x wd nz ez : Int) (es : List Int) (nn ee : Int → Int)
    (hr : kL.C w0 A2 ss.length ss) (hB : Below w0.heap.size w0 w) (hM : MK w0.heap.size w g kd NM (.slice A2 ss.length c2) lo hi st ht out) (hm : ss.length ≤ 1000) (hn : out.length ≤ 900000) (hi0 : 0 ≤ i) (hil : ∀ j : Int, 0 ≤ j → j < ss.length → i < (rd_L1 ss j).length)
    (hE : chart_edges.f k wd (2 * ss.length + 2) = some es) (hel : es.length = 2 * ss.length + 3) (hz : scale_Place.f k lo hi st (mn (mx 0 lo) hi) ht = some (nz, ez)) (hp : ∀ j : Int, 0 ≤ j → j < ss.length → scale_Place.f k lo hi st (rd (rd_L1 ss j) i) ht = some (nn j, ee j)) :
    Calls Try.prog 19 #[.pointer (some ⟨g, 0, none⟩), .int .i64 i, .int .i64 x, .int .i64 wd] w fun e w' => e = .returned (.tuple #[]) ∧
      MK w0.heap.size w' g kd NM (.slice A2 ss.length c2) lo hi st ht (out ++ besideL ht i x nz es nn ss.length) ∧ Below w0.heap.size w0 w' ∧ TK g w w' := by
  have hu57 := Try.underlying57
  have hu25 := Try.underlying25
  obtain ⟨u, hbg, hgg, hRR⟩ := hM
  have hc2 : w.cell? ⟨g, 2, none⟩ = some (.slice A2 ss.length c2) := (blk_cell hbg 2).trans rfl
  have HM := Aside0.mk (show MK w0.heap.size w g kd NM (.slice A2 ss.length c2) lo hi st ht out from ⟨u, hbg, hgg, hRR⟩)
  have HB := Aside0.mk hB
  have HR := Aside0.mk hr
  have HN := Aside0.mk hn
  have HIL := Aside0.mk hil
  have HE := Aside0.mk hE
  have HEL := Aside0.mk hel
  have HZ := Aside0.mk hz
  have HP := Aside0.mk hp
  have HT := Aside0.mk (TK.refl g w)
  have hw1 : wrap64 (2 * (ss.length : Int)) = 2 * (ss.length : Int) := w64 (by omega) (by omega)
  have hw2 : wrap64 (2 * (ss.length : Int) + 2) = 2 * (ss.length : Int) + 2 := w64 (by omega) (by omega)
  clear hbg hgg hRR hB hr hn hil hE hel hz hp
  go_enter Try.func19, Try.ntmps19
  go_upto_region 1 with (go_at_call 18; refine (chart_edges.calls k wd (2 * ss.length + 2) es _ HE.out).mono ?_; rintro e w2 ⟨v2, rfl, ho, hb⟩; (have hmm := MK.below HM.out hb); (have htt := TK.below HT.out hb); (have hoo := Kd.R_lower ho HB.out.size); (have hbb := below_step HB.out hb); clear HM HB HT; (have HM := Aside0.mk hmm); (have HB := Aside0.mk hbb); (have HT := Aside0.mk htt); (have HO := Aside0.mk hoo); clear hmm hbb htt hoo ho hb)
  obtain ⟨Ae, ce, rfl⟩ := Kd.R_slice HO.out
  obtain ⟨u2, hbg, hgg, hRR⟩ := HM.out
  have hc2 : w2.cell? ⟨g, 2, none⟩ = some (.slice A2 ss.length c2) := (blk_cell hbg 2).trans rfl
  clear hbg hgg hRR
  go_wp2
  go_loopw [29] (fun v29 w' => ∃ j : Int, v29 = .int .i64 j ∧ 0 ≤ j ∧ j ≤ (ss.length : Int) ∧ Aside0 (MK w0.heap.size w' g kd NM (.slice A2 ss.length c2) lo hi st ht (out ++ besideL ht i x nz es nn j.toNat)) ∧ Aside0 (Below w0.heap.size w0 w') ∧ Aside0 (TK g w w') ∧ Aside0 (kI.R 3 w' w0.heap.size (fun _ => True) (.slice Ae es.length ce) es)) (fun v29 _ => ss.length - (intOf v29).toNat)
  case atStart => exact ⟨0, rfl, by omega, by omega, ⟨by rw [show besideL ht i x nz es nn (0 : Int).toNat = [] from rfl, List.append_nil]; exact HM.out⟩, HB, HT, HO⟩
  case round =>
    clear HM HB HT HO
    obtain ⟨j, rfl, hj0, hj1, HM, HB, HT, HO⟩ := hrel
    by_cases hlt : j < (ss.length : Int)
    · have hjm : wrap64 (j + 1) = j + 1 := w64 (by omega) (by omega)
      have hw3 : wrap64 (2 * j) = 2 * j := w64 (by omega) (by omega)
      have hw4 : wrap64 (2 * j + 1) = 2 * j + 1 := w64 (by omega) (by omega)
      have hw5 : wrap64 (2 * j + 3) = 2 * j + 3 := w64 (by omega) (by omega)
      obtain ⟨ad, Al, cl, ea, hx0, hcl, hC⟩ := at_L1 (Kd.C_below HR.out HB.out) j hj0 hlt
      subst ea
      have hil := HIL.out j hj0 hlt
      have hp := HP.out j hj0 hlt
      obtain ⟨l, hl⟩ : ∃ l, rd_L1 ss j = l := ⟨_, rfl⟩
      rw [hl] at hx0 hcl hC hil hp
      have HPJ := Aside0.mk hp
      have HCL := Aside0.mk hC
      clear hl hp hC
      obtain ⟨ge, cc, e, hrb, hrl, hrt⟩ := Kd.R_form HO.out (by have := HEL.out; omega)
      injection e with e1 e2 e3
      subst e1 e3
      clear e2 hrb hrl hrt
      obtain ⟨hy0, hyf⟩ := Kd.R_celln 0 HO.out (2 * j + 1) (by omega) (by have := HEL.out; omega)
      obtain ⟨hz0, hzf⟩ := Kd.R_celln 0 HO.out (2 * j + 3) (by omega) (by have := HEL.out; omega)
      clear hyf hzf
      have hle1 : 2 * j + 1 < (es.length : Int) := by have := HEL.out; omega
      have hle2 : 2 * j + 3 < (es.length : Int) := by have := HEL.out; omega
      have hg1 : 0 ≤ 2 * j + 1 := by omega
      have hg2 : 0 ≤ 2 * j + 3 := by omega
      go_wp2
      go_quiet (fail)
      go_upto_region 5 with (fail)
      have hm3 : MK w0.heap.size (wr.drewN nq) g kd NM (.slice (some ad) ss.length c2) lo hi st ht (out ++ besideL ht i x nz es nn j.toNat) := MK.below HM.out (pw_below_drewN (Below.refl _ _) nq)
      have hb3 : Below w0.heap.size w0 (wr.drewN nq) := pw_below_drewN HB.out nq
      have ht3 : TK g w (wr.drewN nq) := TK.below HT.out (pw_below_drewN (Below.refl _ _) nq)
      have ho3 : kI.R 3 (wr.drewN nq) w0.heap.size (fun _ => True) (.slice (some ⟨ge, 0, none⟩) es.length ce) es := Kd.R_drewN HO.out nq
      have hcl3 : kI.C (wr.drewN nq) Al l.length l := Kd.C_drewN HCL.out nq
      generalize wr.drewN nq = w5 at hm3 hb3 ht3 ho3 hcl3 ⊢
      clear HM HB HT HO HCL
      have HM := Aside0.mk hm3
      have HB := Aside0.mk hb3
      have HT := Aside0.mk ht3
      have HO := Aside0.mk ho3
      obtain ⟨al, cs9, ea, -, hK9, hc9⟩ := Kd.C_get hcl3 (0 : Int) i hi0 (by omega)
      subst ea
      obtain rfl : cs9 = [.int .i64 (l.getD i.toNat 0)] := hK9
      have hv0 : w5.cell? (al.add i.toNat) = some (.int .i64 (rd l i)) := by have hq := hc9 0 _ rfl; rwa [show i.toNat * kI.sz + 0 = i.toNat from by show i.toNat * 1 + 0 = i.toNat; omega] at hq
      have HV := Aside0.mk hv0
      clear hm3 hb3 ht3 ho3 hcl3 hc9 hx0 hy0 hz0
      have hrd1 : rdOf 0 es (2 * j + 1) = rd es (2 * j + 1) := rfl
      have hrd3 : rdOf 0 es (2 * j + 3) = rd es (2 * j + 3) := rfl
      rw [hrd1, hrd3]
      obtain ⟨q1, hq1⟩ : ∃ q, rd es (2 * j + 1) = q := ⟨_, rfl⟩
      obtain ⟨q3, hq3⟩ : ∃ q, rd es (2 * j + 3) = q := ⟨_, rfl⟩
      rw [hq1, hq3]
      have HQ := Aside0.mk (And.intro hq1 hq3)
      clear hq1 hq3 hrd1 hrd3
      have HOL : Aside0 ((out ++ besideL ht i x nz es nn j.toNat).length ≤ 1000000) := ⟨by have := HN.out; rw [List.length_append, besideL, List.length_map, List.length_range]; omega⟩
      go_region_with (first
        | (go_at_call 27; refine (zero_ok w0.heap.size g kd NM _ lo hi st ht _ _ (MK.below HM.out ?hbz)).mono ?_; (case hbz => (repeat (first | exact Below.refl _ _ | (with_reducible first | apply pw_below_drewN | apply below_drew1 | apply below_drew)))); rintro e w6 ⟨rfl, hb⟩; (have hv6 : w6.cell? (al.add i.toNat) = some (.int .i64 (rd l i)) := (hb.cell (World.block_lt_of_cell? _ _ HV.out)).trans HV.out); (have hb6 : Below w5.heap.size w5 w6 := below_step (pw_below_drewN (Below.refl w5.heap.size w5) 1) hb); (have HB6 := Aside0.mk hb6); clear hb hb6)
        | (go_at_call 26; refine (bar_ok w0.heap.size g kd NM (.slice (some ad) ss.length c2) lo hi st ht _ _ w0 k j i (mn (mx 0 lo) hi) (rd l i) _ _ nz ez (nn j) (ee j) rfl ?hB9 ?hM9 HZ.out HPJ.out HOL.out).mono ?_; (case hB9 => (repeat (first | exact below_step HB.out HB6.out | (with_reducible first | apply pw_below_drewN | apply below_drew1 | apply below_drew)))); (case hM9 => first | exact MK.below HM.out HB6.out | exact MK.below (MK.below HM.out HB6.out) (pw_below_drewN (Below.refl _ _) 1)); rintro e w7 ⟨rfl, hm7, hb7, ht7⟩))
      all_goals (obtain ⟨u6, hbg6, _, _⟩ := MK.below HM.out HB6.out)
      all_goals (have ho7 := R_TK (Kd.R_below HO.out HB6.out) ht7 hbg6 (by decide))
      all_goals (have htt := TK.trans (TK.below HT.out HB6.out) ht7)
      all_goals simp only [i64_w] at hm7
      all_goals (have hmm : MK w0.heap.size w7 g kd NM (.slice (some ad) ss.length c2) lo hi st ht (out ++ besideL ht i x nz es nn (j.toNat + 1)) := by rw [besideL_succ, ← List.append_assoc, show ((j.toNat : Nat) : Int) = j by omega, HQ.out.1, HQ.out.2]; exact hm7)
      all_goals clear hm7 ht7 hbg6 HM HB HT HO HB6 HV
      all_goals (have HM := Aside0.mk hmm)
      all_goals (have HB := Aside0.mk hb7)
      all_goals (have HT := Aside0.mk htt)
      all_goals (have HO := Aside0.mk ho7)
      all_goals clear hmm hb7 htt ho7
      all_goals go_wp2
      all_goals go_roundw
      all_goals first
        | exact ⟨j + 1, by first | rfl | rw [hjm], by omega, by omega, ⟨by rw [show (j + 1).toNat = j.toNat + 1 by omega]; exact HM.out⟩, HB, HT, HO⟩
        | (simp [intOf]; omega)
        | (rw [hjm]; simp [intOf]; omega)
    · go_wp2
      go_end0
      obtain rfl : j = (ss.length : Int) := by omega
      exact ⟨rfl, HM.out, HB.out, HT.out⟩
end Go.Proofs.Ytemginkjkmmimaa.HandCB
