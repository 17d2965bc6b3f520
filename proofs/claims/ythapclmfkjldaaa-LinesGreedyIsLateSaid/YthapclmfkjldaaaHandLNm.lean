import Derived.Test.YthapclmfkjldaaaHandLNl
namespace Go.Proofs.Ythapclmfkjldaaa.HandLN
set_option linter.unusedSectionVars false
set_option linter.unusedVariables false
set_option linter.unusedSimpArgs false
open Go.Proofs.Ythapclmfkjldaaa.Lib (w64)
open Go.RowKit Go.Proofs.YthapclmfkjldaaaW.PrintWords Go.Proofs.YthapclmfkjldaaaW.PrintLast Go.Proofs.YthapclmfkjldaaaW.PrintMore Go.Proofs.Ythapclmfkjldaaa.QLN Go.Proofs.Ythapclmfkjldaaa.LinesP
attribute [local go_sem] max2_int min2_int max_two min_two
def lastE (E : List S41) : S41 := rd_T41 E ((E.length : Int) - 1)
def lateG (L : List S49) (W : List Int) (D : Int) : Nat → Int → Int → Bool → List S41 × Int
 | 0, _, _, _ => ([], 0)
 | d + 1, f, num, fl => if lastP L (lastE (endsE L W f num)).f1 = true then ([lastE (endsE L W f num)], costR L D (lastE (endsE L W f num)) fl)
  else (lastE (endsE L W f num) :: (lateG L W D d (nxt L (lastE (endsE L W f num)).f1) (num + 1) (flagP L (lastE (endsE L W f num)).f1)).1, costR L D (lastE (endsE L W f num)) fl + (lateG L W D d (nxt L (lastE (endsE L W f num)).f1) (num + 1) (flagP L (lastE (endsE L W f num)).f1)).2)
def lateP (L : List S49) (W : List Int) (D : Int) : List S41 × Int := lateG L W D (L.length + 1) (begL L) 0 false
theorem lastE_mem (E : List S41) (h : E ≠ []) : lastE E ∈ E := by
 have : 0 < E.length := List.length_pos_iff.2 h
 exact Lib.getD_mem (by omega) (by omega)
section
variable (L : List S49) (W : List Int) (D : Int) (hF : Fine L) (hS : FineS W D)
include hF hS
set_option maxHeartbeats 8000000 in
set_option maxRecDepth 100000 in
theorem greedy_ok (A0 : Option Addr) (c0 : Nat) (A1 : Option Addr) (c1 : Nat) (k0 : Nat) (w : World) (hL : Kd.C k49 w A0 L.length L) (hc : L.length ≤ c0) (hW0 : kI.C w A1 W.length W) (hcw : W.length ≤ c1) (hk : lines_check.f k0 L W D = some 0) :
    Calls Try.prog 11 #[.slice A0 L.length c0, .agg #[.slice A1 W.length c1, .int .i64 D]] w fun e w' => ∃ v : Value, e = .returned (.tuple #[v, .int .i64 (lateP L W D).2, .int .i64 0]) ∧ Kd.R k41 41 w' w.heap.size (fun _ => True) v (lateP L W D).1 ∧ Below w.heap.size w w' := by
 have hu57 := Try.underlying57
 have hu25 := Try.underlying25
 have hu41 := Try.underlying41
 have hn := hF.1
 have hin : L.length ≤ 1000000 := by omega
 obtain ⟨w1, w2, hW, hD⟩ := hS
 have hbb := begL_bd L
 have HL := Aside0.mk hL
 have HW0 := Aside0.mk hW0
 have HF := Aside0.mk hF
 have HWd := Aside0.mk hW
 have HB0 := Aside0.mk (Below.refl w.heap.size w)
 have HCK := Aside0.mk (fun W2 h1 h2 => lines_check.calls k0 A0 c0 L A1 c1 W D 0 W2 h1 hc h2 hcw hk)
 have HPR := Aside0.mk (fun W2 h1 h2 => prep_ok A0 c0 L A1 c1 W D W2 h1 h2 hn (fun i i0 i1 => by have := hF.2 i i0 i1; omega))
 have HBD := Aside0.mk (bd_of L W hF w1 w2 hW)
 have HBL : Aside0 ((begT L (-1)).length = L.length + 2) := ⟨Lib.tab_length _ _⟩
 obtain ⟨bg, hbg⟩ : ∃ q, begL L = q := ⟨_, rfl⟩
 rw [hbg] at hbb
 obtain ⟨late, hlate⟩ : ∃ q, lateP L W D = q := ⟨_, rfl⟩
 rw [hlate]
 have HWAY : Aside0 (lateG L W D (L.length + 1) bg 0 false = late) := ⟨by rw [← hbg]; exact hlate⟩
 have HBG := Aside0.mk hbg
 clear hbg hlate
 obtain ⟨hbb0, hbb1⟩ := hbb
 clear hL hW0 hF hW hk
 go_enter Try.func11, Try.ntmps11
 go_upto_region 6 with (first
  | ((with_reducible refine gate_dst (N := 3) rfl ?_); refine box_event ?hg (N := 3) ?hd (cs := #[.slice A1 W.length c1, .int .i64 D]) (t := 25) ?hr ?_; (case hd => rfl); (case hg => rfl); (case hr => first | (go_simp; done) | (go_simp; rfl)); intro g3 hg wb3 hbox hb; (have hbb3 := below_step HB0.out hb); clear HB0; (have HB0 := Aside0.mk hbb3); (have H3 := Aside0.mk hbox); (have hs3_0 : wb3.cell? ⟨g3, 0, none⟩ = some (.slice A1 W.length c1) := (blk_cell hbox 0).trans rfl); (have hs3_1 : wb3.cell? ⟨g3, 1, none⟩ = some (.int .i64 D) := (blk_cell hbox 1).trans rfl); clear hg hbox hb hbb3)
  | (go_at_call 21; refine (HCK.out _ (Kd.C_below HL.out HB0.out) (Kd.C_below HW0.out HB0.out)).mono ?_; rintro e wck ⟨rfl, hb⟩; (have hbb3 := below_step HB0.out hb); (have h3 := blk_below H3.out hb); clear HB0 H3 hs3_0 hs3_1; (have HB0 := Aside0.mk hbb3); (have H3 := Aside0.mk h3); (have hs3_0 : wck.cell? ⟨g3, 0, none⟩ = some (.slice A1 W.length c1) := (blk_cell h3 0).trans rfl); (have hs3_1 : wck.cell? ⟨g3, 1, none⟩ = some (.int .i64 D) := (blk_cell h3 1).trans rfl); clear hb hbb3 h3)
  | (go_at_call 22; refine (HPR.out _ (Kd.C_below HL.out HB0.out) (Kd.C_below HW0.out HB0.out)).mono ?_; rintro e WB ⟨g, rfl, hm, hgs, hb⟩; (have hbb3 := below_step HB0.out hb); (have h3 := blk_below H3.out hb); (have h31 : WB.cell? ⟨g3, 1, none⟩ = some (.int .i64 D) := (blk_cell h3 1).trans rfl); clear HB0 hs3_0 hs3_1 H3; (have HB0 := Aside0.mk hbb3); (have HM := Aside0.mk hm); (have H31 := Aside0.mk h31); clear hm hgs hb hbb3 h3 h31))
 obtain ⟨ad, c5, hbg6, hbga⟩ := MK.begin0 HM.out
 rw [HBG.out] at hbga
 have hl0 : (0 : Int) < ((L.length + 2 : Nat) : Int) := by omega
 have hl1 : (0 : Int) < (L.length : Int) + 2 := by omega
 (try simp only [Act.put, List.setIfInBounds_toArray, List.set_cons_zero, List.set_cons_succ])
 go_cut [10, 11, 12] (fun v10 v11 v12 wc => v10 = .int .i64 0 ∧ v11 = .int .i64 bg ∧ v12 = .bool false ∧ Aside0 (Below WB.heap.size WB wc))
 case first =>
  have HB := Aside0.mk (below_drew1 (Below.refl WB.heap.size WB))
  go_region_with (fail)
  all_goals go_wp2
  all_goals go_meet
  all_goals exact ⟨rfl, rfl, rfl, HB⟩
 case rest =>
 clear hbg6 hbga
 obtain ⟨rfl, rfl, rfl, HB⟩ := hcut
 obtain ⟨bW, hbW⟩ : ∃ q, WB.heap.size = q := ⟨_, rfl⟩
 have HBW := Aside0.mk hbW
 clear hbW
 go_wp2
 go_loopw [9, 10, 11, 12, 13] (fun v9 v10 v11 v12 v13 w' => ∃ (fr num cost : Int) (fl : Bool) (out : List S41) (d : Nat), v10 = .int .i64 cost ∧ v11 = .int .i64 fr ∧ v12 = .bool fl ∧ v13 = .int .i64 num ∧ 0 ≤ fr ∧ fr ≤ (L.length : Int) ∧ 0 ≤ num ∧ num + (d : Int) = (L.length : Int) + 1 ∧ (L.length : Int) - fr < d ∧ (out.length : Int) = num ∧ (-(2300000000000 * num) ≤ cost ∧ cost ≤ 2300000000000 * num) ∧ Aside0 (out ++ (lateG L W D d fr num fl).1 = late.1 ∧ cost + (lateG L W D d fr num fl).2 = late.2) ∧ Aside0 (Below WB.heap.size WB w') ∧ Aside0 (Kd.R k41 41 w' bW (fun _ => True) v9 out)) (fun _ _ v11 _ _ _ => L.length - (intOf v11).toNat)
 case atStart => exact ⟨bg, 0, 0, false, [], L.length + 1, rfl, rfl, rfl, rfl, hbb0, hbb1, by omega, by omega, by omega, by rfl, by omega, ⟨by rw [HWAY.out]; rfl, by rw [HWAY.out]; exact Int.zero_add _⟩, HB, ⟨Kd.R_nil _ _ _ _ _⟩⟩
 case round =>
  clear HB
  obtain ⟨fr, num, cost, fl, out, d, rfl, rfl, rfl, rfl, hf0, hf1, hn0, hnd, hfd, hol, hcb, HE, HB, HO⟩ := hrel
  obtain ⟨Ao, co, rfl⟩ := Kd.R_slice HO.out
  have hnx : num ≤ 1000000 := by omega
  obtain ⟨d', rfl⟩ : ∃ d', d = d' + 1 := ⟨d - 1, by omega⟩
  have hne := endsE_ne L W fr num hf0 hf1
  have hem := endsE_mem L W fr num
  have he := HE.out
  unfold lateG at he
  obtain ⟨E, hE⟩ : ∃ E, endsE L W fr num = E := ⟨_, rfl⟩
  rw [hE] at hne hem he
  have HEE := Aside0.mk hE
  have hEl : 0 < E.length := List.length_pos_iff.2 hne
  have hxm := lastE_mem E hne
  obtain ⟨x, hx⟩ : ∃ x, lastE E = x := ⟨_, rfl⟩
  rw [hx] at hxm he
  have hx' : rd_T41 E ((E.length : Int) - 1) = x := hx
  have HX := Aside0.mk hx'
  have HE2 := Aside0.mk he
  obtain ⟨t, ht0, ht1, hxt⟩ := hem x hxm
  have hxb := ln_bd L W HF.out w1 HWd.out fr num t hf0 ht0 ht1 hn0
  rw [← hxt] at hxb
  have hx1t : x.f1 = t := by rw [hxt]; rfl
  have xt0 : 0 ≤ x.f1 := by omega
  have xtf : fr ≤ x.f1 := by omega
  have xt1 : x.f1 ≤ (L.length : Int) := by omega
  obtain ⟨hcb1, hcb2⟩ := costR_bd L D HF.out hD x fl xt0 hxb.1 hxb.2.1.1 hxb.2.2.1 hxb.2.2.2
  have HXB := Aside0.mk hxb
  clear hx hx' hxm hxt hxb hx1t ht0 ht1 t he HE hE hem hne
  have hmax := HBW.out
  obtain ⟨cp, hcp⟩ : ∃ q, costP L (begT L (-1)) x = q := ⟨_, rfl⟩
  rw [hcp] at hcb1
  obtain ⟨fb, hfb⟩ : ∃ b, (fl && flagP L x.f1) = b := ⟨_, rfl⟩
  obtain ⟨cc, hcc⟩ : ∃ q, costR L D x fl = q := ⟨_, rfl⟩
  rw [hcc] at hcb2
  have HCC := Aside0.mk hcc
  unfold costR at hcc
  rw [hcp, hfb] at hcc
  have HCV := Aside0.mk hcc
  have HCP := Aside0.mk hcp
  have HFB := Aside0.mk hfb
  obtain ⟨la, hla⟩ : ∃ b, lastP L x.f1 = b := ⟨_, rfl⟩
  have HLA := Aside0.mk hla
  have ye : wrap64 ((E.length : Int) - 1) = (E.length : Int) - 1 → True := fun _ => trivial
  have hcq : wrap64 (cost + cp) = cost + cp := w64 (by omega) (by omega)
  have hcq' := (i64_w (cost + cp)).trans hcq
  have HCQ := Aside0.mk (And.intro hcq hcq')
  have hcr : wrap64 (cost + cp + D) = cost + cp + D := w64 (by omega) (by omega)
  have hcr' := (i64_w (cost + cp + D)).trans hcr
  have HCR := Aside0.mk (And.intro hcr hcr')
  have wn : wrap64 (num + 1) = num + 1 := w64 (by omega) (by omega)
  have wn' := (i64_w (num + 1)).trans wn
  have HWN := Aside0.mk (And.intro wn wn')
  have HNB := Aside0.mk (nxt_bd L x.f1 xt0 xt1)
  have HOL : Aside0 (out.length ≤ 8001) := ⟨by omega⟩
  clear hcc hcp hfb hla ye hcq hcq' hcr hcr' wn wn' hmax
  have hMK : ∀ W2, Below WB.heap.size WB W2 → MK W2 g L W D (fillT hW1 L (L.length : Int)) (fillT (·.f2) L (L.length : Int)) (fillT (·.f3) L (L.length : Int)) (begT L (-1)) := fun W2 h => MK.below HM.out h
  have HMK := Aside0.mk hMK
  clear hMK
  have hL25 : ∀ W2, Below WB.heap.size WB W2 → Calls Try.prog 25 #[.pointer (some ⟨g, 0, none⟩), .int .i64 x.f1] W2 fun e w' => e = .returned (.bool la) ∧ Below W2.heap.size W2 w' := fun W2 h => (last_ok W2 g L W D _ _ _ _ x.f1 (HMK.out W2 h) xt0 xt1 hin HBL.out).mono fun e w' ⟨h1, h2⟩ => ⟨h1.trans (by rw [show (afterP L (begT L (-1)) x.f1 == (L.length : Int)) = la from HLA.out]), h2⟩
  have HL25 := Aside0.mk hL25
  have hL26 : ∀ W2, Below WB.heap.size WB W2 → Calls Try.prog 26 #[.pointer (some ⟨g, 0, none⟩), .int .i64 x.f1] W2 fun e w' => e = .returned (.int .i64 (nxt L x.f1)) ∧ w' = W2 := fun W2 h => after_ok W2 g L W D _ _ _ _ x.f1 (HMK.out W2 h) xt0 xt1 hin HBL.out
  have HL26 := Aside0.mk hL26
  have hL27 : ∀ W2, Below WB.heap.size WB W2 → Calls Try.prog 27 #[.pointer (some ⟨g, 0, none⟩), .int .i64 x.f1] W2 fun e w' => e = .returned (.bool (flagP L x.f1)) ∧ w' = W2 := fun W2 h => flag_ok W2 g L W D _ _ _ _ x.f1 (HMK.out W2 h) xt0 xt1 hin
  have HL27 := Aside0.mk hL27
  have hL31 : ∀ W2, Below WB.heap.size WB W2 → Calls Try.prog 31 #[.pointer (some ⟨g, 0, none⟩), .agg #[.int .i64 x.f0, .int .i64 x.f1, .int .i64 x.f2, .int .i64 x.f3, .int .i64 x.f4, .int .i64 x.f5]] W2 fun e w' => e = .returned (.int .i64 cp) ∧ Below W2.heap.size W2 w' := fun W2 h => (cost_ok W2 g L W D _ _ _ _ (HMK.out W2 h) HBD.out x.f0 x.f1 x.f2 x.f3 x.f4 x.f5 xt0 xt1 HXB.out.1 HXB.out.2.1 HXB.out.2.2.1 HXB.out.2.2.2).mono fun e w' ⟨h1, h2⟩ => ⟨h1.trans (by rw [show costP L (begT L (-1)) ⟨x.f0, x.f1, x.f2, x.f3, x.f4, x.f5⟩ = cp from HCP.out]), h2⟩
  have HL31 := Aside0.mk hL31
  have hL30 : ∀ W2, Below WB.heap.size WB W2 → Calls Try.prog 30 #[.pointer (some ⟨g, 0, none⟩), .int .i64 fr, .int .i64 num] W2 fun e w' => ∃ v : Value, e = .returned v ∧ Kd.R k41 41 w' W2.heap.size (fun _ => True) v E ∧ Below W2.heap.size W2 w' := fun W2 h => (ends_ok W2 g L W D _ _ _ _ (HMK.out W2 h) HBD.out fr num hf0 hf1 hn0 hnx).mono fun e w' ⟨v, h1, h2, h3⟩ => ⟨v, h1, by rw [show endsP L W (fillT hW1 L (L.length : Int)) (fillT (·.f2) L (L.length : Int)) (fillT (·.f3) L (L.length : Int)) fr num = E from HEE.out] at h2; exact h2, h3⟩
  have HL30 := Aside0.mk hL30
  clear hL25 hL26 hL27 hL30 hL31
  go_upto_region 10 with (go_at_call 30; refine (HL30.out _ HB.out).mono ?_; rintro e wE ⟨vE, rfl, ho, hb⟩; obtain ⟨Ae, ce, rfl⟩ := Kd.R_slice ho; (have hbb3 := below_step HB.out hb); (have hoo := Kd.R_below HO.out hb); clear HB HO; (have HB := Aside0.mk hbb3); (have HO := Aside0.mk hoo); (have HEO := Aside0.mk ho); clear hb hbb3 hoo ho)
  obtain ⟨-, -, hC⟩ := Kd.R_reads' HEO.out
  have hemax : E.length ≤ 9223372036854775807 := R_max HEO.out
  obtain ⟨ix, hix⟩ : ∃ q, (E.length : Int) - 1 = q := ⟨_, rfl⟩
  have yl : wrap64 ((E.length : Int) - 1) = ix := (w64 (by omega) (by omega)).trans hix
  have yl' := (i64_w ((E.length : Int) - 1)).trans yl
  have hlt1 : ix < (E.length : Int) := by omega
  have hge1 : 0 ≤ ix := by omega
  have hX := HX.out
  rw [hix] at hX
  clear hix HX
  have HX := Aside0.mk hX
  clear hX
  obtain ⟨ade, ea, hx0, hx1, hx2, hx3, hx4, hx5⟩ := at_T41 hC ix hge1 hlt1
  subst ea
  rw [HX.out] at hx0 hx1 hx2 hx3 hx4 hx5
  clear hC hemax
  go_upto_region 11 with (first
   | ((with_reducible refine gate_dst (N := 15) rfl ?_); refine box_event ?hg (N := 15) ?hd (cs := #[.int .i64 0, .int .i64 0, .int .i64 0, .int .i64 0, .int .i64 0, .int .i64 0]) (t := 41) ?hr ?_; (case hd => rfl); (case hg => rfl); (case hr => first | (go_simp; done) | (go_simp; rfl)); intro g15 hg wb15 hbox hb; (have hoo := Kd.R_below (Kd.R_elderB HO.out g15 (Nat.le_of_eq hg.symm)) hb); (have hge : WB.heap.size ≤ g15 := by rw [hg]; exact HB.out.size); (have hbb3 := below_step HB.out hb); clear HB HO; (have HB := Aside0.mk hbb3); (have HO := Aside0.mk hoo); (have H15 := Aside0.mk hbox); (have G15 := Aside0.mk hge); clear hg hbox hb hbb3 hge hoo)
   | ((with_reducible refine gate_store (t := 41) (p := 15) rfl ?_); refine agg_event (w0 := WB) rfl rfl 41 (.tmp 15) (.tmp 42) rfl (g := g15) (e := 41) (.agg #[.int .i64 x.f0, .int .i64 x.f1, .int .i64 x.f2, .int .i64 x.f3, .int .i64 x.f4, .int .i64 x.f5]) [.int .i64 x.f0, .int .i64 x.f1, .int .i64 x.f2, .int .i64 x.f3, .int .i64 x.f4, .int .i64 x.f5] rfl rfl rfl (by kernel_rfl) H15.out rfl (by simp only [List.mem_cons, List.not_mem_nil, or_false, forall_eq_or_imp, forall_eq]; exact ⟨rfl, rfl, rfl, rfl, rfl, rfl⟩) HB.out G15.out ?_; intro ws15 hbox hb hgr; (have hoo := Kd.R_grown HO.out hgr (fun k hk e => hk.2 (by injection e))); clear HB H15 HO; (have HB := Aside0.mk hb); (have H15 := Aside0.mk hbox); (have HO := Aside0.mk hoo); clear hbox hb hgr hoo))
  clear hx0 hx1 hx2 hx3 hx4 hx5 yl yl' HEO
  obtain ⟨hs0, hs1, hs2, hs3, hs4, hs5⟩ := Go.Proofs.Ythapclmfkjldaaa.Cells.cells6 H15.out
  go_upto_region 12 with ((with_reducible refine gate_builtin (b := .append) (xs := #[.tmp 43, .tmp 45]) rfl ?_); at_builtin; refine Kd.R_append k41 (w0 := ws15) bW rfl (.tmp 43) (.tmp 45) 27 41 (.agg #[(.int .i64 0), (.int .i64 0), (.int .i64 0), (.int .i64 0), (.int .i64 0), (.int .i64 0)]) 48 rfl Try.underlying27 info41 rfl (by decide) (by omega) _ out (⟨x.f0, x.f1, x.f2, x.f3, x.f4, x.f5⟩ : S41) [.int .i64 x.f0, .int .i64 x.f1, .int .i64 x.f2, .int .i64 x.f3, .int .i64 x.f4, .int .i64 x.f5] (fun _ => True) (fun _ => False) rfl rfl ?aP (fun _ hk => hk.elim) ?aF ?aO ?aB ?aS ?aL ?_; (case aP => exact k41_mkM _ _ _ (⟨x.f0, x.f1, x.f2, x.f3, x.f4, x.f5⟩ : S41)); (case aB => exact Below.refl _ _); (case aF => exact (fun _ _ => trivial)); (case aO => exact Kd.R_mono HO.out (fun _ _ => trivial)); (case aS => have h1 := HB.out.size; have h2 := HBW.out; omega); (case aL => have := HOL.out; omega); intro v9 wa ho hb hgr hat; (have hbn : Below WB.heap.size WB wa := pw_below_grown HB.out _ HB.out.size hgr (fun k hk => by have := Kd.R_base HO.out k hk; have := HBW.out; omega)); (have h15 := (hgr.block g15 (blk_lt H15.out) (fun e => (HO.out.1 g15 e.symm).2 rfl)).trans H15.out); obtain ⟨A4, c4, rfl⟩ := Kd.R_slice ho; clear HB HO H15 hb hgr hat; (have HB := Aside0.mk hbn); (have HO := Aside0.mk ho); (have H15 := Aside0.mk h15); clear hbn ho h15)
  clear hs0 hs1 hs2 hs3 hs4 hs5
  obtain ⟨hs0, hs1, hs2, hs3, hs4, hs5⟩ := Go.Proofs.Ythapclmfkjldaaa.Cells.cells6 H15.out
  obtain ⟨hcq, hcq'⟩ := HCQ.out
  go_upto_region 13 with (go_at_call 31; refine (HL31.out _ HB.out).mono ?_; rintro e wl ⟨rfl, hb⟩; (have hbb3 := below_step HB.out hb); (have hoo := Kd.R_below HO.out hb); (have h15 := blk_below H15.out hb); clear HB HO H15; (have HB := Aside0.mk hbb3); (have HO := Aside0.mk hoo); (have H15 := Aside0.mk h15); clear hb hbb3 hoo h15)
  clear hs0 hs1 hs2 hs3 hs4 hs5 hcq hcq'
  obtain ⟨hs0, hs1, hs2, hs3, hs4, hs5⟩ := Go.Proofs.Ythapclmfkjldaaa.Cells.cells6 H15.out
  (try simp only [Act.put, List.setIfInBounds_toArray, List.set_cons_zero, List.set_cons_succ])
  go_cut [58] (fun v58 wc => v58 = .bool fb ∧ Aside0 (Below WB.heap.size WB wc) ∧ Aside0 (wc.heap[g15]? = some (.cells #[.int .i64 x.f0, .int .i64 x.f1, .int .i64 x.f2, .int .i64 x.f3, .int .i64 x.f4, .int .i64 x.f5] 41 (0, 0))) ∧ Aside0 (Kd.R k41 41 wc bW (fun _ => True) (.slice A4 (out ++ [(⟨x.f0, x.f1, x.f2, x.f3, x.f4, x.f5⟩ : S41)]).length c4) (out ++ [(⟨x.f0, x.f1, x.f2, x.f3, x.f4, x.f5⟩ : S41)])))
  case first =>
   have hfb := HFB.out
   clear HFB HCC
   cases fl
   all_goals go_wp2_with (go_at_call 27; refine (HL27.out _ HB.out).mono ?_; rintro e w27 ⟨rfl, rfl⟩)
   all_goals go_meet
   all_goals exact ⟨by (rw [← hfb]) <;> simp, HB, H15, HO⟩
  case rest =>
   clear HB H15 HO hs0 hs1 hs2 hs3 hs4 hs5
   obtain ⟨rfl, HB, H15, HO⟩ := hcut
   have hd3 := (HB.out.cell (World.block_lt_of_cell? _ _ H31.out)).trans H31.out
   go_upto_if 58 with (fail)
   (try simp only [Act.put, List.setIfInBounds_toArray, List.set_cons_zero, List.set_cons_succ])
   go_cut [10] (fun v10 wc => v10 = .int .i64 (cost + cc) ∧ Aside0 (Below WB.heap.size WB wc) ∧ Aside0 (wc.heap[g15]? = some (.cells #[.int .i64 x.f0, .int .i64 x.f1, .int .i64 x.f2, .int .i64 x.f3, .int .i64 x.f4, .int .i64 x.f5] 41 (0, 0))) ∧ Aside0 (Kd.R k41 41 wc bW (fun _ => True) (.slice A4 (out ++ [(⟨x.f0, x.f1, x.f2, x.f3, x.f4, x.f5⟩ : S41)]).length c4) (out ++ [(⟨x.f0, x.f1, x.f2, x.f3, x.f4, x.f5⟩ : S41)])))
   case first =>
    have hcv := HCV.out
    clear HCV HFB
    cases fb with
    | false =>
     rw [if_neg (by decide), Int.add_zero] at hcv
     have HCV := Aside0.mk hcv
     clear hcv
     go_wp2
     go_meet
     exact ⟨by rw [HCV.out], HB, H15, HO⟩
    | true =>
     rw [if_pos rfl] at hcv
     have HCV := Aside0.mk hcv
     clear hcv
     obtain ⟨hcr, hcr'⟩ := HCR.out
     go_wp2
     go_meet
     exact ⟨by rw [← HCV.out, Int.add_assoc], HB, H15, HO⟩
   case rest =>
    clear HB H15 HO hd3
    obtain ⟨rfl, HB, H15, HO⟩ := hcut
    obtain ⟨hs0, hs1, hs2, hs3, hs4, hs5⟩ := Go.Proofs.Ythapclmfkjldaaa.Cells.cells6 H15.out
    go_upto_if 66 with (go_at_call 25; refine (HL25.out _ HB.out).mono ?_; rintro e wl ⟨rfl, hb⟩; (have hbb3 := below_step HB.out hb); (have hoo := Kd.R_below HO.out hb); (have h15 := blk_below H15.out hb); clear HB HO H15; (have HB := Aside0.mk hbb3); (have HO := Aside0.mk hoo); (have H15 := Aside0.mk h15); clear hb hbb3 hoo h15)
    clear hs0 hs1 hs2 hs3 hs4 hs5
    cases la with
    | true =>
     have he := HE2.out
     rw [if_pos HLA.out, HCC.out] at he
     have HE3 := Aside0.mk he
     clear he HE2
     go_wp2
     (try simp only [Act.put, List.setIfInBounds_toArray, List.set_cons_zero, List.set_cons_succ])
     go_ret3
     refine ⟨.slice A4 (out.length + 1) c4, congrArg (fun z => Ending.returned (Value.tuple #[.slice A4 (out.length + 1) c4, .int .i64 z, .int .i64 0])) HE3.out.2, ?_, HB0.out.trans (HB.out.mono HB0.out.size)⟩
     rw [← HE3.out.1]
     have hfin := Kd.R_lower HO.out (show w.heap.size ≤ bW by have := HB0.out.size; have := HBW.out; omega)
     simp only [List.length_append, List.length_singleton] at hfin
     exact hfin
    | false =>
     have he := HE2.out
     rw [if_neg (by rw [HLA.out]; decide), HCC.out] at he
     have hnb := nxt_lt L x.f1 xt0 xt1 HLA.out
     have HE3 : Aside0 ((out ++ [x]) ++ (lateG L W D d' (nxt L x.f1) (num + 1) (flagP L x.f1)).1 = late.1 ∧ (cost + cc) + (lateG L W D d' (nxt L x.f1) (num + 1) (flagP L x.f1)).2 = late.2) := ⟨by rw [List.append_assoc]; exact he.1, by rw [Int.add_assoc]; exact he.2⟩
     clear he HE2
     obtain ⟨q1, hq1⟩ : ∃ q, nxt L x.f1 = q := ⟨_, rfl⟩
     rw [hq1] at hnb HE3 HL26
     have hm1 : L.length - q1.toNat < L.length - fr.toNat := by omega
     have hm2 : L.length - (intOf (.int .i64 q1)).toNat < L.length - (intOf (.int .i64 fr)).toNat := hm1
     have HMS := Aside0.mk hm2
     have HR1 : Aside0 (0 ≤ q1 ∧ q1 ≤ (L.length : Int) ∧ 0 ≤ num + 1 ∧ num + 1 + (d' : Int) = (L.length : Int) + 1 ∧ (L.length : Int) - q1 < d' ∧ ((out ++ [x]).length : Int) = num + 1 ∧ (-(2300000000000 * (num + 1)) ≤ cost + cc ∧ cost + cc ≤ 2300000000000 * (num + 1))) := ⟨by omega, by omega, by omega, by omega, by omega, by rw [List.length_append, List.length_singleton]; omega, by omega⟩
     clear hq1 hm1 hm2
     obtain ⟨wn, wn'⟩ := HWN.out
     go_upto_region 17 with (fail)
     (try simp only [Act.put, List.setIfInBounds_toArray, List.set_cons_zero, List.set_cons_succ])
     have HB1 := Aside0.mk (below_drew1 HB.out)
     have H150 := Aside0.mk (blk_below H15.out (below_drew1 (Below.refl wl.heap.size wl)))
     have HO0 := Aside0.mk (Kd.R_below HO.out (below_drew1 (Below.refl wl.heap.size wl)))
     refine start_ (n := 10) (S := fun w' => w'.cell? ⟨g15, 1, none⟩ = some (.int .i64 x.f1)) (ds := []) #[false, false, false, false, false, false, false, false, false, false] (by kernel_rfl) rfl rfl ((blk_cell H150.out 1).trans rfl) (fun hHeld => ?_)
     generalize wl.drew = wd at HB1 H150 HO0 hHeld ⊢
     clear HB H15 HO
     have HB := HB1
     have H15 := H150
     have HO := HO0
     clear HB1 H150 HO0
     refine pure_ (i := 0) (N := some 69) (v := ?_) (a' := ?_) #[true, false, false, false, false, false, false, false, false, false] rfl rfl (by kernel_rfl) (fun _ _ _ h => h) (Or.inl ⟨by rfl, ?_⟩) ?_ ?_
     rotate_left
     · intro w'
       go_simp
       with_reducible rfl
     rotate_left
     · simp only [Act.put, List.setIfInBounds_toArray, List.set_cons_zero, List.set_cons_succ, i64_w, i32_w]
       rfl
     refine pure_ (i := 1) (N := some 70) (v := ?_) (a' := ?_) #[true, true, false, false, false, false, false, false, false, false] rfl rfl (by kernel_rfl) (fun _ _ _ h => h) (Or.inl ⟨by rfl, ?_⟩) ?_ ?_
     rotate_left
     · intro w'
       go_simp
       with_reducible rfl
     rotate_left
     · simp only [Act.put, List.setIfInBounds_toArray, List.set_cons_zero, List.set_cons_succ, i64_w, i32_w]
       rfl
     refine pure_ (i := 4) (N := some 73) (v := ?_) (a' := ?_) #[true, true, false, false, true, false, false, false, false, false] rfl rfl (by kernel_rfl) (fun _ _ _ h => h) (Or.inl ⟨by rfl, ?_⟩) ?_ ?_
     rotate_left
     · intro w'
       go_simp
       with_reducible rfl
     rotate_left
     · simp only [Act.put, List.setIfInBounds_toArray, List.set_cons_zero, List.set_cons_succ, i64_w, i32_w]
       rfl
     refine pure_ (i := 5) (N := some 74) (v := ?_) (a' := ?_) #[true, true, false, false, true, true, false, false, false, false] rfl rfl (by kernel_rfl) (fun _ _ _ h => h) (Or.inl ⟨by rfl, ?_⟩) ?_ ?_
     rotate_left
     · intro w'
       go_simp
       with_reducible rfl
     rotate_left
     · simp only [Act.put, List.setIfInBounds_toArray, List.set_cons_zero, List.set_cons_succ, i64_w, i32_w]
       rfl
     refine take_ (i := 2) (N := some 71) (v := ?_) (a' := ?_) #[true, true, true, false, true, true, false, false, false, false] rfl rfl (by kernel_rfl) (fun _ _ _ h => h) (Or.inl ⟨by rfl, ?_⟩) hHeld ?_ ?_
     rotate_left
     · intro w' s0
       go_simp
       with_reducible rfl
     rotate_left
     · simp only [Act.put, List.setIfInBounds_toArray, List.set_cons_zero, List.set_cons_succ, i64_w, i32_w]
       rfl
     refine take_ (i := 6) (N := some 75) (v := ?_) (a' := ?_) #[true, true, true, false, true, true, true, false, false, false] rfl rfl (by kernel_rfl) (fun _ _ _ h => h) (Or.inl ⟨by rfl, ?_⟩) hHeld ?_ ?_
     rotate_left
     · intro w' s0
       go_simp
       with_reducible rfl
     rotate_left
     · simp only [Act.put, List.setIfInBounds_toArray, List.set_cons_zero, List.set_cons_succ, i64_w, i32_w]
       rfl
     refine one_ (i := 3) (N := some 72) #[true, true, true, true, true, true, true, false, false, false] rfl rfl (by kernel_rfl) (by decide) (fun K hK => ?_)
     refine goes_ Try.func26 (by kernel_rfl) rfl #[.pointer (some ⟨g, 0, none⟩), .int .i64 x.f1] (by rfl) rfl rfl (by simp only [List.map_toArray, List.map_cons, List.map_nil]; rfl) ?_
     with_reducible refine (HL26.out _ HB.out).mono ?_
     rintro e w3 ⟨rfl, rfl⟩
     refine ⟨_, rfl, ?_⟩
     refine hK.out _ _ ((blk_cell H15.out 1).trans rfl) (fun hHeld => ?_)
     clear hK K
     refine norm_ (a' := ?_) ?_ ?_
     rotate_left
     · show Act.put _ (some 72) _ = _
       simp only [Act.put, List.setIfInBounds_toArray, List.set_cons_zero, List.set_cons_succ, i64_w, i32_w]
       rfl
     refine one_ (i := 7) (N := some 76) #[true, true, true, true, true, true, true, true, false, false] rfl rfl (by kernel_rfl) (by decide) (fun K hK => ?_)
     refine goes_ Try.func27 (by kernel_rfl) rfl #[.pointer (some ⟨g, 0, none⟩), .int .i64 x.f1] (by rfl) rfl rfl (by simp only [List.map_toArray, List.map_cons, List.map_nil]; rfl) ?_
     with_reducible refine (HL27.out _ HB.out).mono ?_
     rintro e w3 ⟨rfl, rfl⟩
     refine ⟨_, rfl, ?_⟩
     refine hK.out _ _ ((blk_cell H15.out 1).trans rfl) (fun hHeld => ?_)
     clear hK K
     refine norm_ (a' := ?_) ?_ ?_
     rotate_left
     · show Act.put _ (some 76) _ = _
       simp only [Act.put, List.setIfInBounds_toArray, List.set_cons_zero, List.set_cons_succ, i64_w, i32_w]
       rfl
     refine pure_ (i := 8) (N := some 11) (v := ?_) (a' := ?_) #[true, true, true, true, true, true, true, true, true, false] rfl rfl (by kernel_rfl) (fun _ _ _ h => h) (Or.inl ⟨by rfl, ?_⟩) ?_ ?_
     rotate_left
     · intro w'
       go_simp
       with_reducible rfl
     rotate_left
     · simp only [Act.put, List.setIfInBounds_toArray, List.set_cons_zero, List.set_cons_succ, i64_w, i32_w]
       rfl
     refine pure_ (i := 9) (N := some 12) (v := ?_) (a' := ?_) #[true, true, true, true, true, true, true, true, true, true] rfl rfl (by kernel_rfl) (fun _ _ _ h => h) (Or.inl ⟨by rfl, ?_⟩) ?_ ?_
     rotate_left
     · intro w'
       go_simp
       with_reducible rfl
     rotate_left
     · simp only [Act.put, List.setIfInBounds_toArray, List.set_cons_zero, List.set_cons_succ, i64_w, i32_w]
       rfl
     refine done_ (by kernel_rfl) ?_
     go_wp2
     go_roundw
     case rel => exact ⟨q1, num + 1, cost + cc, flagP L x.f1, out ++ [x], d', rfl, rfl, rfl, by first | rfl | rw [wn], HR1.out.1, HR1.out.2.1, HR1.out.2.2.1, HR1.out.2.2.2.1, HR1.out.2.2.2.2.1, HR1.out.2.2.2.2.2.1, HR1.out.2.2.2.2.2.2, HE3, HB, ⟨by have h := HO.out; simp only [List.length_append, List.length_singleton] at h; exact h⟩⟩
     case measure => exact HMS.out
end
end Go.Proofs.Ythapclmfkjldaaa.HandLN
