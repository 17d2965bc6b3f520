import Derived.Test.YthapclmfkjldaaaHandLNm
namespace Go.Proofs.Ythapclmfkjldaaa.HandLN
set_option linter.unusedSectionVars false
set_option linter.unusedVariables false
set_option linter.unusedSimpArgs false
open Go.Proofs.Ythapclmfkjldaaa.Lib (w64)
open Go.RowKit Go.Proofs.YthapclmfkjldaaaW.PrintWords Go.Proofs.YthapclmfkjldaaaW.PrintLast Go.Proofs.YthapclmfkjldaaaW.PrintMore Go.Proofs.Ythapclmfkjldaaa.QLN Go.Proofs.Ythapclmfkjldaaa.LinesP
attribute [local go_sem] max2_int min2_int max_two min_two
theorem endsR_ev (L : List S49) (W : List Int) (D : Int) (hF : Fine L) (hG : Glue L) (w1 : 1 ≤ W.length) (w2 : W.length ≤ 20) (f num : Int) (f0 : 0 ≤ f) (f1 : f ≤ L.length) (n0 : 0 ≤ num) : Ev (fun k => chanceryref3_Ends.f k L W D f num) (endsE L W f num) := by
 have h1 := ends_ev L W D hF w1 w2 f num f0 n0 (L.length + 2) f [] true (Int.le_refl _) (by omega) (by omega) (by simp)
 have h2 := ends_ref L W hF hG f num f0 (L.length + 2) f [] true (Int.le_refl _) (by simp)
 rw [← h2] at h1
 exact h1
section
variable (L : List S49) (W : List Int) (D : Int) (hF : Fine L) (hG : Glue L) (hS : FineS W D)
include hF hG hS
set_option maxHeartbeats 8000000 in
set_option maxRecDepth 100000 in
theorem late_ok (A0 : Option Addr) (c0 : Nat) (A1 : Option Addr) (c1 : Nat) (w : World) (hL : Kd.C k49 w A0 L.length L) (hc : L.length ≤ c0) (hW0 : kI.C w A1 W.length W) (hcw : W.length ≤ c1) :
    Calls Try.prog 16 #[.slice A0 L.length c0, .agg #[.slice A1 W.length c1, .int .i64 D]] w fun e w' => ∃ v : Value, e = .returned (.tuple #[v, .int .i64 (lateP L W D).2]) ∧ Kd.R k41 41 w' w.heap.size (fun _ => True) v (lateP L W D).1 ∧ Below w.heap.size w w' := by
 have hu49 := Try.underlying49
 have hu25 := Try.underlying25
 have hu41 := Try.underlying41
 have hn := hF.1
 have hin : L.length ≤ 1000000 := by omega
 obtain ⟨w1, w2, hW, hD⟩ := hS
 have hbb := begL_bd L
 have HL := Aside0.mk hL
 have HW0 := Aside0.mk hW0
 have HF := Aside0.mk hF
 have HWd := Aside0.mk hW
 have HG := Aside0.mk hG
 have HB0 := Aside0.mk (Below.refl w.heap.size w)
 have hbp := begin_pure L hn L.length (Nat.le_refl _)
 rw [show (L.length : Int) - (L.length : Int) = 0 by omega] at hbp
 obtain ⟨kb, hkb⟩ := hbp.rounds
 have hkb' : chanceryref3_begin.f kb L 0 = some (begL L) := hkb
 have HBG0 := Aside0.mk (fun W2 h1 => chanceryref3_begin.calls kb A0 c0 L 0 (begL L) W2 h1 hc hkb')
 clear hbp hkb hkb'
 obtain ⟨bg, hbg⟩ : ∃ q, begL L = q := ⟨_, rfl⟩
 rw [hbg] at hbb HBG0
 obtain ⟨late, hlate⟩ : ∃ q, lateP L W D = q := ⟨_, rfl⟩
 rw [hlate]
 have HWAY : Aside0 (lateG L W D (L.length + 1) bg 0 false = late) := ⟨by rw [← hbg]; exact hlate⟩
 clear hbg hlate
 obtain ⟨hbb0, hbb1⟩ := hbb
 clear hL hW0 hF hW hG
 go_enter Try.func16, Try.ntmps16
 go_upto_region 3 with (first
  | ((with_reducible refine gate_dst (N := 3) rfl ?_); refine box_event ?hg (N := 3) ?hd (cs := #[.slice A1 W.length c1, .int .i64 D]) (t := 25) ?hr ?_; (case hd => rfl); (case hg => rfl); (case hr => first | (go_simp; done) | (go_simp; rfl)); intro g3 hg wb3 hbox hb; (have hbb3 := below_step HB0.out hb); clear HB0; (have HB0 := Aside0.mk hbb3); (have H3 := Aside0.mk hbox); clear hg hbox hb hbb3)
  | (go_at_call 29; refine (HBG0.out _ (Kd.C_below HL.out HB0.out)).mono ?_; rintro e WB ⟨rfl, hdn⟩; (have hb := hdn.below); (have hbb3 := below_step HB0.out hb); (have h3 := blk_below H3.out hb); (have h30 : WB.cell? ⟨g3, 0, none⟩ = some (.slice A1 W.length c1) := (blk_cell h3 0).trans rfl); (have h31 : WB.cell? ⟨g3, 1, none⟩ = some (.int .i64 D) := (blk_cell h3 1).trans rfl); clear HB0 H3; (have HB0 := Aside0.mk hbb3); (have H30 := Aside0.mk h30); (have H31 := Aside0.mk h31); clear hb hbb3 h3 h30 h31 hdn))
 obtain ⟨bW, hbW⟩ : ∃ q, WB.heap.size = q := ⟨_, rfl⟩
 have HBW := Aside0.mk hbW
 clear hbW
 have HB := Aside0.mk (Below.refl WB.heap.size WB)
 have HLB := Aside0.mk (Kd.C_below HL.out HB0.out)
 have HWB := Aside0.mk (Kd.C_below HW0.out HB0.out)
 go_wp2
 go_loopw [6, 7, 8, 9, 10] (fun v6 v7 v8 v9 v10 w' => ∃ (fr num cost : Int) (fl : Bool) (out : List S41) (d : Nat), v7 = .int .i64 cost ∧ v8 = .int .i64 fr ∧ v9 = .bool fl ∧ v10 = .int .i64 num ∧ 0 ≤ fr ∧ fr ≤ (L.length : Int) ∧ 0 ≤ num ∧ num + (d : Int) = (L.length : Int) + 1 ∧ (L.length : Int) - fr < d ∧ (out.length : Int) = num ∧ (-(2300000000000 * num) ≤ cost ∧ cost ≤ 2300000000000 * num) ∧ Aside0 (out ++ (lateG L W D d fr num fl).1 = late.1 ∧ cost + (lateG L W D d fr num fl).2 = late.2) ∧ Aside0 (Below WB.heap.size WB w') ∧ Aside0 (Kd.R k41 41 w' bW (fun _ => True) v6 out)) (fun _ _ v8 _ _ _ => L.length - (intOf v8).toNat)
 case atStart => exact ⟨bg, 0, 0, false, [], L.length + 1, rfl, rfl, rfl, rfl, hbb0, hbb1, by omega, by omega, by omega, by rfl, by omega, ⟨by rw [HWAY.out]; rfl, by rw [HWAY.out]; exact Int.zero_add _⟩, HB, ⟨Kd.R_nil _ _ _ _ _⟩⟩
 case round =>
  clear HB
  obtain ⟨fr, num, cost, fl, out, d, rfl, rfl, rfl, rfl, hf0, hf1, hn0, hnd, hfd, hol, hcb, HE, HB, HO⟩ := hrel
  obtain ⟨Ao, co, rfl⟩ := Kd.R_slice HO.out
  have hnx : num ≤ 1000000 := by omega
  obtain ⟨d', rfl⟩ : ∃ d', d = d' + 1 := ⟨d - 1, by omega⟩
  have hne := endsE_ne L W fr num hf0 hf1
  have hem := endsE_mem L W fr num
  have he := HE.out
  unfold lateG at he
  obtain ⟨kE, hkE⟩ := (endsR_ev L W D HF.out HG.out w1 w2 fr num hf0 hf1 hn0).rounds
  obtain ⟨E, hE⟩ : ∃ E, endsE L W fr num = E := ⟨_, rfl⟩
  rw [hE] at hne hem he hkE
  have hL32 : ∀ W2, Below WB.heap.size WB W2 → Calls Try.prog 32 #[.slice A0 L.length c0, .agg #[.slice A1 W.length c1, .int .i64 D], .int .i64 fr, .int .i64 num] W2 fun e w' => ∃ v0_ : Value, e = .returned (v0_) ∧ Kd.R k41 41 w' W2.heap.size (fun _ => True) v0_ E ∧ Below W2.heap.size W2 w' := fun W2 h => chanceryref3_Ends.calls kE A0 c0 L A1 c1 W D fr num E W2 (Kd.C_below HLB.out h) hc (Kd.C_below HWB.out h) hcw hkE
  have HL32 := Aside0.mk hL32
  clear hL32 hkE hE
  have hEl : 0 < E.length := List.length_pos_iff.2 hne
  have hxm := lastE_mem E hne
  obtain ⟨x, hx⟩ : ∃ x, lastE E = x := ⟨_, rfl⟩
  rw [hx] at hxm he
  have hx' : rd_T41 E ((E.length : Int) - 1) = x := hx
  have HX := Aside0.mk hx'
  have HE2 := Aside0.mk he
  obtain ⟨t, ht0, ht1, hxt⟩ := hem x hxm
  have hxb := ln_bd L W HF.out w1 HWd.out fr num t hf0 ht0 ht1 hn0
  rw [← hxt] at hxb
  have hx1t : x.f1 = t := by rw [hxt]; rfl
  have xt0 : 0 ≤ x.f1 := by omega
  have xtf : fr ≤ x.f1 := by omega
  have xt1 : x.f1 ≤ (L.length : Int) := by omega
  obtain ⟨hcb1, hcb2⟩ := costR_bd L D HF.out hD x fl xt0 hxb.1 hxb.2.1.1 hxb.2.2.1 hxb.2.2.2
  have HXB := Aside0.mk hxb
  clear hx hx' hxm hxt hxb hx1t ht0 ht1 t he HE hem hne hcb1
  obtain ⟨cc, hcc⟩ : ∃ q, costR L D x fl = q := ⟨_, rfl⟩
  rw [hcc] at hcb2
  have HCC := Aside0.mk hcc
  obtain ⟨q1, hq1⟩ : ∃ q, nxt L x.f1 = q := ⟨_, rfl⟩
  obtain ⟨la, hla⟩ : ∃ b, (q1 == (L.length : Int)) = b := ⟨_, rfl⟩
  have HLA : Aside0 (lastP L x.f1 = la) := ⟨by unfold lastP; rw [hq1]; exact hla⟩
  obtain ⟨kf, hkf⟩ := (follow_pure L hn x.f1 xt0 xt1).rounds
  rw [show afterP L (begT L (-1)) x.f1 = q1 from hq1] at hkf
  have HQ1 := Aside0.mk hq1
  have hcq : wrap64 (cost + cc) = cost + cc := w64 (by omega) (by omega)
  have hcq' := (i64_w (cost + cc)).trans hcq
  have HCQ := Aside0.mk (And.intro hcq hcq')
  have wn : wrap64 (num + 1) = num + 1 := w64 (by omega) (by omega)
  have wn' := (i64_w (num + 1)).trans wn
  have HWN := Aside0.mk (And.intro wn wn')
  have HNB := Aside0.mk (nxt_bd L x.f1 xt0 xt1)
  have HOL : Aside0 (out.length ≤ 8001) := ⟨by omega⟩
  have hL33 : ∀ W2, Below WB.heap.size WB W2 → Calls Try.prog 33 #[.slice A0 L.length c0, .agg #[.slice A1 W.length c1, .int .i64 D], .agg #[.int .i64 x.f0, .int .i64 x.f1, .int .i64 x.f2, .int .i64 x.f3, .int .i64 x.f4, .int .i64 x.f5], .bool fl] W2 fun e w' => e = .returned (.int .i64 cc) ∧ Below W2.heap.size W2 w' := fun W2 h => (lineCost_ok A0 c0 L A1 c1 W.length D x.f0 x.f1 x.f2 x.f3 x.f4 x.f5 fl W2 (Kd.C_below HLB.out h) hc HF.out hD xt0 xt1 HXB.out.1 HXB.out.2.1 HXB.out.2.2.1 HXB.out.2.2.2).mono fun e w' ⟨h1, h2⟩ => ⟨h1.trans (by rw [show costR L D ⟨x.f0, x.f1, x.f2, x.f3, x.f4, x.f5⟩ fl = cc from HCC.out]), h2⟩
  have HL33 := Aside0.mk hL33
  have hL34 : ∀ W2, Below WB.heap.size WB W2 → Calls Try.prog 34 #[.slice A0 L.length c0, .int .i64 x.f1] W2 fun e w' => e = .returned (.int .i64 q1) ∧ Drawn0 W2 w' := fun W2 h => chanceryref3_follow.calls kf A0 c0 L x.f1 q1 W2 (Kd.C_below HLB.out h) hc hkf
  have HL34 := Aside0.mk hL34
  clear hcc hq1 hkf hcq hcq' wn wn' hL33 hL34
  have h30 := (HB.out.cell (World.block_lt_of_cell? _ _ H30.out)).trans H30.out
  have h31 := (HB.out.cell (World.block_lt_of_cell? _ _ H31.out)).trans H31.out
  go_upto_region 6 with (go_at_call 32; refine (HL32.out _ HB.out).mono ?_; rintro e wE ⟨vE, rfl, ho, hb⟩; obtain ⟨Ae, ce, rfl⟩ := Kd.R_slice ho; (have hbb3 := below_step HB.out hb); (have hoo := Kd.R_below HO.out hb); clear HB HO; (have HB := Aside0.mk hbb3); (have HO := Aside0.mk hoo); (have HEO := Aside0.mk ho); clear hb hbb3 hoo ho)
  clear h30 h31
  obtain ⟨-, -, hC⟩ := Kd.R_reads' HEO.out
  have hemax : E.length ≤ 9223372036854775807 := R_max HEO.out
  obtain ⟨ix, hix⟩ : ∃ q, (E.length : Int) - 1 = q := ⟨_, rfl⟩
  have yl : wrap64 ((E.length : Int) - 1) = ix := (w64 (by omega) (by omega)).trans hix
  have yl' := (i64_w ((E.length : Int) - 1)).trans yl
  have hlt1 : ix < (E.length : Int) := by omega
  have hge1 : 0 ≤ ix := by omega
  have hX := HX.out
  rw [hix] at hX
  clear hix HX
  have HX := Aside0.mk hX
  clear hX
  obtain ⟨ade, ea, hx0, hx1, hx2, hx3, hx4, hx5⟩ := at_T41 hC ix hge1 hlt1
  subst ea
  rw [HX.out] at hx0 hx1 hx2 hx3 hx4 hx5
  clear hC hemax
  go_upto_region 7 with (first
   | ((with_reducible refine gate_dst (N := 12) rfl ?_); refine box_event ?hg (N := 12) ?hd (cs := #[.int .i64 0, .int .i64 0, .int .i64 0, .int .i64 0, .int .i64 0, .int .i64 0]) (t := 41) ?hr ?_; (case hd => rfl); (case hg => rfl); (case hr => first | (go_simp; done) | (go_simp; rfl)); intro g15 hg wb15 hbox hb; (have hoo := Kd.R_below (Kd.R_elderB HO.out g15 (Nat.le_of_eq hg.symm)) hb); (have hge : WB.heap.size ≤ g15 := by rw [hg]; exact HB.out.size); (have hbb3 := below_step HB.out hb); clear HB HO; (have HB := Aside0.mk hbb3); (have HO := Aside0.mk hoo); (have H15 := Aside0.mk hbox); (have G15 := Aside0.mk hge); clear hg hbox hb hbb3 hge hoo)
   | ((with_reducible refine gate_store (t := 41) (p := 12) rfl ?_); refine agg_event (w0 := WB) rfl rfl 41 (.tmp 12) (.tmp 27) rfl (g := g15) (e := 41) (.agg #[.int .i64 x.f0, .int .i64 x.f1, .int .i64 x.f2, .int .i64 x.f3, .int .i64 x.f4, .int .i64 x.f5]) [.int .i64 x.f0, .int .i64 x.f1, .int .i64 x.f2, .int .i64 x.f3, .int .i64 x.f4, .int .i64 x.f5] rfl rfl rfl (by kernel_rfl) H15.out rfl (by simp only [List.mem_cons, List.not_mem_nil, or_false, forall_eq_or_imp, forall_eq]; exact ⟨rfl, rfl, rfl, rfl, rfl, rfl⟩) HB.out G15.out ?_; intro ws15 hbox hb hgr; (have hoo := Kd.R_grown HO.out hgr (fun k hk e => hk.2 (by injection e))); clear HB H15 HO; (have HB := Aside0.mk hb); (have H15 := Aside0.mk hbox); (have HO := Aside0.mk hoo); clear hbox hb hgr hoo))
  clear hx0 hx1 hx2 hx3 hx4 hx5 yl yl' HEO
  obtain ⟨hs0, hs1, hs2, hs3, hs4, hs5⟩ := Go.Proofs.Ythapclmfkjldaaa.Cells.cells6 H15.out
  go_upto_region 8 with ((with_reducible refine gate_builtin (b := .append) (xs := #[.tmp 28, .tmp 30]) rfl ?_); at_builtin; refine Kd.R_append k41 (w0 := ws15) bW rfl (.tmp 28) (.tmp 30) 27 41 (.agg #[(.int .i64 0), (.int .i64 0), (.int .i64 0), (.int .i64 0), (.int .i64 0), (.int .i64 0)]) 48 rfl Try.underlying27 info41 rfl (by decide) (by omega) _ out (⟨x.f0, x.f1, x.f2, x.f3, x.f4, x.f5⟩ : S41) [.int .i64 x.f0, .int .i64 x.f1, .int .i64 x.f2, .int .i64 x.f3, .int .i64 x.f4, .int .i64 x.f5] (fun _ => True) (fun _ => False) rfl rfl ?aP (fun _ hk => hk.elim) ?aF ?aO ?aB ?aS ?aL ?_; (case aP => exact k41_mkM _ _ _ (⟨x.f0, x.f1, x.f2, x.f3, x.f4, x.f5⟩ : S41)); (case aB => exact Below.refl _ _); (case aF => exact (fun _ _ => trivial)); (case aO => exact Kd.R_mono HO.out (fun _ _ => trivial)); (case aS => have h1 := HB.out.size; have h2 := HBW.out; omega); (case aL => have := HOL.out; omega); intro v9 wa ho hb hgr hat; (have hbn : Below WB.heap.size WB wa := pw_below_grown HB.out _ HB.out.size hgr (fun k hk => by have := Kd.R_base HO.out k hk; have := HBW.out; omega)); (have h15 := (hgr.block g15 (blk_lt H15.out) (fun e => (HO.out.1 g15 e.symm).2 rfl)).trans H15.out); obtain ⟨A4, c4, rfl⟩ := Kd.R_slice ho; clear HB HO H15 hb hgr hat; (have HB := Aside0.mk hbn); (have HO := Aside0.mk ho); (have H15 := Aside0.mk h15); clear hbn ho h15)
  clear hs0 hs1 hs2 hs3 hs4 hs5
  obtain ⟨hs0, hs1, hs2, hs3, hs4, hs5⟩ := Go.Proofs.Ythapclmfkjldaaa.Cells.cells6 H15.out
  obtain ⟨hcq, hcq'⟩ := HCQ.out
  have h30 := (HB.out.cell (World.block_lt_of_cell? _ _ H30.out)).trans H30.out
  have h31 := (HB.out.cell (World.block_lt_of_cell? _ _ H31.out)).trans H31.out
  go_upto_region 9 with (go_at_call 33; refine (HL33.out _ HB.out).mono ?_; rintro e wl ⟨rfl, hb⟩; (have hbb3 := below_step HB.out hb); (have hoo := Kd.R_below HO.out hb); (have h15 := blk_below H15.out hb); clear HB HO H15; (have HB := Aside0.mk hbb3); (have HO := Aside0.mk hoo); (have H15 := Aside0.mk h15); clear hb hbb3 hoo h15)
  clear hs0 hs1 hs2 hs3 hs4 hs5 hcq hcq' h30 h31
  obtain ⟨hs0, hs1, hs2, hs3, hs4, hs5⟩ := Go.Proofs.Ythapclmfkjldaaa.Cells.cells6 H15.out
  go_upto_if 46 with (go_at_call 34; refine (HL34.out _ HB.out).mono ?_; rintro e wl ⟨rfl, hdn⟩; (have hb := hdn.below); (have hbb3 := below_step HB.out hb); (have hoo := Kd.R_below HO.out hb); (have h15 := blk_below H15.out hb); clear HB HO H15; (have HB := Aside0.mk hbb3); (have HO := Aside0.mk hoo); (have H15 := Aside0.mk h15); clear hb hbb3 hoo h15 hdn)
  clear hs0 hs1 hs2 hs3 hs4 hs5
  cases la with
  | true =>
   have he := HE2.out
   rw [if_pos HLA.out, HCC.out] at he
   have HE3 := Aside0.mk he
   clear he HE2
   go_wp2
   (try simp only [Act.put, List.setIfInBounds_toArray, List.set_cons_zero, List.set_cons_succ])
   go_ret2
   refine ⟨.slice A4 (out.length + 1) c4, congrArg (fun z => Ending.returned (Value.tuple #[.slice A4 (out.length + 1) c4, .int .i64 z])) HE3.out.2, ?_, HB0.out.trans (HB.out.mono HB0.out.size)⟩
   rw [← HE3.out.1]
   have hfin := Kd.R_lower HO.out (show w.heap.size ≤ bW by have := HB0.out.size; have := HBW.out; omega)
   simp only [List.length_append, List.length_singleton] at hfin
   exact hfin
  | false =>
   have he := HE2.out
   rw [if_neg (by rw [HLA.out]; decide), HCC.out] at he
   have hnb := nxt_lt L x.f1 xt0 xt1 HLA.out
   rw [HQ1.out] at hnb he
   have xlt : x.f1 < (L.length : Int) := by omega
   obtain ⟨adl, el, hp0, hp1, hp2, hp3, hp4, hp5⟩ := at_T49 (Kd.C_below HLB.out HB.out) x.f1 xt0 xlt
   subst el
   have hfl : flagP L x.f1 = (rd_T49 L x.f1).f5 := by unfold flagP; rw [decide_eq_true xlt, Bool.true_and]
   obtain ⟨p5, hp5e⟩ : ∃ q, (rd_T49 L x.f1).f5 = q := ⟨_, rfl⟩
   rw [hp5e] at hp5 hfl
   rw [hfl] at he
   have HE3 : Aside0 ((out ++ [x]) ++ (lateG L W D d' q1 (num + 1) p5).1 = late.1 ∧ (cost + cc) + (lateG L W D d' q1 (num + 1) p5).2 = late.2) := ⟨by rw [List.append_assoc]; exact he.1, by rw [Int.add_assoc]; exact he.2⟩
   clear he HE2 hp0 hp1 hp2 hp3 hp4 hp5e hfl
   have hm1 : L.length - q1.toNat < L.length - fr.toNat := by omega
   have hm2 : L.length - (intOf (.int .i64 q1)).toNat < L.length - (intOf (.int .i64 fr)).toNat := hm1
   have HMS := Aside0.mk hm2
   have HR1 : Aside0 (0 ≤ q1 ∧ q1 ≤ (L.length : Int) ∧ 0 ≤ num + 1 ∧ num + 1 + (d' : Int) = (L.length : Int) + 1 ∧ (L.length : Int) - q1 < d' ∧ ((out ++ [x]).length : Int) = num + 1 ∧ (-(2300000000000 * (num + 1)) ≤ cost + cc ∧ cost + cc ≤ 2300000000000 * (num + 1))) := ⟨by omega, by omega, by omega, by omega, by omega, by rw [List.length_append, List.length_singleton]; omega, by omega⟩
   clear hm1 hm2
   obtain ⟨wn, wn'⟩ := HWN.out
   obtain ⟨hs0, hs1, hs2, hs3, hs4, hs5⟩ := Go.Proofs.Ythapclmfkjldaaa.Cells.cells6 H15.out
   go_wp2
   go_roundw
   case rel => exact ⟨q1, num + 1, cost + cc, p5, out ++ [x], d', rfl, rfl, rfl, by first | rfl | rw [wn], HR1.out.1, HR1.out.2.1, HR1.out.2.2.1, HR1.out.2.2.2.1, HR1.out.2.2.2.2.1, HR1.out.2.2.2.2.2.1, HR1.out.2.2.2.2.2.2, HE3, HB, ⟨by have h := HO.out; simp only [List.length_append, List.length_singleton] at h; exact h⟩⟩
   case measure => exact HMS.out
end
end Go.Proofs.Ythapclmfkjldaaa.HandLN
