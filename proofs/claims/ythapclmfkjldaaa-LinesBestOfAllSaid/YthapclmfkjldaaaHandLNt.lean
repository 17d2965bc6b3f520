import Derived.Test.YthapclmfkjldaaaPureLNg
import Derived.Test.YthapclmfkjldaaaPureLNf
import Derived.Test.YthapclmfkjldaaaHandLNg
namespace Go.Proofs.Ythapclmfkjldaaa.HandLN
set_option linter.unusedSectionVars false
set_option linter.unusedVariables false
set_option linter.unusedSimpArgs false
open Go.Proofs.Ythapclmfkjldaaa.Lib (w64)
open Go.RowKit Go.Proofs.YthapclmfkjldaaaW.PrintWords Go.Proofs.YthapclmfkjldaaaW.PrintLast Go.Proofs.YthapclmfkjldaaaW.PrintMore Go.Proofs.Ythapclmfkjldaaa.QLN Go.Proofs.Ythapclmfkjldaaa.LinesP Go.Proofs.Ythapclmfkjldaaa.Cells
attribute [local go_sem] max2_int min2_int max_two min_two
structure SP (WB w : World) (gp : Nat) (w' : World) (s : Int) : Prop where
 below : Below WB.heap.size WB w'
 grown : w.grownBy w' (some gp)
 cell : w'.heap[gp]? = some (.cells #[.int .i64 s] 3 (0, 0))
section
variable {WB w w1 w2 : World} {gp : Nat} {s s2 : Int}
theorem SP.step (h : SP WB w gp w1 s) (hb : Below w1.heap.size w1 w2) : SP WB w gp w2 s :=
 ⟨below_step h.below hb, h.grown.trans ⟨hb.os, hb.tape, hb.output, hb.size, fun k hk _ => hb.block k hk⟩, blk_below h.cell hb⟩
theorem SP.put (h : SP WB w gp w1 s) (hb : Below WB.heap.size WB w2) (hg : w1.grownBy w2 (some gp)) (hc : w2.heap[gp]? = some (.cells #[.int .i64 s2] 3 (0, 0))) : SP WB w gp w2 s2 := ⟨hb, h.grown.trans hg, hc⟩
theorem SP.far (h : SP WB w gp w1 s) (hb : Below WB.heap.size WB w2) {g : Nat} (hg : w1.grownBy w2 (some g)) (hge : w.heap.size ≤ g) (hne : gp ≠ g) : SP WB w gp w2 s :=
 ⟨hb, ⟨hg.os.trans h.grown.os, hg.tape.trans h.grown.tape, hg.output.trans h.grown.output, Nat.le_trans h.grown.size hg.size, fun k hk hn => (hg.block k (Nat.lt_of_lt_of_le hk h.grown.size) (fun e => by injection e with e; omega)).trans (h.grown.block k hk hn)⟩, (hg.block gp (blk_lt h.cell) (fun e => hne (by injection e))).trans h.cell⟩
theorem SP.own (h : SP WB w gp w1 s) (hb : Below WB.heap.size WB w2) {r : Option Nat} (hg : w1.grownBy w2 r) (hge : ∀ k, r = some k → w.heap.size ≤ k) (hne : some gp ≠ r) : SP WB w gp w2 s :=
 ⟨hb, ⟨hg.os.trans h.grown.os, hg.tape.trans h.grown.tape, hg.output.trans h.grown.output, Nat.le_trans h.grown.size hg.size, fun k hk hn => (hg.block k (Nat.lt_of_lt_of_le hk h.grown.size) (fun e => by have := hge k e.symm; omega)).trans (h.grown.block k hk hn)⟩, (hg.block gp (blk_lt h.cell) hne).trans h.cell⟩
end
theorem eqN27 (w : World) : Sem.run Try.prog (binOp BinOp.eql 27 (.slice none 0 0) (.slice none 0 0)) w = .ok (.bool true) w := by kernel_rfl
theorem eqS27 (b n c : Nat) (w : World) : Sem.run Try.prog (binOp BinOp.eql 27 (.slice (some ⟨b, 0, none⟩) n c) (.slice none 0 0)) w = .ok (.bool false) w := by kernel_rfl
section
variable (L : List S49) (W : List Int) (D : Int) (hF : Fine L) (hG : Glue L) (hS : FineS W D) (WB : World) (A0 : Option Addr) (c0 : Nat) (A1 : Option Addr) (c1 gp : Nat) (hL : Kd.C k49 WB A0 L.length L) (hc : L.length ≤ c0) (hW0 : kI.C WB A1 W.length W) (hcw : W.length ≤ c1) (hgp : WB.heap.size ≤ gp)
include hF hG hS hL hc hW0 hcw hgp
set_option maxHeartbeats 100000000 in
set_option maxRecDepth 100000 in
theorem bf_ok (d : Nat) : ∀ (f num : Int) (fl : Bool) (w : World) (s0 : Int), 0 ≤ f → f ≤ L.length → 0 ≤ num → num + d ≤ 10000 → (L.length : Int) - f < d → Below WB.heap.size WB w → w.heap[gp]? = some (.cells #[.int .i64 s0] 3 (0, 0)) → 0 ≤ s0 → s0 ≤ 100000 →
    Calls Try.prog 28 #[.slice A0 L.length c0, .agg #[.slice A1 W.length c1, .int .i64 D], .int .i64 f, .int .i64 num, .bool fl, .pointer (some ⟨gp, 0, none⟩)] w fun e w' => ∃ (v : Value) (c s1 : Int), e = .returned (.tuple #[v, .int .i64 c]) ∧ SP WB w gp w' s1 ∧ -1 ≤ s1 ∧ s1 ≤ s0 ∧ (0 ≤ s1 → c = (bwG L W D d f num fl).2 ∧ Kd.R k41 41 w' w.heap.size (fun _ => True) v (bwG L W D d f num fl).1) := by
 induction d with
 | zero => intro f num fl w s0 f0 f1 n0 n1 hd; omega
 | succ d ih =>
 intro f num fl w s0 f0 f1 n0 n1 hd hBW hcell s00 s01
 have hu25 := Try.underlying25
 have hu41 := Try.underlying41
 have hu49 := Try.underlying49
 have hu27 := Try.underlying27
 have hn := hF.1
 obtain ⟨w1, w2, hW, hD⟩ := hS
 have IH := Aside0.mk ih
 have HF := Aside0.mk hF
 have HG := Aside0.mk hG
 have HWd := Aside0.mk hW
 have HD := Aside0.mk hD
 have HLB := Aside0.mk hL
 have HWB := Aside0.mk hW0
 have HND := Aside0.mk (And.intro n1 hd)
 have HB0 := Aside0.mk hBW.size
 have HS : Aside0 (SP WB w gp w s0) := ⟨⟨hBW, World.grownBy.refl w _, hcell⟩⟩
 obtain ⟨kE, hkE⟩ := (endsR_ev L W D hF hG w1 w2 f num f0 f1 n0).rounds
 have hem := endsE_mem L W f num
 have HBW : Aside0 ((bwG L W D (d + 1) f num fl) = (endsE L W f num).foldl (stepW L D fl fun x => bwG L W D d (nxt L x.f1) (num + 1) (flagP L x.f1)) ([], 0)) := ⟨rfl⟩
 obtain ⟨E, hE⟩ : ∃ E, endsE L W f num = E := ⟨_, rfl⟩
 rw [hE] at hkE hem HBW
 have HEM := Aside0.mk hem
 have HL32 := Aside0.mk (fun W2 (h : Below WB.heap.size WB W2) => chanceryref3_Ends.calls kE A0 c0 L A1 c1 W D f num E W2 (Kd.C_below hL h) hc (Kd.C_below hW0 h) hcw hkE)
 obtain ⟨s1, hs1⟩ : ∃ q, s0 - 1 = q := ⟨_, rfl⟩
 have ys : wrap64 (s0 - 1) = s1 := (w64 (by omega) (by omega)).trans hs1
 have ys' := (i64_w (s0 - 1)).trans ys
 have hs1b : -1 ≤ s1 ∧ s1 ≤ 100000 ∧ s1 ≤ s0 := by omega
 have HS1 := Aside0.mk hs1b
 have hcg : w.cell? ⟨gp, 0, none⟩ = some (.int .i64 s0) := (blk_cell hcell 0).trans rfl
 have HGP := Aside0.mk hgp
 clear ih hL hW0 hF hG hW hD hBW hcell hkE hem hE hs1 hs1b n1 hd hgp
 go_enter Try.func28, Try.ntmps28
 go_upto_region 2 with (first
  | ((with_reducible refine gate_dst (N := 7) rfl ?_); refine box_event ?hg (N := 7) ?hd (cs := #[.slice A1 W.length c1, .int .i64 D]) (t := 25) ?hr ?_; (case hd => rfl); (case hg => rfl); (case hr => first | (go_simp; done) | (go_simp; rfl)); intro g7 hg wb7 hbox hb; (have hss := SP.step HS.out hb); (have hne : gp ≠ g7 := by rw [hg]; exact Nat.ne_of_lt (blk_lt HS.out.cell)); (have hge : w.heap.size ≤ g7 := by rw [hg]; exact HS.out.grown.size); clear HS hcg; (have HS := Aside0.mk hss); (have H7 := Aside0.mk hbox); (have N7 := Aside0.mk hne); (have G7 := Aside0.mk hge); (have hcg : wb7.cell? ⟨gp, 0, none⟩ = some (.int .i64 s0) := (blk_cell HS.out.cell 0).trans rfl); clear hg hbox hb hss hne hge)
  | ((with_reducible refine gate_store (t := 3) (p := 27) rfl ?_); refine agg_event (w0 := WB) rfl rfl 3 (.tmp 27) (.tmp 26) rfl (g := gp) (e := 3) (.int .i64 s1) [.int .i64 s1] rfl (by first | rfl | (simp only [ys, ys']; rfl)) rfl (by kernel_rfl) HS.out.cell rfl (by simp only [List.mem_cons, List.not_mem_nil, or_false, forall_eq]; exact rfl) HS.out.below HGP.out ?_; intro wsp hbox hb hgr; (have hss := SP.put HS.out hb hgr hbox); (have h7 := (hgr.block g7 (blk_lt H7.out) (fun e => N7.out (by injection e with e; exact e.symm))).trans H7.out); clear HS H7 hcg; (have HS := Aside0.mk hss); (have H7 := Aside0.mk h7); (have hcg : wsp.cell? ⟨gp, 0, none⟩ = some (.int .i64 s1) := (blk_cell HS.out.cell 0).trans rfl); clear hbox hb hgr hss h7))
 by_cases z : s1 < 0
 · have zd : decide (s1 < 0) = true := decide_eq_true z
   go_wp2
   (try simp only [Act.put, List.setIfInBounds_toArray, List.set_cons_zero, List.set_cons_succ])
   go_ret2
   exact ⟨_, _, s1, rfl, HS.out, HS1.out.1, HS1.out.2.2, fun h => by omega⟩
 · have zd : decide (s1 < 0) = false := decide_eq_false z
   have z' : 0 ≤ s1 := by omega
   have h70 : wsp.cell? ⟨g7, 0, none⟩ = some (.slice A1 W.length c1) := (blk_cell H7.out 0).trans rfl
   have h71 : wsp.cell? ⟨g7, 1, none⟩ = some (.int .i64 D) := (blk_cell H7.out 1).trans rfl
   have HPS : Aside0 (w.heap.size ≤ wsp.heap.size) := ⟨HS.out.grown.size⟩
   go_wp2_with (go_at_call 32; refine (HL32.out _ HS.out.below).mono ?_; rintro e wE ⟨vE, rfl, ho, hb⟩; obtain ⟨Ae, ce, rfl, hel, -⟩ := Kd.R_reads ho; (have hss := SP.step HS.out hb); (have h7 := blk_below H7.out hb); (have hoo := Kd.R_lower ho HPS.out); clear HS H7 hcg h70 h71; (have HS := Aside0.mk hss); (have H7 := Aside0.mk h7); (have HE := Aside0.mk hoo); clear hb hss h7 hoo ho hel)
   go_loopw [14, 15, 38] (fun v14 v15 v38 w' => ∃ (i sI : Int) (bl : List S41) (bc : Int), v38 = .int .i64 i ∧ v15 = .int .i64 bc ∧ 0 ≤ i ∧ i ≤ E.length ∧ 0 ≤ sI ∧ sI ≤ s1 ∧ Aside0 ((bl, bc) = (E.take i.toNat).foldl (stepW L D fl fun x => bwG L W D d (nxt L x.f1) (num + 1) (flagP L x.f1)) ([], 0)) ∧ Aside0 (bl = [] → v14 = .slice none 0 0) ∧ Aside0 (SP WB w gp w' sI) ∧ Aside0 (w'.heap[g7]? = some (.cells #[.slice A1 W.length c1, .int .i64 D] 25 (0, 0))) ∧ Aside0 (Kd.R k41 41 w' w.heap.size (fun _ => True) (.slice Ae E.length ce) E) ∧ Aside0 (Kd.R k41 41 w' w.heap.size (fun _ => True) v14 bl)) (fun _ _ v38 _ => E.length - (intOf v38).toNat)
   case atStart => exact ⟨0, s1, [], 0, rfl, rfl, Int.le_refl _, by omega, z', Int.le_refl _, ⟨rfl⟩, ⟨fun _ => rfl⟩, HS, H7, HE, ⟨Kd.R_nil _ _ _ _ _⟩⟩
   case round =>
    clear HS H7 HE z z' zd HPS
    obtain ⟨i, sI, bl, bc, rfl, rfl, i0, i1, sI0, sI1, HFO, HNIL, HS, H7, HE, HO⟩ := hrel
    have hemax : E.length ≤ 9223372036854775807 := R_max HE.out
    by_cases ci : i < (E.length : Int)
    · have cid : decide (i < (E.length : Int)) = true := decide_eq_true ci
      have ci' := eq_true ci
      have i0' := eq_true i0
      have wi : wrap64 (i + 1) = i + 1 := w64 (by omega) (by omega)
      have wi' := (i64_w (i + 1)).trans wi
      have HMS : Aside0 (E.length - (i + 1).toNat < E.length - i.toNat) := ⟨by omega⟩
      obtain ⟨-, -, hC⟩ := Kd.R_reads' HE.out
      obtain ⟨ade, ea, hx0, hx1, hx2, hx3, hx4, hx5⟩ := at_T41 hC i i0 ci
      subst ea
      have hxm : rd_T41 E i ∈ E := Lib.getD_mem i0 ci
      have htk : E.take (i + 1).toNat = E.take i.toNat ++ [rd_T41 E i] := by
       rw [show (i + 1).toNat = i.toNat + 1 by omega, List.take_add_one, List.getElem?_eq_getElem (by omega)]
       unfold rd_T41
       rw [List.getD_eq_getElem?_getD, List.getElem?_eq_getElem (by omega)]
       rfl
      obtain ⟨x, hx⟩ : ∃ x, rd_T41 E i = x := ⟨_, rfl⟩
      rw [hx] at hx0 hx1 hx2 hx3 hx4 hx5 hxm htk
      clear hx
      obtain ⟨t, ht0, ht1, hxt⟩ := HEM.out x hxm
      have hxb := ln_bd L W HF.out w1 HWd.out f num t f0 ht0 ht1 n0
      rw [← hxt] at hxb
      have hx1t : x.f1 = t := by rw [hxt]; rfl
      have xt0 : 0 ≤ x.f1 := by omega
      have xtf : f ≤ x.f1 := by omega
      have xt1 : x.f1 ≤ (L.length : Int) := by omega
      obtain ⟨hcb1, hcb2⟩ := costR_bd L D HF.out HD.out x fl xt0 hxb.1 hxb.2.1.1 hxb.2.2.1 hxb.2.2.2
      have HXB := Aside0.mk hxb
      have HFO1 : Aside0 ((E.take (i + 1).toNat).foldl (stepW L D fl fun x => bwG L W D d (nxt L x.f1) (num + 1) (flagP L x.f1)) ([], 0) = stepW L D fl (fun x => bwG L W D d (nxt L x.f1) (num + 1) (flagP L x.f1)) (bl, bc) x) := ⟨by rw [htk, List.foldl_append, ← HFO.out]; rfl⟩
      clear hxb hx1t ht0 ht1 hxt hxm htk hC
      obtain ⟨cc, hcc⟩ : ∃ q, costR L D x fl = q := ⟨_, rfl⟩
      rw [hcc] at hcb2
      obtain ⟨q1, hq1⟩ : ∃ q, nxt L x.f1 = q := ⟨_, rfl⟩
      obtain ⟨kf, hkf⟩ := (follow_pure L hn x.f1 xt0 xt1).rounds
      rw [show afterP L (begT L (-1)) x.f1 = q1 from hq1] at hkf
      have HNB := Aside0.mk (nxt_bd L x.f1 xt0 xt1)
      have hL33 : ∀ W2, Below WB.heap.size WB W2 → Calls Try.prog 33 #[.slice A0 L.length c0, .agg #[.slice A1 W.length c1, .int .i64 D], .agg #[.int .i64 x.f0, .int .i64 x.f1, .int .i64 x.f2, .int .i64 x.f3, .int .i64 x.f4, .int .i64 x.f5], .bool fl] W2 fun e w' => e = .returned (.int .i64 cc) ∧ Below W2.heap.size W2 w' := fun W2 h => (lineCost_ok A0 c0 L A1 c1 W.length D x.f0 x.f1 x.f2 x.f3 x.f4 x.f5 fl W2 (Kd.C_below HLB.out h) hc HF.out HD.out xt0 xt1 HXB.out.1 HXB.out.2.1 HXB.out.2.2.1 HXB.out.2.2.2).mono fun e w' ⟨h1, h2⟩ => ⟨h1.trans (by rw [show costR L D ⟨x.f0, x.f1, x.f2, x.f3, x.f4, x.f5⟩ fl = cc from hcc]), h2⟩
      have HL33 := Aside0.mk hL33
      have HL34 := Aside0.mk (fun W2 (h : Below WB.heap.size WB W2) => chanceryref3_follow.calls kf A0 c0 L x.f1 q1 W2 (Kd.C_below HLB.out h) hc hkf)
      have HCC := Aside0.mk hcc
      have HQ1 := Aside0.mk hq1
      have HCB := Aside0.mk hcb2
      clear hcc hq1 hkf hcb1 hcb2 ci i1 hemax hL33
      go_upto_region 9 with (first
       | ((with_reducible refine gate_dst (N := 17) rfl ?_); refine box_event ?hg (N := 17) ?hd (cs := #[.int .i64 0, .int .i64 0, .int .i64 0, .int .i64 0, .int .i64 0, .int .i64 0]) (t := 41) ?hr ?_; (case hd => rfl); (case hg => rfl); (case hr => first | (go_simp; done) | (go_simp; rfl)); intro g17 hg wb17 hbox hb; (have hss := SP.step HS.out hb); (have h7 := blk_below H7.out hb); (have hee := Kd.R_below (Kd.R_elderB HE.out g17 (Nat.le_of_eq hg.symm)) hb); (have hoo := Kd.R_below (Kd.R_elderB HO.out g17 (Nat.le_of_eq hg.symm)) hb); (have n1 : gp ≠ g17 := by rw [hg]; exact Nat.ne_of_lt (blk_lt HS.out.cell)); (have n2 : g7 ≠ g17 := by rw [hg]; exact Nat.ne_of_lt (blk_lt H7.out)); (have hge : w.heap.size ≤ g17 := by rw [hg]; exact HS.out.grown.size); (have hgb : WB.heap.size ≤ g17 := by rw [hg]; exact HS.out.below.size); clear HS H7 HE HO; (have HS := Aside0.mk hss); (have H7 := Aside0.mk h7); (have HE := Aside0.mk hee); (have HO := Aside0.mk hoo); (have H17 := Aside0.mk hbox); (have N17 := Aside0.mk n1); (have N717 := Aside0.mk n2); (have G17 := Aside0.mk hge); (have GB17 := Aside0.mk hgb); clear hg hbox hb hss h7 hee hoo n1 n2 hge hgb)
       | ((with_reducible refine gate_store (t := 41) (p := 17) rfl ?_); refine agg_event (w0 := WB) rfl rfl 41 (.tmp 17) (.tmp 41) rfl (g := g17) (e := 41) (.agg #[.int .i64 x.f0, .int .i64 x.f1, .int .i64 x.f2, .int .i64 x.f3, .int .i64 x.f4, .int .i64 x.f5]) [.int .i64 x.f0, .int .i64 x.f1, .int .i64 x.f2, .int .i64 x.f3, .int .i64 x.f4, .int .i64 x.f5] rfl rfl rfl (by kernel_rfl) H17.out rfl (by simp only [List.mem_cons, List.not_mem_nil, or_false, forall_eq_or_imp, forall_eq]; exact ⟨rfl, rfl, rfl, rfl, rfl, rfl⟩) HS.out.below GB17.out ?_; intro ws17 hbox hb hgr; (have hss := SP.far HS.out hb hgr G17.out N17.out); (have h7 := (hgr.block g7 (blk_lt H7.out) (fun e => N717.out (by injection e))).trans H7.out); (have hee := Kd.R_mono (Kd.R_grown HE.out hgr (fun k hk e => hk.2 (by injection e))) (fun _ h => h)); (have hoo := Kd.R_mono (Kd.R_grown HO.out hgr (fun k hk e => hk.2 (by injection e))) (fun _ h => h)); clear HS H7 HE HO H17; (have HS := Aside0.mk hss); (have H7 := Aside0.mk h7); (have HE := Aside0.mk hee); (have HO := Aside0.mk hoo); (have H17 := Aside0.mk hbox); clear hbox hb hgr hss h7 hee hoo))
      clear hx0 hx1 hx2 hx3 hx4 hx5
      have HSd := Aside0.mk (SP.step HS.out (below_drew1 (Below.refl ws17.heap.size ws17)))
      have H7d := Aside0.mk (blk_below H7.out (below_drew1 (Below.refl ws17.heap.size ws17)))
      have HEd := Aside0.mk (Kd.R_below HE.out (below_drew1 (Below.refl ws17.heap.size ws17)))
      have HOd := Aside0.mk (Kd.R_below HO.out (below_drew1 (Below.refl ws17.heap.size ws17)))
      have H17d := Aside0.mk (blk_below H17.out (below_drew1 (Below.refl ws17.heap.size ws17)))
      refine start_ (n := 9) (S := fun w' => w'.cell? ⟨g17, 0, none⟩ = some (.int .i64 x.f0) ∧ w'.cell? ⟨g17, 1, none⟩ = some (.int .i64 x.f1) ∧ w'.cell? ⟨g17, 2, none⟩ = some (.int .i64 x.f2) ∧ w'.cell? ⟨g17, 3, none⟩ = some (.int .i64 x.f3) ∧ w'.cell? ⟨g17, 4, none⟩ = some (.int .i64 x.f4) ∧ w'.cell? ⟨g17, 5, none⟩ = some (.int .i64 x.f5) ∧ w'.cell? ⟨g7, 0, none⟩ = some (.slice A1 W.length c1) ∧ w'.cell? ⟨g7, 1, none⟩ = some (.int .i64 D)) (ds := []) #[false, false, false, false, false, false, false, false, false] (by kernel_rfl) rfl rfl ⟨(blk_cell H17d.out 0).trans rfl, (blk_cell H17d.out 1).trans rfl, (blk_cell H17d.out 2).trans rfl, (blk_cell H17d.out 3).trans rfl, (blk_cell H17d.out 4).trans rfl, (blk_cell H17d.out 5).trans rfl, (blk_cell H7d.out 0).trans rfl, (blk_cell H7d.out 1).trans rfl⟩ (fun hHeld => ?_)
      generalize ws17.drew = wd at HSd H7d HEd HOd H17d hHeld ⊢
      clear HS H7 HE HO H17
      have HS := HSd
      have H7 := H7d
      have HE := HEd
      have HO := HOd
      have H17 := H17d
      clear HSd H7d HEd HOd H17d
      refine pure_ (i := 2) (N := some 44) (v := ?_) (a' := ?_) #[false, false, true, false, false, false, false, false, false] rfl rfl (by kernel_rfl) (fun _ _ _ h => h) (Or.inl ⟨by rfl, ?_⟩) ?_ ?_
      rotate_left
      · intro w'
        go_simp
        with_reducible rfl
      rotate_left
      · simp only [Act.put, List.setIfInBounds_toArray, List.set_cons_zero, List.set_cons_succ, i64_w, i32_w]
        rfl
      refine pure_ (i := 5) (N := some 47) (v := ?_) (a' := ?_) #[false, false, true, false, false, true, false, false, false] rfl rfl (by kernel_rfl) (fun _ _ _ h => h) (Or.inl ⟨by rfl, ?_⟩) ?_ ?_
      rotate_left
      · intro w'
        go_simp
        with_reducible rfl
      rotate_left
      · simp only [Act.put, List.setIfInBounds_toArray, List.set_cons_zero, List.set_cons_succ, i64_w, i32_w]
        rfl
      refine take_ (i := 0) (N := some 42) (v := ?_) (a' := ?_) #[true, false, true, false, false, true, false, false, false] rfl rfl (by kernel_rfl) (fun _ _ _ h => h) (Or.inl ⟨by rfl, ?_⟩) hHeld ?_ ?_
      rotate_left
      · rintro w' ⟨s0, s1, s2, s3, s4, s5, s6, s7⟩
        go_simp
        with_reducible rfl
      rotate_left
      · simp only [Act.put, List.setIfInBounds_toArray, List.set_cons_zero, List.set_cons_succ, i64_w, i32_w]
        rfl
      refine take_ (i := 3) (N := some 45) (v := ?_) (a' := ?_) #[true, false, true, true, false, true, false, false, false] rfl rfl (by kernel_rfl) (fun _ _ _ h => h) (Or.inl ⟨by rfl, ?_⟩) hHeld ?_ ?_
      rotate_left
      · rintro w' ⟨s0, s1, s2, s3, s4, s5, s6, s7⟩
        go_simp
        with_reducible rfl
      rotate_left
      · simp only [Act.put, List.setIfInBounds_toArray, List.set_cons_zero, List.set_cons_succ, i64_w, i32_w]
        rfl
      refine take_ (i := 4) (N := some 46) (v := ?_) (a' := ?_) #[true, false, true, true, true, true, false, false, false] rfl rfl (by kernel_rfl) (fun _ _ _ h => h) (Or.inl ⟨by rfl, ?_⟩) hHeld ?_ ?_
      rotate_left
      · rintro w' ⟨s0, s1, s2, s3, s4, s5, s6, s7⟩
        go_simp
        with_reducible rfl
      rotate_left
      · simp only [Act.put, List.setIfInBounds_toArray, List.set_cons_zero, List.set_cons_succ, i64_w, i32_w]
        rfl
      refine join_ (σ := Value) 2 #[true, true, true, true, true, true, true, false, false] (fun s => [(43, s), (48, .int .i64 cc)]) (fun s w' => (w'.cell? ⟨g17, 0, none⟩ = some (.int .i64 x.f0) ∧ w'.cell? ⟨g17, 1, none⟩ = some (.int .i64 x.f1) ∧ w'.cell? ⟨g17, 2, none⟩ = some (.int .i64 x.f2) ∧ w'.cell? ⟨g17, 3, none⟩ = some (.int .i64 x.f3) ∧ w'.cell? ⟨g17, 4, none⟩ = some (.int .i64 x.f4) ∧ w'.cell? ⟨g17, 5, none⟩ = some (.int .i64 x.f5) ∧ w'.cell? ⟨g7, 0, none⟩ = some (.slice A1 W.length c1) ∧ w'.cell? ⟨g7, 1, none⟩ = some (.int .i64 D)) ∧ Aside0 (SP WB w gp w' sI) ∧ Aside0 (w'.heap[g7]? = some (.cells #[.slice A1 W.length c1, .int .i64 D] 25 (0, 0))) ∧ Aside0 (Kd.R k41 41 w' w.heap.size (fun x => True ∧ x ≠ g17) (.slice (some ade) E.length ce) E) ∧ Aside0 (Kd.R k41 41 w' w.heap.size (fun x => True ∧ x ≠ g17) u14 bl) ∧ Aside0 (w'.heap[g17]? = some (.cells #[.int .i64 x.f0, .int .i64 x.f1, .int .i64 x.f2, .int .i64 x.f3, .int .i64 x.f4, .int .i64 x.f5] 41 (0, 0))) ∧ Aside0 (Kd.R k41 41 w' w.heap.size (fun _ => True) s [x]) ∧ Aside0 (s.ownBlock ≠ u14.ownBlock) ∧ Aside0 (s.ownBlock ≠ (Value.slice (some ade) E.length ce).ownBlock)) ?_ ?_
      rotate_left
      · intro hCont
        refine two_ (i := 1) (j := 6) (Ni := some 43) (Nj := some 48) #[true, true, true, true, true, true, false, false, false] #[true, false, true, true, true, true, true, false, false] rfl rfl rfl rfl (by kernel_rfl) (by decide) (by decide) (fun K hK => ?_) (fun K hK => ?_)
        · skip
          refine Kd.R_lit_step k41 _ 41 (by rfl) (N := 43) rfl (xs := ([x] : List S41)) (inner := [.int .i64 x.f0, .int .i64 x.f1, .int .i64 x.f2, .int .i64 x.f3, .int .i64 x.f4, .int .i64 x.f5]) (ok := fun _ => True) (okp := fun _ => True) ?hr ?hp (fun _ hk => hk) trivial (Below.refl _ _) (Nat.le_refl _) (by simp) ?_
          case hr => first | (go_simp; done) | (go_simp; rfl)
          case hp => exact (Reps.c6 (show Kd.M k41 _ _ _ x [.int .i64 x.f0, .int .i64 x.f1, .int .i64 x.f2, .int .i64 x.f3, .int .i64 x.f4, .int .i64 x.f5] from k41_mkM _ _ _ x) (Reps.none _ _))
          intro v43 wl ho hb _ hnew
          have hv := Kd.R_lower ho HS.out.grown.size
          have hn1 := own_new HO.out hnew
          have hn2 := own_new HE.out hnew
          clear ho hnew
          have hss := SP.step HS.out hb
          have h7 := blk_below H7.out hb
          have hee := Kd.R_below HE.out hb
          have hoo := Kd.R_below HO.out hb
          have h17 := blk_below H17.out hb
          have HV_ := hv
          have HN_ := hn1
          have HNE_ := hn2
          clear HS H7 HE HO H17
          have HS := Aside0.mk hss
          have H7 := Aside0.mk h7
          have HE := Aside0.mk hee
          have HO := Aside0.mk hoo
          have H17 := Aside0.mk h17
          have HV := Aside0.mk HV_
          have HN := Aside0.mk HN_
          have HNE := Aside0.mk HNE_
          clear hss h7 hee hoo h17 HV_ HN_ HNE_
          clear hb hv hn1 hn2
          refine hK.out _ _ ⟨(blk_cell H17.out 0).trans rfl, (blk_cell H17.out 1).trans rfl, (blk_cell H17.out 2).trans rfl, (blk_cell H17.out 3).trans rfl, (blk_cell H17.out 4).trans rfl, (blk_cell H17.out 5).trans rfl, (blk_cell H7.out 0).trans rfl, (blk_cell H7.out 1).trans rfl⟩ (fun hHeld => ?_)
          clear hK K
          refine norm_ (a' := ?_) ?_ ?_
          rotate_left
          · show Act.put _ (some 43) _ = _
            simp only [Act.put, List.setIfInBounds_toArray, List.set_cons_zero, List.set_cons_succ, i64_w, i32_w]
            rfl
          refine one_ (i := 6) (N := some 48) #[true, true, true, true, true, true, true, false, false] rfl rfl (by kernel_rfl) (by decide) (fun K hK => ?_)
          refine goes_ Try.func33 (by kernel_rfl) rfl #[.slice A0 L.length c0, .agg #[.slice A1 W.length c1, .int .i64 D], .agg #[.int .i64 x.f0, .int .i64 x.f1, .int .i64 x.f2, .int .i64 x.f3, .int .i64 x.f4, .int .i64 x.f5], .bool fl] (by rfl) rfl rfl (by simp only [List.map_toArray, List.map_cons, List.map_nil]; rfl) ?_
          with_reducible refine (HL33.out _ HS.out.below).mono ?_
          rintro e_ w3 ⟨rfl, hb⟩
          refine ⟨_, rfl, ?_⟩
          have hss := SP.step HS.out hb
          have h7 := blk_below H7.out hb
          have hee := Kd.R_below HE.out hb
          have hoo := Kd.R_below HO.out hb
          have h17 := blk_below H17.out hb
          have HV_ := Kd.R_below HV.out hb
          clear HS H7 HE HO H17 HV
          have HS := Aside0.mk hss
          have H7 := Aside0.mk h7
          have HE := Aside0.mk hee
          have HO := Aside0.mk hoo
          have H17 := Aside0.mk h17
          have HV := Aside0.mk HV_
          clear hss h7 hee hoo h17 HV_
          clear hb
          refine hK.out _ _ ⟨(blk_cell H17.out 0).trans rfl, (blk_cell H17.out 1).trans rfl, (blk_cell H17.out 2).trans rfl, (blk_cell H17.out 3).trans rfl, (blk_cell H17.out 4).trans rfl, (blk_cell H17.out 5).trans rfl, (blk_cell H7.out 0).trans rfl, (blk_cell H7.out 1).trans rfl⟩ (fun hHeld => ?_)
          clear hK K
          refine norm_ (a' := ?_) ?_ ?_
          rotate_left
          · show Act.put _ (some 48) _ = _
            simp only [Act.put, List.setIfInBounds_toArray, List.set_cons_zero, List.set_cons_succ, i64_w, i32_w]
            rfl
          exact norm_ (by simp only [putAll, Act.put, List.setIfInBounds_toArray, List.set_cons_zero, List.set_cons_succ]) (hCont v43 _ ⟨⟨(blk_cell H17.out 0).trans rfl, (blk_cell H17.out 1).trans rfl, (blk_cell H17.out 2).trans rfl, (blk_cell H17.out 3).trans rfl, (blk_cell H17.out 4).trans rfl, (blk_cell H17.out 5).trans rfl, (blk_cell H7.out 0).trans rfl, (blk_cell H7.out 1).trans rfl⟩, HS, H7, HE, HO, H17, HV, HN, HNE⟩)
        · skip
          refine goes_ Try.func33 (by kernel_rfl) rfl #[.slice A0 L.length c0, .agg #[.slice A1 W.length c1, .int .i64 D], .agg #[.int .i64 x.f0, .int .i64 x.f1, .int .i64 x.f2, .int .i64 x.f3, .int .i64 x.f4, .int .i64 x.f5], .bool fl] (by rfl) rfl rfl (by simp only [List.map_toArray, List.map_cons, List.map_nil]; rfl) ?_
          with_reducible refine (HL33.out _ HS.out.below).mono ?_
          rintro e_ w3 ⟨rfl, hb⟩
          refine ⟨_, rfl, ?_⟩
          have hss := SP.step HS.out hb
          have h7 := blk_below H7.out hb
          have hee := Kd.R_below HE.out hb
          have hoo := Kd.R_below HO.out hb
          have h17 := blk_below H17.out hb
          clear HS H7 HE HO H17
          have HS := Aside0.mk hss
          have H7 := Aside0.mk h7
          have HE := Aside0.mk hee
          have HO := Aside0.mk hoo
          have H17 := Aside0.mk h17
          clear hss h7 hee hoo h17
          clear hb
          refine hK.out _ _ ⟨(blk_cell H17.out 0).trans rfl, (blk_cell H17.out 1).trans rfl, (blk_cell H17.out 2).trans rfl, (blk_cell H17.out 3).trans rfl, (blk_cell H17.out 4).trans rfl, (blk_cell H17.out 5).trans rfl, (blk_cell H7.out 0).trans rfl, (blk_cell H7.out 1).trans rfl⟩ (fun hHeld => ?_)
          clear hK K
          refine norm_ (a' := ?_) ?_ ?_
          rotate_left
          · show Act.put _ (some 48) _ = _
            simp only [Act.put, List.setIfInBounds_toArray, List.set_cons_zero, List.set_cons_succ, i64_w, i32_w]
            rfl
          refine one_ (i := 1) (N := some 43) #[true, true, true, true, true, true, true, false, false] rfl rfl (by kernel_rfl) (by decide) (fun K hK => ?_)
          refine Kd.R_lit_step k41 _ 41 (by rfl) (N := 43) rfl (xs := ([x] : List S41)) (inner := [.int .i64 x.f0, .int .i64 x.f1, .int .i64 x.f2, .int .i64 x.f3, .int .i64 x.f4, .int .i64 x.f5]) (ok := fun _ => True) (okp := fun _ => True) ?hr ?hp (fun _ hk => hk) trivial (Below.refl _ _) (Nat.le_refl _) (by simp) ?_
          case hr => first | (go_simp; done) | (go_simp; rfl)
          case hp => exact (Reps.c6 (show Kd.M k41 _ _ _ x [.int .i64 x.f0, .int .i64 x.f1, .int .i64 x.f2, .int .i64 x.f3, .int .i64 x.f4, .int .i64 x.f5] from k41_mkM _ _ _ x) (Reps.none _ _))
          intro v43 wl ho hb _ hnew
          have hv := Kd.R_lower ho HS.out.grown.size
          have hn1 := own_new HO.out hnew
          have hn2 := own_new HE.out hnew
          clear ho hnew
          have hss := SP.step HS.out hb
          have h7 := blk_below H7.out hb
          have hee := Kd.R_below HE.out hb
          have hoo := Kd.R_below HO.out hb
          have h17 := blk_below H17.out hb
          have HV_ := hv
          have HN_ := hn1
          have HNE_ := hn2
          clear HS H7 HE HO H17
          have HS := Aside0.mk hss
          have H7 := Aside0.mk h7
          have HE := Aside0.mk hee
          have HO := Aside0.mk hoo
          have H17 := Aside0.mk h17
          have HV := Aside0.mk HV_
          have HN := Aside0.mk HN_
          have HNE := Aside0.mk HNE_
          clear hss h7 hee hoo h17 HV_ HN_ HNE_
          clear hb hv hn1 hn2
          refine hK.out _ _ ⟨(blk_cell H17.out 0).trans rfl, (blk_cell H17.out 1).trans rfl, (blk_cell H17.out 2).trans rfl, (blk_cell H17.out 3).trans rfl, (blk_cell H17.out 4).trans rfl, (blk_cell H17.out 5).trans rfl, (blk_cell H7.out 0).trans rfl, (blk_cell H7.out 1).trans rfl⟩ (fun hHeld => ?_)
          clear hK K
          refine norm_ (a' := ?_) ?_ ?_
          rotate_left
          · show Act.put _ (some 43) _ = _
            simp only [Act.put, List.setIfInBounds_toArray, List.set_cons_zero, List.set_cons_succ, i64_w, i32_w]
            rfl
          exact norm_ (by simp only [putAll, Act.put, List.setIfInBounds_toArray, List.set_cons_zero, List.set_cons_succ]) (hCont v43 _ ⟨⟨(blk_cell H17.out 0).trans rfl, (blk_cell H17.out 1).trans rfl, (blk_cell H17.out 2).trans rfl, (blk_cell H17.out 3).trans rfl, (blk_cell H17.out 4).trans rfl, (blk_cell H17.out 5).trans rfl, (blk_cell H7.out 0).trans rfl, (blk_cell H7.out 1).trans rfl⟩, HS, H7, HE, HO, H17, HV, HN, HNE⟩)
      clear HS H7 HE HO H17 hHeld
      rintro v43 wz ⟨hS_, HS, H7, HE, HO, H17, HV, HN, HNE⟩
      have hHeld : wz.cell? ⟨g17, 0, none⟩ = some (.int .i64 x.f0) ∧ wz.cell? ⟨g17, 1, none⟩ = some (.int .i64 x.f1) ∧ wz.cell? ⟨g17, 2, none⟩ = some (.int .i64 x.f2) ∧ wz.cell? ⟨g17, 3, none⟩ = some (.int .i64 x.f3) ∧ wz.cell? ⟨g17, 4, none⟩ = some (.int .i64 x.f4) ∧ wz.cell? ⟨g17, 5, none⟩ = some (.int .i64 x.f5) ∧ wz.cell? ⟨g7, 0, none⟩ = some (.slice A1 W.length c1) ∧ wz.cell? ⟨g7, 1, none⟩ = some (.int .i64 D) := hS_
      refine norm_ (a' := ?_) ?_ ?_
      rotate_left
      · simp only [putAll, Act.put, List.setIfInBounds_toArray, List.set_cons_zero, List.set_cons_succ]
        rfl
      refine pure_ (i := 7) (N := some 18) (v := ?_) (a' := ?_) #[true, true, true, true, true, true, true, true, false] rfl rfl (by kernel_rfl) (fun _ _ _ h => h) (Or.inl ⟨by rfl, ?_⟩) ?_ ?_
      rotate_left
      · intro w'
        go_simp
        with_reducible rfl
      rotate_left
      · simp only [Act.put, List.setIfInBounds_toArray, List.set_cons_zero, List.set_cons_succ, i64_w, i32_w]
        rfl
      refine pure_ (i := 8) (N := some 19) (v := ?_) (a' := ?_) #[true, true, true, true, true, true, true, true, true] rfl rfl (by kernel_rfl) (fun _ _ _ h => h) (Or.inl ⟨by rfl, ?_⟩) ?_ ?_
      rotate_left
      · intro w'
        go_simp
        with_reducible rfl
      rotate_left
      · simp only [Act.put, List.setIfInBounds_toArray, List.set_cons_zero, List.set_cons_succ, i64_w, i32_w]
        rfl
      refine done_ (by kernel_rfl) ?_
      obtain ⟨Av, cv, hv⟩ := Kd.R_slice HV.out
      rw [List.length_singleton] at hv
      subst hv
      have hs1 : wz.cell? ⟨g17, 1, none⟩ = some (.int .i64 x.f1) := (blk_cell H17.out 1).trans rfl
      (try simp only [Act.put, List.setIfInBounds_toArray, List.set_cons_zero, List.set_cons_succ])
      go_upto_if 56 with (go_at_call 34; refine (HL34.out _ HS.out.below).mono ?_; rintro e_ wl ⟨rfl, hdn⟩; (have hb := hdn.below); (have hss := SP.step HS.out hb); (have h7 := blk_below H7.out hb); (have hee := Kd.R_below HE.out hb); (have hoo := Kd.R_below HO.out hb); (have h17 := blk_below H17.out hb); (have hvv := Kd.R_below HV.out hb); clear HS H7 HE HO H17 HV hs1; (have HS := Aside0.mk hss); (have H7 := Aside0.mk h7); (have HE := Aside0.mk hee); (have HO := Aside0.mk hoo); (have H17 := Aside0.mk h17); (have HV := Aside0.mk hvv); clear hb hdn hss h7 hee hoo h17 hvv)
      (try simp only [Act.put, List.setIfInBounds_toArray, List.set_cons_zero, List.set_cons_succ])
      obtain ⟨la, hla⟩ : ∃ b, decide (q1 < (L.length : Int)) = b := ⟨_, rfl⟩
      rw [hla]
      go_cut [18, 19] (fun v18 v19 wc => ∃ (sI2 : Int) (way : List S41) (nc : Int), v19 = .int .i64 nc ∧ 0 ≤ sI2 ∧ sI2 ≤ sI ∧ Aside0 (way = x :: if lastP L x.f1 = true then [] else (bwG L W D d (nxt L x.f1) (num + 1) (flagP L x.f1)).1) ∧ Aside0 (nc = cc + if lastP L x.f1 = true then 0 else (bwG L W D d (nxt L x.f1) (num + 1) (flagP L x.f1)).2) ∧ Aside0 (SP WB w gp wc sI2) ∧ Aside0 (wc.heap[g7]? = some (.cells #[.slice A1 W.length c1, .int .i64 D] 25 (0, 0))) ∧ Aside0 (Kd.R k41 41 wc w.heap.size (fun _ => True) (.slice (some ade) E.length ce) E) ∧ Aside0 (Kd.R k41 41 wc w.heap.size (fun _ => True) u14 bl) ∧ Aside0 (Kd.R k41 41 wc w.heap.size (fun _ => True) v18 way))
      case first =>
       cases la with
       | false =>
        have hq := of_decide_eq_false hla
        have hnb := HNB.out
        rw [HQ1.out] at hnb
        have hl : lastP L x.f1 = true := by unfold lastP; rw [HQ1.out]; exact beq_iff_eq.2 (by omega)
        have HL := Aside0.mk hl
        clear hla hq hnb hl
        go_wp2
        go_meet
        case rel => exact ⟨sI, [x], cc, rfl, sI0, Int.le_refl _, ⟨by rw [if_pos HL.out]⟩, ⟨by rw [if_pos HL.out, Int.add_zero]⟩, HS, H7, ⟨Kd.R_mono HE.out (fun _ _ => trivial)⟩, ⟨Kd.R_mono HO.out (fun _ _ => trivial)⟩, HV⟩
       | true =>
        have hq := of_decide_eq_true hla
        have hl : lastP L x.f1 = false := by unfold lastP; rw [HQ1.out]; exact beq_eq_false_iff_ne.2 (by omega)
        have hnb := nxt_lt L x.f1 xt0 xt1 hl
        rw [HQ1.out] at hnb
        have HL := Aside0.mk hl
        have xlt : x.f1 < (L.length : Int) := by omega
        have xlt' := eq_true xlt
        have xt0' := eq_true xt0
        have hfl : flagP L x.f1 = (rd_T49 L x.f1).f5 := by unfold flagP; rw [decide_eq_true xlt, Bool.true_and]
        obtain ⟨p5, hp5⟩ : ∃ q, (rd_T49 L x.f1).f5 = q := ⟨_, rfl⟩
        rw [hp5] at hfl
        have HFL := Aside0.mk hfl
        have hnd := HND.out
        have HIH : Aside0 (∀ (W2 : World), Below WB.heap.size WB W2 → W2.heap[gp]? = some (.cells #[.int .i64 sI] 3 (0, 0)) → _) := ⟨fun W2 h1 h2 => IH.out q1 (num + 1) p5 W2 sI (by omega) (by omega) (by omega) (by omega) (by omega) h1 h2 sI0 (by have := HS1.out; omega)⟩
        have wn : wrap64 (num + 1) = num + 1 := w64 (by omega) (by omega)
        have wn' := (i64_w (num + 1)).trans wn
        have HNX : Aside0 ((0 ≤ q1 ∧ q1 ≤ (L.length : Int) ∧ (L.length : Int) - q1 < d)) := ⟨by omega⟩
        clear hla hq hl hnb hfl hnd
        go_upto_region 12 with (fail)
        have HSd := Aside0.mk (SP.step HS.out (below_drew1 (Below.refl wl.heap.size wl)))
        have H7d := Aside0.mk (blk_below H7.out (below_drew1 (Below.refl wl.heap.size wl)))
        have HEd := Aside0.mk (Kd.R_below HE.out (below_drew1 (Below.refl wl.heap.size wl)))
        have HOd := Aside0.mk (Kd.R_below HO.out (below_drew1 (Below.refl wl.heap.size wl)))
        have H17d := Aside0.mk (blk_below H17.out (below_drew1 (Below.refl wl.heap.size wl)))
        have HVd := Aside0.mk (Kd.R_below HV.out (below_drew1 (Below.refl wl.heap.size wl)))
        obtain ⟨adl, el, hp0, hp1, hp2, hp3, hp4, hp5c⟩ := at_T49 (Kd.C_below HLB.out HSd.out.below) x.f1 xt0 xlt
        subst el
        rw [hp5] at hp5c
        clear hp0 hp1 hp2 hp3 hp4 hp5
        refine start_ (n := 18) (S := fun w' => w'.cell? ⟨g7, 0, none⟩ = some (.slice A1 W.length c1) ∧ w'.cell? ⟨g7, 1, none⟩ = some (.int .i64 D) ∧ w'.cell? ⟨g17, 1, none⟩ = some (.int .i64 x.f1) ∧ w'.cell? ⟨(adl.add (x.f1.toNat * 6)).block, (adl.add (x.f1.toNat * 6)).off + 5, none⟩ = some (.bool p5)) (ds := [12]) #[false, false, false, false, false, false, false, false, false, false, false, false, false, false, false, false, false, false] (by kernel_rfl) rfl rfl ⟨(blk_cell H7d.out 0).trans rfl, (blk_cell H7d.out 1).trans rfl, (blk_cell H17d.out 1).trans rfl, hp5c⟩ (fun hHeld => ?_)
        generalize wl.drew = wd at HSd H7d HEd HOd H17d HVd hHeld ⊢
        clear HS H7 HE HO H17 HV
        have HS := HSd
        have H7 := H7d
        have HE := HEd
        have HO := HOd
        have H17 := H17d
        have HV := HVd
        clear HSd H7d HEd HOd H17d HVd
        refine pure_ (i := 0) (N := some 58) (v := ?_) (a' := ?_) #[true, false, false, false, false, false, false, false, false, false, false, false, false, false, false, false, false, false] rfl rfl (by kernel_rfl) (fun _ _ _ h => h) (Or.inl ⟨by rfl, ?_⟩) ?_ ?_
        rotate_left
        · intro w'
          go_simp
          with_reducible rfl
        rotate_left
        · simp only [Act.put, List.setIfInBounds_toArray, List.set_cons_zero, List.set_cons_succ, i64_w, i32_w]
          rfl
        refine pure_ (i := 2) (N := some 60) (v := ?_) (a' := ?_) #[true, false, true, false, false, false, false, false, false, false, false, false, false, false, false, false, false, false] rfl rfl (by kernel_rfl) (fun _ _ _ h => h) (Or.inl ⟨by rfl, ?_⟩) ?_ ?_
        rotate_left
        · intro w'
          go_simp
          with_reducible rfl
        rotate_left
        · simp only [Act.put, List.setIfInBounds_toArray, List.set_cons_zero, List.set_cons_succ, i64_w, i32_w]
          rfl
        refine pure_ (i := 3) (N := some 61) (v := ?_) (a' := ?_) #[true, false, true, true, false, false, false, false, false, false, false, false, false, false, false, false, false, false] rfl rfl (by kernel_rfl) (fun _ _ _ h => h) (Or.inl ⟨by rfl, ?_⟩) ?_ ?_
        rotate_left
        · intro w'
          go_simp
          with_reducible rfl
        rotate_left
        · simp only [Act.put, List.setIfInBounds_toArray, List.set_cons_zero, List.set_cons_succ, i64_w, i32_w]
          rfl
        refine pure_ (i := 4) (N := some 62) (v := ?_) (a' := ?_) #[true, false, true, true, true, false, false, false, false, false, false, false, false, false, false, false, false, false] rfl rfl (by kernel_rfl) (fun _ _ _ h => h) (Or.inl ⟨by rfl, ?_⟩) ?_ ?_
        rotate_left
        · intro w'
          go_simp
          with_reducible rfl
        rotate_left
        · simp only [Act.put, List.setIfInBounds_toArray, List.set_cons_zero, List.set_cons_succ, i64_w, i32_w]
          rfl
        refine pure_ (i := 5) (N := some 63) (v := ?_) (a' := ?_) #[true, false, true, true, true, true, false, false, false, false, false, false, false, false, false, false, false, false] rfl rfl (by kernel_rfl) (fun _ _ _ h => h) (Or.inl ⟨by rfl, ?_⟩) ?_ ?_
        rotate_left
        · intro w'
          go_simp
          with_reducible rfl
        rotate_left
        · simp only [Act.put, List.setIfInBounds_toArray, List.set_cons_zero, List.set_cons_succ, i64_w, i32_w]
          rfl
        refine pure_ (i := 6) (N := some 64) (v := ?_) (a' := ?_) #[true, false, true, true, true, true, true, false, false, false, false, false, false, false, false, false, false, false] rfl rfl (by kernel_rfl) (fun _ _ _ h => h) (Or.inl ⟨by rfl, ?_⟩) ?_ ?_
        rotate_left
        · intro w'
          go_simp
          with_reducible rfl
        rotate_left
        · simp only [Act.put, List.setIfInBounds_toArray, List.set_cons_zero, List.set_cons_succ, i64_w, i32_w]
          rfl
        refine pure_ (i := 11) (N := some 69) (v := ?_) (a' := ?_) #[true, false, true, true, true, true, true, false, false, false, false, true, false, false, false, false, false, false] rfl rfl (by kernel_rfl) (fun _ _ _ h => h) (Or.inl ⟨by rfl, ?_⟩) ?_ ?_
        rotate_left
        · intro w'
          go_simp
          with_reducible rfl
        rotate_left
        · simp only [Act.put, List.setIfInBounds_toArray, List.set_cons_zero, List.set_cons_succ, i64_w, i32_w]
          rfl
        refine take_ (i := 1) (N := some 59) (v := ?_) (a' := ?_) #[true, true, true, true, true, true, true, false, false, false, false, true, false, false, false, false, false, false] rfl rfl (by kernel_rfl) (fun _ _ _ h => h) (Or.inl ⟨by rfl, ?_⟩) hHeld ?_ ?_
        rotate_left
        · rintro w' ⟨s0, s1, s2, s3⟩
          go_simp
          with_reducible rfl
        rotate_left
        · simp only [Act.put, List.setIfInBounds_toArray, List.set_cons_zero, List.set_cons_succ, i64_w, i32_w]
          rfl
        refine take_ (i := 7) (N := some 65) (v := ?_) (a' := ?_) #[true, true, true, true, true, true, true, true, false, false, false, true, false, false, false, false, false, false] rfl rfl (by kernel_rfl) (fun _ _ _ h => h) (Or.inl ⟨by rfl, ?_⟩) hHeld ?_ ?_
        rotate_left
        · rintro w' ⟨s0, s1, s2, s3⟩
          go_simp
          with_reducible rfl
        rotate_left
        · simp only [Act.put, List.setIfInBounds_toArray, List.set_cons_zero, List.set_cons_succ, i64_w, i32_w]
          rfl
        refine pure_ (i := 8) (N := some 66) (v := ?_) (a' := ?_) #[true, true, true, true, true, true, true, true, true, false, false, true, false, false, false, false, false, false] rfl rfl (by kernel_rfl) (fun _ _ _ h => h) (Or.inl ⟨by rfl, ?_⟩) ?_ ?_
        rotate_left
        · intro w'
          go_simp
          with_reducible rfl
        rotate_left
        · simp only [Act.put, List.setIfInBounds_toArray, List.set_cons_zero, List.set_cons_succ, i64_w, i32_w]
          rfl
        refine pure_ (i := 9) (N := some 67) (v := ?_) (a' := ?_) #[true, true, true, true, true, true, true, true, true, true, false, true, false, false, false, false, false, false] rfl rfl (by kernel_rfl) (fun _ _ _ h => h) (Or.inl ⟨by rfl, ?_⟩) ?_ ?_
        rotate_left
        · intro w'
          go_simp
          with_reducible rfl
        rotate_left
        · simp only [Act.put, List.setIfInBounds_toArray, List.set_cons_zero, List.set_cons_succ, i64_w, i32_w]
          rfl
        refine take_ (i := 10) (N := some 68) (v := ?_) (a' := ?_) #[true, true, true, true, true, true, true, true, true, true, true, true, false, false, false, false, false, false] rfl rfl (by kernel_rfl) (fun _ _ _ h => h) (Or.inl ⟨by rfl, ?_⟩) hHeld ?_ ?_
        rotate_left
        · rintro w' ⟨s0, s1, s2, s3⟩
          go_simp
          with_reducible rfl
        rotate_left
        · simp only [Act.put, List.setIfInBounds_toArray, List.set_cons_zero, List.set_cons_succ, i64_w, i32_w]
          rfl
        refine last_ (i := 12) (N := some 70) #[true, true, true, true, true, true, true, true, true, true, true, true, true, false, false, false, false, false] rfl rfl (by kernel_rfl) (by decide) (fun K hK => ?_)
        refine goes_ Try.func28 (by kernel_rfl) rfl #[.slice (some adl) L.length c0, .agg #[.slice A1 W.length c1, .int .i64 D], .int .i64 q1, .int .i64 (num + 1), .bool p5, .pointer (some ⟨gp, 0, none⟩)] (by rfl) rfl rfl (by simp only [List.map_toArray, List.map_cons, List.map_nil]; rfl) ?_
        with_reducible refine (HIH.out _ HS.out.below HS.out.cell).mono ?_
        rintro e_ w3 ⟨vR, m, s2, rfl, hsp, hm1, hm2, hmR⟩
        refine ⟨_, rfl, ?_⟩
        have hss := SP.put HS.out hsp.below hsp.grown hsp.cell
        have h7 := (hsp.grown.block g7 (blk_lt H7.out) (fun e => N7.out (by injection e with e; exact e.symm))).trans H7.out
        have hee := Kd.R_grown1 HE.out rfl hsp.grown (Kd.R_ne HE.out HS.out.cell (by decide))
        have hoo := Kd.R_grown1 HO.out rfl hsp.grown (Kd.R_ne HO.out HS.out.cell (by decide))
        have hvv := Kd.R_grown1 HV.out rfl hsp.grown (Kd.R_ne HV.out HS.out.cell (by decide))
        have HMR := Aside0.mk hmR
        clear HS H7 HE HO HV H17 hsp hmR
        have HS := Aside0.mk hss
        have H7 := Aside0.mk h7
        have HE := Aside0.mk hee
        have HO := Aside0.mk hoo
        have HV := Aside0.mk hvv
        clear hss h7 hee hoo hvv
        refine hK.out _ _ ?_
        clear hK K
        refine norm_ (a' := ?_) ?_ ?_
        rotate_left
        · show Act.put _ (some 70) _ = _
          simp only [Act.put, List.setIfInBounds_toArray, List.set_cons_zero, List.set_cons_succ, i64_w, i32_w]
          rfl
        refine pure_ (i := 13) (N := some 57) (v := ?_) (a' := ?_) #[true, true, true, true, true, true, true, true, true, true, true, true, true, true, false, false, false, false] rfl rfl (by kernel_rfl) (fun _ _ _ h => h) (Or.inl ⟨by rfl, ?_⟩) ?_ ?_
        rotate_left
        · intro w'
          go_simp
          with_reducible rfl
        rotate_left
        · simp only [Act.put, List.setIfInBounds_toArray, List.set_cons_zero, List.set_cons_succ, i64_w, i32_w]
          rfl
        refine pure_ (i := 14) (N := some 71) (v := ?_) (a' := ?_) #[true, true, true, true, true, true, true, true, true, true, true, true, true, true, true, false, false, false] rfl rfl (by kernel_rfl) (fun _ _ _ h => h) (Or.inl ⟨by rfl, ?_⟩) ?_ ?_
        rotate_left
        · intro w'
          go_simp
          with_reducible rfl
        rotate_left
        · simp only [Act.put, List.setIfInBounds_toArray, List.set_cons_zero, List.set_cons_succ, i64_w, i32_w]
          rfl
        refine pure_ (i := 15) (N := some 72) (v := ?_) (a' := ?_) #[true, true, true, true, true, true, true, true, true, true, true, true, true, true, true, true, false, false] rfl rfl (by kernel_rfl) (fun _ _ _ h => h) (Or.inl ⟨by rfl, ?_⟩) ?_ ?_
        rotate_left
        · intro w'
          go_simp
          with_reducible rfl
        rotate_left
        · simp only [Act.put, List.setIfInBounds_toArray, List.set_cons_zero, List.set_cons_succ, i64_w, i32_w]
          rfl
        refine pure_ (i := 16) (N := some 21) (v := ?_) (a' := ?_) #[true, true, true, true, true, true, true, true, true, true, true, true, true, true, true, true, true, false] rfl rfl (by kernel_rfl) (fun _ _ _ h => h) (Or.inl ⟨by rfl, ?_⟩) ?_ ?_
        rotate_left
        · intro w'
          go_simp
          with_reducible rfl
        rotate_left
        · simp only [Act.put, List.setIfInBounds_toArray, List.set_cons_zero, List.set_cons_succ, i64_w, i32_w]
          rfl
        refine pure_ (i := 17) (N := some 22) (v := ?_) (a' := ?_) #[true, true, true, true, true, true, true, true, true, true, true, true, true, true, true, true, true, true] rfl rfl (by kernel_rfl) (fun _ _ _ h => h) (Or.inl ⟨by rfl, ?_⟩) ?_ ?_
        rotate_left
        · intro w'
          go_simp
          with_reducible rfl
        rotate_left
        · simp only [Act.put, List.setIfInBounds_toArray, List.set_cons_zero, List.set_cons_succ, i64_w, i32_w]
          rfl
        refine done_ (by kernel_rfl) ?_
        have hcg : w3.cell? ⟨gp, 0, none⟩ = some (.int .i64 s2) := (blk_cell HS.out.cell 0).trans rfl
        by_cases y : s2 < 0
        · have yd : decide (s2 < 0) = true := decide_eq_true y
          have HM : Aside0 (-1 ≤ s2 ∧ s2 ≤ s0) := ⟨by have := HS1.out; omega⟩
          go_wp2
          (try simp only [Act.put, List.setIfInBounds_toArray, List.set_cons_zero, List.set_cons_succ])
          go_ret2
          first | exact ⟨_, _, s2, rfl, HS.out, HM.out.1, HM.out.2, fun h => by omega⟩ | exact ⟨_, _, rfl, s2, HS.out, HM.out.1, HM.out.2, fun h => by omega⟩
        · have yd : decide (s2 < 0) = false := decide_eq_false y
          have y0 : 0 ≤ s2 := by omega
          obtain ⟨hm, hR⟩ := HMR.out y0
          obtain ⟨AR, cR, rfl, hRl, hRC⟩ := Kd.R_reads hR
          have hbe := bw_eq L W D d q1 (num + 1) p5 HNX.out.1 HNX.out.2.1 HNX.out.2.2
          have hbp := bestP_bd L W D HF.out HD.out w1 HWd.out q1 (capN W (num + 1)) p5 HNX.out.1 HNX.out.2.1 (capN_nn L W D HF.out HD.out w1 HWd.out _ (by omega))
          unfold Bnd at hbp
          rw [← hbe.2.1, ← hbe.2.2] at hbp
          rw [← hm] at hbp
          have hq0 := HNX.out
          have hcb := HCB.out
          obtain ⟨nm, hnm⟩ : ∃ q, cc + m = q := ⟨_, rfl⟩
          have yc : wrap64 (cc + m) = nm := (w64 (by omega) (by omega)).trans hnm
          have yc' := (i64_w (cc + m)).trans yc
          have HLE : Aside0 (((bwG L W D d q1 (num + 1) p5).1).length ≤ 9000) := ⟨by have := hbp.2.2; omega⟩
          have HNM : Aside0 (nm = cc + if lastP L x.f1 = true then 0 else (bwG L W D d (nxt L x.f1) (num + 1) (flagP L x.f1)).2) := ⟨by rw [if_neg (by rw [HL.out]; decide), HQ1.out, HFL.out, ← hm]; exact hnm.symm⟩
          obtain ⟨rest, hrest⟩ : ∃ q, (bwG L W D d q1 (num + 1) p5).1 = q := ⟨_, rfl⟩
          rw [hrest] at hRC hRl HLE ⊢
          have HWY : Aside0 (([x] : List S41) ++ rest = x :: if lastP L x.f1 = true then [] else (bwG L W D d (nxt L x.f1) (num + 1) (flagP L x.f1)).1) := ⟨by rw [if_neg (by rw [HL.out]; decide), HQ1.out, HFL.out, hrest]; rfl⟩
          have HRC := Aside0.mk hRC
          have HY := Aside0.mk (And.intro y0 hm2)
          clear hm hR hbe hbp hq0 hcb hnm hrest hRC hRl y y0
          go_wp2_with ((with_reducible refine gate_builtin (b := .append) (xs := #[.tmp 77, .tmp 78]) rfl ?_); at_builtin; refine Kd.R_append_rows k41 (w0 := w3) w.heap.size rfl (.tmp 77) (.tmp 78) 27 41 (.agg #[(.int .i64 0), (.int .i64 0), (.int .i64 0), (.int .i64 0), (.int .i64 0), (.int .i64 0)]) 48 rfl Try.underlying27 info41 rfl (by decide) (by omega) _ ([x] : List S41) rest AR rest.length cR (fun _ => True) (fun _ => False) rfl rfl ?aO ?aR (fun _ _ h => h) (fun _ h => h.elim) ?aF ?aB ?aS ?aL ?_; (case aO => exact HV.out); (case aR => exact HRC.out); (case aF => exact (fun _ _ => trivial)); (case aB => exact Below.refl _ _); (case aS => exact HS.out.grown.size); (case aL => have := HLE.out; simp only [List.length_singleton]; omega); intro v9 wa ho hb hgr hat; (have hss := SP.own HS.out (pw_below_grown HS.out.below _ HS.out.below.size hgr (fun k hk => by have := Kd.R_base HV.out k hk; have := HB0.out; omega)) hgr (fun k hk => Kd.R_base HV.out k hk) (Kd.R_ne HV.out HS.out.cell (by decide))); (have h7 := blk_grown H7.out hgr (Kd.R_ne HV.out H7.out (by decide))); (have hee := Kd.R_grown1 HE.out rfl hgr HNE.out); (have hoo := Kd.R_grown1 HO.out rfl hgr HN.out); clear HS H7 HE HO HV hgr hat hcg; (have HS := Aside0.mk hss); (have H7 := Aside0.mk h7); (have HE := Aside0.mk hee); (have HO := Aside0.mk hoo); (have HV := Aside0.mk ho); clear hss h7 hee hoo ho hb)
          go_meet
          case rel => exact ⟨s2, [x] ++ rest, nm, by first | rfl | rw [yc], HY.out.1, HY.out.2, HWY, HNM, HS, H7, ⟨Kd.R_mono HE.out (fun _ _ => trivial)⟩, ⟨Kd.R_mono HO.out (fun _ _ => trivial)⟩, HV⟩
      case rest =>
       clear HS H7 HE HO H17 HV HN HNE hla
       obtain ⟨sI2, way, nc, rfl, sJ0, sJ1, HWY, HNC, HS, H7, HE, HO, HV⟩ := hcut
       have hwl : way ≠ [] := by rw [HWY.out]; simp
       have hfo := HFO1.out
       have hst : stepW L D fl (fun x => bwG L W D d (nxt L x.f1) (num + 1) (flagP L x.f1)) (bl, bc) x = pickW (bl, bc) way nc := by unfold stepW; rw [HWY.out, HNC.out, HCC.out]
       rw [hst] at hfo
       have hvl := R_max HV.out
       have hol := R_max HO.out
       have HSJ : Aside0 (0 ≤ sI2 ∧ sI2 ≤ s1) := ⟨by omega⟩
       have HI : Aside0 (0 ≤ i + 1 ∧ i + 1 ≤ (E.length : Int)) := ⟨by have := of_eq_true ci'; omega⟩
       obtain ⟨b18, c18, hv18⟩ := R_form HV.out (List.length_pos_iff.2 hwl)
       subst hv18
       have HFO2 := Aside0.mk hfo
       have HWL := Aside0.mk hwl
       clear hfo hst hwl HFO HFO1 hvl hol sI0 sI1 sJ0 sJ1
       by_cases hb0 : bl = []
       · have h14 := HNIL.out hb0
         subst h14
         subst hb0
         have hqn := eqN27
         have HP : Aside0 ((way, nc) = (E.take (i + 1).toNat).foldl (stepW L D fl fun x => bwG L W D d (nxt L x.f1) (num + 1) (flagP L x.f1)) ([], 0)) := ⟨by rw [HFO2.out]; exact (if_pos (Or.inl rfl)).symm⟩
         go_wp2
         repeat (go_quiet (fail); try go_wp2)
         go_roundw
         case measure => exact HMS.out
         case rel => exact ⟨i + 1, sI2, way, nc, by first | rfl | rw [wi], rfl, HI.out.1, HI.out.2, HSJ.out.1, HSJ.out.2, HP, ⟨fun h => absurd h HWL.out⟩, HS, H7, HE, HV⟩
       · obtain ⟨b14, c14, hv14⟩ := R_form HO.out (List.length_pos_iff.2 hb0)
         subst hv14
         have hqn := eqS27 b14 bl.length c14
         have HB14 := Aside0.mk hb0
         by_cases z1 : nc < bc
         · have zd : decide (nc < bc) = true := decide_eq_true z1
           have HP : Aside0 ((way, nc) = (E.take (i + 1).toNat).foldl (stepW L D fl fun x => bwG L W D d (nxt L x.f1) (num + 1) (flagP L x.f1)) ([], 0)) := ⟨by rw [HFO2.out]; exact (if_pos (Or.inr (Or.inl z1))).symm⟩
           clear hb0 z1
           go_wp2
           repeat (go_quiet (fail); try go_wp2)
           go_roundw
           case measure => exact HMS.out
           case rel => exact ⟨i + 1, sI2, way, nc, by first | rfl | rw [wi], rfl, HI.out.1, HI.out.2, HSJ.out.1, HSJ.out.2, HP, ⟨fun h => absurd h HWL.out⟩, HS, H7, HE, HV⟩
         · have zd : decide (nc < bc) = false := decide_eq_false z1
           by_cases z2 : nc = bc
           · have z2d : (nc == bc) = true := beq_iff_eq.2 z2
             by_cases z3 : (way.length : Int) ≤ (bl.length : Int)
             · have z3d : decide ((way.length : Int) ≤ (bl.length : Int)) = true := decide_eq_true z3
               have z3e := eq_true z3
               have z3f : (way.length ≤ bl.length) = True := eq_true (by omega)
               have z3g : decide (way.length ≤ bl.length) = true := decide_eq_true (by omega)
               have HP : Aside0 ((way, nc) = (E.take (i + 1).toNat).foldl (stepW L D fl fun x => bwG L W D d (nxt L x.f1) (num + 1) (flagP L x.f1)) ([], 0)) := ⟨by rw [HFO2.out]; exact (if_pos (Or.inr (Or.inr ⟨z2, by show way.length ≤ bl.length; omega⟩))).symm⟩
               clear hb0 z1 z2 z3
               go_wp2
               repeat (go_quiet (fail); try go_wp2)
               go_roundw
               case measure => exact HMS.out
               case rel => exact ⟨i + 1, sI2, way, nc, by first | rfl | rw [wi], rfl, HI.out.1, HI.out.2, HSJ.out.1, HSJ.out.2, HP, ⟨fun h => absurd h HWL.out⟩, HS, H7, HE, HV⟩
             · have z3d : decide ((way.length : Int) ≤ (bl.length : Int)) = false := decide_eq_false z3
               have z3e := eq_false z3
               have z3f : (way.length ≤ bl.length) = False := eq_false (by omega)
               have z3g : decide (way.length ≤ bl.length) = false := decide_eq_false (by omega)
               have HP : Aside0 ((bl, bc) = (E.take (i + 1).toNat).foldl (stepW L D fl fun x => bwG L W D d (nxt L x.f1) (num + 1) (flagP L x.f1)) ([], 0)) := ⟨by rw [HFO2.out]; exact (if_neg (fun h => by rcases h with h | h | h; exact hb0 h; exact z1 h; exact z3 (by have := h.2; dsimp only at this; omega))).symm⟩
               clear hb0 z1 z2 z3
               go_wp2
               repeat (go_quiet (fail); try go_wp2)
               go_roundw
               case measure => exact HMS.out
               case rel => exact ⟨i + 1, sI2, bl, bc, by first | rfl | rw [wi], rfl, HI.out.1, HI.out.2, HSJ.out.1, HSJ.out.2, HP, ⟨fun h => absurd h HB14.out⟩, HS, H7, HE, HO⟩
           · have z2d : (nc == bc) = false := beq_eq_false_iff_ne.2 z2
             have HP : Aside0 ((bl, bc) = (E.take (i + 1).toNat).foldl (stepW L D fl fun x => bwG L W D d (nxt L x.f1) (num + 1) (flagP L x.f1)) ([], 0)) := ⟨by rw [HFO2.out]; exact (if_neg (fun h => by rcases h with h | h | h; exact hb0 h; exact z1 h; exact z2 h.1)).symm⟩
             clear hb0 z1 z2
             go_wp2
             repeat (go_quiet (fail); try go_wp2)
             go_roundw
             case measure => exact HMS.out
             case rel => exact ⟨i + 1, sI2, bl, bc, by first | rfl | rw [wi], rfl, HI.out.1, HI.out.2, HSJ.out.1, HSJ.out.2, HP, ⟨fun h => absurd h HB14.out⟩, HS, H7, HE, HO⟩
    · have cid : decide (i < (E.length : Int)) = false := decide_eq_false ci
      have hil : i.toNat = E.length := by omega
      have hfo := HFO.out
      rw [hil, List.take_length] at hfo
      have HFO2 : Aside0 ((bl, bc) = bwG L W D (d + 1) f num fl) := ⟨hfo.trans HBW.out.symm⟩
      have HSB : Aside0 (-1 ≤ sI ∧ sI ≤ s0) := ⟨by have := HS1.out; omega⟩
      clear hfo HFO hil ci hemax
      go_wp2
      (try simp only [Act.put, List.setIfInBounds_toArray, List.set_cons_zero, List.set_cons_succ])
      go_ret2
      first | exact ⟨_, _, sI, rfl, HS.out, HSB.out.1, HSB.out.2, fun h => ⟨by rw [← HFO2.out], by rw [← HFO2.out]; exact HO.out⟩⟩ | exact ⟨_, _, rfl, sI, HS.out, HSB.out.1, HSB.out.2, fun h => ⟨by rw [← HFO2.out], by rw [← HFO2.out]; exact HO.out⟩⟩
end
end Go.Proofs.Ythapclmfkjldaaa.HandLN
