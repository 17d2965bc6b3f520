import Derived.Test.YthapclmfkjldaaaHandLNj
import Derived.Test.YthapclmfkjldaaaHandLNf
import Derived.Test.YthapclmfkjldaaaPureLNe
namespace Go.Proofs.Ythapclmfkjldaaa.HandLN
set_option linter.unusedSectionVars false
set_option linter.unusedVariables false
set_option linter.unusedSimpArgs false
open Go.Proofs.Ythapclmfkjldaaa.Lib (w64)
open Go.RowKit Go.Proofs.YthapclmfkjldaaaW.PrintWords Go.Proofs.YthapclmfkjldaaaW.PrintLast Go.Proofs.YthapclmfkjldaaaW.PrintMore Go.Proofs.Ythapclmfkjldaaa.QLN Go.Proofs.Ythapclmfkjldaaa.LinesP
attribute [local go_sem] max2_int min2_int max_two min_two
theorem info71 : (Try.prog.info? 71).map (fun i => (i.zero, i.size, i.bytes)) = some (some (.slice none 0 0), 1, 24) := by kernel_rfl
theorem field59 (q : Bool) (a b c : Int) (w : World) : Sem.run Try.prog (Instr.field 59 (.agg #[.bool q, .int .i64 a, .int .i64 b, .int .i64 c]) 2) w = .ok (.int .i64 b) w := by kernel_rfl
attribute [local go_sem] field59
def wayG (L : List S49) (W : List Int) (D : Int) : Nat → Int → Int → Bool → List S41
 | 0, _, _, _ => []
 | d + 1, f, num, fl => ln L W f num (bestP L W D f (capN W num) fl).1 :: if lastP L (bestP L W D f (capN W num) fl).1 = true then [] else wayG L W D d (nxt L (bestP L W D f (capN W num) fl).1) (num + 1) (flagP L (bestP L W D f (capN W num) fl).1)
def begL (L : List S49) : Int := nextD L L.length
def wayP (L : List S49) (W : List Int) (D : Int) : List S41 := wayG L W D (L.length + 1) (begL L) 0 false
theorem begL_bd (L : List S49) : 0 ≤ begL L ∧ begL L ≤ L.length := by have := nextD_bd L L.length (Nat.le_refl _); unfold begL; omega
theorem MK.begin0 {w : World} {g : Nat} {L : List S49} {W : List Int} {D : Int} {wi gr yi : List Int} (h : MK w g L W D wi gr yi (begT L (-1))) : ∃ ad c5, w.cell? ⟨g, 6, none⟩ = some (.slice (some ad) (L.length + 2) c5) ∧ w.cell? ad = some (.int .i64 (begL L)) := by
 obtain ⟨A0, c0, A1, c1, A2, c2, A3, c3, A4, c4, A5, c5, hbk, _, _, _, _, _, h5⟩ := h
 have hl : (begT L (-1)).length = L.length + 2 := Lib.tab_length _ _
 obtain ⟨ad, ea, hc⟩ := at_int h5 0 (by omega) (by rw [hl]; omega)
 subst ea
 rw [begT_at L 0 (by omega) (by omega), show ((L.length : Int) - 0).toNat = L.length by omega] at hc
 refine ⟨ad, c5, ?_, ?_⟩
 · have := (blk_cell hbk 6).trans rfl
   rw [hl] at this
   exact this
 · exact hc
section
variable {base : Nat} {WB w w1 w2 : World} {g gw gk ck n m : Nat} {B : Nat → Nat → S59} {rs0 rs : List (Option (Nat × Nat))}
theorem ST.append {ok : Nat → Prop} {v : Value} {xs : List S41} (h : ST WB g gw gk ck n m B w rs0 w1 rs) (hR : Kd.R k41 41 w1 base ok v xs) (hb1 : w.heap.size ≤ base) (hb2 : WB.heap.size ≤ base) (hg : w1.grownBy w2 v.ownBlock) : ST WB g gw gk ck n m B w rs0 w2 rs := by
 cases e : v.ownBlock with
 | none =>
  rw [e] at hg
  exact h.step ⟨hg.os, hg.tape, hg.output, hg.size, fun k hk => hg.block k hk (by simp)⟩
 | some x =>
  rw [e] at hg
  obtain ⟨inner, ho⟩ := Kd.R_own hR
  obtain ⟨cells, hc⟩ := own_typed ho x e
  have hge := Kd.R_base hR x e
  refine h.far hg (fun hS => ?_) (fun hw => ?_) (by omega) (by omega)
  · obtain ⟨_, cells', q, hc', hq⟩ := h.kn.typed x hS
    rw [hc] at hc'
    injection hc' with hc'
    injection hc' with _ hc'
    subst hc'
    rcases hq with hq | hq <;> exact absurd hq (by decide)
  · have := h.kn.wk
    rw [← hw, hc] at this
    simp at this
theorem Bx.append {x t : Nat} {cs : Array Value} {ok : Nat → Prop} {v : Value} {xs : List S41} (h : Bx gk rs w1 x cs t) (hR : Kd.R k41 41 w1 base ok v xs) (ht : 41 ≠ t) (hg : w1.grownBy w2 v.ownBlock) : Bx gk rs w2 x cs t :=
 ⟨(hg.block x (blk_lt h.1) (Kd.R_ne hR h.1 ht)).trans h.1, h.2⟩
theorem KN.init (hb : w.heap[gw]? = some (.cells #[.pointer (some ⟨g, 0, none⟩), .slice (some ⟨gk, 0, none⟩) (n + 1) ck] 55 (0, 0))) (ht : (kO m).R 71 w base (fun _ => True) (.slice (some ⟨gk, 0, none⟩) (n + 1) ck) (List.replicate (n + 1) none)) : KN w base g gw gk ck n m B (List.replicate (n + 1) none) :=
 ⟨hb, ht, fun i b c hi => by rw [List.getElem?_replicate] at hi; split at hi <;> simp at hi, fun i j b c c' hi => by rw [List.getElem?_replicate] at hi; split at hi <;> simp at hi⟩
end
section
variable (L : List S49) (W : List Int) (D : Int) (hF : Fine L) (hS : FineS W D)
include hF hS
set_option maxHeartbeats 8000000 in
set_option maxRecDepth 100000 in
theorem break_ok (A0 : Option Addr) (c0 : Nat) (A1 : Option Addr) (c1 : Nat) (k0 : Nat) (w : World) (hL : Kd.C k49 w A0 L.length L) (hc : L.length ≤ c0) (hW0 : kI.C w A1 W.length W) (hcw : W.length ≤ c1) (hk : lines_check.f k0 L W D = some 0) :
    Calls Try.prog 7 #[.slice A0 L.length c0, .agg #[.slice A1 W.length c1, .int .i64 D]] w fun e w' => ∃ v : Value, e = .returned (.tuple #[v, .int .i64 (bestP L W D (begL L) 0 false).2.1, .int .i64 0]) ∧ Kd.R k41 41 w' w.heap.size (fun _ => True) v (wayP L W D) ∧ Below w.heap.size w w' := by
 have hu57 := Try.underlying57
 have hu55 := Try.underlying55
 have hu59 := Try.underlying59
 have hu25 := Try.underlying25
 have hu53 := Try.underlying53
 have hu41 := Try.underlying41
 have hn := hF.1
 have hin : L.length ≤ 1000000 := by omega
 obtain ⟨w1, w2, hW, hD⟩ := hS
 have hbb := begL_bd L
 have HL := Aside0.mk hL
 have HW0 := Aside0.mk hW0
 have HF := Aside0.mk hF
 have HWd := Aside0.mk hW
 have HB := Aside0.mk (Below.refl w.heap.size w)
 have HCK := Aside0.mk (fun W2 h1 h2 => lines_check.calls k0 A0 c0 L A1 c1 W D 0 W2 h1 hc h2 hcw hk)
 have HPR := Aside0.mk (fun W2 h1 h2 => prep_ok A0 c0 L A1 c1 W D W2 h1 h2 hn (fun i i0 i1 => by have := hF.2 i i0 i1; omega))
 have HBD := Aside0.mk (bd_of L W hF w1 w2 hW)
 have HBL : Aside0 ((begT L (-1)).length = L.length + 2) := ⟨Lib.tab_length _ _⟩
 have yl : wrap64 ((L.length : Int) + 1) = (L.length : Int) + 1 := w64 (by omega) (by omega)
 have yl' := (i64_w ((L.length : Int) + 1)).trans yl
 obtain ⟨bg, hbg⟩ : ∃ q, begL L = q := ⟨_, rfl⟩
 rw [hbg] at hbb ⊢
 have HBG := Aside0.mk hbg
 have HWAY : Aside0 (wayP L W D = wayG L W D (L.length + 1) bg 0 false) := ⟨by rw [← hbg]; rfl⟩
 clear hbg
 obtain ⟨hbb0, hbb1⟩ := hbb
 clear hL hW0 hF hW hk
 go_enter Try.func7, Try.ntmps7
 go_upto_region 5 with (first
  | ((with_reducible refine gate_dst (N := 3) rfl ?_); refine box_event ?hg (N := 3) ?hd (cs := #[.slice A1 W.length c1, .int .i64 D]) (t := 25) ?hr ?_; (case hd => rfl); (case hg => rfl); (case hr => first | (go_simp; done) | (go_simp; rfl)); intro g3 hg wb3 hbox hb; (have hbb3 := below_step HB.out hb); clear HB; (have HB := Aside0.mk hbb3); (have H3 := Aside0.mk hbox); (have hs3_0 : wb3.cell? ⟨g3, 0, none⟩ = some (.slice A1 W.length c1) := (blk_cell hbox 0).trans rfl); (have hs3_1 : wb3.cell? ⟨g3, 1, none⟩ = some (.int .i64 D) := (blk_cell hbox 1).trans rfl); clear hg hbox hb hbb3)
  | (go_at_call 21; refine (HCK.out _ (Kd.C_below HL.out HB.out) (Kd.C_below HW0.out HB.out)).mono ?_; rintro e wck ⟨rfl, hb⟩; (have hbb3 := below_step HB.out hb); (have h3 := blk_below H3.out hb); clear HB H3 hs3_0 hs3_1; (have HB := Aside0.mk hbb3); (have H3 := Aside0.mk h3); (have hs3_0 : wck.cell? ⟨g3, 0, none⟩ = some (.slice A1 W.length c1) := (blk_cell h3 0).trans rfl); (have hs3_1 : wck.cell? ⟨g3, 1, none⟩ = some (.int .i64 D) := (blk_cell h3 1).trans rfl); clear hb hbb3 h3)
  | (go_at_call 22; refine (HPR.out _ (Kd.C_below HL.out HB.out) (Kd.C_below HW0.out HB.out)).mono ?_; rintro e WB ⟨g, rfl, hm, hgs, hb⟩; (have hbb3 := below_step HB.out hb); clear HB hs3_0 hs3_1 H3; (have HB := Aside0.mk hbb3); (have HM := Aside0.mk hm); clear hm hgs hb hbb3))
 obtain ⟨ad, c5, hbg6, hbga⟩ := MK.begin0 HM.out
 have HG6 := Aside0.mk hbg6
 have HGA := Aside0.mk hbga
 clear hbg6 hbga
 have hz0 : Aside0 (0 < L.length + 1) := ⟨by omega⟩
 have hz1 : (0 : Int) ≤ (L.length : Int) + 1 := by omega
 go_upto_region 7 with (first
  | ((with_reducible refine gate_dst (N := 28) rfl ?_); refine Kd.R_make (kO W.length) (w0 := WB) WB.heap.size 71 rfl (N := 28) rfl 53 (.tmp 27) (.tmp 27) rfl ((L.length : Int) + 1) rfl rfl Try.underlying53 (.slice none 0 0) 24 info71 rfl (Nat.lt_succ_self 0) (by omega) none (ok := fun _ => True) (okp := fun _ => False) rfl (fun _ h => h.elim) trivial (by omega) (by omega) (Below.refl _ _) (Nat.le_refl _) ?_; intro v28 wm hr hb hgr hat; rw [show ((L.length : Int) + 1).toNat = L.length + 1 by omega] at hr; obtain ⟨gk, ck, hv⟩ := R_form hr (by rw [List.length_replicate]; exact hz0.out); rw [List.length_replicate] at hv; subst hv; (have HR := Aside0.mk hr); (have HBm := Aside0.mk hb); clear hr hb hgr hat)
  | ((with_reducible refine gate_dst (N := 30) rfl ?_); refine box_event ?hg (N := 30) ?hd (cs := #[.pointer (some ⟨g, 0, none⟩), .slice (some ⟨gk, 0, none⟩) (L.length + 1) ck]) (t := 55) ?hr ?_; (case hd => rfl); (case hg => rfl); (case hr => first | (go_simp; done) | (go_simp; rfl)); intro gw hg wI hbox hb; (have hss := ST.refl (B := planB L W D) (below_step HBm.out hb) (KN.init hbox (Kd.R_below HR.out hb))); (have HS := Aside0.mk hss); clear HBm HR hg hbox hb hss))
 have hbg6 := (HS.out.below.cell (World.block_lt_of_cell? _ _ HG6.out)).trans HG6.out
 have hbga := (HS.out.below.cell (World.block_lt_of_cell? _ _ HGA.out)).trans HGA.out
 have hl0 : (0 : Int) < ((L.length + 2 : Nat) : Int) := by omega
 have hl1 : (0 : Int) < (L.length : Int) + 2 := by omega
 obtain ⟨bI, hbI⟩ : ∃ q, wI.heap.size = q := ⟨_, rfl⟩
 have hbI1 : WB.heap.size ≤ bI := by rw [← hbI]; exact HS.out.below.size
 have HBI := Aside0.mk hbI
 rw [HBG.out] at hbga
 clear hbI
 go_wp2
 go_loopw [10, 11, 12, 13] (fun v10 v11 v12 v13 w' => ∃ (fr num : Int) (fl : Bool) (out : List S41) (d : Nat) (rs : List (Option (Nat × Nat))), v11 = .int .i64 fr ∧ v12 = .int .i64 num ∧ v13 = .bool fl ∧ 0 ≤ fr ∧ fr ≤ (L.length : Int) ∧ 0 ≤ num ∧ num + (d : Int) = (L.length : Int) + 1 ∧ (L.length : Int) - fr < d ∧ (out.length : Int) = num ∧ Aside0 (out ++ wayG L W D d fr num fl = wayG L W D (L.length + 1) bg 0 false) ∧ Aside0 (ST WB g gw gk ck L.length W.length (planB L W D) wI (List.replicate (L.length + 1) none) w' rs) ∧ Aside0 (Kd.R k41 41 w' bI (fun _ => True) v10 out)) (fun _ v11 _ _ _ => L.length - (intOf v11).toNat)
 case atStart => exact ⟨bg, 0, false, [], L.length + 1, _, rfl, rfl, rfl, hbb0, hbb1, by omega, by omega, by omega, by rfl, ⟨by rfl⟩, HS, ⟨Kd.R_nil _ _ _ _ _⟩⟩
 case round =>
  clear HS hbg6 hbga
  obtain ⟨fr, num, fl, out, d, rs, rfl, rfl, rfl, hf0, hf1, hn0, hnd, hfd, hol, HE, HS, HO⟩ := hrel
  obtain ⟨Ao, co, rfl⟩ := Kd.R_slice HO.out
  have hnx : num ≤ 1000000 := by omega
  obtain ⟨d', rfl⟩ : ∃ d', d = d' + 1 := ⟨d - 1, by omega⟩
  have hbd := bestP_bd L W D HF.out hD w1 HWd.out fr (capN W num) fl hf0 hf1 (capN_nn L W D HF.out hD w1 HWd.out num hn0)
  have hbge := bestP_ge L W D fr (capN W num) fl hf0 hf1
  have he := HE.out
  unfold wayG at he
  obtain ⟨q, hq⟩ : ∃ q, bestP L W D fr (capN W num) fl = q := ⟨_, rfl⟩
  rw [hq] at hbd hbge he
  have HBP := Aside0.mk hq
  clear hq
  obtain ⟨t, p2, p3⟩ := q
  obtain ⟨⟨_, ht1⟩, _, _⟩ := hbd
  dsimp only at ht1 hbge he
  have HE2 := Aside0.mk he
  clear he HE
  have ht0 : 0 ≤ t := by omega
  obtain ⟨x, hx⟩ : ∃ x, ln L W fr num t = x := ⟨_, rfl⟩
  have HX := Aside0.mk hx
  clear hx
  obtain ⟨la, hla⟩ : ∃ b, lastP L t = b := ⟨_, rfl⟩
  have HLA := Aside0.mk hla
  clear hla
  go_upto_region 9 with (first
   | (go_at_call 23; refine (best_ok WB g gw gk ck L W D HF.out hD w1 w2 HWd.out HM.out (L.length + 1) fr num fl _ rs hf0 hf1 hn0 hnx (by omega) HS.out.below HS.out.kn).mono ?_; rintro e wB ⟨rs', rfl, hst⟩; rw [HBP.out]; (have hss := ST.trans HS.out hst); (have hoo := R41_call HO.out HS.out.kn hst); clear HS HO; (have HS := Aside0.mk hss); (have HO := Aside0.mk hoo); clear hss hoo hst)
   | ((with_reducible refine gate_dst (N := 14) rfl ?_); refine box_event ?hg (N := 14) ?hd (cs := #[.bool false, .int .i64 0, .int .i64 0, .int .i64 0]) (t := 59) ?hr ?_; (case hd => rfl); (case hg => rfl); (case hr => first | (go_simp; done) | (go_simp; rfl)); intro g14 hg wb14 hbox hb; (have hbx := Bx.new HS.out (Nat.le_of_eq hg.symm) hbox); (have hge : wI.heap.size ≤ g14 := by rw [hg]; exact HS.out.kept.1); (have hgb : WB.heap.size ≤ g14 := by rw [hg]; exact HS.out.below.size); (have hss := ST.step HS.out hb); (have hoo := Kd.R_below (Kd.R_elderB HO.out g14 (Nat.le_of_eq hg.symm)) hb); clear HS HO; (have HS := Aside0.mk hss); (have HO := Aside0.mk hoo); clear hss hoo; (have H14 := Aside0.mk hbx); (have G14 := Aside0.mk hge); (have GB14 := Aside0.mk hgb); clear hbx hge hgb hg hbox hb)
   | ((with_reducible refine gate_store (t := 59) (p := 14) rfl ?_); refine agg_event (w0 := WB) rfl rfl 59 (.tmp 14) (.tmp 41) rfl (g := g14) (e := 59) (.agg #[.bool true, .int .i64 t, .int .i64 p2, .int .i64 p3]) [.bool true, .int .i64 t, .int .i64 p2, .int .i64 p3] rfl rfl rfl (by kernel_rfl) H14.out.1 rfl (by simp only [List.mem_cons, List.not_mem_nil, or_false, forall_eq_or_imp, forall_eq]; exact ⟨rfl, rfl, rfl, rfl⟩) HS.out.below GB14.out ?_; intro ws14 hbox hb hgr; (have hss := ST.far HS.out hgr H14.out.2 (Bx.ne_gw H14.out HS.out (by decide)) G14.out GB14.out); (have hbx : Bx gk _ ws14 g14 #[.bool true, .int .i64 t, .int .i64 p2, .int .i64 p3] 59 := ⟨hbox, H14.out.2⟩); (have hoo := Kd.R_mono (Kd.R_grown (Kd.R_types HO.out H14.out.1 (by decide)) hgr (fun k hk e => hk.2 (by injection e))) (fun _ h => h.1)); clear HS HO; (have HS := Aside0.mk hss); (have HO := Aside0.mk hoo); clear hss hoo; clear H14; (have H14 := Aside0.mk hbx); clear hbx hbox hb hgr)
   )
  obtain ⟨hc14_0, hc14_1, hc14_2, hc14_3⟩ := Go.Proofs.Ythapclmfkjldaaa.Cells.cells4 H14.out.1
  have HC0 : Aside0 (capN W 0 = 0) := ⟨by unfold capN mn; split <;> omega⟩
  have hL : ∀ W2, MK W2 g L W D (fillT hW1 L (L.length : Int)) (fillT (·.f2) L (L.length : Int)) (fillT (·.f3) L (L.length : Int)) (begT L (-1)) → Calls Try.prog 25 #[.pointer (some ⟨g, 0, none⟩), .int .i64 t] W2 fun e w' => e = .returned (.bool la) ∧ Below W2.heap.size W2 w' := fun W2 h => (last_ok W2 g L W D _ _ _ _ t h ht0 ht1 hin HBL.out).mono fun e w' ⟨h1, h2⟩ => ⟨h1.trans (by rw [show (afterP L (begT L (-1)) t == (L.length : Int)) = la from HLA.out]), h2⟩
  have HL25 := Aside0.mk hL
  clear hL
  have hA : ∀ W2, MK W2 g L W D (fillT hW1 L (L.length : Int)) (fillT (·.f2) L (L.length : Int)) (fillT (·.f3) L (L.length : Int)) (begT L (-1)) → Calls Try.prog 26 #[.pointer (some ⟨g, 0, none⟩), .int .i64 t] W2 fun e w' => e = .returned (.int .i64 (nxt L t)) ∧ w' = W2 := fun W2 h => after_ok W2 g L W D _ _ _ _ t h ht0 ht1 hin HBL.out
  have HL26 := Aside0.mk hA
  clear hA
  have hFl : ∀ W2, MK W2 g L W D (fillT hW1 L (L.length : Int)) (fillT (·.f2) L (L.length : Int)) (fillT (·.f3) L (L.length : Int)) (begT L (-1)) → Calls Try.prog 27 #[.pointer (some ⟨g, 0, none⟩), .int .i64 t] W2 fun e w' => e = .returned (.bool (flagP L t)) ∧ w' = W2 := fun W2 h => flag_ok W2 g L W D _ _ _ _ t h ht0 ht1 hin
  have HL27 := Aside0.mk hFl
  clear hFl
  have hLn : ∀ W2, MK W2 g L W D (fillT hW1 L (L.length : Int)) (fillT (·.f2) L (L.length : Int)) (fillT (·.f3) L (L.length : Int)) (begT L (-1)) → Calls Try.prog 24 #[.pointer (some ⟨g, 0, none⟩), .int .i64 fr, .int .i64 t, .int .i64 num] W2 fun e w' => e = .returned (.agg #[.int .i64 x.f0, .int .i64 x.f1, .int .i64 x.f2, .int .i64 x.f3, .int .i64 x.f4, .int .i64 x.f5]) ∧ Below W2.heap.size W2 w' := fun W2 h => (line_ok W2 g L W D _ _ _ _ h HBD.out fr t num hf0 hbge ht1 hn0 hnx).mono fun e w' ⟨h1, h2⟩ => ⟨h1.trans (by rw [show lineP L W (fillT hW1 L (L.length : Int)) (fillT (·.f2) L (L.length : Int)) (fillT (·.f3) L (L.length : Int)) fr t num = x from HX.out]), h2⟩
  have HL24 := Aside0.mk hLn
  clear hLn
  have HOL : Aside0 (out.length ≤ 8001) := ⟨by omega⟩
  go_upto_region 10 with (first
   | (go_at_call 24; refine (HL24.out _ (MK.below HM.out HS.out.below)).mono ?_; rintro e wl ⟨rfl, hb⟩; (have hss := ST.step HS.out hb); (have hx14 := Bx.below H14.out hb); (have hoo := Kd.R_below HO.out hb); clear HS H14 HO; (have HS := Aside0.mk hss); (have H14 := Aside0.mk hx14); (have HO := Aside0.mk hoo); clear hss hx14 hoo hb)
   | ((with_reducible refine gate_builtin (b := .append) (xs := #[.tmp 42, .tmp 49]) rfl ?_); at_builtin; refine Kd.R_append k41 (w0 := wl) bI rfl (.tmp 42) (.tmp 49) 27 41 (.agg #[(.int .i64 0), (.int .i64 0), (.int .i64 0), (.int .i64 0), (.int .i64 0), (.int .i64 0)]) 48 rfl Try.underlying27 info41 rfl (by decide) (by omega) _ out (⟨x.f0, x.f1, x.f2, x.f3, x.f4, x.f5⟩ : S41) [.int .i64 x.f0, .int .i64 x.f1, .int .i64 x.f2, .int .i64 x.f3, .int .i64 x.f4, .int .i64 x.f5] (fun _ => True) (fun _ => False) rfl rfl ?aP (fun _ hk => hk.elim) ?aF ?aO ?aB ?aS ?aL ?_; (case aP => exact k41_mkM _ _ _ (⟨x.f0, x.f1, x.f2, x.f3, x.f4, x.f5⟩ : S41)); (case aB => exact Below.refl _ _); (case aF => exact (fun _ _ => trivial)); (case aO => exact Kd.R_mono HO.out (fun _ _ => trivial)); (case aS => have h1 := HS.out.kept.1; have h2 := HBI.out; omega); (case aL => have := HOL.out; omega); intro v10 wa ho hb hgr hat; (have hss := ST.append HS.out HO.out (Nat.le_of_eq HBI.out) hbI1 hgr); (have hx14 := Bx.append H14.out HO.out (by decide) hgr); obtain ⟨A4, c4, rfl⟩ := Kd.R_slice ho; clear HS HO H14 hb hgr hat; (have HS := Aside0.mk hss); (have HO := Aside0.mk ho); (have H14 := Aside0.mk hx14); clear hss ho hx14))
  clear hc14_0 hc14_1 hc14_2 hc14_3
  obtain ⟨hc14_0, hc14_1, hc14_2, hc14_3⟩ := Go.Proofs.Ythapclmfkjldaaa.Cells.cells4 H14.out.1
  go_upto_if 54 with (go_at_call 25; refine (HL25.out _ (MK.below HM.out HS.out.below)).mono ?_; rintro e wl ⟨rfl, hb⟩; (have hss := ST.step HS.out hb); (have hx14 := Bx.below H14.out hb); (have hoo := Kd.R_below HO.out hb); clear HS H14 HO; (have HS := Aside0.mk hss); (have H14 := Aside0.mk hx14); (have HO := Aside0.mk hoo); clear hss hx14 hoo hb)
  clear hc14_0 hc14_1 hc14_2 hc14_3
  cases la with
  | true =>
   have he := HE2.out
   rw [if_pos HLA.out, HX.out] at he
   have HE3 := Aside0.mk he
   clear he HE2
   have hbg6 := (HS.out.below.cell (World.block_lt_of_cell? _ _ HG6.out)).trans HG6.out
   have hbga := (HS.out.below.cell (World.block_lt_of_cell? _ _ HGA.out)).trans HGA.out
   rw [HBG.out] at hbga
   go_wp2_with (go_at_call 23; refine (best_ok WB g gw gk ck L W D HF.out hD w1 w2 HWd.out HM.out (L.length + 1) bg 0 false _ _ hbb0 hbb1 (by omega) (by omega) (by omega) HS.out.below HS.out.kn).mono ?_; rintro e wB ⟨rs', rfl, hst⟩; rw [HC0.out]; (have hss := ST.trans HS.out hst); (have hoo := R41_call HO.out HS.out.kn hst); clear HS HO; (have HS := Aside0.mk hss); (have HO := Aside0.mk hoo); clear hss hoo hst)
   (try simp only [Act.put, List.setIfInBounds_toArray, List.set_cons_zero, List.set_cons_succ])
   go_ret3
   refine ⟨_, rfl, ?_, HB.out.trans (HS.out.below.mono HB.out.size)⟩
   rw [show wayP L W D = out ++ [x] from HWAY.out.trans HE3.out.symm]
   have hfin := Kd.R_lower HO.out (Nat.le_trans HB.out.size hbI1)
   simp only [List.length_append, List.length_singleton] at hfin
   exact hfin
  | false =>
   have he := HE2.out
   rw [if_neg (by rw [HLA.out]; decide), HX.out] at he
   have hnb := nxt_lt L t ht0 ht1 HLA.out
   have HE3 : Aside0 ((out ++ [x]) ++ wayG L W D d' (nxt L t) (num + 1) (flagP L t) = wayG L W D (L.length + 1) bg 0 false) := ⟨by rw [List.append_assoc]; exact he⟩
   clear he HE2
   have wn : wrap64 (num + 1) = num + 1 := w64 (by omega) (by omega)
   have wn' := (i64_w (num + 1)).trans wn
   obtain ⟨q1, hq1⟩ : ∃ q, nxt L t = q := ⟨_, rfl⟩
   rw [hq1] at hnb HE3 HL26
   have hm1 : L.length - q1.toNat < L.length - fr.toNat := by omega
   have hm2 : L.length - (intOf (.int .i64 q1)).toNat < L.length - (intOf (.int .i64 fr)).toNat := hm1
   have HMS := Aside0.mk hm2
   have HR1 : Aside0 (0 ≤ q1 ∧ q1 ≤ (L.length : Int) ∧ 0 ≤ num + 1 ∧ num + 1 + (d' : Int) = (L.length : Int) + 1 ∧ (L.length : Int) - q1 < d' ∧ ((out ++ [x]).length : Int) = num + 1) := ⟨by omega, by omega, by omega, by omega, by omega, by rw [List.length_append, List.length_singleton]; omega⟩
   clear hq1 hm1 hm2
   go_upto_region 12 with (fail)
   (try simp only [Act.put, List.setIfInBounds_toArray, List.set_cons_zero, List.set_cons_succ])
   have HS0 := Aside0.mk (ST.step HS.out (below_drew1 (Below.refl wl.heap.size wl)))
   have H140 := Aside0.mk (Bx.below H14.out (below_drew1 (Below.refl wl.heap.size wl)))
   have HO0 := Aside0.mk (Kd.R_below HO.out (below_drew1 (Below.refl wl.heap.size wl)))
   refine start_ (n := 13) (S := fun w' => w'.cell? ⟨g14, 1, none⟩ = some (.int .i64 t)) (ds := []) #[false, false, false, false, false, false, false, false, false, false, false, false, false] (by kernel_rfl) rfl rfl ((blk_cell H140.out.1 1).trans rfl) (fun hHeld => ?_)
   generalize wl.drew = wd at HS0 H140 HO0 hHeld ⊢
   clear HS H14 HO
   have HS := HS0
   have H14 := H140
   have HO := HO0
   clear HS0 H140 HO0
   refine pure_ (i := 0) (N := some 65) (v := ?_) (a' := ?_) #[true, false, false, false, false, false, false, false, false, false, false, false, false] rfl rfl (by kernel_rfl) (fun _ _ _ h => h) (Or.inl ⟨by rfl, ?_⟩) ?_ ?_
   rotate_left
   · intro w'
     go_simp
     with_reducible rfl
   rotate_left
   · simp only [Act.put, List.setIfInBounds_toArray, List.set_cons_zero, List.set_cons_succ, i64_w, i32_w]
     rfl
   refine pure_ (i := 1) (N := some 66) (v := ?_) (a' := ?_) #[true, true, false, false, false, false, false, false, false, false, false, false, false] rfl rfl (by kernel_rfl) (fun _ _ _ h => h) (Or.inl ⟨by rfl, ?_⟩) ?_ ?_
   rotate_left
   · intro w'
     go_simp
     with_reducible rfl
   rotate_left
   · simp only [Act.put, List.setIfInBounds_toArray, List.set_cons_zero, List.set_cons_succ, i64_w, i32_w]
     rfl
   refine pure_ (i := 4) (N := some 69) (v := ?_) (a' := ?_) #[true, true, false, false, true, false, false, false, false, false, false, false, false] rfl rfl (by kernel_rfl) (fun _ _ _ h => h) (Or.inl ⟨by rfl, ?_⟩) ?_ ?_
   rotate_left
   · intro w'
     go_simp
     with_reducible rfl
   rotate_left
   · simp only [Act.put, List.setIfInBounds_toArray, List.set_cons_zero, List.set_cons_succ, i64_w, i32_w]
     rfl
   refine pure_ (i := 5) (N := some 70) (v := ?_) (a' := ?_) #[true, true, false, false, true, true, false, false, false, false, false, false, false] rfl rfl (by kernel_rfl) (fun _ _ _ h => h) (Or.inl ⟨by rfl, ?_⟩) ?_ ?_
   rotate_left
   · intro w'
     go_simp
     with_reducible rfl
   rotate_left
   · simp only [Act.put, List.setIfInBounds_toArray, List.set_cons_zero, List.set_cons_succ, i64_w, i32_w]
     rfl
   refine pure_ (i := 6) (N := some 71) (v := ?_) (a' := ?_) #[true, true, false, false, true, true, true, false, false, false, false, false, false] rfl rfl (by kernel_rfl) (fun _ _ _ h => h) (Or.inl ⟨by rfl, ?_⟩) ?_ ?_
   rotate_left
   · intro w'
     go_simp
     with_reducible rfl
   rotate_left
   · simp only [Act.put, List.setIfInBounds_toArray, List.set_cons_zero, List.set_cons_succ, i64_w, i32_w]
     rfl
   refine pure_ (i := 7) (N := some 72) (v := ?_) (a' := ?_) #[true, true, false, false, true, true, true, true, false, false, false, false, false] rfl rfl (by kernel_rfl) (fun _ _ _ h => h) (Or.inl ⟨by rfl, ?_⟩) ?_ ?_
   rotate_left
   · intro w'
     go_simp
     with_reducible rfl
   rotate_left
   · simp only [Act.put, List.setIfInBounds_toArray, List.set_cons_zero, List.set_cons_succ, i64_w, i32_w]
     rfl
   refine take_ (i := 2) (N := some 67) (v := ?_) (a' := ?_) #[true, true, true, false, true, true, true, true, false, false, false, false, false] rfl rfl (by kernel_rfl) (fun _ _ _ h => h) (Or.inl ⟨by rfl, ?_⟩) hHeld ?_ ?_
   rotate_left
   · intro w' s0
     go_simp
     with_reducible rfl
   rotate_left
   · simp only [Act.put, List.setIfInBounds_toArray, List.set_cons_zero, List.set_cons_succ, i64_w, i32_w]
     rfl
   refine take_ (i := 8) (N := some 73) (v := ?_) (a' := ?_) #[true, true, true, false, true, true, true, true, true, false, false, false, false] rfl rfl (by kernel_rfl) (fun _ _ _ h => h) (Or.inl ⟨by rfl, ?_⟩) hHeld ?_ ?_
   rotate_left
   · intro w' s0
     go_simp
     with_reducible rfl
   rotate_left
   · simp only [Act.put, List.setIfInBounds_toArray, List.set_cons_zero, List.set_cons_succ, i64_w, i32_w]
     rfl
   refine one_ (i := 3) (N := some 68) #[true, true, true, true, true, true, true, true, true, false, false, false, false] rfl rfl (by kernel_rfl) (by decide) (fun K hK => ?_)
   refine goes_ Try.func26 (by kernel_rfl) rfl #[.pointer (some ⟨g, 0, none⟩), .int .i64 t] (by rfl) rfl rfl (by simp only [List.map_toArray, List.map_cons, List.map_nil]; rfl) ?_
   with_reducible refine (HL26.out _ (MK.below HM.out HS.out.below)).mono ?_
   rintro e w3 ⟨rfl, rfl⟩
   refine ⟨_, rfl, ?_⟩
   refine hK.out _ _ ((blk_cell H14.out.1 1).trans rfl) (fun hHeld => ?_)
   clear hK K
   refine norm_ (a' := ?_) ?_ ?_
   rotate_left
   · show Act.put _ (some 68) _ = _
     simp only [Act.put, List.setIfInBounds_toArray, List.set_cons_zero, List.set_cons_succ, i64_w, i32_w]
     rfl
   refine one_ (i := 9) (N := some 74) #[true, true, true, true, true, true, true, true, true, true, false, false, false] rfl rfl (by kernel_rfl) (by decide) (fun K hK => ?_)
   refine goes_ Try.func27 (by kernel_rfl) rfl #[.pointer (some ⟨g, 0, none⟩), .int .i64 t] (by rfl) rfl rfl (by simp only [List.map_toArray, List.map_cons, List.map_nil]; rfl) ?_
   with_reducible refine (HL27.out _ (MK.below HM.out HS.out.below)).mono ?_
   rintro e w3 ⟨rfl, rfl⟩
   refine ⟨_, rfl, ?_⟩
   refine hK.out _ _ ((blk_cell H14.out.1 1).trans rfl) (fun hHeld => ?_)
   clear hK K
   refine norm_ (a' := ?_) ?_ ?_
   rotate_left
   · show Act.put _ (some 74) _ = _
     simp only [Act.put, List.setIfInBounds_toArray, List.set_cons_zero, List.set_cons_succ, i64_w, i32_w]
     rfl
   refine pure_ (i := 10) (N := some 11) (v := ?_) (a' := ?_) #[true, true, true, true, true, true, true, true, true, true, true, false, false] rfl rfl (by kernel_rfl) (fun _ _ _ h => h) (Or.inl ⟨by rfl, ?_⟩) ?_ ?_
   rotate_left
   · intro w'
     go_simp
     with_reducible rfl
   rotate_left
   · simp only [Act.put, List.setIfInBounds_toArray, List.set_cons_zero, List.set_cons_succ, i64_w, i32_w]
     rfl
   refine pure_ (i := 11) (N := some 12) (v := ?_) (a' := ?_) #[true, true, true, true, true, true, true, true, true, true, true, true, false] rfl rfl (by kernel_rfl) (fun _ _ _ h => h) (Or.inl ⟨by rfl, ?_⟩) ?_ ?_
   rotate_left
   · intro w'
     go_simp
     with_reducible rfl
   rotate_left
   · simp only [Act.put, List.setIfInBounds_toArray, List.set_cons_zero, List.set_cons_succ, i64_w, i32_w]
     rfl
   refine pure_ (i := 12) (N := some 13) (v := ?_) (a' := ?_) #[true, true, true, true, true, true, true, true, true, true, true, true, true] rfl rfl (by kernel_rfl) (fun _ _ _ h => h) (Or.inl ⟨by rfl, ?_⟩) ?_ ?_
   rotate_left
   · intro w'
     go_simp
     with_reducible rfl
   rotate_left
   · simp only [Act.put, List.setIfInBounds_toArray, List.set_cons_zero, List.set_cons_succ, i64_w, i32_w]
     rfl
   refine done_ (by kernel_rfl) ?_
   go_wp2
   go_roundw
   case rel => exact ⟨q1, num + 1, flagP L t, out ++ [x], d', _, rfl, by first | rfl | rw [wn], rfl, HR1.out.1, HR1.out.2.1, HR1.out.2.2.1, HR1.out.2.2.2.1, HR1.out.2.2.2.2.1, HR1.out.2.2.2.2.2, HE3, HS, ⟨by have h := HO.out; simp only [List.length_append, List.length_singleton] at h; exact h⟩⟩
   case measure => exact HMS.out
end
end Go.Proofs.Ythapclmfkjldaaa.HandLN
