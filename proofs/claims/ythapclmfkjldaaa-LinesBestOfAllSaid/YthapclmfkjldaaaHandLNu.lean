import Derived.Test.YthapclmfkjldaaaBrokenLN
import Derived.Test.YthapclmfkjldaaaHandLNt
namespace Go.Proofs.Ythapclmfkjldaaa.HandLN
set_option linter.unusedSectionVars false
set_option linter.unusedVariables false
set_option linter.unusedSimpArgs false
open Go.Proofs.Ythapclmfkjldaaa.Lib (w64)
open Go.RowKit Go.Proofs.YthapclmfkjldaaaW.PrintWords Go.Proofs.YthapclmfkjldaaaW.PrintLast Go.Proofs.YthapclmfkjldaaaW.PrintMore Go.Proofs.Ythapclmfkjldaaa.QLN Go.Proofs.Ythapclmfkjldaaa.QLG Go.Proofs.Ythapclmfkjldaaa.LinesP Go.Proofs.Ythapclmfkjldaaa.Lib Go.Proofs.Ythapclmfkjldaaa.Cells
attribute [local go_sem] max2_int min2_int max_two min_two
theorem broken_pure : Ev (fun k => chancerylaw3_broken.f k) true := Ev.of chancerylaw3_broken.mono (k := 60) (by decide +kernel)
theorem same_pure (l : List S41) (hl : l.length ≤ 1000000) : Ev (fun k => chancerylaw3_sameLines.f k l l) true := by
 refine Ev.pos rfl ?_
 refine climb (g := fun i k => chancerylaw3_sameLines.l0 k l l (l.length : Int) i) (a := 0) (n := (l.length : Int)) (by omega) (Ev.step (fun q => by rw [chancerylaw3_sameLines.l0]) (Ev.neg (by omega) (Ev.ret rfl))) (fun i i0 i1 hi => ?_)
 have wi : wrap64 (i + 1) = i + 1 := w64 (by omega) (by omega)
 refine Ev.step (fun q => by rw [chancerylaw3_sameLines.l0, wi]) (Ev.pos i1 (Ev.pos i0 (Ev.pos i1 (Ev.pos i1 (Ev.neg (by simp) hi)))))
theorem both_pure (L : List S49) (W : List Int) (D e s : Int) (h1 : Ev (fun k => lines_Check.f k L) e) (h2 : Ev (fun k => chanceryref3_PartsError.f k L) e) (g1 : Ev (fun k => lines_CheckShape.f k W D) s) (g2 : Ev (fun k => chanceryref3_ShapeError.f k W D) s) :
    ∃ E : Int, Ev (fun k => lines_check.f k L W D) E ∧ Ev (fun k => chancerylaw3_partsError.f k L W D) E ∧ (E = 0 → e = 0 ∧ s = 0) ∧ True := by
 by_cases q : e = 0
 · refine ⟨s, Ev.bind h1 (Ev.pos q (Ev.bind g1 (Ev.ret rfl))), Ev.bind h2 (Ev.pos q (Ev.bind g2 (Ev.ret rfl))), fun h => ⟨q, h⟩, trivial⟩
 · refine ⟨e, Ev.bind h1 (Ev.neg q (Ev.ret rfl)), Ev.bind h2 (Ev.neg q (Ev.ret rfl)), fun h => absurd h q, trivial⟩
section
variable (L : List S49) (W : List Int) (D : Int) (hF : Fine L) (hG : Glue L) (hS : FineS W D) (WB : World) (A0 : Option Addr) (c0 : Nat) (A1 : Option Addr) (c1 gp : Nat) (hL : Kd.C k49 WB A0 L.length L) (hc : L.length ≤ c0) (hW0 : kI.C WB A1 W.length W) (hcw : W.length ≤ c1) (hgp : WB.heap.size ≤ gp)
include hF hG hS hL hc hW0 hcw hgp
set_option maxHeartbeats 8000000 in
set_option maxRecDepth 100000 in
theorem bestLines_ok (w : World) (hBW : Below WB.heap.size WB w) (hcell : w.heap[gp]? = some (.cells #[.int .i64 100000] 3 (0, 0))) :
    Calls Try.prog 9 #[.slice A0 L.length c0, .agg #[.slice A1 W.length c1, .int .i64 D], .pointer (some ⟨gp, 0, none⟩)] w fun e w' => ∃ (v : Value) (c s1 : Int), e = .returned (.tuple #[v, .int .i64 c]) ∧ SP WB w gp w' s1 ∧ (0 ≤ s1 → c = (bestP L W D (begL L) 0 false).2.1 ∧ Kd.R k41 41 w' w.heap.size (fun _ => True) v (wayP L W D)) := by
 have hu25 := Try.underlying25
 have hn := hF.1
 have hbb := begL_bd L
 have hbp := begin_pure L hn L.length (Nat.le_refl _)
 rw [show (L.length : Int) - (L.length : Int) = 0 by omega] at hbp
 obtain ⟨kb, hkb⟩ := hbp.rounds
 have hkb' : chanceryref3_begin.f kb L 0 = some (begL L) := hkb
 have HBG := Aside0.mk (fun W2 (h : Below WB.heap.size WB W2) => chanceryref3_begin.calls kb A0 c0 L 0 (begL L) W2 (Kd.C_below hL h) hc hkb')
 have hbe := bw_eq L W D (L.length + 1) (begL L) 0 false hbb.1 hbb.2 (by omega)
 rw [show capN W 0 = 0 by unfold capN mn; have := hS.1; split <;> omega] at hbe
 have HBE : Aside0 ((bwG L W D (L.length + 1) (begL L) 0 false).1 = wayP L W D ∧ (bwG L W D (L.length + 1) (begL L) 0 false).2 = (bestP L W D (begL L) 0 false).2.1) := ⟨hbe.1, hbe.2.1⟩
 have HBF := Aside0.mk (fun (W2 : World) h1 h2 => bf_ok L W D hF hG hS WB A0 c0 A1 c1 gp hL hc hW0 hcw hgp (L.length + 1) (begL L) 0 false W2 100000 hbb.1 hbb.2 (Int.le_refl _) (by omega) (by omega) h1 h2 (by decide) (by decide))
 have HS : Aside0 (SP WB w gp w 100000) := ⟨⟨hBW, World.grownBy.refl w _, hcell⟩⟩
 obtain ⟨bg, hbg⟩ : ∃ q, begL L = q := ⟨_, rfl⟩
 rw [hbg] at HBG HBE HBF ⊢
 clear hbp hkb hkb' hbe hBW hcell hbg hbb
 go_enter Try.func9, Try.ntmps9
 go_upto_region 1 with ((with_reducible refine gate_dst (N := 4) rfl ?_); refine box_event ?hg (N := 4) ?hd (cs := #[.slice A1 W.length c1, .int .i64 D]) (t := 25) ?hr ?_; (case hd => rfl); (case hg => rfl); (case hr => first | (go_simp; done) | (go_simp; rfl)); intro g4 hg wb4 hbox hb; (have hss := SP.step HS.out hb); clear HS; (have HS := Aside0.mk hss); (have H4 := Aside0.mk hbox); clear hg hbox hb hss)
 have HSd := Aside0.mk (SP.step HS.out (below_drew1 (Below.refl wb4.heap.size wb4)))
 have H4d := Aside0.mk (blk_below H4.out (below_drew1 (Below.refl wb4.heap.size wb4)))
 refine start_ (n := 10) (S := fun w' => w'.cell? ⟨g4, 0, none⟩ = some (.slice A1 W.length c1) ∧ w'.cell? ⟨g4, 1, none⟩ = some (.int .i64 D)) (ds := [5]) #[false, false, false, false, false, false, false, false, false, false] (by kernel_rfl) rfl rfl ⟨(blk_cell H4d.out 0).trans rfl, (blk_cell H4d.out 1).trans rfl⟩ (fun hHeld => ?_)
 generalize wb4.drew = wd at HSd H4d hHeld ⊢
 clear HS H4
 have HS := HSd
 have H4 := H4d
 clear HSd H4d
 refine pure_ (i := 0) (N := some 8) (v := ?_) (a' := ?_) #[true, false, false, false, false, false, false, false, false, false] rfl rfl (by kernel_rfl) (fun _ _ _ h => h) (Or.inl ⟨by rfl, ?_⟩) ?_ ?_
 rotate_left
 · intro w'
   go_simp
   with_reducible rfl
 rotate_left
 · simp only [Act.put, List.setIfInBounds_toArray, List.set_cons_zero, List.set_cons_succ, i64_w, i32_w]
   rfl
 refine pure_ (i := 2) (N := some 10) (v := ?_) (a' := ?_) #[true, false, true, false, false, false, false, false, false, false] rfl rfl (by kernel_rfl) (fun _ _ _ h => h) (Or.inl ⟨by rfl, ?_⟩) ?_ ?_
 rotate_left
 · intro w'
   go_simp
   with_reducible rfl
 rotate_left
 · simp only [Act.put, List.setIfInBounds_toArray, List.set_cons_zero, List.set_cons_succ, i64_w, i32_w]
   rfl
 refine pure_ (i := 4) (N := some 12) (v := ?_) (a' := ?_) #[true, false, true, false, true, false, false, false, false, false] rfl rfl (by kernel_rfl) (fun _ _ _ h => h) (Or.inl ⟨by rfl, ?_⟩) ?_ ?_
 rotate_left
 · intro w'
   go_simp
   with_reducible rfl
 rotate_left
 · simp only [Act.put, List.setIfInBounds_toArray, List.set_cons_zero, List.set_cons_succ, i64_w, i32_w]
   rfl
 refine take_ (i := 1) (N := some 9) (v := ?_) (a' := ?_) #[true, true, true, false, true, false, false, false, false, false] rfl rfl (by kernel_rfl) (fun _ _ _ h => h) (Or.inl ⟨by rfl, ?_⟩) hHeld ?_ ?_
 rotate_left
 · rintro w' ⟨s0, s1⟩
   go_simp
   with_reducible rfl
 rotate_left
 · simp only [Act.put, List.setIfInBounds_toArray, List.set_cons_zero, List.set_cons_succ, i64_w, i32_w]
   rfl
 refine one_ (i := 3) (N := some 11) #[true, true, true, true, true, false, false, false, false, false] rfl rfl (by kernel_rfl) (by decide) (fun K hK => ?_)
 refine goes_ Try.func29 (by kernel_rfl) rfl #[.slice A0 L.length c0, .int .i64 0] (by rfl) rfl rfl (by simp only [List.map_toArray, List.map_cons, List.map_nil]; rfl) ?_
 with_reducible refine (HBG.out _ HS.out.below).mono ?_
 rintro e_ w3 ⟨rfl, hdn⟩
 refine ⟨_, rfl, ?_⟩
 have hss := SP.step HS.out hdn.below
 have h4 := blk_below H4.out hdn.below
 clear HS H4 hdn
 have HS := Aside0.mk hss
 have H4 := Aside0.mk h4
 clear hss h4
 refine hK.out _ _ ⟨(blk_cell H4.out 0).trans rfl, (blk_cell H4.out 1).trans rfl⟩ (fun hHeld => ?_)
 clear hK K
 refine norm_ (a' := ?_) ?_ ?_
 rotate_left
 · show Act.put _ (some 11) _ = _
   simp only [Act.put, List.setIfInBounds_toArray, List.set_cons_zero, List.set_cons_succ, i64_w, i32_w]
   rfl
 refine last_ (i := 5) (N := some 13) #[true, true, true, true, true, true, false, false, false, false] rfl rfl (by kernel_rfl) (by decide) (fun K hK => ?_)
 refine goes_ Try.func28 (by kernel_rfl) rfl #[.slice A0 L.length c0, .agg #[.slice A1 W.length c1, .int .i64 D], .int .i64 bg, .int .i64 0, .bool false, .pointer (some ⟨gp, 0, none⟩)] (by rfl) rfl rfl (by simp only [List.map_toArray, List.map_cons, List.map_nil]; rfl) ?_
 with_reducible refine (HBF.out _ HS.out.below HS.out.cell).mono ?_
 rintro e_ w4 ⟨vR, m, s2, rfl, hsp, hm1, hm2, hmR⟩
 refine ⟨_, rfl, ?_⟩
 have hss := SP.put HS.out hsp.below hsp.grown hsp.cell
 have hmr : 0 ≤ s2 → m = (bwG L W D (L.length + 1) bg 0 false).2 ∧ Kd.R k41 41 w4 w.heap.size (fun _ => True) vR (bwG L W D (L.length + 1) bg 0 false).1 := fun h => ⟨(hmR h).1, Kd.R_lower (hmR h).2 HS.out.grown.size⟩
 have HMR := Aside0.mk hmr
 clear HS H4 hsp hmR hmr
 have HS := Aside0.mk hss
 clear hss
 refine hK.out _ _ ?_
 clear hK K
 refine norm_ (a' := ?_) ?_ ?_
 rotate_left
 · show Act.put _ (some 13) _ = _
   simp only [Act.put, List.setIfInBounds_toArray, List.set_cons_zero, List.set_cons_succ, i64_w, i32_w]
   rfl
 refine pure_ (i := 6) (N := some 14) (v := ?_) (a' := ?_) #[true, true, true, true, true, true, true, false, false, false] rfl rfl (by kernel_rfl) (fun _ _ _ h => h) (Or.inl ⟨by rfl, ?_⟩) ?_ ?_
 rotate_left
 · intro w'
   go_simp
   with_reducible rfl
 rotate_left
 · simp only [Act.put, List.setIfInBounds_toArray, List.set_cons_zero, List.set_cons_succ, i64_w, i32_w]
   rfl
 refine pure_ (i := 7) (N := some 15) (v := ?_) (a' := ?_) #[true, true, true, true, true, true, true, true, false, false] rfl rfl (by kernel_rfl) (fun _ _ _ h => h) (Or.inl ⟨by rfl, ?_⟩) ?_ ?_
 rotate_left
 · intro w'
   go_simp
   with_reducible rfl
 rotate_left
 · simp only [Act.put, List.setIfInBounds_toArray, List.set_cons_zero, List.set_cons_succ, i64_w, i32_w]
   rfl
 refine pure_ (i := 8) (N := some 6) (v := ?_) (a' := ?_) #[true, true, true, true, true, true, true, true, true, false] rfl rfl (by kernel_rfl) (fun _ _ _ h => h) (Or.inl ⟨by rfl, ?_⟩) ?_ ?_
 rotate_left
 · intro w'
   go_simp
   with_reducible rfl
 rotate_left
 · simp only [Act.put, List.setIfInBounds_toArray, List.set_cons_zero, List.set_cons_succ, i64_w, i32_w]
   rfl
 refine pure_ (i := 9) (N := some 7) (v := ?_) (a' := ?_) #[true, true, true, true, true, true, true, true, true, true] rfl rfl (by kernel_rfl) (fun _ _ _ h => h) (Or.inl ⟨by rfl, ?_⟩) ?_ ?_
 rotate_left
 · intro w'
   go_simp
   with_reducible rfl
 rotate_left
 · simp only [Act.put, List.setIfInBounds_toArray, List.set_cons_zero, List.set_cons_succ, i64_w, i32_w]
   rfl
 refine done_ (by kernel_rfl) ?_
 (try simp only [Act.put, List.setIfInBounds_toArray, List.set_cons_zero, List.set_cons_succ])
 go_wp2
 go_ret2
 first
  | exact ⟨_, _, s2, rfl, HS.out, fun h => ⟨(HMR.out h).1.trans HBE.out.2, by rw [← HBE.out.1]; exact (HMR.out h).2⟩⟩
  | exact ⟨_, _, rfl, s2, HS.out, fun h => ⟨(HMR.out h).1.trans HBE.out.2, by rw [← HBE.out.1]; exact (HMR.out h).2⟩⟩
end
def cutL (m : Int) (L : List S49) : List S49 := if (L.length : Int) > m then L.take m.toNat else L
set_option maxHeartbeats 8000000 in
set_option maxRecDepth 100000 in
theorem bestLaw (A0 : Option Addr) (c0 : Nat) (L : List S49) (A1 : Option Addr) (c1 : Nat) (W : List Int) (D : Int) (w : World) (hL : Kd.C k49 w A0 L.length L) (hc : L.length ≤ c0) (hW : kI.C w A1 W.length W) (hcw : W.length ≤ c1) :
    Calls Try.prog 3 #[.slice A0 L.length c0, .agg #[.slice A1 W.length c1, .int .i64 D]] w fun e w' => e = .returned (.bool true) ∧ Below w.heap.size w w' := by
 have hu25 := Try.underlying25
 have hu22 := Try.underlying22
 obtain ⟨kb, hkb⟩ := broken_pure.rounds
 have HBR := Aside0.mk (fun W2 => chancerylaw3_broken.calls kb true W2 hkb)
 obtain ⟨L2, hL2⟩ : ∃ q, cutL 16 L = q := ⟨_, rfl⟩
 have hC2 : Kd.C k49 w A0 L2.length L2 ∧ L2.length ≤ c0 := by
  rw [← hL2]
  unfold cutL
  split
  · rename_i q
    have hm : (16 : Int).toNat ≤ L.length := by omega
    exact ⟨Kd.C_take hL hm, by rw [List.length_take]; omega⟩
  · exact ⟨hL, hc⟩
 have HL := Aside0.mk hC2.1
 have hc2 := hC2.2
 have HW := Aside0.mk hW
 have HB := Aside0.mk (Below.refl w.heap.size w)
 obtain ⟨e, e1, e2, e3⟩ := check_pure L2
 obtain ⟨s, g1, g2, g3⟩ := shape_pure W D
 obtain ⟨E, q1, q2, q3, -⟩ := both_pure L2 W D e s e1 e2 g1 g2
 obtain ⟨ke1, he1⟩ := e1.rounds
 obtain ⟨ke2, he2⟩ := e2.rounds
 obtain ⟨ks1, hs1⟩ := g1.rounds
 obtain ⟨ks2, hs2⟩ := g2.rounds
 obtain ⟨kc, hkc⟩ := q1.rounds
 obtain ⟨kp, hkp⟩ := q2.rounds
 have H8 := Aside0.mk (fun W2 h h' => chancerylaw3_partsError.calls kp A0 c0 L2 A1 c1 W D E W2 h hc2 h' hcw hkp)
 have HE0 : Aside0 (E = 0 → Fine L2 ∧ Glue L2 ∧ FineS W D) := ⟨fun h => ⟨(e3 (q3 h).1).1, (e3 (q3 h).1).2.1, g3 (q3 h).2⟩⟩
 have HKC := Aside0.mk hkc
 have HCUT := Aside0.mk hL2
 have hgt : Aside0 (cutL 16 L = L2) := ⟨hL2⟩
 clear hL hW hkb hC2 e1 e2 e3 g1 g2 g3 q1 q2 q3 he1 he2 hs1 hs2 hkc hkp
 go_enter Try.func3, Try.ntmps3
 go_upto_if 13 with (first
  | ((with_reducible refine gate_dst (N := 3) rfl ?_); refine box_event ?hg (N := 3) ?hd (cs := #[.slice A1 W.length c1, .int .i64 D]) (t := 25) ?hr ?_; (case hd => rfl); (case hg => rfl); (case hr => first | (go_simp; done) | (go_simp; rfl)); intro g3 hg wb3 hbox hb; (have hbb3 := below_step HB.out hb); clear HB; (have HB := Aside0.mk hbb3); (have H3 := Aside0.mk hbox); clear hg hbox hb hbb3)
  | (go_at_call 6; refine (HBR.out _).mono ?_; rintro e_ wx ⟨rfl, hb⟩; (have hbb3 := below_step HB.out hb); (have h3 := blk_below H3.out hb); clear HB H3; (have HB := Aside0.mk hbb3); (have H3 := Aside0.mk h3); clear hb hbb3 h3))
 go_upto_if 16 with (fail)
 (try simp only [Act.put, List.setIfInBounds_toArray, List.set_cons_zero, List.set_cons_succ])
 go_cut [0] (fun v0 wc => v0 = .slice A0 L2.length c0 ∧ Aside0 (Below w.heap.size w wc) ∧ Aside0 (wc.heap[g3]? = some (.cells #[.slice A1 W.length c1, .int .i64 D] 25 (0, 0))))
 case first =>
  by_cases q : (L.length : Int) > 16
  · have qb : decide ((L.length : Int) > 16) = true := decide_eq_true q
    have qb2 : decide ((16 : Int) < (L.length : Int)) = true := decide_eq_true q
    have hl2 : L2.length = 16 := by rw [← hL2]; unfold cutL; rw [if_pos q, List.length_take]; omega
    have hrun : ∀ W2 : World, (Instr.slice 22 (.slice A0 L.length c0) none (some (.int .i64 16)) none).run Try.prog W2 = .ok (.slice A0 16 c0) W2 := by
     obtain ⟨i49, hi49, _⟩ := Option.map_eq_some_iff.1 info49
     intro W2
     exact cut_to 22 49 .i64 Try.underlying22 hi49 A0 L.length c0 16 (by omega) (by omega) hc W2
    clear hL2
    go_wp2
    go_meet
    exact ⟨by rw [hl2], HB, H3⟩
  · have qb : decide ((L.length : Int) > 16) = false := decide_eq_false q
    have qb2 : decide ((16 : Int) < (L.length : Int)) = false := decide_eq_false q
    have hl2 : L2 = L := by rw [← hL2]; unfold cutL; rw [if_neg q]
    clear hL2
    go_wp2
    go_meet
    exact ⟨by rw [hl2], HB, H3⟩
 case rest =>
  clear HB H3 hL2
  obtain ⟨rfl, HB, H3⟩ := hcut
  have h30 : wc.cell? ⟨g3, 0, none⟩ = some (.slice A1 W.length c1) := (blk_cell H3.out 0).trans rfl
  have h31 : wc.cell? ⟨g3, 1, none⟩ = some (.int .i64 D) := (blk_cell H3.out 1).trans rfl
  by_cases q : E = 0
  · obtain ⟨hF, hG, hS⟩ := HE0.out q
    subst q
    have HBK := Aside0.mk (fun W2 h h' => break_ok L2 W D hF hS A0 c0 A1 c1 kc W2 h hc2 h' hcw HKC.out)
    have HBL := Aside0.mk (fun gp hgp W2 h1 h2 => bestLines_ok L2 W D hF hG hS w A0 c0 A1 c1 gp HL.out hc2 HW.out hcw hgp W2 h1 h2)
    have hPl : (wayP L2 W D).length ≤ 1000000 := by
     have hbb := begL_bd L2
     have hbe := bw_eq L2 W D (L2.length + 1) (begL L2) 0 false hbb.1 hbb.2 (by omega)
     have hbp := bestP_bd L2 W D hF hS.2.2.2 hS.1 hS.2.2.1 (begL L2) (capN W 0) false hbb.1 hbb.2 (by unfold capN mn; have := hS.1; split <;> omega)
     unfold Bnd at hbp
     have := hF.1
     have h1 : (wayP L2 W D).length = (bwG L2 W D (L2.length + 1) (begL L2) 0 false).1.length := by rw [hbe.1]; rfl
     omega
    obtain ⟨P, hP⟩ : ∃ q, wayP L2 W D = q := ⟨_, rfl⟩
    obtain ⟨C, hC⟩ : ∃ q, (bestP L2 W D (begL L2) 0 false).2.1 = q := ⟨_, rfl⟩
    rw [hP, hC] at HBK HBL
    rw [hP] at hPl
    obtain ⟨ksm, hsm⟩ := (same_pure P hPl).rounds
    have HSM := Aside0.mk (fun (W2 : World) A c A' c' h1 h2 h3 h4 => chancerylaw3_sameLines.calls ksm A c P A' c' P true W2 h1 h2 h3 h4 hsm)
    clear hP hC hsm hF hG hS hPl
    go_upto_region 10 with (first
     | (go_at_call 7; refine (HBK.out _ (Kd.C_below HL.out HB.out) (Kd.C_below HW.out HB.out)).mono ?_; rintro e_ wg ⟨vg, rfl, ho, hb⟩; obtain ⟨Ag, cg, rfl, hgl, -⟩ := Kd.R_reads ho; (have hbb3 := below_step HB.out hb); (have h3 := blk_below H3.out hb); clear HB H3 h30 h31; (have HB := Aside0.mk hbb3); (have H3 := Aside0.mk h3); (have HO := Aside0.mk ho); (have HGL := Aside0.mk hgl); (have h30 : wg.cell? ⟨g3, 0, none⟩ = some (.slice A1 W.length c1) := (blk_cell h3 0).trans rfl); (have h31 : wg.cell? ⟨g3, 1, none⟩ = some (.int .i64 D) := (blk_cell h3 1).trans rfl); clear hb hbb3 h3 ho hgl)
     | (go_at_call 8; refine (H8.out _ (Kd.C_below HL.out HB.out) (Kd.C_below HW.out HB.out)).mono ?_; rintro e_ wp ⟨rfl, hb⟩; (have hbb3 := below_step HB.out hb); (have h3 := blk_below H3.out hb); (have hoo := Kd.R_below HO.out hb); clear HB H3 HO h30 h31; (have HB := Aside0.mk hbb3); (have H3 := Aside0.mk h3); (have HO := Aside0.mk hoo); (have h30 : wp.cell? ⟨g3, 0, none⟩ = some (.slice A1 W.length c1) := (blk_cell h3 0).trans rfl); (have h31 : wp.cell? ⟨g3, 1, none⟩ = some (.int .i64 D) := (blk_cell h3 1).trans rfl); clear hb hbb3 h3 hoo)
     | ((with_reducible refine gate_dst (N := 9) rfl ?_); refine box_event ?hg (N := 9) ?hd (cs := #[.int .i64 0]) (t := 3) ?hr ?_; (case hd => rfl); (case hg => rfl); (case hr => first | (go_simp; done) | (go_simp; rfl)); intro g9 hg wb9 hbox hb; (have hbb3 := below_step HB.out hb); (have h3 := blk_below H3.out hb); (have hoo := Kd.R_below HO.out hb); (have hge : w.heap.size ≤ g9 := by rw [hg]; exact HB.out.size); (have hne : g3 ≠ g9 := by rw [hg]; exact Nat.ne_of_lt (blk_lt H3.out)); clear HB H3 HO h30 h31; (have HB := Aside0.mk hbb3); (have H3 := Aside0.mk h3); (have HO := Aside0.mk hoo); (have H9 := Aside0.mk hbox); (have G9 := Aside0.mk hge); (have N9 := Aside0.mk hne); clear hg hbox hb hbb3 h3 hoo hge hne)
     | ((with_reducible refine gate_store (t := 3) (p := 9) rfl ?_); refine agg_event (w0 := w) rfl rfl 3 (.tmp 9) (.const (.int .i64 100000)) rfl (g := g9) (e := 3) (.int .i64 100000) [.int .i64 100000] rfl rfl rfl (by kernel_rfl) H9.out rfl (by simp only [List.mem_cons, List.not_mem_nil, or_false, forall_eq]; exact rfl) HB.out G9.out ?_; intro ws9 hbox hb hgr; (have h3 := (hgr.block g3 (blk_lt H3.out) (fun e => N9.out (by injection e))).trans H3.out); (have hoo := Kd.R_grown1 HO.out rfl hgr (Kd.R_ne HO.out H9.out (by decide))); clear HB H3 HO H9; (have HB := Aside0.mk hb); (have H3 := Aside0.mk h3); (have HO := Aside0.mk hoo); (have H9 := Aside0.mk hbox); (have h30 : ws9.cell? ⟨g3, 0, none⟩ = some (.slice A1 W.length c1) := (blk_cell h3 0).trans rfl); (have h31 : ws9.cell? ⟨g3, 1, none⟩ = some (.int .i64 D) := (blk_cell h3 1).trans rfl); clear hbox hb hgr h3 hoo))
    go_upto_region 11 with (go_at_call 9; refine (HBL.out g9 G9.out _ HB.out H9.out).mono ?_; rintro e_ wl ⟨vl, cl, s1, rfl, hsp, hml⟩; (have hoo := Kd.R_grown1 HO.out rfl hsp.grown (Kd.R_ne HO.out H9.out (by decide))); clear HB H3 HO H9 h30 h31; (have HB := Aside0.mk hsp.below); (have HO := Aside0.mk hoo); (have H9 := Aside0.mk hsp.cell); (have HML := Aside0.mk hml); clear hsp hml hoo)
    have h90 : wl.cell? ⟨g9, 0, none⟩ = some (.int .i64 s1) := (blk_cell H9.out 0).trans rfl
    by_cases z : s1 < 0
    · have zd : decide (s1 < 0) = true := decide_eq_true z
      go_wp2
      repeat (go_quiet (fail); try go_wp2)
      (try simp only [Act.put, List.setIfInBounds_toArray, List.set_cons_zero, List.set_cons_succ])
      go_ret
      exact ⟨rfl, by repeat (first | (with_reducible first | exact HB.out | apply pw_below_drewN | apply below_drew1) | exact HB.out)⟩
    · have zd : decide (s1 < 0) = false := decide_eq_false z
      obtain ⟨hcl, hvl⟩ := HML.out (by omega)
      subst hcl
      obtain ⟨Al, cl2, rfl, hll, -⟩ := Kd.R_reads hvl
      have HO2 := Aside0.mk hvl
      have hcb : (cl == cl) = true := beq_self_eq_true cl
      clear hvl z
      go_wp2_with ((go_at_call 10; refine (HSM.out _ Ag cg Al cl2 (Kd.R_reads' HO.out).2.2 HGL.out (Kd.R_reads' HO2.out).2.2 hll).mono ?_; rintro e_ wz ⟨rfl, hdn⟩; (have hbb3 := below_step HB.out hdn.below); clear HB; (have HB := Aside0.mk hbb3); clear hbb3 hdn))
      repeat (go_quiet ((go_at_call 10; refine (HSM.out _ Ag cg Al cl2 (Kd.R_reads' HO.out).2.2 HGL.out (Kd.R_reads' HO2.out).2.2 hll).mono ?_; rintro e_ wz ⟨rfl, hdn⟩; (have hbb3 := below_step HB.out hdn.below); clear HB; (have HB := Aside0.mk hbb3); clear hbb3 hdn)); try go_wp2_with ((go_at_call 10; refine (HSM.out _ Ag cg Al cl2 (Kd.R_reads' HO.out).2.2 HGL.out (Kd.R_reads' HO2.out).2.2 hll).mono ?_; rintro e_ wz ⟨rfl, hdn⟩; (have hbb3 := below_step HB.out hdn.below); clear HB; (have HB := Aside0.mk hbb3); clear hbb3 hdn)))
      (try simp only [Act.put, List.setIfInBounds_toArray, List.set_cons_zero, List.set_cons_succ])
      go_ret
      exact ⟨rfl, by repeat (first | (with_reducible first | exact HB.out | apply pw_below_drewN | apply below_drew1) | exact HB.out)⟩
  · have HGE := Aside0.mk (fun W2 h h' => break_err A0 c0 L2 A1 c1 W D kc E W2 h hc2 h' hcw HKC.out q)
    have hnb : (E != 0) = true := bne_iff_ne.2 q
    have hbe : (E == E) = true := beq_self_eq_true E
    clear q HE0
    go_wp2_with (first
     | (go_at_call 7; refine (HGE.out _ (Kd.C_below HL.out HB.out) (Kd.C_below HW.out HB.out)).mono ?_; rintro e_ wg ⟨rfl, hb⟩; (have hbb3 := below_step HB.out hb); (have h3 := blk_below H3.out hb); clear HB H3 h30 h31; (have HB := Aside0.mk hbb3); (have H3 := Aside0.mk h3); (have h30 : wg.cell? ⟨g3, 0, none⟩ = some (.slice A1 W.length c1) := (blk_cell h3 0).trans rfl); (have h31 : wg.cell? ⟨g3, 1, none⟩ = some (.int .i64 D) := (blk_cell h3 1).trans rfl); clear hb hbb3 h3)
     | (go_at_call 8; refine (H8.out _ (Kd.C_below HL.out HB.out) (Kd.C_below HW.out HB.out)).mono ?_; rintro e_ wp ⟨rfl, hb⟩; (have hbb3 := below_step HB.out hb); clear HB H3 h30 h31; (have HB := Aside0.mk hbb3); clear hb hbb3))
    repeat (go_quiet (fail); try go_wp2)
    (try simp only [Act.put, List.setIfInBounds_toArray, List.set_cons_zero, List.set_cons_succ])
    go_ret
    exact ⟨rfl, by repeat (first | (with_reducible first | exact HB.out | apply pw_below_drewN | apply below_drew1) | exact HB.out)⟩
end Go.Proofs.Ythapclmfkjldaaa.HandLN
