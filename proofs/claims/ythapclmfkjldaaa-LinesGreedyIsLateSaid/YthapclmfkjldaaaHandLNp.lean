import Derived.Test.YthapclmfkjldaaaBrokenLN
import Derived.Test.YthapclmfkjldaaaHandLNo
import Derived.Test.YthapclmfkjldaaaQLNx4
namespace Go.Proofs.Ythapclmfkjldaaa.HandLN
set_option linter.unusedSectionVars false
set_option linter.unusedVariables false
set_option linter.unusedSimpArgs false
open Go.Proofs.Ythapclmfkjldaaa.Lib (w64)
open Go.RowKit Go.Proofs.YthapclmfkjldaaaW.PrintWords Go.Proofs.YthapclmfkjldaaaW.PrintLast Go.Proofs.YthapclmfkjldaaaW.PrintMore Go.Proofs.Ythapclmfkjldaaa.QLN Go.Proofs.Ythapclmfkjldaaa.QLG Go.Proofs.Ythapclmfkjldaaa.LinesP Go.Proofs.Ythapclmfkjldaaa.Lib
attribute [local go_sem] max2_int min2_int max_two min_two
theorem broken_pure : Ev (fun k => chancerylaw3_broken.f k) true := Ev.of chancerylaw3_broken.mono (k := 60) (by decide +kernel)
theorem same_pure (l : List S41) (hl : l.length ≤ 1000000) : Ev (fun k => chancerylaw3_sameLines.f k l l) true := by
 refine Ev.pos rfl ?_
 refine climb (g := fun i k => chancerylaw3_sameLines.l0 k l l (l.length : Int) i) (a := 0) (n := (l.length : Int)) (by omega) (Ev.step (fun q => by rw [chancerylaw3_sameLines.l0]) (Ev.neg (by omega) (Ev.ret rfl))) (fun i i0 i1 hi => ?_)
 have wi : wrap64 (i + 1) = i + 1 := w64 (by omega) (by omega)
 refine Ev.step (fun q => by rw [chancerylaw3_sameLines.l0, wi]) (Ev.pos i1 (Ev.pos i0 (Ev.pos i1 (Ev.pos i1 (Ev.neg (by simp) hi)))))
theorem both_pure (L : List S49) (W : List Int) (D e s : Int) (h1 : Ev (fun k => lines_Check.f k L) e) (h2 : Ev (fun k => chanceryref3_PartsError.f k L) e) (g1 : Ev (fun k => lines_CheckShape.f k W D) s) (g2 : Ev (fun k => chanceryref3_ShapeError.f k W D) s) :
    ∃ E : Int, Ev (fun k => lines_check.f k L W D) E ∧ Ev (fun k => chancerylaw3_partsError.f k L W D) E ∧ (E = 0 → e = 0 ∧ s = 0) ∧ True := by
 by_cases q : e = 0
 · refine ⟨s, Ev.bind h1 (Ev.pos q (Ev.bind g1 (Ev.ret rfl))), Ev.bind h2 (Ev.pos q (Ev.bind g2 (Ev.ret rfl))), fun h => ⟨q, h⟩, trivial⟩
 · refine ⟨e, Ev.bind h1 (Ev.neg q (Ev.ret rfl)), Ev.bind h2 (Ev.neg q (Ev.ret rfl)), fun h => absurd h q, trivial⟩
theorem lateG_len (L : List S49) (W : List Int) (D : Int) (d : Nat) : ∀ (f num : Int) (fl : Bool), (lateG L W D d f num fl).1.length ≤ d := by
 induction d with
 | zero => intro f num fl; exact Nat.le_refl _
 | succ d ih =>
  intro f num fl
  unfold lateG
  split
  · exact Nat.succ_le_succ (Nat.zero_le _)
  · exact Nat.succ_le_succ (ih _ _ _)
def cutL (m : Int) (L : List S49) : List S49 := if (L.length : Int) > m then L.take m.toNat else L
set_option maxHeartbeats 8000000 in
set_option maxRecDepth 100000 in
theorem greedyLaw (A0 : Option Addr) (c0 : Nat) (L : List S49) (A1 : Option Addr) (c1 : Nat) (W : List Int) (D : Int) (w : World) (hL : Kd.C k49 w A0 L.length L) (hc : L.length ≤ c0) (hW : kI.C w A1 W.length W) (hcw : W.length ≤ c1) :
    Calls Try.prog 4 #[.slice A0 L.length c0, .agg #[.slice A1 W.length c1, .int .i64 D]] w fun e w' => e = .returned (.bool true) ∧ Below w.heap.size w w' := by
 have hu25 := Try.underlying25
 have hu22 := Try.underlying22
 obtain ⟨kb, hkb⟩ := broken_pure.rounds
 have HBR := Aside0.mk (fun W2 => chancerylaw3_broken.calls kb true W2 hkb)
 obtain ⟨L2, hL2⟩ : ∃ q, cutL 100 L = q := ⟨_, rfl⟩
 have hC2 : Kd.C k49 w A0 L2.length L2 ∧ L2.length ≤ c0 := by
  rw [← hL2]
  unfold cutL
  split
  · rename_i q
    have hm : (100 : Int).toNat ≤ L.length := by omega
    exact ⟨Kd.C_take hL hm, by rw [List.length_take]; omega⟩
  · exact ⟨hL, hc⟩
 have HL := Aside0.mk hC2.1
 have hc2 := hC2.2
 have HW := Aside0.mk hW
 have HB := Aside0.mk (Below.refl w.heap.size w)
 obtain ⟨e, e1, e2, e3⟩ := check_pure L2
 obtain ⟨s, g1, g2, g3⟩ := shape_pure W D
 obtain ⟨E, q1, q2, q3, -⟩ := both_pure L2 W D e s e1 e2 g1 g2
 obtain ⟨ke1, he1⟩ := e1.rounds
 obtain ⟨ke2, he2⟩ := e2.rounds
 obtain ⟨ks1, hs1⟩ := g1.rounds
 obtain ⟨ks2, hs2⟩ := g2.rounds
 obtain ⟨kc, hkc⟩ := q1.rounds
 obtain ⟨kp, hkp⟩ := q2.rounds
 have H12 := Aside0.mk (fun W2 h => lines_Check.calls ke1 A0 c0 L2 e W2 h hc2 he1)
 have H13 := Aside0.mk (fun W2 h => chanceryref3_PartsError.calls ke2 A0 c0 L2 e W2 h hc2 he2)
 have H14 := Aside0.mk (fun W2 h => lines_CheckShape.calls ks1 A1 c1 W D s W2 h hcw hs1)
 have H15 := Aside0.mk (fun W2 h => chanceryref3_ShapeError.calls ks2 A1 c1 W D s W2 h hcw hs2)
 have H8 := Aside0.mk (fun W2 h h' => chancerylaw3_partsError.calls kp A0 c0 L2 A1 c1 W D E W2 h hc2 h' hcw hkp)
 have HE0 : Aside0 (E = 0 → Fine L2 ∧ Glue L2 ∧ FineS W D) := ⟨fun h => ⟨(e3 (q3 h).1).1, (e3 (q3 h).1).2.1, g3 (q3 h).2⟩⟩
 have HKC := Aside0.mk hkc
 have HCUT := Aside0.mk hL2
 have hgt : Aside0 (cutL 100 L = L2) := ⟨hL2⟩
 clear hL hW hkb hC2 e1 e2 e3 g1 g2 g3 q1 q2 q3 he1 he2 hs1 hs2 hkc hkp
 go_enter Try.func4, Try.ntmps4
 go_upto_if 12 with (first
  | ((with_reducible refine gate_dst (N := 3) rfl ?_); refine box_event ?hg (N := 3) ?hd (cs := #[.slice A1 W.length c1, .int .i64 D]) (t := 25) ?hr ?_; (case hd => rfl); (case hg => rfl); (case hr => first | (go_simp; done) | (go_simp; rfl)); intro g3 hg wb3 hbox hb; (have hbb3 := below_step HB.out hb); clear HB; (have HB := Aside0.mk hbb3); (have H3 := Aside0.mk hbox); clear hg hbox hb hbb3)
  | (go_at_call 6; refine (HBR.out _).mono ?_; rintro e_ wx ⟨rfl, hb⟩; (have hbb3 := below_step HB.out hb); (have h3 := blk_below H3.out hb); clear HB H3; (have HB := Aside0.mk hbb3); (have H3 := Aside0.mk h3); clear hb hbb3 h3))
 go_upto_if 15 with (fail)
 (try simp only [Act.put, List.setIfInBounds_toArray, List.set_cons_zero, List.set_cons_succ])
 go_cut [0] (fun v0 wc => v0 = .slice A0 L2.length c0 ∧ Aside0 (Below w.heap.size w wc) ∧ Aside0 (wc.heap[g3]? = some (.cells #[.slice A1 W.length c1, .int .i64 D] 25 (0, 0))))
 case first =>
  by_cases q : (L.length : Int) > 100
  · have qb : decide ((L.length : Int) > 100) = true := decide_eq_true q
    have qb2 : decide ((100 : Int) < (L.length : Int)) = true := decide_eq_true q
    have hl2 : L2.length = 100 := by rw [← hL2]; unfold cutL; rw [if_pos q, List.length_take]; omega
    have hrun : ∀ W2 : World, (Instr.slice 22 (.slice A0 L.length c0) none (some (.int .i64 100)) none).run Try.prog W2 = .ok (.slice A0 100 c0) W2 := by
     obtain ⟨i49, hi49, _⟩ := Option.map_eq_some_iff.1 info49
     intro W2
     exact cut_to 22 49 .i64 Try.underlying22 hi49 A0 L.length c0 100 (by omega) (by omega) hc W2
    clear hL2
    go_wp2
    go_meet
    exact ⟨by rw [hl2], HB, H3⟩
  · have qb : decide ((L.length : Int) > 100) = false := decide_eq_false q
    have qb2 : decide ((100 : Int) < (L.length : Int)) = false := decide_eq_false q
    have hl2 : L2 = L := by rw [← hL2]; unfold cutL; rw [if_neg q]
    clear hL2
    go_wp2
    go_meet
    exact ⟨by rw [hl2], HB, H3⟩
 case rest =>
  clear HB H3 hL2
  obtain ⟨rfl, HB, H3⟩ := hcut
  have h30 : wc.cell? ⟨g3, 0, none⟩ = some (.slice A1 W.length c1) := (blk_cell H3.out 0).trans rfl
  have h31 : wc.cell? ⟨g3, 1, none⟩ = some (.int .i64 D) := (blk_cell H3.out 1).trans rfl
  by_cases q : E = 0
  · obtain ⟨hF, hG, hS⟩ := HE0.out q
    subst q
    have HG := Aside0.mk (fun W2 h h' => greedy_ok L2 W D hF hS A0 c0 A1 c1 kc W2 h hc2 h' hcw HKC.out)
    have HLT := Aside0.mk (fun W2 h h' => late_ok L2 W D hF hG hS A0 c0 A1 c1 W2 h hc2 h' hcw)
    obtain ⟨P, hP⟩ : ∃ q, (lateP L2 W D).1 = q := ⟨_, rfl⟩
    obtain ⟨C, hC⟩ : ∃ q, (lateP L2 W D).2 = q := ⟨_, rfl⟩
    have hPl : P.length ≤ 1000000 := by
     rw [← hP]
     exact Nat.le_trans (lateG_len L2 W D (L2.length + 1) (begL L2) 0 false) (by have := hF.1; omega)
    rw [hP, hC] at HG HLT
    obtain ⟨ksm, hsm⟩ := (same_pure P hPl).rounds
    have HSM := Aside0.mk (fun (W2 : World) A c A' c' h1 h2 h3 h4 => chancerylaw3_sameLines.calls ksm A c P A' c' P true W2 h1 h2 h3 h4 hsm)
    have hPl := hPl
    clear hP hC hsm hF hG hS
    go_wp2_with (first
     | (go_at_call 11; refine (HG.out _ (Kd.C_below HL.out HB.out) (Kd.C_below HW.out HB.out)).mono ?_; rintro e_ wg ⟨vg, rfl, ho, hb⟩; obtain ⟨Ag, cg, rfl, hgl, -⟩ := Kd.R_reads ho; (have hbb3 := below_step HB.out hb); (have h3 := blk_below H3.out hb); clear HB H3 h30 h31; (have HB := Aside0.mk hbb3); (have H3 := Aside0.mk h3); (have HO := Aside0.mk ho); (have h30 : wg.cell? ⟨g3, 0, none⟩ = some (.slice A1 W.length c1) := (blk_cell h3 0).trans rfl); (have h31 : wg.cell? ⟨g3, 1, none⟩ = some (.int .i64 D) := (blk_cell h3 1).trans rfl); clear hb hbb3 h3 ho)
     | (go_at_call 8; refine (H8.out _ (Kd.C_below HL.out HB.out) (Kd.C_below HW.out HB.out)).mono ?_; rintro e_ wp ⟨rfl, hb⟩; (have hbb3 := below_step HB.out hb); (have h3 := blk_below H3.out hb); (have hoo := Kd.R_below HO.out hb); clear HB H3 HO h30 h31; (have HB := Aside0.mk hbb3); (have H3 := Aside0.mk h3); (have HO := Aside0.mk hoo); (have h30 : wp.cell? ⟨g3, 0, none⟩ = some (.slice A1 W.length c1) := (blk_cell h3 0).trans rfl); (have h31 : wp.cell? ⟨g3, 1, none⟩ = some (.int .i64 D) := (blk_cell h3 1).trans rfl); clear hb hbb3 h3 hoo)
     | (go_at_call 16; refine (HLT.out _ (Kd.C_below HL.out HB.out) (Kd.C_below HW.out HB.out)).mono ?_; rintro e_ wl ⟨vl, rfl, ho, hb⟩; obtain ⟨Al, cl, rfl, hll, -⟩ := Kd.R_reads ho; (have hbb3 := below_step HB.out hb); (have hoo := Kd.R_below HO.out hb); clear HB H3 HO h30 h31; (have HB := Aside0.mk hbb3); (have HO := Aside0.mk hoo); (have HO2 := Aside0.mk ho); clear hb hbb3 hoo ho)
     | (go_at_call 10; refine (HSM.out _ Ag cg Al cl (Kd.R_reads' HO.out).2.2 hgl (Kd.R_reads' HO2.out).2.2 hll).mono ?_; rintro e_ wz ⟨rfl, hdn⟩; (have hbb3 := below_step HB.out hdn.below); clear HB; (have HB := Aside0.mk hbb3); clear hbb3 hdn))
    go_ret
    exact ⟨rfl, HB.out⟩
  · have HGE := Aside0.mk (fun W2 h h' => greedy_err A0 c0 L2 A1 c1 W D kc E W2 h hc2 h' hcw HKC.out q)
    have hnb : (E != 0) = true := bne_iff_ne.2 q
    have hbe : (E == E) = true := beq_self_eq_true E
    have hbe1 : (e == e) = true := beq_self_eq_true e
    have hbe2 : (s == s) = true := beq_self_eq_true s
    clear q HE0
    go_upto_region 8 with (first
     | (go_at_call 11; refine (HGE.out _ (Kd.C_below HL.out HB.out) (Kd.C_below HW.out HB.out)).mono ?_; rintro e_ wg ⟨rfl, hb⟩; (have hbb3 := below_step HB.out hb); (have h3 := blk_below H3.out hb); clear HB H3 h30 h31; (have HB := Aside0.mk hbb3); (have H3 := Aside0.mk h3); (have h30 : wg.cell? ⟨g3, 0, none⟩ = some (.slice A1 W.length c1) := (blk_cell h3 0).trans rfl); (have h31 : wg.cell? ⟨g3, 1, none⟩ = some (.int .i64 D) := (blk_cell h3 1).trans rfl); clear hb hbb3 h3)
     | (go_at_call 8; refine (H8.out _ (Kd.C_below HL.out HB.out) (Kd.C_below HW.out HB.out)).mono ?_; rintro e_ wp ⟨rfl, hb⟩; (have hbb3 := below_step HB.out hb); (have h3 := blk_below H3.out hb); clear HB H3 h30 h31; (have HB := Aside0.mk hbb3); (have H3 := Aside0.mk h3); (have h30 : wp.cell? ⟨g3, 0, none⟩ = some (.slice A1 W.length c1) := (blk_cell h3 0).trans rfl); (have h31 : wp.cell? ⟨g3, 1, none⟩ = some (.int .i64 D) := (blk_cell h3 1).trans rfl); clear hb hbb3 h3))
    (try simp only [Act.put, List.setIfInBounds_toArray, List.set_cons_zero, List.set_cons_succ])
    have HBD := Aside0.mk (below_drew1 HB.out)
    have H3D := Aside0.mk (blk_below H3.out (below_drew1 (Below.refl wp.heap.size wp)))
    refine start_ (n := 27) (S := fun w' => w'.cell? ⟨g3, 0, none⟩ = some (.slice A1 W.length c1) ∧ w'.cell? ⟨g3, 1, none⟩ = some (.int .i64 D)) (ds := []) #[false, false, false, false, false, false, false, false, false, false, false, false, false, false, false, false, false, false, false, false, false, false, false, false, false, false, false] (by kernel_rfl) rfl rfl ⟨(blk_cell H3D.out 0).trans rfl, (blk_cell H3D.out 1).trans rfl⟩ (fun hHeld => ?_)
    generalize wp.drew = wd at HBD H3D hHeld ⊢
    clear HB H3
    have HB := HBD
    have H3 := H3D
    clear HBD H3D
    refine pure_ (i := 0) (N := some 30) (v := ?_) (a' := ?_) #[true, false, false, false, false, false, false, false, false, false, false, false, false, false, false, false, false, false, false, false, false, false, false, false, false, false, false] rfl rfl (by kernel_rfl) (fun _ _ _ h => h) (Or.inl ⟨by rfl, ?_⟩) ?_ ?_
    rotate_left
    · intro w'
      go_simp
      with_reducible rfl
    rotate_left
    · simp only [Act.put, List.setIfInBounds_toArray, List.set_cons_zero, List.set_cons_succ, i64_w, i32_w]
      rfl
    refine pure_ (i := 1) (N := some 31) (v := ?_) (a' := ?_) #[true, true, false, false, false, false, false, false, false, false, false, false, false, false, false, false, false, false, false, false, false, false, false, false, false, false, false] rfl rfl (by kernel_rfl) (fun _ _ _ h => h) (Or.inl ⟨by rfl, ?_⟩) ?_ ?_
    rotate_left
    · intro w'
      go_simp
      with_reducible rfl
    rotate_left
    · simp only [Act.put, List.setIfInBounds_toArray, List.set_cons_zero, List.set_cons_succ, i64_w, i32_w]
      rfl
    refine pure_ (i := 2) (N := some 32) (v := ?_) (a' := ?_) #[true, true, true, false, false, false, false, false, false, false, false, false, false, false, false, false, false, false, false, false, false, false, false, false, false, false, false] rfl rfl (by kernel_rfl) (fun _ _ _ h => h) (Or.inl ⟨by rfl, ?_⟩) ?_ ?_
    rotate_left
    · intro w'
      go_simp
      with_reducible rfl
    rotate_left
    · simp only [Act.put, List.setIfInBounds_toArray, List.set_cons_zero, List.set_cons_succ, i64_w, i32_w]
      rfl
    refine pure_ (i := 3) (N := some 33) (v := ?_) (a' := ?_) #[true, true, true, true, false, false, false, false, false, false, false, false, false, false, false, false, false, false, false, false, false, false, false, false, false, false, false] rfl rfl (by kernel_rfl) (fun _ _ _ h => h) (Or.inl ⟨by rfl, ?_⟩) ?_ ?_
    rotate_left
    · intro w'
      go_simp
      with_reducible rfl
    rotate_left
    · simp only [Act.put, List.setIfInBounds_toArray, List.set_cons_zero, List.set_cons_succ, i64_w, i32_w]
      rfl
    refine pure_ (i := 4) (N := some 34) (v := ?_) (a' := ?_) #[true, true, true, true, true, false, false, false, false, false, false, false, false, false, false, false, false, false, false, false, false, false, false, false, false, false, false] rfl rfl (by kernel_rfl) (fun _ _ _ h => h) (Or.inl ⟨by rfl, ?_⟩) ?_ ?_
    rotate_left
    · intro w'
      go_simp
      with_reducible rfl
    rotate_left
    · simp only [Act.put, List.setIfInBounds_toArray, List.set_cons_zero, List.set_cons_succ, i64_w, i32_w]
      rfl
    refine pure_ (i := 5) (N := some 35) (v := ?_) (a' := ?_) #[true, true, true, true, true, true, false, false, false, false, false, false, false, false, false, false, false, false, false, false, false, false, false, false, false, false, false] rfl rfl (by kernel_rfl) (fun _ _ _ h => h) (Or.inl ⟨by rfl, ?_⟩) ?_ ?_
    rotate_left
    · intro w'
      go_simp
      with_reducible rfl
    rotate_left
    · simp only [Act.put, List.setIfInBounds_toArray, List.set_cons_zero, List.set_cons_succ, i64_w, i32_w]
      rfl
    refine pure_ (i := 6) (N := some 36) (v := ?_) (a' := ?_) #[true, true, true, true, true, true, true, false, false, false, false, false, false, false, false, false, false, false, false, false, false, false, false, false, false, false, false] rfl rfl (by kernel_rfl) (fun _ _ _ h => h) (Or.inl ⟨by rfl, ?_⟩) ?_ ?_
    rotate_left
    · intro w'
      go_simp
      with_reducible rfl
    rotate_left
    · simp only [Act.put, List.setIfInBounds_toArray, List.set_cons_zero, List.set_cons_succ, i64_w, i32_w]
      rfl
    refine pure_ (i := 7) (N := some 37) (v := ?_) (a' := ?_) #[true, true, true, true, true, true, true, true, false, false, false, false, false, false, false, false, false, false, false, false, false, false, false, false, false, false, false] rfl rfl (by kernel_rfl) (fun _ _ _ h => h) (Or.inl ⟨by rfl, ?_⟩) ?_ ?_
    rotate_left
    · intro w'
      go_simp
      with_reducible rfl
    rotate_left
    · simp only [Act.put, List.setIfInBounds_toArray, List.set_cons_zero, List.set_cons_succ, i64_w, i32_w]
      rfl
    refine pure_ (i := 8) (N := some 38) (v := ?_) (a' := ?_) #[true, true, true, true, true, true, true, true, true, false, false, false, false, false, false, false, false, false, false, false, false, false, false, false, false, false, false] rfl rfl (by kernel_rfl) (fun _ _ _ h => h) (Or.inl ⟨by rfl, ?_⟩) ?_ ?_
    rotate_left
    · intro w'
      go_simp
      with_reducible rfl
    rotate_left
    · simp only [Act.put, List.setIfInBounds_toArray, List.set_cons_zero, List.set_cons_succ, i64_w, i32_w]
      rfl
    refine pure_ (i := 9) (N := some 39) (v := ?_) (a' := ?_) #[true, true, true, true, true, true, true, true, true, true, false, false, false, false, false, false, false, false, false, false, false, false, false, false, false, false, false] rfl rfl (by kernel_rfl) (fun _ _ _ h => h) (Or.inl ⟨by rfl, ?_⟩) ?_ ?_
    rotate_left
    · intro w'
      go_simp
      with_reducible rfl
    rotate_left
    · simp only [Act.put, List.setIfInBounds_toArray, List.set_cons_zero, List.set_cons_succ, i64_w, i32_w]
      rfl
    refine pure_ (i := 10) (N := some 40) (v := ?_) (a' := ?_) #[true, true, true, true, true, true, true, true, true, true, true, false, false, false, false, false, false, false, false, false, false, false, false, false, false, false, false] rfl rfl (by kernel_rfl) (fun _ _ _ h => h) (Or.inl ⟨by rfl, ?_⟩) ?_ ?_
    rotate_left
    · intro w'
      go_simp
      with_reducible rfl
    rotate_left
    · simp only [Act.put, List.setIfInBounds_toArray, List.set_cons_zero, List.set_cons_succ, i64_w, i32_w]
      rfl
    refine pure_ (i := 11) (N := some 41) (v := ?_) (a' := ?_) #[true, true, true, true, true, true, true, true, true, true, true, true, false, false, false, false, false, false, false, false, false, false, false, false, false, false, false] rfl rfl (by kernel_rfl) (fun _ _ _ h => h) (Or.inl ⟨by rfl, ?_⟩) ?_ ?_
    rotate_left
    · intro w'
      go_simp
      with_reducible rfl
    rotate_left
    · simp only [Act.put, List.setIfInBounds_toArray, List.set_cons_zero, List.set_cons_succ, i64_w, i32_w]
      rfl
    refine pure_ (i := 12) (N := some 42) (v := ?_) (a' := ?_) #[true, true, true, true, true, true, true, true, true, true, true, true, true, false, false, false, false, false, false, false, false, false, false, false, false, false, false] rfl rfl (by kernel_rfl) (fun _ _ _ h => h) (Or.inl ⟨by rfl, ?_⟩) ?_ ?_
    rotate_left
    · intro w'
      go_simp
      with_reducible rfl
    rotate_left
    · simp only [Act.put, List.setIfInBounds_toArray, List.set_cons_zero, List.set_cons_succ, i64_w, i32_w]
      rfl
    refine pure_ (i := 13) (N := some 43) (v := ?_) (a' := ?_) #[true, true, true, true, true, true, true, true, true, true, true, true, true, true, false, false, false, false, false, false, false, false, false, false, false, false, false] rfl rfl (by kernel_rfl) (fun _ _ _ h => h) (Or.inl ⟨by rfl, ?_⟩) ?_ ?_
    rotate_left
    · intro w'
      go_simp
      with_reducible rfl
    rotate_left
    · simp only [Act.put, List.setIfInBounds_toArray, List.set_cons_zero, List.set_cons_succ, i64_w, i32_w]
      rfl
    refine pure_ (i := 15) (N := some 45) (v := ?_) (a' := ?_) #[true, true, true, true, true, true, true, true, true, true, true, true, true, true, false, true, false, false, false, false, false, false, false, false, false, false, false] rfl rfl (by kernel_rfl) (fun _ _ _ h => h) (Or.inl ⟨by rfl, ?_⟩) ?_ ?_
    rotate_left
    · intro w'
      go_simp
      with_reducible rfl
    rotate_left
    · simp only [Act.put, List.setIfInBounds_toArray, List.set_cons_zero, List.set_cons_succ, i64_w, i32_w]
      rfl
    refine one_ (i := 14) (N := some 44) #[true, true, true, true, true, true, true, true, true, true, true, true, true, true, true, true, false, false, false, false, false, false, false, false, false, false, false] rfl rfl (by kernel_rfl) (by decide) (fun K hK => ?_)
    refine goes_ Try.func12 (by kernel_rfl) rfl #[.slice A0 L2.length c0] (by rfl) rfl rfl (by simp only [List.map_toArray, List.map_cons, List.map_nil]; rfl) ?_
    with_reducible refine (H12.out _ (Kd.C_below HL.out HB.out)).mono ?_
    rintro e_ w3 ⟨rfl, hb⟩
    refine ⟨_, rfl, ?_⟩
    have hbb3 := below_step HB.out hb
    have h3 := blk_below H3.out hb
    clear HB H3
    have HB := Aside0.mk hbb3
    have H3 := Aside0.mk h3
    clear hb hbb3 h3
    refine hK.out _ _ ⟨(blk_cell H3.out 0).trans rfl, (blk_cell H3.out 1).trans rfl⟩ (fun hHeld => ?_)
    clear hK K
    refine norm_ (a' := ?_) ?_ ?_
    rotate_left
    · show Act.put _ (some 44) _ = _
      simp only [Act.put, List.setIfInBounds_toArray, List.set_cons_zero, List.set_cons_succ, i64_w, i32_w]
      rfl
    refine one_ (i := 16) (N := some 46) #[true, true, true, true, true, true, true, true, true, true, true, true, true, true, true, true, true, false, false, false, false, false, false, false, false, false, false] rfl rfl (by kernel_rfl) (by decide) (fun K hK => ?_)
    refine goes_ Try.func13 (by kernel_rfl) rfl #[.slice A0 L2.length c0] (by rfl) rfl rfl (by simp only [List.map_toArray, List.map_cons, List.map_nil]; rfl) ?_
    with_reducible refine (H13.out _ (Kd.C_below HL.out HB.out)).mono ?_
    rintro e_ w3 ⟨rfl, hb⟩
    refine ⟨_, rfl, ?_⟩
    have hbb3 := below_step HB.out hb
    have h3 := blk_below H3.out hb
    clear HB H3
    have HB := Aside0.mk hbb3
    have H3 := Aside0.mk h3
    clear hb hbb3 h3
    refine hK.out _ _ ⟨(blk_cell H3.out 0).trans rfl, (blk_cell H3.out 1).trans rfl⟩ (fun hHeld => ?_)
    clear hK K
    refine norm_ (a' := ?_) ?_ ?_
    rotate_left
    · show Act.put _ (some 46) _ = _
      simp only [Act.put, List.setIfInBounds_toArray, List.set_cons_zero, List.set_cons_succ, i64_w, i32_w]
      rfl
    refine pure_ (i := 17) (N := some 47) (v := ?_) (a' := ?_) #[true, true, true, true, true, true, true, true, true, true, true, true, true, true, true, true, true, true, false, false, false, false, false, false, false, false, false] rfl rfl (by kernel_rfl) (fun _ _ _ h => h) (Or.inl ⟨by rfl, ?_⟩) ?_ ?_
    rotate_left
    · intro w'
      go_simp
      with_reducible rfl
    rotate_left
    · simp only [Act.put, List.setIfInBounds_toArray, List.set_cons_zero, List.set_cons_succ, i64_w, i32_w]
      rfl
    refine pure_ (i := 18) (N := some 48) (v := ?_) (a' := ?_) #[true, true, true, true, true, true, true, true, true, true, true, true, true, true, true, true, true, true, true, false, false, false, false, false, false, false, false] rfl rfl (by kernel_rfl) (fun _ _ _ h => h) (Or.inl ⟨by rfl, ?_⟩) ?_ ?_
    rotate_left
    · intro w'
      go_simp
      with_reducible rfl
    rotate_left
    · simp only [Act.put, List.setIfInBounds_toArray, List.set_cons_zero, List.set_cons_succ, i64_w, i32_w]
      rfl
    refine pure_ (i := 19) (N := some 49) (v := ?_) (a' := ?_) #[true, true, true, true, true, true, true, true, true, true, true, true, true, true, true, true, true, true, true, true, false, false, false, false, false, false, false] rfl rfl (by kernel_rfl) (fun _ _ _ h => h) (Or.inl ⟨by rfl, ?_⟩) ?_ ?_
    rotate_left
    · intro w'
      go_simp
      with_reducible rfl
    rotate_left
    · simp only [Act.put, List.setIfInBounds_toArray, List.set_cons_zero, List.set_cons_succ, i64_w, i32_w]
      rfl
    refine take_ (i := 20) (N := some 50) (v := ?_) (a' := ?_) #[true, true, true, true, true, true, true, true, true, true, true, true, true, true, true, true, true, true, true, true, true, false, false, false, false, false, false] rfl rfl (by kernel_rfl) (fun _ _ _ h => h) (Or.inl ⟨by rfl, ?_⟩) hHeld ?_ ?_
    rotate_left
    · rintro w' ⟨s0, s1⟩
      go_simp
      with_reducible rfl
    rotate_left
    · simp only [Act.put, List.setIfInBounds_toArray, List.set_cons_zero, List.set_cons_succ, i64_w, i32_w]
      rfl
    refine take_ (i := 22) (N := some 52) (v := ?_) (a' := ?_) #[true, true, true, true, true, true, true, true, true, true, true, true, true, true, true, true, true, true, true, true, true, false, true, false, false, false, false] rfl rfl (by kernel_rfl) (fun _ _ _ h => h) (Or.inl ⟨by rfl, ?_⟩) hHeld ?_ ?_
    rotate_left
    · rintro w' ⟨s0, s1⟩
      go_simp
      with_reducible rfl
    rotate_left
    · simp only [Act.put, List.setIfInBounds_toArray, List.set_cons_zero, List.set_cons_succ, i64_w, i32_w]
      rfl
    refine one_ (i := 21) (N := some 51) #[true, true, true, true, true, true, true, true, true, true, true, true, true, true, true, true, true, true, true, true, true, true, true, false, false, false, false] rfl rfl (by kernel_rfl) (by decide) (fun K hK => ?_)
    refine goes_ Try.func14 (by kernel_rfl) rfl #[.agg #[.slice A1 W.length c1, .int .i64 D]] (by rfl) rfl rfl (by simp only [List.map_toArray, List.map_cons, List.map_nil]; rfl) ?_
    with_reducible refine (H14.out _ (Kd.C_below HW.out HB.out)).mono ?_
    rintro e_ w3 ⟨rfl, hb⟩
    refine ⟨_, rfl, ?_⟩
    have hbb3 := below_step HB.out hb
    have h3 := blk_below H3.out hb
    clear HB H3
    have HB := Aside0.mk hbb3
    have H3 := Aside0.mk h3
    clear hb hbb3 h3
    refine hK.out _ _ ⟨(blk_cell H3.out 0).trans rfl, (blk_cell H3.out 1).trans rfl⟩ (fun hHeld => ?_)
    clear hK K
    refine norm_ (a' := ?_) ?_ ?_
    rotate_left
    · show Act.put _ (some 51) _ = _
      simp only [Act.put, List.setIfInBounds_toArray, List.set_cons_zero, List.set_cons_succ, i64_w, i32_w]
      rfl
    refine one_ (i := 23) (N := some 53) #[true, true, true, true, true, true, true, true, true, true, true, true, true, true, true, true, true, true, true, true, true, true, true, true, false, false, false] rfl rfl (by kernel_rfl) (by decide) (fun K hK => ?_)
    refine goes_ Try.func15 (by kernel_rfl) rfl #[.agg #[.slice A1 W.length c1, .int .i64 D]] (by rfl) rfl rfl (by simp only [List.map_toArray, List.map_cons, List.map_nil]; rfl) ?_
    with_reducible refine (H15.out _ (Kd.C_below HW.out HB.out)).mono ?_
    rintro e_ w3 ⟨rfl, hb⟩
    refine ⟨_, rfl, ?_⟩
    have hbb3 := below_step HB.out hb
    have h3 := blk_below H3.out hb
    clear HB H3
    have HB := Aside0.mk hbb3
    have H3 := Aside0.mk h3
    clear hb hbb3 h3
    refine hK.out _ _ ⟨(blk_cell H3.out 0).trans rfl, (blk_cell H3.out 1).trans rfl⟩ (fun hHeld => ?_)
    clear hK K
    refine norm_ (a' := ?_) ?_ ?_
    rotate_left
    · show Act.put _ (some 53) _ = _
      simp only [Act.put, List.setIfInBounds_toArray, List.set_cons_zero, List.set_cons_succ, i64_w, i32_w]
      rfl
    refine pure_ (i := 24) (N := some 54) (v := ?_) (a' := ?_) #[true, true, true, true, true, true, true, true, true, true, true, true, true, true, true, true, true, true, true, true, true, true, true, true, true, false, false] rfl rfl (by kernel_rfl) (fun _ _ _ h => h) (Or.inl ⟨by rfl, ?_⟩) ?_ ?_
    rotate_left
    · intro w'
      go_simp
      with_reducible rfl
    rotate_left
    · simp only [Act.put, List.setIfInBounds_toArray, List.set_cons_zero, List.set_cons_succ, i64_w, i32_w]
      rfl
    refine pure_ (i := 25) (N := some 55) (v := ?_) (a' := ?_) #[true, true, true, true, true, true, true, true, true, true, true, true, true, true, true, true, true, true, true, true, true, true, true, true, true, true, false] rfl rfl (by kernel_rfl) (fun _ _ _ h => h) (Or.inl ⟨by rfl, ?_⟩) ?_ ?_
    rotate_left
    · intro w'
      go_simp
      with_reducible rfl
    rotate_left
    · simp only [Act.put, List.setIfInBounds_toArray, List.set_cons_zero, List.set_cons_succ, i64_w, i32_w]
      rfl
    refine pure_ (i := 26) (N := some 4) (v := ?_) (a' := ?_) #[true, true, true, true, true, true, true, true, true, true, true, true, true, true, true, true, true, true, true, true, true, true, true, true, true, true, true] rfl rfl (by kernel_rfl) (fun _ _ _ h => h) (Or.inl ⟨by rfl, ?_⟩) ?_ ?_
    rotate_left
    · intro w'
      go_simp
      with_reducible rfl
    rotate_left
    · simp only [Act.put, List.setIfInBounds_toArray, List.set_cons_zero, List.set_cons_succ, i64_w, i32_w]
      rfl
    refine done_ (by kernel_rfl) ?_
    go_wp2
    (try simp only [Act.put, List.setIfInBounds_toArray, List.set_cons_zero, List.set_cons_succ])
    go_ret
    exact ⟨rfl, HB.out⟩
end Go.Proofs.Ythapclmfkjldaaa.HandLN
