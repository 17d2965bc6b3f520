import Derived.Test.YthapclmfkjldaaaBrokenLN
import Derived.Test.YthapclmfkjldaaaHandLNr
import Derived.Test.YthapclmfkjldaaaSameLN
namespace Go.Proofs.Ythapclmfkjldaaa.HandLN
set_option linter.unusedSectionVars false
set_option linter.unusedVariables false
set_option linter.unusedSimpArgs false
open Go.Proofs.Ythapclmfkjldaaa.Lib (w64)
open Go.RowKit Go.Proofs.YthapclmfkjldaaaW.PrintWords Go.Proofs.YthapclmfkjldaaaW.PrintLast Go.Proofs.YthapclmfkjldaaaW.PrintMore Go.Proofs.Ythapclmfkjldaaa.QLN Go.Proofs.Ythapclmfkjldaaa.QLG Go.Proofs.Ythapclmfkjldaaa.LinesP Go.Proofs.Ythapclmfkjldaaa.Lib Go.Proofs.Ythapclmfkjldaaa.Cells
attribute [local go_sem] max2_int min2_int max_two min_two
theorem broken_pure : Ev (fun k => chancerylaw3_broken.f k) true := Ev.of chancerylaw3_broken.mono (k := 60) (by decide +kernel)
theorem sameInts_from (xs ys : List Int) (hx : xs.length ≤ 9223372036854775806) (hl : xs.length = ys.length) (d : Nat) : ∀ i : Int, 0 ≤ i → i + d = xs.length → (∀ j, 0 ≤ j → j < i → rd xs j = rd ys j) → Ev (fun k => chanceryref3_SameInts.l0 k xs ys (xs.length : Int) i) (decide (xs = ys)) := by
 induction d with
 | zero =>
  intro i h0 hi hp
  refine Ev.step (fun k => by rw [chanceryref3_SameInts.l0]) (Ev.neg (by omega) (Ev.ret ?_))
  rw [eq_comm, decide_eq_true_eq]
  exact ext_rd hl fun j a b => hp j a (by omega)
 | succ d ih =>
  intro i h0 hi hp
  refine Ev.step (fun k => by rw [chanceryref3_SameInts.l0]) (Ev.pos (by omega) (Ev.pos (by omega) (Ev.pos (by omega) (Ev.pos (by omega) ?_))))
  by_cases e : rd xs i = rd ys i
  · refine Ev.pos e ?_
    rw [w64 (n := i + 1) (by omega) (by omega)]
    refine ih (i + 1) (by omega) (by omega) fun j a b => ?_
    by_cases c : j = i
    · rw [c]; exact e
    · exact hp j a (by omega)
  · refine Ev.neg e (Ev.ret ?_)
    rw [eq_comm, decide_eq_false_iff_not]
    intro h; rw [h] at e; exact e rfl
theorem sameInts_ok (xs ys : List Int) (hx : xs.length ≤ 9223372036854775806) : Ev (fun k => chanceryref3_SameInts.f k xs ys) (decide (xs = ys)) := by
 unfold chanceryref3_SameInts.f
 by_cases hl : xs.length = ys.length
 · exact Ev.pos (by omega) (sameInts_from xs ys hx hl xs.length 0 (by omega) (by omega) fun j a b => by omega)
 · refine Ev.neg (by omega) (Ev.ret ?_)
   rw [eq_comm, decide_eq_false_iff_not]
   intro h; exact hl (by rw [h])
theorem in_ok (a b c : Int) : chanceryref3_In.f a b c = some (decide (b ≤ a ∧ a ≤ c)) := by
 unfold chanceryref3_In.f
 by_cases h : a ≥ b
 · rw [if_pos h]; congr 1; simp; omega
 · rw [if_neg h]; congr 1; simp; omega
set_option maxHeartbeats 8000000 in
set_option maxRecDepth 100000 in
theorem fillLaw (A0 : Option Addr) (c0 : Nat) (L : List S49) (x0 x1 x2 x3 x4 x5 : Int) (jy : Bool) (w : World) (hL : Kd.C k49 w A0 L.length L) (hc : L.length ≤ c0) :
    Calls Try.prog 5 #[.slice A0 L.length c0, .agg #[.int .i64 x0, .int .i64 x1, .int .i64 x2, .int .i64 x3, .int .i64 x4, .int .i64 x5], .bool jy] w fun e w' => e = .returned (.bool true) ∧ Below w.heap.size w w' := by
 have hu41 := Try.underlying41
 obtain ⟨kb, hkb⟩ := broken_pure.rounds
 have HBR := Aside0.mk (fun W2 => chancerylaw3_broken.calls kb true W2 hkb)
 obtain ⟨er, e1, e2, e3⟩ := check_pure L
 obtain ⟨kc, hkc⟩ := e1.rounds
 obtain ⟨kp, hkp⟩ := e2.rounds
 have HL := Aside0.mk hL
 have HB := Aside0.mk (Below.refl w.heap.size w)
 have H13 := Aside0.mk (fun W2 h => chanceryref3_PartsError.calls kp A0 c0 L er W2 h hc hkp)
 have H18 := Aside0.mk (fun W2 => chanceryref3_In.calls x5 1 100000 _ W2 (in_ok x5 1 100000))
 by_cases q : er = 0
 · obtain ⟨hF, hG, -⟩ := e3 q
   subst q
   by_cases b : x0 < 0 ∨ x1 < x0 ∨ (L.length : Int) < x1 ∨ x5 < 1 ∨ 100000 < x5
   · have H17 := Aside0.mk (fun W2 h => fill_err L A0 c0 x0 x1 x2 x3 x4 x5 jy kc 0 2 hkc (by decide) (by rw [if_pos rfl]; exact ⟨rfl, b⟩) W2 h hc)
     clear hL hkb hkc hkp e1 e2 e3 hF hG
     go_enter Try.func5, Try.ntmps5
     go_upto_region 5 with (first
      | ((with_reducible refine gate_dst (N := 4) rfl ?_); refine box_event ?hg (N := 4) ?hd (cs := #[.int .i64 x0, .int .i64 x1, .int .i64 x2, .int .i64 x3, .int .i64 x4, .int .i64 x5]) (t := 41) ?hr ?_; (case hd => rfl); (case hg => rfl); (case hr => first | (go_simp; done) | (go_simp; rfl)); intro g4 hg wb4 hbox hb; (have hbb := below_step HB.out hb); clear HB; (have HB := Aside0.mk hbb); (have H4 := Aside0.mk hbox); obtain ⟨hs0, hs1, hs2, hs3, hs4, hs5⟩ := cells6 H4.out; clear hg hbox hb hbb)
      | (go_at_call 6; refine (HBR.out _).mono ?_; rintro e_ wx ⟨rfl, hb⟩; (have hbb := below_step HB.out hb); (have h4 := blk_below H4.out hb); clear HB H4 hs0 hs1 hs2 hs3 hs4 hs5; (have HB := Aside0.mk hbb); (have H4 := Aside0.mk h4); obtain ⟨hs0, hs1, hs2, hs3, hs4, hs5⟩ := cells6 H4.out; clear hb hbb h4)
      | (go_at_call 17; refine (H17.out _ (Kd.C_below HL.out HB.out)).mono ?_; rintro e_ wx ⟨rfl, hb⟩; (have hbb := below_step HB.out hb); (have h4 := blk_below H4.out hb); clear HB H4 hs0 hs1 hs2 hs3 hs4 hs5; (have HB := Aside0.mk hbb); (have H4 := Aside0.mk h4); obtain ⟨hs0, hs1, hs2, hs3, hs4, hs5⟩ := cells6 H4.out; clear hb hbb h4)
      | (go_at_call 13; refine (H13.out _ (Kd.C_below HL.out HB.out)).mono ?_; rintro e_ wx ⟨rfl, hb⟩; (have hbb := below_step HB.out hb); (have h4 := blk_below H4.out hb); clear HB H4 hs0 hs1 hs2 hs3 hs4 hs5; (have HB := Aside0.mk hbb); (have H4 := Aside0.mk h4); obtain ⟨hs0, hs1, hs2, hs3, hs4, hs5⟩ := cells6 H4.out; clear hb hbb h4))
     go_cut [47] (fun v47 wc => v47 = .bool true ∧ Aside0 (Below w.heap.size w wc))
     case first =>
      by_cases b0 : x0 < 0
      · have d0 : decide (x0 < 0) = true := decide_eq_true b0
        clear b
        go_wp2
        repeat (go_quiet (fail); try go_wp2)
        go_meet
        case rel => exact ⟨rfl, ⟨by repeat (first | (with_reducible first | exact HB.out | apply pw_below_drewN | apply below_drew1) | exact HB.out)⟩⟩
      · have d0 : decide (x0 < 0) = false := decide_eq_false b0
        by_cases b1 : x1 < x0
        · have d1 : decide (x1 < x0) = true := decide_eq_true b1
          clear b
          go_wp2
          repeat (go_quiet (fail); try go_wp2)
          go_meet
          case rel => exact ⟨rfl, ⟨by repeat (first | (with_reducible first | exact HB.out | apply pw_below_drewN | apply below_drew1) | exact HB.out)⟩⟩
        · have d1 : decide (x1 < x0) = false := decide_eq_false b1
          by_cases b2 : (L.length : Int) < x1
          · have d2 : decide ((L.length : Int) < x1) = true := decide_eq_true b2
            clear b
            go_wp2
            repeat (go_quiet (fail); try go_wp2)
            go_meet
            case rel => exact ⟨rfl, ⟨by repeat (first | (with_reducible first | exact HB.out | apply pw_below_drewN | apply below_drew1) | exact HB.out)⟩⟩
          · have d2 : decide ((L.length : Int) < x1) = false := decide_eq_false b2
            have hin : decide (1 ≤ x5 ∧ x5 ≤ 100000) = false := decide_eq_false (by omega)
            rw [hin] at H18
            clear b hin
            go_wp2_with (go_at_call 18; refine (H18.out _).mono ?_; rintro e_ wx ⟨rfl, hdn⟩; (have hbb := below_step HB.out hdn.below); clear HB; (have HB := Aside0.mk hbb); clear hbb hdn)
            repeat (go_quiet ((go_at_call 18; refine (H18.out _).mono ?_; rintro e_ wx ⟨rfl, hdn⟩; (have hbb := below_step HB.out hdn.below); clear HB; (have HB := Aside0.mk hbb); clear hbb hdn)); try go_wp2_with (go_at_call 18; refine (H18.out _).mono ?_; rintro e_ wx ⟨rfl, hdn⟩; (have hbb := below_step HB.out hdn.below); clear HB; (have HB := Aside0.mk hbb); clear hbb hdn))
            go_meet
            case rel => exact ⟨rfl, ⟨by repeat (first | (with_reducible first | exact HB.out | apply pw_below_drewN | apply below_drew1) | exact HB.out)⟩⟩
     case rest =>
      clear HB H4 hs0 hs1 hs2 hs3 hs4 hs5
      obtain ⟨rfl, HB⟩ := hcut
      go_wp2
      repeat (go_quiet (fail); try go_wp2)
      (try simp only [Act.put, List.setIfInBounds_toArray, List.set_cons_zero, List.set_cons_succ])
      go_ret
      exact ⟨rfl, by repeat (first | (with_reducible first | exact HB.out | apply pw_below_drewN | apply below_drew1) | exact HB.out)⟩
   · have f0 : 0 ≤ x0 := by omega
     have ft : x0 ≤ x1 := by omega
     have t1 : x1 ≤ L.length := by omega
     have wd0 : 1 ≤ x5 := by omega
     have wd1 : x5 ≤ 100000 := by omega
     have H17 := Aside0.mk (fun W2 h => fill_ok L hF hG A0 c0 x0 x1 x2 x3 x4 x5 jy kc hkc f0 ft t1 wd0 wd1 W2 h hc)
     have H20 := Aside0.mk (fun W2 h => filled_ok L hF hG A0 c0 x0 x1 x2 x3 x4 x5 jy f0 ft t1 wd0 wd1 W2 h hc)
     have hol : (fillP L x0 x1 x5 jy).length ≤ 9223372036854775806 := by
      have h1 := glueW_len L x0 (fillD (x5 - natP L x0 x1) (growP L x0 x1) (yieldP L x0 x1) jy) (fillC (x5 - natP L x0 x1) (growP L x0 x1) (yieldP L x0 x1)) (fillS (x5 - natP L x0 x1)) (x1 - x0).toNat
      have := hF.1
      unfold fillP
      omega
     obtain ⟨P, hP⟩ : ∃ q, fillP L x0 x1 x5 jy = q := ⟨_, rfl⟩
     rw [hP] at H17 H20 hol
     obtain ⟨ks, hks⟩ := (sameInts_ok P P hol).rounds
     rw [decide_eq_true rfl] at hks
     have H19 := Aside0.mk (fun W2 A2 c2 A3 c3 h1 h2 h3 h4 => chanceryref3_SameInts.calls ks A2 c2 P A3 c3 P true W2 h1 h2 h3 h4 hks)
     have d0 : decide (x0 < 0) = false := decide_eq_false (by omega)
     have d1 : decide (x1 < x0) = false := decide_eq_false (by omega)
     have d2 : decide ((L.length : Int) < x1) = false := decide_eq_false (by omega)
     have hin : decide (1 ≤ x5 ∧ x5 ≤ 100000) = true := decide_eq_true ⟨wd0, wd1⟩
     rw [hin] at H18
     clear hL hkb hkc hkp e1 e2 e3 hF hG hP hks hin f0 ft t1 wd0 wd1 b hol
     go_enter Try.func5, Try.ntmps5
     go_upto_region 5 with (first
      | ((with_reducible refine gate_dst (N := 4) rfl ?_); refine box_event ?hg (N := 4) ?hd (cs := #[.int .i64 x0, .int .i64 x1, .int .i64 x2, .int .i64 x3, .int .i64 x4, .int .i64 x5]) (t := 41) ?hr ?_; (case hd => rfl); (case hg => rfl); (case hr => first | (go_simp; done) | (go_simp; rfl)); intro g4 hg wb4 hbox hb; (have hbb := below_step HB.out hb); clear HB; (have HB := Aside0.mk hbb); (have H4 := Aside0.mk hbox); obtain ⟨hs0, hs1, hs2, hs3, hs4, hs5⟩ := cells6 H4.out; clear hg hbox hb hbb)
      | (go_at_call 6; refine (HBR.out _).mono ?_; rintro e_ wx ⟨rfl, hb⟩; (have hbb := below_step HB.out hb); (have h4 := blk_below H4.out hb); clear HB H4 hs0 hs1 hs2 hs3 hs4 hs5; (have HB := Aside0.mk hbb); (have H4 := Aside0.mk h4); obtain ⟨hs0, hs1, hs2, hs3, hs4, hs5⟩ := cells6 H4.out; clear hb hbb h4)
      | (go_at_call 17; refine (H17.out _ (Kd.C_below HL.out HB.out)).mono ?_; rintro e_ wx ⟨vg, rfl, ho, hb⟩; obtain ⟨Ag, cg, rfl, hgl, -⟩ := Kd.R_reads ho; (have HO := Aside0.mk ho); (have HGL := Aside0.mk hgl); (have hbb := below_step HB.out hb); (have h4 := blk_below H4.out hb); clear HB H4 hs0 hs1 hs2 hs3 hs4 hs5; (have HB := Aside0.mk hbb); (have H4 := Aside0.mk h4); obtain ⟨hs0, hs1, hs2, hs3, hs4, hs5⟩ := cells6 H4.out; clear hb hbb h4 ho hgl)
      | (go_at_call 13; refine (H13.out _ (Kd.C_below HL.out HB.out)).mono ?_; rintro e_ wx ⟨rfl, hb⟩; (have hbb := below_step HB.out hb); (have h4 := blk_below H4.out hb); (have hoo := Kd.R_below HO.out hb); clear HO; (have HO := Aside0.mk hoo); clear HB H4 hs0 hs1 hs2 hs3 hs4 hs5; (have HB := Aside0.mk hbb); (have H4 := Aside0.mk h4); obtain ⟨hs0, hs1, hs2, hs3, hs4, hs5⟩ := cells6 H4.out; clear hb hbb h4 hoo))
     go_upto_if 47 with (go_at_call 18; refine (H18.out _).mono ?_; rintro e_ wx ⟨rfl, hdn⟩; (have hb := hdn.below); (have hbb := below_step HB.out hb); (have h4 := blk_below H4.out hb); (have hoo := Kd.R_below HO.out hb); clear HB H4 HO hs0 hs1 hs2 hs3 hs4 hs5; (have HB := Aside0.mk hbb); (have H4 := Aside0.mk h4); (have HO := Aside0.mk hoo); obtain ⟨hs0, hs1, hs2, hs3, hs4, hs5⟩ := cells6 H4.out; clear hb hbb h4 hoo hdn)
     repeat (go_quiet ((go_at_call 18; refine (H18.out _).mono ?_; rintro e_ wx ⟨rfl, hdn⟩; (have hb := hdn.below); (have hbb := below_step HB.out hb); (have h4 := blk_below H4.out hb); (have hoo := Kd.R_below HO.out hb); clear HB H4 HO hs0 hs1 hs2 hs3 hs4 hs5; (have HB := Aside0.mk hbb); (have H4 := Aside0.mk h4); (have HO := Aside0.mk hoo); obtain ⟨hs0, hs1, hs2, hs3, hs4, hs5⟩ := cells6 H4.out; clear hb hbb h4 hoo hdn)); try go_upto_if 47 with (go_at_call 18; refine (H18.out _).mono ?_; rintro e_ wx ⟨rfl, hdn⟩; (have hb := hdn.below); (have hbb := below_step HB.out hb); (have h4 := blk_below H4.out hb); (have hoo := Kd.R_below HO.out hb); clear HB H4 HO hs0 hs1 hs2 hs3 hs4 hs5; (have HB := Aside0.mk hbb); (have H4 := Aside0.mk h4); (have HO := Aside0.mk hoo); obtain ⟨hs0, hs1, hs2, hs3, hs4, hs5⟩ := cells6 H4.out; clear hb hbb h4 hoo hdn))
     go_wp2_with (first | (go_at_call 20; refine (H20.out _ (Kd.C_below HL.out HB.out)).mono ?_; rintro e_ wx ⟨vf, rfl, ho, hb⟩; obtain ⟨Af, cf, rfl, hfl, -⟩ := Kd.R_reads ho; (have hbb := below_step HB.out hb); (have hoo := Kd.R_below HO.out hb); clear HB HO H4 hs0 hs1 hs2 hs3 hs4 hs5; (have HB := Aside0.mk hbb); (have HO := Aside0.mk hoo); (have HO2 := Aside0.mk ho); (have HFL := Aside0.mk hfl); clear hb hbb hoo ho hfl) | (go_at_call 19; refine (H19.out _ Ag cg Af cf (Kd.R_reads' HO.out).2.2 HGL.out (Kd.R_reads' HO2.out).2.2 HFL.out).mono ?_; rintro e_ wz ⟨rfl, hdn⟩; (have hbb := below_step HB.out hdn.below); clear HB; (have HB := Aside0.mk hbb); clear hbb hdn))
     repeat (go_quiet ((first | (go_at_call 20; refine (H20.out _ (Kd.C_below HL.out HB.out)).mono ?_; rintro e_ wx ⟨vf, rfl, ho, hb⟩; obtain ⟨Af, cf, rfl, hfl, -⟩ := Kd.R_reads ho; (have hbb := below_step HB.out hb); (have hoo := Kd.R_below HO.out hb); clear HB HO H4 hs0 hs1 hs2 hs3 hs4 hs5; (have HB := Aside0.mk hbb); (have HO := Aside0.mk hoo); (have HO2 := Aside0.mk ho); (have HFL := Aside0.mk hfl); clear hb hbb hoo ho hfl) | (go_at_call 19; refine (H19.out _ Ag cg Af cf (Kd.R_reads' HO.out).2.2 HGL.out (Kd.R_reads' HO2.out).2.2 HFL.out).mono ?_; rintro e_ wz ⟨rfl, hdn⟩; (have hbb := below_step HB.out hdn.below); clear HB; (have HB := Aside0.mk hbb); clear hbb hdn))); try go_wp2_with (first | (go_at_call 20; refine (H20.out _ (Kd.C_below HL.out HB.out)).mono ?_; rintro e_ wx ⟨vf, rfl, ho, hb⟩; obtain ⟨Af, cf, rfl, hfl, -⟩ := Kd.R_reads ho; (have hbb := below_step HB.out hb); (have hoo := Kd.R_below HO.out hb); clear HB HO H4 hs0 hs1 hs2 hs3 hs4 hs5; (have HB := Aside0.mk hbb); (have HO := Aside0.mk hoo); (have HO2 := Aside0.mk ho); (have HFL := Aside0.mk hfl); clear hb hbb hoo ho hfl) | (go_at_call 19; refine (H19.out _ Ag cg Af cf (Kd.R_reads' HO.out).2.2 HGL.out (Kd.R_reads' HO2.out).2.2 HFL.out).mono ?_; rintro e_ wz ⟨rfl, hdn⟩; (have hbb := below_step HB.out hdn.below); clear HB; (have HB := Aside0.mk hbb); clear hbb hdn)))
     (try simp only [Act.put, List.setIfInBounds_toArray, List.set_cons_zero, List.set_cons_succ])
     go_ret
     exact ⟨rfl, by repeat (first | (with_reducible first | exact HB.out | apply pw_below_drewN | apply below_drew1) | exact HB.out)⟩
 · have H17 := Aside0.mk (fun W2 h => fill_err L A0 c0 x0 x1 x2 x3 x4 x5 jy kc er er hkc q (by rw [if_neg q]) W2 h hc)
   have q1 : (er == 0) = false := beq_eq_false_iff_ne.2 q
   have q2 : (er != 0) = true := bne_iff_ne.2 q
   have q3 : (er == er) = true := beq_self_eq_true er
   clear hL hkb hkc hkp e1 e2 e3 q
   go_enter Try.func5, Try.ntmps5
   go_upto_region 5 with (first
    | ((with_reducible refine gate_dst (N := 4) rfl ?_); refine box_event ?hg (N := 4) ?hd (cs := #[.int .i64 x0, .int .i64 x1, .int .i64 x2, .int .i64 x3, .int .i64 x4, .int .i64 x5]) (t := 41) ?hr ?_; (case hd => rfl); (case hg => rfl); (case hr => first | (go_simp; done) | (go_simp; rfl)); intro g4 hg wb4 hbox hb; (have hbb := below_step HB.out hb); clear HB; (have HB := Aside0.mk hbb); (have H4 := Aside0.mk hbox); obtain ⟨hs0, hs1, hs2, hs3, hs4, hs5⟩ := cells6 H4.out; clear hg hbox hb hbb)
    | (go_at_call 6; refine (HBR.out _).mono ?_; rintro e_ wx ⟨rfl, hb⟩; (have hbb := below_step HB.out hb); (have h4 := blk_below H4.out hb); clear HB H4 hs0 hs1 hs2 hs3 hs4 hs5; (have HB := Aside0.mk hbb); (have H4 := Aside0.mk h4); obtain ⟨hs0, hs1, hs2, hs3, hs4, hs5⟩ := cells6 H4.out; clear hb hbb h4)
    | (go_at_call 17; refine (H17.out _ (Kd.C_below HL.out HB.out)).mono ?_; rintro e_ wx ⟨rfl, hb⟩; (have hbb := below_step HB.out hb); (have h4 := blk_below H4.out hb); clear HB H4 hs0 hs1 hs2 hs3 hs4 hs5; (have HB := Aside0.mk hbb); (have H4 := Aside0.mk h4); obtain ⟨hs0, hs1, hs2, hs3, hs4, hs5⟩ := cells6 H4.out; clear hb hbb h4)
    | (go_at_call 13; refine (H13.out _ (Kd.C_below HL.out HB.out)).mono ?_; rintro e_ wx ⟨rfl, hb⟩; (have hbb := below_step HB.out hb); (have h4 := blk_below H4.out hb); clear HB H4 hs0 hs1 hs2 hs3 hs4 hs5; (have HB := Aside0.mk hbb); (have H4 := Aside0.mk h4); obtain ⟨hs0, hs1, hs2, hs3, hs4, hs5⟩ := cells6 H4.out; clear hb hbb h4))
   go_wp2
   repeat (go_quiet (fail); try go_wp2)
   (try simp only [Act.put, List.setIfInBounds_toArray, List.set_cons_zero, List.set_cons_succ])
   go_ret
   exact ⟨rfl, by repeat (first | (with_reducible first | exact HB.out | apply pw_below_drewN | apply below_drew1) | exact HB.out)⟩
end Go.Proofs.Ythapclmfkjldaaa.HandLN
