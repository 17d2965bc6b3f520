/- Walked by hand: the law's own reading of a template (expanded), where the ranges of the match fit the text. -/
import Derived.Test.YtemginkjkmmimaaHandEXc
import Derived.Lib.OthersKept
namespace Go.Proofs.Ytemginkjkmmimaa.HandEX
open Go.Proofs.Ytemginkjkmmimaa.Lib (w64)
open Go.Lib (iterAt_other iterAt_heap run_next_any_at run_next_end_at below_iterAt)
open Go.RowKit Go.Proofs.YtemginkjkmmimaaW.PrintWords Go.Proofs.YtemginkjkmmimaaW.PrintLast Go.Proofs.YtemginkjkmmimaaW.PrintMore Go.Proofs.Ytemginkjkmmimaa.PPatternExpands Go.Proofs.Ytemginkjkmmimaa.Expand
set_option linter.unusedVariables false
def Expd2 (A0 : Option Addr) (c0 : Nat) (tx : List Int) (A1 : Option Addr) (c1 : Nat) (gs : List S51) (f u : Int) (t : ByteArray) (w : World) (out : List Int) (e0 : Int) : Prop :=
  Calls Try.prog 16 #[.string t, .slice A0 tx.length c0, .agg #[.int .i64 f, .int .i64 u, .slice A1 gs.length c1]] w fun e w' => ∃ v0_ : Value, e = .returned (.tuple #[v0_, .int .i64 e0]) ∧ kI.R 3 w' w.heap.size (fun _ => True) v0_ out ∧ Below w.heap.size w w'
theorem whole_step (g : Int → Option (List Int)) (s : ByteArray) (p : Nat) (m : Bool) (o : List Int) (h : p < s.size) (c n : Nat) (hc : Utf8.decode s p = (c, n)) : whole g s p m o =
    (if m = false then (if c = 36 then whole g s (p + n) true o else whole g s (p + n) false (o ++ [(c : Int)]))
    else if c = 36 then whole g s (p + n) false (o ++ [36])
    else if c < 48 ∨ c > 57 then ([], 10)
    else (g ((c : Int) - 48)).elim ([], 7) fun l => whole g s (p + n) false (o ++ l)) := by
  rw [whole, dif_pos h, hc]
  dsimp only
  congr 3
  cases g ((c : Int) - 48) <;> rfl
theorem whole_end (g : Int → Option (List Int)) (s : ByteArray) (p : Nat) (m : Bool) (o : List Int) (h : ¬ p < s.size) : whole g s p m o = if m = true then ([], 10) else (o, 0) := by
  rw [whole, dif_neg h]
set_option maxHeartbeats 8000000 in
set_option maxRecDepth 100000 in
theorem ex2_main (A0 : Option Addr) (c0 : Nat) (tx : List Int) (A1 : Option Addr) (c1 : Nat) (gs : List S51) (f u : Int) (t : ByteArray) (w : World) (hr0 : kI.C w A0 tx.length tx) (hc0 : tx.length ≤ c0) (hr1 : k51.C w A1 gs.length gs) (hc1 : gs.length ≤ c1)
    (hg9 : gs.length ≤ 9) (hfit : fits tx (SP f u gs)) (ht : t.size ≤ 1048576) (hx : tx.length ≤ 1048576) :
    Expd2 A0 c0 tx A1 c1 gs f u t w (whole (grp (SP f u gs) tx) t 0 false []).1 (whole (grp (SP f u gs) tx) t 0 false []).2 := by
  have hu47 := Try.underlying47
  have hu51 := Try.underlying51
  obtain ⟨sp, hsp⟩ : ∃ sp, SP f u gs = sp := ⟨_, rfl⟩
  rw [hsp] at hfit ⊢
  obtain ⟨⟨po, pe⟩, hP⟩ : ∃ P, whole (grp sp tx) t 0 false [] = P := ⟨_, rfl⟩
  rw [hP]
  have HPP := Aside0.mk hP
  clear hP
  have HSPE := Aside0.mk hsp
  clear hsp
  have HR0 := Aside0.mk hr0
  have HC0 := Aside0.mk hc0
  have HR1 := Aside0.mk hr1
  have HC1 := Aside0.mk hc1
  have HG9 := Aside0.mk hg9
  have HFIT := Aside0.mk hfit
  have HTS := Aside0.mk ht
  have HX := Aside0.mk hx
  have HB := Aside0.mk (Below.refl w.heap.size w)
  have hl9 : decide ((gs.length : Int) > 9) = false := decide_eq_false (by omega)
  have hl8 : decide (9 < (gs.length : Int)) = false := decide_eq_false (by omega)
  clear hr0 hc0 hr1 hc1 hg9 hfit ht hx
  unfold Expd2
  go_enter Try.func16, Try.ntmps16
  go_upto_block 0 with (first | ((with_reducible refine gate_dst (N := 5) rfl ?_); refine box_event ?hg (N := 5) ?hd (cs := #[.int .i64 f, .int .i64 u, .slice A1 gs.length c1]) (t := 47) ?hr ?_; (case hd => rfl); (case hg => rfl); (case hr => first | (go_simp; done) | (go_simp; rfl)); intro gb hg w1 hbox hb; have hcb0 : w1.cell? ⟨gb, 0, none⟩ = some (.int .i64 f) := (blk_cell hbox 0).trans rfl; have hcb1 : w1.cell? ⟨gb, 1, none⟩ = some (.int .i64 u) := (blk_cell hbox 1).trans rfl; have hcb2 : w1.cell? ⟨gb, 2, none⟩ = some (.slice A1 gs.length c1) := (blk_cell hbox 2).trans rfl; have HBX := Aside0.mk hbox; have HB1 := Aside0.mk (below_step HB.out hb); clear hbox hg hb HB; have HB := HB1; clear HB1) | ((with_reducible refine gate_dst (N := 25) rfl ?_); refine Kd.R_lit k51 w.heap.size 51 ?hg (N := 25) ?hd (xs := ([(⟨f, u⟩ : S51)] : List S51)) (inner := [.int .i64 f, .int .i64 u]) (ok := fun _ => True) (okp := fun _ => True) ?hr ?hp (fun _ hk => hk) trivial HB.out HB.out.size (by simp) ?_; (case hd => rfl); (case hg => rfl); (case hr => first | (go_simp; done) | (go_simp; rfl)); (case hp => exact Reps.c2 (k51_mkM _ _ _ (⟨f, u⟩ : S51)) (Reps.none _ _)); intro v24 w24 ho hb hgr hat; have HO24 := Aside0.mk ho; have HB24 := Aside0.mk hb; have hbx := blk_grown HBX.out hgr (fun e => by cases e); have hcb2 : w24.cell? ⟨gb, 2, none⟩ = some (.slice A1 gs.length c1) := (blk_cell hbx 2).trans rfl; clear ho hb hgr hat hbx) | ((with_reducible refine gate_builtin (b := .append) (xs := #[.tmp 26, .tmp 28]) rfl ?_); at_builtin; refine Kd.R_append_rows k51 (w0 := w) w.heap.size rfl (.tmp 26) (.tmp 28) 45 51 (.agg #[(.int .i64 0), (.int .i64 0)]) 16 rfl Try.underlying45 info51 rfl (by decide) (by omega) v24 ([⟨f, u⟩] : List S51) gs _ _ _ (fun _ => True) (fun _ => False) rfl rfl ?aO ?aR (fun _ _ h => h) (fun _ h => h.elim) ?aF ?aB ?aS ?aL ?_; (case aR => exact Kd.C_below HR1.out HB24.out); (case aB => exact HB24.out); (case aF => exact (fun _ _ => trivial)); (case aO => exact HO24.out); (case aS => exact HB24.out.size); (case aL => have := HG9.out; simp only [List.length_singleton]; omega); intro v27 w27 ho hb hg hat; have ho2 : k51.R 51 w27 w.heap.size (fun _ => True) v27 sp := HSPE.out ▸ ho; obtain ⟨Asp, csp, rfl⟩ := Kd.R_slice ho2; have HSP := Aside0.mk ho2; clear HB; have HB := Aside0.mk hb; clear ho ho2 hb hg hat))
  clear HBX HO24 HB24 hcb0 hcb1 hcb2
  have hlen : sp.length ≤ 10 := by have h1 := HSPE.out; have h2 := HG9.out; subst h1; show gs.length + 1 ≤ 10; omega
  go_cut [] (fun wc => Aside0 (k51.R 51 wc w.heap.size (fun _ => True) (.slice Asp sp.length csp) sp) ∧ Aside0 (Below w.heap.size w wc))
  case first =>
    try go_wp2
    go_loopw [32] (fun v32 w' => ∃ i : Int, v32 = .int .i64 i ∧ 0 ≤ i ∧ i ≤ (sp.length : Int) ∧ Aside0 (k51.R 51 w' w.heap.size (fun _ => True) (.slice Asp sp.length csp) sp) ∧ Aside0 (Below w.heap.size w w')) (fun v32 _ => sp.length - (intOf v32).toNat)
    case atStart => exact ⟨0, rfl, by omega, by omega, HSP, HB⟩
    case round =>
      clear HSP HB
      obtain ⟨i, rfl, hi0, hi1, HSP, HB⟩ := hrel
      by_cases hlt : i < (sp.length : Int)
      · have hok := HFIT.out i hi0 hlt
        obtain ⟨ad, ea, hx0, hx1⟩ := at_T51 (Kd.R_reads' HSP.out).2.2 i hi0 hlt
        subst ea
        generalize rd_T51 sp i = x at hok hx0 hx1
        have hj : wrap64 (i + 1) = i + 1 := w64 (by omega) (by omega)
        by_cases hsk : 0 < i ∧ x.f0 = -1 ∧ x.f1 = -1
        · have hs1 : (i == 0) = false := beq_eq_false_iff_ne.2 (by omega)
          have hs2 : (x.f0 != -1) = false := bne_eq_false_iff_eq.2 hsk.2.1
          have hs3 : (x.f1 != -1) = false := bne_eq_false_iff_eq.2 hsk.2.2
          have hs4 : (x.f0 == -1) = true := beq_iff_eq.2 hsk.2.1
          have hs5 : (x.f1 == -1) = true := beq_iff_eq.2 hsk.2.2
          clear hsk hok
          go_wp2
          go_roundw
          case rel => exact ⟨i + 1, by first | rfl | rw [hj], by omega, by omega, ⟨Kd.R_alloc HSP.out _⟩, ⟨below_alloc HB.out _⟩⟩
          case measure => first | (simp [intOf]; omega) | (rw [hj]; simp [intOf]; omega)
        · have hok2 := hok.resolve_left hsk
          have hs2 : (x.f0 != -1) = true := bne_iff_ne.2 (by omega)
          have hs3 : (x.f0 == -1) = false := beq_eq_false_iff_ne.2 (by omega)
          have hs4 : decide (x.f0 < 0) = false := decide_eq_false (by omega)
          have hs5 : decide (x.f0 > x.f1) = false := decide_eq_false (by omega)
          have hs8 : decide (x.f1 < x.f0) = false := decide_eq_false (by omega)
          have hs6 : decide (x.f1 > (tx.length : Int)) = false := decide_eq_false (by omega)
          have hs7 : decide ((tx.length : Int) < x.f1) = false := decide_eq_false (by omega)
          clear hsk hok hok2
          go_wp2
          all_goals go_roundw
          all_goals first | exact ⟨i + 1, by first | rfl | rw [hj], by omega, by omega, ⟨Kd.R_alloc HSP.out _⟩, ⟨below_alloc HB.out _⟩⟩ | exact ⟨1, rfl, by omega, by omega, ⟨Kd.R_alloc HSP.out _⟩, ⟨below_alloc HB.out _⟩⟩ | (simp [intOf]; omega) | (rw [hj]; simp [intOf]; omega)
      · go_wp2
        go_meet
        case rel => exact ⟨HSP, HB⟩
  case rest =>
    clear HSP HB
    obtain ⟨HSP, HB⟩ := hcut
    go_upto_block 2 with (fail)
    have hit : (wc.iter t 0).heap[wc.heap.size]? = some (.stringIter t 0) := World.iter_heap _ _ _
    have hsp3 : k51.R 51 (wc.iter t 0) w.heap.size (fun _ => True) (.slice Asp sp.length csp) sp := Kd.R_alloc HSP.out _
    have hb3 : Below w.heap.size w (wc.iter t 0) := below_alloc HB.out _
    have hgi : w.heap.size ≤ wc.heap.size := HB.out.size
    clear HSP HB
    generalize wc.iter t 0 = w3 at hit hsp3 hb3 ⊢
    generalize wc.heap.size = gi at hit hgi ⊢
    have HIT := Aside0.mk hit
    have HSP := Aside0.mk hsp3
    have HB := Aside0.mk hb3
    have HGI := Aside0.mk hgi
    clear hit hsp3 hb3 hgi
    try go_wp2
    go_loopw [11, 12] (fun v11 v12 w' => ∃ (p : Nat) (m : Bool) (o : List Int), v12 = .bool m ∧ Aside0 (w'.heap[gi]? = some (.stringIter t p)) ∧ Aside0 (kI.R 3 w' w.heap.size (fun _ => True) v11 o) ∧ Aside0 (whole (grp sp tx) t p m o = (po, pe)) ∧ Aside0 (k51.R 51 w' w.heap.size (fun _ => True) (.slice Asp sp.length csp) sp) ∧ Aside0 (Below w.heap.size w w') ∧ Aside0 (o.length ≤ p * 1048577) ∧ Aside0 (p ≤ t.size)) (fun _ _ w' => t.size - w'.iterPos gi)
    case atStart => exact ⟨0, false, [], rfl, HIT, ⟨Kd.R_nil _ _ _ _ _⟩, HPP, HSP, HB, ⟨Nat.zero_le _⟩, ⟨Nat.zero_le _⟩⟩
    case round =>
      clear HIT HSP HB
      obtain ⟨p, m, o, rfl, HIT, HO, HP, HSP, HB, HLN, HPS⟩ := hrel
      have HI0 := HIT
      by_cases hp : p < t.size
      · obtain ⟨⟨c, n⟩, hcn⟩ : ∃ P, Utf8.decode t p = P := ⟨_, rfl⟩
        have hnx := fun ty => run_next_any_at (P := Try.prog) wr gi t p ty HIT.out hp
        have hst := whole_step (grp sp tx) t p m o hp c n hcn
        have hn1 := decode_pos t p
        have hn2 := decode_adv t p hp
        have hc9 := decode_le t p
        rw [hcn] at hnx hn1 hn2 hc9
        dsimp only at hnx hn1 hn2 hc9
        rw [HP.out] at hst
        have HST := Aside0.mk hst
        have HN : Aside0 (1 ≤ n ∧ p + n ≤ t.size) := ⟨⟨hn1, hn2⟩⟩
        have HOL : Aside0 (o.length ≤ 1099512676352 - 1) := ⟨by have := HLN.out; have := HTS.out; omega⟩
        clear hst hn1 hn2 hcn
        have hit4 : (wr.iterAt gi t (p + n)).heap[gi]? = some (.stringIter t (p + n)) := iterAt_heap _ _ _ _ _ HIT.out
        have ho4 := R_iter HO.out HIT.out (p + n)
        have hsp4 := R_iter HSP.out HIT.out (p + n)
        have hb4 : Below w.heap.size w (wr.iterAt gi t (p + n)) := below_iterAt HB.out HGI.out _ _
        clear HIT HO HSP HB HP
        obtain ⟨w4, hw4⟩ : ∃ w4, wr.iterAt gi t (p + n) = w4 := ⟨_, rfl⟩
        rw [hw4] at hnx hit4 ho4 hsp4 hb4
        clear hw4
        have HIT := Aside0.mk hit4
        have HO := Aside0.mk ho4
        have HSP := Aside0.mk hsp4
        have HB := Aside0.mk hb4
        clear hit4 ho4 hsp4 hb4
        cases m
        · have h9 := HST.out
          rw [if_pos rfl] at h9
          clear HST
          by_cases h36 : c = 36
          · have hn1 : ((c : Int) == 36) = true := beq_iff_eq.2 (by omega)
            rw [if_pos h36] at h9
            have HW := Aside0.mk h9.symm
            clear h36 h9
            go_wp2
            go_roundw
            case rel => exact ⟨p + n, true, o, rfl, HIT, HO, HW, HSP, HB, ⟨Nat.le_trans HLN.out (Nat.mul_le_mul_right _ (Nat.le_add_right _ _))⟩, ⟨HN.out.2⟩⟩
            case measure =>
              have e1 : wr.iterPos gi = p := by simp [World.iterPos, HI0.out]
              have e2 : w4.iterPos gi = p + n := by simp [World.iterPos, HIT.out]
              have := HN.out
              rw [e1, e2]
              omega
          · have hn1 : ((c : Int) == 36) = false := beq_eq_false_iff_ne.2 (by omega)
            rw [if_neg h36] at h9
            have HW := Aside0.mk h9.symm
            clear h36 h9
            go_wp2_with ((with_reducible refine gate_builtin (b := .append) (xs := #[.tmp 100, .tmp 103]) rfl ?_); at_builtin; refine Kd.R_append kI (w0 := w) w.heap.size rfl (.tmp 100) (.tmp 103) 44 3 (.int .i64 0) 8 rfl Try.underlying44 infoI rfl (by decide) (by omega) u11 o ((c : Int) : Int) [.int .i64 (c : Int)] (fun _ => True) (fun _ => False) rfl rfl ?aP (fun _ hk => hk.elim) ?aF ?aO ?aB ?aS ?aL ?_; (case aP => exact kI_mkM _ _ _ _); (case aB => exact HB.out); (case aF => exact (fun _ _ => trivial)); (case aO => exact HO.out); (case aS => exact HB.out.size); (case aL => have := HOL.out; omega); intro v9 w9 ho hb hgr hat; have hit6 : w9.heap[gi]? = some (.stringIter t (p + n)) := (hgr.block gi (Array.getElem?_eq_some_iff.1 HIT.out).1 (iter_ne HO.out HIT.out)).trans HIT.out; have hsp6 : k51.R 51 w9 w.heap.size (fun _ => True) (.slice Asp sp.length csp) sp := R_beside HSP.out HO.out (by decide) hgr; clear HO HSP HB HIT; have HO := Aside0.mk ho; have HSP := Aside0.mk hsp6; have HB := Aside0.mk hb; have HIT := Aside0.mk hit6; clear ho hb hgr hat hit6 hsp6)
            go_roundw
            case rel => exact ⟨p + n, false, o ++ [((c : Int) : Int)], rfl, HIT, HO, ⟨HW.out⟩, HSP, HB, ⟨by have := HLN.out; have := HN.out; simp only [List.length_append, List.length_singleton]; omega⟩, ⟨HN.out.2⟩⟩
            case measure =>
              have e1 : wr.iterPos gi = p := by simp [World.iterPos, HI0.out]
              have e2 : w9.iterPos gi = p + n := by simp [World.iterPos, HIT.out]
              have := HN.out
              rw [e1, e2]
              omega
        · have h9 := HST.out
          rw [if_neg (show ¬ (true = false) by decide)] at h9
          clear HST
          by_cases h36 : c = 36
          · have hn1 : ((c : Int) == 36) = true := beq_iff_eq.2 (by omega)
            rw [if_pos h36] at h9
            have HW := Aside0.mk h9.symm
            clear h36 h9
            go_wp2_with ((with_reducible refine gate_builtin (b := .append) (xs := #[.tmp 108, .tmp 109]) rfl ?_); at_builtin; refine Kd.R_append kI (w0 := w) w.heap.size rfl (.tmp 108) (.tmp 109) 44 3 (.int .i64 0) 8 rfl Try.underlying44 infoI rfl (by decide) (by omega) u11 o (36 : Int) [.int .i64 36] (fun _ => True) (fun _ => False) rfl rfl ?aP (fun _ hk => hk.elim) ?aF ?aO ?aB ?aS ?aL ?_; (case aP => exact kI_mkM _ _ _ _); (case aB => exact HB.out); (case aF => exact (fun _ _ => trivial)); (case aO => exact HO.out); (case aS => exact HB.out.size); (case aL => have := HOL.out; omega); intro v9 w9 ho hb hgr hat; have hit6 : w9.heap[gi]? = some (.stringIter t (p + n)) := (hgr.block gi (Array.getElem?_eq_some_iff.1 HIT.out).1 (iter_ne HO.out HIT.out)).trans HIT.out; have hsp6 : k51.R 51 w9 w.heap.size (fun _ => True) (.slice Asp sp.length csp) sp := R_beside HSP.out HO.out (by decide) hgr; clear HO HSP HB HIT; have HO := Aside0.mk ho; have HSP := Aside0.mk hsp6; have HB := Aside0.mk hb; have HIT := Aside0.mk hit6; clear ho hb hgr hat hit6 hsp6)
            go_roundw
            case rel => exact ⟨p + n, false, o ++ [(36 : Int)], rfl, HIT, HO, ⟨HW.out⟩, HSP, HB, ⟨by have := HLN.out; have := HN.out; simp only [List.length_append, List.length_singleton]; omega⟩, ⟨HN.out.2⟩⟩
            case measure =>
              have e1 : wr.iterPos gi = p := by simp [World.iterPos, HI0.out]
              have e2 : w9.iterPos gi = p + n := by simp [World.iterPos, HIT.out]
              have := HN.out
              rw [e1, e2]
              omega
          · have hn1 : ((c : Int) == 36) = false := beq_eq_false_iff_ne.2 (by omega)
            rw [if_neg h36] at h9
            clear h36
            by_cases hd : c < 48 ∨ c > 57
            · rw [if_pos hd] at h9
              obtain ⟨rfl, rfl⟩ := Prod.mk.inj h9
              clear h9
              by_cases hd1 : c < 48
              · have hn3 : decide ((c : Int) < 48) = true := decide_eq_true (by omega)
                clear hd
                go_wp2
                refine bodyPost_ret (v := .tuple #[.slice none 0 0, .int .i64 10]) (by simp [results, Try.results16, go_sem]) rfl ?_
                exact ⟨_, rfl, Kd.R_nil _ _ _ _ _, HB.out⟩
              · have hn3 : decide ((c : Int) < 48) = false := decide_eq_false (by omega)
                have hn4 : decide ((c : Int) > 57) = true := decide_eq_true (by omega)
                have hn5 : decide (57 < (c : Int)) = true := decide_eq_true (by omega)
                clear hd
                go_wp2
                refine bodyPost_ret (v := .tuple #[.slice none 0 0, .int .i64 10]) (by simp [results, Try.results16, go_sem]) rfl ?_
                exact ⟨_, rfl, Kd.R_nil _ _ _ _ _, HB.out⟩
            · rw [if_neg hd] at h9
              have hn3 : decide ((c : Int) < 48) = false := decide_eq_false (by omega)
              have hn4 : decide ((c : Int) > 57) = false := decide_eq_false (by omega)
              have hn5 : decide (57 < (c : Int)) = false := decide_eq_false (by omega)
              have H8 := Aside0.mk h9
              have hk0 : 0 ≤ (c : Int) - 48 := by omega
              clear h9
              by_cases hks : (sp.length : Int) ≤ (c : Int) - 48
              · have h9 := H8.out
                rw [show grp sp tx ((c : Int) - 48) = none from if_pos hks] at h9
                obtain ⟨rfl, rfl⟩ := Prod.mk.inj h9
                clear h9
                go_wp2
                refine bodyPost_ret (v := .tuple #[.slice none 0 0, .int .i64 7]) (by simp [results, Try.results16, go_sem]) rfl ?_
                exact ⟨_, rfl, Kd.R_nil _ _ _ _ _, HB.out⟩
              · have hkl : (c : Int) - 48 < (sp.length : Int) := by omega
                have hok := HFIT.out ((c : Int) - 48) hk0 hkl
                obtain ⟨ad, ea, hx0, hx1⟩ := at_T51 (Kd.R_reads' HSP.out).2.2 ((c : Int) - 48) hk0 hkl
                subst ea
                obtain ⟨x, hx⟩ : ∃ x, rd_T51 sp ((c : Int) - 48) = x := ⟨_, rfl⟩
                rw [hx] at hok hx0 hx1
                rw [show ((c : Int) - 48).toNat = c - 48 by omega] at hx0 hx1
                have h9 := H8.out
                have hit5 : (w4.alloc (.cells #[.int .i64 x.f0, .int .i64 x.f1] 51 (0, 0))).heap[gi]? = some (.stringIter t (p + n)) := blk_alloc HIT.out _
                have HIT5 := Aside0.mk hit5
                clear hit5
                by_cases hf0 : 0 ≤ x.f0
                · have hok2 : 0 ≤ x.f0 ∧ x.f0 ≤ x.f1 ∧ x.f1 ≤ tx.length := hok.resolve_left fun h => by omega
                  rw [show grp sp tx ((c : Int) - 48) = some ((tx.take x.f1.toNat).drop x.f0.toNat) by rw [grp, if_neg hks, hx, if_pos hf0]] at h9
                  obtain ⟨ys, hys⟩ : ∃ ys, (tx.take x.f1.toNat).drop x.f0.toNat = ys := ⟨_, rfl⟩
                  rw [hys] at h9
                  have HW : Aside0 (whole (grp sp tx) t (p + n) false (o ++ ys) = (po, pe)) := ⟨h9.symm⟩
                  have hyl : ys.length = x.f1.toNat - x.f0.toNat := by rw [← hys, List.length_drop, List.length_take]; omega
                  obtain ⟨As, hAs⟩ : ∃ As : Option Addr, (if c0 = x.f0.toNat then A0 else A0.map (·.add (x.f0.toNat * 1))) = As := ⟨_, rfl⟩
                  have hcm : ∀ W : World, (Instr.slice 44 (.slice A0 tx.length c0) (some (.int .i64 x.f0)) (some (.int .i64 x.f1)) none).run Try.prog W = .ok (.slice As ys.length (c0 - x.f0.toNat)) W := fun W => by
                    obtain ⟨i3, hi3, hz3⟩ := Option.map_eq_some_iff.1 infoI
                    have hs3 : i3.size = 1 := (Prod.mk.inj (Prod.mk.inj hz3).2).1
                    rw [cut_mid 44 3 .i64 .i64 Try.underlying44 hi3 1 hs3 A0 tx.length c0 x.f0 x.f1 hok2.1 hok2.2.1 hok2.2.2 HC0.out W, hAs, hyl]
                  have hcy : kI.C w As ys.length ys := by
                    have h5 := Kd.C_mid (lo := x.f0.toNat) (hi := x.f1.toNat) (c := c0) HR0.out (by omega) (by omega) HC0.out
                    rw [hys] at h5
                    rw [← hAs]
                    exact h5
                  have HCY := Aside0.mk hcy
                  have HYL : Aside0 (ys.length ≤ 1048576) := ⟨by have := HX.out; omega⟩
                  have hg1 : decide (x.f0 ≥ 0) = true := decide_eq_true hf0
                  have hg2 : decide (0 ≤ x.f0) = true := decide_eq_true hf0
                  clear h9 hok hok2 hx hys hyl hAs hcy hks
                  go_wp2_with ((with_reducible refine gate_builtin (b := .append) (xs := #[.tmp 82, .tmp 88]) rfl ?_); at_builtin; refine Kd.R_append_rows kI (w0 := w) w.heap.size rfl (.tmp 82) (.tmp 88) 44 3 (.int .i64 0) 8 rfl Try.underlying44 infoI rfl (by decide) (by omega) u11 o ys As ys.length (c0 - x.f0.toNat) (fun _ => True) (fun _ => False) rfl rfl ?aO ?aR (fun _ _ h => h) (fun _ h => h.elim) ?aF ?aB ?aS ?aL ?_; (case aR => exact Kd.C_below HCY.out (below_alloc HB.out _)); (case aB => exact below_alloc HB.out _); (case aF => exact (fun _ _ => trivial)); (case aO => exact Kd.R_alloc HO.out _); (case aS => exact (below_alloc HB.out _).size); (case aL => have := HOL.out; have := HYL.out; omega); intro v9 w9 ho hb hgr hat; have hit6 : w9.heap[gi]? = some (.stringIter t (p + n)) := (hgr.block gi (Array.getElem?_eq_some_iff.1 HIT5.out).1 (iter_ne (Kd.R_alloc HO.out _) HIT5.out)).trans HIT5.out; have hsp6 : k51.R 51 w9 w.heap.size (fun _ => True) (.slice (some ad) sp.length csp) sp := R_beside (Kd.R_alloc HSP.out _) (Kd.R_alloc HO.out _) (by decide) hgr; clear HO HSP HB HIT; have HO := Aside0.mk ho; have HSP := Aside0.mk hsp6; have HB := Aside0.mk hb; have HIT := Aside0.mk hit6; clear ho hb hgr hat hit6 hsp6)
                  go_roundw
                  case rel => exact ⟨p + n, false, o ++ ys, rfl, HIT, HO, HW, HSP, HB, ⟨by have := HLN.out; have := HN.out; have := HYL.out; simp only [List.length_append]; omega⟩, ⟨HN.out.2⟩⟩
                  case measure =>
                    have e1 : wr.iterPos gi = p := by simp [World.iterPos, HI0.out]
                    have e2 : w9.iterPos gi = p + n := by simp [World.iterPos, HIT.out]
                    have := HN.out
                    rw [e1, e2]
                    omega
                · rw [show grp sp tx ((c : Int) - 48) = some [] by rw [grp, if_neg hks, hx, if_neg hf0]] at h9
                  have HW : Aside0 (whole (grp sp tx) t (p + n) false (o ++ []) = (po, pe)) := ⟨h9.symm⟩
                  have hg1 : decide (x.f0 ≥ 0) = false := decide_eq_false hf0
                  have hg2 : decide (0 ≤ x.f0) = false := decide_eq_false hf0
                  clear h9 hok hx hks hf0
                  go_wp2
                  go_roundw
                  case rel =>
                    have h7 := HW.out
                    rw [List.append_nil] at h7
                    exact ⟨p + n, false, o, rfl, HIT5, ⟨Kd.R_alloc HO.out _⟩, ⟨h7⟩, ⟨Kd.R_alloc HSP.out _⟩, ⟨below_alloc HB.out _⟩, ⟨Nat.le_trans HLN.out (Nat.mul_le_mul_right _ (Nat.le_add_right _ _))⟩, ⟨HN.out.2⟩⟩
                  case measure =>
                    have e1 : wr.iterPos gi = p := by simp [World.iterPos, HI0.out]
                    have e2 : World.iterPos (w4.alloc (.cells #[.int .i64 x.f0, .int .i64 x.f1] 51 (0, 0))) gi = p + n := by simp [World.iterPos, HIT5.out]
                    have := HN.out
                    rw [e1, e2]
                    omega
      · have hnx := fun ty => run_next_end_at (P := Try.prog) wr gi t p ty HIT.out hp
        have hst := whole_end (grp sp tx) t p m o hp
        rw [HP.out] at hst
        cases m
        · rw [if_neg (show ¬ (false = true) by decide)] at hst
          obtain ⟨rfl, rfl⟩ := Prod.mk.inj hst
          clear hst
          go_wp2
          refine bodyPost_ret (v := .tuple #[u11, .int .i64 0]) (by simp [results, Try.results16, go_sem]) rfl ?_
          exact ⟨_, rfl, HO.out, HB.out⟩
        · rw [if_pos rfl] at hst
          obtain ⟨rfl, rfl⟩ := Prod.mk.inj hst
          clear hst
          go_wp2
          refine bodyPost_ret (v := .tuple #[.slice none 0 0, .int .i64 10]) (by simp [results, Try.results16, go_sem]) rfl ?_
          exact ⟨_, rfl, Kd.R_nil _ _ _ _ _, HB.out⟩
end Go.Proofs.Ytemginkjkmmimaa.HandEX
