/- Walked by hand: pattern.Expand where there are too many ranges, or one of them doesn't fit; the walks put together. -/
import Derived.Test.YtemginkjkmmimaaHandEXb
namespace Go.Proofs.Ytemginkjkmmimaa.HandEX
open Go.Proofs.Ytemginkjkmmimaa.Lib (w64)
open Go.RowKit Go.Proofs.YtemginkjkmmimaaW.PrintWords Go.Proofs.YtemginkjkmmimaaW.PrintLast Go.Proofs.YtemginkjkmmimaaW.PrintMore Go.Proofs.Ytemginkjkmmimaa.PPatternExpands Go.Proofs.Ytemginkjkmmimaa.Expand
set_option linter.unusedVariables false
set_option maxHeartbeats 8000000 in
set_option maxRecDepth 100000 in
theorem ex_large (A0 : Option Addr) (c0 : Nat) (tx : List Int) (A1 : Option Addr) (c1 : Nat) (gs : List S51) (f u : Int) (t : ByteArray) (w : World) (hr0 : kI.C w A0 tx.length tx) (hc0 : tx.length ≤ c0) (hr1 : k51.C w A1 gs.length gs) (hc1 : gs.length ≤ c1)
    (hg9 : ¬ gs.length ≤ 9) (hb6 : gs.length * 16 ≤ 140737488351232) :
    Expd A0 c0 tx A1 c1 gs f u t w [] 3 := by
  have hu47 := Try.underlying47
  have hu51 := Try.underlying51
  obtain ⟨sp, hsp⟩ : ∃ sp, SP f u gs = sp := ⟨_, rfl⟩
  have HSPE := Aside0.mk hsp
  clear hsp
  have HR0 := Aside0.mk hr0
  have HC0 := Aside0.mk hc0
  have HR1 := Aside0.mk hr1
  have HC1 := Aside0.mk hc1
  have HG9 := Aside0.mk hg9
  have HB6 := Aside0.mk hb6
  have HB := Aside0.mk (Below.refl w.heap.size w)
  clear hr0 hc0 hr1 hc1 hg9 hb6
  unfold Expd
  go_enter Try.func14, Try.ntmps14
  go_upto_region 2 with (first | ((with_reducible refine gate_dst (N := 5) rfl ?_); refine box_event ?hg (N := 5) ?hd (cs := #[.int .i64 f, .int .i64 u, .slice A1 gs.length c1]) (t := 47) ?hr ?_; (case hd => rfl); (case hg => rfl); (case hr => first | (go_simp; done) | (go_simp; rfl)); intro gb hg w1 hbox hb; have hcb0 : w1.cell? ⟨gb, 0, none⟩ = some (.int .i64 f) := (blk_cell hbox 0).trans rfl; have hcb1 : w1.cell? ⟨gb, 1, none⟩ = some (.int .i64 u) := (blk_cell hbox 1).trans rfl; have hcb2 : w1.cell? ⟨gb, 2, none⟩ = some (.slice A1 gs.length c1) := (blk_cell hbox 2).trans rfl; have HBX := Aside0.mk hbox; have HB1 := Aside0.mk (below_step HB.out hb); clear hbox hg hb HB; have HB := HB1; clear HB1) | ((with_reducible refine gate_dst (N := 24) rfl ?_); refine Kd.R_lit k51 w.heap.size 51 ?hg (N := 24) ?hd (xs := ([(⟨f, u⟩ : S51)] : List S51)) (inner := [.int .i64 f, .int .i64 u]) (ok := fun _ => True) (okp := fun _ => True) ?hr ?hp (fun _ hk => hk) trivial HB.out HB.out.size (by simp) ?_; (case hd => rfl); (case hg => rfl); (case hr => first | (go_simp; done) | (go_simp; rfl)); (case hp => exact Reps.c2 (k51_mkM _ _ _ (⟨f, u⟩ : S51)) (Reps.none _ _)); intro v24 w24 ho hb hgr hat; have HO24 := Aside0.mk ho; have HB24 := Aside0.mk hb; have hbx := blk_grown HBX.out hgr (fun e => by cases e); have hcb2 : w24.cell? ⟨gb, 2, none⟩ = some (.slice A1 gs.length c1) := (blk_cell hbx 2).trans rfl; clear ho hb hgr hat hbx) | ((with_reducible refine gate_builtin (b := .append) (xs := #[.tmp 24, .tmp 26]) rfl ?_); at_builtin; refine Kd.R_append_rows k51 (w0 := w) w.heap.size rfl (.tmp 24) (.tmp 26) 45 51 (.agg #[(.int .i64 0), (.int .i64 0)]) 16 rfl Try.underlying45 info51 rfl (by decide) (by omega) v24 ([⟨f, u⟩] : List S51) gs _ _ _ (fun _ => True) (fun _ => False) rfl rfl ?aO ?aR (fun _ _ h => h) (fun _ h => h.elim) ?aF ?aB ?aS ?aL ?_; (case aR => exact Kd.C_below HR1.out HB24.out); (case aB => exact HB24.out); (case aF => exact (fun _ _ => trivial)); (case aO => exact HO24.out); (case aS => exact HB24.out.size); (case aL => have := HB6.out; simp only [List.length_singleton]; omega); intro v27 w27 ho hb hg hat; have ho2 : k51.R 51 w27 w.heap.size (fun _ => True) v27 sp := HSPE.out ▸ ho; obtain ⟨Asp, csp, rfl⟩ := Kd.R_slice ho2; have HSP := Aside0.mk ho2; clear HB; have HB := Aside0.mk hb; clear ho ho2 hb hg hat))
  clear HBX HO24 HB24 hcb0 hcb1 hcb2
  have hlen : ¬ sp.length ≤ 10 := by have h1 := HSPE.out; have h2 := HG9.out; subst h1; show ¬ gs.length + 1 ≤ 10; omega
  have hl30 : decide ((sp.length : Int) > 10) = true := decide_eq_true (by omega)
  have hl31 : decide (10 < (sp.length : Int)) = true := decide_eq_true (by omega)
  go_wp2
  refine bodyPost_ret (v := .tuple #[.slice none 0 0, .int .i64 3]) (by simp [results, Try.results14, go_sem]) rfl ?_
  exact ⟨_, rfl, Kd.R_nil _ _ _ _ _, HB.out⟩
set_option maxHeartbeats 8000000 in
set_option maxRecDepth 100000 in
theorem ex_bad (A0 : Option Addr) (c0 : Nat) (tx : List Int) (A1 : Option Addr) (c1 : Nat) (gs : List S51) (f u : Int) (t : ByteArray) (w : World) (hr0 : kI.C w A0 tx.length tx) (hc0 : tx.length ≤ c0) (hr1 : k51.C w A1 gs.length gs) (hc1 : gs.length ≤ c1)
    (hg9 : gs.length ≤ 9) (b : Int) (hb0 : 0 ≤ b) (hb1 : b < (SP f u gs).length) (hbad : ¬ okS tx.length b (rd_T51 (SP f u gs) b)) (hfit : ∀ i, 0 ≤ i → i < b → okS tx.length i (rd_T51 (SP f u gs) i)) :
    Expd A0 c0 tx A1 c1 gs f u t w [] 2 := by
  have hu47 := Try.underlying47
  have hu51 := Try.underlying51
  obtain ⟨sp, hsp⟩ : ∃ sp, SP f u gs = sp := ⟨_, rfl⟩
  rw [hsp] at hfit hbad hb1
  have HSPE := Aside0.mk hsp
  clear hsp
  have HR0 := Aside0.mk hr0
  have HC0 := Aside0.mk hc0
  have HR1 := Aside0.mk hr1
  have HC1 := Aside0.mk hc1
  have HG9 := Aside0.mk hg9
  have HFIT := Aside0.mk hfit
  have HBAD := Aside0.mk hbad
  have HB := Aside0.mk (Below.refl w.heap.size w)
  clear hr0 hc0 hr1 hc1 hg9 hfit hbad
  unfold Expd
  go_enter Try.func14, Try.ntmps14
  go_upto_region 2 with (first | ((with_reducible refine gate_dst (N := 5) rfl ?_); refine box_event ?hg (N := 5) ?hd (cs := #[.int .i64 f, .int .i64 u, .slice A1 gs.length c1]) (t := 47) ?hr ?_; (case hd => rfl); (case hg => rfl); (case hr => first | (go_simp; done) | (go_simp; rfl)); intro gb hg w1 hbox hb; have hcb0 : w1.cell? ⟨gb, 0, none⟩ = some (.int .i64 f) := (blk_cell hbox 0).trans rfl; have hcb1 : w1.cell? ⟨gb, 1, none⟩ = some (.int .i64 u) := (blk_cell hbox 1).trans rfl; have hcb2 : w1.cell? ⟨gb, 2, none⟩ = some (.slice A1 gs.length c1) := (blk_cell hbox 2).trans rfl; have HBX := Aside0.mk hbox; have HB1 := Aside0.mk (below_step HB.out hb); clear hbox hg hb HB; have HB := HB1; clear HB1) | ((with_reducible refine gate_dst (N := 24) rfl ?_); refine Kd.R_lit k51 w.heap.size 51 ?hg (N := 24) ?hd (xs := ([(⟨f, u⟩ : S51)] : List S51)) (inner := [.int .i64 f, .int .i64 u]) (ok := fun _ => True) (okp := fun _ => True) ?hr ?hp (fun _ hk => hk) trivial HB.out HB.out.size (by simp) ?_; (case hd => rfl); (case hg => rfl); (case hr => first | (go_simp; done) | (go_simp; rfl)); (case hp => exact Reps.c2 (k51_mkM _ _ _ (⟨f, u⟩ : S51)) (Reps.none _ _)); intro v24 w24 ho hb hgr hat; have HO24 := Aside0.mk ho; have HB24 := Aside0.mk hb; have hbx := blk_grown HBX.out hgr (fun e => by cases e); have hcb2 : w24.cell? ⟨gb, 2, none⟩ = some (.slice A1 gs.length c1) := (blk_cell hbx 2).trans rfl; clear ho hb hgr hat hbx) | ((with_reducible refine gate_builtin (b := .append) (xs := #[.tmp 24, .tmp 26]) rfl ?_); at_builtin; refine Kd.R_append_rows k51 (w0 := w) w.heap.size rfl (.tmp 24) (.tmp 26) 45 51 (.agg #[(.int .i64 0), (.int .i64 0)]) 16 rfl Try.underlying45 info51 rfl (by decide) (by omega) v24 ([⟨f, u⟩] : List S51) gs _ _ _ (fun _ => True) (fun _ => False) rfl rfl ?aO ?aR (fun _ _ h => h) (fun _ h => h.elim) ?aF ?aB ?aS ?aL ?_; (case aR => exact Kd.C_below HR1.out HB24.out); (case aB => exact HB24.out); (case aF => exact (fun _ _ => trivial)); (case aO => exact HO24.out); (case aS => exact HB24.out.size); (case aL => have := HG9.out; simp only [List.length_singleton]; omega); intro v27 w27 ho hb hg hat; have ho2 : k51.R 51 w27 w.heap.size (fun _ => True) v27 sp := HSPE.out ▸ ho; obtain ⟨Asp, csp, rfl⟩ := Kd.R_slice ho2; have HSP := Aside0.mk ho2; clear HB; have HB := Aside0.mk hb; clear ho ho2 hb hg hat))
  clear HBX HO24 HB24 hcb0 hcb1 hcb2
  have hlen : sp.length ≤ 10 := by have h1 := HSPE.out; have h2 := HG9.out; subst h1; show gs.length + 1 ≤ 10; omega
  have hl30 : decide ((sp.length : Int) > 10) = false := decide_eq_false (by omega)
  have hl31 : decide (10 < (sp.length : Int)) = false := decide_eq_false (by omega)
  go_wp2
  go_loopw [33] (fun v33 w' => ∃ i : Int, v33 = .int .i64 i ∧ 0 ≤ i ∧ i ≤ b ∧ Aside0 (k51.R 51 w' w.heap.size (fun _ => True) (.slice Asp sp.length csp) sp) ∧ Aside0 (Below w.heap.size w w')) (fun v33 _ => sp.length - (intOf v33).toNat)
  case atStart => exact ⟨0, rfl, by omega, by omega, HSP, HB⟩
  case round =>
    clear HSP HB
    obtain ⟨i, rfl, hi0, hi1, HSP, HB⟩ := hrel
    by_cases hlt : i < b
    · have hok := HFIT.out i hi0 hlt
      have hlt : i < (sp.length : Int) := by omega
      obtain ⟨ad, ea, hx0, hx1⟩ := at_T51 (Kd.R_reads' HSP.out).2.2 i hi0 hlt
      subst ea
      generalize rd_T51 sp i = x at hok hx0 hx1
      have hj : wrap64 (i + 1) = i + 1 := w64 (by omega) (by omega)
      by_cases hsk : 0 < i ∧ x.f0 = -1 ∧ x.f1 = -1
      · have hs1 : decide (i > 0) = true := decide_eq_true hsk.1
        have hs2 : (x.f0 == -1) = true := beq_iff_eq.2 hsk.2.1
        have hs3 : (x.f1 == -1) = true := beq_iff_eq.2 hsk.2.2
        clear hsk hok
        go_wp2
        go_roundw
        case rel => exact ⟨i + 1, by first | rfl | rw [hj], by omega, by omega, ⟨Kd.R_alloc HSP.out _⟩, ⟨below_alloc HB.out _⟩⟩
        case measure => first | (simp [intOf]; omega) | (rw [hj]; simp [intOf]; omega)
      · have hok2 := hok.resolve_left hsk
        have hs2 : (x.f0 == -1) = false := beq_eq_false_iff_ne.2 (by omega)
        have hs4 : decide (x.f0 < 0) = false := decide_eq_false (by omega)
        have hs5 : decide (x.f1 < x.f0) = false := decide_eq_false (by omega)
        have hs6 : decide (x.f1 > (tx.length : Int)) = false := decide_eq_false (by omega)
        have hs7 : decide ((tx.length : Int) < x.f1) = false := decide_eq_false (by omega)
        clear hsk hok hok2
        go_wp2
        all_goals go_roundw
        all_goals first | exact ⟨i + 1, by first | rfl | rw [hj], by omega, by omega, ⟨Kd.R_alloc HSP.out _⟩, ⟨below_alloc HB.out _⟩⟩ | (simp [intOf]; omega) | (rw [hj]; simp [intOf]; omega)
    · obtain rfl : i = b := by omega
      have hlt2 : i < (sp.length : Int) := hb1
      have hbad := HBAD.out
      obtain ⟨ad, ea, hx0, hx1⟩ := at_T51 (Kd.R_reads' HSP.out).2.2 i hi0 hlt2
      subst ea
      generalize rd_T51 sp i = x at hbad hx0 hx1
      have hn1 : ¬ (0 < i ∧ x.f0 = -1 ∧ x.f1 = -1) := fun h => hbad (.inl h)
      have hn2 : ¬ (0 ≤ x.f0 ∧ x.f0 ≤ x.f1 ∧ x.f1 ≤ tx.length) := fun h => hbad (.inr h)
      clear hbad
      by_cases hp : i > 0
      · have hs1 : decide (i > 0) = true := decide_eq_true hp
        by_cases hq : x.f0 = -1
        · have hs2 : (x.f0 == -1) = true := beq_iff_eq.2 hq
          have hs3 : (x.f1 == -1) = false := beq_eq_false_iff_ne.2 (by omega)
          have hs4 : decide (x.f0 < 0) = true := decide_eq_true (by omega)
          clear hn1 hn2
          go_wp2
          refine bodyPost_ret (v := .tuple #[.slice none 0 0, .int .i64 2]) (by simp [results, Try.results14, go_sem]) rfl ?_
          exact ⟨_, rfl, Kd.R_nil _ _ _ _ _, below_alloc HB.out _⟩
        · have hs2 : (x.f0 == -1) = false := beq_eq_false_iff_ne.2 hq
          by_cases h4 : x.f0 < 0
          · have hs4 : decide (x.f0 < 0) = true := decide_eq_true h4
            go_wp2
            refine bodyPost_ret (v := .tuple #[.slice none 0 0, .int .i64 2]) (by simp [results, Try.results14, go_sem]) rfl ?_
            exact ⟨_, rfl, Kd.R_nil _ _ _ _ _, below_alloc HB.out _⟩
          · have hs4 : decide (x.f0 < 0) = false := decide_eq_false h4
            by_cases h5 : x.f1 < x.f0
            · have hs5 : decide (x.f1 < x.f0) = true := decide_eq_true h5
              go_wp2
              refine bodyPost_ret (v := .tuple #[.slice none 0 0, .int .i64 2]) (by simp [results, Try.results14, go_sem]) rfl ?_
              exact ⟨_, rfl, Kd.R_nil _ _ _ _ _, below_alloc HB.out _⟩
            · have hs5 : decide (x.f1 < x.f0) = false := decide_eq_false h5
              have h6 : x.f1 > (tx.length : Int) := by omega
              have hs6 : decide (x.f1 > (tx.length : Int)) = true := decide_eq_true h6
              have hs7 : decide ((tx.length : Int) < x.f1) = true := decide_eq_true h6
              go_wp2
              refine bodyPost_ret (v := .tuple #[.slice none 0 0, .int .i64 2]) (by simp [results, Try.results14, go_sem]) rfl ?_
              exact ⟨_, rfl, Kd.R_nil _ _ _ _ _, below_alloc HB.out _⟩
      · have hs1 : decide (i > 0) = false := decide_eq_false hp
        by_cases h4 : x.f0 < 0
        · have hs4 : decide (x.f0 < 0) = true := decide_eq_true h4
          go_wp2
          refine bodyPost_ret (v := .tuple #[.slice none 0 0, .int .i64 2]) (by simp [results, Try.results14, go_sem]) rfl ?_
          exact ⟨_, rfl, Kd.R_nil _ _ _ _ _, below_alloc HB.out _⟩
        · have hs4 : decide (x.f0 < 0) = false := decide_eq_false h4
          by_cases h5 : x.f1 < x.f0
          · have hs5 : decide (x.f1 < x.f0) = true := decide_eq_true h5
            go_wp2
            refine bodyPost_ret (v := .tuple #[.slice none 0 0, .int .i64 2]) (by simp [results, Try.results14, go_sem]) rfl ?_
            exact ⟨_, rfl, Kd.R_nil _ _ _ _ _, below_alloc HB.out _⟩
          · have hs5 : decide (x.f1 < x.f0) = false := decide_eq_false h5
            have h6 : x.f1 > (tx.length : Int) := by omega
            have hs6 : decide (x.f1 > (tx.length : Int)) = true := decide_eq_true h6
            have hs7 : decide ((tx.length : Int) < x.f1) = true := decide_eq_true h6
            go_wp2
            refine bodyPost_ret (v := .tuple #[.slice none 0 0, .int .i64 2]) (by simp [results, Try.results14, go_sem]) rfl ?_
            exact ⟨_, rfl, Kd.R_nil _ _ _ _ _, below_alloc HB.out _⟩
noncomputable def expandF (t : ByteArray) (tx : List Int) (f u : Int) (gs : List S51) : List Int × Int :=
  if gs.length ≤ 9 then (@ite _ (fits tx (SP f u gs)) (Classical.propDecidable _) (pieces (grp (SP f u gs) tx) t []) ([], 2)) else ([], 3)
theorem ex_all (A0 : Option Addr) (c0 : Nat) (tx : List Int) (A1 : Option Addr) (c1 : Nat) (gs : List S51) (f u : Int) (t : ByteArray) (w : World) (hr0 : kI.C w A0 tx.length tx) (hc0 : tx.length ≤ c0) (hr1 : k51.C w A1 gs.length gs) (hc1 : gs.length ≤ c1)
    (hb6 : gs.length * 16 ≤ 140737488351232) (ht : t.size ≤ 1048576) (hx : tx.length ≤ 1048576) : Expd A0 c0 tx A1 c1 gs f u t w (expandF t tx f u gs).1 (expandF t tx f u gs).2 := by
  unfold expandF
  by_cases h : gs.length ≤ 9
  · rw [if_pos h]
    by_cases hf : fits tx (SP f u gs)
    · rw [if_pos hf]
      exact ex_main A0 c0 tx A1 c1 gs f u t w hr0 hc0 hr1 hc1 h hf ht hx
    · rw [if_neg hf]
      rcases Lib.first_bad (fun i => okS tx.length i (rd_T51 (SP f u gs) i)) (SP f u gs).length with hA | ⟨b, b0, b1, hb, hA⟩
      · exact absurd hA hf
      · exact ex_bad A0 c0 tx A1 c1 gs f u t w hr0 hc0 hr1 hc1 h b b0 b1 hb hA
  · rw [if_neg h]
    exact ex_large A0 c0 tx A1 c1 gs f u t w hr0 hc0 hr1 hc1 h hb6
end Go.Proofs.Ytemginkjkmmimaa.HandEX
