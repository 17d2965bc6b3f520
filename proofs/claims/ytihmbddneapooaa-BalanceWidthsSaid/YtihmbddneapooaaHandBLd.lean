/- Walked by hand: chanceryref3.Columns. -/
import Derived.Test.YtihmbddneapooaaHandBLc
namespace Go.Proofs.Ytihmbddneapooaa.HandBL
open Go.Proofs.Ytihmbddneapooaa.Lib (w64 rd_set tdiv_nn tmod_nn ext_rd drop_rd)
open Go.RowKit Go.Proofs.YtihmbddneapooaaW.PrintWords Go.Proofs.YtihmbddneapooaaW.PrintLast Go.Proofs.YtihmbddneapooaaW.PrintMore Go.Proofs.Ytihmbddneapooaa.QBA
set_option linter.unusedVariables false
set_option linter.unusedSimpArgs false
attribute [local go_sem] max2_int min2_int max_two min_two
/-- Two rows of zeros, just made, each in a block of its own. -/
def Two (w : World) (n : Nat) (p : Value × Value) (w' : World) : Prop := ∃ g1 cap1 g2 cap2, p = (.slice (some ⟨g1, 0, none⟩) n cap1, .slice (some ⟨g2, 0, none⟩) n cap2) ∧ g1 ≠ g2 ∧ n ≤ cap1 ∧ n ≤ cap2 ∧ w.heap.size ≤ g1 ∧ w.heap.size ≤ g2 ∧
  Kd.R (Kd.int .i64) 3 w' w.heap.size (fun k => k ≠ g2) (.slice (some ⟨g1, 0, none⟩) n cap1) (List.replicate n 0) ∧ Kd.R (Kd.int .i64) 3 w' w.heap.size (fun k => k ≠ g1) (.slice (some ⟨g2, 0, none⟩) n cap2) (List.replicate n 0) ∧ Below w.heap.size w w'
theorem two_mk {w w1 w2 : World} {n : Nat} {v1 v2 : Value} (hn : 0 < n) (h1 : Kd.R (Kd.int .i64) 3 w1 w.heap.size (fun _ => True) v1 (List.replicate n 0)) (hg : w1.grownBy w2 none) (h2 : Kd.R (Kd.int .i64) 3 w2 w.heap.size (fun _ => True) v2 (List.replicate n 0)) (hb : ∃ b, v2.ownBlock = some b ∧ w1.heap.size ≤ b) (HB : Below w.heap.size w w2) : Two w n (v1, v2) w2 ∧ Two w n (v2, v1) w2 := by
  obtain ⟨g1, c1, rfl, a1, l1, _⟩ := Kd.R_form h1 (by simpa using hn)
  obtain ⟨g2, c2, rfl, a2, l2, _⟩ := Kd.R_form h2 (by simpa using hn)
  obtain ⟨b, eb, hb⟩ := hb
  cases eb
  have hb' : w1.heap.size ≤ g2 := hb
  have hne : g1 ≠ g2 := by omega
  have k1 := (Kd.R_reads' h1).2.1
  have k2 := (Kd.R_reads' h2).2.1
  have r1 := Kd.R_grown h1 hg (fun _ _ e => by cases e)
  rw [List.length_replicate] at k1 k2 h2 r1
  have q1 := Kd.R_reok (ok := fun k => k ≠ g2) rfl r1 (fun k hk e => hne ((Option.some.inj hk).trans e))
  have q2 := Kd.R_reok (ok := fun k => k ≠ g1) rfl h2 (fun k hk e => hne (((Option.some.inj hk).trans e).symm))
  exact ⟨⟨g1, c1, g2, c2, (by first | rfl | rw [List.length_replicate]), hne, k1, k2, a1, a2, q1, q2, HB⟩, ⟨g2, c2, g1, c1, (by first | rfl | rw [List.length_replicate]), hne.symm, k2, k1, a2, a1, q2, q1, HB⟩⟩
theorem args_seg (g cap : Nat) {xs : List Int} {off m : Nat} (h : off + m ≤ xs.length) : (#[.slice (some ⟨g, off, none⟩) (seg xs off m).length (cap - off)] : Array Value) = #[.slice (some ⟨g, off, none⟩) m (cap - off)] := by rw [seg_length h]
theorem total_seg {xs : List Int} {off m : Nat} {T : Int} (h : off + m ≤ xs.length) (hm : m ≤ 64) (hT : T = tot (seg xs off m)) : chanceryref3_total.f (m + 1) (seg xs off m) = some T := by
  have := total_ok (seg xs off m) (by rw [seg_length h]; omega)
  rw [seg_length h] at this
  rw [this, hT]
theorem bk_drewN {w : World} {g n : Nat} {o : Obj} (h : w.heap[g]? = some o) : (w.drewN n).heap[g]? = some o := ((pw_below_drewN (Below.refl w.heap.size w) n).block g (blk_lt h)).trans h
theorem set_same {xs : List Int} {i : Int} (h0 : 0 ≤ i) (h : i < xs.length) : xs.set i.toNat (rd xs i) = xs := by
  refine ext_rd (by simp) fun j j0 _ => ?_
  rw [rd_set h0 h j0]
  by_cases e : j = i
  · rw [if_pos e, e]
  · rw [if_neg e]
theorem wrap_le (a : Int) : wrap64 a ≤ 9223372036854775807 := by unfold wrap64; omega
set_option maxHeartbeats 8000000 in
set_option maxRecDepth 100000 in
theorem columns_ok (cols : Int) (A : Option Addr) (c : Nat) (l : List S94) (w : World) (hr : Kd.C k94 w A l.length l) (hc : l.length ≤ c) (hf : fits cols l) :
    Calls Try.prog 41 #[.int .i64 cols, .slice A l.length c] w fun e w' => ∃ v0_ v1_ : Value, e = .returned (.tuple #[v0_, v1_]) ∧ Kd.R (Kd.int .i64) 3 w' w.heap.size (fun k_ => some k_ ≠ v1_.ownBlock) v0_ (leastF l cols) ∧ Kd.R (Kd.int .i64) 3 w' w.heap.size (fun k_ => some k_ ≠ v0_.ownBlock) v1_ (mostF l cols) ∧ Below w.heap.size w w' := by
  obtain ⟨h1, h2, hl, hg⟩ := hf
  have hu94 := Try.underlying94
  have HR := Aside0.mk hr
  have HC := Aside0.mk hc
  have HG := Aside0.mk hg
  clear hr hc hg
  have hb0 : (0 : Int) ≤ cols := by omega
  go_enter Try.func41, Try.ntmps41
  go_wp2
  refine start_ (n := 6) (S := fun _ => True) (ds := []) #[false, false, false, false, false, false] (by kernel_rfl) rfl rfl trivial (fun _ => ?_)
  refine pure_ (i := 0) (N := some 17) (v := ?_) (a' := ?_) #[true, false, false, false, false, false] rfl rfl (by kernel_rfl) (fun _ _ _ h => h) (Or.inl ⟨by rfl, ?_⟩) ?_ ?_
  rotate_left
  · intro w'
    go_simp
    with_reducible rfl
  rotate_left
  · simp only [Act.put, List.setIfInBounds_toArray, List.set_cons_zero, List.set_cons_succ, i64_w, i32_w]
    rfl
  refine pure_ (i := 2) (N := some 19) (v := ?_) (a' := ?_) #[true, false, true, false, false, false] rfl rfl (by kernel_rfl) (fun _ _ _ h => h) (Or.inl ⟨by rfl, ?_⟩) ?_ ?_
  rotate_left
  · intro w'
    go_simp
    with_reducible rfl
  rotate_left
  · simp only [Act.put, List.setIfInBounds_toArray, List.set_cons_zero, List.set_cons_succ, i64_w, i32_w]
    rfl
  refine join_ (σ := Value × Value) 1 #[true, true, true, true, true, false] (fun s => [(18, s.1), (6, s.1), (20, s.2)]) (fun s w' => Two w cols.toNat s w') ?cont ?orders
  case orders =>
    intro hcont
    have hn : 0 < cols.toNat := by omega
    have HBd : Below w.heap.size w w.drew := below_drew1 (Below.refl _ _)
    refine two_ (i := 1) (j := 3) (Ni := some 18) (Nj := some 20) #[true, true, true, false, false, false] #[true, false, true, true, false, false] rfl rfl rfl rfl (by kernel_rfl) (by decide) (by decide) (fun K hK => ?_) (fun K hK => ?_)
    · refine Kd.R_make_step (Kd.int .i64) (w0 := w) w.heap.size 3 (by rfl) (N := 18) rfl 34 _ _ rfl cols rfl rfl Try.underlying34 (.int .i64 0) 8 info3 rfl (by decide) (by omega) 0 (ok := fun _ => True) (okp := fun _ => True) rfl (fun _ hk => hk) trivial hb0 (by omega) HBd HBd.size ?_
      intro v1 w1 ho1 hb1 hg1 hn1
      refine hK.out _ _ trivial (fun _ => ?_)
      refine pure_ (i := 4) (N := some 6) (v := ?_) (a' := ?_) #[true, true, true, false, true, false] rfl rfl (by kernel_rfl) (fun _ _ _ h => h) (Or.inl ⟨by rfl, ?_⟩) ?_ ?_
      rotate_left
      · intro w'
        go_simp
        with_reducible rfl
      rotate_left
      · simp only [Act.put, List.setIfInBounds_toArray, List.set_cons_zero, List.set_cons_succ, i64_w, i32_w]
        rfl
      refine one_ (i := 3) (N := some 20) #[true, true, true, true, true, false] rfl rfl (by kernel_rfl) (by decide) (fun K2 hK2 => ?_)
      refine Kd.R_make_step (Kd.int .i64) (w0 := w) w.heap.size 3 (by rfl) (N := 20) rfl 34 _ _ rfl cols rfl rfl Try.underlying34 (.int .i64 0) 8 info3 rfl (by decide) (by omega) 0 (ok := fun _ => True) (okp := fun _ => True) rfl (fun _ hk => hk) trivial hb0 (by omega) hb1 hb1.size ?_
      intro v2 w2 ho2 hb2 hg2 hn2
      refine hK2.out _ _ trivial (fun _ => ?_)
      exact norm_ (by rfl) (hcont (v1, v2) w2 (two_mk hn ho1 hg2 ho2 hn2 hb2).1)
    · refine Kd.R_make_step (Kd.int .i64) (w0 := w) w.heap.size 3 (by rfl) (N := 20) rfl 34 _ _ rfl cols rfl rfl Try.underlying34 (.int .i64 0) 8 info3 rfl (by decide) (by omega) 0 (ok := fun _ => True) (okp := fun _ => True) rfl (fun _ hk => hk) trivial hb0 (by omega) HBd HBd.size ?_
      intro v1 w1 ho1 hb1 hg1 hn1
      refine hK.out _ _ trivial (fun _ => ?_)
      refine one_ (i := 1) (N := some 18) #[true, true, true, true, false, false] rfl rfl (by kernel_rfl) (by decide) (fun K2 hK2 => ?_)
      refine Kd.R_make_step (Kd.int .i64) (w0 := w) w.heap.size 3 (by rfl) (N := 18) rfl 34 _ _ rfl cols rfl rfl Try.underlying34 (.int .i64 0) 8 info3 rfl (by decide) (by omega) 0 (ok := fun _ => True) (okp := fun _ => True) rfl (fun _ hk => hk) trivial hb0 (by omega) hb1 hb1.size ?_
      intro v2 w2 ho2 hb2 hg2 hn2
      refine hK2.out _ _ trivial (fun _ => ?_)
      refine pure_ (i := 4) (N := some 6) (v := ?_) (a' := ?_) #[true, true, true, true, true, false] rfl rfl (by kernel_rfl) (fun _ _ _ h => h) (Or.inl ⟨by rfl, ?_⟩) ?_ ?_
      rotate_left
      · intro w'
        go_simp
        with_reducible rfl
      rotate_left
      · simp only [Act.put, List.setIfInBounds_toArray, List.set_cons_zero, List.set_cons_succ, i64_w, i32_w]
        rfl
      exact norm_ (by rfl) (hcont (v2, v1) w2 (two_mk hn ho1 hg2 ho2 hn2 hb2).2)
  case cont =>
    rintro _ w1 ⟨g1, cap1, g2, cap2, rfl, hgg, hk1, hk2, hg1, hg2, hL, hH, hB⟩
    refine norm_ (a' := ?_) ?_ ?_
    rotate_left
    · simp only [putAll, Act.put, List.setIfInBounds_toArray, List.set_cons_zero, List.set_cons_succ]
      rfl
    refine pure_ (i := 5) (N := some 7) (v := ?_) (a' := ?_) #[true, true, true, true, true, true] rfl rfl (by kernel_rfl) (fun _ _ _ h => h) (Or.inl ⟨by rfl, ?_⟩) ?_ ?_
    rotate_left
    · intro w'
      go_simp
      with_reducible rfl
    rotate_left
    · simp only [Act.put, List.setIfInBounds_toArray, List.set_cons_zero, List.set_cons_succ, i64_w, i32_w]
      rfl
    refine done_ (by kernel_rfl) ?_
    have HL := Aside0.mk hL
    have HH := Aside0.mk hH
    have HB := Aside0.mk hB
    have HK1 := Aside0.mk hk1
    have HK2 := Aside0.mk hk2
    have HGG := Aside0.mk (And.intro hgg (And.intro hg1 hg2))
    clear hL hH hB hk1 hk2 hgg hg1 hg2
    go_wp2
    go_loopw [8] (fun v8 w' => ∃ s : Int, v8 = .int .i64 s ∧ 1 ≤ s ∧ s ≤ cols + 1 ∧ Aside0 (Kd.R (Kd.int .i64) 3 w' w.heap.size (fun k => k ≠ g2) (.slice (some ⟨g1, 0, none⟩) cols.toNat cap1) (rowsN numA l cols.toNat (s - 1).toNat)) ∧ Aside0 (Kd.R (Kd.int .i64) 3 w' w.heap.size (fun k => k ≠ g1) (.slice (some ⟨g2, 0, none⟩) cols.toNat cap2) (rowsN numB l cols.toNat (s - 1).toNat)) ∧ Aside0 (Below w.heap.size w w')) (fun v8 _ => (cols + 1).toNat - (intOf v8).toNat)
    case atStart => exact ⟨1, rfl, by omega, by omega, HL, HH, HB⟩
    case round =>
      clear HL HH HB
      obtain ⟨s, rfl, hs1, hs2, HL, HH, HB⟩ := hrel
      by_cases hsc : s ≤ cols
      · go_wp2
        go_loopw [28] (fun v28 w' => ∃ j : Int, v28 = .int .i64 j ∧ 0 ≤ j ∧ j ≤ l.length ∧ Aside0 (Kd.R (Kd.int .i64) 3 w' w.heap.size (fun k => k ≠ g2) (.slice (some ⟨g1, 0, none⟩) cols.toNat cap1) (cellsN numA s l (rowsN numA l cols.toNat (s - 1).toNat) j.toNat)) ∧ Aside0 (Kd.R (Kd.int .i64) 3 w' w.heap.size (fun k => k ≠ g1) (.slice (some ⟨g2, 0, none⟩) cols.toNat cap2) (cellsN numB s l (rowsN numB l cols.toNat (s - 1).toNat) j.toNat)) ∧ Aside0 (Below w.heap.size w w')) (fun v28 _ => l.length - (intOf v28).toNat)
        case atStart => exact ⟨0, rfl, by omega, by omega, HL, HH, HB⟩
        case round =>
          clear HL HH HB
          obtain ⟨j, rfl, hj0, hj1, HL, HH, HB⟩ := hrel
          have hxl := (cellsN_length numA s l (rowsN numA l cols.toNat (s - 1).toNat) j.toNat).trans (rowsN_length numA l cols.toNat (s - 1).toNat)
          have hyl := (cellsN_length numB s l (rowsN numB l cols.toNat (s - 1).toNat) j.toNat).trans (rowsN_length numB l cols.toNat (s - 1).toNat)
          by_cases hjl : j < (l.length : Int)
          · have hst := cellsN_succ numA s l (rowsN numA l cols.toNat (s - 1).toNat) j hj0 hjl
            have hsu := cellsN_succ numB s l (rowsN numB l cols.toNat (s - 1).toNat) j hj0 hjl
            obtain ⟨hgd0, hgd1, hgd2⟩ := good_at HG.out hj0 hjl
            obtain ⟨ad, eA, hx0, hx1, hx2, hx3⟩ := at_T94 HR.out j hj0 hjl
            cases eA
            replace hx0 := (HB.out.cell (World.block_lt_of_cell? w _ hx0)).trans hx0
            replace hx1 := (HB.out.cell (World.block_lt_of_cell? w _ hx1)).trans hx1
            replace hx2 := (HB.out.cell (World.block_lt_of_cell? w _ hx2)).trans hx2
            replace hx3 := (HB.out.cell (World.block_lt_of_cell? w _ hx3)).trans hx3
            generalize rd_T94 l j = x at hst hsu hgd0 hgd1 hgd2 hx0 hx1 hx2 hx3
            generalize cellsN numA s l (rowsN numA l cols.toNat (s - 1).toNat) j.toNat = xs at hst hxl HL
            generalize cellsN numB s l (rowsN numB l cols.toNat (s - 1).toNat) j.toNat = ys at hsu hyl HH
            have HST := Aside0.mk hst
            have HSU := Aside0.mk hsu
            clear hst hsu
            by_cases hsp : x.f1 = s
            · have hspb : (x.f1 != s) = false := bne_eq_false_iff_eq.2 hsp
              have hspc : (x.f1 == s) = true := beq_iff_eq.2 hsp
              have HSP := Aside0.mk hsp
              have hc1 : 0 ≤ x.f0 + s ∧ x.f0 + s ≤ (cap1 : Int) := ⟨by omega, by have := HK1.out; omega⟩
              have hc2 : 0 ≤ x.f0 + s ∧ x.f0 + s ≤ (cap2 : Int) := ⟨by omega, by have := HK2.out; omega⟩
              have hc3 : 0 ≤ x.f0 ∧ x.f0 ≤ x.f0 + s := ⟨hgd0, by omega⟩
              have hsub : (x.f0 + s).toNat - x.f0.toNat = s.toNat := by omega
              have hpos : 0 < s.toNat := by omega
              have hend1 : x.f0.toNat + s.toNat ≤ xs.length := by omega
              have hend2 : x.f0.toNat + s.toNat ≤ ys.length := by omega
              have hs64 : s.toNat ≤ 64 := by omega
              have hx64 : x.f0.toNat + s.toNat ≤ cap1 := by have := HK1.out; omega
              have hy64 : x.f0.toNat + s.toNat ≤ cap2 := by have := HK2.out; omega
              clear hsp
              have HARG1 := Aside0.mk (args_seg g1 cap1 (xs := xs) hend1)
              have HARG2 := Aside0.mk (args_seg g2 cap2 (xs := ys) hend2)
              obtain ⟨T1, hT1⟩ : ∃ T, T = tot (seg xs x.f0.toNat s.toNat) := ⟨_, rfl⟩
              obtain ⟨T2, hT2⟩ : ∃ T, T = tot (seg ys x.f0.toNat s.toNat) := ⟨_, rfl⟩
              have HT1 := Aside0.mk (total_seg hend1 hs64 hT1)
              have HT2 := Aside0.mk (total_seg hend2 hs64 hT2)
              have HSA : Aside0 (cellsN numA s l (rowsN numA l cols.toNat (s - 1).toNat) (j + 1).toNat = if 0 < wrap64 (x.f2 - T1) then addTo xs x.f0.toNat s.toNat (wrap64 (x.f2 - T1)) else xs) := ⟨by rw [HST.out, stepN, if_pos HSP.out, ← hT1]; rfl⟩
              have HSB : Aside0 (cellsN numB s l (rowsN numB l cols.toNat (s - 1).toNat) (j + 1).toNat = if 0 < wrap64 (numB x - T2) then addTo ys x.f0.toNat s.toNat (wrap64 (numB x - T2)) else ys) := ⟨by rw [HSU.out, stepN, if_pos HSP.out, ← hT2]⟩
              clear hT1 hT2
              rw [← hxl] at HL
              rw [← hyl] at HH
              obtain ⟨hgg, hg1, hg2⟩ := HGG.out
              have hb1 : g1 < wr.heap.size := by
                obtain ⟨g', _, e, _, hl', _⟩ := Kd.R_form HL.out (by omega)
                injection e with e
                injection e with e
                injection e with e
                omega
              have hb2 : g2 < wr.heap.size := by
                obtain ⟨g', _, e, _, hl', _⟩ := Kd.R_form HH.out (by omega)
                injection e with e
                injection e with e
                injection e with e
                omega
              go_wp2
              have BK0 := blk_new wr (.cells #[.int .i64 x.f0, .int .i64 x.f1, .int .i64 x.f2, .int .i64 x.f3] 94 (0, 0))
              have HL0 : Kd.R (Kd.int .i64) 3 (wr.alloc (.cells #[.int .i64 x.f0, .int .i64 x.f1, .int .i64 x.f2, .int .i64 x.f3] 94 (0, 0))) w.heap.size (fun k => k ≠ g2) (.slice (some ⟨g1, 0, none⟩) xs.length cap1) xs := by (with_reducible apply Kd.R_alloc); exact HL.out
              have HH0 : Kd.R (Kd.int .i64) 3 (wr.alloc (.cells #[.int .i64 x.f0, .int .i64 x.f1, .int .i64 x.f2, .int .i64 x.f3] 94 (0, 0))) w.heap.size (fun k => k ≠ g1) (.slice (some ⟨g2, 0, none⟩) ys.length cap2) ys := by (with_reducible apply Kd.R_alloc); exact HH.out
              have HB0 := below_alloc HB.out (.cells #[.int .i64 x.f0, .int .i64 x.f1, .int .i64 x.f2, .int .i64 x.f3] 94 (0, 0))
              have hge := HB.out.size
              clear HL HH HB hx0 hx1 hx2 hx3
              generalize wr.alloc (.cells #[.int .i64 x.f0, .int .i64 x.f1, .int .i64 x.f2, .int .i64 x.f3] 94 (0, 0)) = wa at BK0 HL0 HH0 HB0 ⊢
              generalize wr.heap.size = gb at BK0 hb1 hb2 hge ⊢
              have hn1 : gb ≠ g1 := by omega
              have hn2 : gb ≠ g2 := by omega
              have HN := Aside0.mk (And.intro hn1 hn2)
              have BK := Aside0.mk BK0
              have HL := Aside0.mk HL0
              have HH := Aside0.mk HH0
              have HB := Aside0.mk HB0
              clear BK0 HL0 HH0 HB0 hn1 hn2 hb1 hb2 hge
              have c0 : wa.cell? ⟨gb, 0, none⟩ = some (.int .i64 x.f0) := (blk_cell BK.out 0).trans rfl
              have c2 : wa.cell? ⟨gb, 2, none⟩ = some (.int .i64 x.f2) := (blk_cell BK.out 2).trans rfl
              have c3 : wa.cell? ⟨gb, 3, none⟩ = some (.int .i64 x.f3) := (blk_cell BK.out 3).trans rfl
              go_quiet (fail)
              go_wp2
              go_quiet (first | (go_at_call 54; with_reducible refine calls_of_args HARG1.out.symm ?_; refine (chanceryref3_total.calls (s.toNat + 1) _ _ (seg xs x.f0.toNat s.toNat) T1 _ ?sR ?sC HT1.out).mono ?_; (case sR => refine seg_reads (cap := cap1) (base := w.heap.size) (ok := fun k => k ≠ g2) (xs := xs) ?_ hpos hend1; (with_reducible repeat (first | apply Kd.R_drewN | apply Kd.R_drew)); exact HL.out); (case sC => rw [seg_length hend1]; omega); rintro e w2 ⟨rfl, m, hm⟩; exact ⟨rfl, _, hm.trans ((World.drewN_drewN _ _ _).trans (congrArg (World.drewN _) (Nat.add_assoc _ _ _)))⟩))
              by_cases hk1 : 0 < wrap64 (x.f2 - T1)
              · have HX1 := Aside0.mk hk1
                by_cases hw : x.f2 < x.f3
                · have hnb : numB x = x.f3 := if_pos hw
                  rw [hnb] at HSB
                  by_cases hk2 : 0 < wrap64 (x.f3 - T2)
                  · have HX2 := Aside0.mk hk2
                    go_wp2_with (first | (go_at_call 55; have HD0 := HD; refine (deal_seg g2 x.f0.toNat s.toNat _ cap2 w.heap.size (fun k => k ≠ g1) ys (wrap64 (x.f3 - T2)) _ ?sR hpos hend2 (Int.le_of_lt hk2) (wrap_le _)).mono ?_; (case sR => (with_reducible repeat (first | apply Kd.R_drewN | apply Kd.R_drew)); exact HH.out); rintro e w7 ⟨rfl, hR, hb, hk⟩; have n0 : Aside0 (Below w.heap.size w w7) := ⟨(by refine below_weaken ?_ hg2 hb; repeat (first | (with_reducible first | exact HB.out | apply pw_below_drewN | apply below_drew1) | exact HB.out))⟩; have n1 : Aside0 (Kd.R (Kd.int .i64) 3 w7 w.heap.size (fun k => k ≠ g2) (.slice (some ⟨g1, 0, none⟩) xs.length cap1) (addTo xs x.f0.toNat s.toNat (wrap64 (x.f2 - T1)))) := ⟨(by refine Kd.R_keep ?_ hk (fun _ h => h); (with_reducible repeat (first | apply Kd.R_drewN | apply Kd.R_drew)); exact HL.out)⟩; clear HD0 HL HH HB; have HL := n1; have HB := n0; have HH := Aside0.mk hR; clear n0 n1 hR hb hk) | (go_at_call 54; with_reducible refine calls_of_args HARG2.out.symm ?_; refine (chanceryref3_total.calls (s.toNat + 1) _ _ (seg ys x.f0.toNat s.toNat) T2 _ ?sR ?sC HT2.out).mono ?_; (case sR => refine seg_reads (cap := cap2) (base := w.heap.size) (ok := fun k => k ≠ g1) (xs := ys) ?_ hpos hend2; (with_reducible repeat (first | apply Kd.R_drewN | apply Kd.R_drew)); exact HH.out); (case sC => rw [seg_length hend2]; omega); rintro e w5 ⟨rfl, ⟨nd, rfl⟩⟩; have HD := Aside0.mk True.intro) | (go_at_call 55; refine (deal_seg g1 x.f0.toNat s.toNat _ cap1 w.heap.size (fun k => k ≠ g2) xs (wrap64 (x.f2 - T1)) _ ?sR hpos hend1 (Int.le_of_lt hk1) (wrap_le _)).mono ?_; (case sR => (with_reducible repeat (first | apply Kd.R_drewN | apply Kd.R_drew)); exact HL.out); rintro e w6 ⟨rfl, hR, hb, hk⟩; have n0 : Aside0 (Below w.heap.size w w6) := ⟨(by refine below_weaken ?_ hg1 hb; repeat (first | (with_reducible first | exact HB.out | apply pw_below_drewN | apply below_drew1) | exact HB.out))⟩; have n1 : Aside0 (Kd.R (Kd.int .i64) 3 w6 w.heap.size (fun k => k ≠ g1) (.slice (some ⟨g2, 0, none⟩) ys.length cap2) ys) := ⟨(by refine Kd.R_keep ?_ hk (fun _ h => h); (with_reducible repeat (first | apply Kd.R_drewN | apply Kd.R_drew)); exact HH.out)⟩; have n2 : Aside0 (w6.heap[gb]? = some (.cells #[.int .i64 x.f0, .int .i64 x.f1, .int .i64 x.f2, .int .i64 x.f3] 94 (0, 0))) := ⟨(by refine KeepBut.blk hk ?_ HN.out.1 (by simp); repeat (with_reducible apply bk_drewN); exact BK.out)⟩; clear HL HH HB BK c0 c2 c3; have HL := Aside0.mk hR; have HH := n1; have HB := n0; have BK := n2; have c2 : w6.cell? ⟨gb, 2, none⟩ = some (.int .i64 x.f2) := (blk_cell BK.out 2).trans rfl; have c3 : w6.cell? ⟨gb, 3, none⟩ = some (.int .i64 x.f3) := (blk_cell BK.out 3).trans rfl; clear n0 n1 n2 hR hb hk))
                    go_roundw
                    case rel =>
                      refine ⟨j + 1, by first | rfl | rw [w64 (by omega) (by omega)], by omega, by omega, ⟨?_⟩, ⟨?_⟩, ⟨?_⟩⟩
                      · rw [HSA.out, if_pos (by have := HX1.out; first | exact this | omega), ← hxl]
                        (with_reducible repeat (first | apply Kd.R_drewN | apply Kd.R_drew))
                        exact HL.out
                      · rw [HSB.out, if_pos (by have := HX2.out; first | exact this | omega), ← hyl]
                        (with_reducible repeat (first | apply Kd.R_drewN | apply Kd.R_drew))
                        exact HH.out
                      · repeat (first | (with_reducible first | exact HB.out | apply pw_below_drewN | apply below_drew1) | exact HB.out)
                    case measure => first | (simp [intOf]; omega) | (rw [w64 (by omega) (by omega)]; simp [intOf]; omega)
                  · have HX2 := Aside0.mk hk2
                    go_wp2_with (first | (go_at_call 55; have HD0 := HD; refine (deal_seg g2 x.f0.toNat s.toNat _ cap2 w.heap.size (fun k => k ≠ g1) ys (wrap64 (x.f3 - T2)) _ ?sR hpos hend2 (Int.le_of_lt hk2) (wrap_le _)).mono ?_; (case sR => (with_reducible repeat (first | apply Kd.R_drewN | apply Kd.R_drew)); exact HH.out); rintro e w7 ⟨rfl, hR, hb, hk⟩; have n0 : Aside0 (Below w.heap.size w w7) := ⟨(by refine below_weaken ?_ hg2 hb; repeat (first | (with_reducible first | exact HB.out | apply pw_below_drewN | apply below_drew1) | exact HB.out))⟩; have n1 : Aside0 (Kd.R (Kd.int .i64) 3 w7 w.heap.size (fun k => k ≠ g2) (.slice (some ⟨g1, 0, none⟩) xs.length cap1) (addTo xs x.f0.toNat s.toNat (wrap64 (x.f2 - T1)))) := ⟨(by refine Kd.R_keep ?_ hk (fun _ h => h); (with_reducible repeat (first | apply Kd.R_drewN | apply Kd.R_drew)); exact HL.out)⟩; clear HD0 HL HH HB; have HL := n1; have HB := n0; have HH := Aside0.mk hR; clear n0 n1 hR hb hk) | (go_at_call 54; with_reducible refine calls_of_args HARG2.out.symm ?_; refine (chanceryref3_total.calls (s.toNat + 1) _ _ (seg ys x.f0.toNat s.toNat) T2 _ ?sR ?sC HT2.out).mono ?_; (case sR => refine seg_reads (cap := cap2) (base := w.heap.size) (ok := fun k => k ≠ g1) (xs := ys) ?_ hpos hend2; (with_reducible repeat (first | apply Kd.R_drewN | apply Kd.R_drew)); exact HH.out); (case sC => rw [seg_length hend2]; omega); rintro e w5 ⟨rfl, ⟨nd, rfl⟩⟩; have HD := Aside0.mk True.intro) | (go_at_call 55; refine (deal_seg g1 x.f0.toNat s.toNat _ cap1 w.heap.size (fun k => k ≠ g2) xs (wrap64 (x.f2 - T1)) _ ?sR hpos hend1 (Int.le_of_lt hk1) (wrap_le _)).mono ?_; (case sR => (with_reducible repeat (first | apply Kd.R_drewN | apply Kd.R_drew)); exact HL.out); rintro e w6 ⟨rfl, hR, hb, hk⟩; have n0 : Aside0 (Below w.heap.size w w6) := ⟨(by refine below_weaken ?_ hg1 hb; repeat (first | (with_reducible first | exact HB.out | apply pw_below_drewN | apply below_drew1) | exact HB.out))⟩; have n1 : Aside0 (Kd.R (Kd.int .i64) 3 w6 w.heap.size (fun k => k ≠ g1) (.slice (some ⟨g2, 0, none⟩) ys.length cap2) ys) := ⟨(by refine Kd.R_keep ?_ hk (fun _ h => h); (with_reducible repeat (first | apply Kd.R_drewN | apply Kd.R_drew)); exact HH.out)⟩; have n2 : Aside0 (w6.heap[gb]? = some (.cells #[.int .i64 x.f0, .int .i64 x.f1, .int .i64 x.f2, .int .i64 x.f3] 94 (0, 0))) := ⟨(by refine KeepBut.blk hk ?_ HN.out.1 (by simp); repeat (with_reducible apply bk_drewN); exact BK.out)⟩; clear HL HH HB BK c0 c2 c3; have HL := Aside0.mk hR; have HH := n1; have HB := n0; have BK := n2; have c2 : w6.cell? ⟨gb, 2, none⟩ = some (.int .i64 x.f2) := (blk_cell BK.out 2).trans rfl; have c3 : w6.cell? ⟨gb, 3, none⟩ = some (.int .i64 x.f3) := (blk_cell BK.out 3).trans rfl; clear n0 n1 n2 hR hb hk))
                    go_roundw
                    case rel =>
                      refine ⟨j + 1, by first | rfl | rw [w64 (by omega) (by omega)], by omega, by omega, ⟨?_⟩, ⟨?_⟩, ⟨?_⟩⟩
                      · rw [HSA.out, if_pos (by have := HX1.out; first | exact this | omega), ← hxl]
                        (with_reducible repeat (first | apply Kd.R_drewN | apply Kd.R_drew))
                        exact HL.out
                      · rw [HSB.out, if_neg (by have := HX2.out; first | exact this | omega), ← hyl]
                        (with_reducible repeat (first | apply Kd.R_drewN | apply Kd.R_drew))
                        exact HH.out
                      · repeat (first | (with_reducible first | exact HB.out | apply pw_below_drewN | apply below_drew1) | exact HB.out)
                    case measure => first | (simp [intOf]; omega) | (rw [w64 (by omega) (by omega)]; simp [intOf]; omega)
                · have hnb : numB x = x.f2 := if_neg hw
                  rw [hnb] at HSB
                  by_cases hk2 : 0 < wrap64 (x.f2 - T2)
                  · have HX2 := Aside0.mk hk2
                    go_wp2_with (first | (go_at_call 55; have HD0 := HD; refine (deal_seg g2 x.f0.toNat s.toNat _ cap2 w.heap.size (fun k => k ≠ g1) ys (wrap64 (x.f2 - T2)) _ ?sR hpos hend2 (Int.le_of_lt hk2) (wrap_le _)).mono ?_; (case sR => (with_reducible repeat (first | apply Kd.R_drewN | apply Kd.R_drew)); exact HH.out); rintro e w7 ⟨rfl, hR, hb, hk⟩; have n0 : Aside0 (Below w.heap.size w w7) := ⟨(by refine below_weaken ?_ hg2 hb; repeat (first | (with_reducible first | exact HB.out | apply pw_below_drewN | apply below_drew1) | exact HB.out))⟩; have n1 : Aside0 (Kd.R (Kd.int .i64) 3 w7 w.heap.size (fun k => k ≠ g2) (.slice (some ⟨g1, 0, none⟩) xs.length cap1) (addTo xs x.f0.toNat s.toNat (wrap64 (x.f2 - T1)))) := ⟨(by refine Kd.R_keep ?_ hk (fun _ h => h); (with_reducible repeat (first | apply Kd.R_drewN | apply Kd.R_drew)); exact HL.out)⟩; clear HD0 HL HH HB; have HL := n1; have HB := n0; have HH := Aside0.mk hR; clear n0 n1 hR hb hk) | (go_at_call 54; with_reducible refine calls_of_args HARG2.out.symm ?_; refine (chanceryref3_total.calls (s.toNat + 1) _ _ (seg ys x.f0.toNat s.toNat) T2 _ ?sR ?sC HT2.out).mono ?_; (case sR => refine seg_reads (cap := cap2) (base := w.heap.size) (ok := fun k => k ≠ g1) (xs := ys) ?_ hpos hend2; (with_reducible repeat (first | apply Kd.R_drewN | apply Kd.R_drew)); exact HH.out); (case sC => rw [seg_length hend2]; omega); rintro e w5 ⟨rfl, ⟨nd, rfl⟩⟩; have HD := Aside0.mk True.intro) | (go_at_call 55; refine (deal_seg g1 x.f0.toNat s.toNat _ cap1 w.heap.size (fun k => k ≠ g2) xs (wrap64 (x.f2 - T1)) _ ?sR hpos hend1 (Int.le_of_lt hk1) (wrap_le _)).mono ?_; (case sR => (with_reducible repeat (first | apply Kd.R_drewN | apply Kd.R_drew)); exact HL.out); rintro e w6 ⟨rfl, hR, hb, hk⟩; have n0 : Aside0 (Below w.heap.size w w6) := ⟨(by refine below_weaken ?_ hg1 hb; repeat (first | (with_reducible first | exact HB.out | apply pw_below_drewN | apply below_drew1) | exact HB.out))⟩; have n1 : Aside0 (Kd.R (Kd.int .i64) 3 w6 w.heap.size (fun k => k ≠ g1) (.slice (some ⟨g2, 0, none⟩) ys.length cap2) ys) := ⟨(by refine Kd.R_keep ?_ hk (fun _ h => h); (with_reducible repeat (first | apply Kd.R_drewN | apply Kd.R_drew)); exact HH.out)⟩; have n2 : Aside0 (w6.heap[gb]? = some (.cells #[.int .i64 x.f0, .int .i64 x.f1, .int .i64 x.f2, .int .i64 x.f3] 94 (0, 0))) := ⟨(by refine KeepBut.blk hk ?_ HN.out.1 (by simp); repeat (with_reducible apply bk_drewN); exact BK.out)⟩; clear HL HH HB BK c0 c2 c3; have HL := Aside0.mk hR; have HH := n1; have HB := n0; have BK := n2; have c2 : w6.cell? ⟨gb, 2, none⟩ = some (.int .i64 x.f2) := (blk_cell BK.out 2).trans rfl; have c3 : w6.cell? ⟨gb, 3, none⟩ = some (.int .i64 x.f3) := (blk_cell BK.out 3).trans rfl; clear n0 n1 n2 hR hb hk))
                    go_roundw
                    case rel =>
                      refine ⟨j + 1, by first | rfl | rw [w64 (by omega) (by omega)], by omega, by omega, ⟨?_⟩, ⟨?_⟩, ⟨?_⟩⟩
                      · rw [HSA.out, if_pos (by have := HX1.out; first | exact this | omega), ← hxl]
                        (with_reducible repeat (first | apply Kd.R_drewN | apply Kd.R_drew))
                        exact HL.out
                      · rw [HSB.out, if_pos (by have := HX2.out; first | exact this | omega), ← hyl]
                        (with_reducible repeat (first | apply Kd.R_drewN | apply Kd.R_drew))
                        exact HH.out
                      · repeat (first | (with_reducible first | exact HB.out | apply pw_below_drewN | apply below_drew1) | exact HB.out)
                    case measure => first | (simp [intOf]; omega) | (rw [w64 (by omega) (by omega)]; simp [intOf]; omega)
                  · have HX2 := Aside0.mk hk2
                    go_wp2_with (first | (go_at_call 55; have HD0 := HD; refine (deal_seg g2 x.f0.toNat s.toNat _ cap2 w.heap.size (fun k => k ≠ g1) ys (wrap64 (x.f2 - T2)) _ ?sR hpos hend2 (Int.le_of_lt hk2) (wrap_le _)).mono ?_; (case sR => (with_reducible repeat (first | apply Kd.R_drewN | apply Kd.R_drew)); exact HH.out); rintro e w7 ⟨rfl, hR, hb, hk⟩; have n0 : Aside0 (Below w.heap.size w w7) := ⟨(by refine below_weaken ?_ hg2 hb; repeat (first | (with_reducible first | exact HB.out | apply pw_below_drewN | apply below_drew1) | exact HB.out))⟩; have n1 : Aside0 (Kd.R (Kd.int .i64) 3 w7 w.heap.size (fun k => k ≠ g2) (.slice (some ⟨g1, 0, none⟩) xs.length cap1) (addTo xs x.f0.toNat s.toNat (wrap64 (x.f2 - T1)))) := ⟨(by refine Kd.R_keep ?_ hk (fun _ h => h); (with_reducible repeat (first | apply Kd.R_drewN | apply Kd.R_drew)); exact HL.out)⟩; clear HD0 HL HH HB; have HL := n1; have HB := n0; have HH := Aside0.mk hR; clear n0 n1 hR hb hk) | (go_at_call 54; with_reducible refine calls_of_args HARG2.out.symm ?_; refine (chanceryref3_total.calls (s.toNat + 1) _ _ (seg ys x.f0.toNat s.toNat) T2 _ ?sR ?sC HT2.out).mono ?_; (case sR => refine seg_reads (cap := cap2) (base := w.heap.size) (ok := fun k => k ≠ g1) (xs := ys) ?_ hpos hend2; (with_reducible repeat (first | apply Kd.R_drewN | apply Kd.R_drew)); exact HH.out); (case sC => rw [seg_length hend2]; omega); rintro e w5 ⟨rfl, ⟨nd, rfl⟩⟩; have HD := Aside0.mk True.intro) | (go_at_call 55; refine (deal_seg g1 x.f0.toNat s.toNat _ cap1 w.heap.size (fun k => k ≠ g2) xs (wrap64 (x.f2 - T1)) _ ?sR hpos hend1 (Int.le_of_lt hk1) (wrap_le _)).mono ?_; (case sR => (with_reducible repeat (first | apply Kd.R_drewN | apply Kd.R_drew)); exact HL.out); rintro e w6 ⟨rfl, hR, hb, hk⟩; have n0 : Aside0 (Below w.heap.size w w6) := ⟨(by refine below_weaken ?_ hg1 hb; repeat (first | (with_reducible first | exact HB.out | apply pw_below_drewN | apply below_drew1) | exact HB.out))⟩; have n1 : Aside0 (Kd.R (Kd.int .i64) 3 w6 w.heap.size (fun k => k ≠ g1) (.slice (some ⟨g2, 0, none⟩) ys.length cap2) ys) := ⟨(by refine Kd.R_keep ?_ hk (fun _ h => h); (with_reducible repeat (first | apply Kd.R_drewN | apply Kd.R_drew)); exact HH.out)⟩; have n2 : Aside0 (w6.heap[gb]? = some (.cells #[.int .i64 x.f0, .int .i64 x.f1, .int .i64 x.f2, .int .i64 x.f3] 94 (0, 0))) := ⟨(by refine KeepBut.blk hk ?_ HN.out.1 (by simp); repeat (with_reducible apply bk_drewN); exact BK.out)⟩; clear HL HH HB BK c0 c2 c3; have HL := Aside0.mk hR; have HH := n1; have HB := n0; have BK := n2; have c2 : w6.cell? ⟨gb, 2, none⟩ = some (.int .i64 x.f2) := (blk_cell BK.out 2).trans rfl; have c3 : w6.cell? ⟨gb, 3, none⟩ = some (.int .i64 x.f3) := (blk_cell BK.out 3).trans rfl; clear n0 n1 n2 hR hb hk))
                    go_roundw
                    case rel =>
                      refine ⟨j + 1, by first | rfl | rw [w64 (by omega) (by omega)], by omega, by omega, ⟨?_⟩, ⟨?_⟩, ⟨?_⟩⟩
                      · rw [HSA.out, if_pos (by have := HX1.out; first | exact this | omega), ← hxl]
                        (with_reducible repeat (first | apply Kd.R_drewN | apply Kd.R_drew))
                        exact HL.out
                      · rw [HSB.out, if_neg (by have := HX2.out; first | exact this | omega), ← hyl]
                        (with_reducible repeat (first | apply Kd.R_drewN | apply Kd.R_drew))
                        exact HH.out
                      · repeat (first | (with_reducible first | exact HB.out | apply pw_below_drewN | apply below_drew1) | exact HB.out)
                    case measure => first | (simp [intOf]; omega) | (rw [w64 (by omega) (by omega)]; simp [intOf]; omega)
              · have HX1 := Aside0.mk hk1
                by_cases hw : x.f2 < x.f3
                · have hnb : numB x = x.f3 := if_pos hw
                  rw [hnb] at HSB
                  by_cases hk2 : 0 < wrap64 (x.f3 - T2)
                  · have HX2 := Aside0.mk hk2
                    go_wp2_with (first | (go_at_call 55; have HD0 := HD; refine (deal_seg g2 x.f0.toNat s.toNat _ cap2 w.heap.size (fun k => k ≠ g1) ys (wrap64 (x.f3 - T2)) _ ?sR hpos hend2 (Int.le_of_lt hk2) (wrap_le _)).mono ?_; (case sR => (with_reducible repeat (first | apply Kd.R_drewN | apply Kd.R_drew)); exact HH.out); rintro e w7 ⟨rfl, hR, hb, hk⟩; have n0 : Aside0 (Below w.heap.size w w7) := ⟨(by refine below_weaken ?_ hg2 hb; repeat (first | (with_reducible first | exact HB.out | apply pw_below_drewN | apply below_drew1) | exact HB.out))⟩; have n1 : Aside0 (Kd.R (Kd.int .i64) 3 w7 w.heap.size (fun k => k ≠ g2) (.slice (some ⟨g1, 0, none⟩) xs.length cap1) xs) := ⟨(by refine Kd.R_keep ?_ hk (fun _ h => h); (with_reducible repeat (first | apply Kd.R_drewN | apply Kd.R_drew)); exact HL.out)⟩; clear HD0 HL HH HB; have HL := n1; have HB := n0; have HH := Aside0.mk hR; clear n0 n1 hR hb hk) | (go_at_call 54; with_reducible refine calls_of_args HARG2.out.symm ?_; refine (chanceryref3_total.calls (s.toNat + 1) _ _ (seg ys x.f0.toNat s.toNat) T2 _ ?sR ?sC HT2.out).mono ?_; (case sR => refine seg_reads (cap := cap2) (base := w.heap.size) (ok := fun k => k ≠ g1) (xs := ys) ?_ hpos hend2; (with_reducible repeat (first | apply Kd.R_drewN | apply Kd.R_drew)); exact HH.out); (case sC => rw [seg_length hend2]; omega); rintro e w5 ⟨rfl, ⟨nd, rfl⟩⟩; have HD := Aside0.mk True.intro) | (go_at_call 55; refine (deal_seg g1 x.f0.toNat s.toNat _ cap1 w.heap.size (fun k => k ≠ g2) xs (wrap64 (x.f2 - T1)) _ ?sR hpos hend1 (Int.le_of_lt hk1) (wrap_le _)).mono ?_; (case sR => (with_reducible repeat (first | apply Kd.R_drewN | apply Kd.R_drew)); exact HL.out); rintro e w6 ⟨rfl, hR, hb, hk⟩; have n0 : Aside0 (Below w.heap.size w w6) := ⟨(by refine below_weaken ?_ hg1 hb; repeat (first | (with_reducible first | exact HB.out | apply pw_below_drewN | apply below_drew1) | exact HB.out))⟩; have n1 : Aside0 (Kd.R (Kd.int .i64) 3 w6 w.heap.size (fun k => k ≠ g1) (.slice (some ⟨g2, 0, none⟩) ys.length cap2) ys) := ⟨(by refine Kd.R_keep ?_ hk (fun _ h => h); (with_reducible repeat (first | apply Kd.R_drewN | apply Kd.R_drew)); exact HH.out)⟩; have n2 : Aside0 (w6.heap[gb]? = some (.cells #[.int .i64 x.f0, .int .i64 x.f1, .int .i64 x.f2, .int .i64 x.f3] 94 (0, 0))) := ⟨(by refine KeepBut.blk hk ?_ HN.out.1 (by simp); repeat (with_reducible apply bk_drewN); exact BK.out)⟩; clear HL HH HB BK c0 c2 c3; have HL := Aside0.mk hR; have HH := n1; have HB := n0; have BK := n2; have c2 : w6.cell? ⟨gb, 2, none⟩ = some (.int .i64 x.f2) := (blk_cell BK.out 2).trans rfl; have c3 : w6.cell? ⟨gb, 3, none⟩ = some (.int .i64 x.f3) := (blk_cell BK.out 3).trans rfl; clear n0 n1 n2 hR hb hk))
                    go_roundw
                    case rel =>
                      refine ⟨j + 1, by first | rfl | rw [w64 (by omega) (by omega)], by omega, by omega, ⟨?_⟩, ⟨?_⟩, ⟨?_⟩⟩
                      · rw [HSA.out, if_neg (by have := HX1.out; first | exact this | omega), ← hxl]
                        (with_reducible repeat (first | apply Kd.R_drewN | apply Kd.R_drew))
                        exact HL.out
                      · rw [HSB.out, if_pos (by have := HX2.out; first | exact this | omega), ← hyl]
                        (with_reducible repeat (first | apply Kd.R_drewN | apply Kd.R_drew))
                        exact HH.out
                      · repeat (first | (with_reducible first | exact HB.out | apply pw_below_drewN | apply below_drew1) | exact HB.out)
                    case measure => first | (simp [intOf]; omega) | (rw [w64 (by omega) (by omega)]; simp [intOf]; omega)
                  · have HX2 := Aside0.mk hk2
                    go_wp2_with (first | (go_at_call 55; have HD0 := HD; refine (deal_seg g2 x.f0.toNat s.toNat _ cap2 w.heap.size (fun k => k ≠ g1) ys (wrap64 (x.f3 - T2)) _ ?sR hpos hend2 (Int.le_of_lt hk2) (wrap_le _)).mono ?_; (case sR => (with_reducible repeat (first | apply Kd.R_drewN | apply Kd.R_drew)); exact HH.out); rintro e w7 ⟨rfl, hR, hb, hk⟩; have n0 : Aside0 (Below w.heap.size w w7) := ⟨(by refine below_weaken ?_ hg2 hb; repeat (first | (with_reducible first | exact HB.out | apply pw_below_drewN | apply below_drew1) | exact HB.out))⟩; have n1 : Aside0 (Kd.R (Kd.int .i64) 3 w7 w.heap.size (fun k => k ≠ g2) (.slice (some ⟨g1, 0, none⟩) xs.length cap1) xs) := ⟨(by refine Kd.R_keep ?_ hk (fun _ h => h); (with_reducible repeat (first | apply Kd.R_drewN | apply Kd.R_drew)); exact HL.out)⟩; clear HD0 HL HH HB; have HL := n1; have HB := n0; have HH := Aside0.mk hR; clear n0 n1 hR hb hk) | (go_at_call 54; with_reducible refine calls_of_args HARG2.out.symm ?_; refine (chanceryref3_total.calls (s.toNat + 1) _ _ (seg ys x.f0.toNat s.toNat) T2 _ ?sR ?sC HT2.out).mono ?_; (case sR => refine seg_reads (cap := cap2) (base := w.heap.size) (ok := fun k => k ≠ g1) (xs := ys) ?_ hpos hend2; (with_reducible repeat (first | apply Kd.R_drewN | apply Kd.R_drew)); exact HH.out); (case sC => rw [seg_length hend2]; omega); rintro e w5 ⟨rfl, ⟨nd, rfl⟩⟩; have HD := Aside0.mk True.intro) | (go_at_call 55; refine (deal_seg g1 x.f0.toNat s.toNat _ cap1 w.heap.size (fun k => k ≠ g2) xs (wrap64 (x.f2 - T1)) _ ?sR hpos hend1 (Int.le_of_lt hk1) (wrap_le _)).mono ?_; (case sR => (with_reducible repeat (first | apply Kd.R_drewN | apply Kd.R_drew)); exact HL.out); rintro e w6 ⟨rfl, hR, hb, hk⟩; have n0 : Aside0 (Below w.heap.size w w6) := ⟨(by refine below_weaken ?_ hg1 hb; repeat (first | (with_reducible first | exact HB.out | apply pw_below_drewN | apply below_drew1) | exact HB.out))⟩; have n1 : Aside0 (Kd.R (Kd.int .i64) 3 w6 w.heap.size (fun k => k ≠ g1) (.slice (some ⟨g2, 0, none⟩) ys.length cap2) ys) := ⟨(by refine Kd.R_keep ?_ hk (fun _ h => h); (with_reducible repeat (first | apply Kd.R_drewN | apply Kd.R_drew)); exact HH.out)⟩; have n2 : Aside0 (w6.heap[gb]? = some (.cells #[.int .i64 x.f0, .int .i64 x.f1, .int .i64 x.f2, .int .i64 x.f3] 94 (0, 0))) := ⟨(by refine KeepBut.blk hk ?_ HN.out.1 (by simp); repeat (with_reducible apply bk_drewN); exact BK.out)⟩; clear HL HH HB BK c0 c2 c3; have HL := Aside0.mk hR; have HH := n1; have HB := n0; have BK := n2; have c2 : w6.cell? ⟨gb, 2, none⟩ = some (.int .i64 x.f2) := (blk_cell BK.out 2).trans rfl; have c3 : w6.cell? ⟨gb, 3, none⟩ = some (.int .i64 x.f3) := (blk_cell BK.out 3).trans rfl; clear n0 n1 n2 hR hb hk))
                    go_roundw
                    case rel =>
                      refine ⟨j + 1, by first | rfl | rw [w64 (by omega) (by omega)], by omega, by omega, ⟨?_⟩, ⟨?_⟩, ⟨?_⟩⟩
                      · rw [HSA.out, if_neg (by have := HX1.out; first | exact this | omega), ← hxl]
                        (with_reducible repeat (first | apply Kd.R_drewN | apply Kd.R_drew))
                        exact HL.out
                      · rw [HSB.out, if_neg (by have := HX2.out; first | exact this | omega), ← hyl]
                        (with_reducible repeat (first | apply Kd.R_drewN | apply Kd.R_drew))
                        exact HH.out
                      · repeat (first | (with_reducible first | exact HB.out | apply pw_below_drewN | apply below_drew1) | exact HB.out)
                    case measure => first | (simp [intOf]; omega) | (rw [w64 (by omega) (by omega)]; simp [intOf]; omega)
                · have hnb : numB x = x.f2 := if_neg hw
                  rw [hnb] at HSB
                  by_cases hk2 : 0 < wrap64 (x.f2 - T2)
                  · have HX2 := Aside0.mk hk2
                    go_wp2_with (first | (go_at_call 55; have HD0 := HD; refine (deal_seg g2 x.f0.toNat s.toNat _ cap2 w.heap.size (fun k => k ≠ g1) ys (wrap64 (x.f2 - T2)) _ ?sR hpos hend2 (Int.le_of_lt hk2) (wrap_le _)).mono ?_; (case sR => (with_reducible repeat (first | apply Kd.R_drewN | apply Kd.R_drew)); exact HH.out); rintro e w7 ⟨rfl, hR, hb, hk⟩; have n0 : Aside0 (Below w.heap.size w w7) := ⟨(by refine below_weaken ?_ hg2 hb; repeat (first | (with_reducible first | exact HB.out | apply pw_below_drewN | apply below_drew1) | exact HB.out))⟩; have n1 : Aside0 (Kd.R (Kd.int .i64) 3 w7 w.heap.size (fun k => k ≠ g2) (.slice (some ⟨g1, 0, none⟩) xs.length cap1) xs) := ⟨(by refine Kd.R_keep ?_ hk (fun _ h => h); (with_reducible repeat (first | apply Kd.R_drewN | apply Kd.R_drew)); exact HL.out)⟩; clear HD0 HL HH HB; have HL := n1; have HB := n0; have HH := Aside0.mk hR; clear n0 n1 hR hb hk) | (go_at_call 54; with_reducible refine calls_of_args HARG2.out.symm ?_; refine (chanceryref3_total.calls (s.toNat + 1) _ _ (seg ys x.f0.toNat s.toNat) T2 _ ?sR ?sC HT2.out).mono ?_; (case sR => refine seg_reads (cap := cap2) (base := w.heap.size) (ok := fun k => k ≠ g1) (xs := ys) ?_ hpos hend2; (with_reducible repeat (first | apply Kd.R_drewN | apply Kd.R_drew)); exact HH.out); (case sC => rw [seg_length hend2]; omega); rintro e w5 ⟨rfl, ⟨nd, rfl⟩⟩; have HD := Aside0.mk True.intro) | (go_at_call 55; refine (deal_seg g1 x.f0.toNat s.toNat _ cap1 w.heap.size (fun k => k ≠ g2) xs (wrap64 (x.f2 - T1)) _ ?sR hpos hend1 (Int.le_of_lt hk1) (wrap_le _)).mono ?_; (case sR => (with_reducible repeat (first | apply Kd.R_drewN | apply Kd.R_drew)); exact HL.out); rintro e w6 ⟨rfl, hR, hb, hk⟩; have n0 : Aside0 (Below w.heap.size w w6) := ⟨(by refine below_weaken ?_ hg1 hb; repeat (first | (with_reducible first | exact HB.out | apply pw_below_drewN | apply below_drew1) | exact HB.out))⟩; have n1 : Aside0 (Kd.R (Kd.int .i64) 3 w6 w.heap.size (fun k => k ≠ g1) (.slice (some ⟨g2, 0, none⟩) ys.length cap2) ys) := ⟨(by refine Kd.R_keep ?_ hk (fun _ h => h); (with_reducible repeat (first | apply Kd.R_drewN | apply Kd.R_drew)); exact HH.out)⟩; have n2 : Aside0 (w6.heap[gb]? = some (.cells #[.int .i64 x.f0, .int .i64 x.f1, .int .i64 x.f2, .int .i64 x.f3] 94 (0, 0))) := ⟨(by refine KeepBut.blk hk ?_ HN.out.1 (by simp); repeat (with_reducible apply bk_drewN); exact BK.out)⟩; clear HL HH HB BK c0 c2 c3; have HL := Aside0.mk hR; have HH := n1; have HB := n0; have BK := n2; have c2 : w6.cell? ⟨gb, 2, none⟩ = some (.int .i64 x.f2) := (blk_cell BK.out 2).trans rfl; have c3 : w6.cell? ⟨gb, 3, none⟩ = some (.int .i64 x.f3) := (blk_cell BK.out 3).trans rfl; clear n0 n1 n2 hR hb hk))
                    go_roundw
                    case rel =>
                      refine ⟨j + 1, by first | rfl | rw [w64 (by omega) (by omega)], by omega, by omega, ⟨?_⟩, ⟨?_⟩, ⟨?_⟩⟩
                      · rw [HSA.out, if_neg (by have := HX1.out; first | exact this | omega), ← hxl]
                        (with_reducible repeat (first | apply Kd.R_drewN | apply Kd.R_drew))
                        exact HL.out
                      · rw [HSB.out, if_pos (by have := HX2.out; first | exact this | omega), ← hyl]
                        (with_reducible repeat (first | apply Kd.R_drewN | apply Kd.R_drew))
                        exact HH.out
                      · repeat (first | (with_reducible first | exact HB.out | apply pw_below_drewN | apply below_drew1) | exact HB.out)
                    case measure => first | (simp [intOf]; omega) | (rw [w64 (by omega) (by omega)]; simp [intOf]; omega)
                  · have HX2 := Aside0.mk hk2
                    go_wp2_with (first | (go_at_call 55; have HD0 := HD; refine (deal_seg g2 x.f0.toNat s.toNat _ cap2 w.heap.size (fun k => k ≠ g1) ys (wrap64 (x.f2 - T2)) _ ?sR hpos hend2 (Int.le_of_lt hk2) (wrap_le _)).mono ?_; (case sR => (with_reducible repeat (first | apply Kd.R_drewN | apply Kd.R_drew)); exact HH.out); rintro e w7 ⟨rfl, hR, hb, hk⟩; have n0 : Aside0 (Below w.heap.size w w7) := ⟨(by refine below_weaken ?_ hg2 hb; repeat (first | (with_reducible first | exact HB.out | apply pw_below_drewN | apply below_drew1) | exact HB.out))⟩; have n1 : Aside0 (Kd.R (Kd.int .i64) 3 w7 w.heap.size (fun k => k ≠ g2) (.slice (some ⟨g1, 0, none⟩) xs.length cap1) xs) := ⟨(by refine Kd.R_keep ?_ hk (fun _ h => h); (with_reducible repeat (first | apply Kd.R_drewN | apply Kd.R_drew)); exact HL.out)⟩; clear HD0 HL HH HB; have HL := n1; have HB := n0; have HH := Aside0.mk hR; clear n0 n1 hR hb hk) | (go_at_call 54; with_reducible refine calls_of_args HARG2.out.symm ?_; refine (chanceryref3_total.calls (s.toNat + 1) _ _ (seg ys x.f0.toNat s.toNat) T2 _ ?sR ?sC HT2.out).mono ?_; (case sR => refine seg_reads (cap := cap2) (base := w.heap.size) (ok := fun k => k ≠ g1) (xs := ys) ?_ hpos hend2; (with_reducible repeat (first | apply Kd.R_drewN | apply Kd.R_drew)); exact HH.out); (case sC => rw [seg_length hend2]; omega); rintro e w5 ⟨rfl, ⟨nd, rfl⟩⟩; have HD := Aside0.mk True.intro) | (go_at_call 55; refine (deal_seg g1 x.f0.toNat s.toNat _ cap1 w.heap.size (fun k => k ≠ g2) xs (wrap64 (x.f2 - T1)) _ ?sR hpos hend1 (Int.le_of_lt hk1) (wrap_le _)).mono ?_; (case sR => (with_reducible repeat (first | apply Kd.R_drewN | apply Kd.R_drew)); exact HL.out); rintro e w6 ⟨rfl, hR, hb, hk⟩; have n0 : Aside0 (Below w.heap.size w w6) := ⟨(by refine below_weaken ?_ hg1 hb; repeat (first | (with_reducible first | exact HB.out | apply pw_below_drewN | apply below_drew1) | exact HB.out))⟩; have n1 : Aside0 (Kd.R (Kd.int .i64) 3 w6 w.heap.size (fun k => k ≠ g1) (.slice (some ⟨g2, 0, none⟩) ys.length cap2) ys) := ⟨(by refine Kd.R_keep ?_ hk (fun _ h => h); (with_reducible repeat (first | apply Kd.R_drewN | apply Kd.R_drew)); exact HH.out)⟩; have n2 : Aside0 (w6.heap[gb]? = some (.cells #[.int .i64 x.f0, .int .i64 x.f1, .int .i64 x.f2, .int .i64 x.f3] 94 (0, 0))) := ⟨(by refine KeepBut.blk hk ?_ HN.out.1 (by simp); repeat (with_reducible apply bk_drewN); exact BK.out)⟩; clear HL HH HB BK c0 c2 c3; have HL := Aside0.mk hR; have HH := n1; have HB := n0; have BK := n2; have c2 : w6.cell? ⟨gb, 2, none⟩ = some (.int .i64 x.f2) := (blk_cell BK.out 2).trans rfl; have c3 : w6.cell? ⟨gb, 3, none⟩ = some (.int .i64 x.f3) := (blk_cell BK.out 3).trans rfl; clear n0 n1 n2 hR hb hk))
                    go_roundw
                    case rel =>
                      refine ⟨j + 1, by first | rfl | rw [w64 (by omega) (by omega)], by omega, by omega, ⟨?_⟩, ⟨?_⟩, ⟨?_⟩⟩
                      · rw [HSA.out, if_neg (by have := HX1.out; first | exact this | omega), ← hxl]
                        (with_reducible repeat (first | apply Kd.R_drewN | apply Kd.R_drew))
                        exact HL.out
                      · rw [HSB.out, if_neg (by have := HX2.out; first | exact this | omega), ← hyl]
                        (with_reducible repeat (first | apply Kd.R_drewN | apply Kd.R_drew))
                        exact HH.out
                      · repeat (first | (with_reducible first | exact HB.out | apply pw_below_drewN | apply below_drew1) | exact HB.out)
                    case measure => first | (simp [intOf]; omega) | (rw [w64 (by omega) (by omega)]; simp [intOf]; omega)
            · have hspb : (x.f1 != s) = true := bne_iff_ne.2 hsp
              have hspc : (x.f1 == s) = false := beq_eq_false_iff_ne.2 hsp
              have HSP := Aside0.mk hsp
              clear hsp
              go_wp2
              go_roundw
              case rel =>
                refine ⟨j + 1, by first | rfl | rw [w64 (by omega) (by omega)], by omega, by omega, ⟨?_⟩, ⟨?_⟩, ⟨?_⟩⟩
                · rw [HST.out, stepN, if_neg HSP.out]
                  with_reducible repeat (first | apply Kd.R_alloc | apply Kd.R_drewN | apply Kd.R_drew)
                  exact HL.out
                · rw [HSU.out, stepN, if_neg HSP.out]
                  with_reducible repeat (first | apply Kd.R_alloc | apply Kd.R_drewN | apply Kd.R_drew)
                  exact HH.out
                · repeat (first | (with_reducible first | exact HB.out | apply below_alloc | apply pw_below_drewN | apply below_drew1) | exact HB.out)
              case measure => first | (simp [intOf]; omega) | (rw [w64 (by omega) (by omega)]; simp [intOf]; omega)
          · have hje : j.toNat = l.length := by omega
            rw [hje] at HL HH
            go_wp2
            go_roundw
            case rel =>
              refine ⟨s + 1, by first | rfl | rw [w64 (by omega) (by omega)], by omega, by omega, ⟨?_⟩, ⟨?_⟩, HB⟩
              · rw [show (s + 1 - 1).toNat = (s - 1).toNat + 1 by omega, rowsN, show (((s - 1).toNat : Nat) : Int) + 1 = s by omega]
                exact HL.out
              · rw [show (s + 1 - 1).toNat = (s - 1).toNat + 1 by omega, rowsN, show (((s - 1).toNat : Nat) : Int) + 1 = s by omega]
                exact HH.out
            case measure => first | (simp [intOf]; omega) | (rw [w64 (by omega) (by omega)]; simp [intOf]; omega)
      · have hse : (s - 1).toNat = cols.toNat := by omega
        rw [hse] at HL HH
        go_wp2
        obtain ⟨hgg, hg1, hg2⟩ := HGG.out
        go_loopw [82] (fun v82 w' => ∃ i : Int, v82 = .int .i64 i ∧ 0 ≤ i ∧ i ≤ cols ∧ Aside0 (Kd.R (Kd.int .i64) 3 w' w.heap.size (fun k => k ≠ g1) (.slice (some ⟨g2, 0, none⟩) cols.toNat cap2) (mxs (rowsN numB l cols.toNat cols.toNat) (leastF l cols) i.toNat)) ∧ Aside0 (Kd.R (Kd.int .i64) 3 w' w.heap.size (fun k => k ≠ g2) (.slice (some ⟨g1, 0, none⟩) cols.toNat cap1) (leastF l cols)) ∧ Aside0 (Below w.heap.size w w')) (fun v82 _ => cols.toNat - (intOf v82).toNat)
        case atStart => exact ⟨0, rfl, by omega, by omega, HH, HL, HB⟩
        case round =>
          clear HH HL HB
          obtain ⟨i, rfl, hi0, hi1, HM, HL, HB⟩ := hrel
          have hxl := (mxs_length (rowsN numB l cols.toNat cols.toNat) (leastF l cols) i.toNat).trans (rowsN_length numB l cols.toNat cols.toNat)
          by_cases hlt : i < cols
          · have hlt2 : i < (cols.toNat : Int) := by omega
            obtain ⟨hx0, hf0⟩ := Kd.R_celln 0 HM.out i hi0 hlt2
            obtain ⟨hy0, _⟩ := Kd.R_celln 0 HL.out i hi0 hlt2
            have hmx : mxs (rowsN numB l cols.toNat cols.toNat) (leastF l cols) (i + 1).toNat = (mxs (rowsN numB l cols.toNat cols.toNat) (leastF l cols) i.toNat).set i.toNat (if rd (mxs (rowsN numB l cols.toNat cols.toNat) (leastF l cols) i.toNat) i < rd (leastF l cols) i then rd (leastF l cols) i else rd (mxs (rowsN numB l cols.toNat cols.toNat) (leastF l cols) i.toNat) i) := by
              rw [show (i + 1).toNat = i.toNat + 1 by omega, mxs, show ((i.toNat : Nat) : Int) = i by omega]
            have HX := Aside0.mk hmx
            clear hmx
            generalize mxs (rowsN numB l cols.toNat cols.toNat) (leastF l cols) i.toNat = xs at HX HM hx0 hxl
            have HSS := Aside0.mk (set_same (xs := xs) hi0 (by omega))
            obtain ⟨x, hx⟩ : ∃ x, x = rd xs i := ⟨_, rfl⟩
            obtain ⟨y, hy⟩ : ∃ y, y = rd (leastF l cols) i := ⟨_, rfl⟩
            rw [show rdOf 0 xs i = x from hx.symm] at hx0
            rw [show rdOf 0 (leastF l cols) i = y from hy.symm] at hy0
            rw [← hx, ← hy] at HX
            rw [← hx] at HSS
            clear hx hy
            by_cases hxy : x < y
            · have HXY := Aside0.mk hxy
              go_wp2
              try (go_region; try go_wp2)
              go_roundw
              case rel =>
                first | refine ⟨i + 1, ?e1, by omega, by omega, ⟨?a1⟩, ⟨?b1⟩, ⟨?c1⟩⟩ | (trace_state; fail)
                case e1 => first | rfl | rw [w64 (by omega) (by omega)]
                case a1 => rw [HX.out, if_pos HXY.out]; first | exact (Kd.R_putg HM.out i y).1 | exact Kd.R_drew (Kd.R_putg HM.out i y).1 | exact (Kd.R_putg (Kd.R_drew HM.out) i y).1
                case b1 => first | exact Kd.R_far HL.out (fun _ hk => hk) _ | exact Kd.R_drew (Kd.R_far HL.out (fun _ hk => hk) _)
                case c1 => first | exact below_set HB.out hg2 | exact below_drew1 (below_set HB.out hg2)
              case measure => first | (simp [intOf]; omega) | (rw [w64 (by omega) (by omega)]; simp [intOf]; omega)
            · have HXY := Aside0.mk hxy
              go_wp2
              try (go_region; try go_wp2)
              go_roundw
              case rel =>
                first | refine ⟨i + 1, ?e1, by omega, by omega, ⟨?a1⟩, ⟨?b1⟩, ⟨?c1⟩⟩ | (trace_state; fail)
                case e1 => first | rfl | rw [w64 (by omega) (by omega)]
                case a1 => rw [HX.out, if_neg (by have := HXY.out; first | exact this | omega), HSS.out]; first | exact HM.out | exact Kd.R_drew HM.out
                case b1 => first | exact HL.out | exact Kd.R_drew HL.out
                case c1 => first | exact HB.out | exact below_drew1 HB.out
              case measure => first | (simp [intOf]; omega) | (rw [w64 (by omega) (by omega)]; simp [intOf]; omega)
          · have hie : i.toNat = cols.toNat := by omega
            rw [hie] at HM
            go_wp2
            first | go_ret2 | refine bodyPost_ret (v := .tuple #[.slice (some ⟨g1, 0, none⟩) cols.toNat cap1, .slice (some ⟨g2, 0, none⟩) cols.toNat cap2]) (by simp [results, Try.results41, go_sem]) rfl ?_
            exact ⟨_, _, rfl, Kd.R_mono HL.out (fun k hk e => hk (Option.some.inj e)), Kd.R_mono HM.out (fun k hk e => hk (Option.some.inj e)), HB.out⟩
def chanceryref3_Columns.f (k : Nat) (cols : Int) (l : List S94) : Option (List Int × List Int) := if fits cols l then some (leastF l cols, mostF l cols) else none
theorem chanceryref3_Columns.mono (a0 : Int) (a1 : List S94) (k : Nat) : LeO (chanceryref3_Columns.f k a0 a1) (chanceryref3_Columns.f (k + 1) a0 a1) := LeO.refl _
theorem chanceryref3_Columns.calls (k : Nat) (a0 : Int) (A1 : Option Addr) (c1 : Nat) (l1 : List S94) (r1 r2 : List Int) (w : World) (hr1 : Kd.C k94 w A1 l1.length l1) (hc1 : l1.length ≤ c1) (h : chanceryref3_Columns.f k a0 l1 = some (r1, r2)) :
    Calls Try.prog 41 #[.int .i64 a0, .slice A1 l1.length c1] w fun e w' => ∃ v0_ v1_ : Value, e = .returned (.tuple #[v0_, v1_]) ∧ Kd.R (Kd.int .i64) 3 w' w.heap.size (fun k_ => some k_ ≠ v1_.ownBlock) v0_ r1 ∧ Kd.R (Kd.int .i64) 3 w' w.heap.size (fun k_ => some k_ ≠ v0_.ownBlock) v1_ r2 ∧ Below w.heap.size w w' := by
  unfold chanceryref3_Columns.f at h
  by_cases hf : fits a0 l1
  · rw [if_pos hf] at h
    injection h with h
    injection h with h1 h2
    subst h1 h2
    exact columns_ok a0 A1 c1 l1 w hr1 hc1 hf
  · rw [if_neg hf] at h
    exact absurd h (by simp)
end Go.Proofs.Ytihmbddneapooaa.HandBL
