-- WRITTEN BY wip/print2.py, a program of this session, over contracts of this session's own; no print of print.sh
import Derived.Test.YtemginkjkmmimaaQCBx0
import Derived.Test.YtemginkjkmmimaaQCBx3
namespace Go.Proofs.Ytemginkjkmmimaa.QCB
open Go.RowKit Go.Proofs.Ytemginkjkmmimaa.Cells Go.Proofs.YtemginkjkmmimaaW.PrintWords Go.Proofs.YtemginkjkmmimaaW.PrintLast Go.Proofs.YtemginkjkmmimaaW.PrintMore
attribute [local go_sem] max2_int min2_int max_two min_two max_three min_three max_four min_four   -- for this text's walks alone
set_option linter.unusedVariables false
set_option linter.unusedSimpArgs false

/-! ### chancerylaw3_chartError: function 8 -/
mutual
def chancerylaw3_chartError.j2 : Nat → Int → List ByteArray → List (List Int) → Option (Int)
 | 0, _, _, _ => none
 | k + 1, x183000, x183001, x183002 => chancerylaw3_chartError.l0 k x183002 (x183002.length : Int) 0 x183000 x183001 x183002
def chancerylaw3_chartError.l0 : Nat → List (List Int) → Int → Int → Int → List ByteArray → List (List Int) → Option (Int)
 | 0, _, _, _, _, _, _ => none
 | k + 1, x46, x47, x48, x183000, x183001, x183002 => if x48 < x47 then (if 0 ≤ x48 then (if x48 < (x46.length : Int) then (if ((rd_L1 x46 x48).length : Int) = (x183001.length : Int) then (chancerylaw3_chartError.l1 k x46 x47 x48 (rd_L1 x46 x48) ((rd_L1 x46 x48).length : Int) 0 x183000 x183001 x183002) else (some 14)) else (none)) else (none)) else (some 0)
def chancerylaw3_chartError.l1 : Nat → List (List Int) → Int → Int → List Int → Int → Int → Int → List ByteArray → List (List Int) → Option (Int)
 | 0, _, _, _, _, _, _, _, _, _ => none
 | k + 1, x46, x47, x48, x58, x59, x60, x183000, x183001, x183002 => if x60 < x59 then (if 0 ≤ x60 then (if x60 < (x58.length : Int) then (if x183000 = 3 then (chancerylaw3_chartError.j5 k (rd x58 x60) (-83333333333) x46 x47 x48 x58 x59 x60 true x183000 x183001 x183002) else (chancerylaw3_chartError.j5 k (rd x58 x60) (-83333333333) x46 x47 x48 x58 x59 x60 (x183000 == 1) x183000 x183001 x183002)) else (none)) else (none)) else (chancerylaw3_chartError.l0 k x46 x47 (wrap64 (x48 + 1)) x183000 x183001 x183002)
def chancerylaw3_chartError.j5 : Nat → Int → Int → List (List Int) → Int → Int → List Int → Int → Int → Bool → Int → List ByteArray → List (List Int) → Option (Int)
 | 0, _, _, _, _, _, _, _, _, _, _, _, _ => none
 | k + 1, x6, x7, x46, x47, x48, x58, x59, x60, x71, x183000, x183001, x183002 => if x71 = true then ((chanceryref3_In.f x6 0 83333333333).bind fun t186 => (if t186 = true then (chancerylaw3_chartError.l1 k x46 x47 x48 x58 x59 (wrap64 (x60 + 1)) x183000 x183001 x183002) else (some 2))) else ((chanceryref3_In.f x6 x7 83333333333).bind fun t187 => (if t187 = true then (chancerylaw3_chartError.l1 k x46 x47 x48 x58 x59 (wrap64 (x60 + 1)) x183000 x183001 x183002) else (some 2)))
def chancerylaw3_chartError.j0 : Nat → Bool → Int → List ByteArray → List (List Int) → Option (Int)
 | 0, _, _, _, _ => none
 | k + 1, x13, x183000, x183001, x183002 => if x13 = true then (some 7) else (if (x183001.length : Int) > 200 then (chancerylaw3_chartError.j1 k true x183000 x183001 x183002) else (chancerylaw3_chartError.j1 k (decide ((x183002.length : Int) > 12)) x183000 x183001 x183002))
def chancerylaw3_chartError.j1 : Nat → Bool → Int → List ByteArray → List (List Int) → Option (Int)
 | 0, _, _, _, _ => none
 | k + 1, x24, x183000, x183001, x183002 => if x24 = true then (some 3) else (if x183000 = 3 then (if (x183002.length : Int) > 1 then (some 4) else (chancerylaw3_chartError.j2 k x183000 x183001 x183002)) else (chancerylaw3_chartError.j2 k x183000 x183001 x183002))
end
def chancerylaw3_chartError.f (k : Nat) (a0_0 : Int) (l0_1 : List ByteArray) (l0_2 : List (List Int)) : Option (Int) := (chanceryref3_In.f a0_0 0 3).bind fun t183 => (if t183 = true then (if (l0_1.length : Int) = 0 then (chancerylaw3_chartError.j0 k true a0_0 l0_1 l0_2) else (chancerylaw3_chartError.j0 k ((l0_2.length : Int) == 0) a0_0 l0_1 l0_2)) else (some 8))
theorem chancerylaw3_chartError.mono_l : ∀ k, (∀ y0 y1 y2, LeO (chancerylaw3_chartError.j2 k y0 y1 y2) (chancerylaw3_chartError.j2 (k + 1) y0 y1 y2)) ∧ (∀ y0 y1 y2 y3 y4 y5, LeO (chancerylaw3_chartError.l0 k y0 y1 y2 y3 y4 y5) (chancerylaw3_chartError.l0 (k + 1) y0 y1 y2 y3 y4 y5)) ∧ (∀ y0 y1 y2 y3 y4 y5 y6 y7 y8, LeO (chancerylaw3_chartError.l1 k y0 y1 y2 y3 y4 y5 y6 y7 y8) (chancerylaw3_chartError.l1 (k + 1) y0 y1 y2 y3 y4 y5 y6 y7 y8)) ∧ (∀ y0 y1 y2 y3 y4 y5 y6 y7 y8 y9 y10 y11, LeO (chancerylaw3_chartError.j5 k y0 y1 y2 y3 y4 y5 y6 y7 y8 y9 y10 y11) (chancerylaw3_chartError.j5 (k + 1) y0 y1 y2 y3 y4 y5 y6 y7 y8 y9 y10 y11)) ∧ (∀ y0 y1 y2 y3, LeO (chancerylaw3_chartError.j0 k y0 y1 y2 y3) (chancerylaw3_chartError.j0 (k + 1) y0 y1 y2 y3)) ∧ (∀ y0 y1 y2 y3, LeO (chancerylaw3_chartError.j1 k y0 y1 y2 y3) (chancerylaw3_chartError.j1 (k + 1) y0 y1 y2 y3))
 | 0 => ⟨fun _ _ _ r h => by simp [chancerylaw3_chartError.j2] at h, fun _ _ _ _ _ _ r h => by simp [chancerylaw3_chartError.l0] at h, fun _ _ _ _ _ _ _ _ _ r h => by simp [chancerylaw3_chartError.l1] at h, fun _ _ _ _ _ _ _ _ _ _ _ _ r h => by simp [chancerylaw3_chartError.j5] at h, fun _ _ _ _ r h => by simp [chancerylaw3_chartError.j0] at h, fun _ _ _ _ r h => by simp [chancerylaw3_chartError.j1] at h⟩
 | k + 1 => by
  obtain ⟨ih0, ih1, ih2, ih3, ih4, ih5⟩ := chancerylaw3_chartError.mono_l k
  refine ⟨?_, ?_, ?_, ?_, ?_, ?_⟩
  ·intro y0 y1 y2
   unfold chancerylaw3_chartError.j2
   repeat' first
   | (with_reducible exact ih0 _ _ _)
   | (with_reducible exact ih1 _ _ _ _ _ _)
   | (with_reducible exact ih2 _ _ _ _ _ _ _ _ _)
   | (with_reducible exact ih3 _ _ _ _ _ _ _ _ _ _ _ _)
   | (with_reducible exact ih4 _ _ _ _)
   | (with_reducible exact ih5 _ _ _ _)
   | (with_reducible exact LeO.refl _)
   | (with_reducible exact LeO.none _)
   | (with_reducible refine LeO.ite ?_ ?_)
   | (with_reducible refine LeO.bind ?_ (fun _ => ?_))
   | exact ih0 _ _ _
   | exact ih1 _ _ _ _ _ _
   | exact ih2 _ _ _ _ _ _ _ _ _
   | exact ih3 _ _ _ _ _ _ _ _ _ _ _ _
   | exact ih4 _ _ _ _
   | exact ih5 _ _ _ _
   | exact LeO.none _
   | refine LeO.ite ?_ ?_
   | refine LeO.bind ?_ (fun _ => ?_)
  ·intro y0 y1 y2 y3 y4 y5
   unfold chancerylaw3_chartError.l0
   repeat' first
   | (with_reducible exact ih0 _ _ _)
   | (with_reducible exact ih1 _ _ _ _ _ _)
   | (with_reducible exact ih2 _ _ _ _ _ _ _ _ _)
   | (with_reducible exact ih3 _ _ _ _ _ _ _ _ _ _ _ _)
   | (with_reducible exact ih4 _ _ _ _)
   | (with_reducible exact ih5 _ _ _ _)
   | (with_reducible exact LeO.refl _)
   | (with_reducible exact LeO.none _)
   | (with_reducible refine LeO.ite ?_ ?_)
   | (with_reducible refine LeO.bind ?_ (fun _ => ?_))
   | exact ih0 _ _ _
   | exact ih1 _ _ _ _ _ _
   | exact ih2 _ _ _ _ _ _ _ _ _
   | exact ih3 _ _ _ _ _ _ _ _ _ _ _ _
   | exact ih4 _ _ _ _
   | exact ih5 _ _ _ _
   | exact LeO.none _
   | refine LeO.ite ?_ ?_
   | refine LeO.bind ?_ (fun _ => ?_)
  ·intro y0 y1 y2 y3 y4 y5 y6 y7 y8
   unfold chancerylaw3_chartError.l1
   repeat' first
   | (with_reducible exact ih0 _ _ _)
   | (with_reducible exact ih1 _ _ _ _ _ _)
   | (with_reducible exact ih2 _ _ _ _ _ _ _ _ _)
   | (with_reducible exact ih3 _ _ _ _ _ _ _ _ _ _ _ _)
   | (with_reducible exact ih4 _ _ _ _)
   | (with_reducible exact ih5 _ _ _ _)
   | (with_reducible exact LeO.refl _)
   | (with_reducible exact LeO.none _)
   | (with_reducible refine LeO.ite ?_ ?_)
   | (with_reducible refine LeO.bind ?_ (fun _ => ?_))
   | exact ih0 _ _ _
   | exact ih1 _ _ _ _ _ _
   | exact ih2 _ _ _ _ _ _ _ _ _
   | exact ih3 _ _ _ _ _ _ _ _ _ _ _ _
   | exact ih4 _ _ _ _
   | exact ih5 _ _ _ _
   | exact LeO.none _
   | refine LeO.ite ?_ ?_
   | refine LeO.bind ?_ (fun _ => ?_)
  ·intro y0 y1 y2 y3 y4 y5 y6 y7 y8 y9 y10 y11
   unfold chancerylaw3_chartError.j5
   repeat' first
   | (with_reducible exact ih0 _ _ _)
   | (with_reducible exact ih1 _ _ _ _ _ _)
   | (with_reducible exact ih2 _ _ _ _ _ _ _ _ _)
   | (with_reducible exact ih3 _ _ _ _ _ _ _ _ _ _ _ _)
   | (with_reducible exact ih4 _ _ _ _)
   | (with_reducible exact ih5 _ _ _ _)
   | (with_reducible exact LeO.refl _)
   | (with_reducible exact LeO.none _)
   | (with_reducible refine LeO.ite ?_ ?_)
   | (with_reducible refine LeO.bind ?_ (fun _ => ?_))
   | exact ih0 _ _ _
   | exact ih1 _ _ _ _ _ _
   | exact ih2 _ _ _ _ _ _ _ _ _
   | exact ih3 _ _ _ _ _ _ _ _ _ _ _ _
   | exact ih4 _ _ _ _
   | exact ih5 _ _ _ _
   | exact LeO.none _
   | refine LeO.ite ?_ ?_
   | refine LeO.bind ?_ (fun _ => ?_)
  ·intro y0 y1 y2 y3
   unfold chancerylaw3_chartError.j0
   repeat' first
   | (with_reducible exact ih0 _ _ _)
   | (with_reducible exact ih1 _ _ _ _ _ _)
   | (with_reducible exact ih2 _ _ _ _ _ _ _ _ _)
   | (with_reducible exact ih3 _ _ _ _ _ _ _ _ _ _ _ _)
   | (with_reducible exact ih4 _ _ _ _)
   | (with_reducible exact ih5 _ _ _ _)
   | (with_reducible exact LeO.refl _)
   | (with_reducible exact LeO.none _)
   | (with_reducible refine LeO.ite ?_ ?_)
   | (with_reducible refine LeO.bind ?_ (fun _ => ?_))
   | exact ih0 _ _ _
   | exact ih1 _ _ _ _ _ _
   | exact ih2 _ _ _ _ _ _ _ _ _
   | exact ih3 _ _ _ _ _ _ _ _ _ _ _ _
   | exact ih4 _ _ _ _
   | exact ih5 _ _ _ _
   | exact LeO.none _
   | refine LeO.ite ?_ ?_
   | refine LeO.bind ?_ (fun _ => ?_)
  ·intro y0 y1 y2 y3
   unfold chancerylaw3_chartError.j1
   repeat' first
   | (with_reducible exact ih0 _ _ _)
   | (with_reducible exact ih1 _ _ _ _ _ _)
   | (with_reducible exact ih2 _ _ _ _ _ _ _ _ _)
   | (with_reducible exact ih3 _ _ _ _ _ _ _ _ _ _ _ _)
   | (with_reducible exact ih4 _ _ _ _)
   | (with_reducible exact ih5 _ _ _ _)
   | (with_reducible exact LeO.refl _)
   | (with_reducible exact LeO.none _)
   | (with_reducible refine LeO.ite ?_ ?_)
   | (with_reducible refine LeO.bind ?_ (fun _ => ?_))
   | exact ih0 _ _ _
   | exact ih1 _ _ _ _ _ _
   | exact ih2 _ _ _ _ _ _ _ _ _
   | exact ih3 _ _ _ _ _ _ _ _ _ _ _ _
   | exact ih4 _ _ _ _
   | exact ih5 _ _ _ _
   | exact LeO.none _
   | refine LeO.ite ?_ ?_
   | refine LeO.bind ?_ (fun _ => ?_)
theorem chancerylaw3_chartError.mono : ∀ a0 a1 a2 k, LeO (chancerylaw3_chartError.f k a0 a1 a2) (chancerylaw3_chartError.f (k + 1) a0 a1 a2) := by
 intro a0 a1 a2 k
 obtain ⟨ih0, ih1, ih2, ih3, ih4, ih5⟩ := chancerylaw3_chartError.mono_l k
 unfold chancerylaw3_chartError.f
 repeat' first
   | (with_reducible exact ih0 _ _ _)
   | (with_reducible exact ih1 _ _ _ _ _ _)
   | (with_reducible exact ih2 _ _ _ _ _ _ _ _ _)
   | (with_reducible exact ih3 _ _ _ _ _ _ _ _ _ _ _ _)
   | (with_reducible exact ih4 _ _ _ _)
   | (with_reducible exact ih5 _ _ _ _)
   | (with_reducible exact LeO.refl _)
   | (with_reducible exact LeO.none _)
   | (with_reducible refine LeO.ite ?_ ?_)
   | (with_reducible refine LeO.bind ?_ (fun _ => ?_))
   | exact ih0 _ _ _
   | exact ih1 _ _ _ _ _ _
   | exact ih2 _ _ _ _ _ _ _ _ _
   | exact ih3 _ _ _ _ _ _ _ _ _ _ _ _
   | exact ih4 _ _ _ _
   | exact ih5 _ _ _ _
   | exact LeO.none _
   | refine LeO.ite ?_ ?_
   | refine LeO.bind ?_ (fun _ => ?_)
set_option maxHeartbeats 8000000 in
set_option maxRecDepth 100000 in
theorem chancerylaw3_chartError.calls (k : Nat) (a0_0 : Int) (A0_1 : Option Addr) (c0_1 : Nat) (l0_1 : List ByteArray) (A0_2 : Option Addr) (c0_2 : Nat) (l0_2 : List (List Int)) (r : Int) (w : World) (hr0_1 : Kd.C Kd.string w A0_1 l0_1.length l0_1) (hc0_1 : l0_1.length ≤ c0_1) (hr0_2 : Kd.C (Kd.slice 3 (Kd.int .i64)) w A0_2 l0_2.length l0_2) (hc0_2 : l0_2.length ≤ c0_2) (h : chancerylaw3_chartError.f k a0_0 l0_1 l0_2 = some r) :
  Calls Try.prog 8 #[.agg #[.int .i64 a0_0, .slice A0_1 l0_1.length c0_1, .slice A0_2 l0_2.length c0_2]] w fun e w' => e = .returned (.int .i64 r) ∧ Below w.heap.size w w' := by
 have hu25 := Try.underlying25
 have HR0_1 := Aside0.mk hr0_1
 have HC0_1 := Aside0.mk hc0_1
 clear hr0_1 hc0_1
 have HR0_2 := Aside0.mk hr0_2
 have HC0_2 := Aside0.mk hc0_2
 clear hr0_2 hc0_2
 have HB := Aside0.mk (Below.refl w.heap.size w)
 have H : ((chanceryref3_In.f a0_0 0 3).bind fun t183 => (if t183 = true then (if (l0_1.length : Int) = 0 then (chancerylaw3_chartError.j0 k true a0_0 l0_1 l0_2) else (chancerylaw3_chartError.j0 k ((l0_2.length : Int) == 0) a0_0 l0_1 l0_2)) else (some 8))) = some r := h
 clear h
 have HC2 := Aside0.mk H
 clear H
 go_enter Try.func8, Try.ntmps8
 go_upto_block 0 with (first | ((with_reducible refine gate_dst (N := 1) rfl ?_); (try (refine gate_guard (by rfl) ?_; dsimp only)); refine box_event ?hg (N := 1) ?hd (cs := #[.int .i64 a0_0, .slice A0_1 l0_1.length c0_1, .slice A0_2 l0_2.length c0_2]) (t := 25) ?hr ?_; (case hd => rfl); (case hg => rfl); (case hr => first | (go_simp; done) | (go_simp; rfl)); intro gb182 hg w3 hbox hb; have n0_ := Aside0.mk (below_step (by repeat (first | (with_reducible first | exact HB.out | apply below_alloc | apply pw_below_drewN | apply below_drew1) | exact HB.out)) hb); have n1_ := Aside0.mk (hbox); have n2_ := Aside0.mk ((by rw [hg]; exact (below_size (by repeat (first | (with_reducible first | exact HB.out | apply below_alloc | apply pw_below_drewN | apply below_drew1) | exact HB.out))) : w.heap.size ≤ gb182)); have n3_ := Aside0.mk ((by rw [hg]; exact (below_size (by repeat (first | (with_reducible first | exact HB.out | apply below_alloc | apply pw_below_drewN | apply below_drew1) | exact HB.out))) : w.heap.size ≤ gb182)); clear HB; have HB := n0_; have BK182 := n1_; have GW182 := n2_; have GE182 := n3_; clear n0_ n1_ n2_ n3_; clear hb hbox hg))
 (try simp only [Act.put, List.setIfInBounds_toArray, List.set_cons_zero, List.set_cons_succ])
 go_cut [] (fun wc => ∃ (kq : Nat), Aside0 (chancerylaw3_chartError.j2 kq a0_0 l0_1 l0_2 = some r) ∧ Aside0 (kq ≤ k) ∧ Aside0 (wc.heap[gb182]? = some (.cells #[.int .i64 a0_0, (.slice A0_1 l0_1.length c0_1), (.slice A0_2 l0_2.length c0_2)] 25 (0, 0))) ∧ Aside0 (Below w.heap.size w wc))
 case first =>
  have H := HC2.out
  clear HC2
  replace H := Option.bind_eq_some_iff.mp H
  obtain ⟨t183, A40, H⟩ := H
  replace H : (if t183 = true then (if (l0_1.length : Int) = 0 then (chancerylaw3_chartError.j0 k true a0_0 l0_1 l0_2) else (chancerylaw3_chartError.j0 k ((l0_2.length : Int) == 0) a0_0 l0_1 l0_2)) else (some 8)) = some r := H
  have A4 := Aside0.mk A40
  clear A40
  by_cases c5 : t183 = true
  ·subst c5
   have H1 : (if (l0_1.length : Int) = 0 then (chancerylaw3_chartError.j0 k true a0_0 l0_1 l0_2) else (chancerylaw3_chartError.j0 k ((l0_2.length : Int) == 0) a0_0 l0_1 l0_2)) = some r := by rw [if_pos rfl] at H; exact H
   clear H
   have H := H1
   clear H1
   have HC6 := Aside0.mk H
   clear H
   have hcz7_0 : w3.cell? ⟨gb182, 0, none⟩ = some (.int .i64 a0_0) := (blk_cell BK182.out 0).trans rfl
   have hcz7_1 : w3.cell? ⟨gb182, 1, none⟩ = some (.slice A0_1 l0_1.length c0_1) := (blk_cell BK182.out 1).trans rfl
   have hcz7_2 : w3.cell? ⟨gb182, 2, none⟩ = some (.slice A0_2 l0_2.length c0_2) := (blk_cell BK182.out 2).trans rfl
   have hfz7_0 := blk_frozen BK182.out 0
   have hfz7_1 := blk_frozen BK182.out 1
   have hfz7_2 := blk_frozen BK182.out 2
   go_upto_region 3 with (first | ((with_reducible refine gate_callee (f := 12) rfl ?_); refine goesL_ (some 11) rfl rfl Try.func12 (by kernel_rfl) rfl #[.int .i64 a0_0, .int .i64 0, .int .i64 3] rfl (by (try simp only [List.map_toArray, List.map_cons, List.map_nil]); first | done | rfl) ?_; (with_reducible refine (chanceryref3_In.calls a0_0 0 3 true _ A4.out).mono ?_); rintro e w' ⟨rfl, ⟨nd, rfl⟩⟩; refine ⟨_, rfl, ?_⟩))
   (try simp only [Act.put, List.setIfInBounds_toArray, List.set_cons_zero, List.set_cons_succ])
   go_cut [13] (fun v13 wc => ∃ (kq : Nat) (x13_5 : Bool), v13 = .bool x13_5 ∧ Aside0 (chancerylaw3_chartError.j0 kq x13_5 a0_0 l0_1 l0_2 = some r) ∧ Aside0 (kq ≤ k) ∧ Aside0 (wc.heap[gb182]? = some (.cells #[.int .i64 a0_0, (.slice A0_1 l0_1.length c0_1), (.slice A0_2 l0_2.length c0_2)] 25 (0, 0))) ∧ Aside0 (Below w.heap.size w wc))
   case first =>
    have H := HC6.out
    clear HC6
    by_cases c8 : (l0_1.length : Int) = 0
    ·rw [if_pos c8] at H
     have c8b0 : ((l0_1.length : Int) == 0) = true := beq_iff_eq.mpr c8
     have c8b1 : ((l0_1.length : Int) != 0) = false := bne_eq_false_iff_eq.mpr c8
     clear c8
     (first | rw [c8b0] | (simp only [i64_w, i32_w]; rw [c8b0]) | skip)
     have H' := Aside0.mk H
     clear H
     have hcz9_0 : w3.cell? ⟨gb182, 0, none⟩ = some (.int .i64 a0_0) := (blk_cell BK182.out 0).trans rfl
     have hcz9_1 : w3.cell? ⟨gb182, 1, none⟩ = some (.slice A0_1 l0_1.length c0_1) := (blk_cell BK182.out 1).trans rfl
     have hcz9_2 : w3.cell? ⟨gb182, 2, none⟩ = some (.slice A0_2 l0_2.length c0_2) := (blk_cell BK182.out 2).trans rfl
     have hfz9_0 := blk_frozen BK182.out 0
     have hfz9_1 := blk_frozen BK182.out 1
     have hfz9_2 := blk_frozen BK182.out 2
     go_wp2
     go_meet
     case rel => exact ⟨_, (true), (by first | rfl | (simp; done) | (simp [*]; done)), H', ⟨by first | omega | exact Nat.le_refl _⟩, ⟨by (with_reducible repeat (first | refine blk_drewN ?_ _ | refine blk_drew ?_ | refine blk_alloc ?_ _)); exact BK182.out⟩, ⟨by repeat (first | (with_reducible first | exact HB.out | apply below_alloc | apply pw_below_drewN | apply below_drew1 | refine below_set ?_ GE182.out) | exact HB.out)⟩⟩
    ·rw [if_neg c8] at H
     have c8b0 : ((l0_1.length : Int) == 0) = false := beq_eq_false_iff_ne.mpr c8
     have c8b1 : ((l0_1.length : Int) != 0) = true := bne_iff_ne.mpr c8
     have c8b2 : ¬ (l0_1 = []) := fun h_ => c8 (by rw [h_]; rfl)
     (first | rw [c8b0] | (simp only [i64_w, i32_w]; rw [c8b0]) | skip)
     have H' := Aside0.mk H
     clear H
     have hcz10_0 : w3.cell? ⟨gb182, 0, none⟩ = some (.int .i64 a0_0) := (blk_cell BK182.out 0).trans rfl
     have hcz10_1 : w3.cell? ⟨gb182, 1, none⟩ = some (.slice A0_1 l0_1.length c0_1) := (blk_cell BK182.out 1).trans rfl
     have hcz10_2 : w3.cell? ⟨gb182, 2, none⟩ = some (.slice A0_2 l0_2.length c0_2) := (blk_cell BK182.out 2).trans rfl
     have hfz10_0 := blk_frozen BK182.out 0
     have hfz10_1 := blk_frozen BK182.out 1
     have hfz10_2 := blk_frozen BK182.out 2
     go_wp2
     go_meet
     case rel => exact ⟨_, (((l0_2.length : Int) == 0)), (by first | rfl | (simp; done) | (simp [*]; done)), H', ⟨by first | omega | exact Nat.le_refl _⟩, ⟨by (with_reducible repeat (first | refine blk_drewN ?_ _ | refine blk_drew ?_ | refine blk_alloc ?_ _)); exact BK182.out⟩, ⟨by repeat (first | (with_reducible first | exact HB.out | apply below_alloc | apply pw_below_drewN | apply below_drew1 | refine below_set ?_ GE182.out) | exact HB.out)⟩⟩
   case rest =>
    clear HC6; try clear c1; try clear p2; try clear c5; try clear c8; try clear c8b0; try clear c8b1; try clear c8b2; try clear hcz10_0; try clear hcz10_1; try clear hcz10_2; try clear hcz7_0; try clear hcz7_1; try clear hcz7_2; try clear hcz9_0; try clear hcz9_1; try clear hcz9_2; try clear hfz10_0; try clear hfz10_1; try clear hfz10_2; try clear hfz7_0; try clear hfz7_1; try clear hfz7_2; try clear hfz9_0; try clear hfz9_1; try clear hfz9_2
    obtain ⟨kq, x13_5, rfl, HA, HJ5, BK182, HB⟩ := hcut
    cases kq with
    | zero => exact absurd HA.out (by simp [chancerylaw3_chartError.j0])
    | succ kj5 =>
     have H := HA.out
     clear HA
     simp only [chancerylaw3_chartError.j0] at H
     by_cases c11 : x13_5 = true
     ·subst c11
      have H1 : (some 7) = some r := by rw [if_pos rfl] at H; exact H
      clear H
      have H := H1
      clear H1
      obtain rfl := Option.some.inj H
      go_wp2
      go_ret
      exact ⟨by first | rfl | (simp [errW_none, errW_some] <;> rfl) | (simp [*, errW_none, errW_some] <;> rfl), by repeat (first | (with_reducible first | exact HB.out | apply below_alloc | apply pw_below_drewN | apply below_drew1 | refine below_set ?_ GE182.out) | exact HB.out)⟩
     ·replace c11 := Bool.eq_false_iff.mpr c11
      subst c11
      have H1 : (if (l0_1.length : Int) > 200 then (chancerylaw3_chartError.j1 kj5 true a0_0 l0_1 l0_2) else (chancerylaw3_chartError.j1 kj5 (decide ((l0_2.length : Int) > 12)) a0_0 l0_1 l0_2)) = some r := by rw [if_neg (show ¬ (false = true) by decide)] at H; exact H
      clear H
      have H := H1
      clear H1
      have HC12 := Aside0.mk H
      clear H
      go_upto_region 5 with (fail)
      go_cut [24] (fun v24 wc => ∃ (kq : Nat) (x24_11 : Bool), v24 = .bool x24_11 ∧ Aside0 (chancerylaw3_chartError.j1 kq x24_11 a0_0 l0_1 l0_2 = some r) ∧ Aside0 (kq ≤ kj5) ∧ Aside0 (wc.heap[gb182]? = some (.cells #[.int .i64 a0_0, (.slice A0_1 l0_1.length c0_1), (.slice A0_2 l0_2.length c0_2)] 25 (0, 0))) ∧ Aside0 (Below w.heap.size w wc))
      case first =>
       have H := HC12.out
       clear HC12
       by_cases c13 : (l0_1.length : Int) > 200
       ·rw [if_pos c13] at H
        have c13b0 : decide (200 < (l0_1.length : Int)) = true := decide_eq_true c13
        have c13b1 : decide (200 < l0_1.length) = true := decide_eq_true (by omega)
        clear c13
        (first | rw [c13b0] | (simp only [i64_w, i32_w]; rw [c13b0]) | skip)
        have H' := Aside0.mk H
        clear H
        have hcz14_0 : wc.cell? ⟨gb182, 0, none⟩ = some (.int .i64 a0_0) := (blk_cell BK182.out 0).trans rfl
        have hcz14_1 : wc.cell? ⟨gb182, 1, none⟩ = some (.slice A0_1 l0_1.length c0_1) := (blk_cell BK182.out 1).trans rfl
        have hcz14_2 : wc.cell? ⟨gb182, 2, none⟩ = some (.slice A0_2 l0_2.length c0_2) := (blk_cell BK182.out 2).trans rfl
        have hfz14_0 := blk_frozen BK182.out 0
        have hfz14_1 := blk_frozen BK182.out 1
        have hfz14_2 := blk_frozen BK182.out 2
        go_wp2
        go_meet
        case rel => exact ⟨_, (true), (by first | rfl | (simp; done) | (simp [*]; done)), H', ⟨by have := HJ5.out; first | omega | exact Nat.le_refl _⟩, ⟨by (with_reducible repeat (first | refine blk_drewN ?_ _ | refine blk_drew ?_ | refine blk_alloc ?_ _)); exact BK182.out⟩, ⟨by repeat (first | (with_reducible first | exact HB.out | apply below_alloc | apply pw_below_drewN | apply below_drew1 | refine below_set ?_ GE182.out) | exact HB.out)⟩⟩
       ·rw [if_neg c13] at H
        have c13b0 : decide (200 < (l0_1.length : Int)) = false := decide_eq_false c13
        have c13b1 : decide (200 < l0_1.length) = false := decide_eq_false (by omega)
        clear c13
        (first | rw [c13b0] | (simp only [i64_w, i32_w]; rw [c13b0]) | skip)
        have H' := Aside0.mk H
        clear H
        have hcz15_0 : wc.cell? ⟨gb182, 0, none⟩ = some (.int .i64 a0_0) := (blk_cell BK182.out 0).trans rfl
        have hcz15_1 : wc.cell? ⟨gb182, 1, none⟩ = some (.slice A0_1 l0_1.length c0_1) := (blk_cell BK182.out 1).trans rfl
        have hcz15_2 : wc.cell? ⟨gb182, 2, none⟩ = some (.slice A0_2 l0_2.length c0_2) := (blk_cell BK182.out 2).trans rfl
        have hfz15_0 := blk_frozen BK182.out 0
        have hfz15_1 := blk_frozen BK182.out 1
        have hfz15_2 := blk_frozen BK182.out 2
        go_wp2
        go_meet
        case rel => exact ⟨_, (decide ((l0_2.length : Int) > 12)), (by first | rfl | (simp; done) | (simp [*]; done)), H', ⟨by have := HJ5.out; first | omega | exact Nat.le_refl _⟩, ⟨by (with_reducible repeat (first | refine blk_drewN ?_ _ | refine blk_drew ?_ | refine blk_alloc ?_ _)); exact BK182.out⟩, ⟨by repeat (first | (with_reducible first | exact HB.out | apply below_alloc | apply pw_below_drewN | apply below_drew1 | refine below_set ?_ GE182.out) | exact HB.out)⟩⟩
      case rest =>
       clear HC12; try clear c1; try clear p2; try clear c5; try clear c8; try clear c8b0; try clear c8b1; try clear c8b2; try clear c11; try clear c12; try clear c13; try clear c13b0; try clear c13b1; try clear hcz10_0; try clear hcz10_1; try clear hcz10_2; try clear hcz14_0; try clear hcz14_1; try clear hcz14_2; try clear hcz15_0; try clear hcz15_1; try clear hcz15_2; try clear hcz7_0; try clear hcz7_1; try clear hcz7_2; try clear hcz9_0; try clear hcz9_1; try clear hcz9_2; try clear hfz10_0; try clear hfz10_1; try clear hfz10_2; try clear hfz14_0; try clear hfz14_1; try clear hfz14_2; try clear hfz15_0; try clear hfz15_1; try clear hfz15_2; try clear hfz7_0; try clear hfz7_1; try clear hfz7_2; try clear hfz9_0; try clear hfz9_1; try clear hfz9_2
       obtain ⟨kq, x24_11, rfl, HA, HJ11, BK182, HB⟩ := hcut
       cases kq with
       | zero => exact absurd HA.out (by simp [chancerylaw3_chartError.j1])
       | succ kj11 =>
        have H := HA.out
        clear HA
        simp only [chancerylaw3_chartError.j1] at H
        by_cases c16 : x24_11 = true
        ·subst c16
         have H1 : (some 3) = some r := by rw [if_pos rfl] at H; exact H
         clear H
         have H := H1
         clear H1
         obtain rfl := Option.some.inj H
         go_wp2
         go_ret
         exact ⟨by first | rfl | (simp [errW_none, errW_some] <;> rfl) | (simp [*, errW_none, errW_some] <;> rfl), by repeat (first | (with_reducible first | exact HB.out | apply below_alloc | apply pw_below_drewN | apply below_drew1 | refine below_set ?_ GE182.out) | exact HB.out)⟩
        ·replace c16 := Bool.eq_false_iff.mpr c16
         subst c16
         have H1 : (if a0_0 = 3 then (if (l0_2.length : Int) > 1 then (some 4) else (chancerylaw3_chartError.j2 kj11 a0_0 l0_1 l0_2)) else (chancerylaw3_chartError.j2 kj11 a0_0 l0_1 l0_2)) = some r := by rw [if_neg (show ¬ (false = true) by decide)] at H; exact H
         clear H
         have H := H1
         clear H1
         by_cases c17 : a0_0 = 3
         ·rw [if_pos c17] at H
          have c17b0 : (a0_0 == 3) = true := beq_iff_eq.mpr c17
          have c17b1 : (a0_0 != 3) = false := bne_eq_false_iff_eq.mpr c17
          clear c17
          by_cases c18 : (l0_2.length : Int) > 1
          ·rw [if_pos c18] at H
           have c18b0 : decide (1 < (l0_2.length : Int)) = true := decide_eq_true c18
           have c18b1 : decide (1 < l0_2.length) = true := decide_eq_true (by omega)
           clear c18
           obtain rfl := Option.some.inj H
           have hcz19_0 : wc.cell? ⟨gb182, 0, none⟩ = some (.int .i64 a0_0) := (blk_cell BK182.out 0).trans rfl
           have hcz19_1 : wc.cell? ⟨gb182, 1, none⟩ = some (.slice A0_1 l0_1.length c0_1) := (blk_cell BK182.out 1).trans rfl
           have hcz19_2 : wc.cell? ⟨gb182, 2, none⟩ = some (.slice A0_2 l0_2.length c0_2) := (blk_cell BK182.out 2).trans rfl
           have hfz19_0 := blk_frozen BK182.out 0
           have hfz19_1 := blk_frozen BK182.out 1
           have hfz19_2 := blk_frozen BK182.out 2
           go_wp2
           go_ret
           exact ⟨by first | rfl | (simp [errW_none, errW_some] <;> rfl) | (simp [*, errW_none, errW_some] <;> rfl), by repeat (first | (with_reducible first | exact HB.out | apply below_alloc | apply pw_below_drewN | apply below_drew1 | refine below_set ?_ GE182.out) | exact HB.out)⟩
          ·rw [if_neg c18] at H
           have c18b0 : decide (1 < (l0_2.length : Int)) = false := decide_eq_false c18
           have c18b1 : decide (1 < l0_2.length) = false := decide_eq_false (by omega)
           clear c18
           have H' := Aside0.mk H
           clear H
           have hcz20_0 : wc.cell? ⟨gb182, 0, none⟩ = some (.int .i64 a0_0) := (blk_cell BK182.out 0).trans rfl
           have hcz20_1 : wc.cell? ⟨gb182, 1, none⟩ = some (.slice A0_1 l0_1.length c0_1) := (blk_cell BK182.out 1).trans rfl
           have hcz20_2 : wc.cell? ⟨gb182, 2, none⟩ = some (.slice A0_2 l0_2.length c0_2) := (blk_cell BK182.out 2).trans rfl
           have hfz20_0 := blk_frozen BK182.out 0
           have hfz20_1 := blk_frozen BK182.out 1
           have hfz20_2 := blk_frozen BK182.out 2
           go_wp2
           go_meet
           case rel => exact ⟨_, H', ⟨by have := HJ5.out; have := HJ11.out; first | omega | exact Nat.le_refl _⟩, ⟨by (with_reducible repeat (first | refine blk_drewN ?_ _ | refine blk_drew ?_ | refine blk_alloc ?_ _)); exact BK182.out⟩, ⟨by repeat (first | (with_reducible first | exact HB.out | apply below_alloc | apply pw_below_drewN | apply below_drew1 | refine below_set ?_ GE182.out) | exact HB.out)⟩⟩
         ·rw [if_neg c17] at H
          have c17b0 : (a0_0 == 3) = false := beq_eq_false_iff_ne.mpr c17
          have c17b1 : (a0_0 != 3) = true := bne_iff_ne.mpr c17
          have H' := Aside0.mk H
          clear H
          have hcz21_0 : wc.cell? ⟨gb182, 0, none⟩ = some (.int .i64 a0_0) := (blk_cell BK182.out 0).trans rfl
          have hcz21_1 : wc.cell? ⟨gb182, 1, none⟩ = some (.slice A0_1 l0_1.length c0_1) := (blk_cell BK182.out 1).trans rfl
          have hcz21_2 : wc.cell? ⟨gb182, 2, none⟩ = some (.slice A0_2 l0_2.length c0_2) := (blk_cell BK182.out 2).trans rfl
          have hfz21_0 := blk_frozen BK182.out 0
          have hfz21_1 := blk_frozen BK182.out 1
          have hfz21_2 := blk_frozen BK182.out 2
          go_wp2
          go_meet
          case rel => exact ⟨_, H', ⟨by have := HJ5.out; have := HJ11.out; first | omega | exact Nat.le_refl _⟩, ⟨by (with_reducible repeat (first | refine blk_drewN ?_ _ | refine blk_drew ?_ | refine blk_alloc ?_ _)); exact BK182.out⟩, ⟨by repeat (first | (with_reducible first | exact HB.out | apply below_alloc | apply pw_below_drewN | apply below_drew1 | refine below_set ?_ GE182.out) | exact HB.out)⟩⟩
  ·replace c5 := Bool.eq_false_iff.mpr c5
   subst c5
   have H1 : (some 8) = some r := by rw [if_neg (show ¬ (false = true) by decide)] at H; exact H
   clear H
   have H := H1
   clear H1
   obtain rfl := Option.some.inj H
   have hcz22_0 : w3.cell? ⟨gb182, 0, none⟩ = some (.int .i64 a0_0) := (blk_cell BK182.out 0).trans rfl
   have hcz22_1 : w3.cell? ⟨gb182, 1, none⟩ = some (.slice A0_1 l0_1.length c0_1) := (blk_cell BK182.out 1).trans rfl
   have hcz22_2 : w3.cell? ⟨gb182, 2, none⟩ = some (.slice A0_2 l0_2.length c0_2) := (blk_cell BK182.out 2).trans rfl
   have hfz22_0 := blk_frozen BK182.out 0
   have hfz22_1 := blk_frozen BK182.out 1
   have hfz22_2 := blk_frozen BK182.out 2
   go_wp2_with (first | ((with_reducible refine gate_callee (f := 12) rfl ?_); refine goesL_ (some 11) rfl rfl Try.func12 (by kernel_rfl) rfl #[.int .i64 a0_0, .int .i64 0, .int .i64 3] rfl (by (try simp only [List.map_toArray, List.map_cons, List.map_nil]); first | done | rfl) ?_; (with_reducible refine (chanceryref3_In.calls a0_0 0 3 false _ A4.out).mono ?_); rintro e w' ⟨rfl, ⟨nd, rfl⟩⟩; refine ⟨_, rfl, ?_⟩))
   go_ret
   exact ⟨by first | rfl | (simp [errW_none, errW_some] <;> rfl) | (simp [*, errW_none, errW_some] <;> rfl), by repeat (first | (with_reducible first | exact HB.out | apply below_alloc | apply pw_below_drewN | apply below_drew1 | refine below_set ?_ GE182.out) | exact HB.out)⟩
 case rest =>
  clear HC2; try clear c1; try clear p2; try clear c5; try clear c8; try clear c8b0; try clear c8b1; try clear c8b2; try clear c11; try clear c12; try clear c13; try clear c13b0; try clear c13b1; try clear c16; try clear c17; try clear c17b0; try clear c17b1; try clear c18; try clear c18b0; try clear c18b1; try clear hcz10_0; try clear hcz10_1; try clear hcz10_2; try clear hcz14_0; try clear hcz14_1; try clear hcz14_2; try clear hcz15_0; try clear hcz15_1; try clear hcz15_2; try clear hcz19_0; try clear hcz19_1; try clear hcz19_2; try clear hcz20_0; try clear hcz20_1; try clear hcz20_2; try clear hcz21_0; try clear hcz21_1; try clear hcz21_2; try clear hcz22_0; try clear hcz22_1; try clear hcz22_2; try clear hcz7_0; try clear hcz7_1; try clear hcz7_2; try clear hcz9_0; try clear hcz9_1; try clear hcz9_2; try clear hfz10_0; try clear hfz10_1; try clear hfz10_2; try clear hfz14_0; try clear hfz14_1; try clear hfz14_2; try clear hfz15_0; try clear hfz15_1; try clear hfz15_2; try clear hfz19_0; try clear hfz19_1; try clear hfz19_2; try clear hfz20_0; try clear hfz20_1; try clear hfz20_2; try clear hfz21_0; try clear hfz21_1; try clear hfz21_2; try clear hfz22_0; try clear hfz22_1; try clear hfz22_2; try clear hfz7_0; try clear hfz7_1; try clear hfz7_2; try clear hfz9_0; try clear hfz9_1; try clear hfz9_2
  obtain ⟨kq, HA, HJ1, BK182, HB⟩ := hcut
  cases kq with
  | zero => exact absurd HA.out (by simp [chancerylaw3_chartError.j2])
  | succ kj1 =>
   have H := HA.out
   clear HA
   simp only [chancerylaw3_chartError.j2] at H
   have H' := Aside0.mk H
   clear H
   have hcz23_0 : wc.cell? ⟨gb182, 0, none⟩ = some (.int .i64 a0_0) := (blk_cell BK182.out 0).trans rfl
   have hcz23_1 : wc.cell? ⟨gb182, 1, none⟩ = some (.slice A0_1 l0_1.length c0_1) := (blk_cell BK182.out 1).trans rfl
   have hcz23_2 : wc.cell? ⟨gb182, 2, none⟩ = some (.slice A0_2 l0_2.length c0_2) := (blk_cell BK182.out 2).trans rfl
   have hfz23_0 := blk_frozen BK182.out 0
   have hfz23_1 := blk_frozen BK182.out 1
   have hfz23_2 := blk_frozen BK182.out 2
   go_wp2
   go_loopg [48] kj1 (fun kq v48 w' => ∃ (x48_2 : Int), v48 = .int .i64 x48_2 ∧ Aside0 (chancerylaw3_chartError.l0 kq l0_2 (l0_2.length : Int) x48_2 a0_0 l0_1 l0_2 = some r) ∧ Aside0 (kq ≤ kj1) ∧ Aside0 (w'.heap[gb182]? = some (.cells #[.int .i64 a0_0, (.slice A0_1 l0_1.length c0_1), (.slice A0_2 l0_2.length c0_2)] 25 (0, 0))) ∧ Aside0 (Below w.heap.size w w'))
   case atStart => exact ⟨(0), (by first | rfl | (simp; done) | (simp [*]; done)), H', ⟨Nat.le_refl _⟩, ⟨by (with_reducible repeat (first | refine blk_drewN ?_ _ | refine blk_drew ?_ | refine blk_alloc ?_ _)); exact BK182.out⟩, ⟨by repeat (first | (with_reducible first | exact HB.out | apply below_alloc | apply pw_below_drewN | apply below_drew1 | refine below_set ?_ GE182.out) | exact HB.out)⟩⟩
   case round =>
    clear H'
    try clear c1; try clear p2; try clear c5; try clear c8; try clear c8b0; try clear c8b1; try clear c8b2; try clear c11; try clear c12; try clear c13; try clear c13b0; try clear c13b1; try clear c16; try clear c17; try clear c17b0; try clear c17b1; try clear c18; try clear c18b0; try clear c18b1; try clear hcz10_0; try clear hcz10_1; try clear hcz10_2; try clear hcz14_0; try clear hcz14_1; try clear hcz14_2; try clear hcz15_0; try clear hcz15_1; try clear hcz15_2; try clear hcz19_0; try clear hcz19_1; try clear hcz19_2; try clear hcz20_0; try clear hcz20_1; try clear hcz20_2; try clear hcz21_0; try clear hcz21_1; try clear hcz21_2; try clear hcz22_0; try clear hcz22_1; try clear hcz22_2; try clear hcz23_0; try clear hcz23_1; try clear hcz23_2; try clear hcz7_0; try clear hcz7_1; try clear hcz7_2; try clear hcz9_0; try clear hcz9_1; try clear hcz9_2; try clear hfz10_0; try clear hfz10_1; try clear hfz10_2; try clear hfz14_0; try clear hfz14_1; try clear hfz14_2; try clear hfz15_0; try clear hfz15_1; try clear hfz15_2; try clear hfz19_0; try clear hfz19_1; try clear hfz19_2; try clear hfz20_0; try clear hfz20_1; try clear hfz20_2; try clear hfz21_0; try clear hfz21_1; try clear hfz21_2; try clear hfz22_0; try clear hfz22_1; try clear hfz22_2; try clear hfz23_0; try clear hfz23_1; try clear hfz23_2; try clear hfz7_0; try clear hfz7_1; try clear hfz7_2; try clear hfz9_0; try clear hfz9_1; try clear hfz9_2
    obtain ⟨x48_2, rfl, HA, HK2, BK182, HB⟩ := hrel
    cases gk with
    | zero => exact absurd HA.out (by simp [chancerylaw3_chartError.l0])
    | succ k2 =>
     have H := HA.out
     clear HA
     simp only [chancerylaw3_chartError.l0] at H
     by_cases c24 : x48_2 < (l0_2.length : Int)
     ·rw [if_pos c24] at H
      have c24b0 : decide (x48_2 < (l0_2.length : Int)) = true := decide_eq_true c24
      clear c24
      by_cases c25 : 0 ≤ x48_2
      ·rw [if_pos c25] at H
       have c25b0 : decide (0 ≤ x48_2) = true := decide_eq_true c25
       clear c25
       by_cases c26 : x48_2 < (l0_2.length : Int)
       ·rw [if_pos c26] at H
        have c26b0 : decide (x48_2 < (l0_2.length : Int)) = true := decide_eq_true c26
        clear c26
        by_cases c27 : ((rd_L1 l0_2 x48_2).length : Int) = (l0_1.length : Int)
        ·rw [if_pos c27] at H
         have c27b0 : (((rd_L1 l0_2 x48_2).length : Int) == (l0_1.length : Int)) = true := beq_iff_eq.mpr c27
         have c27b1 : (((rd_L1 l0_2 x48_2).length : Int) != (l0_1.length : Int)) = false := bne_eq_false_iff_eq.mpr c27
         have c27b2 : ((rd_L1 l0_2 x48_2).length == l0_1.length) = true := by first | simpa using c27 | (simp at c27 ⊢; omega)
         clear c27
         have H' := Aside0.mk H
         clear H
         have p184 : 0 ≤ (x48_2 : Int) := of_decide_eq_true (by first | (with_reducible assumption) | assumption)
         have q184 : x48_2 < (l0_2.length : Int) := of_decide_eq_true (by first | (with_reducible assumption) | assumption)
         obtain ⟨ad184, A184_0, c184_0, e184, hx184_0, hl184_0, hi184_0⟩ := at_L1 HR0_2.out x48_2 p184 q184
         cases e184
         replace hx184_0 := (HB.out.cell (World.block_lt_of_cell? w _ hx184_0)).trans hx184_0
         have HR184_0 := Aside0.mk hi184_0
         have HC184_0 := Aside0.mk hl184_0
         clear hi184_0 hl184_0
         replace p184 := eq_true p184
         replace q184 := eq_true q184
         have hcz28_0 : wr.cell? ⟨gb182, 0, none⟩ = some (.int .i64 a0_0) := (blk_cell BK182.out 0).trans rfl
         have hcz28_1 : wr.cell? ⟨gb182, 1, none⟩ = some (.slice A0_1 l0_1.length c0_1) := (blk_cell BK182.out 1).trans rfl
         have hcz28_2 : wr.cell? ⟨gb182, 2, none⟩ = some (.slice (some ad184) l0_2.length c0_2) := (blk_cell BK182.out 2).trans rfl
         have hfz28_0 := blk_frozen BK182.out 0
         have hfz28_1 := blk_frozen BK182.out 1
         have hfz28_2 := blk_frozen BK182.out 2
         go_wp2
         go_loopg [60] k2 (fun kq v60 w' => ∃ (x60_3 : Int), v60 = .int .i64 x60_3 ∧ Aside0 (chancerylaw3_chartError.l1 kq l0_2 (l0_2.length : Int) x48_2 (rd_L1 l0_2 x48_2) ((rd_L1 l0_2 x48_2).length : Int) x60_3 a0_0 l0_1 l0_2 = some r) ∧ Aside0 (kq ≤ k2) ∧ Aside0 (w'.heap[gb182]? = some (.cells #[.int .i64 a0_0, (.slice A0_1 l0_1.length c0_1), (.slice (some ad184) l0_2.length c0_2)] 25 (0, 0))) ∧ Aside0 (Below w.heap.size w w'))
         case atStart => exact ⟨(0), (by first | rfl | (simp; done) | (simp [*]; done)), H', ⟨Nat.le_refl _⟩, ⟨by (with_reducible repeat (first | refine blk_drewN ?_ _ | refine blk_drew ?_ | refine blk_alloc ?_ _)); exact BK182.out⟩, ⟨by repeat (first | (with_reducible first | exact HB.out | apply below_alloc | apply pw_below_drewN | apply below_drew1 | refine below_set ?_ GE182.out) | exact HB.out)⟩⟩
         case round =>
          clear H'
          try clear c1; try clear p1; try clear q1; try clear hx1; try clear c2; try clear p2; try clear c5; try clear c8; try clear c8b0; try clear c8b1; try clear c8b2; try clear c11; try clear c12; try clear c13; try clear c13b0; try clear c13b1; try clear c16; try clear c17; try clear c17b0; try clear c17b1; try clear c18; try clear c18b0; try clear c18b1; try clear p18; try clear q18; try clear hx18; try clear c24; try clear c24b0; try clear c25; try clear c25b0; try clear c26; try clear c26b0; try clear c27; try clear c27b0; try clear c27b1; try clear c27b2; try clear hcz10_0; try clear hcz10_1; try clear hcz10_2; try clear hcz14_0; try clear hcz14_1; try clear hcz14_2; try clear hcz15_0; try clear hcz15_1; try clear hcz15_2; try clear hcz19_0; try clear hcz19_1; try clear hcz19_2; try clear hcz20_0; try clear hcz20_1; try clear hcz20_2; try clear hcz21_0; try clear hcz21_1; try clear hcz21_2; try clear hcz22_0; try clear hcz22_1; try clear hcz22_2; try clear hcz23_0; try clear hcz23_1; try clear hcz23_2; try clear hcz28_0; try clear hcz28_1; try clear hcz28_2; try clear hcz7_0; try clear hcz7_1; try clear hcz7_2; try clear hcz9_0; try clear hcz9_1; try clear hcz9_2; try clear hfz10_0; try clear hfz10_1; try clear hfz10_2; try clear hfz14_0; try clear hfz14_1; try clear hfz14_2; try clear hfz15_0; try clear hfz15_1; try clear hfz15_2; try clear hfz19_0; try clear hfz19_1; try clear hfz19_2; try clear hfz20_0; try clear hfz20_1; try clear hfz20_2; try clear hfz21_0; try clear hfz21_1; try clear hfz21_2; try clear hfz22_0; try clear hfz22_1; try clear hfz22_2; try clear hfz23_0; try clear hfz23_1; try clear hfz23_2; try clear hfz28_0; try clear hfz28_1; try clear hfz28_2; try clear hfz7_0; try clear hfz7_1; try clear hfz7_2; try clear hfz9_0; try clear hfz9_1; try clear hfz9_2; try clear hx184_0; try clear p184; try clear q184
          obtain ⟨x60_3, rfl, HA, HK3, BK182, HB⟩ := hrel
          cases gk with
          | zero => exact absurd HA.out (by simp [chancerylaw3_chartError.l1])
          | succ k3 =>
           have H := HA.out
           clear HA
           simp only [chancerylaw3_chartError.l1] at H
           by_cases c29 : x60_3 < ((rd_L1 l0_2 x48_2).length : Int)
           ·rw [if_pos c29] at H
            have c29b0 : decide (x60_3 < ((rd_L1 l0_2 x48_2).length : Int)) = true := decide_eq_true c29
            clear c29
            by_cases c30 : 0 ≤ x60_3
            ·rw [if_pos c30] at H
             have c30b0 : decide (0 ≤ x60_3) = true := decide_eq_true c30
             clear c30
             by_cases c31 : x60_3 < ((rd_L1 l0_2 x48_2).length : Int)
             ·rw [if_pos c31] at H
              have c31b0 : decide (x60_3 < ((rd_L1 l0_2 x48_2).length : Int)) = true := decide_eq_true c31
              clear c31
              have HC32 := Aside0.mk H
              clear H
              have p185 : 0 ≤ (x60_3 : Int) := of_decide_eq_true (by first | (with_reducible assumption) | assumption)
              have q185 : x60_3 < ((rd_L1 l0_2 x48_2).length : Int) := of_decide_eq_true (by first | (with_reducible assumption) | assumption)
              obtain ⟨ad185, e185, hx185_0⟩ := Kd.at_int HR184_0.out x60_3 p185 q185
              cases e185
              replace hx185_0 := (HB.out.cell (World.block_lt_of_cell? w _ hx185_0)).trans hx185_0
              replace p185 := eq_true p185
              replace q185 := eq_true q185
              go_upto_region 18 with (fail)
              go_cut [71] (fun v71 wc => ∃ (kq : Nat) (x71_31 : Bool), v71 = .bool x71_31 ∧ Aside0 (chancerylaw3_chartError.j5 kq (rd (rd_L1 l0_2 x48_2) x60_3) (-83333333333) l0_2 (l0_2.length : Int) x48_2 (rd_L1 l0_2 x48_2) ((rd_L1 l0_2 x48_2).length : Int) x60_3 x71_31 a0_0 l0_1 l0_2 = some r) ∧ Aside0 (kq ≤ k3) ∧ Aside0 (wc.heap[gb182]? = some (.cells #[.int .i64 a0_0, (.slice A0_1 l0_1.length c0_1), (.slice (some ad184) l0_2.length c0_2)] 25 (0, 0))) ∧ Aside0 (Below w.heap.size w wc))
              case first =>
               have H := HC32.out
               clear HC32
               by_cases c33 : a0_0 = 3
               ·rw [if_pos c33] at H
                have c33b0 : (a0_0 == 3) = true := beq_iff_eq.mpr c33
                have c33b1 : (a0_0 != 3) = false := bne_eq_false_iff_eq.mpr c33
                clear c33
                (first | rw [c33b0] | (simp only [i64_w, i32_w]; rw [c33b0]) | skip)
                have H' := Aside0.mk H
                clear H
                have hcz34_0 : wr.cell? ⟨gb182, 0, none⟩ = some (.int .i64 a0_0) := (blk_cell BK182.out 0).trans rfl
                have hcz34_1 : wr.cell? ⟨gb182, 1, none⟩ = some (.slice A0_1 l0_1.length c0_1) := (blk_cell BK182.out 1).trans rfl
                have hcz34_2 : wr.cell? ⟨gb182, 2, none⟩ = some (.slice (some ad184) l0_2.length c0_2) := (blk_cell BK182.out 2).trans rfl
                have hfz34_0 := blk_frozen BK182.out 0
                have hfz34_1 := blk_frozen BK182.out 1
                have hfz34_2 := blk_frozen BK182.out 2
                go_wp2
                go_meet
                case rel => exact ⟨_, (true), (by first | rfl | (simp; done) | (simp [*]; done)), H', ⟨by have := HJ1.out; have := HK2.out; have := HK3.out; first | omega | exact Nat.le_refl _⟩, ⟨by (with_reducible repeat (first | refine blk_drewN ?_ _ | refine blk_drew ?_ | refine blk_alloc ?_ _)); exact BK182.out⟩, ⟨by repeat (first | (with_reducible first | exact HB.out | apply below_alloc | apply pw_below_drewN | apply below_drew1 | refine below_set ?_ GE182.out) | exact HB.out)⟩⟩
               ·rw [if_neg c33] at H
                have c33b0 : (a0_0 == 3) = false := beq_eq_false_iff_ne.mpr c33
                have c33b1 : (a0_0 != 3) = true := bne_iff_ne.mpr c33
                (first | rw [c33b0] | (simp only [i64_w, i32_w]; rw [c33b0]) | skip)
                have H' := Aside0.mk H
                clear H
                have hcz35_0 : wr.cell? ⟨gb182, 0, none⟩ = some (.int .i64 a0_0) := (blk_cell BK182.out 0).trans rfl
                have hcz35_1 : wr.cell? ⟨gb182, 1, none⟩ = some (.slice A0_1 l0_1.length c0_1) := (blk_cell BK182.out 1).trans rfl
                have hcz35_2 : wr.cell? ⟨gb182, 2, none⟩ = some (.slice (some ad184) l0_2.length c0_2) := (blk_cell BK182.out 2).trans rfl
                have hfz35_0 := blk_frozen BK182.out 0
                have hfz35_1 := blk_frozen BK182.out 1
                have hfz35_2 := blk_frozen BK182.out 2
                go_wp2
                go_meet
                case rel => exact ⟨_, ((a0_0 == 1)), (by first | rfl | (simp; done) | (simp [*]; done)), H', ⟨by have := HJ1.out; have := HK2.out; have := HK3.out; first | omega | exact Nat.le_refl _⟩, ⟨by (with_reducible repeat (first | refine blk_drewN ?_ _ | refine blk_drew ?_ | refine blk_alloc ?_ _)); exact BK182.out⟩, ⟨by repeat (first | (with_reducible first | exact HB.out | apply below_alloc | apply pw_below_drewN | apply below_drew1 | refine below_set ?_ GE182.out) | exact HB.out)⟩⟩
              case rest =>
               clear HC32; try clear c1; try clear p1; try clear q1; try clear hx1; try clear c2; try clear p2; try clear c3; try clear c5; try clear c8; try clear c8b0; try clear c8b1; try clear c8b2; try clear c11; try clear c12; try clear c13; try clear c13b0; try clear c13b1; try clear c16; try clear c17; try clear c17b0; try clear c17b1; try clear c18; try clear c18b0; try clear c18b1; try clear p18; try clear q18; try clear hx18; try clear c24; try clear c24b0; try clear c25; try clear c25b0; try clear c26; try clear c26b0; try clear c27; try clear c27b0; try clear c27b1; try clear c27b2; try clear c29; try clear c29b0; try clear c30; try clear c30b0; try clear c31; try clear c31b0; try clear c33; try clear c33b0; try clear c33b1; try clear hcz10_0; try clear hcz10_1; try clear hcz10_2; try clear hcz14_0; try clear hcz14_1; try clear hcz14_2; try clear hcz15_0; try clear hcz15_1; try clear hcz15_2; try clear hcz19_0; try clear hcz19_1; try clear hcz19_2; try clear hcz20_0; try clear hcz20_1; try clear hcz20_2; try clear hcz21_0; try clear hcz21_1; try clear hcz21_2; try clear hcz22_0; try clear hcz22_1; try clear hcz22_2; try clear hcz23_0; try clear hcz23_1; try clear hcz23_2; try clear hcz28_0; try clear hcz28_1; try clear hcz28_2; try clear hcz34_0; try clear hcz34_1; try clear hcz34_2; try clear hcz35_0; try clear hcz35_1; try clear hcz35_2; try clear hcz7_0; try clear hcz7_1; try clear hcz7_2; try clear hcz9_0; try clear hcz9_1; try clear hcz9_2; try clear hfz10_0; try clear hfz10_1; try clear hfz10_2; try clear hfz14_0; try clear hfz14_1; try clear hfz14_2; try clear hfz15_0; try clear hfz15_1; try clear hfz15_2; try clear hfz19_0; try clear hfz19_1; try clear hfz19_2; try clear hfz20_0; try clear hfz20_1; try clear hfz20_2; try clear hfz21_0; try clear hfz21_1; try clear hfz21_2; try clear hfz22_0; try clear hfz22_1; try clear hfz22_2; try clear hfz23_0; try clear hfz23_1; try clear hfz23_2; try clear hfz28_0; try clear hfz28_1; try clear hfz28_2; try clear hfz34_0; try clear hfz34_1; try clear hfz34_2; try clear hfz35_0; try clear hfz35_1; try clear hfz35_2; try clear hfz7_0; try clear hfz7_1; try clear hfz7_2; try clear hfz9_0; try clear hfz9_1; try clear hfz9_2; try clear hx184_0; try clear hx185_0; try clear p184; try clear p185; try clear q184; try clear q185
               obtain ⟨kq, x71_31, rfl, HA, HJ31, BK182, HB⟩ := hcut
               cases kq with
               | zero => exact absurd HA.out (by simp [chancerylaw3_chartError.j5])
               | succ kj31 =>
                have H := HA.out
                clear HA
                simp only [chancerylaw3_chartError.j5] at H
                by_cases c36 : x71_31 = true
                ·subst c36
                 have H1 : ((chanceryref3_In.f (rd (rd_L1 l0_2 x48_2) x60_3) 0 83333333333).bind fun t186 => (if t186 = true then (chancerylaw3_chartError.l1 kj31 l0_2 (l0_2.length : Int) x48_2 (rd_L1 l0_2 x48_2) ((rd_L1 l0_2 x48_2).length : Int) (wrap64 (x60_3 + 1)) a0_0 l0_1 l0_2) else (some 2))) = some r := by rw [if_pos rfl] at H; exact H
                 clear H
                 have H := H1
                 clear H1
                 replace H := Option.bind_eq_some_iff.mp H
                 obtain ⟨t186, A370, H⟩ := H
                 replace H : (if t186 = true then (chancerylaw3_chartError.l1 kj31 l0_2 (l0_2.length : Int) x48_2 (rd_L1 l0_2 x48_2) ((rd_L1 l0_2 x48_2).length : Int) (wrap64 (x60_3 + 1)) a0_0 l0_1 l0_2) else (some 2)) = some r := H
                 have A37 := Aside0.mk A370
                 clear A370
                 by_cases c38 : t186 = true
                 ·subst c38
                  have H1 : (chancerylaw3_chartError.l1 kj31 l0_2 (l0_2.length : Int) x48_2 (rd_L1 l0_2 x48_2) ((rd_L1 l0_2 x48_2).length : Int) (wrap64 (x60_3 + 1)) a0_0 l0_1 l0_2) = some r := by rw [if_pos rfl] at H; exact H
                  clear H
                  have H := H1
                  clear H1
                  have H' := Aside0.mk H
                  clear H
                  go_wp2_with (first | ((with_reducible refine gate_callee (f := 12) rfl ?_); refine goesL_ (some 74) rfl rfl Try.func12 (by kernel_rfl) rfl #[.int .i64 (rd (rd_L1 l0_2 x48_2) x60_3), .int .i64 0, .int .i64 83333333333] rfl (by (try simp only [List.map_toArray, List.map_cons, List.map_nil]); first | done | rfl) ?_; (with_reducible refine (chanceryref3_In.calls (rd (rd_L1 l0_2 x48_2) x60_3) 0 83333333333 true _ A37.out).mono ?_); rintro e w' ⟨rfl, ⟨nd, rfl⟩⟩; refine ⟨_, rfl, ?_⟩))
                  go_roundg kj31
                  case measure => have := HJ1.out; have := HK2.out; have := HK3.out; have := HJ31.out; omega
                  case rel => exact ⟨(wrap64 (x60_3 + 1)), (by first | rfl | (simp; done) | (simp [*]; done)), H', ⟨by have := HJ1.out; have := HK2.out; have := HK3.out; have := HJ31.out; omega⟩, ⟨by (with_reducible repeat (first | refine blk_drewN ?_ _ | refine blk_drew ?_ | refine blk_alloc ?_ _)); exact BK182.out⟩, ⟨by repeat (first | (with_reducible first | exact HB.out | apply below_alloc | apply pw_below_drewN | apply below_drew1 | refine below_set ?_ GE182.out) | exact HB.out)⟩⟩
                 ·replace c38 := Bool.eq_false_iff.mpr c38
                  subst c38
                  have H1 : (some 2) = some r := by rw [if_neg (show ¬ (false = true) by decide)] at H; exact H
                  clear H
                  have H := H1
                  clear H1
                  obtain rfl := Option.some.inj H
                  go_wp2_with (first | ((with_reducible refine gate_callee (f := 12) rfl ?_); refine goesL_ (some 74) rfl rfl Try.func12 (by kernel_rfl) rfl #[.int .i64 (rd (rd_L1 l0_2 x48_2) x60_3), .int .i64 0, .int .i64 83333333333] rfl (by (try simp only [List.map_toArray, List.map_cons, List.map_nil]); first | done | rfl) ?_; (with_reducible refine (chanceryref3_In.calls (rd (rd_L1 l0_2 x48_2) x60_3) 0 83333333333 false _ A37.out).mono ?_); rintro e w' ⟨rfl, ⟨nd, rfl⟩⟩; refine ⟨_, rfl, ?_⟩))
                  go_ret
                  exact ⟨by first | rfl | (simp [errW_none, errW_some] <;> rfl) | (simp [*, errW_none, errW_some] <;> rfl), by repeat (first | (with_reducible first | exact HB.out | apply below_alloc | apply pw_below_drewN | apply below_drew1 | refine below_set ?_ GE182.out) | exact HB.out)⟩
                ·replace c36 := Bool.eq_false_iff.mpr c36
                 subst c36
                 have H1 : ((chanceryref3_In.f (rd (rd_L1 l0_2 x48_2) x60_3) (-83333333333) 83333333333).bind fun t187 => (if t187 = true then (chancerylaw3_chartError.l1 kj31 l0_2 (l0_2.length : Int) x48_2 (rd_L1 l0_2 x48_2) ((rd_L1 l0_2 x48_2).length : Int) (wrap64 (x60_3 + 1)) a0_0 l0_1 l0_2) else (some 2))) = some r := by rw [if_neg (show ¬ (false = true) by decide)] at H; exact H
                 clear H
                 have H := H1
                 clear H1
                 replace H := Option.bind_eq_some_iff.mp H
                 obtain ⟨t187, A390, H⟩ := H
                 replace H : (if t187 = true then (chancerylaw3_chartError.l1 kj31 l0_2 (l0_2.length : Int) x48_2 (rd_L1 l0_2 x48_2) ((rd_L1 l0_2 x48_2).length : Int) (wrap64 (x60_3 + 1)) a0_0 l0_1 l0_2) else (some 2)) = some r := H
                 have A39 := Aside0.mk A390
                 clear A390
                 by_cases c40 : t187 = true
                 ·subst c40
                  have H1 : (chancerylaw3_chartError.l1 kj31 l0_2 (l0_2.length : Int) x48_2 (rd_L1 l0_2 x48_2) ((rd_L1 l0_2 x48_2).length : Int) (wrap64 (x60_3 + 1)) a0_0 l0_1 l0_2) = some r := by rw [if_pos rfl] at H; exact H
                  clear H
                  have H := H1
                  clear H1
                  have H' := Aside0.mk H
                  clear H
                  go_wp2_with (first | ((with_reducible refine gate_callee (f := 12) rfl ?_); refine goesL_ (some 74) rfl rfl Try.func12 (by kernel_rfl) rfl #[.int .i64 (rd (rd_L1 l0_2 x48_2) x60_3), .int .i64 (-83333333333), .int .i64 83333333333] rfl (by (try simp only [List.map_toArray, List.map_cons, List.map_nil]); first | done | rfl) ?_; (with_reducible refine (chanceryref3_In.calls (rd (rd_L1 l0_2 x48_2) x60_3) (-83333333333) 83333333333 true _ A39.out).mono ?_); rintro e w' ⟨rfl, ⟨nd, rfl⟩⟩; refine ⟨_, rfl, ?_⟩))
                  go_roundg kj31
                  case measure => have := HJ1.out; have := HK2.out; have := HK3.out; have := HJ31.out; omega
                  case rel => exact ⟨(wrap64 (x60_3 + 1)), (by first | rfl | (simp; done) | (simp [*]; done)), H', ⟨by have := HJ1.out; have := HK2.out; have := HK3.out; have := HJ31.out; omega⟩, ⟨by (with_reducible repeat (first | refine blk_drewN ?_ _ | refine blk_drew ?_ | refine blk_alloc ?_ _)); exact BK182.out⟩, ⟨by repeat (first | (with_reducible first | exact HB.out | apply below_alloc | apply pw_below_drewN | apply below_drew1 | refine below_set ?_ GE182.out) | exact HB.out)⟩⟩
                 ·replace c40 := Bool.eq_false_iff.mpr c40
                  subst c40
                  have H1 : (some 2) = some r := by rw [if_neg (show ¬ (false = true) by decide)] at H; exact H
                  clear H
                  have H := H1
                  clear H1
                  obtain rfl := Option.some.inj H
                  go_wp2_with (first | ((with_reducible refine gate_callee (f := 12) rfl ?_); refine goesL_ (some 74) rfl rfl Try.func12 (by kernel_rfl) rfl #[.int .i64 (rd (rd_L1 l0_2 x48_2) x60_3), .int .i64 (-83333333333), .int .i64 83333333333] rfl (by (try simp only [List.map_toArray, List.map_cons, List.map_nil]); first | done | rfl) ?_; (with_reducible refine (chanceryref3_In.calls (rd (rd_L1 l0_2 x48_2) x60_3) (-83333333333) 83333333333 false _ A39.out).mono ?_); rintro e w' ⟨rfl, ⟨nd, rfl⟩⟩; refine ⟨_, rfl, ?_⟩))
                  go_ret
                  exact ⟨by first | rfl | (simp [errW_none, errW_some] <;> rfl) | (simp [*, errW_none, errW_some] <;> rfl), by repeat (first | (with_reducible first | exact HB.out | apply below_alloc | apply pw_below_drewN | apply below_drew1 | refine below_set ?_ GE182.out) | exact HB.out)⟩
             ·rw [if_neg c31] at H
              exact absurd H (by simp)
            ·rw [if_neg c30] at H
             exact absurd H (by simp)
           ·rw [if_neg c29] at H
            have c29b0 : decide (x60_3 < ((rd_L1 l0_2 x48_2).length : Int)) = false := decide_eq_false c29
            clear c29
            have H' := Aside0.mk H
            clear H
            go_wp2
            go_roundg k3
            case measure => have := HJ1.out; have := HK2.out; have := HK3.out; omega
            case rel => exact ⟨(wrap64 (x48_2 + 1)), (by first | rfl | (simp; done) | (simp [*]; done)), H', ⟨by have := HJ1.out; have := HK2.out; have := HK3.out; omega⟩, ⟨by (with_reducible repeat (first | refine blk_drewN ?_ _ | refine blk_drew ?_ | refine blk_alloc ?_ _)); exact BK182.out⟩, ⟨by repeat (first | (with_reducible first | exact HB.out | apply below_alloc | apply pw_below_drewN | apply below_drew1 | refine below_set ?_ GE182.out) | exact HB.out)⟩⟩
        ·rw [if_neg c27] at H
         have c27b0 : (((rd_L1 l0_2 x48_2).length : Int) == (l0_1.length : Int)) = false := beq_eq_false_iff_ne.mpr c27
         have c27b1 : (((rd_L1 l0_2 x48_2).length : Int) != (l0_1.length : Int)) = true := bne_iff_ne.mpr c27
         have c27b2 : ((rd_L1 l0_2 x48_2).length == l0_1.length) = false := by first | simpa using c27 | (simp at c27 ⊢; omega)
         obtain rfl := Option.some.inj H
         have p184 : 0 ≤ (x48_2 : Int) := of_decide_eq_true (by first | (with_reducible assumption) | assumption)
         have q184 : x48_2 < (l0_2.length : Int) := of_decide_eq_true (by first | (with_reducible assumption) | assumption)
         obtain ⟨ad184, A184_0, c184_0, e184, hx184_0, hl184_0, hi184_0⟩ := at_L1 HR0_2.out x48_2 p184 q184
         cases e184
         replace hx184_0 := (HB.out.cell (World.block_lt_of_cell? w _ hx184_0)).trans hx184_0
         have HR184_0 := Aside0.mk hi184_0
         have HC184_0 := Aside0.mk hl184_0
         clear hi184_0 hl184_0
         replace p184 := eq_true p184
         replace q184 := eq_true q184
         have hcz41_0 : wr.cell? ⟨gb182, 0, none⟩ = some (.int .i64 a0_0) := (blk_cell BK182.out 0).trans rfl
         have hcz41_1 : wr.cell? ⟨gb182, 1, none⟩ = some (.slice A0_1 l0_1.length c0_1) := (blk_cell BK182.out 1).trans rfl
         have hcz41_2 : wr.cell? ⟨gb182, 2, none⟩ = some (.slice (some ad184) l0_2.length c0_2) := (blk_cell BK182.out 2).trans rfl
         have hfz41_0 := blk_frozen BK182.out 0
         have hfz41_1 := blk_frozen BK182.out 1
         have hfz41_2 := blk_frozen BK182.out 2
         go_wp2
         go_ret
         exact ⟨by first | rfl | (simp [errW_none, errW_some] <;> rfl) | (simp [*, errW_none, errW_some] <;> rfl), by repeat (first | (with_reducible first | exact HB.out | apply below_alloc | apply pw_below_drewN | apply below_drew1 | refine below_set ?_ GE182.out) | exact HB.out)⟩
       ·rw [if_neg c26] at H
        exact absurd H (by simp)
      ·rw [if_neg c25] at H
       exact absurd H (by simp)
     ·rw [if_neg c24] at H
      have c24b0 : decide (x48_2 < (l0_2.length : Int)) = false := decide_eq_false c24
      clear c24
      obtain rfl := Option.some.inj H
      go_wp2
      go_ret
      exact ⟨by first | rfl | (simp [errW_none, errW_some] <;> rfl) | (simp [*, errW_none, errW_some] <;> rfl), by repeat (first | (with_reducible first | exact HB.out | apply below_alloc | apply pw_below_drewN | apply below_drew1 | refine below_set ?_ GE182.out) | exact HB.out)⟩

end Go.Proofs.Ytemginkjkmmimaa.QCB
