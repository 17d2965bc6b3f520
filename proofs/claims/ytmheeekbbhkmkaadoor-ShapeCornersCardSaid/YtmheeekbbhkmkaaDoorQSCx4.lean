import Derived.Test.YtmheeekbbhkmkaaDoorQSCx0
namespace Go.Proofs.YtmheeekbbhkmkaaDoor.QSC
open Go.RowKit Go.Proofs.YtmheeekbbhkmkaaDoor.QSH Go.Proofs.YtmheeekbbhkmkaaDoor.HandSH Go.Proofs.YtmheeekbbhkmkaaDoor.Cells Go.Proofs.YtmheeekbbhkmkaaDoorW.PrintWords Go.Proofs.YtmheeekbbhkmkaaDoorW.PrintLast Go.Proofs.YtmheeekbbhkmkaaDoorW.PrintMore
attribute [local go_sem] max2_int min2_int max_two min_two max_three min_three max_four min_four 
set_option linter.unusedVariables false
set_option linter.unusedSimpArgs false
mutual
def chanceryref3_CornersOf.l0 : Nat → List (S45) → List (S37) → Int → Int → Int → Int → Int → Int → Int → Int → Int → Int → Int → Int → ByteArray → ByteArray → Option ((List (S37)))
 | 0, _, _, _, _, _, _, _, _, _, _, _, _, _, _, _, _ => none
 | k + 1, x0, x6, x48, x49, x129000, x129001, x129002, x129003, x129004, x129005, x129006, x129007, x129008, x129009, x129010, x129011 => if x49 < x48 then (if 0 ≤ x49 then (if x49 < (x6.length : Int) then ((chanceryref3_middle.f x129000 x129001 x129002 x129003 x129004 x129005 x129006 x129007 x129008 x129009 x129010 x129011).bind fun bt133 => ((chanceryref3_TurnPoint.f ((rd_T37 x6 x49).f0) ((rd_T37 x6 x49).f1) bt133.1 bt133.2 x129007).bind fun bt135 => (chanceryref3_CornersOf.l1 k x0 (x6.set (x49 : Int).toNat (⟨bt135.1, bt135.2⟩ : S37)) x49 x129001 x48 x49 x129000 x129001 x129002 x129003 x129004 x129005 x129006 x129007 x129008 x129009 x129010 x129011))) else (none)) else (none)) else (some x6)
def chanceryref3_CornersOf.l1 : Nat → List (S45) → List (S37) → Int → Int → Int → Int → Int → Int → Int → Int → Int → Int → Int → Int → Int → Int → ByteArray → ByteArray → Option ((List (S37)))
 | 0, _, _, _, _, _, _, _, _, _, _, _, _, _, _, _, _, _, _ => none
 | k + 1, x0, x6, x7, x8, x48, x49, x129000, x129001, x129002, x129003, x129004, x129005, x129006, x129007, x129008, x129009, x129010, x129011 => if x8 = 0 then (chanceryref3_CornersOf.l0 k x0 x6 x48 (wrap64 (x49 + 1)) x129000 x129001 x129002 x129003 x129004 x129005 x129006 x129007 x129008 x129009 x129010 x129011) else ((chanceryref3_ShapeAt.f k x0 x8).bind fun t138 => (if 0 ≤ t138 then (if t138 < (x0.length : Int) then (if 0 ≤ x7 then (if x7 < (x6.length : Int) then ((chanceryref3_middle.f ((rd_T45 x0 t138).f0) ((rd_T45 x0 t138).f1) ((rd_T45 x0 t138).f2) ((rd_T45 x0 t138).f3) ((rd_T45 x0 t138).f4) ((rd_T45 x0 t138).f5) ((rd_T45 x0 t138).f6) ((rd_T45 x0 t138).f7) ((rd_T45 x0 t138).f8) ((rd_T45 x0 t138).f9) ((rd_T45 x0 t138).f10) ((rd_T45 x0 t138).f11)).bind fun bt143 => ((chanceryref3_TurnPoint.f (wrap64 (((rd_T37 x6 x7).f0) + ((rd_T45 x0 t138).f3))) (wrap64 (((rd_T37 x6 x7).f1) + ((rd_T45 x0 t138).f4))) bt143.1 bt143.2 ((rd_T45 x0 t138).f7)).bind fun bt145 => (chanceryref3_CornersOf.l1 k x0 (x6.set (x7 : Int).toNat (⟨bt145.1, bt145.2⟩ : S37)) x7 ((rd_T45 x0 t138).f1) x48 x49 x129000 x129001 x129002 x129003 x129004 x129005 x129006 x129007 x129008 x129009 x129010 x129011))) else (none)) else (none)) else (none)) else (none)))
end
def chanceryref3_CornersOf.f (k : Nat) (l0 : List (S45)) (a1 : Int) : Option ((List (S37))) := if 0 ≤ a1 then (if a1 < (l0.length : Int) then ((some (([(⟨(rd_T45 l0 a1).f3, (rd_T45 l0 a1).f4⟩ : S37), (⟨wrap64 (((rd_T45 l0 a1).f3) + ((rd_T45 l0 a1).f5)), (rd_T45 l0 a1).f4⟩ : S37), (⟨wrap64 (((rd_T45 l0 a1).f3) + ((rd_T45 l0 a1).f5)), wrap64 (((rd_T45 l0 a1).f4) + ((rd_T45 l0 a1).f6))⟩ : S37), (⟨(rd_T45 l0 a1).f3, wrap64 (((rd_T45 l0 a1).f4) + ((rd_T45 l0 a1).f6))⟩ : S37)] : List (S37)) : List (S37))).bind fun y129 => (chanceryref3_CornersOf.l0 k l0 y129 (y129.length : Int) 0 ((rd_T45 l0 a1).f0) ((rd_T45 l0 a1).f1) ((rd_T45 l0 a1).f2) ((rd_T45 l0 a1).f3) ((rd_T45 l0 a1).f4) ((rd_T45 l0 a1).f5) ((rd_T45 l0 a1).f6) ((rd_T45 l0 a1).f7) ((rd_T45 l0 a1).f8) ((rd_T45 l0 a1).f9) ((rd_T45 l0 a1).f10) ((rd_T45 l0 a1).f11))) else (none)) else (none)
theorem chanceryref3_CornersOf.mono_l : ∀ k, (∀ y0 y1 y2 y3 y4 y5 y6 y7 y8 y9 y10 y11 y12 y13 y14 y15, LeO (chanceryref3_CornersOf.l0 k y0 y1 y2 y3 y4 y5 y6 y7 y8 y9 y10 y11 y12 y13 y14 y15) (chanceryref3_CornersOf.l0 (k + 1) y0 y1 y2 y3 y4 y5 y6 y7 y8 y9 y10 y11 y12 y13 y14 y15)) ∧ (∀ y0 y1 y2 y3 y4 y5 y6 y7 y8 y9 y10 y11 y12 y13 y14 y15 y16 y17, LeO (chanceryref3_CornersOf.l1 k y0 y1 y2 y3 y4 y5 y6 y7 y8 y9 y10 y11 y12 y13 y14 y15 y16 y17) (chanceryref3_CornersOf.l1 (k + 1) y0 y1 y2 y3 y4 y5 y6 y7 y8 y9 y10 y11 y12 y13 y14 y15 y16 y17))
 | 0 => ⟨fun _ _ _ _ _ _ _ _ _ _ _ _ _ _ _ _ r h => by simp [chanceryref3_CornersOf.l0] at h, fun _ _ _ _ _ _ _ _ _ _ _ _ _ _ _ _ _ _ r h => by simp [chanceryref3_CornersOf.l1] at h⟩
 | k + 1 => by
  obtain ⟨ih0, ih1⟩ := chanceryref3_CornersOf.mono_l k
  refine ⟨?_, ?_⟩
  ·intro y0 y1 y2 y3 y4 y5 y6 y7 y8 y9 y10 y11 y12 y13 y14 y15
   unfold chanceryref3_CornersOf.l0
   repeat' first
   | (with_reducible exact ih0 _ _ _ _ _ _ _ _ _ _ _ _ _ _ _ _)
   | (with_reducible exact ih1 _ _ _ _ _ _ _ _ _ _ _ _ _ _ _ _ _ _)
   | (with_reducible exact chanceryref3_ShapeAt.mono _ _ _)
   | (with_reducible exact LeO.refl _)
   | (with_reducible exact LeO.none _)
   | (with_reducible refine LeO.ite ?_ ?_)
   | (with_reducible refine LeO.bind ?_ (fun _ => ?_))
   | exact ih0 _ _ _ _ _ _ _ _ _ _ _ _ _ _ _ _
   | exact ih1 _ _ _ _ _ _ _ _ _ _ _ _ _ _ _ _ _ _
   | exact chanceryref3_ShapeAt.mono _ _ _
   | exact LeO.none _
   | refine LeO.ite ?_ ?_
   | refine LeO.bind ?_ (fun _ => ?_)
  ·intro y0 y1 y2 y3 y4 y5 y6 y7 y8 y9 y10 y11 y12 y13 y14 y15 y16 y17
   unfold chanceryref3_CornersOf.l1
   repeat' first
   | (with_reducible exact ih0 _ _ _ _ _ _ _ _ _ _ _ _ _ _ _ _)
   | (with_reducible exact ih1 _ _ _ _ _ _ _ _ _ _ _ _ _ _ _ _ _ _)
   | (with_reducible exact chanceryref3_ShapeAt.mono _ _ _)
   | (with_reducible exact LeO.refl _)
   | (with_reducible exact LeO.none _)
   | (with_reducible refine LeO.ite ?_ ?_)
   | (with_reducible refine LeO.bind ?_ (fun _ => ?_))
   | exact ih0 _ _ _ _ _ _ _ _ _ _ _ _ _ _ _ _
   | exact ih1 _ _ _ _ _ _ _ _ _ _ _ _ _ _ _ _ _ _
   | exact chanceryref3_ShapeAt.mono _ _ _
   | exact LeO.none _
   | refine LeO.ite ?_ ?_
   | refine LeO.bind ?_ (fun _ => ?_)
theorem chanceryref3_CornersOf.mono : ∀ a0 a1 k, LeO (chanceryref3_CornersOf.f k a0 a1) (chanceryref3_CornersOf.f (k + 1) a0 a1) := by
 intro a0 a1 k
 obtain ⟨ih0, ih1⟩ := chanceryref3_CornersOf.mono_l k
 unfold chanceryref3_CornersOf.f
 repeat' first
   | (with_reducible exact ih0 _ _ _ _ _ _ _ _ _ _ _ _ _ _ _ _)
   | (with_reducible exact ih1 _ _ _ _ _ _ _ _ _ _ _ _ _ _ _ _ _ _)
   | (with_reducible exact chanceryref3_ShapeAt.mono _ _ _)
   | (with_reducible exact LeO.refl _)
   | (with_reducible exact LeO.none _)
   | (with_reducible refine LeO.ite ?_ ?_)
   | (with_reducible refine LeO.bind ?_ (fun _ => ?_))
   | exact ih0 _ _ _ _ _ _ _ _ _ _ _ _ _ _ _ _
   | exact ih1 _ _ _ _ _ _ _ _ _ _ _ _ _ _ _ _ _ _
   | exact chanceryref3_ShapeAt.mono _ _ _
   | exact LeO.none _
   | refine LeO.ite ?_ ?_
   | refine LeO.bind ?_ (fun _ => ?_)
def chanceryref3_CornersOf.T6 : Bool × List (List Nat × List Nat) := (true, [([], []), ([], []), ([], []), ([], []), ([2, 3], [2, 3]), ([4], [4]), ([], []), ([6], [6]), ([], []), ([8], [8]), ([5, 7, 9, 7], [5, 7, 9]), ([0, 1, 0, 1, 2, 3, 4, 5, 6, 7, 8, 9, 10], [0, 1]), ([11, 10, 10, 0, 1, 2, 3, 4, 5, 6, 7, 8, 9, 10], [10, 11])])
def chanceryref3_CornersOf.B6 : List Nat := [0, 0, 0, 0, 12, 28, 0, 64, 0, 256, 1020, 2047, 4095]
theorem chanceryref3_CornersOf.tab6 : rtab .any (opsOf Tryd.f12 6) = chanceryref3_CornersOf.T6 := by kernel_rfl
theorem chanceryref3_CornersOf.bits6 : waitsOk chanceryref3_CornersOf.T6.2 chanceryref3_CornersOf.B6 = true := by kernel_rfl
def chanceryref3_CornersOf.T10 : Bool × List (List Nat × List Nat) := (true, [([], []), ([], []), ([], []), ([], []), ([2, 3], [2, 3]), ([4], [4]), ([5], [5]), ([], []), ([7], [7]), ([6, 8], [6, 8]), ([], []), ([], []), ([10, 11], [10, 11]), ([12], [12]), ([13], [13]), ([], []), ([15], [15]), ([14, 16], [14, 16]), ([9, 17], [9, 17]), ([], []), ([19], [19]), ([], []), ([21], [21]), ([18, 20, 22, 20], [18, 20, 22]), ([0, 1, 0, 1, 2, 3, 4, 5, 6, 7, 8, 9, 10, 11, 12, 13, 14, 15, 16, 17, 18, 19, 20, 21, 22, 23], [0, 1]), ([24, 23, 23, 0, 1, 2, 3, 4, 5, 6, 7, 8, 9, 10, 11, 12, 13, 14, 15, 16, 17, 18, 19, 20, 21, 22, 23], [23, 24])])
def chanceryref3_CornersOf.B10 : List Nat := [0, 0, 0, 0, 12, 28, 60, 0, 128, 508, 0, 0, 3072, 7168, 15360, 0, 32768, 130048, 262140, 0, 524288, 0, 2097152, 8388604, 16777215, 33554431]
theorem chanceryref3_CornersOf.tab10 : rtab .any (opsOf Tryd.f12 10) = chanceryref3_CornersOf.T10 := by kernel_rfl
theorem chanceryref3_CornersOf.bits10 : waitsOk chanceryref3_CornersOf.T10.2 chanceryref3_CornersOf.B10 = true := by kernel_rfl
set_option maxHeartbeats 8000000 in
set_option maxRecDepth 100000 in
theorem chanceryref3_CornersOf.calls (k : Nat) (A0 : Option Addr) (c0 : Nat) (l0 : List (S45)) (a1 : Int) (r : List (S37)) (w : World) (hr0 : Kd.C k45 w A0 l0.length l0) (hc0 : l0.length ≤ c0) (h : chanceryref3_CornersOf.f k l0 a1 = some r) (hL : LaidW w) :
  Calls Tryd.prog 12 #[.slice A0 l0.length c0, .int .i64 a1] w fun e w' => ∃ v0_ : Value, e = .returned (v0_) ∧ Kd.R k37 37 w' w.heap.size (fun _ => True) v0_ r ∧ Below w.heap.size w w' := by
 have HLd := Aside0.mk hL
 clear hL
 have hu45 := Tryd.underlying45
 have hu37 := Tryd.underlying37
 have HR0 := Aside0.mk hr0
 have HC0 := Aside0.mk hc0
 clear hr0 hc0
 have HB := Aside0.mk (Below.refl w.heap.size w)
 have H : (if 0 ≤ a1 then (if a1 < (l0.length : Int) then ((some (([(⟨(rd_T45 l0 a1).f3, (rd_T45 l0 a1).f4⟩ : S37), (⟨wrap64 (((rd_T45 l0 a1).f3) + ((rd_T45 l0 a1).f5)), (rd_T45 l0 a1).f4⟩ : S37), (⟨wrap64 (((rd_T45 l0 a1).f3) + ((rd_T45 l0 a1).f5)), wrap64 (((rd_T45 l0 a1).f4) + ((rd_T45 l0 a1).f6))⟩ : S37), (⟨(rd_T45 l0 a1).f3, wrap64 (((rd_T45 l0 a1).f4) + ((rd_T45 l0 a1).f6))⟩ : S37)] : List (S37)) : List (S37))).bind fun y129 => (chanceryref3_CornersOf.l0 k l0 y129 (y129.length : Int) 0 ((rd_T45 l0 a1).f0) ((rd_T45 l0 a1).f1) ((rd_T45 l0 a1).f2) ((rd_T45 l0 a1).f3) ((rd_T45 l0 a1).f4) ((rd_T45 l0 a1).f5) ((rd_T45 l0 a1).f6) ((rd_T45 l0 a1).f7) ((rd_T45 l0 a1).f8) ((rd_T45 l0 a1).f9) ((rd_T45 l0 a1).f10) ((rd_T45 l0 a1).f11))) else (none)) else (none)) = some r := h
 clear h
 by_cases c3 : 0 ≤ a1
 ·rw [if_pos c3] at H
  have c3b0 : decide (0 ≤ a1) = true := decide_eq_true c3
  clear c3
  by_cases c4 : a1 < (l0.length : Int)
  ·rw [if_pos c4] at H
   have c4b0 : decide (a1 < (l0.length : Int)) = true := decide_eq_true c4
   clear c4
   obtain ⟨y129, hy129⟩ : ∃ y_ : List (S37), y_ = (([(⟨(rd_T45 l0 a1).f3, (rd_T45 l0 a1).f4⟩ : S37), (⟨wrap64 (((rd_T45 l0 a1).f3) + ((rd_T45 l0 a1).f5)), (rd_T45 l0 a1).f4⟩ : S37), (⟨wrap64 (((rd_T45 l0 a1).f3) + ((rd_T45 l0 a1).f5)), wrap64 (((rd_T45 l0 a1).f4) + ((rd_T45 l0 a1).f6))⟩ : S37), (⟨(rd_T45 l0 a1).f3, wrap64 (((rd_T45 l0 a1).f4) + ((rd_T45 l0 a1).f6))⟩ : S37)] : List (S37))) := ⟨_, rfl⟩
   replace H : (chanceryref3_CornersOf.l0 k l0 y129 (y129.length : Int) 0 ((rd_T45 l0 a1).f0) ((rd_T45 l0 a1).f1) ((rd_T45 l0 a1).f2) ((rd_T45 l0 a1).f3) ((rd_T45 l0 a1).f4) ((rd_T45 l0 a1).f5) ((rd_T45 l0 a1).f6) ((rd_T45 l0 a1).f7) ((rd_T45 l0 a1).f8) ((rd_T45 l0 a1).f9) ((rd_T45 l0 a1).f10) ((rd_T45 l0 a1).f11)) = some r := by first | (rw [hy129]; with_reducible exact H) | (have H2_ := (Option.bind_some _ _).symm.trans H; rw [hy129]; with_reducible exact H2_) | (have H2_ := (Option.bind_some _ _).symm.trans H; with_reducible exact H2_) | with_reducible exact H | (rw [hy129]; exact H) | exact H
   have Ny129 := Aside0.mk hy129
   clear hy129
   have H' := Aside0.mk H
   clear H
   have p127 : 0 ≤ (a1 : Int) := of_decide_eq_true (by first | (with_reducible assumption) | assumption)
   have q127 : a1 < (l0.length : Int) := of_decide_eq_true (by first | (with_reducible assumption) | assumption)
   obtain ⟨ad127, e127, hx127_0, hx127_1, hx127_2, hx127_3, hx127_4, hx127_5, hx127_6, hx127_7, hx127_8, hx127_9, hx127_10, hx127_11⟩ := at_T45 HR0.out a1 p127 q127
   cases e127
   replace p127 := eq_true p127
   replace q127 := eq_true q127
   go_enter Tryd.func12, Tryd.ntmps12
   go_wp2_with (first | ((with_reducible refine gate_dst (N := 5) rfl ?_); refine box_event ?hg (N := 5) ?hd (cs := #[.int .i64 0, .int .i64 0, .int .i64 0, .int .i64 0, .int .i64 0, .int .i64 0, .int .i64 0, .int .i64 0, .int .i64 0, .int .i64 0, .string (⟨#[]⟩ : ByteArray), .string (⟨#[]⟩ : ByteArray)]) (t := 45) ?hr ?_; (case hd => rfl); (case hg => rfl); (case hr => first | (go_simp; done) | (go_simp; rfl)); intro gb128 hg w5 hbox hb; have n0_ := Aside0.mk (below_step (by repeat (first | (with_reducible first | exact HB.out | apply below_alloc | apply pw_below_drewN | apply below_drew1) | exact HB.out)) hb); have n1_ := Aside0.mk (hbox); have n2_ := Aside0.mk ((by rw [hg]; exact (below_size (by repeat (first | (with_reducible first | exact HB.out | apply below_alloc | apply pw_below_drewN | apply below_drew1) | exact HB.out))) : w.heap.size ≤ gb128)); have n3_ := Aside0.mk ((by rw [hg]; exact (below_size (by repeat (first | (with_reducible first | exact HB.out | apply below_alloc | apply pw_below_drewN | apply below_drew1) | exact HB.out))) : w.heap.size ≤ gb128)); clear HB; have HB := n0_; have BK128 := n1_; have GW128 := n2_; have GE128 := n3_; clear n0_ n1_ n2_ n3_; clear hb hbox hg; obtain ⟨hcz6_0, hcz6_1, hcz6_2, hcz6_3, hcz6_4, hcz6_5, hcz6_6, hcz6_7, hcz6_8, hcz6_9, hcz6_10, hcz6_11⟩ := cells12 BK128.out; have hfz6_ := fun j => blk_frozen BK128.out j) | ((with_reducible refine gate_dst (N := 46) rfl ?_); refine Kd.R_lit k37 _ 37 ?hg (N := 46) ?hd (xs := ([(⟨(rd_T45 l0 a1).f3, (rd_T45 l0 a1).f4⟩ : S37), (⟨wrap64 (((rd_T45 l0 a1).f3) + ((rd_T45 l0 a1).f5)), (rd_T45 l0 a1).f4⟩ : S37), (⟨wrap64 (((rd_T45 l0 a1).f3) + ((rd_T45 l0 a1).f5)), wrap64 (((rd_T45 l0 a1).f4) + ((rd_T45 l0 a1).f6))⟩ : S37), (⟨(rd_T45 l0 a1).f3, wrap64 (((rd_T45 l0 a1).f4) + ((rd_T45 l0 a1).f6))⟩ : S37)] : List (S37))) (inner := [.int .i64 ((rd_T45 l0 a1).f3), .int .i64 ((rd_T45 l0 a1).f4), .int .i64 (wrap64 (((rd_T45 l0 a1).f3) + ((rd_T45 l0 a1).f5))), .int .i64 ((rd_T45 l0 a1).f4), .int .i64 (wrap64 (((rd_T45 l0 a1).f3) + ((rd_T45 l0 a1).f5))), .int .i64 (wrap64 (((rd_T45 l0 a1).f4) + ((rd_T45 l0 a1).f6))), .int .i64 ((rd_T45 l0 a1).f3), .int .i64 (wrap64 (((rd_T45 l0 a1).f4) + ((rd_T45 l0 a1).f6)))]) (ok := fun _ => True) (okp := fun _ => True) ?hr ?hp (fun _ hk => hk) trivial (Below.refl _ _) (Nat.le_refl _) (by simp) ?_; (case hd => rfl); (case hg => rfl); (case hr => first | (go_simp; done) | (go_simp; rfl)); (case hp => exact (Reps.c2 (show Kd.M k37 _ _ _ (⟨(rd_T45 l0 a1).f3, (rd_T45 l0 a1).f4⟩ : S37) [.int .i64 ((rd_T45 l0 a1).f3), .int .i64 ((rd_T45 l0 a1).f4)] from (k37_mkM _ _ _ (⟨(rd_T45 l0 a1).f3, (rd_T45 l0 a1).f4⟩ : S37) )) (Reps.c2 (show Kd.M k37 _ _ _ (⟨wrap64 (((rd_T45 l0 a1).f3) + ((rd_T45 l0 a1).f5)), (rd_T45 l0 a1).f4⟩ : S37) [.int .i64 (wrap64 (((rd_T45 l0 a1).f3) + ((rd_T45 l0 a1).f5))), .int .i64 ((rd_T45 l0 a1).f4)] from (k37_mkM _ _ _ (⟨wrap64 (((rd_T45 l0 a1).f3) + ((rd_T45 l0 a1).f5)), (rd_T45 l0 a1).f4⟩ : S37) )) (Reps.c2 (show Kd.M k37 _ _ _ (⟨wrap64 (((rd_T45 l0 a1).f3) + ((rd_T45 l0 a1).f5)), wrap64 (((rd_T45 l0 a1).f4) + ((rd_T45 l0 a1).f6))⟩ : S37) [.int .i64 (wrap64 (((rd_T45 l0 a1).f3) + ((rd_T45 l0 a1).f5))), .int .i64 (wrap64 (((rd_T45 l0 a1).f4) + ((rd_T45 l0 a1).f6)))] from (k37_mkM _ _ _ (⟨wrap64 (((rd_T45 l0 a1).f3) + ((rd_T45 l0 a1).f5)), wrap64 (((rd_T45 l0 a1).f4) + ((rd_T45 l0 a1).f6))⟩ : S37) )) (Reps.c2 (show Kd.M k37 _ _ _ (⟨(rd_T45 l0 a1).f3, wrap64 (((rd_T45 l0 a1).f4) + ((rd_T45 l0 a1).f6))⟩ : S37) [.int .i64 ((rd_T45 l0 a1).f3), .int .i64 (wrap64 (((rd_T45 l0 a1).f4) + ((rd_T45 l0 a1).f6)))] from (k37_mkM _ _ _ (⟨(rd_T45 l0 a1).f3, wrap64 (((rd_T45 l0 a1).f4) + ((rd_T45 l0 a1).f6))⟩ : S37) )) (Reps.none _ _)))))); intro v130 w7 ho8 hb hg_ hnew_; clear hg_ hnew_; (first | rw [← Ny129.out] at ho8 | (simp only [Int.reduceToNat] at ho8; rw [← Ny129.out] at ho8)); have n0_ := Aside0.mk (Kd.R_lower ho8 (below_size (by repeat (first | (with_reducible first | exact HB.out | apply below_alloc | apply pw_below_drewN | apply below_drew1 | refine below_set ?_ GE128.out) | exact HB.out)))); have n1_ := Aside0.mk (blk_below (g := gb128) (o := .cells #[.int .i64 ((rd_T45 l0 a1).f0), .int .i64 ((rd_T45 l0 a1).f1), .int .i64 ((rd_T45 l0 a1).f2), .int .i64 ((rd_T45 l0 a1).f3), .int .i64 ((rd_T45 l0 a1).f4), .int .i64 ((rd_T45 l0 a1).f5), .int .i64 ((rd_T45 l0 a1).f6), .int .i64 ((rd_T45 l0 a1).f7), .int .i64 ((rd_T45 l0 a1).f8), .int .i64 ((rd_T45 l0 a1).f9), .string ((rd_T45 l0 a1).f10), .string ((rd_T45 l0 a1).f11)] 45 (0, 0)) (by (with_reducible repeat (first | refine blk_drewN ?_ _ | refine blk_drew ?_ | refine blk_alloc ?_ _)); refine blk_put (cs := #[.int .i64 ((rd_T45 l0 a1).f0), .int .i64 ((rd_T45 l0 a1).f1), .int .i64 ((rd_T45 l0 a1).f2), .int .i64 ((rd_T45 l0 a1).f3), .int .i64 ((rd_T45 l0 a1).f4), .int .i64 ((rd_T45 l0 a1).f5), .int .i64 ((rd_T45 l0 a1).f6), .int .i64 ((rd_T45 l0 a1).f7), .int .i64 ((rd_T45 l0 a1).f8), .int .i64 ((rd_T45 l0 a1).f9), .string ((rd_T45 l0 a1).f10), .string (⟨#[]⟩ : ByteArray)]) ?_ 11 _ rfl; (with_reducible repeat (first | refine blk_drewN ?_ _ | refine blk_drew ?_ | refine blk_alloc ?_ _)); refine blk_put (cs := #[.int .i64 ((rd_T45 l0 a1).f0), .int .i64 ((rd_T45 l0 a1).f1), .int .i64 ((rd_T45 l0 a1).f2), .int .i64 ((rd_T45 l0 a1).f3), .int .i64 ((rd_T45 l0 a1).f4), .int .i64 ((rd_T45 l0 a1).f5), .int .i64 ((rd_T45 l0 a1).f6), .int .i64 ((rd_T45 l0 a1).f7), .int .i64 ((rd_T45 l0 a1).f8), .int .i64 ((rd_T45 l0 a1).f9), .string (⟨#[]⟩ : ByteArray), .string (⟨#[]⟩ : ByteArray)]) ?_ 10 _ rfl; (with_reducible repeat (first | refine blk_drewN ?_ _ | refine blk_drew ?_ | refine blk_alloc ?_ _)); refine blk_put (cs := #[.int .i64 ((rd_T45 l0 a1).f0), .int .i64 ((rd_T45 l0 a1).f1), .int .i64 ((rd_T45 l0 a1).f2), .int .i64 ((rd_T45 l0 a1).f3), .int .i64 ((rd_T45 l0 a1).f4), .int .i64 ((rd_T45 l0 a1).f5), .int .i64 ((rd_T45 l0 a1).f6), .int .i64 ((rd_T45 l0 a1).f7), .int .i64 ((rd_T45 l0 a1).f8), .int .i64 0, .string (⟨#[]⟩ : ByteArray), .string (⟨#[]⟩ : ByteArray)]) ?_ 9 _ rfl; (with_reducible repeat (first | refine blk_drewN ?_ _ | refine blk_drew ?_ | refine blk_alloc ?_ _)); refine blk_put (cs := #[.int .i64 ((rd_T45 l0 a1).f0), .int .i64 ((rd_T45 l0 a1).f1), .int .i64 ((rd_T45 l0 a1).f2), .int .i64 ((rd_T45 l0 a1).f3), .int .i64 ((rd_T45 l0 a1).f4), .int .i64 ((rd_T45 l0 a1).f5), .int .i64 ((rd_T45 l0 a1).f6), .int .i64 ((rd_T45 l0 a1).f7), .int .i64 0, .int .i64 0, .string (⟨#[]⟩ : ByteArray), .string (⟨#[]⟩ : ByteArray)]) ?_ 8 _ rfl; (with_reducible repeat (first | refine blk_drewN ?_ _ | refine blk_drew ?_ | refine blk_alloc ?_ _)); refine blk_put (cs := #[.int .i64 ((rd_T45 l0 a1).f0), .int .i64 ((rd_T45 l0 a1).f1), .int .i64 ((rd_T45 l0 a1).f2), .int .i64 ((rd_T45 l0 a1).f3), .int .i64 ((rd_T45 l0 a1).f4), .int .i64 ((rd_T45 l0 a1).f5), .int .i64 ((rd_T45 l0 a1).f6), .int .i64 0, .int .i64 0, .int .i64 0, .string (⟨#[]⟩ : ByteArray), .string (⟨#[]⟩ : ByteArray)]) ?_ 7 _ rfl; (with_reducible repeat (first | refine blk_drewN ?_ _ | refine blk_drew ?_ | refine blk_alloc ?_ _)); refine blk_put (cs := #[.int .i64 ((rd_T45 l0 a1).f0), .int .i64 ((rd_T45 l0 a1).f1), .int .i64 ((rd_T45 l0 a1).f2), .int .i64 ((rd_T45 l0 a1).f3), .int .i64 ((rd_T45 l0 a1).f4), .int .i64 ((rd_T45 l0 a1).f5), .int .i64 0, .int .i64 0, .int .i64 0, .int .i64 0, .string (⟨#[]⟩ : ByteArray), .string (⟨#[]⟩ : ByteArray)]) ?_ 6 _ rfl; (with_reducible repeat (first | refine blk_drewN ?_ _ | refine blk_drew ?_ | refine blk_alloc ?_ _)); refine blk_put (cs := #[.int .i64 ((rd_T45 l0 a1).f0), .int .i64 ((rd_T45 l0 a1).f1), .int .i64 ((rd_T45 l0 a1).f2), .int .i64 ((rd_T45 l0 a1).f3), .int .i64 ((rd_T45 l0 a1).f4), .int .i64 0, .int .i64 0, .int .i64 0, .int .i64 0, .int .i64 0, .string (⟨#[]⟩ : ByteArray), .string (⟨#[]⟩ : ByteArray)]) ?_ 5 _ rfl; (with_reducible repeat (first | refine blk_drewN ?_ _ | refine blk_drew ?_ | refine blk_alloc ?_ _)); refine blk_put (cs := #[.int .i64 ((rd_T45 l0 a1).f0), .int .i64 ((rd_T45 l0 a1).f1), .int .i64 ((rd_T45 l0 a1).f2), .int .i64 ((rd_T45 l0 a1).f3), .int .i64 0, .int .i64 0, .int .i64 0, .int .i64 0, .int .i64 0, .int .i64 0, .string (⟨#[]⟩ : ByteArray), .string (⟨#[]⟩ : ByteArray)]) ?_ 4 _ rfl; (with_reducible repeat (first | refine blk_drewN ?_ _ | refine blk_drew ?_ | refine blk_alloc ?_ _)); refine blk_put (cs := #[.int .i64 ((rd_T45 l0 a1).f0), .int .i64 ((rd_T45 l0 a1).f1), .int .i64 ((rd_T45 l0 a1).f2), .int .i64 0, .int .i64 0, .int .i64 0, .int .i64 0, .int .i64 0, .int .i64 0, .int .i64 0, .string (⟨#[]⟩ : ByteArray), .string (⟨#[]⟩ : ByteArray)]) ?_ 3 _ rfl; (with_reducible repeat (first | refine blk_drewN ?_ _ | refine blk_drew ?_ | refine blk_alloc ?_ _)); refine blk_put (cs := #[.int .i64 ((rd_T45 l0 a1).f0), .int .i64 ((rd_T45 l0 a1).f1), .int .i64 0, .int .i64 0, .int .i64 0, .int .i64 0, .int .i64 0, .int .i64 0, .int .i64 0, .int .i64 0, .string (⟨#[]⟩ : ByteArray), .string (⟨#[]⟩ : ByteArray)]) ?_ 2 _ rfl; (with_reducible repeat (first | refine blk_drewN ?_ _ | refine blk_drew ?_ | refine blk_alloc ?_ _)); refine blk_put (cs := #[.int .i64 ((rd_T45 l0 a1).f0), .int .i64 0, .int .i64 0, .int .i64 0, .int .i64 0, .int .i64 0, .int .i64 0, .int .i64 0, .int .i64 0, .int .i64 0, .string (⟨#[]⟩ : ByteArray), .string (⟨#[]⟩ : ByteArray)]) ?_ 1 _ rfl; (with_reducible repeat (first | refine blk_drewN ?_ _ | refine blk_drew ?_ | refine blk_alloc ?_ _)); refine blk_put (cs := #[.int .i64 0, .int .i64 0, .int .i64 0, .int .i64 0, .int .i64 0, .int .i64 0, .int .i64 0, .int .i64 0, .int .i64 0, .int .i64 0, .string (⟨#[]⟩ : ByteArray), .string (⟨#[]⟩ : ByteArray)]) ?_ 0 _ rfl; (with_reducible repeat (first | refine blk_drewN ?_ _ | refine blk_drew ?_ | refine blk_alloc ?_ _)); exact BK128.out) hb); have n2_ := Aside0.mk (below_step (by repeat (first | (with_reducible first | exact HB.out | apply below_alloc | apply pw_below_drewN | apply below_drew1 | refine below_set ?_ GE128.out) | exact HB.out)) hb); clear BK128; clear HB; have HO131 := n0_; have BK128 := n1_; have HB := n2_; clear n0_ n1_ n2_; clear hb ho8; obtain ⟨Ao9, co9, eo9⟩ := Kd.R_slice HO131.out; subst eo9))
   go_loopg [49] k (fun kq v49 w' => ∃ (x6_1 : List (S37)) (x49_1 : Int), v49 = .int .i64 x49_1 ∧ Aside0 (chanceryref3_CornersOf.l0 kq l0 x6_1 (y129.length : Int) x49_1 ((rd_T45 l0 a1).f0) ((rd_T45 l0 a1).f1) ((rd_T45 l0 a1).f2) ((rd_T45 l0 a1).f3) ((rd_T45 l0 a1).f4) ((rd_T45 l0 a1).f5) ((rd_T45 l0 a1).f6) ((rd_T45 l0 a1).f7) ((rd_T45 l0 a1).f8) ((rd_T45 l0 a1).f9) ((rd_T45 l0 a1).f10) ((rd_T45 l0 a1).f11) = some r) ∧ Aside0 (kq ≤ k) ∧ Aside0 (Kd.R k37 37 w' w.heap.size (fun _ => True) (.slice Ao9 y129.length co9) x6_1) ∧ Aside0 (w'.heap[gb128]? = some (.cells #[.int .i64 ((rd_T45 l0 a1).f0), .int .i64 ((rd_T45 l0 a1).f1), .int .i64 ((rd_T45 l0 a1).f2), .int .i64 ((rd_T45 l0 a1).f3), .int .i64 ((rd_T45 l0 a1).f4), .int .i64 ((rd_T45 l0 a1).f5), .int .i64 ((rd_T45 l0 a1).f6), .int .i64 ((rd_T45 l0 a1).f7), .int .i64 ((rd_T45 l0 a1).f8), .int .i64 ((rd_T45 l0 a1).f9), .string ((rd_T45 l0 a1).f10), .string ((rd_T45 l0 a1).f11)] 45 (0, 0))) ∧ Aside0 (Below w.heap.size w w'))
   case atStart => exact ⟨(y129), (0), (by first | rfl | (simp; done) | (simp [*]; done)), H', ⟨Nat.le_refl _⟩, ⟨by (with_reducible repeat (first | apply Kd.R_alloc | apply Kd.R_drewN | apply Kd.R_drew)); exact HO131.out⟩, ⟨by (with_reducible repeat (first | refine blk_drewN ?_ _ | refine blk_drew ?_ | refine blk_alloc ?_ _)); exact BK128.out⟩, ⟨by repeat (first | (with_reducible first | exact HB.out | apply below_alloc | apply pw_below_drewN | apply below_drew1 | refine below_set ?_ GE128.out) | exact HB.out)⟩⟩
   case round =>
    clear H'
    try clear c1; try clear p1; try clear q1; try clear hx1; try clear c2; try clear p2; try clear c3; try clear c3b0; try clear c4; try clear c4b0; try clear p6; try clear hcz6_0; try clear hcz6_1; try clear hcz6_10; try clear hcz6_11; try clear hcz6_2; try clear hcz6_3; try clear hcz6_4; try clear hcz6_5; try clear hcz6_6; try clear hcz6_7; try clear hcz6_8; try clear hcz6_9; try clear hfz6_0; try clear hfz6_1; try clear hfz6_10; try clear hfz6_11; try clear hfz6_2; try clear hfz6_3; try clear hfz6_4; try clear hfz6_5; try clear hfz6_6; try clear hfz6_7; try clear hfz6_8; try clear hfz6_9; try clear hx127_0; try clear hx127_1; try clear hx127_10; try clear hx127_11; try clear hx127_2; try clear hx127_3; try clear hx127_4; try clear hx127_5; try clear hx127_6; try clear hx127_7; try clear hx127_8; try clear hx127_9; try clear p127; try clear q127
    obtain ⟨x6_1, x49_1, rfl, HA, HK1, HO_6, BK128, HB⟩ := hrel
    have hl6_1 := (Kd.R_reads' HO_6.out).1
    rw [hl6_1] at HO_6
    (try simp only [hl6_1])
    (try simp only [hl6_1] at BK128)
    cases gk with
    | zero => exact absurd HA.out (by simp [chanceryref3_CornersOf.l0])
    | succ k1 =>
     have H := HA.out
     clear HA
     simp only [chanceryref3_CornersOf.l0] at H
     by_cases c10 : x49_1 < (y129.length : Int)
     ·rw [if_pos c10] at H
      have c10b0 : decide (x49_1 < (y129.length : Int)) = true := decide_eq_true c10
      have c10y : decide (x49_1 < (x6_1.length : Int)) = true := by rw [← hl6_1]; exact c10b0
      clear c10
      by_cases c11 : 0 ≤ x49_1
      ·rw [if_pos c11] at H
       have c11b0 : decide (0 ≤ x49_1) = true := decide_eq_true c11
       clear c11
       by_cases c12 : x49_1 < (x6_1.length : Int)
       ·rw [if_pos c12] at H
        have c12b0 : decide (x49_1 < (x6_1.length : Int)) = true := decide_eq_true c12
        clear c12
        replace H := Option.bind_eq_some_iff.mp H
        obtain ⟨⟨t133, t134⟩, A130, H⟩ := H
        replace H : ((chanceryref3_TurnPoint.f ((rd_T37 x6_1 x49_1).f0) ((rd_T37 x6_1 x49_1).f1) t133 t134 ((rd_T45 l0 a1).f7)).bind fun bt135 => (chanceryref3_CornersOf.l1 k1 l0 (x6_1.set (x49_1 : Int).toNat (⟨bt135.1, bt135.2⟩ : S37)) x49_1 ((rd_T45 l0 a1).f1) (y129.length : Int) x49_1 ((rd_T45 l0 a1).f0) ((rd_T45 l0 a1).f1) ((rd_T45 l0 a1).f2) ((rd_T45 l0 a1).f3) ((rd_T45 l0 a1).f4) ((rd_T45 l0 a1).f5) ((rd_T45 l0 a1).f6) ((rd_T45 l0 a1).f7) ((rd_T45 l0 a1).f8) ((rd_T45 l0 a1).f9) ((rd_T45 l0 a1).f10) ((rd_T45 l0 a1).f11))) = some r := H
        have A13 := Aside0.mk A130
        clear A130
        replace H := Option.bind_eq_some_iff.mp H
        obtain ⟨⟨t135, t136⟩, A140, H⟩ := H
        replace H : (chanceryref3_CornersOf.l1 k1 l0 (x6_1.set (x49_1 : Int).toNat (⟨t135, t136⟩ : S37)) x49_1 ((rd_T45 l0 a1).f1) (y129.length : Int) x49_1 ((rd_T45 l0 a1).f0) ((rd_T45 l0 a1).f1) ((rd_T45 l0 a1).f2) ((rd_T45 l0 a1).f3) ((rd_T45 l0 a1).f4) ((rd_T45 l0 a1).f5) ((rd_T45 l0 a1).f6) ((rd_T45 l0 a1).f7) ((rd_T45 l0 a1).f8) ((rd_T45 l0 a1).f9) ((rd_T45 l0 a1).f10) ((rd_T45 l0 a1).f11)) = some r := H
        have A14 := Aside0.mk A140
        clear A140
        obtain ⟨y137, hy137⟩ : ∃ y_ : List (S37), y_ = (x6_1.set (x49_1 : Int).toNat (⟨t135, t136⟩ : S37)) := ⟨_, rfl⟩
        replace H : (chanceryref3_CornersOf.l1 k1 l0 y137 x49_1 ((rd_T45 l0 a1).f1) (y129.length : Int) x49_1 ((rd_T45 l0 a1).f0) ((rd_T45 l0 a1).f1) ((rd_T45 l0 a1).f2) ((rd_T45 l0 a1).f3) ((rd_T45 l0 a1).f4) ((rd_T45 l0 a1).f5) ((rd_T45 l0 a1).f6) ((rd_T45 l0 a1).f7) ((rd_T45 l0 a1).f8) ((rd_T45 l0 a1).f9) ((rd_T45 l0 a1).f10) ((rd_T45 l0 a1).f11)) = some r := by first | (rw [hy137]; with_reducible exact H) | (have H2_ := (Option.bind_some _ _).symm.trans H; rw [hy137]; with_reducible exact H2_) | (have H2_ := (Option.bind_some _ _).symm.trans H; with_reducible exact H2_) | with_reducible exact H | (rw [hy137]; exact H) | exact H
        have Ny137 := Aside0.mk hy137
        clear hy137
        have H' := Aside0.mk H
        clear H
        try go_wp2
        have n0_ := Aside0.mk (Kd.R_drew HO_6.out)
        have n1_ := Aside0.mk (blk_drew BK128.out)
        have n2_ := Aside0.mk (below_drew1 HB.out)
        clear HO_6; clear BK128; clear HB
        have HO_6 := n0_
        have BK128 := n1_
        have HB := n2_
        clear n0_ n1_ n2_
        have p132 : 0 ≤ (x49_1 : Int) := of_decide_eq_true (by first | (with_reducible assumption) | assumption)
        have q132 : x49_1 < (x6_1.length : Int) := of_decide_eq_true (by first | (with_reducible assumption) | assumption)
        obtain ⟨ad132, e132, hx132_0, hx132_1⟩ := at_T37 (Kd.R_reads' HO_6.out).2.2 x49_1 p132 q132
        cases e132
        replace p132 := eq_true p132
        replace q132 := eq_true q132
        refine start_ (n := 13) (S := fun w' => w'.cell? ⟨gb128, 0, none⟩ = some (.int .i64 ((rd_T45 l0 a1).f0)) ∧ w'.cell? ⟨gb128, 1, none⟩ = some (.int .i64 ((rd_T45 l0 a1).f1)) ∧ w'.cell? ⟨gb128, 2, none⟩ = some (.int .i64 ((rd_T45 l0 a1).f2)) ∧ w'.cell? ⟨gb128, 3, none⟩ = some (.int .i64 ((rd_T45 l0 a1).f3)) ∧ w'.cell? ⟨gb128, 4, none⟩ = some (.int .i64 ((rd_T45 l0 a1).f4)) ∧ w'.cell? ⟨gb128, 5, none⟩ = some (.int .i64 ((rd_T45 l0 a1).f5)) ∧ w'.cell? ⟨gb128, 6, none⟩ = some (.int .i64 ((rd_T45 l0 a1).f6)) ∧ w'.cell? ⟨gb128, 7, none⟩ = some (.int .i64 ((rd_T45 l0 a1).f7)) ∧ w'.cell? ⟨gb128, 8, none⟩ = some (.int .i64 ((rd_T45 l0 a1).f8)) ∧ w'.cell? ⟨gb128, 9, none⟩ = some (.int .i64 ((rd_T45 l0 a1).f9)) ∧ w'.cell? ⟨gb128, 10, none⟩ = some (.string ((rd_T45 l0 a1).f10)) ∧ w'.cell? ⟨gb128, 11, none⟩ = some (.string ((rd_T45 l0 a1).f11)) ∧ w'.cell? (ad132.add ((x49_1).toNat * 2)) = some (.int .i64 ((rd_T37 x6_1 x49_1).f0)) ∧ w'.cell? ⟨(ad132.add ((x49_1).toNat * 2)).block, (ad132.add ((x49_1).toNat * 2)).off + 1, none⟩ = some (.int .i64 ((rd_T37 x6_1 x49_1).f1))) (ds := [12]) #[false, false, false, false, false, false, false, false, false, false, false, false, false] (by kernel_rfl) rfl rfl ⟨(blk_cell BK128.out 0).trans rfl, (blk_cell BK128.out 1).trans rfl, (blk_cell BK128.out 2).trans rfl, (blk_cell BK128.out 3).trans rfl, (blk_cell BK128.out 4).trans rfl, (blk_cell BK128.out 5).trans rfl, (blk_cell BK128.out 6).trans rfl, (blk_cell BK128.out 7).trans rfl, (blk_cell BK128.out 8).trans rfl, (blk_cell BK128.out 9).trans rfl, (blk_cell BK128.out 10).trans rfl, (blk_cell BK128.out 11).trans rfl, hx132_0, hx132_1⟩ (fun hHeld => ?_); refine with_tabW chanceryref3_CornersOf.tab6 chanceryref3_CornersOf.bits6 (fun HT_ HW_ => ?_)
        generalize wr.drew = w16 at HO_6 BK128 HB hx132_0 hx132_1 hHeld ⊢
        refine pure_ (i := 0) (N := some 52) (v := ?_) (a' := ?_) #[true, false, false, false, false, false, false, false, false, false, false, false, false] rfl rfl (any_of HT_.out (by kernel_rfl)) (fun _ _ _ h => h) (Or.inl ⟨by rfl, ?_⟩) ?_ ?_
        rotate_left
        ·intro w'
         go_simp
         with_reducible rfl
        rotate_left
        ·simp only [Act.put, List.setIfInBounds_toArray, List.set_cons_zero, List.set_cons_succ, i64_w, i32_w]
         rfl
        refine pure_ (i := 1) (N := some 53) (v := ?_) (a' := ?_) #[true, true, false, false, false, false, false, false, false, false, false, false, false] rfl rfl (any_of HT_.out (by kernel_rfl)) (fun _ _ _ h => h) (Or.inl ⟨by rfl, ?_⟩) ?_ ?_
        rotate_left
        ·intro w'
         go_simp
         with_reducible rfl
        rotate_left
        ·simp only [Act.put, List.setIfInBounds_toArray, List.set_cons_zero, List.set_cons_succ, i64_w, i32_w]
         rfl
        refine pure_ (i := 2) (N := some 54) (v := ?_) (a' := ?_) #[true, true, true, false, false, false, false, false, false, false, false, false, false] rfl rfl (any_of HT_.out (by kernel_rfl)) (fun _ _ _ h => h) (Or.inl ⟨by rfl, ?_⟩) ?_ ?_
        rotate_left
        ·intro w'
         go_simp
         with_reducible rfl
        rotate_left
        ·simp only [Act.put, List.setIfInBounds_toArray, List.set_cons_zero, List.set_cons_succ, i64_w, i32_w]
         rfl
        refine pure_ (i := 3) (N := some 55) (v := ?_) (a' := ?_) #[true, true, true, true, false, false, false, false, false, false, false, false, false] rfl rfl (any_of HT_.out (by kernel_rfl)) (fun _ _ _ h => h) (Or.inl ⟨by rfl, ?_⟩) ?_ ?_
        rotate_left
        ·intro w'
         go_simp
         with_reducible rfl
        rotate_left
        ·simp only [Act.put, List.setIfInBounds_toArray, List.set_cons_zero, List.set_cons_succ, i64_w, i32_w]
         rfl
        refine pure_ (i := 4) (N := some 56) (v := ?_) (a' := ?_) #[true, true, true, true, true, false, false, false, false, false, false, false, false] rfl rfl (any_of HT_.out (by kernel_rfl)) (fun _ _ _ h => h) (Or.inl ⟨by rfl, ?_⟩) ?_ ?_
        rotate_left
        ·intro w'
         go_simp
         with_reducible rfl
        rotate_left
        ·simp only [Act.put, List.setIfInBounds_toArray, List.set_cons_zero, List.set_cons_succ, i64_w, i32_w]
         rfl
        refine pure_ (i := 8) (N := some 60) (v := ?_) (a' := ?_) #[true, true, true, true, true, false, false, false, true, false, false, false, false] rfl rfl (any_of HT_.out (by kernel_rfl)) (fun _ _ _ h => h) (Or.inl ⟨by rfl, ?_⟩) ?_ ?_
        rotate_left
        ·intro w'
         go_simp
         with_reducible rfl
        rotate_left
        ·simp only [Act.put, List.setIfInBounds_toArray, List.set_cons_zero, List.set_cons_succ, i64_w, i32_w]
         rfl
        refine take_ (i := 5) (N := some 57) (v := ?_) (a' := ?_) #[true, true, true, true, true, true, false, false, true, false, false, false, false] rfl rfl (take_ofW HT_.out HW_.out (by kernel_rfl)) (fun _ _ _ h => h) (Or.inl ⟨by rfl, ?_⟩) hHeld ?_ ?_
        rotate_left
        ·rintro w' ⟨s0, s1, s2, s3, s4, s5, s6, s7, s8, s9, s10, s11, s12, s13⟩
         go_simp
         with_reducible rfl
        rotate_left
        ·simp only [Act.put, List.setIfInBounds_toArray, List.set_cons_zero, List.set_cons_succ, i64_w, i32_w]
         rfl
        refine take_ (i := 6) (N := some 58) (v := ?_) (a' := ?_) #[true, true, true, true, true, true, true, false, true, false, false, false, false] rfl rfl (take_ofW HT_.out HW_.out (by kernel_rfl)) (fun _ _ _ h => h) (Or.inl ⟨by rfl, ?_⟩) hHeld ?_ ?_
        rotate_left
        ·rintro w' ⟨s0, s1, s2, s3, s4, s5, s6, s7, s8, s9, s10, s11, s12, s13⟩
         go_simp
         with_reducible rfl
        rotate_left
        ·simp only [Act.put, List.setIfInBounds_toArray, List.set_cons_zero, List.set_cons_succ, i64_w, i32_w]
         rfl
        refine take_ (i := 9) (N := some 61) (v := ?_) (a' := ?_) #[true, true, true, true, true, true, true, false, true, true, false, false, false] rfl rfl (take_ofW HT_.out HW_.out (by kernel_rfl)) (fun _ _ _ h => h) (Or.inl ⟨by rfl, ?_⟩) hHeld ?_ ?_
        rotate_left
        ·rintro w' ⟨s0, s1, s2, s3, s4, s5, s6, s7, s8, s9, s10, s11, s12, s13⟩
         go_simp
         with_reducible rfl
        rotate_left
        ·simp only [Act.put, List.setIfInBounds_toArray, List.set_cons_zero, List.set_cons_succ, i64_w, i32_w]
         rfl
        refine one_ (i := 7) (N := some 59) #[true, true, true, true, true, true, true, true, true, true, false, false, false] rfl rfl (one_of HT_.out (by kernel_rfl)) (by decide) (fun K hK => ?_)
        refine goes_ Tryd.func20 (by kernel_rfl) rfl #[.agg #[.int .i64 ((rd_T45 l0 a1).f0), .int .i64 ((rd_T45 l0 a1).f1), .int .i64 ((rd_T45 l0 a1).f2), .int .i64 ((rd_T45 l0 a1).f3), .int .i64 ((rd_T45 l0 a1).f4), .int .i64 ((rd_T45 l0 a1).f5), .int .i64 ((rd_T45 l0 a1).f6), .int .i64 ((rd_T45 l0 a1).f7), .int .i64 ((rd_T45 l0 a1).f8), .int .i64 ((rd_T45 l0 a1).f9), .string ((rd_T45 l0 a1).f10), .string ((rd_T45 l0 a1).f11)]] (by rfl) rfl rfl (by (try simp only [List.map_toArray, List.map_cons, List.map_nil]); first | done | rfl) ?_
        with_reducible refine (chanceryref3_middle.calls ((rd_T45 l0 a1).f0) ((rd_T45 l0 a1).f1) ((rd_T45 l0 a1).f2) ((rd_T45 l0 a1).f3) ((rd_T45 l0 a1).f4) ((rd_T45 l0 a1).f5) ((rd_T45 l0 a1).f6) ((rd_T45 l0 a1).f7) ((rd_T45 l0 a1).f8) ((rd_T45 l0 a1).f9) ((rd_T45 l0 a1).f10) ((rd_T45 l0 a1).f11) t133 t134 _ A13.out).mono ?_
        rintro e w17 ⟨rfl, hb⟩
        have HS12_ := (hb.cell (World.block_lt_of_cell? _ _ (hHeld.2.2.2.2.2.2.2.2.2.2.2.2.1))).trans (hHeld.2.2.2.2.2.2.2.2.2.2.2.2.1)
        have HS13_ := (hb.cell (World.block_lt_of_cell? _ _ (hHeld.2.2.2.2.2.2.2.2.2.2.2.2.2))).trans (hHeld.2.2.2.2.2.2.2.2.2.2.2.2.2)
        refine ⟨_, rfl, ?_⟩
        have n0_ := Aside0.mk (Kd.R_below (by (with_reducible repeat (first | apply Kd.R_alloc | apply Kd.R_drewN | apply Kd.R_drew)); exact HO_6.out) hb)
        have n1_ := Aside0.mk (blk_below (g := gb128) (o := .cells #[.int .i64 ((rd_T45 l0 a1).f0), .int .i64 ((rd_T45 l0 a1).f1), .int .i64 ((rd_T45 l0 a1).f2), .int .i64 ((rd_T45 l0 a1).f3), .int .i64 ((rd_T45 l0 a1).f4), .int .i64 ((rd_T45 l0 a1).f5), .int .i64 ((rd_T45 l0 a1).f6), .int .i64 ((rd_T45 l0 a1).f7), .int .i64 ((rd_T45 l0 a1).f8), .int .i64 ((rd_T45 l0 a1).f9), .string ((rd_T45 l0 a1).f10), .string ((rd_T45 l0 a1).f11)] 45 (0, 0)) (by (with_reducible repeat (first | refine blk_drewN ?_ _ | refine blk_drew ?_ | refine blk_alloc ?_ _)); exact BK128.out) hb)
        have n2_ := Aside0.mk (below_step (by repeat (first | (with_reducible first | exact HB.out | apply below_alloc | apply pw_below_drewN | apply below_drew1 | refine below_set ?_ GE128.out) | exact HB.out)) hb)
        clear HO_6; clear BK128; clear HB
        have HO_6 := n0_
        have BK128 := n1_
        have HB := n2_
        clear n0_ n1_ n2_
        (try clear hb)
        (try clear hb2)
        (try clear hk)
        (try clear hi)
        refine hK.out _ _ ⟨(blk_cell BK128.out 0).trans rfl, (blk_cell BK128.out 1).trans rfl, (blk_cell BK128.out 2).trans rfl, (blk_cell BK128.out 3).trans rfl, (blk_cell BK128.out 4).trans rfl, (blk_cell BK128.out 5).trans rfl, (blk_cell BK128.out 6).trans rfl, (blk_cell BK128.out 7).trans rfl, (blk_cell BK128.out 8).trans rfl, (blk_cell BK128.out 9).trans rfl, (blk_cell BK128.out 10).trans rfl, (blk_cell BK128.out 11).trans rfl, HS12_, HS13_⟩ (fun hHeld => ?_)
        clear hK K
        refine norm_ (a' := ?_) ?_ ?_
        rotate_left
        ·show Act.put _ (some 59) _ = _
         simp only [Act.put, List.setIfInBounds_toArray, List.set_cons_zero, List.set_cons_succ, i64_w, i32_w]
         rfl
        refine one_ (i := 10) (N := some 62) #[true, true, true, true, true, true, true, true, true, true, true, false, false] rfl rfl (one_of HT_.out (by kernel_rfl)) (by decide) (fun K hK => ?_)
        refine goes_ Tryd.func19 (by kernel_rfl) rfl #[.agg #[.int .i64 ((rd_T37 x6_1 x49_1).f0), .int .i64 ((rd_T37 x6_1 x49_1).f1)], .agg #[.int .i64 t133, .int .i64 t134], .int .i64 ((rd_T45 l0 a1).f7)] (by rfl) rfl rfl (by (try simp only [List.map_toArray, List.map_cons, List.map_nil]); first | done | rfl) ?_
        with_reducible refine (chanceryref3_TurnPoint.calls ((rd_T37 x6_1 x49_1).f0) ((rd_T37 x6_1 x49_1).f1) t133 t134 ((rd_T45 l0 a1).f7) t135 t136 _ A14.out ?sL).mono ?_
        (case sL => first | ((repeat (first | (with_reducible exact HLd.out) | (with_reducible refine LaidW.drewN ?_ _) | (with_reducible refine LaidW.drew ?_) | (with_reducible refine LaidW.alloc ?_ _))); done) | exact LaidW.now HLd.out (by repeat (first | (with_reducible first | exact HB.out | apply below_alloc | apply pw_below_drewN | apply below_drew1 | refine below_set ?_ GE128.out | refine below_set ?_ GE140.out) | exact HB.out)))
        rintro e w18 ⟨rfl, hb⟩
        have HS12_ := (hb.cell (World.block_lt_of_cell? _ _ (hHeld.2.2.2.2.2.2.2.2.2.2.2.2.1))).trans (hHeld.2.2.2.2.2.2.2.2.2.2.2.2.1)
        have HS13_ := (hb.cell (World.block_lt_of_cell? _ _ (hHeld.2.2.2.2.2.2.2.2.2.2.2.2.2))).trans (hHeld.2.2.2.2.2.2.2.2.2.2.2.2.2)
        refine ⟨_, rfl, ?_⟩
        have n0_ := Aside0.mk (Kd.R_below (by (with_reducible repeat (first | apply Kd.R_alloc | apply Kd.R_drewN | apply Kd.R_drew)); exact HO_6.out) hb)
        have n1_ := Aside0.mk (blk_below (g := gb128) (o := .cells #[.int .i64 ((rd_T45 l0 a1).f0), .int .i64 ((rd_T45 l0 a1).f1), .int .i64 ((rd_T45 l0 a1).f2), .int .i64 ((rd_T45 l0 a1).f3), .int .i64 ((rd_T45 l0 a1).f4), .int .i64 ((rd_T45 l0 a1).f5), .int .i64 ((rd_T45 l0 a1).f6), .int .i64 ((rd_T45 l0 a1).f7), .int .i64 ((rd_T45 l0 a1).f8), .int .i64 ((rd_T45 l0 a1).f9), .string ((rd_T45 l0 a1).f10), .string ((rd_T45 l0 a1).f11)] 45 (0, 0)) (by (with_reducible repeat (first | refine blk_drewN ?_ _ | refine blk_drew ?_ | refine blk_alloc ?_ _)); exact BK128.out) hb)
        have n2_ := Aside0.mk (below_step (by repeat (first | (with_reducible first | exact HB.out | apply below_alloc | apply pw_below_drewN | apply below_drew1 | refine below_set ?_ GE128.out) | exact HB.out)) hb)
        clear HO_6; clear BK128; clear HB
        have HO_6 := n0_
        have BK128 := n1_
        have HB := n2_
        clear n0_ n1_ n2_
        (try clear hb)
        (try clear hb2)
        (try clear hk)
        (try clear hi)
        have p15 : 0 ≤ (x49_1 : Int) := of_decide_eq_true (by first | (with_reducible assumption) | assumption)
        have q15 : (x49_1 : Int) < ((x6_1.length : Int) : Int) := of_decide_eq_true (by first | (with_reducible assumption) | assumption)
        obtain ⟨go15, co15, eo15, gb15, gl15, cl15, HG15⟩ := Kd.R_form HO_6.out (by omega)
        (first | cases eo15 | (injection eo15 with ea_ en_ ec_; (first | subst ea_ | (injection ea_ with ea_; subst ea_)); subst ec_; clear en_))
        have GB15 := Aside0.mk gb15
        have GG15 := Aside0.mk HG15
        clear gb15 gl15 HG15
        (first | simp only [add_plain] at hx132_0 | skip)
        (first | simp only [add_plain] at hx132_1 | skip)
        obtain ⟨ce15, hcl15, hM15, hcc15, hfr15⟩ := Kd.R_elem HO_6.out z37 (x49_1 : Int) p15 q15
        obtain rfl := k37_openM hM15
        have hx15_0 : World.cell? _ ⟨go15, (x49_1 : Int).toNat * 2, none⟩ = some (.int .i64 ((rd_T37 x6_1 x49_1).f0)) := hcc15 0 _ rfl
        have hx15_1 : World.cell? _ ⟨go15, (x49_1 : Int).toNat * 2 + 1, none⟩ = some (.int .i64 ((rd_T37 x6_1 x49_1).f1)) := hcc15 1 _ rfl
        have hf15_0 : World.frozen? _ ⟨go15, (x49_1 : Int).toNat * 2, none⟩ = false := hfr15 0
        have hf15_1 : World.frozen? _ ⟨go15, (x49_1 : Int).toNat * 2 + 1, none⟩ = false := hfr15 1
        clear hcl15 hcc15 hfr15 hM15
        replace p15 := eq_true p15
        replace q15 := eq_true q15
        obtain ⟨ce19, hcl19, hM19, hcc19, hfr19⟩ := Kd.R_elem HO_6.out z37 (x49_1 : Int) (of_decide_eq_true (by first | (with_reducible assumption) | assumption)) (by have h_ : (x49_1 : Int) < ((x6_1.length : Int) : Int) := of_decide_eq_true (by first | (with_reducible assumption) | assumption); first | exact h_ | (have e_ := (Kd.R_reads' HO_6.out).1; omega) | simpa using h_)
        obtain rfl := k37_openM hM19
        have HP19 := (Kd.R_seg HO_6.out (x49_1 : Int) (of_decide_eq_true (by first | (with_reducible assumption) | assumption)) (by have h_ : (x49_1 : Int) < ((x6_1.length : Int) : Int) := of_decide_eq_true (by first | (with_reducible assumption) | assumption); first | exact h_ | (have e_ := (Kd.R_reads' HO_6.out).1; omega) | simpa using h_) (seg := [.int .i64 t135, .int .i64 t136]) (j := 0) hcl19 hcc19 (show 2 ≤ 2 from by decide) (x' := (⟨t135, t136⟩ : S37)) (k37_mkM _ _ _ (⟨t135, t136⟩ : S37) ) (fun _ hk => hk)).1
        rw [← Ny137.out] at HP19
        have HQ19 := Aside0.mk HP19
        clear hcl19 hcc19 hfr19 hM19 HP19
        refine hK.out _ _ ⟨(blk_cell BK128.out 0).trans rfl, (blk_cell BK128.out 1).trans rfl, (blk_cell BK128.out 2).trans rfl, (blk_cell BK128.out 3).trans rfl, (blk_cell BK128.out 4).trans rfl, (blk_cell BK128.out 5).trans rfl, (blk_cell BK128.out 6).trans rfl, (blk_cell BK128.out 7).trans rfl, (blk_cell BK128.out 8).trans rfl, (blk_cell BK128.out 9).trans rfl, (blk_cell BK128.out 10).trans rfl, (blk_cell BK128.out 11).trans rfl, HS12_, HS13_⟩ (fun hHeld => ?_)
        clear hK K
        refine norm_ (a' := ?_) ?_ ?_
        rotate_left
        ·show Act.put _ (some 62) _ = _
         simp only [Act.put, List.setIfInBounds_toArray, List.set_cons_zero, List.set_cons_succ, i64_w, i32_w]
         rfl
        refine pure_ (i := 11) (N := some 63) (v := ?_) (a' := ?_) #[true, true, true, true, true, true, true, true, true, true, true, true, false] rfl rfl (any_of HT_.out (by kernel_rfl)) (fun _ _ _ h => h) (Or.inl ⟨by rfl, ?_⟩) ?_ ?_
        rotate_left
        ·intro w'
         go_simp
         with_reducible rfl
        rotate_left
        ·simp only [Act.put, List.setIfInBounds_toArray, List.set_cons_zero, List.set_cons_succ, i64_w, i32_w]
         rfl
        refine last_ (i := 12) (N := none) #[true, true, true, true, true, true, true, true, true, true, true, true, true] rfl rfl (one_of HT_.out (by kernel_rfl)) (by decide) (fun K hK => ?_)
        refine skip_ (w1 := ?_) (by rfl) rfl ?_ ?_
        rotate_left
        ·go_simp
         rfl
        refine hK.out _ _ ?_
        clear hK K
        refine done_ (done_of HT_.out (by kernel_rfl)) ?_
        obtain ⟨hcz20_0, hcz20_1, hcz20_2, hcz20_3, hcz20_4, hcz20_5, hcz20_6, hcz20_7, hcz20_8, hcz20_9, hcz20_10, hcz20_11⟩ := cells12 BK128.out
        have hfz20_ := fun j => blk_frozen BK128.out j
        try have hne_ : gb128 ≠ go15 := fun e => (Kd.R_ne HO_6.out BK128.out (by decide)) (by rw [e]; rfl)
        try have hcf_ : ∀ (W : World) (j i : Nat) (u : Value), (W.setCell ⟨go15, j, none⟩ u).cell? ⟨gb128, i, none⟩ = W.cell? ⟨gb128, i, none⟩ := fun W j i u => cell_far hne_ u
        try simp only [add_plain]
        try go_wp2
        go_loopg [8] k1 (fun kq v8 w' => ∃ (x6_2 : List (S37)) (x8_2 : Int), v8 = .int .i64 x8_2 ∧ Aside0 (chanceryref3_CornersOf.l1 kq l0 x6_2 x49_1 x8_2 (y129.length : Int) x49_1 ((rd_T45 l0 a1).f0) ((rd_T45 l0 a1).f1) ((rd_T45 l0 a1).f2) ((rd_T45 l0 a1).f3) ((rd_T45 l0 a1).f4) ((rd_T45 l0 a1).f5) ((rd_T45 l0 a1).f6) ((rd_T45 l0 a1).f7) ((rd_T45 l0 a1).f8) ((rd_T45 l0 a1).f9) ((rd_T45 l0 a1).f10) ((rd_T45 l0 a1).f11) = some r) ∧ Aside0 (kq ≤ k1) ∧ Aside0 (Kd.R k37 37 w' w.heap.size (fun _ => True) (.slice (some ⟨go15, 0, none⟩) x6_1.length co9) x6_2) ∧ Aside0 (w'.heap[gb128]? = some (.cells #[.int .i64 ((rd_T45 l0 a1).f0), .int .i64 ((rd_T45 l0 a1).f1), .int .i64 ((rd_T45 l0 a1).f2), .int .i64 ((rd_T45 l0 a1).f3), .int .i64 ((rd_T45 l0 a1).f4), .int .i64 ((rd_T45 l0 a1).f5), .int .i64 ((rd_T45 l0 a1).f6), .int .i64 ((rd_T45 l0 a1).f7), .int .i64 ((rd_T45 l0 a1).f8), .int .i64 ((rd_T45 l0 a1).f9), .string ((rd_T45 l0 a1).f10), .string ((rd_T45 l0 a1).f11)] 45 (0, 0))) ∧ Aside0 (Below w.heap.size w w'))
        case atStart => exact ⟨(y137), (((rd_T45 l0 a1).f1)), (by first | rfl | (simp; done) | (simp [*]; done)), H', ⟨Nat.le_refl _⟩, ⟨by (try simp only [hl6_1]); (with_reducible repeat (first | apply Kd.R_alloc | apply Kd.R_drewN | apply Kd.R_drew)); exact HQ19.out⟩, ⟨by (try simp only [hl6_1]); (with_reducible repeat (first | refine blk_drewN ?_ _ | refine blk_drew ?_ | refine blk_alloc ?_ _)); refine blk_far ?_ (by have h_ := Kd.R_ne HO_6.out BK128.out (by decide); intro e_; exact h_ (by rw [e_]; rfl)) _; (with_reducible repeat (first | refine blk_drewN ?_ _ | refine blk_drew ?_ | refine blk_alloc ?_ _)); refine blk_far ?_ (by have h_ := Kd.R_ne HO_6.out BK128.out (by decide); intro e_; exact h_ (by rw [e_]; rfl)) _; (with_reducible repeat (first | refine blk_drewN ?_ _ | refine blk_drew ?_ | refine blk_alloc ?_ _)); exact BK128.out⟩, ⟨by repeat (first | (with_reducible first | exact HB.out | apply below_alloc | apply pw_below_drewN | apply below_drew1 | refine below_set ?_ GB15.out | refine below_set ?_ GB15.out | refine below_set ?_ GE128.out) | exact HB.out)⟩⟩
        case round =>
         clear H'
         try clear c1; try clear p1; try clear q1; try clear hx1; try clear c2; try clear p2; try clear c3; try clear c3b0; try clear c4; try clear c4b0; try clear p6; try clear c10; try clear c10b0; try clear c11; try clear c11b0; try clear c12; try clear c12b0; try clear p12; try clear q12; try clear hx12; try clear p13; try clear q13; try clear hx13; try clear c15; try clear p15; try clear q15; try clear hx15; try clear hf15; try clear c19; try clear c20; try clear hcz20_0; try clear hcz20_1; try clear hcz20_10; try clear hcz20_11; try clear hcz20_2; try clear hcz20_3; try clear hcz20_4; try clear hcz20_5; try clear hcz20_6; try clear hcz20_7; try clear hcz20_8; try clear hcz20_9; try clear hcz6_0; try clear hcz6_1; try clear hcz6_10; try clear hcz6_11; try clear hcz6_2; try clear hcz6_3; try clear hcz6_4; try clear hcz6_5; try clear hcz6_6; try clear hcz6_7; try clear hcz6_8; try clear hcz6_9; try clear hfz20_0; try clear hfz20_1; try clear hfz20_10; try clear hfz20_11; try clear hfz20_2; try clear hfz20_3; try clear hfz20_4; try clear hfz20_5; try clear hfz20_6; try clear hfz20_7; try clear hfz20_8; try clear hfz20_9; try clear hfz6_0; try clear hfz6_1; try clear hfz6_10; try clear hfz6_11; try clear hfz6_2; try clear hfz6_3; try clear hfz6_4; try clear hfz6_5; try clear hfz6_6; try clear hfz6_7; try clear hfz6_8; try clear hfz6_9; try clear hx127_0; try clear hx127_1; try clear hx127_10; try clear hx127_11; try clear hx127_2; try clear hx127_3; try clear hx127_4; try clear hx127_5; try clear hx127_6; try clear hx127_7; try clear hx127_8; try clear hx127_9; try clear hx132_0; try clear hx132_1; try clear hx15_0; try clear hx15_1; try clear p127; try clear p132; try clear q127; try clear q132
         obtain ⟨x6_2, x8_2, rfl, HA, HK2, HO_6, BK128, HB⟩ := hrel
         have hl6_2 := (Kd.R_reads' HO_6.out).1
         rw [hl6_2] at HO_6
         (try simp only [hl6_2])
         (try simp only [hl6_2] at BK128)
         cases gk with
         | zero => exact absurd HA.out (by simp [chanceryref3_CornersOf.l1])
         | succ k2 =>
          have H := HA.out
          clear HA
          simp only [chanceryref3_CornersOf.l1] at H
          by_cases c21 : x8_2 = 0
          ·rw [if_pos c21] at H
           have c21b0 : (x8_2 == 0) = true := beq_iff_eq.mpr c21
           have c21b1 : (x8_2 != 0) = false := bne_eq_false_iff_eq.mpr c21
           clear c21
           have H' := Aside0.mk H
           clear H
           go_wp2
           (try simp only [← hl6_1, ← hl6_2])
           go_roundg k2
           case measure => have := HK1.out; have := HK2.out; omega
           case rel => exact ⟨(x6_2), (wrap64 (x49_1 + 1)), (by first | rfl | (simp; done) | (simp [*]; done)), H', ⟨by have := HK1.out; have := HK2.out; omega⟩, ⟨by (try simp only [hl6_1]); (try simp only [hl6_2]); (with_reducible repeat (first | apply Kd.R_alloc | apply Kd.R_drewN | apply Kd.R_drew)); exact HO_6.out⟩, ⟨by (try simp only [hl6_1]); (try simp only [hl6_2]); (with_reducible repeat (first | refine blk_drewN ?_ _ | refine blk_drew ?_ | refine blk_alloc ?_ _)); exact BK128.out⟩, ⟨by repeat (first | (with_reducible first | exact HB.out | apply below_alloc | apply pw_below_drewN | apply below_drew1 | refine below_set ?_ GE128.out) | exact HB.out)⟩⟩
          ·rw [if_neg c21] at H
           have c21b0 : (x8_2 == 0) = false := beq_eq_false_iff_ne.mpr c21
           have c21b1 : (x8_2 != 0) = true := bne_iff_ne.mpr c21
           replace H := Option.bind_eq_some_iff.mp H
           obtain ⟨t138, A220, H⟩ := H
           replace H : (if 0 ≤ t138 then (if t138 < (l0.length : Int) then (if 0 ≤ x49_1 then (if x49_1 < (x6_2.length : Int) then ((chanceryref3_middle.f ((rd_T45 l0 t138).f0) ((rd_T45 l0 t138).f1) ((rd_T45 l0 t138).f2) ((rd_T45 l0 t138).f3) ((rd_T45 l0 t138).f4) ((rd_T45 l0 t138).f5) ((rd_T45 l0 t138).f6) ((rd_T45 l0 t138).f7) ((rd_T45 l0 t138).f8) ((rd_T45 l0 t138).f9) ((rd_T45 l0 t138).f10) ((rd_T45 l0 t138).f11)).bind fun bt143 => ((chanceryref3_TurnPoint.f (wrap64 (((rd_T37 x6_2 x49_1).f0) + ((rd_T45 l0 t138).f3))) (wrap64 (((rd_T37 x6_2 x49_1).f1) + ((rd_T45 l0 t138).f4))) bt143.1 bt143.2 ((rd_T45 l0 t138).f7)).bind fun bt145 => (chanceryref3_CornersOf.l1 k2 l0 (x6_2.set (x49_1 : Int).toNat (⟨bt145.1, bt145.2⟩ : S37)) x49_1 ((rd_T45 l0 t138).f1) (y129.length : Int) x49_1 ((rd_T45 l0 a1).f0) ((rd_T45 l0 a1).f1) ((rd_T45 l0 a1).f2) ((rd_T45 l0 a1).f3) ((rd_T45 l0 a1).f4) ((rd_T45 l0 a1).f5) ((rd_T45 l0 a1).f6) ((rd_T45 l0 a1).f7) ((rd_T45 l0 a1).f8) ((rd_T45 l0 a1).f9) ((rd_T45 l0 a1).f10) ((rd_T45 l0 a1).f11)))) else (none)) else (none)) else (none)) else (none)) = some r := H
           have A22 := Aside0.mk A220
           clear A220
           by_cases c23 : 0 ≤ t138
           ·rw [if_pos c23] at H
            have c23b0 : decide (0 ≤ t138) = true := decide_eq_true c23
            clear c23
            by_cases c24 : t138 < (l0.length : Int)
            ·rw [if_pos c24] at H
             have c24b0 : decide (t138 < (l0.length : Int)) = true := decide_eq_true c24
             clear c24
             by_cases c25 : 0 ≤ x49_1
             ·rw [if_pos c25] at H
              have c25b0 : decide (0 ≤ x49_1) = true := decide_eq_true c25
              clear c25
              by_cases c26 : x49_1 < (x6_2.length : Int)
              ·rw [if_pos c26] at H
               have c26b0 : decide (x49_1 < (x6_2.length : Int)) = true := decide_eq_true c26
               clear c26
               replace H := Option.bind_eq_some_iff.mp H
               obtain ⟨⟨t143, t144⟩, A270, H⟩ := H
               replace H : ((chanceryref3_TurnPoint.f (wrap64 (((rd_T37 x6_2 x49_1).f0) + ((rd_T45 l0 t138).f3))) (wrap64 (((rd_T37 x6_2 x49_1).f1) + ((rd_T45 l0 t138).f4))) t143 t144 ((rd_T45 l0 t138).f7)).bind fun bt145 => (chanceryref3_CornersOf.l1 k2 l0 (x6_2.set (x49_1 : Int).toNat (⟨bt145.1, bt145.2⟩ : S37)) x49_1 ((rd_T45 l0 t138).f1) (y129.length : Int) x49_1 ((rd_T45 l0 a1).f0) ((rd_T45 l0 a1).f1) ((rd_T45 l0 a1).f2) ((rd_T45 l0 a1).f3) ((rd_T45 l0 a1).f4) ((rd_T45 l0 a1).f5) ((rd_T45 l0 a1).f6) ((rd_T45 l0 a1).f7) ((rd_T45 l0 a1).f8) ((rd_T45 l0 a1).f9) ((rd_T45 l0 a1).f10) ((rd_T45 l0 a1).f11))) = some r := H
               have A27 := Aside0.mk A270
               clear A270
               replace H := Option.bind_eq_some_iff.mp H
               obtain ⟨⟨t145, t146⟩, A280, H⟩ := H
               replace H : (chanceryref3_CornersOf.l1 k2 l0 (x6_2.set (x49_1 : Int).toNat (⟨t145, t146⟩ : S37)) x49_1 ((rd_T45 l0 t138).f1) (y129.length : Int) x49_1 ((rd_T45 l0 a1).f0) ((rd_T45 l0 a1).f1) ((rd_T45 l0 a1).f2) ((rd_T45 l0 a1).f3) ((rd_T45 l0 a1).f4) ((rd_T45 l0 a1).f5) ((rd_T45 l0 a1).f6) ((rd_T45 l0 a1).f7) ((rd_T45 l0 a1).f8) ((rd_T45 l0 a1).f9) ((rd_T45 l0 a1).f10) ((rd_T45 l0 a1).f11)) = some r := H
               have A28 := Aside0.mk A280
               clear A280
               obtain ⟨y147, hy147⟩ : ∃ y_ : List (S37), y_ = (x6_2.set (x49_1 : Int).toNat (⟨t145, t146⟩ : S37)) := ⟨_, rfl⟩
               replace H : (chanceryref3_CornersOf.l1 k2 l0 y147 x49_1 ((rd_T45 l0 t138).f1) (y129.length : Int) x49_1 ((rd_T45 l0 a1).f0) ((rd_T45 l0 a1).f1) ((rd_T45 l0 a1).f2) ((rd_T45 l0 a1).f3) ((rd_T45 l0 a1).f4) ((rd_T45 l0 a1).f5) ((rd_T45 l0 a1).f6) ((rd_T45 l0 a1).f7) ((rd_T45 l0 a1).f8) ((rd_T45 l0 a1).f9) ((rd_T45 l0 a1).f10) ((rd_T45 l0 a1).f11)) = some r := by first | (rw [hy147]; with_reducible exact H) | (have H2_ := (Option.bind_some _ _).symm.trans H; rw [hy147]; with_reducible exact H2_) | (have H2_ := (Option.bind_some _ _).symm.trans H; with_reducible exact H2_) | with_reducible exact H | (rw [hy147]; exact H) | exact H
               have Ny147 := Aside0.mk hy147
               clear hy147
               have H' := Aside0.mk H
               clear H
               try go_wp2_with (first | ((with_reducible refine gate_callee (f := 11) rfl ?_); refine goesL_ (some 71) rfl rfl Tryd.func11 (by kernel_rfl) rfl #[.slice (some ad127) l0.length c0, .int .i64 x8_2] rfl (by (try simp only [List.map_toArray, List.map_cons, List.map_nil]); first | done | rfl) ?_; (with_reducible refine (chanceryref3_ShapeAt.calls k2 _ _ l0 x8_2 t138 _ ?side1 ?side2 A22.out).mono ?_); (case side1 => repeat (first | exact (Kd.C_below HR0.out HB.out) | (with_reducible refine Kd.C_alloc ?_ _) | (with_reducible refine Kd.C_drewN ?_ _) | (with_reducible refine Kd.C_drew ?_))); (case side2 => exact HC0.out); rintro e w30 ⟨rfl, hb⟩; refine ⟨_, rfl, ?_⟩; have n0_ := Aside0.mk (Kd.R_below (by (with_reducible repeat (first | apply Kd.R_alloc | apply Kd.R_drewN | apply Kd.R_drew)); exact HO_6.out) hb); have n1_ := Aside0.mk (blk_below (g := gb128) (o := .cells #[.int .i64 ((rd_T45 l0 a1).f0), .int .i64 ((rd_T45 l0 a1).f1), .int .i64 ((rd_T45 l0 a1).f2), .int .i64 ((rd_T45 l0 a1).f3), .int .i64 ((rd_T45 l0 a1).f4), .int .i64 ((rd_T45 l0 a1).f5), .int .i64 ((rd_T45 l0 a1).f6), .int .i64 ((rd_T45 l0 a1).f7), .int .i64 ((rd_T45 l0 a1).f8), .int .i64 ((rd_T45 l0 a1).f9), .string ((rd_T45 l0 a1).f10), .string ((rd_T45 l0 a1).f11)] 45 (0, 0)) (by (with_reducible repeat (first | refine blk_drewN ?_ _ | refine blk_drew ?_ | refine blk_alloc ?_ _)); exact BK128.out) hb); have n2_ := Aside0.mk (below_step (by repeat (first | (with_reducible first | exact HB.out | apply below_alloc | apply pw_below_drewN | apply below_drew1 | refine below_set ?_ GE128.out) | exact HB.out)) hb); clear HO_6; clear BK128; clear HB; have HO_6 := n0_; have BK128 := n1_; have HB := n2_; clear n0_ n1_ n2_; (try clear hb); (try clear hb2); (try clear hk); (try clear hi); have p139 : 0 ≤ (t138 : Int) := of_decide_eq_true (by first | (with_reducible assumption) | assumption); have q139 : t138 < (l0.length : Int) := of_decide_eq_true (by first | (with_reducible assumption) | assumption); obtain ⟨ad139, e139, hx139_0, hx139_1, hx139_2, hx139_3, hx139_4, hx139_5, hx139_6, hx139_7, hx139_8, hx139_9, hx139_10, hx139_11⟩ := at_T45 HR0.out t138 p139 q139; obtain rfl : ad127 = ad139 := (by injection e139); replace hx139_0 := (HB.out.cell (World.block_lt_of_cell? w _ hx139_0)).trans hx139_0; replace hx139_1 := (HB.out.cell (World.block_lt_of_cell? w _ hx139_1)).trans hx139_1; replace hx139_2 := (HB.out.cell (World.block_lt_of_cell? w _ hx139_2)).trans hx139_2; replace hx139_3 := (HB.out.cell (World.block_lt_of_cell? w _ hx139_3)).trans hx139_3; replace hx139_4 := (HB.out.cell (World.block_lt_of_cell? w _ hx139_4)).trans hx139_4; replace hx139_5 := (HB.out.cell (World.block_lt_of_cell? w _ hx139_5)).trans hx139_5; replace hx139_6 := (HB.out.cell (World.block_lt_of_cell? w _ hx139_6)).trans hx139_6; replace hx139_7 := (HB.out.cell (World.block_lt_of_cell? w _ hx139_7)).trans hx139_7; replace hx139_8 := (HB.out.cell (World.block_lt_of_cell? w _ hx139_8)).trans hx139_8; replace hx139_9 := (HB.out.cell (World.block_lt_of_cell? w _ hx139_9)).trans hx139_9; replace hx139_10 := (HB.out.cell (World.block_lt_of_cell? w _ hx139_10)).trans hx139_10; replace hx139_11 := (HB.out.cell (World.block_lt_of_cell? w _ hx139_11)).trans hx139_11; replace p139 := eq_true p139; replace q139 := eq_true q139) | ((with_reducible refine gate_dst (N := 9) rfl ?_); refine box_event ?hg (N := 9) ?hd (cs := #[.int .i64 0, .int .i64 0, .int .i64 0, .int .i64 0, .int .i64 0, .int .i64 0, .int .i64 0, .int .i64 0, .int .i64 0, .int .i64 0, .string (⟨#[]⟩ : ByteArray), .string (⟨#[]⟩ : ByteArray)]) (t := 45) ?hr ?_; (case hd => rfl); (case hg => rfl); (case hr => first | (go_simp; done) | (go_simp; rfl)); intro gb140 hg w31 hbox hb; have n0_ := Aside0.mk (Kd.R_below (by (with_reducible repeat (first | apply Kd.R_alloc | apply Kd.R_drewN | apply Kd.R_drew)); exact HO_6.out) hb); have n1_ := Aside0.mk (blk_below (g := gb128) (o := .cells #[.int .i64 ((rd_T45 l0 a1).f0), .int .i64 ((rd_T45 l0 a1).f1), .int .i64 ((rd_T45 l0 a1).f2), .int .i64 ((rd_T45 l0 a1).f3), .int .i64 ((rd_T45 l0 a1).f4), .int .i64 ((rd_T45 l0 a1).f5), .int .i64 ((rd_T45 l0 a1).f6), .int .i64 ((rd_T45 l0 a1).f7), .int .i64 ((rd_T45 l0 a1).f8), .int .i64 ((rd_T45 l0 a1).f9), .string ((rd_T45 l0 a1).f10), .string ((rd_T45 l0 a1).f11)] 45 (0, 0)) (by (with_reducible repeat (first | refine blk_drewN ?_ _ | refine blk_drew ?_ | refine blk_alloc ?_ _)); exact BK128.out) hb); have n2_ := Aside0.mk (below_step (by repeat (first | (with_reducible first | exact HB.out | apply below_alloc | apply pw_below_drewN | apply below_drew1 | refine below_set ?_ GE128.out) | exact HB.out)) hb); have n3_ := Aside0.mk (hbox); have n4_ := Aside0.mk ((by rw [hg]; exact (below_size (by repeat (first | (with_reducible first | exact HB.out | apply below_alloc | apply pw_below_drewN | apply below_drew1 | refine below_set ?_ GE128.out) | exact HB.out))) : w.heap.size ≤ gb140)); have n5_ := Aside0.mk ((by rw [hg]; exact (below_size (by repeat (first | (with_reducible first | exact HB.out | apply below_alloc | apply pw_below_drewN | apply below_drew1 | refine below_set ?_ GE128.out) | exact HB.out))) : w.heap.size ≤ gb140)); have n6_ := Aside0.mk ((by rw [hg]; exact Nat.ne_of_lt (blk_lt (g := gb128) (o := .cells #[.int .i64 ((rd_T45 l0 a1).f0), .int .i64 ((rd_T45 l0 a1).f1), .int .i64 ((rd_T45 l0 a1).f2), .int .i64 ((rd_T45 l0 a1).f3), .int .i64 ((rd_T45 l0 a1).f4), .int .i64 ((rd_T45 l0 a1).f5), .int .i64 ((rd_T45 l0 a1).f6), .int .i64 ((rd_T45 l0 a1).f7), .int .i64 ((rd_T45 l0 a1).f8), .int .i64 ((rd_T45 l0 a1).f9), .string ((rd_T45 l0 a1).f10), .string ((rd_T45 l0 a1).f11)] 45 (0, 0)) (by (with_reducible repeat (first | refine blk_drewN ?_ _ | refine blk_drew ?_ | refine blk_alloc ?_ _)); exact BK128.out)) : gb128 ≠ gb140)); have n7_ := Aside0.mk ((by rw [hg]; exact Nat.ne_of_gt (blk_lt (g := gb128) (o := .cells #[.int .i64 ((rd_T45 l0 a1).f0), .int .i64 ((rd_T45 l0 a1).f1), .int .i64 ((rd_T45 l0 a1).f2), .int .i64 ((rd_T45 l0 a1).f3), .int .i64 ((rd_T45 l0 a1).f4), .int .i64 ((rd_T45 l0 a1).f5), .int .i64 ((rd_T45 l0 a1).f6), .int .i64 ((rd_T45 l0 a1).f7), .int .i64 ((rd_T45 l0 a1).f8), .int .i64 ((rd_T45 l0 a1).f9), .string ((rd_T45 l0 a1).f10), .string ((rd_T45 l0 a1).f11)] 45 (0, 0)) (by (with_reducible repeat (first | refine blk_drewN ?_ _ | refine blk_drew ?_ | refine blk_alloc ?_ _)); exact BK128.out)) : gb140 ≠ gb128)); clear HO_6; clear BK128; clear HB; have HO_6 := n0_; have BK128 := n1_; have HB := n2_; have BK140 := n3_; have GW140 := n4_; have GE140 := n5_; have NB128_140 := n6_; have NB140_128 := n7_; clear n0_ n1_ n2_ n3_ n4_ n5_ n6_ n7_; clear hb hbox hg; have hnb32 := NB140_128.out; have hnc32 := NB128_140.out; obtain ⟨hcz33_0, hcz33_1, hcz33_2, hcz33_3, hcz33_4, hcz33_5, hcz33_6, hcz33_7, hcz33_8, hcz33_9, hcz33_10, hcz33_11⟩ := cells12 BK140.out; have hfz33_ := fun j => blk_frozen BK140.out j))
               have n0_ : Aside0 (Kd.R k37 37 ((((((((((((w31.setCell ⟨gb140, 0, none⟩ (.int .i64 ((rd_T45 l0 t138).f0))).setCell ⟨gb140, 1, none⟩ (.int .i64 ((rd_T45 l0 t138).f1))).setCell ⟨gb140, 2, none⟩ (.int .i64 ((rd_T45 l0 t138).f2))).setCell ⟨gb140, 3, none⟩ (.int .i64 ((rd_T45 l0 t138).f3))).setCell ⟨gb140, 4, none⟩ (.int .i64 ((rd_T45 l0 t138).f4))).setCell ⟨gb140, 5, none⟩ (.int .i64 ((rd_T45 l0 t138).f5))).setCell ⟨gb140, 6, none⟩ (.int .i64 ((rd_T45 l0 t138).f6))).setCell ⟨gb140, 7, none⟩ (.int .i64 ((rd_T45 l0 t138).f7))).setCell ⟨gb140, 8, none⟩ (.int .i64 ((rd_T45 l0 t138).f8))).setCell ⟨gb140, 9, none⟩ (.int .i64 ((rd_T45 l0 t138).f9))).setCell ⟨gb140, 10, none⟩ (.string ((rd_T45 l0 t138).f10))).setCell ⟨gb140, 11, none⟩ (.string ((rd_T45 l0 t138).f11))) w.heap.size (fun _ => True) (.slice (some ⟨go15, 0, none⟩) x6_2.length co9) x6_2) := ⟨by (with_reducible repeat (first | apply Kd.R_alloc | apply Kd.R_drewN | apply Kd.R_drew)); exact Kd.R_mono (Kd.R_far (p := ⟨gb140, 11, none⟩) (Kd.R_far (p := ⟨gb140, 10, none⟩) (Kd.R_far (p := ⟨gb140, 9, none⟩) (Kd.R_far (p := ⟨gb140, 8, none⟩) (Kd.R_far (p := ⟨gb140, 7, none⟩) (Kd.R_far (p := ⟨gb140, 6, none⟩) (Kd.R_far (p := ⟨gb140, 5, none⟩) (Kd.R_far (p := ⟨gb140, 4, none⟩) (Kd.R_far (p := ⟨gb140, 3, none⟩) (Kd.R_far (p := ⟨gb140, 2, none⟩) (Kd.R_far (p := ⟨gb140, 1, none⟩) (Kd.R_far (p := ⟨gb140, 0, none⟩) (Kd.R_types HO_6.out BK140.out (by decide)) (fun _ hk => hk.2) (.int .i64 ((rd_T45 l0 t138).f0))) (fun _ hk => hk.2) (.int .i64 ((rd_T45 l0 t138).f1))) (fun _ hk => hk.2) (.int .i64 ((rd_T45 l0 t138).f2))) (fun _ hk => hk.2) (.int .i64 ((rd_T45 l0 t138).f3))) (fun _ hk => hk.2) (.int .i64 ((rd_T45 l0 t138).f4))) (fun _ hk => hk.2) (.int .i64 ((rd_T45 l0 t138).f5))) (fun _ hk => hk.2) (.int .i64 ((rd_T45 l0 t138).f6))) (fun _ hk => hk.2) (.int .i64 ((rd_T45 l0 t138).f7))) (fun _ hk => hk.2) (.int .i64 ((rd_T45 l0 t138).f8))) (fun _ hk => hk.2) (.int .i64 ((rd_T45 l0 t138).f9))) (fun _ hk => hk.2) (.string ((rd_T45 l0 t138).f10))) (fun _ hk => hk.2) (.string ((rd_T45 l0 t138).f11))) (fun _ hk => trivial)⟩
               have n1_ : Aside0 (((((((((((((w31.setCell ⟨gb140, 0, none⟩ (.int .i64 ((rd_T45 l0 t138).f0))).setCell ⟨gb140, 1, none⟩ (.int .i64 ((rd_T45 l0 t138).f1))).setCell ⟨gb140, 2, none⟩ (.int .i64 ((rd_T45 l0 t138).f2))).setCell ⟨gb140, 3, none⟩ (.int .i64 ((rd_T45 l0 t138).f3))).setCell ⟨gb140, 4, none⟩ (.int .i64 ((rd_T45 l0 t138).f4))).setCell ⟨gb140, 5, none⟩ (.int .i64 ((rd_T45 l0 t138).f5))).setCell ⟨gb140, 6, none⟩ (.int .i64 ((rd_T45 l0 t138).f6))).setCell ⟨gb140, 7, none⟩ (.int .i64 ((rd_T45 l0 t138).f7))).setCell ⟨gb140, 8, none⟩ (.int .i64 ((rd_T45 l0 t138).f8))).setCell ⟨gb140, 9, none⟩ (.int .i64 ((rd_T45 l0 t138).f9))).setCell ⟨gb140, 10, none⟩ (.string ((rd_T45 l0 t138).f10))).setCell ⟨gb140, 11, none⟩ (.string ((rd_T45 l0 t138).f11))).heap[gb128]? = some (.cells #[.int .i64 ((rd_T45 l0 a1).f0), .int .i64 ((rd_T45 l0 a1).f1), .int .i64 ((rd_T45 l0 a1).f2), .int .i64 ((rd_T45 l0 a1).f3), .int .i64 ((rd_T45 l0 a1).f4), .int .i64 ((rd_T45 l0 a1).f5), .int .i64 ((rd_T45 l0 a1).f6), .int .i64 ((rd_T45 l0 a1).f7), .int .i64 ((rd_T45 l0 a1).f8), .int .i64 ((rd_T45 l0 a1).f9), .string ((rd_T45 l0 a1).f10), .string ((rd_T45 l0 a1).f11)] 45 (0, 0))) := ⟨by (with_reducible repeat (first | refine blk_drewN ?_ _ | refine blk_drew ?_ | refine blk_alloc ?_ _)); refine blk_far ?_ NB128_140.out _; (with_reducible repeat (first | refine blk_drewN ?_ _ | refine blk_drew ?_ | refine blk_alloc ?_ _)); refine blk_far ?_ NB128_140.out _; (with_reducible repeat (first | refine blk_drewN ?_ _ | refine blk_drew ?_ | refine blk_alloc ?_ _)); refine blk_far ?_ NB128_140.out _; (with_reducible repeat (first | refine blk_drewN ?_ _ | refine blk_drew ?_ | refine blk_alloc ?_ _)); refine blk_far ?_ NB128_140.out _; (with_reducible repeat (first | refine blk_drewN ?_ _ | refine blk_drew ?_ | refine blk_alloc ?_ _)); refine blk_far ?_ NB128_140.out _; (with_reducible repeat (first | refine blk_drewN ?_ _ | refine blk_drew ?_ | refine blk_alloc ?_ _)); refine blk_far ?_ NB128_140.out _; (with_reducible repeat (first | refine blk_drewN ?_ _ | refine blk_drew ?_ | refine blk_alloc ?_ _)); refine blk_far ?_ NB128_140.out _; (with_reducible repeat (first | refine blk_drewN ?_ _ | refine blk_drew ?_ | refine blk_alloc ?_ _)); refine blk_far ?_ NB128_140.out _; (with_reducible repeat (first | refine blk_drewN ?_ _ | refine blk_drew ?_ | refine blk_alloc ?_ _)); refine blk_far ?_ NB128_140.out _; (with_reducible repeat (first | refine blk_drewN ?_ _ | refine blk_drew ?_ | refine blk_alloc ?_ _)); refine blk_far ?_ NB128_140.out _; (with_reducible repeat (first | refine blk_drewN ?_ _ | refine blk_drew ?_ | refine blk_alloc ?_ _)); refine blk_far ?_ NB128_140.out _; (with_reducible repeat (first | refine blk_drewN ?_ _ | refine blk_drew ?_ | refine blk_alloc ?_ _)); refine blk_far ?_ NB128_140.out _; (with_reducible repeat (first | refine blk_drewN ?_ _ | refine blk_drew ?_ | refine blk_alloc ?_ _)); exact BK128.out⟩
               have n2_ : Aside0 (((((((((((((w31.setCell ⟨gb140, 0, none⟩ (.int .i64 ((rd_T45 l0 t138).f0))).setCell ⟨gb140, 1, none⟩ (.int .i64 ((rd_T45 l0 t138).f1))).setCell ⟨gb140, 2, none⟩ (.int .i64 ((rd_T45 l0 t138).f2))).setCell ⟨gb140, 3, none⟩ (.int .i64 ((rd_T45 l0 t138).f3))).setCell ⟨gb140, 4, none⟩ (.int .i64 ((rd_T45 l0 t138).f4))).setCell ⟨gb140, 5, none⟩ (.int .i64 ((rd_T45 l0 t138).f5))).setCell ⟨gb140, 6, none⟩ (.int .i64 ((rd_T45 l0 t138).f6))).setCell ⟨gb140, 7, none⟩ (.int .i64 ((rd_T45 l0 t138).f7))).setCell ⟨gb140, 8, none⟩ (.int .i64 ((rd_T45 l0 t138).f8))).setCell ⟨gb140, 9, none⟩ (.int .i64 ((rd_T45 l0 t138).f9))).setCell ⟨gb140, 10, none⟩ (.string ((rd_T45 l0 t138).f10))).setCell ⟨gb140, 11, none⟩ (.string ((rd_T45 l0 t138).f11))).heap[gb140]? = some (.cells #[.int .i64 ((rd_T45 l0 t138).f0), .int .i64 ((rd_T45 l0 t138).f1), .int .i64 ((rd_T45 l0 t138).f2), .int .i64 ((rd_T45 l0 t138).f3), .int .i64 ((rd_T45 l0 t138).f4), .int .i64 ((rd_T45 l0 t138).f5), .int .i64 ((rd_T45 l0 t138).f6), .int .i64 ((rd_T45 l0 t138).f7), .int .i64 ((rd_T45 l0 t138).f8), .int .i64 ((rd_T45 l0 t138).f9), .string ((rd_T45 l0 t138).f10), .string ((rd_T45 l0 t138).f11)] 45 (0, 0))) := ⟨by (with_reducible repeat (first | refine blk_drewN ?_ _ | refine blk_drew ?_ | refine blk_alloc ?_ _)); refine blk_put (cs := #[.int .i64 ((rd_T45 l0 t138).f0), .int .i64 ((rd_T45 l0 t138).f1), .int .i64 ((rd_T45 l0 t138).f2), .int .i64 ((rd_T45 l0 t138).f3), .int .i64 ((rd_T45 l0 t138).f4), .int .i64 ((rd_T45 l0 t138).f5), .int .i64 ((rd_T45 l0 t138).f6), .int .i64 ((rd_T45 l0 t138).f7), .int .i64 ((rd_T45 l0 t138).f8), .int .i64 ((rd_T45 l0 t138).f9), .string ((rd_T45 l0 t138).f10), .string (⟨#[]⟩ : ByteArray)]) ?_ 11 _ rfl; (with_reducible repeat (first | refine blk_drewN ?_ _ | refine blk_drew ?_ | refine blk_alloc ?_ _)); refine blk_put (cs := #[.int .i64 ((rd_T45 l0 t138).f0), .int .i64 ((rd_T45 l0 t138).f1), .int .i64 ((rd_T45 l0 t138).f2), .int .i64 ((rd_T45 l0 t138).f3), .int .i64 ((rd_T45 l0 t138).f4), .int .i64 ((rd_T45 l0 t138).f5), .int .i64 ((rd_T45 l0 t138).f6), .int .i64 ((rd_T45 l0 t138).f7), .int .i64 ((rd_T45 l0 t138).f8), .int .i64 ((rd_T45 l0 t138).f9), .string (⟨#[]⟩ : ByteArray), .string (⟨#[]⟩ : ByteArray)]) ?_ 10 _ rfl; (with_reducible repeat (first | refine blk_drewN ?_ _ | refine blk_drew ?_ | refine blk_alloc ?_ _)); refine blk_put (cs := #[.int .i64 ((rd_T45 l0 t138).f0), .int .i64 ((rd_T45 l0 t138).f1), .int .i64 ((rd_T45 l0 t138).f2), .int .i64 ((rd_T45 l0 t138).f3), .int .i64 ((rd_T45 l0 t138).f4), .int .i64 ((rd_T45 l0 t138).f5), .int .i64 ((rd_T45 l0 t138).f6), .int .i64 ((rd_T45 l0 t138).f7), .int .i64 ((rd_T45 l0 t138).f8), .int .i64 0, .string (⟨#[]⟩ : ByteArray), .string (⟨#[]⟩ : ByteArray)]) ?_ 9 _ rfl; (with_reducible repeat (first | refine blk_drewN ?_ _ | refine blk_drew ?_ | refine blk_alloc ?_ _)); refine blk_put (cs := #[.int .i64 ((rd_T45 l0 t138).f0), .int .i64 ((rd_T45 l0 t138).f1), .int .i64 ((rd_T45 l0 t138).f2), .int .i64 ((rd_T45 l0 t138).f3), .int .i64 ((rd_T45 l0 t138).f4), .int .i64 ((rd_T45 l0 t138).f5), .int .i64 ((rd_T45 l0 t138).f6), .int .i64 ((rd_T45 l0 t138).f7), .int .i64 0, .int .i64 0, .string (⟨#[]⟩ : ByteArray), .string (⟨#[]⟩ : ByteArray)]) ?_ 8 _ rfl; (with_reducible repeat (first | refine blk_drewN ?_ _ | refine blk_drew ?_ | refine blk_alloc ?_ _)); refine blk_put (cs := #[.int .i64 ((rd_T45 l0 t138).f0), .int .i64 ((rd_T45 l0 t138).f1), .int .i64 ((rd_T45 l0 t138).f2), .int .i64 ((rd_T45 l0 t138).f3), .int .i64 ((rd_T45 l0 t138).f4), .int .i64 ((rd_T45 l0 t138).f5), .int .i64 ((rd_T45 l0 t138).f6), .int .i64 0, .int .i64 0, .int .i64 0, .string (⟨#[]⟩ : ByteArray), .string (⟨#[]⟩ : ByteArray)]) ?_ 7 _ rfl; (with_reducible repeat (first | refine blk_drewN ?_ _ | refine blk_drew ?_ | refine blk_alloc ?_ _)); refine blk_put (cs := #[.int .i64 ((rd_T45 l0 t138).f0), .int .i64 ((rd_T45 l0 t138).f1), .int .i64 ((rd_T45 l0 t138).f2), .int .i64 ((rd_T45 l0 t138).f3), .int .i64 ((rd_T45 l0 t138).f4), .int .i64 ((rd_T45 l0 t138).f5), .int .i64 0, .int .i64 0, .int .i64 0, .int .i64 0, .string (⟨#[]⟩ : ByteArray), .string (⟨#[]⟩ : ByteArray)]) ?_ 6 _ rfl; (with_reducible repeat (first | refine blk_drewN ?_ _ | refine blk_drew ?_ | refine blk_alloc ?_ _)); refine blk_put (cs := #[.int .i64 ((rd_T45 l0 t138).f0), .int .i64 ((rd_T45 l0 t138).f1), .int .i64 ((rd_T45 l0 t138).f2), .int .i64 ((rd_T45 l0 t138).f3), .int .i64 ((rd_T45 l0 t138).f4), .int .i64 0, .int .i64 0, .int .i64 0, .int .i64 0, .int .i64 0, .string (⟨#[]⟩ : ByteArray), .string (⟨#[]⟩ : ByteArray)]) ?_ 5 _ rfl; (with_reducible repeat (first | refine blk_drewN ?_ _ | refine blk_drew ?_ | refine blk_alloc ?_ _)); refine blk_put (cs := #[.int .i64 ((rd_T45 l0 t138).f0), .int .i64 ((rd_T45 l0 t138).f1), .int .i64 ((rd_T45 l0 t138).f2), .int .i64 ((rd_T45 l0 t138).f3), .int .i64 0, .int .i64 0, .int .i64 0, .int .i64 0, .int .i64 0, .int .i64 0, .string (⟨#[]⟩ : ByteArray), .string (⟨#[]⟩ : ByteArray)]) ?_ 4 _ rfl; (with_reducible repeat (first | refine blk_drewN ?_ _ | refine blk_drew ?_ | refine blk_alloc ?_ _)); refine blk_put (cs := #[.int .i64 ((rd_T45 l0 t138).f0), .int .i64 ((rd_T45 l0 t138).f1), .int .i64 ((rd_T45 l0 t138).f2), .int .i64 0, .int .i64 0, .int .i64 0, .int .i64 0, .int .i64 0, .int .i64 0, .int .i64 0, .string (⟨#[]⟩ : ByteArray), .string (⟨#[]⟩ : ByteArray)]) ?_ 3 _ rfl; (with_reducible repeat (first | refine blk_drewN ?_ _ | refine blk_drew ?_ | refine blk_alloc ?_ _)); refine blk_put (cs := #[.int .i64 ((rd_T45 l0 t138).f0), .int .i64 ((rd_T45 l0 t138).f1), .int .i64 0, .int .i64 0, .int .i64 0, .int .i64 0, .int .i64 0, .int .i64 0, .int .i64 0, .int .i64 0, .string (⟨#[]⟩ : ByteArray), .string (⟨#[]⟩ : ByteArray)]) ?_ 2 _ rfl; (with_reducible repeat (first | refine blk_drewN ?_ _ | refine blk_drew ?_ | refine blk_alloc ?_ _)); refine blk_put (cs := #[.int .i64 ((rd_T45 l0 t138).f0), .int .i64 0, .int .i64 0, .int .i64 0, .int .i64 0, .int .i64 0, .int .i64 0, .int .i64 0, .int .i64 0, .int .i64 0, .string (⟨#[]⟩ : ByteArray), .string (⟨#[]⟩ : ByteArray)]) ?_ 1 _ rfl; (with_reducible repeat (first | refine blk_drewN ?_ _ | refine blk_drew ?_ | refine blk_alloc ?_ _)); refine blk_put (cs := #[.int .i64 0, .int .i64 0, .int .i64 0, .int .i64 0, .int .i64 0, .int .i64 0, .int .i64 0, .int .i64 0, .int .i64 0, .int .i64 0, .string (⟨#[]⟩ : ByteArray), .string (⟨#[]⟩ : ByteArray)]) ?_ 0 _ rfl; (with_reducible repeat (first | refine blk_drewN ?_ _ | refine blk_drew ?_ | refine blk_alloc ?_ _)); exact BK140.out⟩
               have n3_ : Aside0 (Below w.heap.size w ((((((((((((w31.setCell ⟨gb140, 0, none⟩ (.int .i64 ((rd_T45 l0 t138).f0))).setCell ⟨gb140, 1, none⟩ (.int .i64 ((rd_T45 l0 t138).f1))).setCell ⟨gb140, 2, none⟩ (.int .i64 ((rd_T45 l0 t138).f2))).setCell ⟨gb140, 3, none⟩ (.int .i64 ((rd_T45 l0 t138).f3))).setCell ⟨gb140, 4, none⟩ (.int .i64 ((rd_T45 l0 t138).f4))).setCell ⟨gb140, 5, none⟩ (.int .i64 ((rd_T45 l0 t138).f5))).setCell ⟨gb140, 6, none⟩ (.int .i64 ((rd_T45 l0 t138).f6))).setCell ⟨gb140, 7, none⟩ (.int .i64 ((rd_T45 l0 t138).f7))).setCell ⟨gb140, 8, none⟩ (.int .i64 ((rd_T45 l0 t138).f8))).setCell ⟨gb140, 9, none⟩ (.int .i64 ((rd_T45 l0 t138).f9))).setCell ⟨gb140, 10, none⟩ (.string ((rd_T45 l0 t138).f10))).setCell ⟨gb140, 11, none⟩ (.string ((rd_T45 l0 t138).f11)))) := ⟨by repeat (first | (with_reducible first | exact HB.out | apply below_alloc | apply pw_below_drewN | apply below_drew1 | refine below_set ?_ GE128.out | refine below_set ?_ GE140.out) | exact HB.out)⟩
               (try clear HO_6)
               (try clear BK128)
               (try clear BK140)
               (try clear HB)
               generalize ((((((((((((w31.setCell ⟨gb140, 0, none⟩ (.int .i64 ((rd_T45 l0 t138).f0))).setCell ⟨gb140, 1, none⟩ (.int .i64 ((rd_T45 l0 t138).f1))).setCell ⟨gb140, 2, none⟩ (.int .i64 ((rd_T45 l0 t138).f2))).setCell ⟨gb140, 3, none⟩ (.int .i64 ((rd_T45 l0 t138).f3))).setCell ⟨gb140, 4, none⟩ (.int .i64 ((rd_T45 l0 t138).f4))).setCell ⟨gb140, 5, none⟩ (.int .i64 ((rd_T45 l0 t138).f5))).setCell ⟨gb140, 6, none⟩ (.int .i64 ((rd_T45 l0 t138).f6))).setCell ⟨gb140, 7, none⟩ (.int .i64 ((rd_T45 l0 t138).f7))).setCell ⟨gb140, 8, none⟩ (.int .i64 ((rd_T45 l0 t138).f8))).setCell ⟨gb140, 9, none⟩ (.int .i64 ((rd_T45 l0 t138).f9))).setCell ⟨gb140, 10, none⟩ (.string ((rd_T45 l0 t138).f10))).setCell ⟨gb140, 11, none⟩ (.string ((rd_T45 l0 t138).f11))) = w34 at n0_ n1_ n2_ n3_ ⊢
               have HO_6 := n0_
               have BK128 := n1_
               have BK140 := n2_
               have HB := n3_
               clear n0_ n1_ n2_ n3_
               have n0_ := Aside0.mk (Kd.R_drew HO_6.out)
               have n1_ := Aside0.mk (blk_drew BK128.out)
               have n2_ := Aside0.mk (blk_drew BK140.out)
               have n3_ := Aside0.mk (below_drew1 HB.out)
               clear HO_6; clear BK128; clear BK140; clear HB
               have HO_6 := n0_
               have BK128 := n1_
               have BK140 := n2_
               have HB := n3_
               clear n0_ n1_ n2_ n3_
               have p141 : 0 ≤ (x49_1 : Int) := of_decide_eq_true (by first | (with_reducible assumption) | assumption)
               have q141 : x49_1 < (x6_2.length : Int) := of_decide_eq_true (by first | (with_reducible assumption) | assumption)
               obtain ⟨ad141, e141, hx141_0, hx141_1⟩ := at_T37 (Kd.R_reads' HO_6.out).2.2 x49_1 p141 q141
               obtain rfl : (⟨go15, 0, none⟩ : Addr) = ad141 := (by injection e141)
               (first | simp only [add_plain] at hx141_0 | simp only [add_at] at hx141_0 | simp only [Addr.add, Nat.zero_add] at hx141_0 | skip)
               (first | simp only [add_plain] at hx141_1 | simp only [add_at] at hx141_1 | simp only [Addr.add, Nat.zero_add] at hx141_1 | skip)
               replace p141 := eq_true p141
               replace q141 := eq_true q141
               have p142 : 0 ≤ (x49_1 : Int) := of_decide_eq_true (by first | (with_reducible assumption) | assumption)
               have q142 : x49_1 < (x6_2.length : Int) := of_decide_eq_true (by first | (with_reducible assumption) | assumption)
               obtain ⟨ad142, e142, hx142_0, hx142_1⟩ := at_T37 (Kd.R_reads' HO_6.out).2.2 x49_1 p142 q142
               obtain rfl : (⟨go15, 0, none⟩ : Addr) = ad142 := (by injection e142)
               (first | simp only [add_plain] at hx142_0 | simp only [add_at] at hx142_0 | simp only [Addr.add, Nat.zero_add] at hx142_0 | skip)
               (first | simp only [add_plain] at hx142_1 | simp only [add_at] at hx142_1 | simp only [Addr.add, Nat.zero_add] at hx142_1 | skip)
               replace p142 := eq_true p142
               replace q142 := eq_true q142
               refine start_ (n := 26) (S := fun w' => w'.cell? ⟨gb140, 0, none⟩ = some (.int .i64 ((rd_T45 l0 t138).f0)) ∧ w'.cell? ⟨gb140, 1, none⟩ = some (.int .i64 ((rd_T45 l0 t138).f1)) ∧ w'.cell? ⟨gb140, 2, none⟩ = some (.int .i64 ((rd_T45 l0 t138).f2)) ∧ w'.cell? ⟨gb140, 3, none⟩ = some (.int .i64 ((rd_T45 l0 t138).f3)) ∧ w'.cell? ⟨gb140, 4, none⟩ = some (.int .i64 ((rd_T45 l0 t138).f4)) ∧ w'.cell? ⟨gb140, 5, none⟩ = some (.int .i64 ((rd_T45 l0 t138).f5)) ∧ w'.cell? ⟨gb140, 6, none⟩ = some (.int .i64 ((rd_T45 l0 t138).f6)) ∧ w'.cell? ⟨gb140, 7, none⟩ = some (.int .i64 ((rd_T45 l0 t138).f7)) ∧ w'.cell? ⟨gb140, 8, none⟩ = some (.int .i64 ((rd_T45 l0 t138).f8)) ∧ w'.cell? ⟨gb140, 9, none⟩ = some (.int .i64 ((rd_T45 l0 t138).f9)) ∧ w'.cell? ⟨gb140, 10, none⟩ = some (.string ((rd_T45 l0 t138).f10)) ∧ w'.cell? ⟨gb140, 11, none⟩ = some (.string ((rd_T45 l0 t138).f11)) ∧ w'.cell? ⟨go15, (x49_1).toNat * 2, none⟩ = some (.int .i64 ((rd_T37 x6_2 x49_1).f0)) ∧ w'.cell? ⟨go15, (x49_1).toNat * 2 + 1, none⟩ = some (.int .i64 ((rd_T37 x6_2 x49_1).f1)) ∧ w'.cell? ⟨go15, (x49_1).toNat * 2, none⟩ = some (.int .i64 ((rd_T37 x6_2 x49_1).f0)) ∧ w'.cell? ⟨go15, (x49_1).toNat * 2 + 1, none⟩ = some (.int .i64 ((rd_T37 x6_2 x49_1).f1))) (ds := [25]) #[false, false, false, false, false, false, false, false, false, false, false, false, false, false, false, false, false, false, false, false, false, false, false, false, false, false] (by kernel_rfl) rfl rfl ⟨(blk_cell BK140.out 0).trans rfl, (blk_cell BK140.out 1).trans rfl, (blk_cell BK140.out 2).trans rfl, (blk_cell BK140.out 3).trans rfl, (blk_cell BK140.out 4).trans rfl, (blk_cell BK140.out 5).trans rfl, (blk_cell BK140.out 6).trans rfl, (blk_cell BK140.out 7).trans rfl, (blk_cell BK140.out 8).trans rfl, (blk_cell BK140.out 9).trans rfl, (blk_cell BK140.out 10).trans rfl, (blk_cell BK140.out 11).trans rfl, hx141_0, hx141_1, hx142_0, hx142_1⟩ (fun hHeld => ?_); refine with_tabW chanceryref3_CornersOf.tab10 chanceryref3_CornersOf.bits10 (fun HT_ HW_ => ?_)
               generalize w34.drew = w35 at HO_6 BK128 BK140 HB hx141_0 hx141_1 hx142_0 hx142_1 hHeld ⊢
               refine pure_ (i := 0) (N := some 74) (v := ?_) (a' := ?_) #[true, false, false, false, false, false, false, false, false, false, false, false, false, false, false, false, false, false, false, false, false, false, false, false, false, false] rfl rfl (any_of HT_.out (by kernel_rfl)) (fun _ _ _ h => h) (Or.inl ⟨by rfl, ?_⟩) ?_ ?_
               rotate_left
               ·intro w'
                go_simp
                with_reducible rfl
               rotate_left
               ·simp only [Act.put, List.setIfInBounds_toArray, List.set_cons_zero, List.set_cons_succ, i64_w, i32_w]
                rfl
               refine pure_ (i := 1) (N := some 75) (v := ?_) (a' := ?_) #[true, true, false, false, false, false, false, false, false, false, false, false, false, false, false, false, false, false, false, false, false, false, false, false, false, false] rfl rfl (any_of HT_.out (by kernel_rfl)) (fun _ _ _ h => h) (Or.inl ⟨by rfl, ?_⟩) ?_ ?_
               rotate_left
               ·intro w'
                go_simp
                with_reducible rfl
               rotate_left
               ·simp only [Act.put, List.setIfInBounds_toArray, List.set_cons_zero, List.set_cons_succ, i64_w, i32_w]
                rfl
               refine pure_ (i := 2) (N := some 76) (v := ?_) (a' := ?_) #[true, true, true, false, false, false, false, false, false, false, false, false, false, false, false, false, false, false, false, false, false, false, false, false, false, false] rfl rfl (any_of HT_.out (by kernel_rfl)) (fun _ _ _ h => h) (Or.inl ⟨by rfl, ?_⟩) ?_ ?_
               rotate_left
               ·intro w'
                go_simp
                with_reducible rfl
               rotate_left
               ·simp only [Act.put, List.setIfInBounds_toArray, List.set_cons_zero, List.set_cons_succ, i64_w, i32_w]
                rfl
               refine pure_ (i := 3) (N := some 77) (v := ?_) (a' := ?_) #[true, true, true, true, false, false, false, false, false, false, false, false, false, false, false, false, false, false, false, false, false, false, false, false, false, false] rfl rfl (any_of HT_.out (by kernel_rfl)) (fun _ _ _ h => h) (Or.inl ⟨by rfl, ?_⟩) ?_ ?_
               rotate_left
               ·intro w'
                go_simp
                with_reducible rfl
               rotate_left
               ·simp only [Act.put, List.setIfInBounds_toArray, List.set_cons_zero, List.set_cons_succ, i64_w, i32_w]
                rfl
               refine pure_ (i := 4) (N := some 78) (v := ?_) (a' := ?_) #[true, true, true, true, true, false, false, false, false, false, false, false, false, false, false, false, false, false, false, false, false, false, false, false, false, false] rfl rfl (any_of HT_.out (by kernel_rfl)) (fun _ _ _ h => h) (Or.inl ⟨by rfl, ?_⟩) ?_ ?_
               rotate_left
               ·intro w'
                go_simp
                with_reducible rfl
               rotate_left
               ·simp only [Act.put, List.setIfInBounds_toArray, List.set_cons_zero, List.set_cons_succ, i64_w, i32_w]
                rfl
               refine pure_ (i := 5) (N := some 79) (v := ?_) (a' := ?_) #[true, true, true, true, true, true, false, false, false, false, false, false, false, false, false, false, false, false, false, false, false, false, false, false, false, false] rfl rfl (any_of HT_.out (by kernel_rfl)) (fun _ _ _ h => h) (Or.inl ⟨by rfl, ?_⟩) ?_ ?_
               rotate_left
               ·intro w'
                go_simp
                with_reducible rfl
               rotate_left
               ·simp only [Act.put, List.setIfInBounds_toArray, List.set_cons_zero, List.set_cons_succ, i64_w, i32_w]
                rfl
               refine pure_ (i := 7) (N := some 81) (v := ?_) (a' := ?_) #[true, true, true, true, true, true, false, true, false, false, false, false, false, false, false, false, false, false, false, false, false, false, false, false, false, false] rfl rfl (any_of HT_.out (by kernel_rfl)) (fun _ _ _ h => h) (Or.inl ⟨by rfl, ?_⟩) ?_ ?_
               rotate_left
               ·intro w'
                go_simp
                with_reducible rfl
               rotate_left
               ·simp only [Act.put, List.setIfInBounds_toArray, List.set_cons_zero, List.set_cons_succ, i64_w, i32_w]
                rfl
               refine pure_ (i := 10) (N := some 84) (v := ?_) (a' := ?_) #[true, true, true, true, true, true, false, true, false, false, true, false, false, false, false, false, false, false, false, false, false, false, false, false, false, false] rfl rfl (any_of HT_.out (by kernel_rfl)) (fun _ _ _ h => h) (Or.inl ⟨by rfl, ?_⟩) ?_ ?_
               rotate_left
               ·intro w'
                go_simp
                with_reducible rfl
               rotate_left
               ·simp only [Act.put, List.setIfInBounds_toArray, List.set_cons_zero, List.set_cons_succ, i64_w, i32_w]
                rfl
               refine pure_ (i := 11) (N := some 85) (v := ?_) (a' := ?_) #[true, true, true, true, true, true, false, true, false, false, true, true, false, false, false, false, false, false, false, false, false, false, false, false, false, false] rfl rfl (any_of HT_.out (by kernel_rfl)) (fun _ _ _ h => h) (Or.inl ⟨by rfl, ?_⟩) ?_ ?_
               rotate_left
               ·intro w'
                go_simp
                with_reducible rfl
               rotate_left
               ·simp only [Act.put, List.setIfInBounds_toArray, List.set_cons_zero, List.set_cons_succ, i64_w, i32_w]
                rfl
               refine pure_ (i := 12) (N := some 86) (v := ?_) (a' := ?_) #[true, true, true, true, true, true, false, true, false, false, true, true, true, false, false, false, false, false, false, false, false, false, false, false, false, false] rfl rfl (any_of HT_.out (by kernel_rfl)) (fun _ _ _ h => h) (Or.inl ⟨by rfl, ?_⟩) ?_ ?_
               rotate_left
               ·intro w'
                go_simp
                with_reducible rfl
               rotate_left
               ·simp only [Act.put, List.setIfInBounds_toArray, List.set_cons_zero, List.set_cons_succ, i64_w, i32_w]
                rfl
               refine pure_ (i := 13) (N := some 87) (v := ?_) (a' := ?_) #[true, true, true, true, true, true, false, true, false, false, true, true, true, true, false, false, false, false, false, false, false, false, false, false, false, false] rfl rfl (any_of HT_.out (by kernel_rfl)) (fun _ _ _ h => h) (Or.inl ⟨by rfl, ?_⟩) ?_ ?_
               rotate_left
               ·intro w'
                go_simp
                with_reducible rfl
               rotate_left
               ·simp only [Act.put, List.setIfInBounds_toArray, List.set_cons_zero, List.set_cons_succ, i64_w, i32_w]
                rfl
               refine pure_ (i := 15) (N := some 89) (v := ?_) (a' := ?_) #[true, true, true, true, true, true, false, true, false, false, true, true, true, true, false, true, false, false, false, false, false, false, false, false, false, false] rfl rfl (any_of HT_.out (by kernel_rfl)) (fun _ _ _ h => h) (Or.inl ⟨by rfl, ?_⟩) ?_ ?_
               rotate_left
               ·intro w'
                go_simp
                with_reducible rfl
               rotate_left
               ·simp only [Act.put, List.setIfInBounds_toArray, List.set_cons_zero, List.set_cons_succ, i64_w, i32_w]
                rfl
               refine pure_ (i := 21) (N := some 95) (v := ?_) (a' := ?_) #[true, true, true, true, true, true, false, true, false, false, true, true, true, true, false, true, false, false, false, false, false, true, false, false, false, false] rfl rfl (any_of HT_.out (by kernel_rfl)) (fun _ _ _ h => h) (Or.inl ⟨by rfl, ?_⟩) ?_ ?_
               rotate_left
               ·intro w'
                go_simp
                with_reducible rfl
               rotate_left
               ·simp only [Act.put, List.setIfInBounds_toArray, List.set_cons_zero, List.set_cons_succ, i64_w, i32_w]
                rfl
               refine take_ (i := 6) (N := some 80) (v := ?_) (a' := ?_) #[true, true, true, true, true, true, true, true, false, false, true, true, true, true, false, true, false, false, false, false, false, true, false, false, false, false] rfl rfl (take_ofW HT_.out HW_.out (by kernel_rfl)) (fun _ _ _ h => h) (Or.inl ⟨by rfl, ?_⟩) hHeld ?_ ?_
               rotate_left
               ·rintro w' ⟨s0, s1, s2, s3, s4, s5, s6, s7, s8, s9, s10, s11, s12, s13, s14, s15⟩
                go_simp
                with_reducible rfl
               rotate_left
               ·simp only [Act.put, List.setIfInBounds_toArray, List.set_cons_zero, List.set_cons_succ, i64_w, i32_w]
                rfl
               refine take_ (i := 8) (N := some 82) (v := ?_) (a' := ?_) #[true, true, true, true, true, true, true, true, true, false, true, true, true, true, false, true, false, false, false, false, false, true, false, false, false, false] rfl rfl (take_ofW HT_.out HW_.out (by kernel_rfl)) (fun _ _ _ h => h) (Or.inl ⟨by rfl, ?_⟩) hHeld ?_ ?_
               rotate_left
               ·rintro w' ⟨s0, s1, s2, s3, s4, s5, s6, s7, s8, s9, s10, s11, s12, s13, s14, s15⟩
                go_simp
                with_reducible rfl
               rotate_left
               ·simp only [Act.put, List.setIfInBounds_toArray, List.set_cons_zero, List.set_cons_succ, i64_w, i32_w]
                rfl
               refine pure_ (i := 9) (N := some 83) (v := ?_) (a' := ?_) #[true, true, true, true, true, true, true, true, true, true, true, true, true, true, false, true, false, false, false, false, false, true, false, false, false, false] rfl rfl (any_of HT_.out (by kernel_rfl)) (fun _ _ _ h => h) (Or.inl ⟨by rfl, ?_⟩) ?_ ?_
               rotate_left
               ·intro w'
                go_simp
                with_reducible rfl
               rotate_left
               ·simp only [Act.put, List.setIfInBounds_toArray, List.set_cons_zero, List.set_cons_succ, i64_w, i32_w]
                rfl
               refine take_ (i := 14) (N := some 88) (v := ?_) (a' := ?_) #[true, true, true, true, true, true, true, true, true, true, true, true, true, true, true, true, false, false, false, false, false, true, false, false, false, false] rfl rfl (take_ofW HT_.out HW_.out (by kernel_rfl)) (fun _ _ _ h => h) (Or.inl ⟨by rfl, ?_⟩) hHeld ?_ ?_
               rotate_left
               ·rintro w' ⟨s0, s1, s2, s3, s4, s5, s6, s7, s8, s9, s10, s11, s12, s13, s14, s15⟩
                go_simp
                with_reducible rfl
               rotate_left
               ·simp only [Act.put, List.setIfInBounds_toArray, List.set_cons_zero, List.set_cons_succ, i64_w, i32_w]
                rfl
               refine take_ (i := 16) (N := some 90) (v := ?_) (a' := ?_) #[true, true, true, true, true, true, true, true, true, true, true, true, true, true, true, true, true, false, false, false, false, true, false, false, false, false] rfl rfl (take_ofW HT_.out HW_.out (by kernel_rfl)) (fun _ _ _ h => h) (Or.inl ⟨by rfl, ?_⟩) hHeld ?_ ?_
               rotate_left
               ·rintro w' ⟨s0, s1, s2, s3, s4, s5, s6, s7, s8, s9, s10, s11, s12, s13, s14, s15⟩
                go_simp
                with_reducible rfl
               rotate_left
               ·simp only [Act.put, List.setIfInBounds_toArray, List.set_cons_zero, List.set_cons_succ, i64_w, i32_w]
                rfl
               refine pure_ (i := 17) (N := some 91) (v := ?_) (a' := ?_) #[true, true, true, true, true, true, true, true, true, true, true, true, true, true, true, true, true, true, false, false, false, true, false, false, false, false] rfl rfl (any_of HT_.out (by kernel_rfl)) (fun _ _ _ h => h) (Or.inl ⟨by rfl, ?_⟩) ?_ ?_
               rotate_left
               ·intro w'
                go_simp
                with_reducible rfl
               rotate_left
               ·simp only [Act.put, List.setIfInBounds_toArray, List.set_cons_zero, List.set_cons_succ, i64_w, i32_w]
                rfl
               refine pure_ (i := 18) (N := some 92) (v := ?_) (a' := ?_) #[true, true, true, true, true, true, true, true, true, true, true, true, true, true, true, true, true, true, true, false, false, true, false, false, false, false] rfl rfl (any_of HT_.out (by kernel_rfl)) (fun _ _ _ h => h) (Or.inl ⟨by rfl, ?_⟩) ?_ ?_
               rotate_left
               ·intro w'
                go_simp
                with_reducible rfl
               rotate_left
               ·simp only [Act.put, List.setIfInBounds_toArray, List.set_cons_zero, List.set_cons_succ, i64_w, i32_w]
                rfl
               refine take_ (i := 19) (N := some 93) (v := ?_) (a' := ?_) #[true, true, true, true, true, true, true, true, true, true, true, true, true, true, true, true, true, true, true, true, false, true, false, false, false, false] rfl rfl (take_ofW HT_.out HW_.out (by kernel_rfl)) (fun _ _ _ h => h) (Or.inl ⟨by rfl, ?_⟩) hHeld ?_ ?_
               rotate_left
               ·rintro w' ⟨s0, s1, s2, s3, s4, s5, s6, s7, s8, s9, s10, s11, s12, s13, s14, s15⟩
                go_simp
                with_reducible rfl
               rotate_left
               ·simp only [Act.put, List.setIfInBounds_toArray, List.set_cons_zero, List.set_cons_succ, i64_w, i32_w]
                rfl
               refine take_ (i := 22) (N := some 96) (v := ?_) (a' := ?_) #[true, true, true, true, true, true, true, true, true, true, true, true, true, true, true, true, true, true, true, true, false, true, true, false, false, false] rfl rfl (take_ofW HT_.out HW_.out (by kernel_rfl)) (fun _ _ _ h => h) (Or.inl ⟨by rfl, ?_⟩) hHeld ?_ ?_
               rotate_left
               ·rintro w' ⟨s0, s1, s2, s3, s4, s5, s6, s7, s8, s9, s10, s11, s12, s13, s14, s15⟩
                go_simp
                with_reducible rfl
               rotate_left
               ·simp only [Act.put, List.setIfInBounds_toArray, List.set_cons_zero, List.set_cons_succ, i64_w, i32_w]
                rfl
               refine one_ (i := 20) (N := some 94) #[true, true, true, true, true, true, true, true, true, true, true, true, true, true, true, true, true, true, true, true, true, true, true, false, false, false] rfl rfl (one_of HT_.out (by kernel_rfl)) (by decide) (fun K hK => ?_)
               refine goes_ Tryd.func20 (by kernel_rfl) rfl #[.agg #[.int .i64 ((rd_T45 l0 t138).f0), .int .i64 ((rd_T45 l0 t138).f1), .int .i64 ((rd_T45 l0 t138).f2), .int .i64 ((rd_T45 l0 t138).f3), .int .i64 ((rd_T45 l0 t138).f4), .int .i64 ((rd_T45 l0 t138).f5), .int .i64 ((rd_T45 l0 t138).f6), .int .i64 ((rd_T45 l0 t138).f7), .int .i64 ((rd_T45 l0 t138).f8), .int .i64 ((rd_T45 l0 t138).f9), .string ((rd_T45 l0 t138).f10), .string ((rd_T45 l0 t138).f11)]] (by rfl) rfl rfl (by (try simp only [List.map_toArray, List.map_cons, List.map_nil]); first | done | rfl) ?_
               with_reducible refine (chanceryref3_middle.calls ((rd_T45 l0 t138).f0) ((rd_T45 l0 t138).f1) ((rd_T45 l0 t138).f2) ((rd_T45 l0 t138).f3) ((rd_T45 l0 t138).f4) ((rd_T45 l0 t138).f5) ((rd_T45 l0 t138).f6) ((rd_T45 l0 t138).f7) ((rd_T45 l0 t138).f8) ((rd_T45 l0 t138).f9) ((rd_T45 l0 t138).f10) ((rd_T45 l0 t138).f11) t143 t144 _ A27.out).mono ?_
               rintro e w36 ⟨rfl, hb⟩
               have HS12_ := (hb.cell (World.block_lt_of_cell? _ _ (hHeld.2.2.2.2.2.2.2.2.2.2.2.2.1))).trans (hHeld.2.2.2.2.2.2.2.2.2.2.2.2.1)
               have HS13_ := (hb.cell (World.block_lt_of_cell? _ _ (hHeld.2.2.2.2.2.2.2.2.2.2.2.2.2.1))).trans (hHeld.2.2.2.2.2.2.2.2.2.2.2.2.2.1)
               have HS14_ := (hb.cell (World.block_lt_of_cell? _ _ (hHeld.2.2.2.2.2.2.2.2.2.2.2.2.2.2.1))).trans (hHeld.2.2.2.2.2.2.2.2.2.2.2.2.2.2.1)
               have HS15_ := (hb.cell (World.block_lt_of_cell? _ _ (hHeld.2.2.2.2.2.2.2.2.2.2.2.2.2.2.2))).trans (hHeld.2.2.2.2.2.2.2.2.2.2.2.2.2.2.2)
               refine ⟨_, rfl, ?_⟩
               have n0_ := Aside0.mk (Kd.R_below (by (with_reducible repeat (first | apply Kd.R_alloc | apply Kd.R_drewN | apply Kd.R_drew)); exact HO_6.out) hb)
               have n1_ := Aside0.mk (blk_below (g := gb128) (o := .cells #[.int .i64 ((rd_T45 l0 a1).f0), .int .i64 ((rd_T45 l0 a1).f1), .int .i64 ((rd_T45 l0 a1).f2), .int .i64 ((rd_T45 l0 a1).f3), .int .i64 ((rd_T45 l0 a1).f4), .int .i64 ((rd_T45 l0 a1).f5), .int .i64 ((rd_T45 l0 a1).f6), .int .i64 ((rd_T45 l0 a1).f7), .int .i64 ((rd_T45 l0 a1).f8), .int .i64 ((rd_T45 l0 a1).f9), .string ((rd_T45 l0 a1).f10), .string ((rd_T45 l0 a1).f11)] 45 (0, 0)) (by (with_reducible repeat (first | refine blk_drewN ?_ _ | refine blk_drew ?_ | refine blk_alloc ?_ _)); exact BK128.out) hb)
               have n2_ := Aside0.mk (blk_below (g := gb140) (o := .cells #[.int .i64 ((rd_T45 l0 t138).f0), .int .i64 ((rd_T45 l0 t138).f1), .int .i64 ((rd_T45 l0 t138).f2), .int .i64 ((rd_T45 l0 t138).f3), .int .i64 ((rd_T45 l0 t138).f4), .int .i64 ((rd_T45 l0 t138).f5), .int .i64 ((rd_T45 l0 t138).f6), .int .i64 ((rd_T45 l0 t138).f7), .int .i64 ((rd_T45 l0 t138).f8), .int .i64 ((rd_T45 l0 t138).f9), .string ((rd_T45 l0 t138).f10), .string ((rd_T45 l0 t138).f11)] 45 (0, 0)) (by (with_reducible repeat (first | refine blk_drewN ?_ _ | refine blk_drew ?_ | refine blk_alloc ?_ _)); exact BK140.out) hb)
               have n3_ := Aside0.mk (below_step (by repeat (first | (with_reducible first | exact HB.out | apply below_alloc | apply pw_below_drewN | apply below_drew1 | refine below_set ?_ GE128.out | refine below_set ?_ GE140.out) | exact HB.out)) hb)
               clear HO_6; clear BK128; clear BK140; clear HB
               have HO_6 := n0_
               have BK128 := n1_
               have BK140 := n2_
               have HB := n3_
               clear n0_ n1_ n2_ n3_
               (try clear hb)
               (try clear hb2)
               (try clear hk)
               (try clear hi)
               refine hK.out _ _ ⟨(blk_cell BK140.out 0).trans rfl, (blk_cell BK140.out 1).trans rfl, (blk_cell BK140.out 2).trans rfl, (blk_cell BK140.out 3).trans rfl, (blk_cell BK140.out 4).trans rfl, (blk_cell BK140.out 5).trans rfl, (blk_cell BK140.out 6).trans rfl, (blk_cell BK140.out 7).trans rfl, (blk_cell BK140.out 8).trans rfl, (blk_cell BK140.out 9).trans rfl, (blk_cell BK140.out 10).trans rfl, (blk_cell BK140.out 11).trans rfl, HS12_, HS13_, HS14_, HS15_⟩ (fun hHeld => ?_)
               clear hK K
               refine norm_ (a' := ?_) ?_ ?_
               rotate_left
               ·show Act.put _ (some 94) _ = _
                simp only [Act.put, List.setIfInBounds_toArray, List.set_cons_zero, List.set_cons_succ, i64_w, i32_w]
                rfl
               refine one_ (i := 23) (N := some 97) #[true, true, true, true, true, true, true, true, true, true, true, true, true, true, true, true, true, true, true, true, true, true, true, true, false, false] rfl rfl (one_of HT_.out (by kernel_rfl)) (by decide) (fun K hK => ?_)
               refine goes_ Tryd.func19 (by kernel_rfl) rfl #[.agg #[.int .i64 (wrap64 (((rd_T37 x6_2 x49_1).f0) + ((rd_T45 l0 t138).f3))), .int .i64 (wrap64 (((rd_T37 x6_2 x49_1).f1) + ((rd_T45 l0 t138).f4)))], .agg #[.int .i64 t143, .int .i64 t144], .int .i64 ((rd_T45 l0 t138).f7)] (by rfl) rfl rfl (by (try simp only [List.map_toArray, List.map_cons, List.map_nil]); first | done | rfl) ?_
               with_reducible refine (chanceryref3_TurnPoint.calls (wrap64 (((rd_T37 x6_2 x49_1).f0) + ((rd_T45 l0 t138).f3))) (wrap64 (((rd_T37 x6_2 x49_1).f1) + ((rd_T45 l0 t138).f4))) t143 t144 ((rd_T45 l0 t138).f7) t145 t146 _ A28.out ?sL).mono ?_
               (case sL => first | ((repeat (first | (with_reducible exact HLd.out) | (with_reducible refine LaidW.drewN ?_ _) | (with_reducible refine LaidW.drew ?_) | (with_reducible refine LaidW.alloc ?_ _))); done) | exact LaidW.now HLd.out (by repeat (first | (with_reducible first | exact HB.out | apply below_alloc | apply pw_below_drewN | apply below_drew1 | refine below_set ?_ GE128.out | refine below_set ?_ GE140.out) | exact HB.out)))
               rintro e w37 ⟨rfl, hb⟩
               have HS12_ := (hb.cell (World.block_lt_of_cell? _ _ (hHeld.2.2.2.2.2.2.2.2.2.2.2.2.1))).trans (hHeld.2.2.2.2.2.2.2.2.2.2.2.2.1)
               have HS13_ := (hb.cell (World.block_lt_of_cell? _ _ (hHeld.2.2.2.2.2.2.2.2.2.2.2.2.2.1))).trans (hHeld.2.2.2.2.2.2.2.2.2.2.2.2.2.1)
               have HS14_ := (hb.cell (World.block_lt_of_cell? _ _ (hHeld.2.2.2.2.2.2.2.2.2.2.2.2.2.2.1))).trans (hHeld.2.2.2.2.2.2.2.2.2.2.2.2.2.2.1)
               have HS15_ := (hb.cell (World.block_lt_of_cell? _ _ (hHeld.2.2.2.2.2.2.2.2.2.2.2.2.2.2.2))).trans (hHeld.2.2.2.2.2.2.2.2.2.2.2.2.2.2.2)
               refine ⟨_, rfl, ?_⟩
               have n0_ := Aside0.mk (Kd.R_below (by (with_reducible repeat (first | apply Kd.R_alloc | apply Kd.R_drewN | apply Kd.R_drew)); exact HO_6.out) hb)
               have n1_ := Aside0.mk (blk_below (g := gb128) (o := .cells #[.int .i64 ((rd_T45 l0 a1).f0), .int .i64 ((rd_T45 l0 a1).f1), .int .i64 ((rd_T45 l0 a1).f2), .int .i64 ((rd_T45 l0 a1).f3), .int .i64 ((rd_T45 l0 a1).f4), .int .i64 ((rd_T45 l0 a1).f5), .int .i64 ((rd_T45 l0 a1).f6), .int .i64 ((rd_T45 l0 a1).f7), .int .i64 ((rd_T45 l0 a1).f8), .int .i64 ((rd_T45 l0 a1).f9), .string ((rd_T45 l0 a1).f10), .string ((rd_T45 l0 a1).f11)] 45 (0, 0)) (by (with_reducible repeat (first | refine blk_drewN ?_ _ | refine blk_drew ?_ | refine blk_alloc ?_ _)); exact BK128.out) hb)
               have n2_ := Aside0.mk (blk_below (g := gb140) (o := .cells #[.int .i64 ((rd_T45 l0 t138).f0), .int .i64 ((rd_T45 l0 t138).f1), .int .i64 ((rd_T45 l0 t138).f2), .int .i64 ((rd_T45 l0 t138).f3), .int .i64 ((rd_T45 l0 t138).f4), .int .i64 ((rd_T45 l0 t138).f5), .int .i64 ((rd_T45 l0 t138).f6), .int .i64 ((rd_T45 l0 t138).f7), .int .i64 ((rd_T45 l0 t138).f8), .int .i64 ((rd_T45 l0 t138).f9), .string ((rd_T45 l0 t138).f10), .string ((rd_T45 l0 t138).f11)] 45 (0, 0)) (by (with_reducible repeat (first | refine blk_drewN ?_ _ | refine blk_drew ?_ | refine blk_alloc ?_ _)); exact BK140.out) hb)
               have n3_ := Aside0.mk (below_step (by repeat (first | (with_reducible first | exact HB.out | apply below_alloc | apply pw_below_drewN | apply below_drew1 | refine below_set ?_ GE128.out | refine below_set ?_ GE140.out) | exact HB.out)) hb)
               clear HO_6; clear BK128; clear BK140; clear HB
               have HO_6 := n0_
               have BK128 := n1_
               have BK140 := n2_
               have HB := n3_
               clear n0_ n1_ n2_ n3_
               (try clear hb)
               (try clear hb2)
               (try clear hk)
               (try clear hi)
               have p29 : 0 ≤ (x49_1 : Int) := of_decide_eq_true (by first | (with_reducible assumption) | assumption)
               have q29 : (x49_1 : Int) < ((x6_2.length : Int) : Int) := of_decide_eq_true (by first | (with_reducible assumption) | assumption)
               obtain ⟨ce29, hcl29, hM29, hcc29, hfr29⟩ := Kd.R_elem HO_6.out z37 (x49_1 : Int) p29 q29
               obtain rfl := k37_openM hM29
               have hx29_0 : World.cell? _ ⟨go15, (x49_1 : Int).toNat * 2, none⟩ = some (.int .i64 ((rd_T37 x6_2 x49_1).f0)) := hcc29 0 _ rfl
               have hx29_1 : World.cell? _ ⟨go15, (x49_1 : Int).toNat * 2 + 1, none⟩ = some (.int .i64 ((rd_T37 x6_2 x49_1).f1)) := hcc29 1 _ rfl
               have hf29_0 : World.frozen? _ ⟨go15, (x49_1 : Int).toNat * 2, none⟩ = false := hfr29 0
               have hf29_1 : World.frozen? _ ⟨go15, (x49_1 : Int).toNat * 2 + 1, none⟩ = false := hfr29 1
               clear hcl29 hcc29 hfr29 hM29
               replace p29 := eq_true p29
               replace q29 := eq_true q29
               obtain ⟨ce38, hcl38, hM38, hcc38, hfr38⟩ := Kd.R_elem HO_6.out z37 (x49_1 : Int) (of_decide_eq_true (by first | (with_reducible assumption) | assumption)) (by have h_ : (x49_1 : Int) < ((x6_2.length : Int) : Int) := of_decide_eq_true (by first | (with_reducible assumption) | assumption); first | exact h_ | (have e_ := (Kd.R_reads' HO_6.out).1; omega) | simpa using h_)
               obtain rfl := k37_openM hM38
               have HP38 := (Kd.R_seg HO_6.out (x49_1 : Int) (of_decide_eq_true (by first | (with_reducible assumption) | assumption)) (by have h_ : (x49_1 : Int) < ((x6_2.length : Int) : Int) := of_decide_eq_true (by first | (with_reducible assumption) | assumption); first | exact h_ | (have e_ := (Kd.R_reads' HO_6.out).1; omega) | simpa using h_) (seg := [.int .i64 t145, .int .i64 t146]) (j := 0) hcl38 hcc38 (show 2 ≤ 2 from by decide) (x' := (⟨t145, t146⟩ : S37)) (k37_mkM _ _ _ (⟨t145, t146⟩ : S37) ) (fun _ hk => hk)).1
               rw [← Ny147.out] at HP38
               have HQ38 := Aside0.mk HP38
               clear hcl38 hcc38 hfr38 hM38 HP38
               refine hK.out _ _ ⟨(blk_cell BK140.out 0).trans rfl, (blk_cell BK140.out 1).trans rfl, (blk_cell BK140.out 2).trans rfl, (blk_cell BK140.out 3).trans rfl, (blk_cell BK140.out 4).trans rfl, (blk_cell BK140.out 5).trans rfl, (blk_cell BK140.out 6).trans rfl, (blk_cell BK140.out 7).trans rfl, (blk_cell BK140.out 8).trans rfl, (blk_cell BK140.out 9).trans rfl, (blk_cell BK140.out 10).trans rfl, (blk_cell BK140.out 11).trans rfl, HS12_, HS13_, HS14_, HS15_⟩ (fun hHeld => ?_)
               clear hK K
               refine norm_ (a' := ?_) ?_ ?_
               rotate_left
               ·show Act.put _ (some 97) _ = _
                simp only [Act.put, List.setIfInBounds_toArray, List.set_cons_zero, List.set_cons_succ, i64_w, i32_w]
                rfl
               refine pure_ (i := 24) (N := some 98) (v := ?_) (a' := ?_) #[true, true, true, true, true, true, true, true, true, true, true, true, true, true, true, true, true, true, true, true, true, true, true, true, true, false] rfl rfl (any_of HT_.out (by kernel_rfl)) (fun _ _ _ h => h) (Or.inl ⟨by rfl, ?_⟩) ?_ ?_
               rotate_left
               ·intro w'
                go_simp
                with_reducible rfl
               rotate_left
               ·simp only [Act.put, List.setIfInBounds_toArray, List.set_cons_zero, List.set_cons_succ, i64_w, i32_w]
                rfl
               refine last_ (i := 25) (N := none) #[true, true, true, true, true, true, true, true, true, true, true, true, true, true, true, true, true, true, true, true, true, true, true, true, true, true] rfl rfl (one_of HT_.out (by kernel_rfl)) (by decide) (fun K hK => ?_)
               refine skip_ (w1 := ?_) (by rfl) rfl ?_ ?_
               rotate_left
               ·go_simp
                rfl
               refine hK.out _ _ ?_
               clear hK K
               refine done_ (done_of HT_.out (by kernel_rfl)) ?_
               obtain ⟨hcz39_0, hcz39_1, hcz39_2, hcz39_3, hcz39_4, hcz39_5, hcz39_6, hcz39_7, hcz39_8, hcz39_9, hcz39_10, hcz39_11⟩ := cells12 BK140.out
               have hfz39_ := fun j => blk_frozen BK140.out j
               try have hne_ : gb140 ≠ go15 := fun e => (Kd.R_ne HO_6.out BK140.out (by decide)) (by rw [e]; rfl)
               try have hcf_ : ∀ (W : World) (j i : Nat) (u : Value), (W.setCell ⟨go15, j, none⟩ u).cell? ⟨gb140, i, none⟩ = W.cell? ⟨gb140, i, none⟩ := fun W j i u => cell_far hne_ u
               try simp only [add_plain]
               try go_wp2
               (try simp only [← hl6_2])
               go_roundg k2
               case measure => have := HK1.out; have := HK2.out; omega
               case rel => exact ⟨(y147), ((rd_T45 l0 t138).f1), (by first | rfl | (simp; done) | (simp [*]; done)), H', ⟨by have := HK1.out; have := HK2.out; omega⟩, ⟨by (try simp only [hl6_1]); (try simp only [hl6_2]); (with_reducible repeat (first | apply Kd.R_alloc | apply Kd.R_drewN | apply Kd.R_drew)); exact HQ38.out⟩, ⟨by (try simp only [hl6_1]); (try simp only [hl6_2]); (with_reducible repeat (first | refine blk_drewN ?_ _ | refine blk_drew ?_ | refine blk_alloc ?_ _)); refine blk_far ?_ (by have h_ := Kd.R_ne HO_6.out BK128.out (by decide); intro e_; exact h_ (by rw [e_]; rfl)) _; (with_reducible repeat (first | refine blk_drewN ?_ _ | refine blk_drew ?_ | refine blk_alloc ?_ _)); refine blk_far ?_ (by have h_ := Kd.R_ne HO_6.out BK128.out (by decide); intro e_; exact h_ (by rw [e_]; rfl)) _; (with_reducible repeat (first | refine blk_drewN ?_ _ | refine blk_drew ?_ | refine blk_alloc ?_ _)); exact BK128.out⟩, ⟨by repeat (first | (with_reducible first | exact HB.out | apply below_alloc | apply pw_below_drewN | apply below_drew1 | refine below_set ?_ GB15.out | refine below_set ?_ GB15.out | refine below_set ?_ GE128.out | refine below_set ?_ GE140.out) | exact HB.out)⟩⟩
              ·rw [if_neg c26] at H
               exact absurd H (by simp)
             ·rw [if_neg c25] at H
              exact absurd H (by simp)
            ·rw [if_neg c24] at H
             exact absurd H (by simp)
           ·rw [if_neg c23] at H
            exact absurd H (by simp)
       ·rw [if_neg c12] at H
        exact absurd H (by simp)
      ·rw [if_neg c11] at H
       exact absurd H (by simp)
     ·rw [if_neg c10] at H
      have c10b0 : decide (x49_1 < (y129.length : Int)) = false := decide_eq_false c10
      have c10y : decide (x49_1 < (x6_1.length : Int)) = false := by rw [← hl6_1]; exact c10b0
      clear c10
      obtain rfl := Option.some.inj H
      go_wp2
      go_ret
      exact ⟨_, by first | rfl | (simp [errW_none, errW_some] <;> rfl) | (simp [*, errW_none, errW_some] <;> rfl), by (with_reducible repeat (first | apply Kd.R_alloc | apply Kd.R_drewN | apply Kd.R_drew)); exact HO_6.out, by repeat (first | (with_reducible first | exact HB.out | apply below_alloc | apply pw_below_drewN | apply below_drew1 | refine below_set ?_ GE128.out) | exact HB.out)⟩
  ·rw [if_neg c4] at H
   exact absurd H (by simp)
 ·rw [if_neg c3] at H
  exact absurd H (by simp)
end Go.Proofs.YtmheeekbbhkmkaaDoor.QSC
