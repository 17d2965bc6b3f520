import Derived.Test.YtmheeekbbhkmkaaDoorQSCx0
import Derived.Test.YtmheeekbbhkmkaaDoorQSCx1
import Derived.Test.YtmheeekbbhkmkaaDoorQSCx2
import Derived.Test.YtmheeekbbhkmkaaDoorQSCx3
import Derived.Test.YtmheeekbbhkmkaaDoorQSCx4
namespace Go.Proofs.YtmheeekbbhkmkaaDoor.QSC
open Go.RowKit Go.Proofs.YtmheeekbbhkmkaaDoor.QSH Go.Proofs.YtmheeekbbhkmkaaDoor.HandSH Go.Proofs.YtmheeekbbhkmkaaDoor.Cells Go.Proofs.YtmheeekbbhkmkaaDoorW.PrintWords Go.Proofs.YtmheeekbbhkmkaaDoorW.PrintLast Go.Proofs.YtmheeekbbhkmkaaDoorW.PrintMore
attribute [local go_sem] max2_int min2_int max_two min_two max_three min_three max_four min_four 
set_option linter.unusedVariables false
set_option linter.unusedSimpArgs false
attribute [local go_sem high] eqA30 eqA37
mutual
def chancerylaw3_ShapeCorners.j0 : Nat → List (S45) → List (S37) → Int → Int → Int → Int → Bool → Int → Int → Int → Int → Option (Bool)
 | 0, _, _, _, _, _, _, _, _, _, _, _ => none
 | k + 1, x0, x5, x6, x8, x9, x10, x45, x162000, x162001, x162002, x162003 => if x45 = true then (chancerylaw3_ShapeCorners.j1 k x0 x5 x6 x8 7 x10 x162000 x162001 x162002 x162003) else (chancerylaw3_ShapeCorners.j1 k x0 x5 x6 x8 x9 x10 x162000 x162001 x162002 x162003)
def chancerylaw3_ShapeCorners.j1 : Nat → List (S45) → List (S37) → Int → Int → Int → Int → Int → Int → Int → Int → Option (Bool)
 | 0, _, _, _, _, _, _, _, _, _, _ => none
 | k + 1, x0, x5, x6, x8, x9, x10, x162000, x162001, x162002, x162003 => if x9 = 0 then ((chanceryref3_CornersOf.f k x0 x10).bind fun t165 => (if x6 = 0 then (if x8 = 0 then (chancerylaw3_ShapeCorners.j2 k x5 t165 ((x5.length : Int) != 4) x162000 x162001 x162002 x162003) else (chancerylaw3_ShapeCorners.j2 k x5 t165 true x162000 x162001 x162002 x162003)) else (chancerylaw3_ShapeCorners.j2 k x5 t165 true x162000 x162001 x162002 x162003))) else (if x6 = x9 then (if x8 = x9 then (if (x5.length : Int) = 0 then (some (x162000 == 0 && (x162001 == 0 && (x162002 == 0 && (x162003 == 0))))) else (some false)) else (some false)) else (some false))
def chancerylaw3_ShapeCorners.j2 : Nat → List (S37) → List (S37) → Bool → Int → Int → Int → Int → Option (Bool)
 | 0, _, _, _, _, _, _, _ => none
 | k + 1, x5, x11, x79, x162000, x162001, x162002, x162003 => if x79 = true then (some false) else (if 0 < (x11.length : Int) then (chancerylaw3_ShapeCorners.l0 k x5 x11 (x11.length : Int) 0 x162000 x162001 x162002 x162003 ((rd_T37 x11 0).f0) ((rd_T37 x11 0).f1) ((rd_T37 x11 0).f0) ((rd_T37 x11 0).f1)) else (none))
def chancerylaw3_ShapeCorners.l0 : Nat → List (S37) → List (S37) → Int → Int → Int → Int → Int → Int → Int → Int → Int → Int → Option (Bool)
 | 0, _, _, _, _, _, _, _, _, _, _, _, _ => none
 | k + 1, x5, x97, x98, x99, x162000, x162001, x162002, x162003, x173000, x173001, x173002, x173003 => if x99 < x98 then (if 0 ≤ x99 then (if x99 < (x97.length : Int) then (if x99 < (x5.length : Int) then (if (!(((rd_T37 x5 x99).f0) == ((rd_T37 x97 x99).f0)) || (!(((rd_T37 x5 x99).f1) == ((rd_T37 x97 x99).f1)))) = true then (some false) else (chancerylaw3_ShapeCorners.l0 k x5 x97 x98 (wrap64 (x99 + 1)) x162000 x162001 x162002 x162003 (mn x173000 ((rd_T37 x97 x99).f0)) (mn x173001 ((rd_T37 x97 x99).f1)) (mx x173002 ((rd_T37 x97 x99).f0)) (mx x173003 ((rd_T37 x97 x99).f1)))) else (none)) else (none)) else (none)) else (some (x162000 == x173000 && (x162001 == x173001 && (x162002 == x173002 && (x162003 == x173003)))))
end
def chancerylaw3_ShapeCorners.f (k : Nat) (l0 : List (S45)) (a1 : Int) : Option (Bool) := (chancerylaw3_shaped.f k).bind fun t148 => (if t148 = true then ((chancerylaw3_cutShapes.f l0).bind fun t149 => ((shape_Corners.f k t149 a1).bind fun bt152 => ((shape_Bounds.f k t149 a1).bind fun bt156 => ((chanceryref3_ShapesError.f k t149).bind fun t162 => ((shape_Check.f k t149).bind fun t163 => (if t163 = t162 then ((chanceryref3_ShapeAt.f k t149 a1).bind fun t164 => (if t162 = 0 then (chancerylaw3_ShapeCorners.j0 k t149 bt152.1 bt152.2 bt156.2.2.2.2 t162 t164 (decide (t164 < 0)) bt156.1 bt156.2.1 bt156.2.2.1 bt156.2.2.2.1) else (chancerylaw3_ShapeCorners.j0 k t149 bt152.1 bt152.2 bt156.2.2.2.2 t162 t164 false bt156.1 bt156.2.1 bt156.2.2.1 bt156.2.2.2.1))) else (some false))))))) else (some false))
theorem chancerylaw3_ShapeCorners.mono_l : ∀ k, (∀ y0 y1 y2 y3 y4 y5 y6 y7 y8 y9 y10, LeO (chancerylaw3_ShapeCorners.j0 k y0 y1 y2 y3 y4 y5 y6 y7 y8 y9 y10) (chancerylaw3_ShapeCorners.j0 (k + 1) y0 y1 y2 y3 y4 y5 y6 y7 y8 y9 y10)) ∧ (∀ y0 y1 y2 y3 y4 y5 y6 y7 y8 y9, LeO (chancerylaw3_ShapeCorners.j1 k y0 y1 y2 y3 y4 y5 y6 y7 y8 y9) (chancerylaw3_ShapeCorners.j1 (k + 1) y0 y1 y2 y3 y4 y5 y6 y7 y8 y9)) ∧ (∀ y0 y1 y2 y3 y4 y5 y6, LeO (chancerylaw3_ShapeCorners.j2 k y0 y1 y2 y3 y4 y5 y6) (chancerylaw3_ShapeCorners.j2 (k + 1) y0 y1 y2 y3 y4 y5 y6)) ∧ (∀ y0 y1 y2 y3 y4 y5 y6 y7 y8 y9 y10 y11, LeO (chancerylaw3_ShapeCorners.l0 k y0 y1 y2 y3 y4 y5 y6 y7 y8 y9 y10 y11) (chancerylaw3_ShapeCorners.l0 (k + 1) y0 y1 y2 y3 y4 y5 y6 y7 y8 y9 y10 y11))
 | 0 => ⟨fun _ _ _ _ _ _ _ _ _ _ _ r h => by simp [chancerylaw3_ShapeCorners.j0] at h, fun _ _ _ _ _ _ _ _ _ _ r h => by simp [chancerylaw3_ShapeCorners.j1] at h, fun _ _ _ _ _ _ _ r h => by simp [chancerylaw3_ShapeCorners.j2] at h, fun _ _ _ _ _ _ _ _ _ _ _ _ r h => by simp [chancerylaw3_ShapeCorners.l0] at h⟩
 | k + 1 => by
  obtain ⟨ih0, ih1, ih2, ih3⟩ := chancerylaw3_ShapeCorners.mono_l k
  refine ⟨?_, ?_, ?_, ?_⟩
  ·intro y0 y1 y2 y3 y4 y5 y6 y7 y8 y9 y10
   unfold chancerylaw3_ShapeCorners.j0
   repeat' first
   | (with_reducible exact ih0 _ _ _ _ _ _ _ _ _ _ _)
   | (with_reducible exact ih1 _ _ _ _ _ _ _ _ _ _)
   | (with_reducible exact ih2 _ _ _ _ _ _ _)
   | (with_reducible exact ih3 _ _ _ _ _ _ _ _ _ _ _ _)
   | (with_reducible exact chancerylaw3_shaped.mono _)
   | (with_reducible exact chanceryref3_CornersOf.mono _ _ _)
   | (with_reducible exact chanceryref3_ShapeAt.mono _ _ _)
   | (with_reducible exact chanceryref3_ShapesError.mono _ _)
   | (with_reducible exact shape_Bounds.mono _ _ _)
   | (with_reducible exact shape_Check.mono _ _)
   | (with_reducible exact shape_Corners.mono _ _ _)
   | (with_reducible exact LeO.refl _)
   | (with_reducible exact LeO.none _)
   | (with_reducible refine LeO.ite ?_ ?_)
   | (with_reducible refine LeO.bind ?_ (fun _ => ?_))
   | exact ih0 _ _ _ _ _ _ _ _ _ _ _
   | exact ih1 _ _ _ _ _ _ _ _ _ _
   | exact ih2 _ _ _ _ _ _ _
   | exact ih3 _ _ _ _ _ _ _ _ _ _ _ _
   | exact chancerylaw3_shaped.mono _
   | exact chanceryref3_CornersOf.mono _ _ _
   | exact chanceryref3_ShapeAt.mono _ _ _
   | exact chanceryref3_ShapesError.mono _ _
   | exact shape_Bounds.mono _ _ _
   | exact shape_Check.mono _ _
   | exact shape_Corners.mono _ _ _
   | exact LeO.none _
   | refine LeO.ite ?_ ?_
   | refine LeO.bind ?_ (fun _ => ?_)
  ·intro y0 y1 y2 y3 y4 y5 y6 y7 y8 y9
   unfold chancerylaw3_ShapeCorners.j1
   repeat' first
   | (with_reducible exact ih0 _ _ _ _ _ _ _ _ _ _ _)
   | (with_reducible exact ih1 _ _ _ _ _ _ _ _ _ _)
   | (with_reducible exact ih2 _ _ _ _ _ _ _)
   | (with_reducible exact ih3 _ _ _ _ _ _ _ _ _ _ _ _)
   | (with_reducible exact chancerylaw3_shaped.mono _)
   | (with_reducible exact chanceryref3_CornersOf.mono _ _ _)
   | (with_reducible exact chanceryref3_ShapeAt.mono _ _ _)
   | (with_reducible exact chanceryref3_ShapesError.mono _ _)
   | (with_reducible exact shape_Bounds.mono _ _ _)
   | (with_reducible exact shape_Check.mono _ _)
   | (with_reducible exact shape_Corners.mono _ _ _)
   | (with_reducible exact LeO.refl _)
   | (with_reducible exact LeO.none _)
   | (with_reducible refine LeO.ite ?_ ?_)
   | (with_reducible refine LeO.bind ?_ (fun _ => ?_))
   | exact ih0 _ _ _ _ _ _ _ _ _ _ _
   | exact ih1 _ _ _ _ _ _ _ _ _ _
   | exact ih2 _ _ _ _ _ _ _
   | exact ih3 _ _ _ _ _ _ _ _ _ _ _ _
   | exact chancerylaw3_shaped.mono _
   | exact chanceryref3_CornersOf.mono _ _ _
   | exact chanceryref3_ShapeAt.mono _ _ _
   | exact chanceryref3_ShapesError.mono _ _
   | exact shape_Bounds.mono _ _ _
   | exact shape_Check.mono _ _
   | exact shape_Corners.mono _ _ _
   | exact LeO.none _
   | refine LeO.ite ?_ ?_
   | refine LeO.bind ?_ (fun _ => ?_)
  ·intro y0 y1 y2 y3 y4 y5 y6
   unfold chancerylaw3_ShapeCorners.j2
   repeat' first
   | (with_reducible exact ih0 _ _ _ _ _ _ _ _ _ _ _)
   | (with_reducible exact ih1 _ _ _ _ _ _ _ _ _ _)
   | (with_reducible exact ih2 _ _ _ _ _ _ _)
   | (with_reducible exact ih3 _ _ _ _ _ _ _ _ _ _ _ _)
   | (with_reducible exact chancerylaw3_shaped.mono _)
   | (with_reducible exact chanceryref3_CornersOf.mono _ _ _)
   | (with_reducible exact chanceryref3_ShapeAt.mono _ _ _)
   | (with_reducible exact chanceryref3_ShapesError.mono _ _)
   | (with_reducible exact shape_Bounds.mono _ _ _)
   | (with_reducible exact shape_Check.mono _ _)
   | (with_reducible exact shape_Corners.mono _ _ _)
   | (with_reducible exact LeO.refl _)
   | (with_reducible exact LeO.none _)
   | (with_reducible refine LeO.ite ?_ ?_)
   | (with_reducible refine LeO.bind ?_ (fun _ => ?_))
   | exact ih0 _ _ _ _ _ _ _ _ _ _ _
   | exact ih1 _ _ _ _ _ _ _ _ _ _
   | exact ih2 _ _ _ _ _ _ _
   | exact ih3 _ _ _ _ _ _ _ _ _ _ _ _
   | exact chancerylaw3_shaped.mono _
   | exact chanceryref3_CornersOf.mono _ _ _
   | exact chanceryref3_ShapeAt.mono _ _ _
   | exact chanceryref3_ShapesError.mono _ _
   | exact shape_Bounds.mono _ _ _
   | exact shape_Check.mono _ _
   | exact shape_Corners.mono _ _ _
   | exact LeO.none _
   | refine LeO.ite ?_ ?_
   | refine LeO.bind ?_ (fun _ => ?_)
  ·intro y0 y1 y2 y3 y4 y5 y6 y7 y8 y9 y10 y11
   unfold chancerylaw3_ShapeCorners.l0
   repeat' first
   | (with_reducible exact ih0 _ _ _ _ _ _ _ _ _ _ _)
   | (with_reducible exact ih1 _ _ _ _ _ _ _ _ _ _)
   | (with_reducible exact ih2 _ _ _ _ _ _ _)
   | (with_reducible exact ih3 _ _ _ _ _ _ _ _ _ _ _ _)
   | (with_reducible exact chancerylaw3_shaped.mono _)
   | (with_reducible exact chanceryref3_CornersOf.mono _ _ _)
   | (with_reducible exact chanceryref3_ShapeAt.mono _ _ _)
   | (with_reducible exact chanceryref3_ShapesError.mono _ _)
   | (with_reducible exact shape_Bounds.mono _ _ _)
   | (with_reducible exact shape_Check.mono _ _)
   | (with_reducible exact shape_Corners.mono _ _ _)
   | (with_reducible exact LeO.refl _)
   | (with_reducible exact LeO.none _)
   | (with_reducible refine LeO.ite ?_ ?_)
   | (with_reducible refine LeO.bind ?_ (fun _ => ?_))
   | exact ih0 _ _ _ _ _ _ _ _ _ _ _
   | exact ih1 _ _ _ _ _ _ _ _ _ _
   | exact ih2 _ _ _ _ _ _ _
   | exact ih3 _ _ _ _ _ _ _ _ _ _ _ _
   | exact chancerylaw3_shaped.mono _
   | exact chanceryref3_CornersOf.mono _ _ _
   | exact chanceryref3_ShapeAt.mono _ _ _
   | exact chanceryref3_ShapesError.mono _ _
   | exact shape_Bounds.mono _ _ _
   | exact shape_Check.mono _ _
   | exact shape_Corners.mono _ _ _
   | exact LeO.none _
   | refine LeO.ite ?_ ?_
   | refine LeO.bind ?_ (fun _ => ?_)
theorem chancerylaw3_ShapeCorners.mono : ∀ a0 a1 k, LeO (chancerylaw3_ShapeCorners.f k a0 a1) (chancerylaw3_ShapeCorners.f (k + 1) a0 a1) := by
 intro a0 a1 k
 obtain ⟨ih0, ih1, ih2, ih3⟩ := chancerylaw3_ShapeCorners.mono_l k
 unfold chancerylaw3_ShapeCorners.f
 repeat' first
   | (with_reducible exact ih0 _ _ _ _ _ _ _ _ _ _ _)
   | (with_reducible exact ih1 _ _ _ _ _ _ _ _ _ _)
   | (with_reducible exact ih2 _ _ _ _ _ _ _)
   | (with_reducible exact ih3 _ _ _ _ _ _ _ _ _ _ _ _)
   | (with_reducible exact chancerylaw3_shaped.mono _)
   | (with_reducible exact chanceryref3_CornersOf.mono _ _ _)
   | (with_reducible exact chanceryref3_ShapeAt.mono _ _ _)
   | (with_reducible exact chanceryref3_ShapesError.mono _ _)
   | (with_reducible exact shape_Bounds.mono _ _ _)
   | (with_reducible exact shape_Check.mono _ _)
   | (with_reducible exact shape_Corners.mono _ _ _)
   | (with_reducible exact LeO.refl _)
   | (with_reducible exact LeO.none _)
   | (with_reducible refine LeO.ite ?_ ?_)
   | (with_reducible refine LeO.bind ?_ (fun _ => ?_))
   | exact ih0 _ _ _ _ _ _ _ _ _ _ _
   | exact ih1 _ _ _ _ _ _ _ _ _ _
   | exact ih2 _ _ _ _ _ _ _
   | exact ih3 _ _ _ _ _ _ _ _ _ _ _ _
   | exact chancerylaw3_shaped.mono _
   | exact chanceryref3_CornersOf.mono _ _ _
   | exact chanceryref3_ShapeAt.mono _ _ _
   | exact chanceryref3_ShapesError.mono _ _
   | exact shape_Bounds.mono _ _ _
   | exact shape_Check.mono _ _
   | exact shape_Corners.mono _ _ _
   | exact LeO.none _
   | refine LeO.ite ?_ ?_
   | refine LeO.bind ?_ (fun _ => ?_)
def chancerylaw3_ShapeCorners.T17 : Bool × List (List Nat × List Nat) := (true, [([], []), ([0], [0]), ([1], [1]), ([2], [2]), ([], []), ([4], [4]), ([5], [5]), ([6], [6]), ([], []), ([8], [8]), ([9], [9]), ([10], [10]), ([], []), ([12], [12]), ([13], [13]), ([14], [14]), ([3, 7, 11, 15], [3, 7, 11, 15]), ([], []), ([17, 16, 0, 1, 2, 3, 4, 5, 6, 7, 8, 9, 10, 11, 12, 13, 14, 15, 16, 17], [16, 17])])
def chancerylaw3_ShapeCorners.B17 : List Nat := [0, 1, 3, 7, 0, 16, 48, 112, 0, 256, 768, 1792, 0, 4096, 12288, 28672, 65535, 0, 262143]
theorem chancerylaw3_ShapeCorners.tab17 : rtab .any (opsOf Tryd.f3 17) = chancerylaw3_ShapeCorners.T17 := by kernel_rfl
theorem chancerylaw3_ShapeCorners.bits17 : waitsOk chancerylaw3_ShapeCorners.T17.2 chancerylaw3_ShapeCorners.B17 = true := by kernel_rfl
set_option maxHeartbeats 8000000 in
set_option maxRecDepth 100000 in
theorem chancerylaw3_ShapeCorners.calls (k : Nat) (A0 : Option Addr) (c0 : Nat) (l0 : List (S45)) (a1 : Int) (r : Bool) (w : World) (hr0 : Kd.C k45 w A0 l0.length l0) (hc0 : l0.length ≤ c0) (h : chancerylaw3_ShapeCorners.f k l0 a1 = some r) (hL : LaidW w) :
  Calls Tryd.prog 3 #[.slice A0 l0.length c0, .int .i64 a1] w fun e w' => e = .returned (.bool r) ∧ Below w.heap.size w w' := by
 have HLd := Aside0.mk hL
 clear hL
 have hu30 := Tryd.underlying30
 have hu37 := Tryd.underlying37
 have HR0 := Aside0.mk hr0
 have HC0 := Aside0.mk hc0
 clear hr0 hc0
 have HB := Aside0.mk (Below.refl w.heap.size w)
 have H : ((chancerylaw3_shaped.f k).bind fun t148 => (if t148 = true then ((chancerylaw3_cutShapes.f l0).bind fun t149 => ((shape_Corners.f k t149 a1).bind fun bt152 => ((shape_Bounds.f k t149 a1).bind fun bt156 => ((chanceryref3_ShapesError.f k t149).bind fun t162 => ((shape_Check.f k t149).bind fun t163 => (if t163 = t162 then ((chanceryref3_ShapeAt.f k t149 a1).bind fun t164 => (if t162 = 0 then (chancerylaw3_ShapeCorners.j0 k t149 bt152.1 bt152.2 bt156.2.2.2.2 t162 t164 (decide (t164 < 0)) bt156.1 bt156.2.1 bt156.2.2.1 bt156.2.2.2.1) else (chancerylaw3_ShapeCorners.j0 k t149 bt152.1 bt152.2 bt156.2.2.2.2 t162 t164 false bt156.1 bt156.2.1 bt156.2.2.1 bt156.2.2.2.1))) else (some false))))))) else (some false))) = some r := h
 clear h
 replace H := Option.bind_eq_some_iff.mp H
 obtain ⟨t148, A30, H⟩ := H
 replace H : (if t148 = true then ((chancerylaw3_cutShapes.f l0).bind fun t149 => ((shape_Corners.f k t149 a1).bind fun bt152 => ((shape_Bounds.f k t149 a1).bind fun bt156 => ((chanceryref3_ShapesError.f k t149).bind fun t162 => ((shape_Check.f k t149).bind fun t163 => (if t163 = t162 then ((chanceryref3_ShapeAt.f k t149 a1).bind fun t164 => (if t162 = 0 then (chancerylaw3_ShapeCorners.j0 k t149 bt152.1 bt152.2 bt156.2.2.2.2 t162 t164 (decide (t164 < 0)) bt156.1 bt156.2.1 bt156.2.2.1 bt156.2.2.2.1) else (chancerylaw3_ShapeCorners.j0 k t149 bt152.1 bt152.2 bt156.2.2.2.2 t162 t164 false bt156.1 bt156.2.1 bt156.2.2.1 bt156.2.2.2.1))) else (some false))))))) else (some false)) = some r := H
 have A3 := Aside0.mk A30
 clear A30
 by_cases c4 : t148 = true
 ·subst c4
  have H1 : ((chancerylaw3_cutShapes.f l0).bind fun t149 => ((shape_Corners.f k t149 a1).bind fun bt152 => ((shape_Bounds.f k t149 a1).bind fun bt156 => ((chanceryref3_ShapesError.f k t149).bind fun t162 => ((shape_Check.f k t149).bind fun t163 => (if t163 = t162 then ((chanceryref3_ShapeAt.f k t149 a1).bind fun t164 => (if t162 = 0 then (chancerylaw3_ShapeCorners.j0 k t149 bt152.1 bt152.2 bt156.2.2.2.2 t162 t164 (decide (t164 < 0)) bt156.1 bt156.2.1 bt156.2.2.1 bt156.2.2.2.1) else (chancerylaw3_ShapeCorners.j0 k t149 bt152.1 bt152.2 bt156.2.2.2.2 t162 t164 false bt156.1 bt156.2.1 bt156.2.2.1 bt156.2.2.2.1))) else (some false))))))) = some r := by rw [if_pos rfl] at H; exact H
  clear H
  have H := H1
  clear H1
  replace H := Option.bind_eq_some_iff.mp H
  obtain ⟨t149, A50, H⟩ := H
  replace H : ((shape_Corners.f k t149 a1).bind fun bt152 => ((shape_Bounds.f k t149 a1).bind fun bt156 => ((chanceryref3_ShapesError.f k t149).bind fun t162 => ((shape_Check.f k t149).bind fun t163 => (if t163 = t162 then ((chanceryref3_ShapeAt.f k t149 a1).bind fun t164 => (if t162 = 0 then (chancerylaw3_ShapeCorners.j0 k t149 bt152.1 bt152.2 bt156.2.2.2.2 t162 t164 (decide (t164 < 0)) bt156.1 bt156.2.1 bt156.2.2.1 bt156.2.2.2.1) else (chancerylaw3_ShapeCorners.j0 k t149 bt152.1 bt152.2 bt156.2.2.2.2 t162 t164 false bt156.1 bt156.2.1 bt156.2.2.1 bt156.2.2.2.1))) else (some false)))))) = some r := H
  have A5 := Aside0.mk A50
  clear A50
  replace H := Option.bind_eq_some_iff.mp H
  obtain ⟨⟨t152, t153⟩, A60, H⟩ := H
  replace H : ((shape_Bounds.f k t149 a1).bind fun bt156 => ((chanceryref3_ShapesError.f k t149).bind fun t162 => ((shape_Check.f k t149).bind fun t163 => (if t163 = t162 then ((chanceryref3_ShapeAt.f k t149 a1).bind fun t164 => (if t162 = 0 then (chancerylaw3_ShapeCorners.j0 k t149 t152 t153 bt156.2.2.2.2 t162 t164 (decide (t164 < 0)) bt156.1 bt156.2.1 bt156.2.2.1 bt156.2.2.2.1) else (chancerylaw3_ShapeCorners.j0 k t149 t152 t153 bt156.2.2.2.2 t162 t164 false bt156.1 bt156.2.1 bt156.2.2.1 bt156.2.2.2.1))) else (some false))))) = some r := H
  have A6 := Aside0.mk A60
  clear A60
  replace H := Option.bind_eq_some_iff.mp H
  obtain ⟨⟨t156, t157, t158, t159, t160⟩, A70, H⟩ := H
  replace H : ((chanceryref3_ShapesError.f k t149).bind fun t162 => ((shape_Check.f k t149).bind fun t163 => (if t163 = t162 then ((chanceryref3_ShapeAt.f k t149 a1).bind fun t164 => (if t162 = 0 then (chancerylaw3_ShapeCorners.j0 k t149 t152 t153 t160 t162 t164 (decide (t164 < 0)) t156 t157 t158 t159) else (chancerylaw3_ShapeCorners.j0 k t149 t152 t153 t160 t162 t164 false t156 t157 t158 t159))) else (some false)))) = some r := H
  have A7 := Aside0.mk A70
  clear A70
  replace H := Option.bind_eq_some_iff.mp H
  obtain ⟨t162, A80, H⟩ := H
  replace H : ((shape_Check.f k t149).bind fun t163 => (if t163 = t162 then ((chanceryref3_ShapeAt.f k t149 a1).bind fun t164 => (if t162 = 0 then (chancerylaw3_ShapeCorners.j0 k t149 t152 t153 t160 t162 t164 (decide (t164 < 0)) t156 t157 t158 t159) else (chancerylaw3_ShapeCorners.j0 k t149 t152 t153 t160 t162 t164 false t156 t157 t158 t159))) else (some false))) = some r := H
  have A8 := Aside0.mk A80
  clear A80
  replace H := Option.bind_eq_some_iff.mp H
  obtain ⟨t163, A90, H⟩ := H
  replace H : (if t163 = t162 then ((chanceryref3_ShapeAt.f k t149 a1).bind fun t164 => (if t162 = 0 then (chancerylaw3_ShapeCorners.j0 k t149 t152 t153 t160 t162 t164 (decide (t164 < 0)) t156 t157 t158 t159) else (chancerylaw3_ShapeCorners.j0 k t149 t152 t153 t160 t162 t164 false t156 t157 t158 t159))) else (some false)) = some r := H
  have A9 := Aside0.mk A90
  clear A90
  by_cases c10 : t163 = t162
  ·rw [if_pos c10] at H
   have c10b0 : (t163 == t162) = true := beq_iff_eq.mpr c10
   have c10b1 : (t163 != t162) = false := bne_eq_false_iff_eq.mpr c10
   clear c10
   replace H := Option.bind_eq_some_iff.mp H
   obtain ⟨t164, A110, H⟩ := H
   replace H : (if t162 = 0 then (chancerylaw3_ShapeCorners.j0 k t149 t152 t153 t160 t162 t164 (decide (t164 < 0)) t156 t157 t158 t159) else (chancerylaw3_ShapeCorners.j0 k t149 t152 t153 t160 t162 t164 false t156 t157 t158 t159)) = some r := H
   have A11 := Aside0.mk A110
   clear A110
   have HC12 := Aside0.mk H
   clear H
   go_enter Tryd.func3, Tryd.ntmps3
   go_upto_region 10 with (first | ((with_reducible refine gate_callee (f := 5) rfl ?_); refine goesL_ (some 15) rfl rfl Tryd.func5 (by kernel_rfl) rfl #[] rfl (by (try simp only [List.map_toArray, List.map_cons, List.map_nil]); first | done | rfl) ?_; (with_reducible refine (chancerylaw3_shaped.calls k  true _ A3.out ?sL).mono ?_); (case sL => first | ((repeat (first | (with_reducible exact HLd.out) | (with_reducible refine LaidW.drewN ?_ _) | (with_reducible refine LaidW.drew ?_) | (with_reducible refine LaidW.alloc ?_ _))); done) | exact LaidW.now HLd.out (by repeat (first | (with_reducible first | exact HB.out | apply below_alloc | apply pw_below_drewN | apply below_drew1 | refine below_set ?_ GE161.out | refine below_set ?_ GE172.out | refine below_set ?_ GE174.out) | exact HB.out))); rintro e w13 ⟨rfl, hb⟩; refine ⟨_, rfl, ?_⟩; have n0_ := Aside0.mk (below_step (by repeat (first | (with_reducible first | exact HB.out | apply below_alloc | apply pw_below_drewN | apply below_drew1) | exact HB.out)) hb); clear HB; have HB := n0_; clear n0_; (try clear hb); (try clear hb2); (try clear hk); (try clear hi)) | ((with_reducible refine gate_callee (f := 6) rfl ?_); refine goesL_ (some 18) rfl rfl Tryd.func6 (by kernel_rfl) rfl #[.slice A0 l0.length c0] rfl (by (try simp only [List.map_toArray, List.map_cons, List.map_nil]); first | done | rfl) ?_; (with_reducible refine (chancerylaw3_cutShapes.calls (fun k_ => k_ < w.heap.size) _ _ l0 t149 _ ?side1 A5.out).mono ?_); (case side1 => exact Kd.V_mk HC0.out (Kd.F_below (Kd.C_F k45_heap HR0.out) (by repeat (first | (with_reducible first | exact HB.out | apply below_alloc | apply pw_below_drewN | apply below_drew1) | exact HB.out)))); rintro e w14 ⟨v150, rfl, ho0, hb⟩; refine ⟨_, rfl, ?_⟩; have n0_ := Aside0.mk (Kd.V_lower (Kd.V_mono (ok' := fun k_ => True) ho0 (fun k_ hk_ => trivial)) (below_size (by repeat (first | (with_reducible first | exact HB.out | apply below_alloc | apply pw_below_drewN | apply below_drew1) | exact HB.out)))); have n1_ := Aside0.mk (below_step (by repeat (first | (with_reducible first | exact HB.out | apply below_alloc | apply pw_below_drewN | apply below_drew1) | exact HB.out)) hb); clear HB; have HO151 := n0_; have HB := n1_; clear n0_ n1_; (try clear hb); (try clear hb2); (try clear hk); (try clear hi); (try clear ho0); obtain ⟨Ao15, co15, eo15⟩ := Kd.V_slice HO151.out; subst eo15) | ((with_reducible refine gate_callee (f := 7) rfl ?_); refine goesL_ (some 22) rfl rfl Tryd.func7 (by kernel_rfl) rfl #[.slice Ao15 t149.length co15, .int .i64 a1] rfl (by (try simp only [List.map_toArray, List.map_cons, List.map_nil]); first | done | rfl) ?_; (with_reducible refine (shape_Corners.calls k _ _ t149 a1 t152 t153 _ ?side1 ?side2 A6.out ?sL).mono ?_); (case sL => first | ((repeat (first | (with_reducible exact HLd.out) | (with_reducible refine LaidW.drewN ?_ _) | (with_reducible refine LaidW.drew ?_) | (with_reducible refine LaidW.alloc ?_ _))); done) | exact LaidW.now HLd.out (by repeat (first | (with_reducible first | exact HB.out | apply below_alloc | apply pw_below_drewN | apply below_drew1 | refine below_set ?_ GE161.out | refine below_set ?_ GE172.out | refine below_set ?_ GE174.out) | exact HB.out))); (case side1 => repeat (first | exact (Kd.V_reads' HO151.out).2.2 | (with_reducible refine Kd.C_alloc ?_ _) | (with_reducible refine Kd.C_drewN ?_ _) | (with_reducible refine Kd.C_drew ?_))); (case side2 => exact (Kd.V_reads' HO151.out).2.1); rintro e w16 ⟨v154, rfl, ho0, hb⟩; refine ⟨_, rfl, ?_⟩; have n0_ := Aside0.mk (Kd.V_elder' (by (with_reducible repeat (first | apply Kd.V_alloc | apply Kd.V_drewN | apply Kd.V_drew)); exact HO151.out) (Kd.R_base ho0) hb); have n1_ := Aside0.mk (Kd.R_lower ho0 (below_size (by repeat (first | (with_reducible first | exact HB.out | apply below_alloc | apply pw_below_drewN | apply below_drew1) | exact HB.out)))); have n2_ := Aside0.mk (below_step (by repeat (first | (with_reducible first | exact HB.out | apply below_alloc | apply pw_below_drewN | apply below_drew1) | exact HB.out)) hb); clear HO151; clear HB; have HO151 := n0_; have HO155 := n1_; have HB := n2_; clear n0_ n1_ n2_; (try clear hb); (try clear hb2); (try clear hk); (try clear hi); (try clear ho0)) | ((with_reducible refine gate_callee (f := 8) rfl ?_); refine goesL_ (some 28) rfl rfl Tryd.func8 (by kernel_rfl) rfl #[.slice Ao15 t149.length co15, .int .i64 a1] rfl (by (try simp only [List.map_toArray, List.map_cons, List.map_nil]); first | done | rfl) ?_; (with_reducible refine (shape_Bounds.calls k _ _ t149 a1 t156 t157 t158 t159 t160 _ ?side1 ?side2 A7.out ?sL).mono ?_); (case sL => first | ((repeat (first | (with_reducible exact HLd.out) | (with_reducible refine LaidW.drewN ?_ _) | (with_reducible refine LaidW.drew ?_) | (with_reducible refine LaidW.alloc ?_ _))); done) | exact LaidW.now HLd.out (by repeat (first | (with_reducible first | exact HB.out | apply below_alloc | apply pw_below_drewN | apply below_drew1 | refine below_set ?_ GE161.out | refine below_set ?_ GE172.out | refine below_set ?_ GE174.out) | exact HB.out))); (case side1 => repeat (first | exact (Kd.V_reads' HO151.out).2.2 | (with_reducible refine Kd.C_alloc ?_ _) | (with_reducible refine Kd.C_drewN ?_ _) | (with_reducible refine Kd.C_drew ?_))); (case side2 => exact (Kd.V_reads' HO151.out).2.1); rintro e w17 ⟨rfl, hb⟩; refine ⟨_, rfl, ?_⟩; have n0_ := Aside0.mk (Kd.V_below (by (with_reducible repeat (first | apply Kd.V_alloc | apply Kd.V_drewN | apply Kd.V_drew)); exact HO151.out) hb); have n1_ := Aside0.mk (Kd.R_below (by (with_reducible repeat (first | apply Kd.R_alloc | apply Kd.R_drewN | apply Kd.R_drew)); exact HO155.out) hb); have n2_ := Aside0.mk (below_step (by repeat (first | (with_reducible first | exact HB.out | apply below_alloc | apply pw_below_drewN | apply below_drew1) | exact HB.out)) hb); clear HO151; clear HO155; clear HB; have HO151 := n0_; have HO155 := n1_; have HB := n2_; clear n0_ n1_ n2_; (try clear hb); (try clear hb2); (try clear hk); (try clear hi)) | ((with_reducible refine gate_dst (N := 7) rfl ?_); (try (refine gate_guard (by rfl) ?_; dsimp only)); refine box_event ?hg (N := 7) ?hd (cs := #[.int .i64 0, .int .i64 0, .int .i64 0, .int .i64 0]) (t := 30) ?hr ?_; (case hd => rfl); (case hg => rfl); (case hr => first | (go_simp; done) | (go_simp; rfl)); intro gb161 hg w18 hbox hb; have n0_ := Aside0.mk (Kd.V_below (Kd.V_elderB (by (with_reducible repeat (first | apply Kd.V_alloc | apply Kd.V_drewN | apply Kd.V_drew)); exact HO151.out) gb161 (Nat.le_of_eq hg.symm)) hb); have n1_ := Aside0.mk (Kd.R_below (by (with_reducible repeat (first | apply Kd.R_alloc | apply Kd.R_drewN | apply Kd.R_drew)); exact HO155.out) hb); have n2_ := Aside0.mk (below_step (by repeat (first | (with_reducible first | exact HB.out | apply below_alloc | apply pw_below_drewN | apply below_drew1) | exact HB.out)) hb); have n3_ := Aside0.mk (hbox); have n4_ := Aside0.mk ((by rw [hg]; exact (below_size (by repeat (first | (with_reducible first | exact HB.out | apply below_alloc | apply pw_below_drewN | apply below_drew1) | exact HB.out))) : w.heap.size ≤ gb161)); have n5_ := Aside0.mk ((by rw [hg]; exact (below_size (by repeat (first | (with_reducible first | exact HB.out | apply below_alloc | apply pw_below_drewN | apply below_drew1) | exact HB.out))) : w.heap.size ≤ gb161)); clear HO151; clear HO155; clear HB; have HO151 := n0_; have HO155 := n1_; have HB := n2_; have BK161 := n3_; have GW161 := n4_; have GE161 := n5_; clear n0_ n1_ n2_ n3_ n4_ n5_; clear hb hbox hg; obtain ⟨hcz19_0, hcz19_1, hcz19_2, hcz19_3⟩ := cells4 BK161.out; have hfz19_ := fun j => blk_frozen BK161.out j) | ((with_reducible refine gate_callee (f := 9) rfl ?_); refine goesL_ (some 32) rfl rfl Tryd.func9 (by kernel_rfl) rfl #[.slice Ao15 t149.length co15] rfl (by (try simp only [List.map_toArray, List.map_cons, List.map_nil]); first | done | rfl) ?_; (with_reducible refine (chanceryref3_ShapesError.calls k _ _ t149 t162 _ ?side1 ?side2 A8.out).mono ?_); (case side1 => refine (Kd.V_reads' (e := 45) (base := w.heap.size) (ok := fun k_ => ((True ∧ some k_ ≠ (v154 : Value).ownBlock) ∧ k_ ≠ gb161)) (n := t149.length) (c := co15) ?_).2.2; exact (by (with_reducible repeat (first | apply Kd.V_alloc | apply Kd.V_drewN | apply Kd.V_drew)); exact (Kd.V_mono (Kd.V_far (p := ⟨gb161, 3, none⟩) (Kd.V_far (p := ⟨gb161, 2, none⟩) (Kd.V_far (p := ⟨gb161, 1, none⟩) (Kd.V_far (p := ⟨gb161, 0, none⟩) (Kd.V_mono HO151.out (fun k_ hk => (⟨hk, hk.2⟩ : _ ∧ k_ ≠ gb161))) (fun _ hk => hk.2) (.int .i64 t156)) (fun _ hk => hk.2) (.int .i64 t157)) (fun _ hk => hk.2) (.int .i64 t158)) (fun _ hk => hk.2) (.int .i64 t159)) (fun _ h_ => h_.1)))); (case side2 => exact (Kd.V_reads' HO151.out).2.1); rintro e w20 ⟨rfl, hb⟩; refine ⟨_, rfl, ?_⟩; have n0_ := Aside0.mk (Kd.V_below (by (with_reducible repeat (first | apply Kd.V_alloc | apply Kd.V_drewN | apply Kd.V_drew)); exact (Kd.V_mono (Kd.V_far (p := ⟨gb161, 3, none⟩) (Kd.V_far (p := ⟨gb161, 2, none⟩) (Kd.V_far (p := ⟨gb161, 1, none⟩) (Kd.V_far (p := ⟨gb161, 0, none⟩) (Kd.V_mono HO151.out (fun k_ hk => (⟨hk, hk.2⟩ : _ ∧ k_ ≠ gb161))) (fun _ hk => hk.2) (.int .i64 t156)) (fun _ hk => hk.2) (.int .i64 t157)) (fun _ hk => hk.2) (.int .i64 t158)) (fun _ hk => hk.2) (.int .i64 t159)) (fun _ h_ => h_.1))) hb); have n1_ := Aside0.mk (Kd.R_below (by (with_reducible repeat (first | apply Kd.R_alloc | apply Kd.R_drewN | apply Kd.R_drew)); exact (Kd.R_mono (Kd.R_far (p := ⟨gb161, 3, none⟩) (Kd.R_far (p := ⟨gb161, 2, none⟩) (Kd.R_far (p := ⟨gb161, 1, none⟩) (Kd.R_far (p := ⟨gb161, 0, none⟩) (Kd.R_types HO155.out BK161.out (by decide)) (fun _ hk => hk.2) (.int .i64 t156)) (fun _ hk => hk.2) (.int .i64 t157)) (fun _ hk => hk.2) (.int .i64 t158)) (fun _ hk => hk.2) (.int .i64 t159)) (fun _ h_ => h_.1))) hb); have n2_ := Aside0.mk (blk_below (g := gb161) (o := .cells #[.int .i64 t156, .int .i64 t157, .int .i64 t158, .int .i64 t159] 30 (0, 0)) (by (with_reducible repeat (first | refine blk_drewN ?_ _ | refine blk_drew ?_ | refine blk_alloc ?_ _)); refine blk_put (cs := #[.int .i64 t156, .int .i64 t157, .int .i64 t158, .int .i64 0]) ?_ 3 _ rfl; (with_reducible repeat (first | refine blk_drewN ?_ _ | refine blk_drew ?_ | refine blk_alloc ?_ _)); refine blk_put (cs := #[.int .i64 t156, .int .i64 t157, .int .i64 0, .int .i64 0]) ?_ 2 _ rfl; (with_reducible repeat (first | refine blk_drewN ?_ _ | refine blk_drew ?_ | refine blk_alloc ?_ _)); refine blk_put (cs := #[.int .i64 t156, .int .i64 0, .int .i64 0, .int .i64 0]) ?_ 1 _ rfl; (with_reducible repeat (first | refine blk_drewN ?_ _ | refine blk_drew ?_ | refine blk_alloc ?_ _)); refine blk_put (cs := #[.int .i64 0, .int .i64 0, .int .i64 0, .int .i64 0]) ?_ 0 _ rfl; (with_reducible repeat (first | refine blk_drewN ?_ _ | refine blk_drew ?_ | refine blk_alloc ?_ _)); exact BK161.out) hb); have n3_ := Aside0.mk (below_step (by repeat (first | (with_reducible first | exact HB.out | apply below_alloc | apply pw_below_drewN | apply below_drew1 | refine below_set ?_ GE161.out) | exact HB.out)) hb); clear HO151; clear HO155; clear BK161; clear HB; have HO151 := n0_; have HO155 := n1_; have BK161 := n2_; have HB := n3_; clear n0_ n1_ n2_ n3_; (try clear hb); (try clear hb2); (try clear hk); (try clear hi)) | ((with_reducible refine gate_callee (f := 10) rfl ?_); refine goesL_ (some 34) rfl rfl Tryd.func10 (by kernel_rfl) rfl #[.slice Ao15 t149.length co15] rfl (by (try simp only [List.map_toArray, List.map_cons, List.map_nil]); first | done | rfl) ?_; (with_reducible refine (shape_Check.calls k _ _ t149 t163 _ ?side1 ?side2 A9.out).mono ?_); (case side1 => repeat (first | exact (Kd.V_reads' HO151.out).2.2 | (with_reducible refine Kd.C_alloc ?_ _) | (with_reducible refine Kd.C_drewN ?_ _) | (with_reducible refine Kd.C_drew ?_))); (case side2 => exact (Kd.V_reads' HO151.out).2.1); rintro e w21 ⟨rfl, hb⟩; refine ⟨_, rfl, ?_⟩; have n0_ := Aside0.mk (Kd.V_below (by (with_reducible repeat (first | apply Kd.V_alloc | apply Kd.V_drewN | apply Kd.V_drew)); exact HO151.out) hb); have n1_ := Aside0.mk (Kd.R_below (by (with_reducible repeat (first | apply Kd.R_alloc | apply Kd.R_drewN | apply Kd.R_drew)); exact HO155.out) hb); have n2_ := Aside0.mk (blk_below (g := gb161) (o := .cells #[.int .i64 t156, .int .i64 t157, .int .i64 t158, .int .i64 t159] 30 (0, 0)) (by (with_reducible repeat (first | refine blk_drewN ?_ _ | refine blk_drew ?_ | refine blk_alloc ?_ _)); exact BK161.out) hb); have n3_ := Aside0.mk (below_step (by repeat (first | (with_reducible first | exact HB.out | apply below_alloc | apply pw_below_drewN | apply below_drew1 | refine below_set ?_ GE161.out) | exact HB.out)) hb); clear HO151; clear HO155; clear BK161; clear HB; have HO151 := n0_; have HO155 := n1_; have BK161 := n2_; have HB := n3_; clear n0_ n1_ n2_ n3_; (try clear hb); (try clear hb2); (try clear hk); (try clear hi)) | ((with_reducible refine gate_callee (f := 11) rfl ?_); refine goesL_ (some 39) rfl rfl Tryd.func11 (by kernel_rfl) rfl #[.slice Ao15 t149.length co15, .int .i64 a1] rfl (by (try simp only [List.map_toArray, List.map_cons, List.map_nil]); first | done | rfl) ?_; (with_reducible refine (chanceryref3_ShapeAt.calls k _ _ t149 a1 t164 _ ?side1 ?side2 A11.out).mono ?_); (case side1 => repeat (first | exact (Kd.V_reads' HO151.out).2.2 | (with_reducible refine Kd.C_alloc ?_ _) | (with_reducible refine Kd.C_drewN ?_ _) | (with_reducible refine Kd.C_drew ?_))); (case side2 => exact (Kd.V_reads' HO151.out).2.1); rintro e w22 ⟨rfl, hb⟩; refine ⟨_, rfl, ?_⟩; have n0_ := Aside0.mk (Kd.V_below (by (with_reducible repeat (first | apply Kd.V_alloc | apply Kd.V_drewN | apply Kd.V_drew)); exact HO151.out) hb); have n1_ := Aside0.mk (Kd.R_below (by (with_reducible repeat (first | apply Kd.R_alloc | apply Kd.R_drewN | apply Kd.R_drew)); exact HO155.out) hb); have n2_ := Aside0.mk (blk_below (g := gb161) (o := .cells #[.int .i64 t156, .int .i64 t157, .int .i64 t158, .int .i64 t159] 30 (0, 0)) (by (with_reducible repeat (first | refine blk_drewN ?_ _ | refine blk_drew ?_ | refine blk_alloc ?_ _)); exact BK161.out) hb); have n3_ := Aside0.mk (below_step (by repeat (first | (with_reducible first | exact HB.out | apply below_alloc | apply pw_below_drewN | apply below_drew1 | refine below_set ?_ GE161.out) | exact HB.out)) hb); clear HO151; clear HO155; clear BK161; clear HB; have HO151 := n0_; have HO155 := n1_; have BK161 := n2_; have HB := n3_; clear n0_ n1_ n2_ n3_; (try clear hb); (try clear hb2); (try clear hk); (try clear hi)))
   (try simp only [Act.put, List.setIfInBounds_toArray, List.set_cons_zero, List.set_cons_succ])
   go_cut [45] (fun v45 wc => ∃ (kq : Nat) (x45_11 : Bool), v45 = .bool x45_11 ∧ Aside0 (chancerylaw3_ShapeCorners.j0 kq t149 t152 t153 t160 t162 t164 x45_11 t156 t157 t158 t159 = some r) ∧ Aside0 (kq ≤ k) ∧ Aside0 (Kd.V k45 45 wc w.heap.size (fun k_ => some k_ ≠ (v154 : Value).ownBlock ∧ k_ ≠ gb161) (.slice Ao15 t149.length co15) t149) ∧ Aside0 (Kd.R k37 46 wc w.heap.size (fun _ => True) v154 t152) ∧ Aside0 (wc.heap[gb161]? = some (.cells #[.int .i64 t156, .int .i64 t157, .int .i64 t158, .int .i64 t159] 30 (0, 0))) ∧ Aside0 (Below w.heap.size w wc))
   case first =>
    have H := HC12.out
    clear HC12
    by_cases c23 : t162 = 0
    ·rw [if_pos c23] at H
     have c23b0 : (t162 == 0) = true := beq_iff_eq.mpr c23
     have c23b1 : (t162 != 0) = false := bne_eq_false_iff_eq.mpr c23
     clear c23
     (first | rw [c23b0] | (simp only [i64_w, i32_w]; rw [c23b0]) | skip)
     have H' := Aside0.mk H
     clear H
     go_wp2
     go_meet
     case rel => exact ⟨_, (decide (t164 < 0)), (by first | rfl | (simp; done) | (simp [*]; done)), H', ⟨by first | omega | exact Nat.le_refl _⟩, ⟨by (with_reducible repeat (first | apply Kd.V_alloc | apply Kd.V_drewN | apply Kd.V_drew)); exact Kd.V_mono HO151.out (fun _ hk => ⟨hk.1.2, hk.2⟩)⟩, ⟨by (with_reducible repeat (first | apply Kd.R_alloc | apply Kd.R_drewN | apply Kd.R_drew)); exact HO155.out⟩, ⟨by (with_reducible repeat (first | refine blk_drewN ?_ _ | refine blk_drew ?_ | refine blk_alloc ?_ _)); exact BK161.out⟩, ⟨by repeat (first | (with_reducible first | exact HB.out | apply below_alloc | apply pw_below_drewN | apply below_drew1 | refine below_set ?_ GE161.out) | exact HB.out)⟩⟩
    ·rw [if_neg c23] at H
     have c23b0 : (t162 == 0) = false := beq_eq_false_iff_ne.mpr c23
     have c23b1 : (t162 != 0) = true := bne_iff_ne.mpr c23
     (first | rw [c23b0] | (simp only [i64_w, i32_w]; rw [c23b0]) | skip)
     have H' := Aside0.mk H
     clear H
     go_wp2
     go_meet
     case rel => exact ⟨_, (false), (by first | rfl | (simp; done) | (simp [*]; done)), H', ⟨by first | omega | exact Nat.le_refl _⟩, ⟨by (with_reducible repeat (first | apply Kd.V_alloc | apply Kd.V_drewN | apply Kd.V_drew)); exact Kd.V_mono HO151.out (fun _ hk => ⟨hk.1.2, hk.2⟩)⟩, ⟨by (with_reducible repeat (first | apply Kd.R_alloc | apply Kd.R_drewN | apply Kd.R_drew)); exact HO155.out⟩, ⟨by (with_reducible repeat (first | refine blk_drewN ?_ _ | refine blk_drew ?_ | refine blk_alloc ?_ _)); exact BK161.out⟩, ⟨by repeat (first | (with_reducible first | exact HB.out | apply below_alloc | apply pw_below_drewN | apply below_drew1 | refine below_set ?_ GE161.out) | exact HB.out)⟩⟩
   case rest =>
    clear HC12; try clear c1; try clear c2; try clear p2; try clear c3; try clear c4; try clear c5; try clear c6; try clear c7; try clear c8; try clear c9; try clear c10; try clear c10b0; try clear c10b1; try clear c11; try clear c23; try clear c23b0; try clear c23b1; try clear hcz19_0; try clear hcz19_1; try clear hcz19_2; try clear hcz19_3; try clear hfz19_0; try clear hfz19_1; try clear hfz19_2; try clear hfz19_3
    obtain ⟨kq, x45_11, rfl, HA, HJ11, HO_0, HO_5, BK161, HB⟩ := hcut
    cases kq with
    | zero => exact absurd HA.out (by simp [chancerylaw3_ShapeCorners.j0])
    | succ kj11 =>
     have H := HA.out
     clear HA
     simp only [chancerylaw3_ShapeCorners.j0] at H
     have HC24 := Aside0.mk H
     clear H
     go_upto_if 45 with (fail)
     go_cut [9] (fun v9 wc => ∃ (kq : Nat) (x9_23 : Int), v9 = .int .i64 x9_23 ∧ Aside0 (chancerylaw3_ShapeCorners.j1 kq t149 t152 t153 t160 x9_23 t164 t156 t157 t158 t159 = some r) ∧ Aside0 (kq ≤ kj11) ∧ Aside0 (Kd.V k45 45 wc w.heap.size (fun k_ => some k_ ≠ (v154 : Value).ownBlock ∧ k_ ≠ gb161) (.slice Ao15 t149.length co15) t149) ∧ Aside0 (Kd.R k37 46 wc w.heap.size (fun _ => True) v154 t152) ∧ Aside0 (wc.heap[gb161]? = some (.cells #[.int .i64 t156, .int .i64 t157, .int .i64 t158, .int .i64 t159] 30 (0, 0))) ∧ Aside0 (Below w.heap.size w wc))
     case first =>
      have H := HC24.out
      clear HC24
      by_cases c25 : x45_11 = true
      ·subst c25
       have H1 : (chancerylaw3_ShapeCorners.j1 kj11 t149 t152 t153 t160 7 t164 t156 t157 t158 t159) = some r := by rw [if_pos rfl] at H; exact H
       clear H
       have H := H1
       clear H1
       have H' := Aside0.mk H
       clear H
       go_wp2
       go_meet
       case rel => exact ⟨_, (7), (by first | rfl | (simp; done) | (simp [*]; done)), H', ⟨by have := HJ11.out; first | omega | exact Nat.le_refl _⟩, ⟨by (with_reducible repeat (first | apply Kd.V_alloc | apply Kd.V_drewN | apply Kd.V_drew)); exact HO_0.out⟩, ⟨by (with_reducible repeat (first | apply Kd.R_alloc | apply Kd.R_drewN | apply Kd.R_drew)); exact HO_5.out⟩, ⟨by (with_reducible repeat (first | refine blk_drewN ?_ _ | refine blk_drew ?_ | refine blk_alloc ?_ _)); exact BK161.out⟩, ⟨by repeat (first | (with_reducible first | exact HB.out | apply below_alloc | apply pw_below_drewN | apply below_drew1 | refine below_set ?_ GE161.out) | exact HB.out)⟩⟩
      ·replace c25 := Bool.eq_false_iff.mpr c25
       subst c25
       have H1 : (chancerylaw3_ShapeCorners.j1 kj11 t149 t152 t153 t160 t162 t164 t156 t157 t158 t159) = some r := by rw [if_neg (show ¬ (false = true) by decide)] at H; exact H
       clear H
       have H := H1
       clear H1
       have H' := Aside0.mk H
       clear H
       go_wp2
       go_meet
       case rel => exact ⟨_, (t162), (by first | rfl | (simp; done) | (simp [*]; done)), H', ⟨by have := HJ11.out; first | omega | exact Nat.le_refl _⟩, ⟨by (with_reducible repeat (first | apply Kd.V_alloc | apply Kd.V_drewN | apply Kd.V_drew)); exact HO_0.out⟩, ⟨by (with_reducible repeat (first | apply Kd.R_alloc | apply Kd.R_drewN | apply Kd.R_drew)); exact HO_5.out⟩, ⟨by (with_reducible repeat (first | refine blk_drewN ?_ _ | refine blk_drew ?_ | refine blk_alloc ?_ _)); exact BK161.out⟩, ⟨by repeat (first | (with_reducible first | exact HB.out | apply below_alloc | apply pw_below_drewN | apply below_drew1 | refine below_set ?_ GE161.out) | exact HB.out)⟩⟩
     case rest =>
      clear HC24; try clear c1; try clear c2; try clear p2; try clear c3; try clear c4; try clear c5; try clear c6; try clear c7; try clear c8; try clear c9; try clear c10; try clear c10b0; try clear c10b1; try clear c11; try clear c23; try clear c23b0; try clear c23b1; try clear c25; try clear hcz19_0; try clear hcz19_1; try clear hcz19_2; try clear hcz19_3; try clear hfz19_0; try clear hfz19_1; try clear hfz19_2; try clear hfz19_3
      obtain ⟨kq, x9_23, rfl, HA, HJ23, HO_0, HO_5, BK161, HB⟩ := hcut
      cases kq with
      | zero => exact absurd HA.out (by simp [chancerylaw3_ShapeCorners.j1])
      | succ kj23 =>
       have H := HA.out
       clear HA
       simp only [chancerylaw3_ShapeCorners.j1] at H
       by_cases c26 : x9_23 = 0
       ·rw [if_pos c26] at H
        have c26b0 : (x9_23 == 0) = true := beq_iff_eq.mpr c26
        have c26b1 : (x9_23 != 0) = false := bne_eq_false_iff_eq.mpr c26
        clear c26
        replace H := Option.bind_eq_some_iff.mp H
        obtain ⟨t165, A270, H⟩ := H
        replace H : (if t153 = 0 then (if t160 = 0 then (chancerylaw3_ShapeCorners.j2 kj23 t152 t165 ((t152.length : Int) != 4) t156 t157 t158 t159) else (chancerylaw3_ShapeCorners.j2 kj23 t152 t165 true t156 t157 t158 t159)) else (chancerylaw3_ShapeCorners.j2 kj23 t152 t165 true t156 t157 t158 t159)) = some r := H
        have A27 := Aside0.mk A270
        clear A270
        have HC28 := Aside0.mk H
        clear H
        go_upto_region 15 with (first | ((with_reducible refine gate_callee (f := 12) rfl ?_); refine goesL_ (some 68) rfl rfl Tryd.func12 (by kernel_rfl) rfl #[.slice Ao15 t149.length co15, .int .i64 t164] rfl (by (try simp only [List.map_toArray, List.map_cons, List.map_nil]); first | done | rfl) ?_; (with_reducible refine (chanceryref3_CornersOf.calls kj23 _ _ t149 t164 t165 _ ?side1 ?side2 A27.out ?sL).mono ?_); (case sL => first | ((repeat (first | (with_reducible exact HLd.out) | (with_reducible refine LaidW.drewN ?_ _) | (with_reducible refine LaidW.drew ?_) | (with_reducible refine LaidW.alloc ?_ _))); done) | exact LaidW.now HLd.out (by repeat (first | (with_reducible first | exact HB.out | apply below_alloc | apply pw_below_drewN | apply below_drew1 | refine below_set ?_ GE161.out | refine below_set ?_ GE172.out | refine below_set ?_ GE174.out) | exact HB.out))); (case side1 => repeat (first | exact (Kd.V_reads' HO_0.out).2.2 | (with_reducible refine Kd.C_alloc ?_ _) | (with_reducible refine Kd.C_drewN ?_ _) | (with_reducible refine Kd.C_drew ?_))); (case side2 => exact (Kd.V_reads' HO_0.out).2.1); rintro e w29 ⟨v166, rfl, ho0, hb⟩; refine ⟨_, rfl, ?_⟩; have n0_ := Aside0.mk (Kd.V_elder' (by (with_reducible repeat (first | apply Kd.V_alloc | apply Kd.V_drewN | apply Kd.V_drew)); exact HO_0.out) (Kd.R_base ho0) hb); have n1_ := Aside0.mk (Kd.R_elder' (by (with_reducible repeat (first | apply Kd.R_alloc | apply Kd.R_drewN | apply Kd.R_drew)); exact HO_5.out) (Kd.R_base ho0) hb); have n2_ := Aside0.mk (Kd.R_lower (Kd.R_new' ho0 (Kd.R_lt (by (with_reducible repeat (first | apply Kd.R_alloc | apply Kd.R_drewN | apply Kd.R_drew)); exact HO_5.out))) (below_size (by repeat (first | (with_reducible first | exact HB.out | apply below_alloc | apply pw_below_drewN | apply below_drew1 | refine below_set ?_ GE161.out) | exact HB.out)))); have n3_ := Aside0.mk (blk_below (g := gb161) (o := .cells #[.int .i64 t156, .int .i64 t157, .int .i64 t158, .int .i64 t159] 30 (0, 0)) (by (with_reducible repeat (first | refine blk_drewN ?_ _ | refine blk_drew ?_ | refine blk_alloc ?_ _)); exact BK161.out) hb); have n4_ := Aside0.mk (below_step (by repeat (first | (with_reducible first | exact HB.out | apply below_alloc | apply pw_below_drewN | apply below_drew1 | refine below_set ?_ GE161.out) | exact HB.out)) hb); clear HO_0; clear HO_5; clear BK161; clear HB; have HO_0 := n0_; have HO_5 := n1_; have HO167 := n2_; have BK161 := n3_; have HB := n4_; clear n0_ n1_ n2_ n3_ n4_; (try clear hb); (try clear hb2); (try clear hk); (try clear hi); (try clear ho0)))
        (try simp only [Act.put, List.setIfInBounds_toArray, List.set_cons_zero, List.set_cons_succ])
        go_cut [79] (fun v79 wc => ∃ (kq : Nat) (x79_27 : Bool), v79 = .bool x79_27 ∧ Aside0 (chancerylaw3_ShapeCorners.j2 kq t152 t165 x79_27 t156 t157 t158 t159 = some r) ∧ Aside0 (kq ≤ kj23) ∧ Aside0 (Kd.R k37 46 wc w.heap.size (fun k_ => some k_ ≠ (v166 : Value).ownBlock) v154 t152) ∧ Aside0 (Kd.R k37 37 wc w.heap.size (fun k_ => some k_ ≠ (v154 : Value).ownBlock) v166 t165) ∧ Aside0 (wc.heap[gb161]? = some (.cells #[.int .i64 t156, .int .i64 t157, .int .i64 t158, .int .i64 t159] 30 (0, 0))) ∧ Aside0 (Below w.heap.size w wc))
        case first =>
         have H := HC28.out
         clear HC28
         by_cases c30 : t153 = 0
         ·rw [if_pos c30] at H
          have c30b0 : (t153 == 0) = true := beq_iff_eq.mpr c30
          have c30b1 : (t153 != 0) = false := bne_eq_false_iff_eq.mpr c30
          clear c30
          (first | rw [c30b0] | (simp only [i64_w, i32_w]; rw [c30b0]) | skip)
          by_cases c31 : t160 = 0
          ·rw [if_pos c31] at H
           have c31b0 : (t160 == 0) = true := beq_iff_eq.mpr c31
           have c31b1 : (t160 != 0) = false := bne_eq_false_iff_eq.mpr c31
           clear c31
           have H' := Aside0.mk H
           clear H
           obtain ⟨Ao32, co32, eo32⟩ := Kd.R_slice HO_5.out
           subst eo32
           go_wp2
           go_meet
           case rel => exact ⟨_, (((t152.length : Int) != 4)), (by first | rfl | (simp; done) | (simp [*]; done)), H', ⟨by have := HJ11.out; have := HJ23.out; first | omega | exact Nat.le_refl _⟩, ⟨by (with_reducible repeat (first | apply Kd.R_alloc | apply Kd.R_drewN | apply Kd.R_drew)); exact Kd.R_mono HO_5.out (fun _ hk => hk.2)⟩, ⟨by (with_reducible repeat (first | apply Kd.R_alloc | apply Kd.R_drewN | apply Kd.R_drew)); exact Kd.R_mono HO167.out (fun _ hk => hk.2)⟩, ⟨by (with_reducible repeat (first | refine blk_drewN ?_ _ | refine blk_drew ?_ | refine blk_alloc ?_ _)); exact BK161.out⟩, ⟨by repeat (first | (with_reducible first | exact HB.out | apply below_alloc | apply pw_below_drewN | apply below_drew1 | refine below_set ?_ GE161.out) | exact HB.out)⟩⟩
          ·rw [if_neg c31] at H
           have c31b0 : (t160 == 0) = false := beq_eq_false_iff_ne.mpr c31
           have c31b1 : (t160 != 0) = true := bne_iff_ne.mpr c31
           have H' := Aside0.mk H
           clear H
           go_wp2
           go_meet
           case rel => exact ⟨_, (true), (by first | rfl | (simp; done) | (simp [*]; done)), H', ⟨by have := HJ11.out; have := HJ23.out; first | omega | exact Nat.le_refl _⟩, ⟨by (with_reducible repeat (first | apply Kd.R_alloc | apply Kd.R_drewN | apply Kd.R_drew)); exact Kd.R_mono HO_5.out (fun _ hk => hk.2)⟩, ⟨by (with_reducible repeat (first | apply Kd.R_alloc | apply Kd.R_drewN | apply Kd.R_drew)); exact Kd.R_mono HO167.out (fun _ hk => hk.2)⟩, ⟨by (with_reducible repeat (first | refine blk_drewN ?_ _ | refine blk_drew ?_ | refine blk_alloc ?_ _)); exact BK161.out⟩, ⟨by repeat (first | (with_reducible first | exact HB.out | apply below_alloc | apply pw_below_drewN | apply below_drew1 | refine below_set ?_ GE161.out) | exact HB.out)⟩⟩
         ·rw [if_neg c30] at H
          have c30b0 : (t153 == 0) = false := beq_eq_false_iff_ne.mpr c30
          have c30b1 : (t153 != 0) = true := bne_iff_ne.mpr c30
          (first | rw [c30b0] | (simp only [i64_w, i32_w]; rw [c30b0]) | skip)
          have H' := Aside0.mk H
          clear H
          go_wp2
          go_meet
          case rel => exact ⟨_, (true), (by first | rfl | (simp; done) | (simp [*]; done)), H', ⟨by have := HJ11.out; have := HJ23.out; first | omega | exact Nat.le_refl _⟩, ⟨by (with_reducible repeat (first | apply Kd.R_alloc | apply Kd.R_drewN | apply Kd.R_drew)); exact Kd.R_mono HO_5.out (fun _ hk => hk.2)⟩, ⟨by (with_reducible repeat (first | apply Kd.R_alloc | apply Kd.R_drewN | apply Kd.R_drew)); exact Kd.R_mono HO167.out (fun _ hk => hk.2)⟩, ⟨by (with_reducible repeat (first | refine blk_drewN ?_ _ | refine blk_drew ?_ | refine blk_alloc ?_ _)); exact BK161.out⟩, ⟨by repeat (first | (with_reducible first | exact HB.out | apply below_alloc | apply pw_below_drewN | apply below_drew1 | refine below_set ?_ GE161.out) | exact HB.out)⟩⟩
        case rest =>
         clear HC28; try clear c1; try clear c2; try clear p2; try clear c3; try clear c4; try clear c5; try clear c6; try clear c7; try clear c8; try clear c9; try clear c10; try clear c10b0; try clear c10b1; try clear c11; try clear c12; try clear c23; try clear c23b0; try clear c23b1; try clear c25; try clear c26; try clear c26b0; try clear c26b1; try clear c30; try clear c30b0; try clear c30b1; try clear c31; try clear c31b0; try clear c31b1; try clear hcz19_0; try clear hcz19_1; try clear hcz19_2; try clear hcz19_3; try clear hfz19_0; try clear hfz19_1; try clear hfz19_2; try clear hfz19_3
         obtain ⟨kq, x79_27, rfl, HA, HJ27, HO_5, HO_11, BK161, HB⟩ := hcut
         cases kq with
         | zero => exact absurd HA.out (by simp [chancerylaw3_ShapeCorners.j2])
         | succ kj27 =>
          have H := HA.out
          clear HA
          simp only [chancerylaw3_ShapeCorners.j2] at H
          by_cases c33 : x79_27 = true
          ·subst c33
           have H1 : (some false) = some r := by rw [if_pos rfl] at H; exact H
           clear H
           have H := H1
           clear H1
           obtain rfl := Option.some.inj H
           go_wp2
           go_ret
           exact ⟨by first | rfl | (simp [errW_none, errW_some] <;> rfl) | (simp [*, errW_none, errW_some] <;> rfl), by repeat (first | (with_reducible first | exact HB.out | apply below_alloc | apply pw_below_drewN | apply below_drew1 | refine below_set ?_ GE161.out) | exact HB.out)⟩
          ·replace c33 := Bool.eq_false_iff.mpr c33
           subst c33
           have H1 : (if 0 < (t165.length : Int) then (chancerylaw3_ShapeCorners.l0 kj27 t152 t165 (t165.length : Int) 0 t156 t157 t158 t159 ((rd_T37 t165 0).f0) ((rd_T37 t165 0).f1) ((rd_T37 t165 0).f0) ((rd_T37 t165 0).f1)) else (none)) = some r := by rw [if_neg (show ¬ (false = true) by decide)] at H; exact H
           clear H
           have H := H1
           clear H1
           by_cases c34 : 0 < (t165.length : Int)
           ·rw [if_pos c34] at H
            have c34b0 : decide (0 < (t165.length : Int)) = true := decide_eq_true c34
            have c34b1 : decide (0 < t165.length) = true := decide_eq_true (by omega)
            clear c34
            have H' := Aside0.mk H
            clear H
            try go_wp2
            have n0_ := Aside0.mk (Kd.R_drew HO_5.out)
            have n1_ := Aside0.mk (Kd.R_drew HO_11.out)
            have n2_ := Aside0.mk (blk_drew BK161.out)
            have n3_ := Aside0.mk (below_drew1 HB.out)
            clear HO_5; clear HO_11; clear BK161; clear HB
            have HO_5 := n0_
            have HO_11 := n1_
            have BK161 := n2_
            have HB := n3_
            clear n0_ n1_ n2_ n3_
            obtain ⟨Ao36, co36, eo36⟩ := Kd.R_slice HO_11.out
            (first | subst eo36 | (injection eo36 with f1_ f2_ f3_; have f4_ := f1_.symm; have f5_ := f3_.symm; clear f1_ f2_ f3_; subst f4_; subst f5_))
            have p168 : 0 ≤ (0 : Int) := (by omega)
            have q168 : 0 < (t165.length : Int) := of_decide_eq_true (by first | (with_reducible assumption) | assumption)
            obtain ⟨ad168, e168, hx168_0, hx168_1⟩ := at_T37 (Kd.R_reads' HO_11.out).2.2 0 p168 q168
            cases e168
            have qi168 : (0 < t165.length) = True := eq_true (by omega)
            (try rw [show ((0 : Int)).toNat = 0 from rfl] at hx168_0)
            (try rw [show 0 * 2 = 0 from rfl] at hx168_0)
            (try rw [Addr.add_zero'] at hx168_0)
            (try rw [show ((0 : Int)).toNat = 0 from rfl] at hx168_1)
            (try rw [show 0 * 2 = 0 from rfl] at hx168_1)
            (try rw [Addr.add_zero'] at hx168_1)
            replace p168 := eq_true p168
            replace q168 := eq_true q168
            have p169 : 0 ≤ (0 : Int) := (by omega)
            have q169 : 0 < (t165.length : Int) := of_decide_eq_true (by first | (with_reducible assumption) | assumption)
            obtain ⟨ad169, e169, hx169_0, hx169_1⟩ := at_T37 (Kd.R_reads' HO_11.out).2.2 0 p169 q169
            obtain rfl : ad168 = ad169 := (by injection e169)
            have qi169 : (0 < t165.length) = True := eq_true (by omega)
            (try rw [show ((0 : Int)).toNat = 0 from rfl] at hx169_0)
            (try rw [show 0 * 2 = 0 from rfl] at hx169_0)
            (try rw [Addr.add_zero'] at hx169_0)
            (try rw [show ((0 : Int)).toNat = 0 from rfl] at hx169_1)
            (try rw [show 0 * 2 = 0 from rfl] at hx169_1)
            (try rw [Addr.add_zero'] at hx169_1)
            replace p169 := eq_true p169
            replace q169 := eq_true q169
            have p170 : 0 ≤ (0 : Int) := (by omega)
            have q170 : 0 < (t165.length : Int) := of_decide_eq_true (by first | (with_reducible assumption) | assumption)
            obtain ⟨ad170, e170, hx170_0, hx170_1⟩ := at_T37 (Kd.R_reads' HO_11.out).2.2 0 p170 q170
            obtain rfl : ad168 = ad170 := (by injection e170)
            have qi170 : (0 < t165.length) = True := eq_true (by omega)
            (try rw [show ((0 : Int)).toNat = 0 from rfl] at hx170_0)
            (try rw [show 0 * 2 = 0 from rfl] at hx170_0)
            (try rw [Addr.add_zero'] at hx170_0)
            (try rw [show ((0 : Int)).toNat = 0 from rfl] at hx170_1)
            (try rw [show 0 * 2 = 0 from rfl] at hx170_1)
            (try rw [Addr.add_zero'] at hx170_1)
            replace p170 := eq_true p170
            replace q170 := eq_true q170
            have p171 : 0 ≤ (0 : Int) := (by omega)
            have q171 : 0 < (t165.length : Int) := of_decide_eq_true (by first | (with_reducible assumption) | assumption)
            obtain ⟨ad171, e171, hx171_0, hx171_1⟩ := at_T37 (Kd.R_reads' HO_11.out).2.2 0 p171 q171
            obtain rfl : ad168 = ad171 := (by injection e171)
            have qi171 : (0 < t165.length) = True := eq_true (by omega)
            (try rw [show ((0 : Int)).toNat = 0 from rfl] at hx171_0)
            (try rw [show 0 * 2 = 0 from rfl] at hx171_0)
            (try rw [Addr.add_zero'] at hx171_0)
            (try rw [show ((0 : Int)).toNat = 0 from rfl] at hx171_1)
            (try rw [show 0 * 2 = 0 from rfl] at hx171_1)
            (try rw [Addr.add_zero'] at hx171_1)
            replace p171 := eq_true p171
            replace q171 := eq_true q171
            refine start_ (n := 19) (S := fun w' => w'.cell? ad168 = some (.int .i64 ((rd_T37 t165 0).f0)) ∧ w'.cell? ⟨ad168.block, ad168.off + 1, none⟩ = some (.int .i64 ((rd_T37 t165 0).f1)) ∧ w'.cell? ad168 = some (.int .i64 ((rd_T37 t165 0).f0)) ∧ w'.cell? ⟨ad168.block, ad168.off + 1, none⟩ = some (.int .i64 ((rd_T37 t165 0).f1)) ∧ w'.cell? ad168 = some (.int .i64 ((rd_T37 t165 0).f0)) ∧ w'.cell? ⟨ad168.block, ad168.off + 1, none⟩ = some (.int .i64 ((rd_T37 t165 0).f1)) ∧ w'.cell? ad168 = some (.int .i64 ((rd_T37 t165 0).f0)) ∧ w'.cell? ⟨ad168.block, ad168.off + 1, none⟩ = some (.int .i64 ((rd_T37 t165 0).f1))) (ds := []) #[false, false, false, false, false, false, false, false, false, false, false, false, false, false, false, false, false, false, false] (by kernel_rfl) rfl rfl ⟨hx168_0, hx168_1, hx169_0, hx169_1, hx170_0, hx170_1, hx171_0, hx171_1⟩ (fun hHeld => ?_); refine with_tabW chancerylaw3_ShapeCorners.tab17 chancerylaw3_ShapeCorners.bits17 (fun HT_ HW_ => ?_)
            generalize wc.drew = w35 at HO_5 HO_11 BK161 HB hx168_0 hx168_1 hx169_0 hx169_1 hx170_0 hx170_1 hx171_0 hx171_1 hHeld ⊢
            refine pure_ (i := 0) (N := some 80) (v := ?_) (a' := ?_) #[true, false, false, false, false, false, false, false, false, false, false, false, false, false, false, false, false, false, false] rfl rfl (any_of HT_.out (by kernel_rfl)) (fun _ _ _ h => h) (Or.inl ⟨by rfl, ?_⟩) ?_ ?_
            rotate_left
            ·intro w'
             go_simp
             with_reducible rfl
            rotate_left
            ·simp only [Act.put, List.setIfInBounds_toArray, List.set_cons_zero, List.set_cons_succ, i64_w, i32_w]
             rfl
            refine pure_ (i := 1) (N := some 81) (v := ?_) (a' := ?_) #[true, true, false, false, false, false, false, false, false, false, false, false, false, false, false, false, false, false, false] rfl rfl (any_of HT_.out (by kernel_rfl)) (fun _ _ _ h => h) (Or.inl ⟨by rfl, ?_⟩) ?_ ?_
            rotate_left
            ·intro w'
             go_simp
             with_reducible rfl
            rotate_left
            ·simp only [Act.put, List.setIfInBounds_toArray, List.set_cons_zero, List.set_cons_succ, i64_w, i32_w]
             rfl
            refine pure_ (i := 2) (N := some 82) (v := ?_) (a' := ?_) #[true, true, true, false, false, false, false, false, false, false, false, false, false, false, false, false, false, false, false] rfl rfl (any_of HT_.out (by kernel_rfl)) (fun _ _ _ h => h) (Or.inl ⟨by rfl, ?_⟩) ?_ ?_
            rotate_left
            ·intro w'
             go_simp
             with_reducible rfl
            rotate_left
            ·simp only [Act.put, List.setIfInBounds_toArray, List.set_cons_zero, List.set_cons_succ, i64_w, i32_w]
             rfl
            refine pure_ (i := 4) (N := some 84) (v := ?_) (a' := ?_) #[true, true, true, false, true, false, false, false, false, false, false, false, false, false, false, false, false, false, false] rfl rfl (any_of HT_.out (by kernel_rfl)) (fun _ _ _ h => h) (Or.inl ⟨by rfl, ?_⟩) ?_ ?_
            rotate_left
            ·intro w'
             go_simp
             with_reducible rfl
            rotate_left
            ·simp only [Act.put, List.setIfInBounds_toArray, List.set_cons_zero, List.set_cons_succ, i64_w, i32_w]
             rfl
            refine pure_ (i := 5) (N := some 85) (v := ?_) (a' := ?_) #[true, true, true, false, true, true, false, false, false, false, false, false, false, false, false, false, false, false, false] rfl rfl (any_of HT_.out (by kernel_rfl)) (fun _ _ _ h => h) (Or.inl ⟨by rfl, ?_⟩) ?_ ?_
            rotate_left
            ·intro w'
             go_simp
             with_reducible rfl
            rotate_left
            ·simp only [Act.put, List.setIfInBounds_toArray, List.set_cons_zero, List.set_cons_succ, i64_w, i32_w]
             rfl
            refine pure_ (i := 6) (N := some 86) (v := ?_) (a' := ?_) #[true, true, true, false, true, true, true, false, false, false, false, false, false, false, false, false, false, false, false] rfl rfl (any_of HT_.out (by kernel_rfl)) (fun _ _ _ h => h) (Or.inl ⟨by rfl, ?_⟩) ?_ ?_
            rotate_left
            ·intro w'
             go_simp
             with_reducible rfl
            rotate_left
            ·simp only [Act.put, List.setIfInBounds_toArray, List.set_cons_zero, List.set_cons_succ, i64_w, i32_w]
             rfl
            refine pure_ (i := 8) (N := some 88) (v := ?_) (a' := ?_) #[true, true, true, false, true, true, true, false, true, false, false, false, false, false, false, false, false, false, false] rfl rfl (any_of HT_.out (by kernel_rfl)) (fun _ _ _ h => h) (Or.inl ⟨by rfl, ?_⟩) ?_ ?_
            rotate_left
            ·intro w'
             go_simp
             with_reducible rfl
            rotate_left
            ·simp only [Act.put, List.setIfInBounds_toArray, List.set_cons_zero, List.set_cons_succ, i64_w, i32_w]
             rfl
            refine pure_ (i := 9) (N := some 89) (v := ?_) (a' := ?_) #[true, true, true, false, true, true, true, false, true, true, false, false, false, false, false, false, false, false, false] rfl rfl (any_of HT_.out (by kernel_rfl)) (fun _ _ _ h => h) (Or.inl ⟨by rfl, ?_⟩) ?_ ?_
            rotate_left
            ·intro w'
             go_simp
             with_reducible rfl
            rotate_left
            ·simp only [Act.put, List.setIfInBounds_toArray, List.set_cons_zero, List.set_cons_succ, i64_w, i32_w]
             rfl
            refine pure_ (i := 10) (N := some 90) (v := ?_) (a' := ?_) #[true, true, true, false, true, true, true, false, true, true, true, false, false, false, false, false, false, false, false] rfl rfl (any_of HT_.out (by kernel_rfl)) (fun _ _ _ h => h) (Or.inl ⟨by rfl, ?_⟩) ?_ ?_
            rotate_left
            ·intro w'
             go_simp
             with_reducible rfl
            rotate_left
            ·simp only [Act.put, List.setIfInBounds_toArray, List.set_cons_zero, List.set_cons_succ, i64_w, i32_w]
             rfl
            refine pure_ (i := 12) (N := some 92) (v := ?_) (a' := ?_) #[true, true, true, false, true, true, true, false, true, true, true, false, true, false, false, false, false, false, false] rfl rfl (any_of HT_.out (by kernel_rfl)) (fun _ _ _ h => h) (Or.inl ⟨by rfl, ?_⟩) ?_ ?_
            rotate_left
            ·intro w'
             go_simp
             with_reducible rfl
            rotate_left
            ·simp only [Act.put, List.setIfInBounds_toArray, List.set_cons_zero, List.set_cons_succ, i64_w, i32_w]
             rfl
            refine pure_ (i := 13) (N := some 93) (v := ?_) (a' := ?_) #[true, true, true, false, true, true, true, false, true, true, true, false, true, true, false, false, false, false, false] rfl rfl (any_of HT_.out (by kernel_rfl)) (fun _ _ _ h => h) (Or.inl ⟨by rfl, ?_⟩) ?_ ?_
            rotate_left
            ·intro w'
             go_simp
             with_reducible rfl
            rotate_left
            ·simp only [Act.put, List.setIfInBounds_toArray, List.set_cons_zero, List.set_cons_succ, i64_w, i32_w]
             rfl
            refine pure_ (i := 14) (N := some 94) (v := ?_) (a' := ?_) #[true, true, true, false, true, true, true, false, true, true, true, false, true, true, true, false, false, false, false] rfl rfl (any_of HT_.out (by kernel_rfl)) (fun _ _ _ h => h) (Or.inl ⟨by rfl, ?_⟩) ?_ ?_
            rotate_left
            ·intro w'
             go_simp
             with_reducible rfl
            rotate_left
            ·simp only [Act.put, List.setIfInBounds_toArray, List.set_cons_zero, List.set_cons_succ, i64_w, i32_w]
             rfl
            refine take_ (i := 3) (N := some 83) (v := ?_) (a' := ?_) #[true, true, true, true, true, true, true, false, true, true, true, false, true, true, true, false, false, false, false] rfl rfl (take_ofW HT_.out HW_.out (by kernel_rfl)) (fun _ _ _ h => h) (Or.inl ⟨by rfl, ?_⟩) hHeld ?_ ?_
            rotate_left
            ·rintro w' ⟨s0, s1, s2, s3, s4, s5, s6, s7⟩
             go_simp
             with_reducible rfl
            rotate_left
            ·simp only [Act.put, List.setIfInBounds_toArray, List.set_cons_zero, List.set_cons_succ, i64_w, i32_w]
             rfl
            refine take_ (i := 7) (N := some 87) (v := ?_) (a' := ?_) #[true, true, true, true, true, true, true, true, true, true, true, false, true, true, true, false, false, false, false] rfl rfl (take_ofW HT_.out HW_.out (by kernel_rfl)) (fun _ _ _ h => h) (Or.inl ⟨by rfl, ?_⟩) hHeld ?_ ?_
            rotate_left
            ·rintro w' ⟨s0, s1, s2, s3, s4, s5, s6, s7⟩
             go_simp
             with_reducible rfl
            rotate_left
            ·simp only [Act.put, List.setIfInBounds_toArray, List.set_cons_zero, List.set_cons_succ, i64_w, i32_w]
             rfl
            refine take_ (i := 11) (N := some 91) (v := ?_) (a' := ?_) #[true, true, true, true, true, true, true, true, true, true, true, true, true, true, true, false, false, false, false] rfl rfl (take_ofW HT_.out HW_.out (by kernel_rfl)) (fun _ _ _ h => h) (Or.inl ⟨by rfl, ?_⟩) hHeld ?_ ?_
            rotate_left
            ·rintro w' ⟨s0, s1, s2, s3, s4, s5, s6, s7⟩
             go_simp
             with_reducible rfl
            rotate_left
            ·simp only [Act.put, List.setIfInBounds_toArray, List.set_cons_zero, List.set_cons_succ, i64_w, i32_w]
             rfl
            refine take_ (i := 15) (N := some 95) (v := ?_) (a' := ?_) #[true, true, true, true, true, true, true, true, true, true, true, true, true, true, true, true, false, false, false] rfl rfl (take_ofW HT_.out HW_.out (by kernel_rfl)) (fun _ _ _ h => h) (Or.inl ⟨by rfl, ?_⟩) hHeld ?_ ?_
            rotate_left
            ·rintro w' ⟨s0, s1, s2, s3, s4, s5, s6, s7⟩
             go_simp
             with_reducible rfl
            rotate_left
            ·simp only [Act.put, List.setIfInBounds_toArray, List.set_cons_zero, List.set_cons_succ, i64_w, i32_w]
             rfl
            refine pure_ (i := 16) (N := some 96) (v := ?_) (a' := ?_) #[true, true, true, true, true, true, true, true, true, true, true, true, true, true, true, true, true, false, false] rfl rfl (any_of HT_.out (by kernel_rfl)) (fun _ _ _ h => h) (Or.inl ⟨by rfl, ?_⟩) ?_ ?_
            rotate_left
            ·intro w'
             go_simp
             with_reducible rfl
            rotate_left
            ·simp only [Act.put, List.setIfInBounds_toArray, List.set_cons_zero, List.set_cons_succ, i64_w, i32_w]
             rfl
            refine one_ (i := 17) (N := some 12) #[true, true, true, true, true, true, true, true, true, true, true, true, true, true, true, true, true, true, false] rfl rfl (one_of HT_.out (by kernel_rfl)) (by decide) (fun K hK => ?_)
            refine box_step ?hg (N := 12) ?hd (cs := #[.int .i64 0, .int .i64 0, .int .i64 0, .int .i64 0]) (t := 30) ?hr ?_; (case hd => rfl); (case hg => rfl); (case hr => first | (go_simp; done) | (go_simp; rfl))
            intro gb172 hg w37 hbox hb
            have HS0_ := (hb.cell (World.block_lt_of_cell? _ _ (hHeld.1))).trans (hHeld.1)
            have HS1_ := (hb.cell (World.block_lt_of_cell? _ _ (hHeld.2.1))).trans (hHeld.2.1)
            have HS2_ := (hb.cell (World.block_lt_of_cell? _ _ (hHeld.2.2.1))).trans (hHeld.2.2.1)
            have HS3_ := (hb.cell (World.block_lt_of_cell? _ _ (hHeld.2.2.2.1))).trans (hHeld.2.2.2.1)
            have HS4_ := (hb.cell (World.block_lt_of_cell? _ _ (hHeld.2.2.2.2.1))).trans (hHeld.2.2.2.2.1)
            have HS5_ := (hb.cell (World.block_lt_of_cell? _ _ (hHeld.2.2.2.2.2.1))).trans (hHeld.2.2.2.2.2.1)
            have HS6_ := (hb.cell (World.block_lt_of_cell? _ _ (hHeld.2.2.2.2.2.2.1))).trans (hHeld.2.2.2.2.2.2.1)
            have HS7_ := (hb.cell (World.block_lt_of_cell? _ _ (hHeld.2.2.2.2.2.2.2))).trans (hHeld.2.2.2.2.2.2.2)
            have n0_ := Aside0.mk (Kd.R_below (by (with_reducible repeat (first | apply Kd.R_alloc | apply Kd.R_drewN | apply Kd.R_drew)); exact HO_5.out) hb)
            have n1_ := Aside0.mk (Kd.R_below (by (with_reducible repeat (first | apply Kd.R_alloc | apply Kd.R_drewN | apply Kd.R_drew)); exact HO_11.out) hb)
            have n2_ := Aside0.mk (blk_below (g := gb161) (o := .cells #[.int .i64 t156, .int .i64 t157, .int .i64 t158, .int .i64 t159] 30 (0, 0)) (by (with_reducible repeat (first | refine blk_drewN ?_ _ | refine blk_drew ?_ | refine blk_alloc ?_ _)); exact BK161.out) hb)
            have n3_ := Aside0.mk (below_step (by repeat (first | (with_reducible first | exact HB.out | apply below_alloc | apply pw_below_drewN | apply below_drew1 | refine below_set ?_ GE161.out) | exact HB.out)) hb)
            have n4_ := Aside0.mk (hbox)
            have n5_ := Aside0.mk ((by rw [hg]; exact (below_size (by repeat (first | (with_reducible first | exact HB.out | apply below_alloc | apply pw_below_drewN | apply below_drew1 | refine below_set ?_ GE161.out) | exact HB.out))) : w.heap.size ≤ gb172))
            have n6_ := Aside0.mk ((by rw [hg]; exact (below_size (by repeat (first | (with_reducible first | exact HB.out | apply below_alloc | apply pw_below_drewN | apply below_drew1 | refine below_set ?_ GE161.out) | exact HB.out))) : w.heap.size ≤ gb172))
            have n7_ := Aside0.mk ((by rw [hg]; exact Nat.ne_of_lt (blk_lt (g := gb161) (o := .cells #[.int .i64 t156, .int .i64 t157, .int .i64 t158, .int .i64 t159] 30 (0, 0)) (by (with_reducible repeat (first | refine blk_drewN ?_ _ | refine blk_drew ?_ | refine blk_alloc ?_ _)); exact BK161.out)) : gb161 ≠ gb172))
            have n8_ := Aside0.mk ((by rw [hg]; exact Nat.ne_of_gt (blk_lt (g := gb161) (o := .cells #[.int .i64 t156, .int .i64 t157, .int .i64 t158, .int .i64 t159] 30 (0, 0)) (by (with_reducible repeat (first | refine blk_drewN ?_ _ | refine blk_drew ?_ | refine blk_alloc ?_ _)); exact BK161.out)) : gb172 ≠ gb161))
            clear HO_5; clear HO_11; clear BK161; clear HB
            have HO_5 := n0_
            have HO_11 := n1_
            have BK161 := n2_
            have HB := n3_
            have BK172 := n4_
            have GW172 := n5_
            have GE172 := n6_
            have NB161_172 := n7_
            have NB172_161 := n8_
            clear n0_ n1_ n2_ n3_ n4_ n5_ n6_ n7_ n8_
            clear hb hbox hg
            refine hK.out _ _ ⟨HS0_, HS1_, HS2_, HS3_, HS4_, HS5_, HS6_, HS7_⟩ (fun hHeld => ?_)
            clear hK K
            refine norm_ (a' := ?_) ?_ ?_
            rotate_left
            ·show Act.put _ (some 12) _ = _
             simp only [Act.put, List.setIfInBounds_toArray, List.set_cons_zero, List.set_cons_succ, i64_w, i32_w]
             rfl
            refine one_ (i := 18) (N := none) #[true, true, true, true, true, true, true, true, true, true, true, true, true, true, true, true, true, true, true] rfl rfl (one_of HT_.out (by kernel_rfl)) (by decide) (fun K hK => ?_)
            have hs38 : w37.cell? ⟨gb172, 0, none⟩ = some (.int .i64 0) := (blk_cell BK172.out 0).trans rfl
            have hfs38 := blk_frozen BK172.out 0
            have hns38_0 := NB161_172.out
            have hms38_0 := NB172_161.out
            have hs39 : w37.cell? ⟨gb172, 1, none⟩ = some (.int .i64 0) := (blk_cell BK172.out 1).trans rfl
            have hfs39 := blk_frozen BK172.out 1
            have hns39_0 := NB161_172.out
            have hms39_0 := NB172_161.out
            have hs40 : w37.cell? ⟨gb172, 2, none⟩ = some (.int .i64 0) := (blk_cell BK172.out 2).trans rfl
            have hfs40 := blk_frozen BK172.out 2
            have hns40_0 := NB161_172.out
            have hms40_0 := NB172_161.out
            have hs41 : w37.cell? ⟨gb172, 3, none⟩ = some (.int .i64 0) := (blk_cell BK172.out 3).trans rfl
            have hfs41 := blk_frozen BK172.out 3
            have hns41_0 := NB161_172.out
            have hms41_0 := NB172_161.out
            refine skip_ (w1 := ?_) (by rfl) rfl ?_ ?_
            rotate_left
            ·go_simp
             rfl
            have hne_ : ad168.block ≠ gb172 := Kd.own_blk (Kd.R_ne HO_11.out BK172.out (by decide))
            have hcf_ : ∀ (W : World) (j i : Nat) (u : Value), (W.setCell ⟨gb172, j, none⟩ u).cell? ⟨ad168.block, i, none⟩ = W.cell? ⟨ad168.block, i, none⟩ := fun W j i u => cell_far (p := ⟨gb172, j, none⟩) (a := ⟨ad168.block, i, none⟩) hne_ u
            have hcg_ : ∀ (W : World) (j : Nat) (u : Value), (W.setCell ⟨gb172, j, none⟩ u).cell? ad168 = W.cell? ad168 := fun W j u => cell_far (p := ⟨gb172, j, none⟩) hne_ u
            refine hK.out _ _ (by simp only [hcf_, hcg_]; exact hHeld) (fun hHeld => ?_)
            clear hK K
            refine done_ (done_of HT_.out (by kernel_rfl)) ?_
            try go_wp2
            go_loopg [99] kj27 (fun kq v99 w' => ∃ (x99_4 : Int) (x173000_4 : Int) (x173001_4 : Int) (x173002_4 : Int) (x173003_4 : Int), v99 = .int .i64 x99_4 ∧ Aside0 (chancerylaw3_ShapeCorners.l0 kq t152 t165 (t165.length : Int) x99_4 t156 t157 t158 t159 x173000_4 x173001_4 x173002_4 x173003_4 = some r) ∧ Aside0 (kq ≤ kj27) ∧ Aside0 (Kd.R k37 46 w' w.heap.size (fun k_ => some k_ ≠ ((.slice (some ad168) t165.length co36) : Value).ownBlock) v154 t152) ∧ Aside0 (Kd.R k37 37 w' w.heap.size (fun k_ => some k_ ≠ (v154 : Value).ownBlock) (.slice (some ad168) t165.length co36) t165) ∧ Aside0 (w'.heap[gb161]? = some (.cells #[.int .i64 t156, .int .i64 t157, .int .i64 t158, .int .i64 t159] 30 (0, 0))) ∧ Aside0 (w'.heap[gb172]? = some (.cells #[.int .i64 x173000_4, .int .i64 x173001_4, .int .i64 x173002_4, .int .i64 x173003_4] 30 (0, 0))) ∧ Aside0 (Below w.heap.size w w'))
            case atStart => exact ⟨(0), ((rd_T37 t165 0).f0), ((rd_T37 t165 0).f1), ((rd_T37 t165 0).f0), ((rd_T37 t165 0).f1), (by first | rfl | (simp; done) | (simp [*]; done)), H', ⟨Nat.le_refl _⟩, ⟨by (with_reducible repeat (first | apply Kd.R_alloc | apply Kd.R_drewN | apply Kd.R_drew)); exact Kd.R_mono (Kd.R_far (p := ⟨gb172, 3, none⟩) (Kd.R_far (p := ⟨gb172, 2, none⟩) (Kd.R_far (p := ⟨gb172, 1, none⟩) (Kd.R_far (p := ⟨gb172, 0, none⟩) (Kd.R_types HO_5.out BK172.out (by decide)) (fun _ hk => hk.2) (.int .i64 ((rd_T37 t165 0).f0))) (fun _ hk => hk.2) (.int .i64 ((rd_T37 t165 0).f1))) (fun _ hk => hk.2) (.int .i64 ((rd_T37 t165 0).f0))) (fun _ hk => hk.2) (.int .i64 ((rd_T37 t165 0).f1))) (fun _ hk => hk.1)⟩, ⟨by (with_reducible repeat (first | apply Kd.R_alloc | apply Kd.R_drewN | apply Kd.R_drew)); exact Kd.R_mono (Kd.R_far (p := ⟨gb172, 3, none⟩) (Kd.R_far (p := ⟨gb172, 2, none⟩) (Kd.R_far (p := ⟨gb172, 1, none⟩) (Kd.R_far (p := ⟨gb172, 0, none⟩) (Kd.R_types HO_11.out BK172.out (by decide)) (fun _ hk => hk.2) (.int .i64 ((rd_T37 t165 0).f0))) (fun _ hk => hk.2) (.int .i64 ((rd_T37 t165 0).f1))) (fun _ hk => hk.2) (.int .i64 ((rd_T37 t165 0).f0))) (fun _ hk => hk.2) (.int .i64 ((rd_T37 t165 0).f1))) (fun _ hk => hk.1)⟩, ⟨by (with_reducible repeat (first | refine blk_drewN ?_ _ | refine blk_drew ?_ | refine blk_alloc ?_ _)); refine blk_far ?_ NB161_172.out _; (with_reducible repeat (first | refine blk_drewN ?_ _ | refine blk_drew ?_ | refine blk_alloc ?_ _)); refine blk_far ?_ NB161_172.out _; (with_reducible repeat (first | refine blk_drewN ?_ _ | refine blk_drew ?_ | refine blk_alloc ?_ _)); refine blk_far ?_ NB161_172.out _; (with_reducible repeat (first | refine blk_drewN ?_ _ | refine blk_drew ?_ | refine blk_alloc ?_ _)); refine blk_far ?_ NB161_172.out _; (with_reducible repeat (first | refine blk_drewN ?_ _ | refine blk_drew ?_ | refine blk_alloc ?_ _)); exact BK161.out⟩, ⟨by (with_reducible repeat (first | refine blk_drewN ?_ _ | refine blk_drew ?_ | refine blk_alloc ?_ _)); refine blk_put (cs := #[.int .i64 ((rd_T37 t165 0).f0), .int .i64 ((rd_T37 t165 0).f1), .int .i64 ((rd_T37 t165 0).f0), .int .i64 0]) ?_ 3 _ rfl; (with_reducible repeat (first | refine blk_drewN ?_ _ | refine blk_drew ?_ | refine blk_alloc ?_ _)); refine blk_put (cs := #[.int .i64 ((rd_T37 t165 0).f0), .int .i64 ((rd_T37 t165 0).f1), .int .i64 0, .int .i64 0]) ?_ 2 _ rfl; (with_reducible repeat (first | refine blk_drewN ?_ _ | refine blk_drew ?_ | refine blk_alloc ?_ _)); refine blk_put (cs := #[.int .i64 ((rd_T37 t165 0).f0), .int .i64 0, .int .i64 0, .int .i64 0]) ?_ 1 _ rfl; (with_reducible repeat (first | refine blk_drewN ?_ _ | refine blk_drew ?_ | refine blk_alloc ?_ _)); refine blk_put (cs := #[.int .i64 0, .int .i64 0, .int .i64 0, .int .i64 0]) ?_ 0 _ rfl; (with_reducible repeat (first | refine blk_drewN ?_ _ | refine blk_drew ?_ | refine blk_alloc ?_ _)); exact BK172.out⟩, ⟨by repeat (first | (with_reducible first | exact HB.out | apply below_alloc | apply pw_below_drewN | apply below_drew1 | refine below_set ?_ GE161.out | refine below_set ?_ GE172.out) | exact HB.out)⟩⟩
            case round =>
             clear H'
             try clear c1; try clear p1; try clear q1; try clear hx1; try clear qi1; try clear c2; try clear p2; try clear c3; try clear c4; try clear c5; try clear c6; try clear c7; try clear c8; try clear c9; try clear c10; try clear c10b0; try clear c10b1; try clear c11; try clear c12; try clear p16; try clear q16; try clear hx16; try clear qi16; try clear p17; try clear q17; try clear hx17; try clear qi17; try clear c23; try clear c23b0; try clear c23b1; try clear c25; try clear c26; try clear c26b0; try clear c26b1; try clear c30; try clear c30b0; try clear c30b1; try clear c31; try clear c31b0; try clear c31b1; try clear c33; try clear c34; try clear c34b0; try clear c34b1; try clear hcz19_0; try clear hcz19_1; try clear hcz19_2; try clear hcz19_3; try clear hfz19_0; try clear hfz19_1; try clear hfz19_2; try clear hfz19_3; try clear hx168_0; try clear hx168_1; try clear hx169_0; try clear hx169_1; try clear hx170_0; try clear hx170_1; try clear hx171_0; try clear hx171_1; try clear p168; try clear p169; try clear p170; try clear p171; try clear q168; try clear q169; try clear q170; try clear q171
             obtain ⟨x99_4, x173000_4, x173001_4, x173002_4, x173003_4, rfl, HA, HK4, HO_5, HO_97, BK161, BK172, HB⟩ := hrel
             cases gk with
             | zero => exact absurd HA.out (by simp [chancerylaw3_ShapeCorners.l0])
             | succ k4 =>
              have H := HA.out
              clear HA
              simp only [chancerylaw3_ShapeCorners.l0] at H
              by_cases c42 : x99_4 < (t165.length : Int)
              ·rw [if_pos c42] at H
               have c42b0 : decide (x99_4 < (t165.length : Int)) = true := decide_eq_true c42
               clear c42
               by_cases c43 : 0 ≤ x99_4
               ·rw [if_pos c43] at H
                have c43b0 : decide (0 ≤ x99_4) = true := decide_eq_true c43
                clear c43
                by_cases c44 : x99_4 < (t165.length : Int)
                ·rw [if_pos c44] at H
                 have c44b0 : decide (x99_4 < (t165.length : Int)) = true := decide_eq_true c44
                 clear c44
                 by_cases c45 : x99_4 < (t152.length : Int)
                 ·rw [if_pos c45] at H
                  have c45b0 : decide (x99_4 < (t152.length : Int)) = true := decide_eq_true c45
                  clear c45
                  by_cases c46 : (!(((rd_T37 t152 x99_4).f0) == ((rd_T37 t165 x99_4).f0)) || (!(((rd_T37 t152 x99_4).f1) == ((rd_T37 t165 x99_4).f1)))) = true
                  ·rw [if_pos c46] at H
                   have c46b0 : (!(((rd_T37 t152 x99_4).f0) == ((rd_T37 t165 x99_4).f0)) || (!(((rd_T37 t152 x99_4).f1) == ((rd_T37 t165 x99_4).f1)))) = true := c46
                   clear c46
                   obtain rfl := Option.some.inj H
                   have p173 : 0 ≤ (x99_4 : Int) := of_decide_eq_true (by first | (with_reducible assumption) | assumption)
                   have q173 : x99_4 < (t165.length : Int) := of_decide_eq_true (by first | (with_reducible assumption) | assumption)
                   obtain ⟨ad173, e173, hx173_0, hx173_1⟩ := at_T37 (Kd.R_reads' HO_97.out).2.2 x99_4 p173 q173
                   obtain rfl : ad168 = ad173 := (by injection e173)
                   replace p173 := eq_true p173
                   replace q173 := eq_true q173
                   try go_wp2_with (first | ((with_reducible refine gate_dst (N := 14) rfl ?_); (try (refine gate_guard (by rfl) ?_; dsimp only)); refine box_event ?hg (N := 14) ?hd (cs := #[.int .i64 0, .int .i64 0]) (t := 37) ?hr ?_; (case hd => rfl); (case hg => rfl); (case hr => first | (go_simp; done) | (go_simp; rfl)); intro gb174 hg w47 hbox hb; have n0_ := Aside0.mk (Kd.R_below (Kd.R_elderB (by (with_reducible repeat (first | apply Kd.R_alloc | apply Kd.R_drewN | apply Kd.R_drew)); exact HO_5.out) gb174 (Nat.le_of_eq hg.symm)) hb); have n1_ := Aside0.mk (Kd.R_below (Kd.R_elderB (by (with_reducible repeat (first | apply Kd.R_alloc | apply Kd.R_drewN | apply Kd.R_drew)); exact HO_97.out) gb174 (Nat.le_of_eq hg.symm)) hb); have n2_ := Aside0.mk (blk_below (g := gb161) (o := .cells #[.int .i64 t156, .int .i64 t157, .int .i64 t158, .int .i64 t159] 30 (0, 0)) (by (with_reducible repeat (first | refine blk_drewN ?_ _ | refine blk_drew ?_ | refine blk_alloc ?_ _)); exact BK161.out) hb); have n3_ := Aside0.mk (blk_below (g := gb172) (o := .cells #[.int .i64 x173000_4, .int .i64 x173001_4, .int .i64 x173002_4, .int .i64 x173003_4] 30 (0, 0)) (by (with_reducible repeat (first | refine blk_drewN ?_ _ | refine blk_drew ?_ | refine blk_alloc ?_ _)); exact BK172.out) hb); have n4_ := Aside0.mk (below_step (by repeat (first | (with_reducible first | exact HB.out | apply below_alloc | apply pw_below_drewN | apply below_drew1 | refine below_set ?_ GE161.out | refine below_set ?_ GE172.out) | exact HB.out)) hb); have n5_ := Aside0.mk (hbox); have n6_ := Aside0.mk ((by rw [hg]; exact (below_size (by repeat (first | (with_reducible first | exact HB.out | apply below_alloc | apply pw_below_drewN | apply below_drew1 | refine below_set ?_ GE161.out | refine below_set ?_ GE172.out) | exact HB.out))) : w.heap.size ≤ gb174)); have n7_ := Aside0.mk ((by rw [hg]; exact (below_size (by repeat (first | (with_reducible first | exact HB.out | apply below_alloc | apply pw_below_drewN | apply below_drew1 | refine below_set ?_ GE161.out | refine below_set ?_ GE172.out) | exact HB.out))) : w.heap.size ≤ gb174)); have n8_ := Aside0.mk ((by rw [hg]; exact Nat.ne_of_lt (blk_lt (g := gb161) (o := .cells #[.int .i64 t156, .int .i64 t157, .int .i64 t158, .int .i64 t159] 30 (0, 0)) (by (with_reducible repeat (first | refine blk_drewN ?_ _ | refine blk_drew ?_ | refine blk_alloc ?_ _)); exact BK161.out)) : gb161 ≠ gb174)); have n9_ := Aside0.mk ((by rw [hg]; exact Nat.ne_of_gt (blk_lt (g := gb161) (o := .cells #[.int .i64 t156, .int .i64 t157, .int .i64 t158, .int .i64 t159] 30 (0, 0)) (by (with_reducible repeat (first | refine blk_drewN ?_ _ | refine blk_drew ?_ | refine blk_alloc ?_ _)); exact BK161.out)) : gb174 ≠ gb161)); have n10_ := Aside0.mk ((by rw [hg]; exact Nat.ne_of_lt (blk_lt (g := gb172) (o := .cells #[.int .i64 x173000_4, .int .i64 x173001_4, .int .i64 x173002_4, .int .i64 x173003_4] 30 (0, 0)) (by (with_reducible repeat (first | refine blk_drewN ?_ _ | refine blk_drew ?_ | refine blk_alloc ?_ _)); exact BK172.out)) : gb172 ≠ gb174)); have n11_ := Aside0.mk ((by rw [hg]; exact Nat.ne_of_gt (blk_lt (g := gb172) (o := .cells #[.int .i64 x173000_4, .int .i64 x173001_4, .int .i64 x173002_4, .int .i64 x173003_4] 30 (0, 0)) (by (with_reducible repeat (first | refine blk_drewN ?_ _ | refine blk_drew ?_ | refine blk_alloc ?_ _)); exact BK172.out)) : gb174 ≠ gb172)); clear HO_5; clear HO_97; clear BK161; clear BK172; clear HB; have HO_5 := n0_; have HO_97 := n1_; have BK161 := n2_; have BK172 := n3_; have HB := n4_; have BK174 := n5_; have GW174 := n6_; have GE174 := n7_; have NB161_174 := n8_; have NB174_161 := n9_; have NB172_174 := n10_; have NB174_172 := n11_; clear n0_ n1_ n2_ n3_ n4_ n5_ n6_ n7_ n8_ n9_ n10_ n11_; clear hb hbox hg; have hnb48 := NB174_161.out; have hnc48 := NB161_174.out; have hnb49 := NB174_172.out; have hnc49 := NB172_174.out; have hcz50_0 : w47.cell? ⟨gb174, 0, none⟩ = some (.int .i64 0) := (blk_cell BK174.out 0).trans rfl; have hcz50_1 : w47.cell? ⟨gb174, 1, none⟩ = some (.int .i64 0) := (blk_cell BK174.out 1).trans rfl; have hfz50_0 := blk_frozen BK174.out 0; have hfz50_1 := blk_frozen BK174.out 1))
                   have n0_ : Aside0 (Kd.R k37 46 ((w47.setCell ⟨gb174, 0, none⟩ (.int .i64 ((rd_T37 t165 x99_4).f0))).setCell ⟨gb174, 1, none⟩ (.int .i64 ((rd_T37 t165 x99_4).f1))) w.heap.size (fun k_ => some k_ ≠ (.slice (some ad168) t165.length co36 : Value).ownBlock ∧ k_ ≠ gb174) v154 t152) := ⟨by (with_reducible repeat (first | apply Kd.R_alloc | apply Kd.R_drewN | apply Kd.R_drew)); exact Kd.R_mono (Kd.R_far (p := ⟨gb174, 1, none⟩) (Kd.R_far (p := ⟨gb174, 0, none⟩) (Kd.R_mono HO_5.out (fun k_ hk => (⟨hk, hk.2⟩ : _ ∧ k_ ≠ gb174))) (fun _ hk => hk.2) (.int .i64 ((rd_T37 t165 x99_4).f0))) (fun _ hk => hk.2) (.int .i64 ((rd_T37 t165 x99_4).f1))) (fun _ hk => ⟨hk.1.1, hk.1.2⟩)⟩
                   have n1_ : Aside0 (Kd.R k37 37 ((w47.setCell ⟨gb174, 0, none⟩ (.int .i64 ((rd_T37 t165 x99_4).f0))).setCell ⟨gb174, 1, none⟩ (.int .i64 ((rd_T37 t165 x99_4).f1))) w.heap.size (fun k_ => some k_ ≠ (v154 : Value).ownBlock ∧ k_ ≠ gb174) (.slice (some ad168) t165.length co36) t165) := ⟨by (with_reducible repeat (first | apply Kd.R_alloc | apply Kd.R_drewN | apply Kd.R_drew)); exact Kd.R_mono (Kd.R_far (p := ⟨gb174, 1, none⟩) (Kd.R_far (p := ⟨gb174, 0, none⟩) (Kd.R_mono HO_97.out (fun k_ hk => (⟨hk, hk.2⟩ : _ ∧ k_ ≠ gb174))) (fun _ hk => hk.2) (.int .i64 ((rd_T37 t165 x99_4).f0))) (fun _ hk => hk.2) (.int .i64 ((rd_T37 t165 x99_4).f1))) (fun _ hk => ⟨hk.1.1, hk.1.2⟩)⟩
                   have n2_ : Aside0 (((w47.setCell ⟨gb174, 0, none⟩ (.int .i64 ((rd_T37 t165 x99_4).f0))).setCell ⟨gb174, 1, none⟩ (.int .i64 ((rd_T37 t165 x99_4).f1))).heap[gb161]? = some (.cells #[.int .i64 t156, .int .i64 t157, .int .i64 t158, .int .i64 t159] 30 (0, 0))) := ⟨by (with_reducible repeat (first | refine blk_drewN ?_ _ | refine blk_drew ?_ | refine blk_alloc ?_ _)); refine blk_far ?_ NB161_174.out _; (with_reducible repeat (first | refine blk_drewN ?_ _ | refine blk_drew ?_ | refine blk_alloc ?_ _)); refine blk_far ?_ NB161_174.out _; (with_reducible repeat (first | refine blk_drewN ?_ _ | refine blk_drew ?_ | refine blk_alloc ?_ _)); exact BK161.out⟩
                   have n3_ : Aside0 (((w47.setCell ⟨gb174, 0, none⟩ (.int .i64 ((rd_T37 t165 x99_4).f0))).setCell ⟨gb174, 1, none⟩ (.int .i64 ((rd_T37 t165 x99_4).f1))).heap[gb172]? = some (.cells #[.int .i64 x173000_4, .int .i64 x173001_4, .int .i64 x173002_4, .int .i64 x173003_4] 30 (0, 0))) := ⟨by (with_reducible repeat (first | refine blk_drewN ?_ _ | refine blk_drew ?_ | refine blk_alloc ?_ _)); refine blk_far ?_ NB172_174.out _; (with_reducible repeat (first | refine blk_drewN ?_ _ | refine blk_drew ?_ | refine blk_alloc ?_ _)); refine blk_far ?_ NB172_174.out _; (with_reducible repeat (first | refine blk_drewN ?_ _ | refine blk_drew ?_ | refine blk_alloc ?_ _)); exact BK172.out⟩
                   have n4_ : Aside0 (((w47.setCell ⟨gb174, 0, none⟩ (.int .i64 ((rd_T37 t165 x99_4).f0))).setCell ⟨gb174, 1, none⟩ (.int .i64 ((rd_T37 t165 x99_4).f1))).heap[gb174]? = some (.cells #[.int .i64 ((rd_T37 t165 x99_4).f0), .int .i64 ((rd_T37 t165 x99_4).f1)] 37 (0, 0))) := ⟨by (with_reducible repeat (first | refine blk_drewN ?_ _ | refine blk_drew ?_ | refine blk_alloc ?_ _)); refine blk_put (cs := #[.int .i64 ((rd_T37 t165 x99_4).f0), .int .i64 0]) ?_ 1 _ rfl; (with_reducible repeat (first | refine blk_drewN ?_ _ | refine blk_drew ?_ | refine blk_alloc ?_ _)); refine blk_put (cs := #[.int .i64 0, .int .i64 0]) ?_ 0 _ rfl; (with_reducible repeat (first | refine blk_drewN ?_ _ | refine blk_drew ?_ | refine blk_alloc ?_ _)); exact BK174.out⟩
                   have n5_ : Aside0 (Below w.heap.size w ((w47.setCell ⟨gb174, 0, none⟩ (.int .i64 ((rd_T37 t165 x99_4).f0))).setCell ⟨gb174, 1, none⟩ (.int .i64 ((rd_T37 t165 x99_4).f1)))) := ⟨by repeat (first | (with_reducible first | exact HB.out | apply below_alloc | apply pw_below_drewN | apply below_drew1 | refine below_set ?_ GE161.out | refine below_set ?_ GE172.out | refine below_set ?_ GE174.out) | exact HB.out)⟩
                   (try clear HO_5)
                   (try clear HO_97)
                   (try clear BK161)
                   (try clear BK172)
                   (try clear BK174)
                   (try clear HB)
                   generalize ((w47.setCell ⟨gb174, 0, none⟩ (.int .i64 ((rd_T37 t165 x99_4).f0))).setCell ⟨gb174, 1, none⟩ (.int .i64 ((rd_T37 t165 x99_4).f1))) = w51 at n0_ n1_ n2_ n3_ n4_ n5_ ⊢
                   have HO_5 := n0_
                   have HO_97 := n1_
                   have BK161 := n2_
                   have BK172 := n3_
                   have BK174 := n4_
                   have HB := n5_
                   clear n0_ n1_ n2_ n3_ n4_ n5_
                   have n0_ := Aside0.mk (Kd.R_drew HO_5.out)
                   have n1_ := Aside0.mk (Kd.R_drew HO_97.out)
                   have n2_ := Aside0.mk (blk_drew BK161.out)
                   have n3_ := Aside0.mk (blk_drew BK172.out)
                   have n4_ := Aside0.mk (blk_drew BK174.out)
                   have n5_ := Aside0.mk (below_drew1 HB.out)
                   clear HO_5; clear HO_97; clear BK161; clear BK172; clear BK174; clear HB
                   have HO_5 := n0_
                   have HO_97 := n1_
                   have BK161 := n2_
                   have BK172 := n3_
                   have BK174 := n4_
                   have HB := n5_
                   clear n0_ n1_ n2_ n3_ n4_ n5_
                   obtain ⟨Ao53, co53, eo53⟩ := Kd.R_slice HO_5.out
                   (first | subst eo53 | (injection eo53 with f1_ f2_ f3_; have f4_ := f1_.symm; have f5_ := f3_.symm; clear f1_ f2_ f3_; subst f4_; subst f5_))
                   have p175 : 0 ≤ (x99_4 : Int) := of_decide_eq_true (by first | (with_reducible assumption) | assumption)
                   have q175 : x99_4 < (t152.length : Int) := of_decide_eq_true (by first | (with_reducible assumption) | assumption)
                   obtain ⟨ad175, e175, hx175_0, hx175_1⟩ := at_T37 (Kd.R_reads' HO_5.out).2.2 x99_4 p175 q175
                   cases e175
                   replace p175 := eq_true p175
                   replace q175 := eq_true q175
                   refine start_ (n := 6) (S := fun w' => w'.cell? ⟨gb174, 0, none⟩ = some (.int .i64 ((rd_T37 t165 x99_4).f0)) ∧ w'.cell? ⟨gb174, 1, none⟩ = some (.int .i64 ((rd_T37 t165 x99_4).f1)) ∧ w'.cell? (ad175.add ((x99_4).toNat * 2)) = some (.int .i64 ((rd_T37 t152 x99_4).f0)) ∧ w'.cell? ⟨(ad175.add ((x99_4).toNat * 2)).block, (ad175.add ((x99_4).toNat * 2)).off + 1, none⟩ = some (.int .i64 ((rd_T37 t152 x99_4).f1))) (ds := []) #[false, false, false, false, false, false] (by kernel_rfl) rfl rfl ⟨(blk_cell BK174.out 0).trans rfl, (blk_cell BK174.out 1).trans rfl, hx175_0, hx175_1⟩ (fun hHeld => ?_)
                   generalize w51.drew = w52 at HO_5 HO_97 BK161 BK172 BK174 HB hx175_0 hx175_1 hHeld ⊢
                   refine pure_ (i := 0) (N := some 104) (v := ?_) (a' := ?_) #[true, false, false, false, false, false] rfl rfl (by kernel_rfl) (fun _ _ _ h => h) (Or.inl ⟨by rfl, ?_⟩) ?_ ?_
                   rotate_left
                   ·intro w'
                    go_simp
                    with_reducible rfl
                   rotate_left
                   ·simp only [Act.put, List.setIfInBounds_toArray, List.set_cons_zero, List.set_cons_succ, i64_w, i32_w]
                    rfl
                   refine pure_ (i := 1) (N := some 105) (v := ?_) (a' := ?_) #[true, true, false, false, false, false] rfl rfl (by kernel_rfl) (fun _ _ _ h => h) (Or.inl ⟨by rfl, ?_⟩) ?_ ?_
                   rotate_left
                   ·intro w'
                    go_simp
                    with_reducible rfl
                   rotate_left
                   ·simp only [Act.put, List.setIfInBounds_toArray, List.set_cons_zero, List.set_cons_succ, i64_w, i32_w]
                    rfl
                   refine pure_ (i := 2) (N := some 106) (v := ?_) (a' := ?_) #[true, true, true, false, false, false] rfl rfl (by kernel_rfl) (fun _ _ _ h => h) (Or.inl ⟨by rfl, ?_⟩) ?_ ?_
                   rotate_left
                   ·intro w'
                    go_simp
                    with_reducible rfl
                   rotate_left
                   ·simp only [Act.put, List.setIfInBounds_toArray, List.set_cons_zero, List.set_cons_succ, i64_w, i32_w]
                    rfl
                   refine take_ (i := 3) (N := some 107) (v := ?_) (a' := ?_) #[true, true, true, true, false, false] rfl rfl (by kernel_rfl) (fun _ _ _ h => h) (Or.inl ⟨by rfl, ?_⟩) hHeld ?_ ?_
                   rotate_left
                   ·rintro w' ⟨s0, s1, s2, s3⟩
                    go_simp
                    with_reducible rfl
                   rotate_left
                   ·simp only [Act.put, List.setIfInBounds_toArray, List.set_cons_zero, List.set_cons_succ, i64_w, i32_w]
                    rfl
                   refine take_ (i := 4) (N := some 108) (v := ?_) (a' := ?_) #[true, true, true, true, true, false] rfl rfl (by kernel_rfl) (fun _ _ _ h => h) (Or.inl ⟨by rfl, ?_⟩) hHeld ?_ ?_
                   rotate_left
                   ·rintro w' ⟨s0, s1, s2, s3⟩
                    go_simp
                    with_reducible rfl
                   rotate_left
                   ·simp only [Act.put, List.setIfInBounds_toArray, List.set_cons_zero, List.set_cons_succ, i64_w, i32_w]
                    rfl
                   refine pure_ (i := 5) (N := some 109) (v := ?_) (a' := ?_) #[true, true, true, true, true, true] rfl rfl (by kernel_rfl) (fun _ _ _ h => h) (Or.inl ⟨by rfl, ?_⟩) ?_ ?_
                   rotate_left
                   ·intro w'
                    go_simp
                    with_reducible rfl
                   rotate_left
                   ·simp only [Act.put, List.setIfInBounds_toArray, List.set_cons_zero, List.set_cons_succ, i64_w, i32_w]
                    rfl
                   refine done_ (by kernel_rfl) ?_
                   try go_wp2
                   go_ret
                   exact ⟨by first | rfl | (simp [errW_none, errW_some] <;> rfl) | (simp [*, errW_none, errW_some] <;> rfl), by repeat (first | (with_reducible first | exact HB.out | apply below_alloc | apply pw_below_drewN | apply below_drew1 | refine below_set ?_ GE161.out | refine below_set ?_ GE172.out | refine below_set ?_ GE174.out) | exact HB.out)⟩
                  ·rw [if_neg c46] at H
                   have c46b0 : (!(((rd_T37 t152 x99_4).f0) == ((rd_T37 t165 x99_4).f0)) || (!(((rd_T37 t152 x99_4).f1) == ((rd_T37 t165 x99_4).f1)))) = false := by simpa using c46
                   clear c46
                   obtain ⟨ji54, hji54⟩ : ∃ j_ : Int, (mn x173000_4 ((rd_T37 t165 x99_4).f0)) = j_ := ⟨_, rfl⟩
                   replace H : (chancerylaw3_ShapeCorners.l0 k4 t152 t165 (t165.length : Int) (wrap64 (x99_4 + 1)) t156 t157 t158 t159 ji54 (mn x173001_4 ((rd_T37 t165 x99_4).f1)) (mx x173002_4 ((rd_T37 t165 x99_4).f0)) (mx x173003_4 ((rd_T37 t165 x99_4).f1))) = some r := by first | (rw [hji54] at H; exact H) | (simp only [hji54] at H ⊢; exact H)
                   have hji54_ : (if ((rd_T37 t165 x99_4).f0) < x173000_4 then ((rd_T37 t165 x99_4).f0) else x173000_4) = ji54 := hji54
                   obtain ⟨ji55, hji55⟩ : ∃ j_ : Int, (mn x173001_4 ((rd_T37 t165 x99_4).f1)) = j_ := ⟨_, rfl⟩
                   replace H : (chancerylaw3_ShapeCorners.l0 k4 t152 t165 (t165.length : Int) (wrap64 (x99_4 + 1)) t156 t157 t158 t159 ji54 ji55 (mx x173002_4 ((rd_T37 t165 x99_4).f0)) (mx x173003_4 ((rd_T37 t165 x99_4).f1))) = some r := by first | (rw [hji55] at H; exact H) | (simp only [hji55] at H ⊢; exact H)
                   have hji55_ : (if ((rd_T37 t165 x99_4).f1) < x173001_4 then ((rd_T37 t165 x99_4).f1) else x173001_4) = ji55 := hji55
                   obtain ⟨ji56, hji56⟩ : ∃ j_ : Int, (mx x173002_4 ((rd_T37 t165 x99_4).f0)) = j_ := ⟨_, rfl⟩
                   replace H : (chancerylaw3_ShapeCorners.l0 k4 t152 t165 (t165.length : Int) (wrap64 (x99_4 + 1)) t156 t157 t158 t159 ji54 ji55 ji56 (mx x173003_4 ((rd_T37 t165 x99_4).f1))) = some r := by first | (rw [hji56] at H; exact H) | (simp only [hji56] at H ⊢; exact H)
                   have hji56_ : (if x173002_4 < ((rd_T37 t165 x99_4).f0) then ((rd_T37 t165 x99_4).f0) else x173002_4) = ji56 := hji56
                   obtain ⟨ji57, hji57⟩ : ∃ j_ : Int, (mx x173003_4 ((rd_T37 t165 x99_4).f1)) = j_ := ⟨_, rfl⟩
                   replace H : (chancerylaw3_ShapeCorners.l0 k4 t152 t165 (t165.length : Int) (wrap64 (x99_4 + 1)) t156 t157 t158 t159 ji54 ji55 ji56 ji57) = some r := by first | (rw [hji57] at H; exact H) | (simp only [hji57] at H ⊢; exact H)
                   have hji57_ : (if x173003_4 < ((rd_T37 t165 x99_4).f1) then ((rd_T37 t165 x99_4).f1) else x173003_4) = ji57 := hji57
                   have H' := Aside0.mk H
                   clear H
                   have p173 : 0 ≤ (x99_4 : Int) := of_decide_eq_true (by first | (with_reducible assumption) | assumption)
                   have q173 : x99_4 < (t165.length : Int) := of_decide_eq_true (by first | (with_reducible assumption) | assumption)
                   obtain ⟨ad173, e173, hx173_0, hx173_1⟩ := at_T37 (Kd.R_reads' HO_97.out).2.2 x99_4 p173 q173
                   obtain rfl : ad168 = ad173 := (by injection e173)
                   replace p173 := eq_true p173
                   replace q173 := eq_true q173
                   try go_wp2_with (first | ((with_reducible refine gate_dst (N := 14) rfl ?_); (try (refine gate_guard (by rfl) ?_; dsimp only)); refine box_event ?hg (N := 14) ?hd (cs := #[.int .i64 0, .int .i64 0]) (t := 37) ?hr ?_; (case hd => rfl); (case hg => rfl); (case hr => first | (go_simp; done) | (go_simp; rfl)); intro gb174 hg w58 hbox hb; have n0_ := Aside0.mk (Kd.R_below (Kd.R_elderB (by (with_reducible repeat (first | apply Kd.R_alloc | apply Kd.R_drewN | apply Kd.R_drew)); exact HO_5.out) gb174 (Nat.le_of_eq hg.symm)) hb); have n1_ := Aside0.mk (Kd.R_below (Kd.R_elderB (by (with_reducible repeat (first | apply Kd.R_alloc | apply Kd.R_drewN | apply Kd.R_drew)); exact HO_97.out) gb174 (Nat.le_of_eq hg.symm)) hb); have n2_ := Aside0.mk (blk_below (g := gb161) (o := .cells #[.int .i64 t156, .int .i64 t157, .int .i64 t158, .int .i64 t159] 30 (0, 0)) (by (with_reducible repeat (first | refine blk_drewN ?_ _ | refine blk_drew ?_ | refine blk_alloc ?_ _)); exact BK161.out) hb); have n3_ := Aside0.mk (blk_below (g := gb172) (o := .cells #[.int .i64 x173000_4, .int .i64 x173001_4, .int .i64 x173002_4, .int .i64 x173003_4] 30 (0, 0)) (by (with_reducible repeat (first | refine blk_drewN ?_ _ | refine blk_drew ?_ | refine blk_alloc ?_ _)); exact BK172.out) hb); have n4_ := Aside0.mk (below_step (by repeat (first | (with_reducible first | exact HB.out | apply below_alloc | apply pw_below_drewN | apply below_drew1 | refine below_set ?_ GE161.out | refine below_set ?_ GE172.out) | exact HB.out)) hb); have n5_ := Aside0.mk (hbox); have n6_ := Aside0.mk ((by rw [hg]; exact (below_size (by repeat (first | (with_reducible first | exact HB.out | apply below_alloc | apply pw_below_drewN | apply below_drew1 | refine below_set ?_ GE161.out | refine below_set ?_ GE172.out) | exact HB.out))) : w.heap.size ≤ gb174)); have n7_ := Aside0.mk ((by rw [hg]; exact (below_size (by repeat (first | (with_reducible first | exact HB.out | apply below_alloc | apply pw_below_drewN | apply below_drew1 | refine below_set ?_ GE161.out | refine below_set ?_ GE172.out) | exact HB.out))) : w.heap.size ≤ gb174)); have n8_ := Aside0.mk ((by rw [hg]; exact Nat.ne_of_lt (blk_lt (g := gb161) (o := .cells #[.int .i64 t156, .int .i64 t157, .int .i64 t158, .int .i64 t159] 30 (0, 0)) (by (with_reducible repeat (first | refine blk_drewN ?_ _ | refine blk_drew ?_ | refine blk_alloc ?_ _)); exact BK161.out)) : gb161 ≠ gb174)); have n9_ := Aside0.mk ((by rw [hg]; exact Nat.ne_of_gt (blk_lt (g := gb161) (o := .cells #[.int .i64 t156, .int .i64 t157, .int .i64 t158, .int .i64 t159] 30 (0, 0)) (by (with_reducible repeat (first | refine blk_drewN ?_ _ | refine blk_drew ?_ | refine blk_alloc ?_ _)); exact BK161.out)) : gb174 ≠ gb161)); have n10_ := Aside0.mk ((by rw [hg]; exact Nat.ne_of_lt (blk_lt (g := gb172) (o := .cells #[.int .i64 x173000_4, .int .i64 x173001_4, .int .i64 x173002_4, .int .i64 x173003_4] 30 (0, 0)) (by (with_reducible repeat (first | refine blk_drewN ?_ _ | refine blk_drew ?_ | refine blk_alloc ?_ _)); exact BK172.out)) : gb172 ≠ gb174)); have n11_ := Aside0.mk ((by rw [hg]; exact Nat.ne_of_gt (blk_lt (g := gb172) (o := .cells #[.int .i64 x173000_4, .int .i64 x173001_4, .int .i64 x173002_4, .int .i64 x173003_4] 30 (0, 0)) (by (with_reducible repeat (first | refine blk_drewN ?_ _ | refine blk_drew ?_ | refine blk_alloc ?_ _)); exact BK172.out)) : gb174 ≠ gb172)); clear HO_5; clear HO_97; clear BK161; clear BK172; clear HB; have HO_5 := n0_; have HO_97 := n1_; have BK161 := n2_; have BK172 := n3_; have HB := n4_; have BK174 := n5_; have GW174 := n6_; have GE174 := n7_; have NB161_174 := n8_; have NB174_161 := n9_; have NB172_174 := n10_; have NB174_172 := n11_; clear n0_ n1_ n2_ n3_ n4_ n5_ n6_ n7_ n8_ n9_ n10_ n11_; clear hb hbox hg; have hnb59 := NB174_161.out; have hnc59 := NB161_174.out; have hnb60 := NB174_172.out; have hnc60 := NB172_174.out; have hcz61_0 : w58.cell? ⟨gb174, 0, none⟩ = some (.int .i64 0) := (blk_cell BK174.out 0).trans rfl; have hcz61_1 : w58.cell? ⟨gb174, 1, none⟩ = some (.int .i64 0) := (blk_cell BK174.out 1).trans rfl; have hfz61_0 := blk_frozen BK174.out 0; have hfz61_1 := blk_frozen BK174.out 1))
                   have n0_ : Aside0 (Kd.R k37 46 ((w58.setCell ⟨gb174, 0, none⟩ (.int .i64 ((rd_T37 t165 x99_4).f0))).setCell ⟨gb174, 1, none⟩ (.int .i64 ((rd_T37 t165 x99_4).f1))) w.heap.size (fun k_ => some k_ ≠ (.slice (some ad168) t165.length co36 : Value).ownBlock ∧ k_ ≠ gb174) v154 t152) := ⟨by (with_reducible repeat (first | apply Kd.R_alloc | apply Kd.R_drewN | apply Kd.R_drew)); exact Kd.R_mono (Kd.R_far (p := ⟨gb174, 1, none⟩) (Kd.R_far (p := ⟨gb174, 0, none⟩) (Kd.R_mono HO_5.out (fun k_ hk => (⟨hk, hk.2⟩ : _ ∧ k_ ≠ gb174))) (fun _ hk => hk.2) (.int .i64 ((rd_T37 t165 x99_4).f0))) (fun _ hk => hk.2) (.int .i64 ((rd_T37 t165 x99_4).f1))) (fun _ hk => ⟨hk.1.1, hk.1.2⟩)⟩
                   have n1_ : Aside0 (Kd.R k37 37 ((w58.setCell ⟨gb174, 0, none⟩ (.int .i64 ((rd_T37 t165 x99_4).f0))).setCell ⟨gb174, 1, none⟩ (.int .i64 ((rd_T37 t165 x99_4).f1))) w.heap.size (fun k_ => some k_ ≠ (v154 : Value).ownBlock ∧ k_ ≠ gb174) (.slice (some ad168) t165.length co36) t165) := ⟨by (with_reducible repeat (first | apply Kd.R_alloc | apply Kd.R_drewN | apply Kd.R_drew)); exact Kd.R_mono (Kd.R_far (p := ⟨gb174, 1, none⟩) (Kd.R_far (p := ⟨gb174, 0, none⟩) (Kd.R_mono HO_97.out (fun k_ hk => (⟨hk, hk.2⟩ : _ ∧ k_ ≠ gb174))) (fun _ hk => hk.2) (.int .i64 ((rd_T37 t165 x99_4).f0))) (fun _ hk => hk.2) (.int .i64 ((rd_T37 t165 x99_4).f1))) (fun _ hk => ⟨hk.1.1, hk.1.2⟩)⟩
                   have n2_ : Aside0 (((w58.setCell ⟨gb174, 0, none⟩ (.int .i64 ((rd_T37 t165 x99_4).f0))).setCell ⟨gb174, 1, none⟩ (.int .i64 ((rd_T37 t165 x99_4).f1))).heap[gb161]? = some (.cells #[.int .i64 t156, .int .i64 t157, .int .i64 t158, .int .i64 t159] 30 (0, 0))) := ⟨by (with_reducible repeat (first | refine blk_drewN ?_ _ | refine blk_drew ?_ | refine blk_alloc ?_ _)); refine blk_far ?_ NB161_174.out _; (with_reducible repeat (first | refine blk_drewN ?_ _ | refine blk_drew ?_ | refine blk_alloc ?_ _)); refine blk_far ?_ NB161_174.out _; (with_reducible repeat (first | refine blk_drewN ?_ _ | refine blk_drew ?_ | refine blk_alloc ?_ _)); exact BK161.out⟩
                   have n3_ : Aside0 (((w58.setCell ⟨gb174, 0, none⟩ (.int .i64 ((rd_T37 t165 x99_4).f0))).setCell ⟨gb174, 1, none⟩ (.int .i64 ((rd_T37 t165 x99_4).f1))).heap[gb172]? = some (.cells #[.int .i64 x173000_4, .int .i64 x173001_4, .int .i64 x173002_4, .int .i64 x173003_4] 30 (0, 0))) := ⟨by (with_reducible repeat (first | refine blk_drewN ?_ _ | refine blk_drew ?_ | refine blk_alloc ?_ _)); refine blk_far ?_ NB172_174.out _; (with_reducible repeat (first | refine blk_drewN ?_ _ | refine blk_drew ?_ | refine blk_alloc ?_ _)); refine blk_far ?_ NB172_174.out _; (with_reducible repeat (first | refine blk_drewN ?_ _ | refine blk_drew ?_ | refine blk_alloc ?_ _)); exact BK172.out⟩
                   have n4_ : Aside0 (((w58.setCell ⟨gb174, 0, none⟩ (.int .i64 ((rd_T37 t165 x99_4).f0))).setCell ⟨gb174, 1, none⟩ (.int .i64 ((rd_T37 t165 x99_4).f1))).heap[gb174]? = some (.cells #[.int .i64 ((rd_T37 t165 x99_4).f0), .int .i64 ((rd_T37 t165 x99_4).f1)] 37 (0, 0))) := ⟨by (with_reducible repeat (first | refine blk_drewN ?_ _ | refine blk_drew ?_ | refine blk_alloc ?_ _)); refine blk_put (cs := #[.int .i64 ((rd_T37 t165 x99_4).f0), .int .i64 0]) ?_ 1 _ rfl; (with_reducible repeat (first | refine blk_drewN ?_ _ | refine blk_drew ?_ | refine blk_alloc ?_ _)); refine blk_put (cs := #[.int .i64 0, .int .i64 0]) ?_ 0 _ rfl; (with_reducible repeat (first | refine blk_drewN ?_ _ | refine blk_drew ?_ | refine blk_alloc ?_ _)); exact BK174.out⟩
                   have n5_ : Aside0 (Below w.heap.size w ((w58.setCell ⟨gb174, 0, none⟩ (.int .i64 ((rd_T37 t165 x99_4).f0))).setCell ⟨gb174, 1, none⟩ (.int .i64 ((rd_T37 t165 x99_4).f1)))) := ⟨by repeat (first | (with_reducible first | exact HB.out | apply below_alloc | apply pw_below_drewN | apply below_drew1 | refine below_set ?_ GE161.out | refine below_set ?_ GE172.out | refine below_set ?_ GE174.out) | exact HB.out)⟩
                   (try clear HO_5)
                   (try clear HO_97)
                   (try clear BK161)
                   (try clear BK172)
                   (try clear BK174)
                   (try clear HB)
                   generalize ((w58.setCell ⟨gb174, 0, none⟩ (.int .i64 ((rd_T37 t165 x99_4).f0))).setCell ⟨gb174, 1, none⟩ (.int .i64 ((rd_T37 t165 x99_4).f1))) = w62 at n0_ n1_ n2_ n3_ n4_ n5_ ⊢
                   have HO_5 := n0_
                   have HO_97 := n1_
                   have BK161 := n2_
                   have BK172 := n3_
                   have BK174 := n4_
                   have HB := n5_
                   clear n0_ n1_ n2_ n3_ n4_ n5_
                   have n0_ := Aside0.mk (Kd.R_drew HO_5.out)
                   have n1_ := Aside0.mk (Kd.R_drew HO_97.out)
                   have n2_ := Aside0.mk (blk_drew BK161.out)
                   have n3_ := Aside0.mk (blk_drew BK172.out)
                   have n4_ := Aside0.mk (blk_drew BK174.out)
                   have n5_ := Aside0.mk (below_drew1 HB.out)
                   clear HO_5; clear HO_97; clear BK161; clear BK172; clear BK174; clear HB
                   have HO_5 := n0_
                   have HO_97 := n1_
                   have BK161 := n2_
                   have BK172 := n3_
                   have BK174 := n4_
                   have HB := n5_
                   clear n0_ n1_ n2_ n3_ n4_ n5_
                   obtain ⟨Ao64, co64, eo64⟩ := Kd.R_slice HO_5.out
                   (first | subst eo64 | (injection eo64 with f1_ f2_ f3_; have f4_ := f1_.symm; have f5_ := f3_.symm; clear f1_ f2_ f3_; subst f4_; subst f5_))
                   have p175 : 0 ≤ (x99_4 : Int) := of_decide_eq_true (by first | (with_reducible assumption) | assumption)
                   have q175 : x99_4 < (t152.length : Int) := of_decide_eq_true (by first | (with_reducible assumption) | assumption)
                   obtain ⟨ad175, e175, hx175_0, hx175_1⟩ := at_T37 (Kd.R_reads' HO_5.out).2.2 x99_4 p175 q175
                   cases e175
                   replace p175 := eq_true p175
                   replace q175 := eq_true q175
                   refine start_ (n := 6) (S := fun w' => w'.cell? ⟨gb174, 0, none⟩ = some (.int .i64 ((rd_T37 t165 x99_4).f0)) ∧ w'.cell? ⟨gb174, 1, none⟩ = some (.int .i64 ((rd_T37 t165 x99_4).f1)) ∧ w'.cell? (ad175.add ((x99_4).toNat * 2)) = some (.int .i64 ((rd_T37 t152 x99_4).f0)) ∧ w'.cell? ⟨(ad175.add ((x99_4).toNat * 2)).block, (ad175.add ((x99_4).toNat * 2)).off + 1, none⟩ = some (.int .i64 ((rd_T37 t152 x99_4).f1))) (ds := []) #[false, false, false, false, false, false] (by kernel_rfl) rfl rfl ⟨(blk_cell BK174.out 0).trans rfl, (blk_cell BK174.out 1).trans rfl, hx175_0, hx175_1⟩ (fun hHeld => ?_)
                   generalize w62.drew = w63 at HO_5 HO_97 BK161 BK172 BK174 HB hx175_0 hx175_1 hHeld ⊢
                   refine pure_ (i := 0) (N := some 104) (v := ?_) (a' := ?_) #[true, false, false, false, false, false] rfl rfl (by kernel_rfl) (fun _ _ _ h => h) (Or.inl ⟨by rfl, ?_⟩) ?_ ?_
                   rotate_left
                   ·intro w'
                    go_simp
                    with_reducible rfl
                   rotate_left
                   ·simp only [Act.put, List.setIfInBounds_toArray, List.set_cons_zero, List.set_cons_succ, i64_w, i32_w]
                    rfl
                   refine pure_ (i := 1) (N := some 105) (v := ?_) (a' := ?_) #[true, true, false, false, false, false] rfl rfl (by kernel_rfl) (fun _ _ _ h => h) (Or.inl ⟨by rfl, ?_⟩) ?_ ?_
                   rotate_left
                   ·intro w'
                    go_simp
                    with_reducible rfl
                   rotate_left
                   ·simp only [Act.put, List.setIfInBounds_toArray, List.set_cons_zero, List.set_cons_succ, i64_w, i32_w]
                    rfl
                   refine pure_ (i := 2) (N := some 106) (v := ?_) (a' := ?_) #[true, true, true, false, false, false] rfl rfl (by kernel_rfl) (fun _ _ _ h => h) (Or.inl ⟨by rfl, ?_⟩) ?_ ?_
                   rotate_left
                   ·intro w'
                    go_simp
                    with_reducible rfl
                   rotate_left
                   ·simp only [Act.put, List.setIfInBounds_toArray, List.set_cons_zero, List.set_cons_succ, i64_w, i32_w]
                    rfl
                   refine take_ (i := 3) (N := some 107) (v := ?_) (a' := ?_) #[true, true, true, true, false, false] rfl rfl (by kernel_rfl) (fun _ _ _ h => h) (Or.inl ⟨by rfl, ?_⟩) hHeld ?_ ?_
                   rotate_left
                   ·rintro w' ⟨s0, s1, s2, s3⟩
                    go_simp
                    with_reducible rfl
                   rotate_left
                   ·simp only [Act.put, List.setIfInBounds_toArray, List.set_cons_zero, List.set_cons_succ, i64_w, i32_w]
                    rfl
                   refine take_ (i := 4) (N := some 108) (v := ?_) (a' := ?_) #[true, true, true, true, true, false] rfl rfl (by kernel_rfl) (fun _ _ _ h => h) (Or.inl ⟨by rfl, ?_⟩) hHeld ?_ ?_
                   rotate_left
                   ·rintro w' ⟨s0, s1, s2, s3⟩
                    go_simp
                    with_reducible rfl
                   rotate_left
                   ·simp only [Act.put, List.setIfInBounds_toArray, List.set_cons_zero, List.set_cons_succ, i64_w, i32_w]
                    rfl
                   refine pure_ (i := 5) (N := some 109) (v := ?_) (a' := ?_) #[true, true, true, true, true, true] rfl rfl (by kernel_rfl) (fun _ _ _ h => h) (Or.inl ⟨by rfl, ?_⟩) ?_ ?_
                   rotate_left
                   ·intro w'
                    go_simp
                    with_reducible rfl
                   rotate_left
                   ·simp only [Act.put, List.setIfInBounds_toArray, List.set_cons_zero, List.set_cons_succ, i64_w, i32_w]
                    rfl
                   refine done_ (by kernel_rfl) ?_
                   have hnb65 := NB172_161.out
                   have hnc65 := NB161_172.out
                   obtain ⟨hcz66_0, hcz66_1, hcz66_2, hcz66_3⟩ := cells4 BK172.out
                   have hfz66_ := fun j => blk_frozen BK172.out j
                   have hcz67_0 : w63.cell? ⟨gb174, 0, none⟩ = some (.int .i64 ((rd_T37 t165 x99_4).f0)) := (blk_cell BK174.out 0).trans rfl
                   have hcz67_1 : w63.cell? ⟨gb174, 1, none⟩ = some (.int .i64 ((rd_T37 t165 x99_4).f1)) := (blk_cell BK174.out 1).trans rfl
                   have hfz67_0 := blk_frozen BK174.out 0
                   have hfz67_1 := blk_frozen BK174.out 1
                   try go_wp2
                   go_roundg k4
                   case measure => have := HJ11.out; have := HJ23.out; have := HJ27.out; have := HK4.out; omega
                   case rel => exact ⟨(wrap64 (x99_4 + 1)), (ji54), (ji55), (ji56), (ji57), (by first | rfl | (simp; done) | (simp [*]; done)), H', ⟨by have := HJ11.out; have := HJ23.out; have := HJ27.out; have := HK4.out; omega⟩, ⟨by (with_reducible repeat (first | apply Kd.R_alloc | apply Kd.R_drewN | apply Kd.R_drew)); exact Kd.R_mono (Kd.R_far (p := ⟨gb172, 3, none⟩) (Kd.R_far (p := ⟨gb172, 2, none⟩) (Kd.R_far (p := ⟨gb172, 1, none⟩) (Kd.R_far (p := ⟨gb172, 0, none⟩) (Kd.R_types HO_5.out BK172.out (by decide)) (fun _ hk => hk.2) (.int .i64 ji54)) (fun _ hk => hk.2) (.int .i64 ji55)) (fun _ hk => hk.2) (.int .i64 ji56)) (fun _ hk => hk.2) (.int .i64 ji57)) (fun _ hk => hk.1.1)⟩, ⟨by (with_reducible repeat (first | apply Kd.R_alloc | apply Kd.R_drewN | apply Kd.R_drew)); exact Kd.R_mono (Kd.R_far (p := ⟨gb172, 3, none⟩) (Kd.R_far (p := ⟨gb172, 2, none⟩) (Kd.R_far (p := ⟨gb172, 1, none⟩) (Kd.R_far (p := ⟨gb172, 0, none⟩) (Kd.R_types HO_97.out BK172.out (by decide)) (fun _ hk => hk.2) (.int .i64 ji54)) (fun _ hk => hk.2) (.int .i64 ji55)) (fun _ hk => hk.2) (.int .i64 ji56)) (fun _ hk => hk.2) (.int .i64 ji57)) (fun _ hk => hk.1.1)⟩, ⟨by (with_reducible repeat (first | refine blk_drewN ?_ _ | refine blk_drew ?_ | refine blk_alloc ?_ _)); refine blk_far ?_ NB161_172.out _; (with_reducible repeat (first | refine blk_drewN ?_ _ | refine blk_drew ?_ | refine blk_alloc ?_ _)); refine blk_far ?_ NB161_172.out _; (with_reducible repeat (first | refine blk_drewN ?_ _ | refine blk_drew ?_ | refine blk_alloc ?_ _)); refine blk_far ?_ NB161_172.out _; (with_reducible repeat (first | refine blk_drewN ?_ _ | refine blk_drew ?_ | refine blk_alloc ?_ _)); refine blk_far ?_ NB161_172.out _; (with_reducible repeat (first | refine blk_drewN ?_ _ | refine blk_drew ?_ | refine blk_alloc ?_ _)); exact BK161.out⟩, ⟨by (with_reducible repeat (first | refine blk_drewN ?_ _ | refine blk_drew ?_ | refine blk_alloc ?_ _)); refine blk_put (cs := #[.int .i64 ji54, .int .i64 ji55, .int .i64 ji56, .int .i64 x173003_4]) ?_ 3 _ rfl; (with_reducible repeat (first | refine blk_drewN ?_ _ | refine blk_drew ?_ | refine blk_alloc ?_ _)); refine blk_put (cs := #[.int .i64 ji54, .int .i64 ji55, .int .i64 x173002_4, .int .i64 x173003_4]) ?_ 2 _ rfl; (with_reducible repeat (first | refine blk_drewN ?_ _ | refine blk_drew ?_ | refine blk_alloc ?_ _)); refine blk_put (cs := #[.int .i64 ji54, .int .i64 x173001_4, .int .i64 x173002_4, .int .i64 x173003_4]) ?_ 1 _ rfl; (with_reducible repeat (first | refine blk_drewN ?_ _ | refine blk_drew ?_ | refine blk_alloc ?_ _)); refine blk_put (cs := #[.int .i64 x173000_4, .int .i64 x173001_4, .int .i64 x173002_4, .int .i64 x173003_4]) ?_ 0 _ rfl; (with_reducible repeat (first | refine blk_drewN ?_ _ | refine blk_drew ?_ | refine blk_alloc ?_ _)); exact BK172.out⟩, ⟨by repeat (first | (with_reducible first | exact HB.out | apply below_alloc | apply pw_below_drewN | apply below_drew1 | refine below_set ?_ GE161.out | refine below_set ?_ GE172.out | refine below_set ?_ GE174.out) | exact HB.out)⟩⟩
                 ·rw [if_neg c45] at H
                  exact absurd H (by simp)
                ·rw [if_neg c44] at H
                 exact absurd H (by simp)
               ·rw [if_neg c43] at H
                exact absurd H (by simp)
              ·rw [if_neg c42] at H
               have c42b0 : decide (x99_4 < (t165.length : Int)) = false := decide_eq_false c42
               clear c42
               obtain rfl := Option.some.inj H
               have hnb68 := NB161_172.out
               have hnc68 := NB172_161.out
               obtain ⟨hcz69_0, hcz69_1, hcz69_2, hcz69_3⟩ := cells4 BK161.out
               have hfz69_ := fun j => blk_frozen BK161.out j
               obtain ⟨hcz70_0, hcz70_1, hcz70_2, hcz70_3⟩ := cells4 BK172.out
               have hfz70_ := fun j => blk_frozen BK172.out j
               go_wp2
               go_ret
               exact ⟨by first | rfl | (simp [errW_none, errW_some] <;> rfl) | (simp [*, errW_none, errW_some] <;> rfl), by repeat (first | (with_reducible first | exact HB.out | apply below_alloc | apply pw_below_drewN | apply below_drew1 | refine below_set ?_ GE161.out | refine below_set ?_ GE172.out) | exact HB.out)⟩
           ·rw [if_neg c34] at H
            exact absurd H (by simp)
       ·rw [if_neg c26] at H
        have c26b0 : (x9_23 == 0) = false := beq_eq_false_iff_ne.mpr c26
        have c26b1 : (x9_23 != 0) = true := bne_iff_ne.mpr c26
        by_cases c71 : t153 = x9_23
        ·rw [if_pos c71] at H
         have c71b0 : (t153 == x9_23) = true := beq_iff_eq.mpr c71
         have c71b1 : (t153 != x9_23) = false := bne_eq_false_iff_eq.mpr c71
         clear c71
         by_cases c72 : t160 = x9_23
         ·rw [if_pos c72] at H
          have c72b0 : (t160 == x9_23) = true := beq_iff_eq.mpr c72
          have c72b1 : (t160 != x9_23) = false := bne_eq_false_iff_eq.mpr c72
          clear c72
          by_cases c73 : (t152.length : Int) = 0
          ·rw [if_pos c73] at H
           have c73b0 : ((t152.length : Int) == 0) = true := beq_iff_eq.mpr c73
           have c73b1 : ((t152.length : Int) != 0) = false := bne_eq_false_iff_eq.mpr c73
           clear c73
           obtain rfl := Option.some.inj H
           obtain ⟨Ao74, co74, eo74⟩ := Kd.R_slice HO_5.out
           subst eo74
           obtain ⟨hcz75_0, hcz75_1, hcz75_2, hcz75_3⟩ := cells4 BK161.out
           have hfz75_ := fun j => blk_frozen BK161.out j
           go_wp2
           go_ret
           exact ⟨by first | rfl | (simp [errW_none, errW_some] <;> rfl) | (simp [*, errW_none, errW_some] <;> rfl), by repeat (first | (with_reducible first | exact HB.out | apply below_alloc | apply pw_below_drewN | apply below_drew1 | refine below_set ?_ GE161.out) | exact HB.out)⟩
          ·rw [if_neg c73] at H
           have c73b0 : ((t152.length : Int) == 0) = false := beq_eq_false_iff_ne.mpr c73
           have c73b1 : ((t152.length : Int) != 0) = true := bne_iff_ne.mpr c73
           have c73b2 : ¬ (t152 = []) := fun h_ => c73 (by rw [h_]; rfl)
           obtain rfl := Option.some.inj H
           obtain ⟨Ao76, co76, eo76⟩ := Kd.R_slice HO_5.out
           subst eo76
           go_wp2
           go_ret
           exact ⟨by first | rfl | (simp [errW_none, errW_some] <;> rfl) | (simp [*, errW_none, errW_some] <;> rfl), by repeat (first | (with_reducible first | exact HB.out | apply below_alloc | apply pw_below_drewN | apply below_drew1 | refine below_set ?_ GE161.out) | exact HB.out)⟩
         ·rw [if_neg c72] at H
          have c72b0 : (t160 == x9_23) = false := beq_eq_false_iff_ne.mpr c72
          have c72b1 : (t160 != x9_23) = true := bne_iff_ne.mpr c72
          obtain rfl := Option.some.inj H
          go_wp2
          go_ret
          exact ⟨by first | rfl | (simp [errW_none, errW_some] <;> rfl) | (simp [*, errW_none, errW_some] <;> rfl), by repeat (first | (with_reducible first | exact HB.out | apply below_alloc | apply pw_below_drewN | apply below_drew1 | refine below_set ?_ GE161.out) | exact HB.out)⟩
        ·rw [if_neg c71] at H
         have c71b0 : (t153 == x9_23) = false := beq_eq_false_iff_ne.mpr c71
         have c71b1 : (t153 != x9_23) = true := bne_iff_ne.mpr c71
         obtain rfl := Option.some.inj H
         go_wp2
         go_ret
         exact ⟨by first | rfl | (simp [errW_none, errW_some] <;> rfl) | (simp [*, errW_none, errW_some] <;> rfl), by repeat (first | (with_reducible first | exact HB.out | apply below_alloc | apply pw_below_drewN | apply below_drew1 | refine below_set ?_ GE161.out) | exact HB.out)⟩
  ·rw [if_neg c10] at H
   have c10b0 : (t163 == t162) = false := beq_eq_false_iff_ne.mpr c10
   have c10b1 : (t163 != t162) = true := bne_iff_ne.mpr c10
   obtain rfl := Option.some.inj H
   go_enter Tryd.func3, Tryd.ntmps3
   go_wp2_with (first | ((with_reducible refine gate_callee (f := 5) rfl ?_); refine goesL_ (some 15) rfl rfl Tryd.func5 (by kernel_rfl) rfl #[] rfl (by (try simp only [List.map_toArray, List.map_cons, List.map_nil]); first | done | rfl) ?_; (with_reducible refine (chancerylaw3_shaped.calls k  true _ A3.out ?sL).mono ?_); (case sL => first | ((repeat (first | (with_reducible exact HLd.out) | (with_reducible refine LaidW.drewN ?_ _) | (with_reducible refine LaidW.drew ?_) | (with_reducible refine LaidW.alloc ?_ _))); done) | exact LaidW.now HLd.out (by repeat (first | (with_reducible first | exact HB.out | apply below_alloc | apply pw_below_drewN | apply below_drew1 | refine below_set ?_ GE161.out | refine below_set ?_ GE172.out | refine below_set ?_ GE174.out) | exact HB.out))); rintro e w77 ⟨rfl, hb⟩; refine ⟨_, rfl, ?_⟩; have n0_ := Aside0.mk (below_step (by repeat (first | (with_reducible first | exact HB.out | apply below_alloc | apply pw_below_drewN | apply below_drew1) | exact HB.out)) hb); clear HB; have HB := n0_; clear n0_; (try clear hb); (try clear hb2); (try clear hk); (try clear hi)) | ((with_reducible refine gate_callee (f := 6) rfl ?_); refine goesL_ (some 18) rfl rfl Tryd.func6 (by kernel_rfl) rfl #[.slice A0 l0.length c0] rfl (by (try simp only [List.map_toArray, List.map_cons, List.map_nil]); first | done | rfl) ?_; (with_reducible refine (chancerylaw3_cutShapes.calls (fun k_ => k_ < w.heap.size) _ _ l0 t149 _ ?side1 A5.out).mono ?_); (case side1 => exact Kd.V_mk HC0.out (Kd.F_below (Kd.C_F k45_heap HR0.out) (by repeat (first | (with_reducible first | exact HB.out | apply below_alloc | apply pw_below_drewN | apply below_drew1) | exact HB.out)))); rintro e w78 ⟨v150, rfl, ho0, hb⟩; refine ⟨_, rfl, ?_⟩; have n0_ := Aside0.mk (Kd.V_lower (Kd.V_mono (ok' := fun k_ => True) ho0 (fun k_ hk_ => trivial)) (below_size (by repeat (first | (with_reducible first | exact HB.out | apply below_alloc | apply pw_below_drewN | apply below_drew1) | exact HB.out)))); have n1_ := Aside0.mk (below_step (by repeat (first | (with_reducible first | exact HB.out | apply below_alloc | apply pw_below_drewN | apply below_drew1) | exact HB.out)) hb); clear HB; have HO151 := n0_; have HB := n1_; clear n0_ n1_; (try clear hb); (try clear hb2); (try clear hk); (try clear hi); (try clear ho0); obtain ⟨Ao79, co79, eo79⟩ := Kd.V_slice HO151.out; subst eo79) | ((with_reducible refine gate_callee (f := 7) rfl ?_); refine goesL_ (some 22) rfl rfl Tryd.func7 (by kernel_rfl) rfl #[.slice Ao79 t149.length co79, .int .i64 a1] rfl (by (try simp only [List.map_toArray, List.map_cons, List.map_nil]); first | done | rfl) ?_; (with_reducible refine (shape_Corners.calls k _ _ t149 a1 t152 t153 _ ?side1 ?side2 A6.out ?sL).mono ?_); (case sL => first | ((repeat (first | (with_reducible exact HLd.out) | (with_reducible refine LaidW.drewN ?_ _) | (with_reducible refine LaidW.drew ?_) | (with_reducible refine LaidW.alloc ?_ _))); done) | exact LaidW.now HLd.out (by repeat (first | (with_reducible first | exact HB.out | apply below_alloc | apply pw_below_drewN | apply below_drew1 | refine below_set ?_ GE161.out | refine below_set ?_ GE172.out | refine below_set ?_ GE174.out) | exact HB.out))); (case side1 => repeat (first | exact (Kd.V_reads' HO151.out).2.2 | (with_reducible refine Kd.C_alloc ?_ _) | (with_reducible refine Kd.C_drewN ?_ _) | (with_reducible refine Kd.C_drew ?_))); (case side2 => exact (Kd.V_reads' HO151.out).2.1); rintro e w80 ⟨v154, rfl, ho0, hb⟩; refine ⟨_, rfl, ?_⟩; have n0_ := Aside0.mk (Kd.V_elder' (by (with_reducible repeat (first | apply Kd.V_alloc | apply Kd.V_drewN | apply Kd.V_drew)); exact HO151.out) (Kd.R_base ho0) hb); have n1_ := Aside0.mk (Kd.R_lower ho0 (below_size (by repeat (first | (with_reducible first | exact HB.out | apply below_alloc | apply pw_below_drewN | apply below_drew1) | exact HB.out)))); have n2_ := Aside0.mk (below_step (by repeat (first | (with_reducible first | exact HB.out | apply below_alloc | apply pw_below_drewN | apply below_drew1) | exact HB.out)) hb); clear HO151; clear HB; have HO151 := n0_; have HO155 := n1_; have HB := n2_; clear n0_ n1_ n2_; (try clear hb); (try clear hb2); (try clear hk); (try clear hi); (try clear ho0)) | ((with_reducible refine gate_callee (f := 8) rfl ?_); refine goesL_ (some 28) rfl rfl Tryd.func8 (by kernel_rfl) rfl #[.slice Ao79 t149.length co79, .int .i64 a1] rfl (by (try simp only [List.map_toArray, List.map_cons, List.map_nil]); first | done | rfl) ?_; (with_reducible refine (shape_Bounds.calls k _ _ t149 a1 t156 t157 t158 t159 t160 _ ?side1 ?side2 A7.out ?sL).mono ?_); (case sL => first | ((repeat (first | (with_reducible exact HLd.out) | (with_reducible refine LaidW.drewN ?_ _) | (with_reducible refine LaidW.drew ?_) | (with_reducible refine LaidW.alloc ?_ _))); done) | exact LaidW.now HLd.out (by repeat (first | (with_reducible first | exact HB.out | apply below_alloc | apply pw_below_drewN | apply below_drew1 | refine below_set ?_ GE161.out | refine below_set ?_ GE172.out | refine below_set ?_ GE174.out) | exact HB.out))); (case side1 => repeat (first | exact (Kd.V_reads' HO151.out).2.2 | (with_reducible refine Kd.C_alloc ?_ _) | (with_reducible refine Kd.C_drewN ?_ _) | (with_reducible refine Kd.C_drew ?_))); (case side2 => exact (Kd.V_reads' HO151.out).2.1); rintro e w81 ⟨rfl, hb⟩; refine ⟨_, rfl, ?_⟩; have n0_ := Aside0.mk (Kd.V_below (by (with_reducible repeat (first | apply Kd.V_alloc | apply Kd.V_drewN | apply Kd.V_drew)); exact HO151.out) hb); have n1_ := Aside0.mk (Kd.R_below (by (with_reducible repeat (first | apply Kd.R_alloc | apply Kd.R_drewN | apply Kd.R_drew)); exact HO155.out) hb); have n2_ := Aside0.mk (below_step (by repeat (first | (with_reducible first | exact HB.out | apply below_alloc | apply pw_below_drewN | apply below_drew1) | exact HB.out)) hb); clear HO151; clear HO155; clear HB; have HO151 := n0_; have HO155 := n1_; have HB := n2_; clear n0_ n1_ n2_; (try clear hb); (try clear hb2); (try clear hk); (try clear hi)) | ((with_reducible refine gate_dst (N := 7) rfl ?_); (try (refine gate_guard (by rfl) ?_; dsimp only)); refine box_event ?hg (N := 7) ?hd (cs := #[.int .i64 0, .int .i64 0, .int .i64 0, .int .i64 0]) (t := 30) ?hr ?_; (case hd => rfl); (case hg => rfl); (case hr => first | (go_simp; done) | (go_simp; rfl)); intro gb161 hg w82 hbox hb; have n0_ := Aside0.mk (Kd.V_below (Kd.V_elderB (by (with_reducible repeat (first | apply Kd.V_alloc | apply Kd.V_drewN | apply Kd.V_drew)); exact HO151.out) gb161 (Nat.le_of_eq hg.symm)) hb); have n1_ := Aside0.mk (Kd.R_below (by (with_reducible repeat (first | apply Kd.R_alloc | apply Kd.R_drewN | apply Kd.R_drew)); exact HO155.out) hb); have n2_ := Aside0.mk (below_step (by repeat (first | (with_reducible first | exact HB.out | apply below_alloc | apply pw_below_drewN | apply below_drew1) | exact HB.out)) hb); have n3_ := Aside0.mk (hbox); have n4_ := Aside0.mk ((by rw [hg]; exact (below_size (by repeat (first | (with_reducible first | exact HB.out | apply below_alloc | apply pw_below_drewN | apply below_drew1) | exact HB.out))) : w.heap.size ≤ gb161)); have n5_ := Aside0.mk ((by rw [hg]; exact (below_size (by repeat (first | (with_reducible first | exact HB.out | apply below_alloc | apply pw_below_drewN | apply below_drew1) | exact HB.out))) : w.heap.size ≤ gb161)); clear HO151; clear HO155; clear HB; have HO151 := n0_; have HO155 := n1_; have HB := n2_; have BK161 := n3_; have GW161 := n4_; have GE161 := n5_; clear n0_ n1_ n2_ n3_ n4_ n5_; clear hb hbox hg; obtain ⟨hcz83_0, hcz83_1, hcz83_2, hcz83_3⟩ := cells4 BK161.out; have hfz83_ := fun j => blk_frozen BK161.out j) | ((with_reducible refine gate_callee (f := 9) rfl ?_); refine goesL_ (some 32) rfl rfl Tryd.func9 (by kernel_rfl) rfl #[.slice Ao79 t149.length co79] rfl (by (try simp only [List.map_toArray, List.map_cons, List.map_nil]); first | done | rfl) ?_; (with_reducible refine (chanceryref3_ShapesError.calls k _ _ t149 t162 _ ?side1 ?side2 A8.out).mono ?_); (case side1 => refine (Kd.V_reads' (e := 45) (base := w.heap.size) (ok := fun k_ => ((True ∧ some k_ ≠ (v154 : Value).ownBlock) ∧ k_ ≠ gb161)) (n := t149.length) (c := co79) ?_).2.2; exact (by (with_reducible repeat (first | apply Kd.V_alloc | apply Kd.V_drewN | apply Kd.V_drew)); exact (Kd.V_mono (Kd.V_far (p := ⟨gb161, 3, none⟩) (Kd.V_far (p := ⟨gb161, 2, none⟩) (Kd.V_far (p := ⟨gb161, 1, none⟩) (Kd.V_far (p := ⟨gb161, 0, none⟩) (Kd.V_mono HO151.out (fun k_ hk => (⟨hk, hk.2⟩ : _ ∧ k_ ≠ gb161))) (fun _ hk => hk.2) (.int .i64 t156)) (fun _ hk => hk.2) (.int .i64 t157)) (fun _ hk => hk.2) (.int .i64 t158)) (fun _ hk => hk.2) (.int .i64 t159)) (fun _ h_ => h_.1)))); (case side2 => exact (Kd.V_reads' HO151.out).2.1); rintro e w84 ⟨rfl, hb⟩; refine ⟨_, rfl, ?_⟩; have n0_ := Aside0.mk (Kd.V_below (by (with_reducible repeat (first | apply Kd.V_alloc | apply Kd.V_drewN | apply Kd.V_drew)); exact (Kd.V_mono (Kd.V_far (p := ⟨gb161, 3, none⟩) (Kd.V_far (p := ⟨gb161, 2, none⟩) (Kd.V_far (p := ⟨gb161, 1, none⟩) (Kd.V_far (p := ⟨gb161, 0, none⟩) (Kd.V_mono HO151.out (fun k_ hk => (⟨hk, hk.2⟩ : _ ∧ k_ ≠ gb161))) (fun _ hk => hk.2) (.int .i64 t156)) (fun _ hk => hk.2) (.int .i64 t157)) (fun _ hk => hk.2) (.int .i64 t158)) (fun _ hk => hk.2) (.int .i64 t159)) (fun _ h_ => h_.1))) hb); have n1_ := Aside0.mk (Kd.R_below (by (with_reducible repeat (first | apply Kd.R_alloc | apply Kd.R_drewN | apply Kd.R_drew)); exact (Kd.R_mono (Kd.R_far (p := ⟨gb161, 3, none⟩) (Kd.R_far (p := ⟨gb161, 2, none⟩) (Kd.R_far (p := ⟨gb161, 1, none⟩) (Kd.R_far (p := ⟨gb161, 0, none⟩) (Kd.R_types HO155.out BK161.out (by decide)) (fun _ hk => hk.2) (.int .i64 t156)) (fun _ hk => hk.2) (.int .i64 t157)) (fun _ hk => hk.2) (.int .i64 t158)) (fun _ hk => hk.2) (.int .i64 t159)) (fun _ h_ => h_.1))) hb); have n2_ := Aside0.mk (blk_below (g := gb161) (o := .cells #[.int .i64 t156, .int .i64 t157, .int .i64 t158, .int .i64 t159] 30 (0, 0)) (by (with_reducible repeat (first | refine blk_drewN ?_ _ | refine blk_drew ?_ | refine blk_alloc ?_ _)); refine blk_put (cs := #[.int .i64 t156, .int .i64 t157, .int .i64 t158, .int .i64 0]) ?_ 3 _ rfl; (with_reducible repeat (first | refine blk_drewN ?_ _ | refine blk_drew ?_ | refine blk_alloc ?_ _)); refine blk_put (cs := #[.int .i64 t156, .int .i64 t157, .int .i64 0, .int .i64 0]) ?_ 2 _ rfl; (with_reducible repeat (first | refine blk_drewN ?_ _ | refine blk_drew ?_ | refine blk_alloc ?_ _)); refine blk_put (cs := #[.int .i64 t156, .int .i64 0, .int .i64 0, .int .i64 0]) ?_ 1 _ rfl; (with_reducible repeat (first | refine blk_drewN ?_ _ | refine blk_drew ?_ | refine blk_alloc ?_ _)); refine blk_put (cs := #[.int .i64 0, .int .i64 0, .int .i64 0, .int .i64 0]) ?_ 0 _ rfl; (with_reducible repeat (first | refine blk_drewN ?_ _ | refine blk_drew ?_ | refine blk_alloc ?_ _)); exact BK161.out) hb); have n3_ := Aside0.mk (below_step (by repeat (first | (with_reducible first | exact HB.out | apply below_alloc | apply pw_below_drewN | apply below_drew1 | refine below_set ?_ GE161.out) | exact HB.out)) hb); clear HO151; clear HO155; clear BK161; clear HB; have HO151 := n0_; have HO155 := n1_; have BK161 := n2_; have HB := n3_; clear n0_ n1_ n2_ n3_; (try clear hb); (try clear hb2); (try clear hk); (try clear hi)) | ((with_reducible refine gate_callee (f := 10) rfl ?_); refine goesL_ (some 34) rfl rfl Tryd.func10 (by kernel_rfl) rfl #[.slice Ao79 t149.length co79] rfl (by (try simp only [List.map_toArray, List.map_cons, List.map_nil]); first | done | rfl) ?_; (with_reducible refine (shape_Check.calls k _ _ t149 t163 _ ?side1 ?side2 A9.out).mono ?_); (case side1 => repeat (first | exact (Kd.V_reads' HO151.out).2.2 | (with_reducible refine Kd.C_alloc ?_ _) | (with_reducible refine Kd.C_drewN ?_ _) | (with_reducible refine Kd.C_drew ?_))); (case side2 => exact (Kd.V_reads' HO151.out).2.1); rintro e w85 ⟨rfl, hb⟩; refine ⟨_, rfl, ?_⟩; have n0_ := Aside0.mk (Kd.V_below (by (with_reducible repeat (first | apply Kd.V_alloc | apply Kd.V_drewN | apply Kd.V_drew)); exact HO151.out) hb); have n1_ := Aside0.mk (Kd.R_below (by (with_reducible repeat (first | apply Kd.R_alloc | apply Kd.R_drewN | apply Kd.R_drew)); exact HO155.out) hb); have n2_ := Aside0.mk (blk_below (g := gb161) (o := .cells #[.int .i64 t156, .int .i64 t157, .int .i64 t158, .int .i64 t159] 30 (0, 0)) (by (with_reducible repeat (first | refine blk_drewN ?_ _ | refine blk_drew ?_ | refine blk_alloc ?_ _)); exact BK161.out) hb); have n3_ := Aside0.mk (below_step (by repeat (first | (with_reducible first | exact HB.out | apply below_alloc | apply pw_below_drewN | apply below_drew1 | refine below_set ?_ GE161.out) | exact HB.out)) hb); clear HO151; clear HO155; clear BK161; clear HB; have HO151 := n0_; have HO155 := n1_; have BK161 := n2_; have HB := n3_; clear n0_ n1_ n2_ n3_; (try clear hb); (try clear hb2); (try clear hk); (try clear hi)))
   go_ret
   exact ⟨by first | rfl | (simp [errW_none, errW_some] <;> rfl) | (simp [*, errW_none, errW_some] <;> rfl), by repeat (first | (with_reducible first | exact HB.out | apply below_alloc | apply pw_below_drewN | apply below_drew1 | refine below_set ?_ GE161.out) | exact HB.out)⟩
 ·replace c4 := Bool.eq_false_iff.mpr c4
  subst c4
  have H1 : (some false) = some r := by rw [if_neg (show ¬ (false = true) by decide)] at H; exact H
  clear H
  have H := H1
  clear H1
  obtain rfl := Option.some.inj H
  go_enter Tryd.func3, Tryd.ntmps3
  go_wp2_with (first | ((with_reducible refine gate_callee (f := 5) rfl ?_); refine goesL_ (some 15) rfl rfl Tryd.func5 (by kernel_rfl) rfl #[] rfl (by (try simp only [List.map_toArray, List.map_cons, List.map_nil]); first | done | rfl) ?_; (with_reducible refine (chancerylaw3_shaped.calls k  false _ A3.out ?sL).mono ?_); (case sL => first | ((repeat (first | (with_reducible exact HLd.out) | (with_reducible refine LaidW.drewN ?_ _) | (with_reducible refine LaidW.drew ?_) | (with_reducible refine LaidW.alloc ?_ _))); done) | exact LaidW.now HLd.out (by repeat (first | (with_reducible first | exact HB.out | apply below_alloc | apply pw_below_drewN | apply below_drew1 | refine below_set ?_ GE161.out | refine below_set ?_ GE172.out | refine below_set ?_ GE174.out) | exact HB.out))); rintro e w86 ⟨rfl, hb⟩; refine ⟨_, rfl, ?_⟩; have n0_ := Aside0.mk (below_step (by repeat (first | (with_reducible first | exact HB.out | apply below_alloc | apply pw_below_drewN | apply below_drew1) | exact HB.out)) hb); clear HB; have HB := n0_; clear n0_; (try clear hb); (try clear hb2); (try clear hk); (try clear hi)))
  go_ret
  exact ⟨by first | rfl | (simp [errW_none, errW_some] <;> rfl) | (simp [*, errW_none, errW_some] <;> rfl), by repeat (first | (with_reducible first | exact HB.out | apply below_alloc | apply pw_below_drewN | apply below_drew1) | exact HB.out)⟩
end Go.Proofs.YtmheeekbbhkmkaaDoor.QSC
