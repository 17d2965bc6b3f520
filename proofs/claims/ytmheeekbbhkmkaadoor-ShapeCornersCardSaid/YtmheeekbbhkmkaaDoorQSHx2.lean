import Derived.Test.YtmheeekbbhkmkaaDoorHandSHc
import Derived.Test.YtmheeekbbhkmkaaDoorQSHx0
import Derived.Test.YtmheeekbbhkmkaaDoorQSHx1
namespace Go.Proofs.YtmheeekbbhkmkaaDoor.QSH
open Go.RowKit Go.Proofs.YtmheeekbbhkmkaaDoor.Cells Go.Proofs.YtmheeekbbhkmkaaDoorW.PrintWords Go.Proofs.YtmheeekbbhkmkaaDoorW.PrintLast Go.Proofs.YtmheeekbbhkmkaaDoorW.PrintMore Go.Proofs.YtmheeekbbhkmkaaDoor.HandSH
attribute [local go_sem] max2_int min2_int max_two min_two max_three min_three max_four min_four 
set_option linter.unusedVariables false
set_option linter.unusedSimpArgs false
mutual
def chanceryref3_ShapesError.l0 : Nat → List (S45) → List (S45) → Int → Int → Option (Int)
 | 0, _, _, _, _ => none
 | k + 1, x0, x11, x12, x13 => if x13 < x12 then (if 0 ≤ x13 then (if x13 < (x11.length : Int) then ((chanceryref3_In.f ((rd_T45 x11 x13).f2) 0 7).bind fun t123 => (if t123 = true then ((chanceryref3_In.f ((rd_T45 x11 x13).f0) 1 1073741824).bind fun t124 => (if t124 = true then ((chanceryref3_In.f ((rd_T45 x11 x13).f1) 0 1073741824).bind fun t125 => (if t125 = true then ((chanceryref3_In.f ((rd_T45 x11 x13).f8) 0 1073741824).bind fun t126 => (if t126 = true then ((chanceryref3_In.f ((rd_T45 x11 x13).f9) 0 1073741824).bind fun t127 => (chanceryref3_ShapesError.j1 k x0 x13 x11 x12 x13 (!t127) ((rd_T45 x11 x13).f0) ((rd_T45 x11 x13).f1) ((rd_T45 x11 x13).f2) ((rd_T45 x11 x13).f3) ((rd_T45 x11 x13).f4) ((rd_T45 x11 x13).f5) ((rd_T45 x11 x13).f6) ((rd_T45 x11 x13).f7) ((rd_T45 x11 x13).f8) ((rd_T45 x11 x13).f9) ((rd_T45 x11 x13).f10) ((rd_T45 x11 x13).f11))) else (chanceryref3_ShapesError.j1 k x0 x13 x11 x12 x13 (!t126) ((rd_T45 x11 x13).f0) ((rd_T45 x11 x13).f1) ((rd_T45 x11 x13).f2) ((rd_T45 x11 x13).f3) ((rd_T45 x11 x13).f4) ((rd_T45 x11 x13).f5) ((rd_T45 x11 x13).f6) ((rd_T45 x11 x13).f7) ((rd_T45 x11 x13).f8) ((rd_T45 x11 x13).f9) ((rd_T45 x11 x13).f10) ((rd_T45 x11 x13).f11)))) else (chanceryref3_ShapesError.j1 k x0 x13 x11 x12 x13 (!t125) ((rd_T45 x11 x13).f0) ((rd_T45 x11 x13).f1) ((rd_T45 x11 x13).f2) ((rd_T45 x11 x13).f3) ((rd_T45 x11 x13).f4) ((rd_T45 x11 x13).f5) ((rd_T45 x11 x13).f6) ((rd_T45 x11 x13).f7) ((rd_T45 x11 x13).f8) ((rd_T45 x11 x13).f9) ((rd_T45 x11 x13).f10) ((rd_T45 x11 x13).f11)))) else (chanceryref3_ShapesError.j1 k x0 x13 x11 x12 x13 (!t124) ((rd_T45 x11 x13).f0) ((rd_T45 x11 x13).f1) ((rd_T45 x11 x13).f2) ((rd_T45 x11 x13).f3) ((rd_T45 x11 x13).f4) ((rd_T45 x11 x13).f5) ((rd_T45 x11 x13).f6) ((rd_T45 x11 x13).f7) ((rd_T45 x11 x13).f8) ((rd_T45 x11 x13).f9) ((rd_T45 x11 x13).f10) ((rd_T45 x11 x13).f11)))) else (some 8))) else (none)) else (none)) else (some 0)
def chanceryref3_ShapesError.j1 : Nat → List (S45) → Int → List (S45) → Int → Int → Bool → Int → Int → Int → Int → Int → Int → Int → Int → Int → Int → ByteArray → ByteArray → Option (Int)
 | 0, _, _, _, _, _, _, _, _, _, _, _, _, _, _, _, _, _, _ => none
 | k + 1, x0, x3, x11, x12, x13, x23, x123000, x123001, x123002, x123003, x123004, x123005, x123006, x123007, x123008, x123009, x123010, x123011 => if x23 = true then (some 2) else ((chanceryref3_In.f x123003 (-1048576) 1048576).bind fun t128 => (if t128 = true then ((chanceryref3_In.f x123004 (-1048576) 1048576).bind fun t129 => (if t129 = true then ((chanceryref3_In.f x123005 0 1048576).bind fun t130 => (if t130 = true then ((chanceryref3_In.f x123006 0 1048576).bind fun t131 => (if t131 = true then ((chanceryref3_In.f x123007 0 3599).bind fun t132 => (chanceryref3_ShapesError.j2 k x0 x3 x11 x12 x13 (!t132) x123000 x123001 x123002 x123003 x123004 x123005 x123006 x123007 x123008 x123009 x123010 x123011)) else (chanceryref3_ShapesError.j2 k x0 x3 x11 x12 x13 (!t131) x123000 x123001 x123002 x123003 x123004 x123005 x123006 x123007 x123008 x123009 x123010 x123011))) else (chanceryref3_ShapesError.j2 k x0 x3 x11 x12 x13 (!t130) x123000 x123001 x123002 x123003 x123004 x123005 x123006 x123007 x123008 x123009 x123010 x123011))) else (chanceryref3_ShapesError.j2 k x0 x3 x11 x12 x13 (!t129) x123000 x123001 x123002 x123003 x123004 x123005 x123006 x123007 x123008 x123009 x123010 x123011))) else (chanceryref3_ShapesError.j2 k x0 x3 x11 x12 x13 (!t128) x123000 x123001 x123002 x123003 x123004 x123005 x123006 x123007 x123008 x123009 x123010 x123011)))
def chanceryref3_ShapesError.j2 : Nat → List (S45) → Int → List (S45) → Int → Int → Bool → Int → Int → Int → Int → Int → Int → Int → Int → Int → Int → ByteArray → ByteArray → Option (Int)
 | 0, _, _, _, _, _, _, _, _, _, _, _, _, _, _, _, _, _, _ => none
 | k + 1, x0, x3, x11, x12, x13, x40, x123000, x123001, x123002, x123003, x123004, x123005, x123006, x123007, x123008, x123009, x123010, x123011 => if x40 = true then (some 2) else (if x123002 = 6 then (chanceryref3_ShapesError.j3 k x0 x3 x11 x12 x13 false x123000 x123001 x123002 x123003 x123004 x123005 x123006 x123007 x123008 x123009 x123010 x123011) else (if x123008 > 0 then (chanceryref3_ShapesError.j3 k x0 x3 x11 x12 x13 true x123000 x123001 x123002 x123003 x123004 x123005 x123006 x123007 x123008 x123009 x123010 x123011) else (chanceryref3_ShapesError.j3 k x0 x3 x11 x12 x13 (decide (x123009 > 0)) x123000 x123001 x123002 x123003 x123004 x123005 x123006 x123007 x123008 x123009 x123010 x123011)))
def chanceryref3_ShapesError.j3 : Nat → List (S45) → Int → List (S45) → Int → Int → Bool → Int → Int → Int → Int → Int → Int → Int → Int → Int → Int → ByteArray → ByteArray → Option (Int)
 | 0, _, _, _, _, _, _, _, _, _, _, _, _, _, _, _, _, _, _ => none
 | k + 1, x0, x3, x11, x12, x13, x61, x123000, x123001, x123002, x123003, x123004, x123005, x123006, x123007, x123008, x123009, x123010, x123011 => if x61 = true then (some 4) else (if 0 ≤ x3 then (if x3 ≤ (x0.length : Int) then ((chanceryref3_ShapeAt.f k (x0.take (x3 : Int).toNat) x123000).bind fun t137 => (if t137 ≥ 0 then (some 6) else (chanceryref3_ShapesError.l1 k x0 x3 x123001 1 x11 x12 x13))) else (none)) else (none))
def chanceryref3_ShapesError.l1 : Nat → List (S45) → Int → Int → Int → List (S45) → Int → Int → Option (Int)
 | 0, _, _, _, _, _, _, _ => none
 | k + 1, x0, x3, x5, x6, x11, x12, x13 => if x5 = 0 then (chanceryref3_ShapesError.l0 k x0 x11 x12 (wrap64 (x13 + 1))) else (if 0 ≤ x3 then (if x3 ≤ (x0.length : Int) then ((chanceryref3_ShapeAt.f k (x0.take (x3 : Int).toNat) x5).bind fun t142 => (if x6 ≥ 20 then (some 22) else (if t142 < 0 then (some 7) else (if 0 ≤ t142 then (if t142 < (x0.length : Int) then (if ((rd_T45 x0 t142).f2) = 5 then (chanceryref3_ShapesError.l1 k x0 x3 ((rd_T45 x0 t142).f1) (wrap64 (x6 + 1)) x11 x12 x13) else (some 8)) else (none)) else (none))))) else (none)) else (none))
end
def chanceryref3_ShapesError.f (k : Nat) (l0 : List (S45)) : Option (Int) := if (l0.length : Int) > 1000 then (some 3) else (chanceryref3_ShapesError.l0 k l0 l0 (l0.length : Int) 0)
theorem chanceryref3_ShapesError.mono_l : ∀ k, (∀ y0 y1 y2 y3, LeO (chanceryref3_ShapesError.l0 k y0 y1 y2 y3) (chanceryref3_ShapesError.l0 (k + 1) y0 y1 y2 y3)) ∧ (∀ y0 y1 y2 y3 y4 y5 y6 y7 y8 y9 y10 y11 y12 y13 y14 y15 y16 y17, LeO (chanceryref3_ShapesError.j1 k y0 y1 y2 y3 y4 y5 y6 y7 y8 y9 y10 y11 y12 y13 y14 y15 y16 y17) (chanceryref3_ShapesError.j1 (k + 1) y0 y1 y2 y3 y4 y5 y6 y7 y8 y9 y10 y11 y12 y13 y14 y15 y16 y17)) ∧ (∀ y0 y1 y2 y3 y4 y5 y6 y7 y8 y9 y10 y11 y12 y13 y14 y15 y16 y17, LeO (chanceryref3_ShapesError.j2 k y0 y1 y2 y3 y4 y5 y6 y7 y8 y9 y10 y11 y12 y13 y14 y15 y16 y17) (chanceryref3_ShapesError.j2 (k + 1) y0 y1 y2 y3 y4 y5 y6 y7 y8 y9 y10 y11 y12 y13 y14 y15 y16 y17)) ∧ (∀ y0 y1 y2 y3 y4 y5 y6 y7 y8 y9 y10 y11 y12 y13 y14 y15 y16 y17, LeO (chanceryref3_ShapesError.j3 k y0 y1 y2 y3 y4 y5 y6 y7 y8 y9 y10 y11 y12 y13 y14 y15 y16 y17) (chanceryref3_ShapesError.j3 (k + 1) y0 y1 y2 y3 y4 y5 y6 y7 y8 y9 y10 y11 y12 y13 y14 y15 y16 y17)) ∧ (∀ y0 y1 y2 y3 y4 y5 y6, LeO (chanceryref3_ShapesError.l1 k y0 y1 y2 y3 y4 y5 y6) (chanceryref3_ShapesError.l1 (k + 1) y0 y1 y2 y3 y4 y5 y6))
 | 0 => ⟨fun _ _ _ _ r h => by simp [chanceryref3_ShapesError.l0] at h, fun _ _ _ _ _ _ _ _ _ _ _ _ _ _ _ _ _ _ r h => by simp [chanceryref3_ShapesError.j1] at h, fun _ _ _ _ _ _ _ _ _ _ _ _ _ _ _ _ _ _ r h => by simp [chanceryref3_ShapesError.j2] at h, fun _ _ _ _ _ _ _ _ _ _ _ _ _ _ _ _ _ _ r h => by simp [chanceryref3_ShapesError.j3] at h, fun _ _ _ _ _ _ _ r h => by simp [chanceryref3_ShapesError.l1] at h⟩
 | k + 1 => by
  obtain ⟨ih0, ih1, ih2, ih3, ih4⟩ := chanceryref3_ShapesError.mono_l k
  refine ⟨?_, ?_, ?_, ?_, ?_⟩
  ·intro y0 y1 y2 y3
   unfold chanceryref3_ShapesError.l0
   repeat' first
   | (with_reducible exact ih0 _ _ _ _)
   | (with_reducible exact ih1 _ _ _ _ _ _ _ _ _ _ _ _ _ _ _ _ _ _)
   | (with_reducible exact ih2 _ _ _ _ _ _ _ _ _ _ _ _ _ _ _ _ _ _)
   | (with_reducible exact ih3 _ _ _ _ _ _ _ _ _ _ _ _ _ _ _ _ _ _)
   | (with_reducible exact ih4 _ _ _ _ _ _ _)
   | (with_reducible exact chanceryref3_ShapeAt.mono _ _ _)
   | (with_reducible exact LeO.refl _)
   | (with_reducible exact LeO.none _)
   | (with_reducible refine LeO.ite ?_ ?_)
   | (with_reducible refine LeO.bind ?_ (fun _ => ?_))
   | exact ih0 _ _ _ _
   | exact ih1 _ _ _ _ _ _ _ _ _ _ _ _ _ _ _ _ _ _
   | exact ih2 _ _ _ _ _ _ _ _ _ _ _ _ _ _ _ _ _ _
   | exact ih3 _ _ _ _ _ _ _ _ _ _ _ _ _ _ _ _ _ _
   | exact ih4 _ _ _ _ _ _ _
   | exact chanceryref3_ShapeAt.mono _ _ _
   | exact LeO.none _
   | refine LeO.ite ?_ ?_
   | refine LeO.bind ?_ (fun _ => ?_)
  ·intro y0 y1 y2 y3 y4 y5 y6 y7 y8 y9 y10 y11 y12 y13 y14 y15 y16 y17
   unfold chanceryref3_ShapesError.j1
   repeat' first
   | (with_reducible exact ih0 _ _ _ _)
   | (with_reducible exact ih1 _ _ _ _ _ _ _ _ _ _ _ _ _ _ _ _ _ _)
   | (with_reducible exact ih2 _ _ _ _ _ _ _ _ _ _ _ _ _ _ _ _ _ _)
   | (with_reducible exact ih3 _ _ _ _ _ _ _ _ _ _ _ _ _ _ _ _ _ _)
   | (with_reducible exact ih4 _ _ _ _ _ _ _)
   | (with_reducible exact chanceryref3_ShapeAt.mono _ _ _)
   | (with_reducible exact LeO.refl _)
   | (with_reducible exact LeO.none _)
   | (with_reducible refine LeO.ite ?_ ?_)
   | (with_reducible refine LeO.bind ?_ (fun _ => ?_))
   | exact ih0 _ _ _ _
   | exact ih1 _ _ _ _ _ _ _ _ _ _ _ _ _ _ _ _ _ _
   | exact ih2 _ _ _ _ _ _ _ _ _ _ _ _ _ _ _ _ _ _
   | exact ih3 _ _ _ _ _ _ _ _ _ _ _ _ _ _ _ _ _ _
   | exact ih4 _ _ _ _ _ _ _
   | exact chanceryref3_ShapeAt.mono _ _ _
   | exact LeO.none _
   | refine LeO.ite ?_ ?_
   | refine LeO.bind ?_ (fun _ => ?_)
  ·intro y0 y1 y2 y3 y4 y5 y6 y7 y8 y9 y10 y11 y12 y13 y14 y15 y16 y17
   unfold chanceryref3_ShapesError.j2
   repeat' first
   | (with_reducible exact ih0 _ _ _ _)
   | (with_reducible exact ih1 _ _ _ _ _ _ _ _ _ _ _ _ _ _ _ _ _ _)
   | (with_reducible exact ih2 _ _ _ _ _ _ _ _ _ _ _ _ _ _ _ _ _ _)
   | (with_reducible exact ih3 _ _ _ _ _ _ _ _ _ _ _ _ _ _ _ _ _ _)
   | (with_reducible exact ih4 _ _ _ _ _ _ _)
   | (with_reducible exact chanceryref3_ShapeAt.mono _ _ _)
   | (with_reducible exact LeO.refl _)
   | (with_reducible exact LeO.none _)
   | (with_reducible refine LeO.ite ?_ ?_)
   | (with_reducible refine LeO.bind ?_ (fun _ => ?_))
   | exact ih0 _ _ _ _
   | exact ih1 _ _ _ _ _ _ _ _ _ _ _ _ _ _ _ _ _ _
   | exact ih2 _ _ _ _ _ _ _ _ _ _ _ _ _ _ _ _ _ _
   | exact ih3 _ _ _ _ _ _ _ _ _ _ _ _ _ _ _ _ _ _
   | exact ih4 _ _ _ _ _ _ _
   | exact chanceryref3_ShapeAt.mono _ _ _
   | exact LeO.none _
   | refine LeO.ite ?_ ?_
   | refine LeO.bind ?_ (fun _ => ?_)
  ·intro y0 y1 y2 y3 y4 y5 y6 y7 y8 y9 y10 y11 y12 y13 y14 y15 y16 y17
   unfold chanceryref3_ShapesError.j3
   repeat' first
   | (with_reducible exact ih0 _ _ _ _)
   | (with_reducible exact ih1 _ _ _ _ _ _ _ _ _ _ _ _ _ _ _ _ _ _)
   | (with_reducible exact ih2 _ _ _ _ _ _ _ _ _ _ _ _ _ _ _ _ _ _)
   | (with_reducible exact ih3 _ _ _ _ _ _ _ _ _ _ _ _ _ _ _ _ _ _)
   | (with_reducible exact ih4 _ _ _ _ _ _ _)
   | (with_reducible exact chanceryref3_ShapeAt.mono _ _ _)
   | (with_reducible exact LeO.refl _)
   | (with_reducible exact LeO.none _)
   | (with_reducible refine LeO.ite ?_ ?_)
   | (with_reducible refine LeO.bind ?_ (fun _ => ?_))
   | exact ih0 _ _ _ _
   | exact ih1 _ _ _ _ _ _ _ _ _ _ _ _ _ _ _ _ _ _
   | exact ih2 _ _ _ _ _ _ _ _ _ _ _ _ _ _ _ _ _ _
   | exact ih3 _ _ _ _ _ _ _ _ _ _ _ _ _ _ _ _ _ _
   | exact ih4 _ _ _ _ _ _ _
   | exact chanceryref3_ShapeAt.mono _ _ _
   | exact LeO.none _
   | refine LeO.ite ?_ ?_
   | refine LeO.bind ?_ (fun _ => ?_)
  ·intro y0 y1 y2 y3 y4 y5 y6
   unfold chanceryref3_ShapesError.l1
   repeat' first
   | (with_reducible exact ih0 _ _ _ _)
   | (with_reducible exact ih1 _ _ _ _ _ _ _ _ _ _ _ _ _ _ _ _ _ _)
   | (with_reducible exact ih2 _ _ _ _ _ _ _ _ _ _ _ _ _ _ _ _ _ _)
   | (with_reducible exact ih3 _ _ _ _ _ _ _ _ _ _ _ _ _ _ _ _ _ _)
   | (with_reducible exact ih4 _ _ _ _ _ _ _)
   | (with_reducible exact chanceryref3_ShapeAt.mono _ _ _)
   | (with_reducible exact LeO.refl _)
   | (with_reducible exact LeO.none _)
   | (with_reducible refine LeO.ite ?_ ?_)
   | (with_reducible refine LeO.bind ?_ (fun _ => ?_))
   | exact ih0 _ _ _ _
   | exact ih1 _ _ _ _ _ _ _ _ _ _ _ _ _ _ _ _ _ _
   | exact ih2 _ _ _ _ _ _ _ _ _ _ _ _ _ _ _ _ _ _
   | exact ih3 _ _ _ _ _ _ _ _ _ _ _ _ _ _ _ _ _ _
   | exact ih4 _ _ _ _ _ _ _
   | exact chanceryref3_ShapeAt.mono _ _ _
   | exact LeO.none _
   | refine LeO.ite ?_ ?_
   | refine LeO.bind ?_ (fun _ => ?_)
theorem chanceryref3_ShapesError.mono : ∀ a0 k, LeO (chanceryref3_ShapesError.f k a0) (chanceryref3_ShapesError.f (k + 1) a0) := by
 intro a0 k
 obtain ⟨ih0, ih1, ih2, ih3, ih4⟩ := chanceryref3_ShapesError.mono_l k
 unfold chanceryref3_ShapesError.f
 repeat' first
   | (with_reducible exact ih0 _ _ _ _)
   | (with_reducible exact ih1 _ _ _ _ _ _ _ _ _ _ _ _ _ _ _ _ _ _)
   | (with_reducible exact ih2 _ _ _ _ _ _ _ _ _ _ _ _ _ _ _ _ _ _)
   | (with_reducible exact ih3 _ _ _ _ _ _ _ _ _ _ _ _ _ _ _ _ _ _)
   | (with_reducible exact ih4 _ _ _ _ _ _ _)
   | (with_reducible exact chanceryref3_ShapeAt.mono _ _ _)
   | (with_reducible exact LeO.refl _)
   | (with_reducible exact LeO.none _)
   | (with_reducible refine LeO.ite ?_ ?_)
   | (with_reducible refine LeO.bind ?_ (fun _ => ?_))
   | exact ih0 _ _ _ _
   | exact ih1 _ _ _ _ _ _ _ _ _ _ _ _ _ _ _ _ _ _
   | exact ih2 _ _ _ _ _ _ _ _ _ _ _ _ _ _ _ _ _ _
   | exact ih3 _ _ _ _ _ _ _ _ _ _ _ _ _ _ _ _ _ _
   | exact ih4 _ _ _ _ _ _ _
   | exact chanceryref3_ShapeAt.mono _ _ _
   | exact LeO.none _
   | refine LeO.ite ?_ ?_
   | refine LeO.bind ?_ (fun _ => ?_)
def chanceryref3_ShapesError.T21 : Bool × List (List Nat × List Nat) := (true, [([], []), ([], []), ([0, 1], [0, 1]), ([], []), ([3], [3]), ([2, 4], [2, 4]), ([5], [5]), ([6, 5], [6])])
def chanceryref3_ShapesError.B21 : List Nat := [0, 0, 3, 0, 8, 31, 63, 127]
theorem chanceryref3_ShapesError.tab21 : rtab .any (opsOf Tryd.f9 21) = chanceryref3_ShapesError.T21 := by kernel_rfl
theorem chanceryref3_ShapesError.bits21 : waitsOk chanceryref3_ShapesError.T21.2 chanceryref3_ShapesError.B21 = true := by kernel_rfl
set_option maxHeartbeats 8000000 in
set_option maxRecDepth 100000 in
theorem chanceryref3_ShapesError.calls (k : Nat) (A0 : Option Addr) (c0 : Nat) (l0 : List (S45)) (r : Int) (w : World) (hr0 : Kd.C k45 w A0 l0.length l0) (hc0 : l0.length ≤ c0) (h : chanceryref3_ShapesError.f k l0 = some r) :
  Calls Tryd.prog 9 #[.slice A0 l0.length c0] w fun e w' => e = .returned (.int .i64 r) ∧ Below w.heap.size w w' := by
 have hu45 := Tryd.underlying45
 have HR0 := Aside0.mk hr0
 have HC0 := Aside0.mk hc0
 clear hr0 hc0
 have HB := Aside0.mk (Below.refl w.heap.size w)
 have H : (if (l0.length : Int) > 1000 then (some 3) else (chanceryref3_ShapesError.l0 k l0 l0 (l0.length : Int) 0)) = some r := h
 clear h
 by_cases c2 : (l0.length : Int) > 1000
 ·rw [if_pos c2] at H
  have c2b0 : decide (1000 < (l0.length : Int)) = true := decide_eq_true c2
  have c2b1 : decide (1000 < l0.length) = true := decide_eq_true (by omega)
  clear c2
  obtain rfl := Option.some.inj H
  go_enter Tryd.func9, Tryd.ntmps9
  go_wp2
  go_ret
  exact ⟨by first | rfl | (simp [errW_none, errW_some] <;> rfl) | (simp [*, errW_none, errW_some] <;> rfl), by repeat (first | (with_reducible first | exact HB.out | apply below_alloc | apply pw_below_drewN | apply below_drew1) | exact HB.out)⟩
 ·rw [if_neg c2] at H
  have c2b0 : decide (1000 < (l0.length : Int)) = false := decide_eq_false c2
  have c2b1 : decide (1000 < l0.length) = false := decide_eq_false (by omega)
  clear c2
  have H' := Aside0.mk H
  clear H
  go_enter Tryd.func9, Tryd.ntmps9
  go_wp2
  go_loopg [13] k (fun kq v13 w' => ∃ (x13_1 : Int), v13 = .int .i64 x13_1 ∧ Aside0 (chanceryref3_ShapesError.l0 kq l0 l0 (l0.length : Int) x13_1 = some r) ∧ Aside0 (kq ≤ k) ∧ Aside0 (Below w.heap.size w w'))
  case atStart => exact ⟨(0), (by first | rfl | (simp; done) | (simp [*]; done)), H', ⟨Nat.le_refl _⟩, ⟨by repeat (first | (with_reducible first | exact HB.out | apply below_alloc | apply pw_below_drewN | apply below_drew1) | exact HB.out)⟩⟩
  case round =>
   clear H'
   try clear c2; try clear c2b0; try clear c2b1; try clear p2
   obtain ⟨x13_1, rfl, HA, HK1, HB⟩ := hrel
   cases gk with
   | zero => exact absurd HA.out (by simp [chanceryref3_ShapesError.l0])
   | succ k1 =>
    have H := HA.out
    clear HA
    simp only [chanceryref3_ShapesError.l0] at H
    by_cases c3 : x13_1 < (l0.length : Int)
    ·rw [if_pos c3] at H
     have c3b0 : decide (x13_1 < (l0.length : Int)) = true := decide_eq_true c3
     clear c3
     by_cases c4 : 0 ≤ x13_1
     ·rw [if_pos c4] at H
      have c4b0 : decide (0 ≤ x13_1) = true := decide_eq_true c4
      clear c4
      by_cases c5 : x13_1 < (l0.length : Int)
      ·rw [if_pos c5] at H
       have c5b0 : decide (x13_1 < (l0.length : Int)) = true := decide_eq_true c5
       clear c5
       replace H := Option.bind_eq_some_iff.mp H
       obtain ⟨t123, A60, H⟩ := H
       replace H : (if t123 = true then ((chanceryref3_In.f ((rd_T45 l0 x13_1).f0) 1 1073741824).bind fun t124 => (if t124 = true then ((chanceryref3_In.f ((rd_T45 l0 x13_1).f1) 0 1073741824).bind fun t125 => (if t125 = true then ((chanceryref3_In.f ((rd_T45 l0 x13_1).f8) 0 1073741824).bind fun t126 => (if t126 = true then ((chanceryref3_In.f ((rd_T45 l0 x13_1).f9) 0 1073741824).bind fun t127 => (chanceryref3_ShapesError.j1 k1 l0 x13_1 l0 (l0.length : Int) x13_1 (!t127) ((rd_T45 l0 x13_1).f0) ((rd_T45 l0 x13_1).f1) ((rd_T45 l0 x13_1).f2) ((rd_T45 l0 x13_1).f3) ((rd_T45 l0 x13_1).f4) ((rd_T45 l0 x13_1).f5) ((rd_T45 l0 x13_1).f6) ((rd_T45 l0 x13_1).f7) ((rd_T45 l0 x13_1).f8) ((rd_T45 l0 x13_1).f9) ((rd_T45 l0 x13_1).f10) ((rd_T45 l0 x13_1).f11))) else (chanceryref3_ShapesError.j1 k1 l0 x13_1 l0 (l0.length : Int) x13_1 (!t126) ((rd_T45 l0 x13_1).f0) ((rd_T45 l0 x13_1).f1) ((rd_T45 l0 x13_1).f2) ((rd_T45 l0 x13_1).f3) ((rd_T45 l0 x13_1).f4) ((rd_T45 l0 x13_1).f5) ((rd_T45 l0 x13_1).f6) ((rd_T45 l0 x13_1).f7) ((rd_T45 l0 x13_1).f8) ((rd_T45 l0 x13_1).f9) ((rd_T45 l0 x13_1).f10) ((rd_T45 l0 x13_1).f11)))) else (chanceryref3_ShapesError.j1 k1 l0 x13_1 l0 (l0.length : Int) x13_1 (!t125) ((rd_T45 l0 x13_1).f0) ((rd_T45 l0 x13_1).f1) ((rd_T45 l0 x13_1).f2) ((rd_T45 l0 x13_1).f3) ((rd_T45 l0 x13_1).f4) ((rd_T45 l0 x13_1).f5) ((rd_T45 l0 x13_1).f6) ((rd_T45 l0 x13_1).f7) ((rd_T45 l0 x13_1).f8) ((rd_T45 l0 x13_1).f9) ((rd_T45 l0 x13_1).f10) ((rd_T45 l0 x13_1).f11)))) else (chanceryref3_ShapesError.j1 k1 l0 x13_1 l0 (l0.length : Int) x13_1 (!t124) ((rd_T45 l0 x13_1).f0) ((rd_T45 l0 x13_1).f1) ((rd_T45 l0 x13_1).f2) ((rd_T45 l0 x13_1).f3) ((rd_T45 l0 x13_1).f4) ((rd_T45 l0 x13_1).f5) ((rd_T45 l0 x13_1).f6) ((rd_T45 l0 x13_1).f7) ((rd_T45 l0 x13_1).f8) ((rd_T45 l0 x13_1).f9) ((rd_T45 l0 x13_1).f10) ((rd_T45 l0 x13_1).f11)))) else (some 8)) = some r := H
       have A6 := Aside0.mk A60
       clear A60
       by_cases c7 : t123 = true
       ·subst c7
        have H1 : ((chanceryref3_In.f ((rd_T45 l0 x13_1).f0) 1 1073741824).bind fun t124 => (if t124 = true then ((chanceryref3_In.f ((rd_T45 l0 x13_1).f1) 0 1073741824).bind fun t125 => (if t125 = true then ((chanceryref3_In.f ((rd_T45 l0 x13_1).f8) 0 1073741824).bind fun t126 => (if t126 = true then ((chanceryref3_In.f ((rd_T45 l0 x13_1).f9) 0 1073741824).bind fun t127 => (chanceryref3_ShapesError.j1 k1 l0 x13_1 l0 (l0.length : Int) x13_1 (!t127) ((rd_T45 l0 x13_1).f0) ((rd_T45 l0 x13_1).f1) ((rd_T45 l0 x13_1).f2) ((rd_T45 l0 x13_1).f3) ((rd_T45 l0 x13_1).f4) ((rd_T45 l0 x13_1).f5) ((rd_T45 l0 x13_1).f6) ((rd_T45 l0 x13_1).f7) ((rd_T45 l0 x13_1).f8) ((rd_T45 l0 x13_1).f9) ((rd_T45 l0 x13_1).f10) ((rd_T45 l0 x13_1).f11))) else (chanceryref3_ShapesError.j1 k1 l0 x13_1 l0 (l0.length : Int) x13_1 (!t126) ((rd_T45 l0 x13_1).f0) ((rd_T45 l0 x13_1).f1) ((rd_T45 l0 x13_1).f2) ((rd_T45 l0 x13_1).f3) ((rd_T45 l0 x13_1).f4) ((rd_T45 l0 x13_1).f5) ((rd_T45 l0 x13_1).f6) ((rd_T45 l0 x13_1).f7) ((rd_T45 l0 x13_1).f8) ((rd_T45 l0 x13_1).f9) ((rd_T45 l0 x13_1).f10) ((rd_T45 l0 x13_1).f11)))) else (chanceryref3_ShapesError.j1 k1 l0 x13_1 l0 (l0.length : Int) x13_1 (!t125) ((rd_T45 l0 x13_1).f0) ((rd_T45 l0 x13_1).f1) ((rd_T45 l0 x13_1).f2) ((rd_T45 l0 x13_1).f3) ((rd_T45 l0 x13_1).f4) ((rd_T45 l0 x13_1).f5) ((rd_T45 l0 x13_1).f6) ((rd_T45 l0 x13_1).f7) ((rd_T45 l0 x13_1).f8) ((rd_T45 l0 x13_1).f9) ((rd_T45 l0 x13_1).f10) ((rd_T45 l0 x13_1).f11)))) else (chanceryref3_ShapesError.j1 k1 l0 x13_1 l0 (l0.length : Int) x13_1 (!t124) ((rd_T45 l0 x13_1).f0) ((rd_T45 l0 x13_1).f1) ((rd_T45 l0 x13_1).f2) ((rd_T45 l0 x13_1).f3) ((rd_T45 l0 x13_1).f4) ((rd_T45 l0 x13_1).f5) ((rd_T45 l0 x13_1).f6) ((rd_T45 l0 x13_1).f7) ((rd_T45 l0 x13_1).f8) ((rd_T45 l0 x13_1).f9) ((rd_T45 l0 x13_1).f10) ((rd_T45 l0 x13_1).f11)))) = some r := by rw [if_pos rfl] at H; exact H
        clear H
        have H := H1
        clear H1
        replace H := Option.bind_eq_some_iff.mp H
        obtain ⟨t124, A80, H⟩ := H
        replace H : (if t124 = true then ((chanceryref3_In.f ((rd_T45 l0 x13_1).f1) 0 1073741824).bind fun t125 => (if t125 = true then ((chanceryref3_In.f ((rd_T45 l0 x13_1).f8) 0 1073741824).bind fun t126 => (if t126 = true then ((chanceryref3_In.f ((rd_T45 l0 x13_1).f9) 0 1073741824).bind fun t127 => (chanceryref3_ShapesError.j1 k1 l0 x13_1 l0 (l0.length : Int) x13_1 (!t127) ((rd_T45 l0 x13_1).f0) ((rd_T45 l0 x13_1).f1) ((rd_T45 l0 x13_1).f2) ((rd_T45 l0 x13_1).f3) ((rd_T45 l0 x13_1).f4) ((rd_T45 l0 x13_1).f5) ((rd_T45 l0 x13_1).f6) ((rd_T45 l0 x13_1).f7) ((rd_T45 l0 x13_1).f8) ((rd_T45 l0 x13_1).f9) ((rd_T45 l0 x13_1).f10) ((rd_T45 l0 x13_1).f11))) else (chanceryref3_ShapesError.j1 k1 l0 x13_1 l0 (l0.length : Int) x13_1 (!t126) ((rd_T45 l0 x13_1).f0) ((rd_T45 l0 x13_1).f1) ((rd_T45 l0 x13_1).f2) ((rd_T45 l0 x13_1).f3) ((rd_T45 l0 x13_1).f4) ((rd_T45 l0 x13_1).f5) ((rd_T45 l0 x13_1).f6) ((rd_T45 l0 x13_1).f7) ((rd_T45 l0 x13_1).f8) ((rd_T45 l0 x13_1).f9) ((rd_T45 l0 x13_1).f10) ((rd_T45 l0 x13_1).f11)))) else (chanceryref3_ShapesError.j1 k1 l0 x13_1 l0 (l0.length : Int) x13_1 (!t125) ((rd_T45 l0 x13_1).f0) ((rd_T45 l0 x13_1).f1) ((rd_T45 l0 x13_1).f2) ((rd_T45 l0 x13_1).f3) ((rd_T45 l0 x13_1).f4) ((rd_T45 l0 x13_1).f5) ((rd_T45 l0 x13_1).f6) ((rd_T45 l0 x13_1).f7) ((rd_T45 l0 x13_1).f8) ((rd_T45 l0 x13_1).f9) ((rd_T45 l0 x13_1).f10) ((rd_T45 l0 x13_1).f11)))) else (chanceryref3_ShapesError.j1 k1 l0 x13_1 l0 (l0.length : Int) x13_1 (!t124) ((rd_T45 l0 x13_1).f0) ((rd_T45 l0 x13_1).f1) ((rd_T45 l0 x13_1).f2) ((rd_T45 l0 x13_1).f3) ((rd_T45 l0 x13_1).f4) ((rd_T45 l0 x13_1).f5) ((rd_T45 l0 x13_1).f6) ((rd_T45 l0 x13_1).f7) ((rd_T45 l0 x13_1).f8) ((rd_T45 l0 x13_1).f9) ((rd_T45 l0 x13_1).f10) ((rd_T45 l0 x13_1).f11))) = some r := H
        have A8 := Aside0.mk A80
        clear A80
        have HC9 := Aside0.mk H
        clear H
        have p121 : 0 ≤ (x13_1 : Int) := of_decide_eq_true (by first | (with_reducible assumption) | assumption)
        have q121 : x13_1 < (l0.length : Int) := of_decide_eq_true (by first | (with_reducible assumption) | assumption)
        obtain ⟨ad121, e121, hx121_0, hx121_1, hx121_2, hx121_3, hx121_4, hx121_5, hx121_6, hx121_7, hx121_8, hx121_9, hx121_10, hx121_11⟩ := at_T45 (Kd.C_below HR0.out HB.out) x13_1 p121 q121
        cases e121
        replace p121 := eq_true p121
        replace q121 := eq_true q121
        go_upto_if 23 with (first | ((with_reducible refine gate_dst (N := 4) rfl ?_); refine box_event ?hg (N := 4) ?hd (cs := #[.int .i64 0, .int .i64 0, .int .i64 0, .int .i64 0, .int .i64 0, .int .i64 0, .int .i64 0, .int .i64 0, .int .i64 0, .int .i64 0, .string (⟨#[]⟩ : ByteArray), .string (⟨#[]⟩ : ByteArray)]) (t := 45) ?hr ?_; (case hd => rfl); (case hg => rfl); (case hr => first | (go_simp; done) | (go_simp; rfl)); intro gb122 hg w10 hbox hb; have n0_ := Aside0.mk (below_step (by repeat (first | (with_reducible first | exact HB.out | apply below_alloc | apply pw_below_drewN | apply below_drew1) | exact HB.out)) hb); have n1_ := Aside0.mk (hbox); have n2_ := Aside0.mk ((by rw [hg]; exact (below_size (by repeat (first | (with_reducible first | exact HB.out | apply below_alloc | apply pw_below_drewN | apply below_drew1) | exact HB.out))) : w.heap.size ≤ gb122)); have n3_ := Aside0.mk ((by rw [hg]; exact (below_size (by repeat (first | (with_reducible first | exact HB.out | apply below_alloc | apply pw_below_drewN | apply below_drew1) | exact HB.out))) : w.heap.size ≤ gb122)); clear HB; have HB := n0_; have BK122 := n1_; have GW122 := n2_; have GE122 := n3_; clear n0_ n1_ n2_ n3_; clear hb hbox hg; obtain ⟨hcz11_0, hcz11_1, hcz11_2, hcz11_3, hcz11_4, hcz11_5, hcz11_6, hcz11_7, hcz11_8, hcz11_9, hcz11_10, hcz11_11⟩ := cells12 BK122.out; have hfz11_ := fun j => blk_frozen BK122.out j) | ((with_reducible refine gate_callee (f := 14) rfl ?_); refine goesL_ (some 21) rfl rfl Tryd.func14 (by kernel_rfl) rfl #[.int .i64 ((rd_T45 l0 x13_1).f2), .int .i64 0, .int .i64 7] rfl (by (try simp only [List.map_toArray, List.map_cons, List.map_nil]); first | done | rfl) ?_; (with_reducible refine (chanceryref3_In.calls ((rd_T45 l0 x13_1).f2) 0 7 true _ A6.out).mono ?_); rintro e w' ⟨rfl, ⟨nd, rfl⟩⟩; refine ⟨_, rfl, ?_⟩) | ((with_reducible refine gate_callee (f := 14) rfl ?_); refine goesL_ (some 26) rfl rfl Tryd.func14 (by kernel_rfl) rfl #[.int .i64 ((rd_T45 l0 x13_1).f0), .int .i64 1, .int .i64 1073741824] rfl (by (try simp only [List.map_toArray, List.map_cons, List.map_nil]); first | done | rfl) ?_; (with_reducible refine (chanceryref3_In.calls ((rd_T45 l0 x13_1).f0) 1 1073741824 t124 _ A8.out).mono ?_); rintro e w' ⟨rfl, ⟨nd, rfl⟩⟩; refine ⟨_, rfl, ?_⟩))
        (try simp only [Act.put, List.setIfInBounds_toArray, List.set_cons_zero, List.set_cons_succ])
        go_cut [23] (fun v23 wc => ∃ (kq : Nat) (x23_8 : Bool), v23 = .bool x23_8 ∧ Aside0 (chanceryref3_ShapesError.j1 kq l0 x13_1 l0 (l0.length : Int) x13_1 x23_8 ((rd_T45 l0 x13_1).f0) ((rd_T45 l0 x13_1).f1) ((rd_T45 l0 x13_1).f2) ((rd_T45 l0 x13_1).f3) ((rd_T45 l0 x13_1).f4) ((rd_T45 l0 x13_1).f5) ((rd_T45 l0 x13_1).f6) ((rd_T45 l0 x13_1).f7) ((rd_T45 l0 x13_1).f8) ((rd_T45 l0 x13_1).f9) ((rd_T45 l0 x13_1).f10) ((rd_T45 l0 x13_1).f11) = some r) ∧ Aside0 (kq ≤ k1) ∧ Aside0 (wc.heap[gb122]? = some (.cells #[.int .i64 ((rd_T45 l0 x13_1).f0), .int .i64 ((rd_T45 l0 x13_1).f1), .int .i64 ((rd_T45 l0 x13_1).f2), .int .i64 ((rd_T45 l0 x13_1).f3), .int .i64 ((rd_T45 l0 x13_1).f4), .int .i64 ((rd_T45 l0 x13_1).f5), .int .i64 ((rd_T45 l0 x13_1).f6), .int .i64 ((rd_T45 l0 x13_1).f7), .int .i64 ((rd_T45 l0 x13_1).f8), .int .i64 ((rd_T45 l0 x13_1).f9), .string ((rd_T45 l0 x13_1).f10), .string ((rd_T45 l0 x13_1).f11)] 45 (0, 0))) ∧ Aside0 (Below w.heap.size w wc))
        case first =>
         have H := HC9.out
         clear HC9
         by_cases c12 : t124 = true
         ·subst c12
          have H1 : ((chanceryref3_In.f ((rd_T45 l0 x13_1).f1) 0 1073741824).bind fun t125 => (if t125 = true then ((chanceryref3_In.f ((rd_T45 l0 x13_1).f8) 0 1073741824).bind fun t126 => (if t126 = true then ((chanceryref3_In.f ((rd_T45 l0 x13_1).f9) 0 1073741824).bind fun t127 => (chanceryref3_ShapesError.j1 k1 l0 x13_1 l0 (l0.length : Int) x13_1 (!t127) ((rd_T45 l0 x13_1).f0) ((rd_T45 l0 x13_1).f1) ((rd_T45 l0 x13_1).f2) ((rd_T45 l0 x13_1).f3) ((rd_T45 l0 x13_1).f4) ((rd_T45 l0 x13_1).f5) ((rd_T45 l0 x13_1).f6) ((rd_T45 l0 x13_1).f7) ((rd_T45 l0 x13_1).f8) ((rd_T45 l0 x13_1).f9) ((rd_T45 l0 x13_1).f10) ((rd_T45 l0 x13_1).f11))) else (chanceryref3_ShapesError.j1 k1 l0 x13_1 l0 (l0.length : Int) x13_1 (!t126) ((rd_T45 l0 x13_1).f0) ((rd_T45 l0 x13_1).f1) ((rd_T45 l0 x13_1).f2) ((rd_T45 l0 x13_1).f3) ((rd_T45 l0 x13_1).f4) ((rd_T45 l0 x13_1).f5) ((rd_T45 l0 x13_1).f6) ((rd_T45 l0 x13_1).f7) ((rd_T45 l0 x13_1).f8) ((rd_T45 l0 x13_1).f9) ((rd_T45 l0 x13_1).f10) ((rd_T45 l0 x13_1).f11)))) else (chanceryref3_ShapesError.j1 k1 l0 x13_1 l0 (l0.length : Int) x13_1 (!t125) ((rd_T45 l0 x13_1).f0) ((rd_T45 l0 x13_1).f1) ((rd_T45 l0 x13_1).f2) ((rd_T45 l0 x13_1).f3) ((rd_T45 l0 x13_1).f4) ((rd_T45 l0 x13_1).f5) ((rd_T45 l0 x13_1).f6) ((rd_T45 l0 x13_1).f7) ((rd_T45 l0 x13_1).f8) ((rd_T45 l0 x13_1).f9) ((rd_T45 l0 x13_1).f10) ((rd_T45 l0 x13_1).f11)))) = some r := by rw [if_pos rfl] at H; exact H
          clear H
          have H := H1
          clear H1
          replace H := Option.bind_eq_some_iff.mp H
          obtain ⟨t125, A130, H⟩ := H
          replace H : (if t125 = true then ((chanceryref3_In.f ((rd_T45 l0 x13_1).f8) 0 1073741824).bind fun t126 => (if t126 = true then ((chanceryref3_In.f ((rd_T45 l0 x13_1).f9) 0 1073741824).bind fun t127 => (chanceryref3_ShapesError.j1 k1 l0 x13_1 l0 (l0.length : Int) x13_1 (!t127) ((rd_T45 l0 x13_1).f0) ((rd_T45 l0 x13_1).f1) ((rd_T45 l0 x13_1).f2) ((rd_T45 l0 x13_1).f3) ((rd_T45 l0 x13_1).f4) ((rd_T45 l0 x13_1).f5) ((rd_T45 l0 x13_1).f6) ((rd_T45 l0 x13_1).f7) ((rd_T45 l0 x13_1).f8) ((rd_T45 l0 x13_1).f9) ((rd_T45 l0 x13_1).f10) ((rd_T45 l0 x13_1).f11))) else (chanceryref3_ShapesError.j1 k1 l0 x13_1 l0 (l0.length : Int) x13_1 (!t126) ((rd_T45 l0 x13_1).f0) ((rd_T45 l0 x13_1).f1) ((rd_T45 l0 x13_1).f2) ((rd_T45 l0 x13_1).f3) ((rd_T45 l0 x13_1).f4) ((rd_T45 l0 x13_1).f5) ((rd_T45 l0 x13_1).f6) ((rd_T45 l0 x13_1).f7) ((rd_T45 l0 x13_1).f8) ((rd_T45 l0 x13_1).f9) ((rd_T45 l0 x13_1).f10) ((rd_T45 l0 x13_1).f11)))) else (chanceryref3_ShapesError.j1 k1 l0 x13_1 l0 (l0.length : Int) x13_1 (!t125) ((rd_T45 l0 x13_1).f0) ((rd_T45 l0 x13_1).f1) ((rd_T45 l0 x13_1).f2) ((rd_T45 l0 x13_1).f3) ((rd_T45 l0 x13_1).f4) ((rd_T45 l0 x13_1).f5) ((rd_T45 l0 x13_1).f6) ((rd_T45 l0 x13_1).f7) ((rd_T45 l0 x13_1).f8) ((rd_T45 l0 x13_1).f9) ((rd_T45 l0 x13_1).f10) ((rd_T45 l0 x13_1).f11))) = some r := H
          have A13 := Aside0.mk A130
          clear A130
          by_cases c14 : t125 = true
          ·subst c14
           have H1 : ((chanceryref3_In.f ((rd_T45 l0 x13_1).f8) 0 1073741824).bind fun t126 => (if t126 = true then ((chanceryref3_In.f ((rd_T45 l0 x13_1).f9) 0 1073741824).bind fun t127 => (chanceryref3_ShapesError.j1 k1 l0 x13_1 l0 (l0.length : Int) x13_1 (!t127) ((rd_T45 l0 x13_1).f0) ((rd_T45 l0 x13_1).f1) ((rd_T45 l0 x13_1).f2) ((rd_T45 l0 x13_1).f3) ((rd_T45 l0 x13_1).f4) ((rd_T45 l0 x13_1).f5) ((rd_T45 l0 x13_1).f6) ((rd_T45 l0 x13_1).f7) ((rd_T45 l0 x13_1).f8) ((rd_T45 l0 x13_1).f9) ((rd_T45 l0 x13_1).f10) ((rd_T45 l0 x13_1).f11))) else (chanceryref3_ShapesError.j1 k1 l0 x13_1 l0 (l0.length : Int) x13_1 (!t126) ((rd_T45 l0 x13_1).f0) ((rd_T45 l0 x13_1).f1) ((rd_T45 l0 x13_1).f2) ((rd_T45 l0 x13_1).f3) ((rd_T45 l0 x13_1).f4) ((rd_T45 l0 x13_1).f5) ((rd_T45 l0 x13_1).f6) ((rd_T45 l0 x13_1).f7) ((rd_T45 l0 x13_1).f8) ((rd_T45 l0 x13_1).f9) ((rd_T45 l0 x13_1).f10) ((rd_T45 l0 x13_1).f11)))) = some r := by rw [if_pos rfl] at H; exact H
           clear H
           have H := H1
           clear H1
           replace H := Option.bind_eq_some_iff.mp H
           obtain ⟨t126, A150, H⟩ := H
           replace H : (if t126 = true then ((chanceryref3_In.f ((rd_T45 l0 x13_1).f9) 0 1073741824).bind fun t127 => (chanceryref3_ShapesError.j1 k1 l0 x13_1 l0 (l0.length : Int) x13_1 (!t127) ((rd_T45 l0 x13_1).f0) ((rd_T45 l0 x13_1).f1) ((rd_T45 l0 x13_1).f2) ((rd_T45 l0 x13_1).f3) ((rd_T45 l0 x13_1).f4) ((rd_T45 l0 x13_1).f5) ((rd_T45 l0 x13_1).f6) ((rd_T45 l0 x13_1).f7) ((rd_T45 l0 x13_1).f8) ((rd_T45 l0 x13_1).f9) ((rd_T45 l0 x13_1).f10) ((rd_T45 l0 x13_1).f11))) else (chanceryref3_ShapesError.j1 k1 l0 x13_1 l0 (l0.length : Int) x13_1 (!t126) ((rd_T45 l0 x13_1).f0) ((rd_T45 l0 x13_1).f1) ((rd_T45 l0 x13_1).f2) ((rd_T45 l0 x13_1).f3) ((rd_T45 l0 x13_1).f4) ((rd_T45 l0 x13_1).f5) ((rd_T45 l0 x13_1).f6) ((rd_T45 l0 x13_1).f7) ((rd_T45 l0 x13_1).f8) ((rd_T45 l0 x13_1).f9) ((rd_T45 l0 x13_1).f10) ((rd_T45 l0 x13_1).f11))) = some r := H
           have A15 := Aside0.mk A150
           clear A150
           by_cases c16 : t126 = true
           ·subst c16
            have H1 : ((chanceryref3_In.f ((rd_T45 l0 x13_1).f9) 0 1073741824).bind fun t127 => (chanceryref3_ShapesError.j1 k1 l0 x13_1 l0 (l0.length : Int) x13_1 (!t127) ((rd_T45 l0 x13_1).f0) ((rd_T45 l0 x13_1).f1) ((rd_T45 l0 x13_1).f2) ((rd_T45 l0 x13_1).f3) ((rd_T45 l0 x13_1).f4) ((rd_T45 l0 x13_1).f5) ((rd_T45 l0 x13_1).f6) ((rd_T45 l0 x13_1).f7) ((rd_T45 l0 x13_1).f8) ((rd_T45 l0 x13_1).f9) ((rd_T45 l0 x13_1).f10) ((rd_T45 l0 x13_1).f11))) = some r := by rw [if_pos rfl] at H; exact H
            clear H
            have H := H1
            clear H1
            replace H := Option.bind_eq_some_iff.mp H
            obtain ⟨t127, A170, H⟩ := H
            replace H : (chanceryref3_ShapesError.j1 k1 l0 x13_1 l0 (l0.length : Int) x13_1 (!t127) ((rd_T45 l0 x13_1).f0) ((rd_T45 l0 x13_1).f1) ((rd_T45 l0 x13_1).f2) ((rd_T45 l0 x13_1).f3) ((rd_T45 l0 x13_1).f4) ((rd_T45 l0 x13_1).f5) ((rd_T45 l0 x13_1).f6) ((rd_T45 l0 x13_1).f7) ((rd_T45 l0 x13_1).f8) ((rd_T45 l0 x13_1).f9) ((rd_T45 l0 x13_1).f10) ((rd_T45 l0 x13_1).f11)) = some r := H
            have A17 := Aside0.mk A170
            clear A170
            have H' := Aside0.mk H
            clear H
            obtain ⟨hcz18_0, hcz18_1, hcz18_2, hcz18_3, hcz18_4, hcz18_5, hcz18_6, hcz18_7, hcz18_8, hcz18_9, hcz18_10, hcz18_11⟩ := cells12 BK122.out
            have hfz18_ := fun j => blk_frozen BK122.out j
            go_wp2_with (first | ((with_reducible refine gate_callee (f := 14) rfl ?_); refine goesL_ (some 30) rfl rfl Tryd.func14 (by kernel_rfl) rfl #[.int .i64 ((rd_T45 l0 x13_1).f1), .int .i64 0, .int .i64 1073741824] rfl (by (try simp only [List.map_toArray, List.map_cons, List.map_nil]); first | done | rfl) ?_; (with_reducible refine (chanceryref3_In.calls ((rd_T45 l0 x13_1).f1) 0 1073741824 true _ A13.out).mono ?_); rintro e w' ⟨rfl, ⟨nd, rfl⟩⟩; refine ⟨_, rfl, ?_⟩) | ((with_reducible refine gate_callee (f := 14) rfl ?_); refine goesL_ (some 34) rfl rfl Tryd.func14 (by kernel_rfl) rfl #[.int .i64 ((rd_T45 l0 x13_1).f8), .int .i64 0, .int .i64 1073741824] rfl (by (try simp only [List.map_toArray, List.map_cons, List.map_nil]); first | done | rfl) ?_; (with_reducible refine (chanceryref3_In.calls ((rd_T45 l0 x13_1).f8) 0 1073741824 true _ A15.out).mono ?_); rintro e w' ⟨rfl, ⟨nd, rfl⟩⟩; refine ⟨_, rfl, ?_⟩) | ((with_reducible refine gate_callee (f := 14) rfl ?_); refine goesL_ (some 38) rfl rfl Tryd.func14 (by kernel_rfl) rfl #[.int .i64 ((rd_T45 l0 x13_1).f9), .int .i64 0, .int .i64 1073741824] rfl (by (try simp only [List.map_toArray, List.map_cons, List.map_nil]); first | done | rfl) ?_; (with_reducible refine (chanceryref3_In.calls ((rd_T45 l0 x13_1).f9) 0 1073741824 t127 _ A17.out).mono ?_); rintro e w' ⟨rfl, ⟨nd, rfl⟩⟩; refine ⟨_, rfl, ?_⟩))
            go_meet
            case rel => exact ⟨_, (!t127), (by first | rfl | (simp; done) | (simp [*]; done)), H', ⟨by have := HK1.out; first | omega | exact Nat.le_refl _⟩, ⟨by (with_reducible repeat (first | refine blk_drewN ?_ _ | refine blk_drew ?_ | refine blk_alloc ?_ _)); refine blk_put (cs := #[.int .i64 ((rd_T45 l0 x13_1).f0), .int .i64 ((rd_T45 l0 x13_1).f1), .int .i64 ((rd_T45 l0 x13_1).f2), .int .i64 ((rd_T45 l0 x13_1).f3), .int .i64 ((rd_T45 l0 x13_1).f4), .int .i64 ((rd_T45 l0 x13_1).f5), .int .i64 ((rd_T45 l0 x13_1).f6), .int .i64 ((rd_T45 l0 x13_1).f7), .int .i64 ((rd_T45 l0 x13_1).f8), .int .i64 ((rd_T45 l0 x13_1).f9), .string ((rd_T45 l0 x13_1).f10), .string (⟨#[]⟩ : ByteArray)]) ?_ 11 _ rfl; (with_reducible repeat (first | refine blk_drewN ?_ _ | refine blk_drew ?_ | refine blk_alloc ?_ _)); refine blk_put (cs := #[.int .i64 ((rd_T45 l0 x13_1).f0), .int .i64 ((rd_T45 l0 x13_1).f1), .int .i64 ((rd_T45 l0 x13_1).f2), .int .i64 ((rd_T45 l0 x13_1).f3), .int .i64 ((rd_T45 l0 x13_1).f4), .int .i64 ((rd_T45 l0 x13_1).f5), .int .i64 ((rd_T45 l0 x13_1).f6), .int .i64 ((rd_T45 l0 x13_1).f7), .int .i64 ((rd_T45 l0 x13_1).f8), .int .i64 ((rd_T45 l0 x13_1).f9), .string (⟨#[]⟩ : ByteArray), .string (⟨#[]⟩ : ByteArray)]) ?_ 10 _ rfl; (with_reducible repeat (first | refine blk_drewN ?_ _ | refine blk_drew ?_ | refine blk_alloc ?_ _)); refine blk_put (cs := #[.int .i64 ((rd_T45 l0 x13_1).f0), .int .i64 ((rd_T45 l0 x13_1).f1), .int .i64 ((rd_T45 l0 x13_1).f2), .int .i64 ((rd_T45 l0 x13_1).f3), .int .i64 ((rd_T45 l0 x13_1).f4), .int .i64 ((rd_T45 l0 x13_1).f5), .int .i64 ((rd_T45 l0 x13_1).f6), .int .i64 ((rd_T45 l0 x13_1).f7), .int .i64 ((rd_T45 l0 x13_1).f8), .int .i64 0, .string (⟨#[]⟩ : ByteArray), .string (⟨#[]⟩ : ByteArray)]) ?_ 9 _ rfl; (with_reducible repeat (first | refine blk_drewN ?_ _ | refine blk_drew ?_ | refine blk_alloc ?_ _)); refine blk_put (cs := #[.int .i64 ((rd_T45 l0 x13_1).f0), .int .i64 ((rd_T45 l0 x13_1).f1), .int .i64 ((rd_T45 l0 x13_1).f2), .int .i64 ((rd_T45 l0 x13_1).f3), .int .i64 ((rd_T45 l0 x13_1).f4), .int .i64 ((rd_T45 l0 x13_1).f5), .int .i64 ((rd_T45 l0 x13_1).f6), .int .i64 ((rd_T45 l0 x13_1).f7), .int .i64 0, .int .i64 0, .string (⟨#[]⟩ : ByteArray), .string (⟨#[]⟩ : ByteArray)]) ?_ 8 _ rfl; (with_reducible repeat (first | refine blk_drewN ?_ _ | refine blk_drew ?_ | refine blk_alloc ?_ _)); refine blk_put (cs := #[.int .i64 ((rd_T45 l0 x13_1).f0), .int .i64 ((rd_T45 l0 x13_1).f1), .int .i64 ((rd_T45 l0 x13_1).f2), .int .i64 ((rd_T45 l0 x13_1).f3), .int .i64 ((rd_T45 l0 x13_1).f4), .int .i64 ((rd_T45 l0 x13_1).f5), .int .i64 ((rd_T45 l0 x13_1).f6), .int .i64 0, .int .i64 0, .int .i64 0, .string (⟨#[]⟩ : ByteArray), .string (⟨#[]⟩ : ByteArray)]) ?_ 7 _ rfl; (with_reducible repeat (first | refine blk_drewN ?_ _ | refine blk_drew ?_ | refine blk_alloc ?_ _)); refine blk_put (cs := #[.int .i64 ((rd_T45 l0 x13_1).f0), .int .i64 ((rd_T45 l0 x13_1).f1), .int .i64 ((rd_T45 l0 x13_1).f2), .int .i64 ((rd_T45 l0 x13_1).f3), .int .i64 ((rd_T45 l0 x13_1).f4), .int .i64 ((rd_T45 l0 x13_1).f5), .int .i64 0, .int .i64 0, .int .i64 0, .int .i64 0, .string (⟨#[]⟩ : ByteArray), .string (⟨#[]⟩ : ByteArray)]) ?_ 6 _ rfl; (with_reducible repeat (first | refine blk_drewN ?_ _ | refine blk_drew ?_ | refine blk_alloc ?_ _)); refine blk_put (cs := #[.int .i64 ((rd_T45 l0 x13_1).f0), .int .i64 ((rd_T45 l0 x13_1).f1), .int .i64 ((rd_T45 l0 x13_1).f2), .int .i64 ((rd_T45 l0 x13_1).f3), .int .i64 ((rd_T45 l0 x13_1).f4), .int .i64 0, .int .i64 0, .int .i64 0, .int .i64 0, .int .i64 0, .string (⟨#[]⟩ : ByteArray), .string (⟨#[]⟩ : ByteArray)]) ?_ 5 _ rfl; (with_reducible repeat (first | refine blk_drewN ?_ _ | refine blk_drew ?_ | refine blk_alloc ?_ _)); refine blk_put (cs := #[.int .i64 ((rd_T45 l0 x13_1).f0), .int .i64 ((rd_T45 l0 x13_1).f1), .int .i64 ((rd_T45 l0 x13_1).f2), .int .i64 ((rd_T45 l0 x13_1).f3), .int .i64 0, .int .i64 0, .int .i64 0, .int .i64 0, .int .i64 0, .int .i64 0, .string (⟨#[]⟩ : ByteArray), .string (⟨#[]⟩ : ByteArray)]) ?_ 4 _ rfl; (with_reducible repeat (first | refine blk_drewN ?_ _ | refine blk_drew ?_ | refine blk_alloc ?_ _)); refine blk_put (cs := #[.int .i64 ((rd_T45 l0 x13_1).f0), .int .i64 ((rd_T45 l0 x13_1).f1), .int .i64 ((rd_T45 l0 x13_1).f2), .int .i64 0, .int .i64 0, .int .i64 0, .int .i64 0, .int .i64 0, .int .i64 0, .int .i64 0, .string (⟨#[]⟩ : ByteArray), .string (⟨#[]⟩ : ByteArray)]) ?_ 3 _ rfl; (with_reducible repeat (first | refine blk_drewN ?_ _ | refine blk_drew ?_ | refine blk_alloc ?_ _)); refine blk_put (cs := #[.int .i64 ((rd_T45 l0 x13_1).f0), .int .i64 ((rd_T45 l0 x13_1).f1), .int .i64 0, .int .i64 0, .int .i64 0, .int .i64 0, .int .i64 0, .int .i64 0, .int .i64 0, .int .i64 0, .string (⟨#[]⟩ : ByteArray), .string (⟨#[]⟩ : ByteArray)]) ?_ 2 _ rfl; (with_reducible repeat (first | refine blk_drewN ?_ _ | refine blk_drew ?_ | refine blk_alloc ?_ _)); refine blk_put (cs := #[.int .i64 ((rd_T45 l0 x13_1).f0), .int .i64 0, .int .i64 0, .int .i64 0, .int .i64 0, .int .i64 0, .int .i64 0, .int .i64 0, .int .i64 0, .int .i64 0, .string (⟨#[]⟩ : ByteArray), .string (⟨#[]⟩ : ByteArray)]) ?_ 1 _ rfl; (with_reducible repeat (first | refine blk_drewN ?_ _ | refine blk_drew ?_ | refine blk_alloc ?_ _)); refine blk_put (cs := #[.int .i64 0, .int .i64 0, .int .i64 0, .int .i64 0, .int .i64 0, .int .i64 0, .int .i64 0, .int .i64 0, .int .i64 0, .int .i64 0, .string (⟨#[]⟩ : ByteArray), .string (⟨#[]⟩ : ByteArray)]) ?_ 0 _ rfl; (with_reducible repeat (first | refine blk_drewN ?_ _ | refine blk_drew ?_ | refine blk_alloc ?_ _)); exact BK122.out⟩, ⟨by repeat (first | (with_reducible first | exact HB.out | apply below_alloc | apply pw_below_drewN | apply below_drew1 | refine below_set ?_ GE122.out) | exact HB.out)⟩⟩
           ·replace c16 := Bool.eq_false_iff.mpr c16
            subst c16
            have H1 : (chanceryref3_ShapesError.j1 k1 l0 x13_1 l0 (l0.length : Int) x13_1 (!false) ((rd_T45 l0 x13_1).f0) ((rd_T45 l0 x13_1).f1) ((rd_T45 l0 x13_1).f2) ((rd_T45 l0 x13_1).f3) ((rd_T45 l0 x13_1).f4) ((rd_T45 l0 x13_1).f5) ((rd_T45 l0 x13_1).f6) ((rd_T45 l0 x13_1).f7) ((rd_T45 l0 x13_1).f8) ((rd_T45 l0 x13_1).f9) ((rd_T45 l0 x13_1).f10) ((rd_T45 l0 x13_1).f11)) = some r := by rw [if_neg (show ¬ (false = true) by decide)] at H; exact H
            clear H
            have H := H1
            clear H1
            have H' := Aside0.mk H
            clear H
            obtain ⟨hcz19_0, hcz19_1, hcz19_2, hcz19_3, hcz19_4, hcz19_5, hcz19_6, hcz19_7, hcz19_8, hcz19_9, hcz19_10, hcz19_11⟩ := cells12 BK122.out
            have hfz19_ := fun j => blk_frozen BK122.out j
            go_wp2_with (first | ((with_reducible refine gate_callee (f := 14) rfl ?_); refine goesL_ (some 30) rfl rfl Tryd.func14 (by kernel_rfl) rfl #[.int .i64 ((rd_T45 l0 x13_1).f1), .int .i64 0, .int .i64 1073741824] rfl (by (try simp only [List.map_toArray, List.map_cons, List.map_nil]); first | done | rfl) ?_; (with_reducible refine (chanceryref3_In.calls ((rd_T45 l0 x13_1).f1) 0 1073741824 true _ A13.out).mono ?_); rintro e w' ⟨rfl, ⟨nd, rfl⟩⟩; refine ⟨_, rfl, ?_⟩) | ((with_reducible refine gate_callee (f := 14) rfl ?_); refine goesL_ (some 34) rfl rfl Tryd.func14 (by kernel_rfl) rfl #[.int .i64 ((rd_T45 l0 x13_1).f8), .int .i64 0, .int .i64 1073741824] rfl (by (try simp only [List.map_toArray, List.map_cons, List.map_nil]); first | done | rfl) ?_; (with_reducible refine (chanceryref3_In.calls ((rd_T45 l0 x13_1).f8) 0 1073741824 false _ A15.out).mono ?_); rintro e w' ⟨rfl, ⟨nd, rfl⟩⟩; refine ⟨_, rfl, ?_⟩))
            go_meet
            case rel => exact ⟨_, (!false), (by first | rfl | (simp; done) | (simp [*]; done)), H', ⟨by have := HK1.out; first | omega | exact Nat.le_refl _⟩, ⟨by (with_reducible repeat (first | refine blk_drewN ?_ _ | refine blk_drew ?_ | refine blk_alloc ?_ _)); refine blk_put (cs := #[.int .i64 ((rd_T45 l0 x13_1).f0), .int .i64 ((rd_T45 l0 x13_1).f1), .int .i64 ((rd_T45 l0 x13_1).f2), .int .i64 ((rd_T45 l0 x13_1).f3), .int .i64 ((rd_T45 l0 x13_1).f4), .int .i64 ((rd_T45 l0 x13_1).f5), .int .i64 ((rd_T45 l0 x13_1).f6), .int .i64 ((rd_T45 l0 x13_1).f7), .int .i64 ((rd_T45 l0 x13_1).f8), .int .i64 ((rd_T45 l0 x13_1).f9), .string ((rd_T45 l0 x13_1).f10), .string (⟨#[]⟩ : ByteArray)]) ?_ 11 _ rfl; (with_reducible repeat (first | refine blk_drewN ?_ _ | refine blk_drew ?_ | refine blk_alloc ?_ _)); refine blk_put (cs := #[.int .i64 ((rd_T45 l0 x13_1).f0), .int .i64 ((rd_T45 l0 x13_1).f1), .int .i64 ((rd_T45 l0 x13_1).f2), .int .i64 ((rd_T45 l0 x13_1).f3), .int .i64 ((rd_T45 l0 x13_1).f4), .int .i64 ((rd_T45 l0 x13_1).f5), .int .i64 ((rd_T45 l0 x13_1).f6), .int .i64 ((rd_T45 l0 x13_1).f7), .int .i64 ((rd_T45 l0 x13_1).f8), .int .i64 ((rd_T45 l0 x13_1).f9), .string (⟨#[]⟩ : ByteArray), .string (⟨#[]⟩ : ByteArray)]) ?_ 10 _ rfl; (with_reducible repeat (first | refine blk_drewN ?_ _ | refine blk_drew ?_ | refine blk_alloc ?_ _)); refine blk_put (cs := #[.int .i64 ((rd_T45 l0 x13_1).f0), .int .i64 ((rd_T45 l0 x13_1).f1), .int .i64 ((rd_T45 l0 x13_1).f2), .int .i64 ((rd_T45 l0 x13_1).f3), .int .i64 ((rd_T45 l0 x13_1).f4), .int .i64 ((rd_T45 l0 x13_1).f5), .int .i64 ((rd_T45 l0 x13_1).f6), .int .i64 ((rd_T45 l0 x13_1).f7), .int .i64 ((rd_T45 l0 x13_1).f8), .int .i64 0, .string (⟨#[]⟩ : ByteArray), .string (⟨#[]⟩ : ByteArray)]) ?_ 9 _ rfl; (with_reducible repeat (first | refine blk_drewN ?_ _ | refine blk_drew ?_ | refine blk_alloc ?_ _)); refine blk_put (cs := #[.int .i64 ((rd_T45 l0 x13_1).f0), .int .i64 ((rd_T45 l0 x13_1).f1), .int .i64 ((rd_T45 l0 x13_1).f2), .int .i64 ((rd_T45 l0 x13_1).f3), .int .i64 ((rd_T45 l0 x13_1).f4), .int .i64 ((rd_T45 l0 x13_1).f5), .int .i64 ((rd_T45 l0 x13_1).f6), .int .i64 ((rd_T45 l0 x13_1).f7), .int .i64 0, .int .i64 0, .string (⟨#[]⟩ : ByteArray), .string (⟨#[]⟩ : ByteArray)]) ?_ 8 _ rfl; (with_reducible repeat (first | refine blk_drewN ?_ _ | refine blk_drew ?_ | refine blk_alloc ?_ _)); refine blk_put (cs := #[.int .i64 ((rd_T45 l0 x13_1).f0), .int .i64 ((rd_T45 l0 x13_1).f1), .int .i64 ((rd_T45 l0 x13_1).f2), .int .i64 ((rd_T45 l0 x13_1).f3), .int .i64 ((rd_T45 l0 x13_1).f4), .int .i64 ((rd_T45 l0 x13_1).f5), .int .i64 ((rd_T45 l0 x13_1).f6), .int .i64 0, .int .i64 0, .int .i64 0, .string (⟨#[]⟩ : ByteArray), .string (⟨#[]⟩ : ByteArray)]) ?_ 7 _ rfl; (with_reducible repeat (first | refine blk_drewN ?_ _ | refine blk_drew ?_ | refine blk_alloc ?_ _)); refine blk_put (cs := #[.int .i64 ((rd_T45 l0 x13_1).f0), .int .i64 ((rd_T45 l0 x13_1).f1), .int .i64 ((rd_T45 l0 x13_1).f2), .int .i64 ((rd_T45 l0 x13_1).f3), .int .i64 ((rd_T45 l0 x13_1).f4), .int .i64 ((rd_T45 l0 x13_1).f5), .int .i64 0, .int .i64 0, .int .i64 0, .int .i64 0, .string (⟨#[]⟩ : ByteArray), .string (⟨#[]⟩ : ByteArray)]) ?_ 6 _ rfl; (with_reducible repeat (first | refine blk_drewN ?_ _ | refine blk_drew ?_ | refine blk_alloc ?_ _)); refine blk_put (cs := #[.int .i64 ((rd_T45 l0 x13_1).f0), .int .i64 ((rd_T45 l0 x13_1).f1), .int .i64 ((rd_T45 l0 x13_1).f2), .int .i64 ((rd_T45 l0 x13_1).f3), .int .i64 ((rd_T45 l0 x13_1).f4), .int .i64 0, .int .i64 0, .int .i64 0, .int .i64 0, .int .i64 0, .string (⟨#[]⟩ : ByteArray), .string (⟨#[]⟩ : ByteArray)]) ?_ 5 _ rfl; (with_reducible repeat (first | refine blk_drewN ?_ _ | refine blk_drew ?_ | refine blk_alloc ?_ _)); refine blk_put (cs := #[.int .i64 ((rd_T45 l0 x13_1).f0), .int .i64 ((rd_T45 l0 x13_1).f1), .int .i64 ((rd_T45 l0 x13_1).f2), .int .i64 ((rd_T45 l0 x13_1).f3), .int .i64 0, .int .i64 0, .int .i64 0, .int .i64 0, .int .i64 0, .int .i64 0, .string (⟨#[]⟩ : ByteArray), .string (⟨#[]⟩ : ByteArray)]) ?_ 4 _ rfl; (with_reducible repeat (first | refine blk_drewN ?_ _ | refine blk_drew ?_ | refine blk_alloc ?_ _)); refine blk_put (cs := #[.int .i64 ((rd_T45 l0 x13_1).f0), .int .i64 ((rd_T45 l0 x13_1).f1), .int .i64 ((rd_T45 l0 x13_1).f2), .int .i64 0, .int .i64 0, .int .i64 0, .int .i64 0, .int .i64 0, .int .i64 0, .int .i64 0, .string (⟨#[]⟩ : ByteArray), .string (⟨#[]⟩ : ByteArray)]) ?_ 3 _ rfl; (with_reducible repeat (first | refine blk_drewN ?_ _ | refine blk_drew ?_ | refine blk_alloc ?_ _)); refine blk_put (cs := #[.int .i64 ((rd_T45 l0 x13_1).f0), .int .i64 ((rd_T45 l0 x13_1).f1), .int .i64 0, .int .i64 0, .int .i64 0, .int .i64 0, .int .i64 0, .int .i64 0, .int .i64 0, .int .i64 0, .string (⟨#[]⟩ : ByteArray), .string (⟨#[]⟩ : ByteArray)]) ?_ 2 _ rfl; (with_reducible repeat (first | refine blk_drewN ?_ _ | refine blk_drew ?_ | refine blk_alloc ?_ _)); refine blk_put (cs := #[.int .i64 ((rd_T45 l0 x13_1).f0), .int .i64 0, .int .i64 0, .int .i64 0, .int .i64 0, .int .i64 0, .int .i64 0, .int .i64 0, .int .i64 0, .int .i64 0, .string (⟨#[]⟩ : ByteArray), .string (⟨#[]⟩ : ByteArray)]) ?_ 1 _ rfl; (with_reducible repeat (first | refine blk_drewN ?_ _ | refine blk_drew ?_ | refine blk_alloc ?_ _)); refine blk_put (cs := #[.int .i64 0, .int .i64 0, .int .i64 0, .int .i64 0, .int .i64 0, .int .i64 0, .int .i64 0, .int .i64 0, .int .i64 0, .int .i64 0, .string (⟨#[]⟩ : ByteArray), .string (⟨#[]⟩ : ByteArray)]) ?_ 0 _ rfl; (with_reducible repeat (first | refine blk_drewN ?_ _ | refine blk_drew ?_ | refine blk_alloc ?_ _)); exact BK122.out⟩, ⟨by repeat (first | (with_reducible first | exact HB.out | apply below_alloc | apply pw_below_drewN | apply below_drew1 | refine below_set ?_ GE122.out) | exact HB.out)⟩⟩
          ·replace c14 := Bool.eq_false_iff.mpr c14
           subst c14
           have H1 : (chanceryref3_ShapesError.j1 k1 l0 x13_1 l0 (l0.length : Int) x13_1 (!false) ((rd_T45 l0 x13_1).f0) ((rd_T45 l0 x13_1).f1) ((rd_T45 l0 x13_1).f2) ((rd_T45 l0 x13_1).f3) ((rd_T45 l0 x13_1).f4) ((rd_T45 l0 x13_1).f5) ((rd_T45 l0 x13_1).f6) ((rd_T45 l0 x13_1).f7) ((rd_T45 l0 x13_1).f8) ((rd_T45 l0 x13_1).f9) ((rd_T45 l0 x13_1).f10) ((rd_T45 l0 x13_1).f11)) = some r := by rw [if_neg (show ¬ (false = true) by decide)] at H; exact H
           clear H
           have H := H1
           clear H1
           have H' := Aside0.mk H
           clear H
           obtain ⟨hcz20_0, hcz20_1, hcz20_2, hcz20_3, hcz20_4, hcz20_5, hcz20_6, hcz20_7, hcz20_8, hcz20_9, hcz20_10, hcz20_11⟩ := cells12 BK122.out
           have hfz20_ := fun j => blk_frozen BK122.out j
           go_wp2_with (first | ((with_reducible refine gate_callee (f := 14) rfl ?_); refine goesL_ (some 30) rfl rfl Tryd.func14 (by kernel_rfl) rfl #[.int .i64 ((rd_T45 l0 x13_1).f1), .int .i64 0, .int .i64 1073741824] rfl (by (try simp only [List.map_toArray, List.map_cons, List.map_nil]); first | done | rfl) ?_; (with_reducible refine (chanceryref3_In.calls ((rd_T45 l0 x13_1).f1) 0 1073741824 false _ A13.out).mono ?_); rintro e w' ⟨rfl, ⟨nd, rfl⟩⟩; refine ⟨_, rfl, ?_⟩))
           go_meet
           case rel => exact ⟨_, (!false), (by first | rfl | (simp; done) | (simp [*]; done)), H', ⟨by have := HK1.out; first | omega | exact Nat.le_refl _⟩, ⟨by (with_reducible repeat (first | refine blk_drewN ?_ _ | refine blk_drew ?_ | refine blk_alloc ?_ _)); refine blk_put (cs := #[.int .i64 ((rd_T45 l0 x13_1).f0), .int .i64 ((rd_T45 l0 x13_1).f1), .int .i64 ((rd_T45 l0 x13_1).f2), .int .i64 ((rd_T45 l0 x13_1).f3), .int .i64 ((rd_T45 l0 x13_1).f4), .int .i64 ((rd_T45 l0 x13_1).f5), .int .i64 ((rd_T45 l0 x13_1).f6), .int .i64 ((rd_T45 l0 x13_1).f7), .int .i64 ((rd_T45 l0 x13_1).f8), .int .i64 ((rd_T45 l0 x13_1).f9), .string ((rd_T45 l0 x13_1).f10), .string (⟨#[]⟩ : ByteArray)]) ?_ 11 _ rfl; (with_reducible repeat (first | refine blk_drewN ?_ _ | refine blk_drew ?_ | refine blk_alloc ?_ _)); refine blk_put (cs := #[.int .i64 ((rd_T45 l0 x13_1).f0), .int .i64 ((rd_T45 l0 x13_1).f1), .int .i64 ((rd_T45 l0 x13_1).f2), .int .i64 ((rd_T45 l0 x13_1).f3), .int .i64 ((rd_T45 l0 x13_1).f4), .int .i64 ((rd_T45 l0 x13_1).f5), .int .i64 ((rd_T45 l0 x13_1).f6), .int .i64 ((rd_T45 l0 x13_1).f7), .int .i64 ((rd_T45 l0 x13_1).f8), .int .i64 ((rd_T45 l0 x13_1).f9), .string (⟨#[]⟩ : ByteArray), .string (⟨#[]⟩ : ByteArray)]) ?_ 10 _ rfl; (with_reducible repeat (first | refine blk_drewN ?_ _ | refine blk_drew ?_ | refine blk_alloc ?_ _)); refine blk_put (cs := #[.int .i64 ((rd_T45 l0 x13_1).f0), .int .i64 ((rd_T45 l0 x13_1).f1), .int .i64 ((rd_T45 l0 x13_1).f2), .int .i64 ((rd_T45 l0 x13_1).f3), .int .i64 ((rd_T45 l0 x13_1).f4), .int .i64 ((rd_T45 l0 x13_1).f5), .int .i64 ((rd_T45 l0 x13_1).f6), .int .i64 ((rd_T45 l0 x13_1).f7), .int .i64 ((rd_T45 l0 x13_1).f8), .int .i64 0, .string (⟨#[]⟩ : ByteArray), .string (⟨#[]⟩ : ByteArray)]) ?_ 9 _ rfl; (with_reducible repeat (first | refine blk_drewN ?_ _ | refine blk_drew ?_ | refine blk_alloc ?_ _)); refine blk_put (cs := #[.int .i64 ((rd_T45 l0 x13_1).f0), .int .i64 ((rd_T45 l0 x13_1).f1), .int .i64 ((rd_T45 l0 x13_1).f2), .int .i64 ((rd_T45 l0 x13_1).f3), .int .i64 ((rd_T45 l0 x13_1).f4), .int .i64 ((rd_T45 l0 x13_1).f5), .int .i64 ((rd_T45 l0 x13_1).f6), .int .i64 ((rd_T45 l0 x13_1).f7), .int .i64 0, .int .i64 0, .string (⟨#[]⟩ : ByteArray), .string (⟨#[]⟩ : ByteArray)]) ?_ 8 _ rfl; (with_reducible repeat (first | refine blk_drewN ?_ _ | refine blk_drew ?_ | refine blk_alloc ?_ _)); refine blk_put (cs := #[.int .i64 ((rd_T45 l0 x13_1).f0), .int .i64 ((rd_T45 l0 x13_1).f1), .int .i64 ((rd_T45 l0 x13_1).f2), .int .i64 ((rd_T45 l0 x13_1).f3), .int .i64 ((rd_T45 l0 x13_1).f4), .int .i64 ((rd_T45 l0 x13_1).f5), .int .i64 ((rd_T45 l0 x13_1).f6), .int .i64 0, .int .i64 0, .int .i64 0, .string (⟨#[]⟩ : ByteArray), .string (⟨#[]⟩ : ByteArray)]) ?_ 7 _ rfl; (with_reducible repeat (first | refine blk_drewN ?_ _ | refine blk_drew ?_ | refine blk_alloc ?_ _)); refine blk_put (cs := #[.int .i64 ((rd_T45 l0 x13_1).f0), .int .i64 ((rd_T45 l0 x13_1).f1), .int .i64 ((rd_T45 l0 x13_1).f2), .int .i64 ((rd_T45 l0 x13_1).f3), .int .i64 ((rd_T45 l0 x13_1).f4), .int .i64 ((rd_T45 l0 x13_1).f5), .int .i64 0, .int .i64 0, .int .i64 0, .int .i64 0, .string (⟨#[]⟩ : ByteArray), .string (⟨#[]⟩ : ByteArray)]) ?_ 6 _ rfl; (with_reducible repeat (first | refine blk_drewN ?_ _ | refine blk_drew ?_ | refine blk_alloc ?_ _)); refine blk_put (cs := #[.int .i64 ((rd_T45 l0 x13_1).f0), .int .i64 ((rd_T45 l0 x13_1).f1), .int .i64 ((rd_T45 l0 x13_1).f2), .int .i64 ((rd_T45 l0 x13_1).f3), .int .i64 ((rd_T45 l0 x13_1).f4), .int .i64 0, .int .i64 0, .int .i64 0, .int .i64 0, .int .i64 0, .string (⟨#[]⟩ : ByteArray), .string (⟨#[]⟩ : ByteArray)]) ?_ 5 _ rfl; (with_reducible repeat (first | refine blk_drewN ?_ _ | refine blk_drew ?_ | refine blk_alloc ?_ _)); refine blk_put (cs := #[.int .i64 ((rd_T45 l0 x13_1).f0), .int .i64 ((rd_T45 l0 x13_1).f1), .int .i64 ((rd_T45 l0 x13_1).f2), .int .i64 ((rd_T45 l0 x13_1).f3), .int .i64 0, .int .i64 0, .int .i64 0, .int .i64 0, .int .i64 0, .int .i64 0, .string (⟨#[]⟩ : ByteArray), .string (⟨#[]⟩ : ByteArray)]) ?_ 4 _ rfl; (with_reducible repeat (first | refine blk_drewN ?_ _ | refine blk_drew ?_ | refine blk_alloc ?_ _)); refine blk_put (cs := #[.int .i64 ((rd_T45 l0 x13_1).f0), .int .i64 ((rd_T45 l0 x13_1).f1), .int .i64 ((rd_T45 l0 x13_1).f2), .int .i64 0, .int .i64 0, .int .i64 0, .int .i64 0, .int .i64 0, .int .i64 0, .int .i64 0, .string (⟨#[]⟩ : ByteArray), .string (⟨#[]⟩ : ByteArray)]) ?_ 3 _ rfl; (with_reducible repeat (first | refine blk_drewN ?_ _ | refine blk_drew ?_ | refine blk_alloc ?_ _)); refine blk_put (cs := #[.int .i64 ((rd_T45 l0 x13_1).f0), .int .i64 ((rd_T45 l0 x13_1).f1), .int .i64 0, .int .i64 0, .int .i64 0, .int .i64 0, .int .i64 0, .int .i64 0, .int .i64 0, .int .i64 0, .string (⟨#[]⟩ : ByteArray), .string (⟨#[]⟩ : ByteArray)]) ?_ 2 _ rfl; (with_reducible repeat (first | refine blk_drewN ?_ _ | refine blk_drew ?_ | refine blk_alloc ?_ _)); refine blk_put (cs := #[.int .i64 ((rd_T45 l0 x13_1).f0), .int .i64 0, .int .i64 0, .int .i64 0, .int .i64 0, .int .i64 0, .int .i64 0, .int .i64 0, .int .i64 0, .int .i64 0, .string (⟨#[]⟩ : ByteArray), .string (⟨#[]⟩ : ByteArray)]) ?_ 1 _ rfl; (with_reducible repeat (first | refine blk_drewN ?_ _ | refine blk_drew ?_ | refine blk_alloc ?_ _)); refine blk_put (cs := #[.int .i64 0, .int .i64 0, .int .i64 0, .int .i64 0, .int .i64 0, .int .i64 0, .int .i64 0, .int .i64 0, .int .i64 0, .int .i64 0, .string (⟨#[]⟩ : ByteArray), .string (⟨#[]⟩ : ByteArray)]) ?_ 0 _ rfl; (with_reducible repeat (first | refine blk_drewN ?_ _ | refine blk_drew ?_ | refine blk_alloc ?_ _)); exact BK122.out⟩, ⟨by repeat (first | (with_reducible first | exact HB.out | apply below_alloc | apply pw_below_drewN | apply below_drew1 | refine below_set ?_ GE122.out) | exact HB.out)⟩⟩
         ·replace c12 := Bool.eq_false_iff.mpr c12
          subst c12
          have H1 : (chanceryref3_ShapesError.j1 k1 l0 x13_1 l0 (l0.length : Int) x13_1 (!false) ((rd_T45 l0 x13_1).f0) ((rd_T45 l0 x13_1).f1) ((rd_T45 l0 x13_1).f2) ((rd_T45 l0 x13_1).f3) ((rd_T45 l0 x13_1).f4) ((rd_T45 l0 x13_1).f5) ((rd_T45 l0 x13_1).f6) ((rd_T45 l0 x13_1).f7) ((rd_T45 l0 x13_1).f8) ((rd_T45 l0 x13_1).f9) ((rd_T45 l0 x13_1).f10) ((rd_T45 l0 x13_1).f11)) = some r := by rw [if_neg (show ¬ (false = true) by decide)] at H; exact H
          clear H
          have H := H1
          clear H1
          have H' := Aside0.mk H
          clear H
          go_wp2
          go_meet
          case rel => exact ⟨_, (!false), (by first | rfl | (simp; done) | (simp [*]; done)), H', ⟨by have := HK1.out; first | omega | exact Nat.le_refl _⟩, ⟨by (with_reducible repeat (first | refine blk_drewN ?_ _ | refine blk_drew ?_ | refine blk_alloc ?_ _)); refine blk_put (cs := #[.int .i64 ((rd_T45 l0 x13_1).f0), .int .i64 ((rd_T45 l0 x13_1).f1), .int .i64 ((rd_T45 l0 x13_1).f2), .int .i64 ((rd_T45 l0 x13_1).f3), .int .i64 ((rd_T45 l0 x13_1).f4), .int .i64 ((rd_T45 l0 x13_1).f5), .int .i64 ((rd_T45 l0 x13_1).f6), .int .i64 ((rd_T45 l0 x13_1).f7), .int .i64 ((rd_T45 l0 x13_1).f8), .int .i64 ((rd_T45 l0 x13_1).f9), .string ((rd_T45 l0 x13_1).f10), .string (⟨#[]⟩ : ByteArray)]) ?_ 11 _ rfl; (with_reducible repeat (first | refine blk_drewN ?_ _ | refine blk_drew ?_ | refine blk_alloc ?_ _)); refine blk_put (cs := #[.int .i64 ((rd_T45 l0 x13_1).f0), .int .i64 ((rd_T45 l0 x13_1).f1), .int .i64 ((rd_T45 l0 x13_1).f2), .int .i64 ((rd_T45 l0 x13_1).f3), .int .i64 ((rd_T45 l0 x13_1).f4), .int .i64 ((rd_T45 l0 x13_1).f5), .int .i64 ((rd_T45 l0 x13_1).f6), .int .i64 ((rd_T45 l0 x13_1).f7), .int .i64 ((rd_T45 l0 x13_1).f8), .int .i64 ((rd_T45 l0 x13_1).f9), .string (⟨#[]⟩ : ByteArray), .string (⟨#[]⟩ : ByteArray)]) ?_ 10 _ rfl; (with_reducible repeat (first | refine blk_drewN ?_ _ | refine blk_drew ?_ | refine blk_alloc ?_ _)); refine blk_put (cs := #[.int .i64 ((rd_T45 l0 x13_1).f0), .int .i64 ((rd_T45 l0 x13_1).f1), .int .i64 ((rd_T45 l0 x13_1).f2), .int .i64 ((rd_T45 l0 x13_1).f3), .int .i64 ((rd_T45 l0 x13_1).f4), .int .i64 ((rd_T45 l0 x13_1).f5), .int .i64 ((rd_T45 l0 x13_1).f6), .int .i64 ((rd_T45 l0 x13_1).f7), .int .i64 ((rd_T45 l0 x13_1).f8), .int .i64 0, .string (⟨#[]⟩ : ByteArray), .string (⟨#[]⟩ : ByteArray)]) ?_ 9 _ rfl; (with_reducible repeat (first | refine blk_drewN ?_ _ | refine blk_drew ?_ | refine blk_alloc ?_ _)); refine blk_put (cs := #[.int .i64 ((rd_T45 l0 x13_1).f0), .int .i64 ((rd_T45 l0 x13_1).f1), .int .i64 ((rd_T45 l0 x13_1).f2), .int .i64 ((rd_T45 l0 x13_1).f3), .int .i64 ((rd_T45 l0 x13_1).f4), .int .i64 ((rd_T45 l0 x13_1).f5), .int .i64 ((rd_T45 l0 x13_1).f6), .int .i64 ((rd_T45 l0 x13_1).f7), .int .i64 0, .int .i64 0, .string (⟨#[]⟩ : ByteArray), .string (⟨#[]⟩ : ByteArray)]) ?_ 8 _ rfl; (with_reducible repeat (first | refine blk_drewN ?_ _ | refine blk_drew ?_ | refine blk_alloc ?_ _)); refine blk_put (cs := #[.int .i64 ((rd_T45 l0 x13_1).f0), .int .i64 ((rd_T45 l0 x13_1).f1), .int .i64 ((rd_T45 l0 x13_1).f2), .int .i64 ((rd_T45 l0 x13_1).f3), .int .i64 ((rd_T45 l0 x13_1).f4), .int .i64 ((rd_T45 l0 x13_1).f5), .int .i64 ((rd_T45 l0 x13_1).f6), .int .i64 0, .int .i64 0, .int .i64 0, .string (⟨#[]⟩ : ByteArray), .string (⟨#[]⟩ : ByteArray)]) ?_ 7 _ rfl; (with_reducible repeat (first | refine blk_drewN ?_ _ | refine blk_drew ?_ | refine blk_alloc ?_ _)); refine blk_put (cs := #[.int .i64 ((rd_T45 l0 x13_1).f0), .int .i64 ((rd_T45 l0 x13_1).f1), .int .i64 ((rd_T45 l0 x13_1).f2), .int .i64 ((rd_T45 l0 x13_1).f3), .int .i64 ((rd_T45 l0 x13_1).f4), .int .i64 ((rd_T45 l0 x13_1).f5), .int .i64 0, .int .i64 0, .int .i64 0, .int .i64 0, .string (⟨#[]⟩ : ByteArray), .string (⟨#[]⟩ : ByteArray)]) ?_ 6 _ rfl; (with_reducible repeat (first | refine blk_drewN ?_ _ | refine blk_drew ?_ | refine blk_alloc ?_ _)); refine blk_put (cs := #[.int .i64 ((rd_T45 l0 x13_1).f0), .int .i64 ((rd_T45 l0 x13_1).f1), .int .i64 ((rd_T45 l0 x13_1).f2), .int .i64 ((rd_T45 l0 x13_1).f3), .int .i64 ((rd_T45 l0 x13_1).f4), .int .i64 0, .int .i64 0, .int .i64 0, .int .i64 0, .int .i64 0, .string (⟨#[]⟩ : ByteArray), .string (⟨#[]⟩ : ByteArray)]) ?_ 5 _ rfl; (with_reducible repeat (first | refine blk_drewN ?_ _ | refine blk_drew ?_ | refine blk_alloc ?_ _)); refine blk_put (cs := #[.int .i64 ((rd_T45 l0 x13_1).f0), .int .i64 ((rd_T45 l0 x13_1).f1), .int .i64 ((rd_T45 l0 x13_1).f2), .int .i64 ((rd_T45 l0 x13_1).f3), .int .i64 0, .int .i64 0, .int .i64 0, .int .i64 0, .int .i64 0, .int .i64 0, .string (⟨#[]⟩ : ByteArray), .string (⟨#[]⟩ : ByteArray)]) ?_ 4 _ rfl; (with_reducible repeat (first | refine blk_drewN ?_ _ | refine blk_drew ?_ | refine blk_alloc ?_ _)); refine blk_put (cs := #[.int .i64 ((rd_T45 l0 x13_1).f0), .int .i64 ((rd_T45 l0 x13_1).f1), .int .i64 ((rd_T45 l0 x13_1).f2), .int .i64 0, .int .i64 0, .int .i64 0, .int .i64 0, .int .i64 0, .int .i64 0, .int .i64 0, .string (⟨#[]⟩ : ByteArray), .string (⟨#[]⟩ : ByteArray)]) ?_ 3 _ rfl; (with_reducible repeat (first | refine blk_drewN ?_ _ | refine blk_drew ?_ | refine blk_alloc ?_ _)); refine blk_put (cs := #[.int .i64 ((rd_T45 l0 x13_1).f0), .int .i64 ((rd_T45 l0 x13_1).f1), .int .i64 0, .int .i64 0, .int .i64 0, .int .i64 0, .int .i64 0, .int .i64 0, .int .i64 0, .int .i64 0, .string (⟨#[]⟩ : ByteArray), .string (⟨#[]⟩ : ByteArray)]) ?_ 2 _ rfl; (with_reducible repeat (first | refine blk_drewN ?_ _ | refine blk_drew ?_ | refine blk_alloc ?_ _)); refine blk_put (cs := #[.int .i64 ((rd_T45 l0 x13_1).f0), .int .i64 0, .int .i64 0, .int .i64 0, .int .i64 0, .int .i64 0, .int .i64 0, .int .i64 0, .int .i64 0, .int .i64 0, .string (⟨#[]⟩ : ByteArray), .string (⟨#[]⟩ : ByteArray)]) ?_ 1 _ rfl; (with_reducible repeat (first | refine blk_drewN ?_ _ | refine blk_drew ?_ | refine blk_alloc ?_ _)); refine blk_put (cs := #[.int .i64 0, .int .i64 0, .int .i64 0, .int .i64 0, .int .i64 0, .int .i64 0, .int .i64 0, .int .i64 0, .int .i64 0, .int .i64 0, .string (⟨#[]⟩ : ByteArray), .string (⟨#[]⟩ : ByteArray)]) ?_ 0 _ rfl; (with_reducible repeat (first | refine blk_drewN ?_ _ | refine blk_drew ?_ | refine blk_alloc ?_ _)); exact BK122.out⟩, ⟨by repeat (first | (with_reducible first | exact HB.out | apply below_alloc | apply pw_below_drewN | apply below_drew1 | refine below_set ?_ GE122.out) | exact HB.out)⟩⟩
        case rest =>
         clear HC9; try clear c1; try clear p1; try clear q1; try clear hx1; try clear c2; try clear c2b0; try clear c2b1; try clear p2; try clear c3; try clear c3b0; try clear c4; try clear c4b0; try clear c5; try clear c5b0; try clear c7; try clear c9; try clear c12; try clear p12; try clear q12; try clear hx12; try clear c14; try clear c16; try clear hcz11_0; try clear hcz11_1; try clear hcz11_10; try clear hcz11_11; try clear hcz11_2; try clear hcz11_3; try clear hcz11_4; try clear hcz11_5; try clear hcz11_6; try clear hcz11_7; try clear hcz11_8; try clear hcz11_9; try clear hcz18_0; try clear hcz18_1; try clear hcz18_10; try clear hcz18_11; try clear hcz18_2; try clear hcz18_3; try clear hcz18_4; try clear hcz18_5; try clear hcz18_6; try clear hcz18_7; try clear hcz18_8; try clear hcz18_9; try clear hcz19_0; try clear hcz19_1; try clear hcz19_10; try clear hcz19_11; try clear hcz19_2; try clear hcz19_3; try clear hcz19_4; try clear hcz19_5; try clear hcz19_6; try clear hcz19_7; try clear hcz19_8; try clear hcz19_9; try clear hcz20_0; try clear hcz20_1; try clear hcz20_10; try clear hcz20_11; try clear hcz20_2; try clear hcz20_3; try clear hcz20_4; try clear hcz20_5; try clear hcz20_6; try clear hcz20_7; try clear hcz20_8; try clear hcz20_9; try clear hfz11_0; try clear hfz11_1; try clear hfz11_10; try clear hfz11_11; try clear hfz11_2; try clear hfz11_3; try clear hfz11_4; try clear hfz11_5; try clear hfz11_6; try clear hfz11_7; try clear hfz11_8; try clear hfz11_9; try clear hfz18_0; try clear hfz18_1; try clear hfz18_10; try clear hfz18_11; try clear hfz18_2; try clear hfz18_3; try clear hfz18_4; try clear hfz18_5; try clear hfz18_6; try clear hfz18_7; try clear hfz18_8; try clear hfz18_9; try clear hfz19_0; try clear hfz19_1; try clear hfz19_10; try clear hfz19_11; try clear hfz19_2; try clear hfz19_3; try clear hfz19_4; try clear hfz19_5; try clear hfz19_6; try clear hfz19_7; try clear hfz19_8; try clear hfz19_9; try clear hfz20_0; try clear hfz20_1; try clear hfz20_10; try clear hfz20_11; try clear hfz20_2; try clear hfz20_3; try clear hfz20_4; try clear hfz20_5; try clear hfz20_6; try clear hfz20_7; try clear hfz20_8; try clear hfz20_9; try clear hx121_0; try clear hx121_1; try clear hx121_10; try clear hx121_11; try clear hx121_2; try clear hx121_3; try clear hx121_4; try clear hx121_5; try clear hx121_6; try clear hx121_7; try clear hx121_8; try clear hx121_9; try clear p121; try clear q121
         obtain ⟨kq, x23_8, rfl, HA, HJ8, BK122, HB⟩ := hcut
         cases kq with
         | zero => exact absurd HA.out (by simp [chanceryref3_ShapesError.j1])
         | succ kj8 =>
          have H := HA.out
          clear HA
          simp only [chanceryref3_ShapesError.j1] at H
          by_cases c21 : x23_8 = true
          ·subst c21
           have H1 : (some 2) = some r := by rw [if_pos rfl] at H; exact H
           clear H
           have H := H1
           clear H1
           obtain rfl := Option.some.inj H
           go_wp2
           go_ret
           exact ⟨by first | rfl | (simp [errW_none, errW_some] <;> rfl) | (simp [*, errW_none, errW_some] <;> rfl), by repeat (first | (with_reducible first | exact HB.out | apply below_alloc | apply pw_below_drewN | apply below_drew1 | refine below_set ?_ GE122.out) | exact HB.out)⟩
          ·replace c21 := Bool.eq_false_iff.mpr c21
           subst c21
           have H1 : ((chanceryref3_In.f ((rd_T45 l0 x13_1).f3) (-1048576) 1048576).bind fun t128 => (if t128 = true then ((chanceryref3_In.f ((rd_T45 l0 x13_1).f4) (-1048576) 1048576).bind fun t129 => (if t129 = true then ((chanceryref3_In.f ((rd_T45 l0 x13_1).f5) 0 1048576).bind fun t130 => (if t130 = true then ((chanceryref3_In.f ((rd_T45 l0 x13_1).f6) 0 1048576).bind fun t131 => (if t131 = true then ((chanceryref3_In.f ((rd_T45 l0 x13_1).f7) 0 3599).bind fun t132 => (chanceryref3_ShapesError.j2 kj8 l0 x13_1 l0 (l0.length : Int) x13_1 (!t132) ((rd_T45 l0 x13_1).f0) ((rd_T45 l0 x13_1).f1) ((rd_T45 l0 x13_1).f2) ((rd_T45 l0 x13_1).f3) ((rd_T45 l0 x13_1).f4) ((rd_T45 l0 x13_1).f5) ((rd_T45 l0 x13_1).f6) ((rd_T45 l0 x13_1).f7) ((rd_T45 l0 x13_1).f8) ((rd_T45 l0 x13_1).f9) ((rd_T45 l0 x13_1).f10) ((rd_T45 l0 x13_1).f11))) else (chanceryref3_ShapesError.j2 kj8 l0 x13_1 l0 (l0.length : Int) x13_1 (!t131) ((rd_T45 l0 x13_1).f0) ((rd_T45 l0 x13_1).f1) ((rd_T45 l0 x13_1).f2) ((rd_T45 l0 x13_1).f3) ((rd_T45 l0 x13_1).f4) ((rd_T45 l0 x13_1).f5) ((rd_T45 l0 x13_1).f6) ((rd_T45 l0 x13_1).f7) ((rd_T45 l0 x13_1).f8) ((rd_T45 l0 x13_1).f9) ((rd_T45 l0 x13_1).f10) ((rd_T45 l0 x13_1).f11)))) else (chanceryref3_ShapesError.j2 kj8 l0 x13_1 l0 (l0.length : Int) x13_1 (!t130) ((rd_T45 l0 x13_1).f0) ((rd_T45 l0 x13_1).f1) ((rd_T45 l0 x13_1).f2) ((rd_T45 l0 x13_1).f3) ((rd_T45 l0 x13_1).f4) ((rd_T45 l0 x13_1).f5) ((rd_T45 l0 x13_1).f6) ((rd_T45 l0 x13_1).f7) ((rd_T45 l0 x13_1).f8) ((rd_T45 l0 x13_1).f9) ((rd_T45 l0 x13_1).f10) ((rd_T45 l0 x13_1).f11)))) else (chanceryref3_ShapesError.j2 kj8 l0 x13_1 l0 (l0.length : Int) x13_1 (!t129) ((rd_T45 l0 x13_1).f0) ((rd_T45 l0 x13_1).f1) ((rd_T45 l0 x13_1).f2) ((rd_T45 l0 x13_1).f3) ((rd_T45 l0 x13_1).f4) ((rd_T45 l0 x13_1).f5) ((rd_T45 l0 x13_1).f6) ((rd_T45 l0 x13_1).f7) ((rd_T45 l0 x13_1).f8) ((rd_T45 l0 x13_1).f9) ((rd_T45 l0 x13_1).f10) ((rd_T45 l0 x13_1).f11)))) else (chanceryref3_ShapesError.j2 kj8 l0 x13_1 l0 (l0.length : Int) x13_1 (!t128) ((rd_T45 l0 x13_1).f0) ((rd_T45 l0 x13_1).f1) ((rd_T45 l0 x13_1).f2) ((rd_T45 l0 x13_1).f3) ((rd_T45 l0 x13_1).f4) ((rd_T45 l0 x13_1).f5) ((rd_T45 l0 x13_1).f6) ((rd_T45 l0 x13_1).f7) ((rd_T45 l0 x13_1).f8) ((rd_T45 l0 x13_1).f9) ((rd_T45 l0 x13_1).f10) ((rd_T45 l0 x13_1).f11)))) = some r := by rw [if_neg (show ¬ (false = true) by decide)] at H; exact H
           clear H
           have H := H1
           clear H1
           replace H := Option.bind_eq_some_iff.mp H
           obtain ⟨t128, A220, H⟩ := H
           replace H : (if t128 = true then ((chanceryref3_In.f ((rd_T45 l0 x13_1).f4) (-1048576) 1048576).bind fun t129 => (if t129 = true then ((chanceryref3_In.f ((rd_T45 l0 x13_1).f5) 0 1048576).bind fun t130 => (if t130 = true then ((chanceryref3_In.f ((rd_T45 l0 x13_1).f6) 0 1048576).bind fun t131 => (if t131 = true then ((chanceryref3_In.f ((rd_T45 l0 x13_1).f7) 0 3599).bind fun t132 => (chanceryref3_ShapesError.j2 kj8 l0 x13_1 l0 (l0.length : Int) x13_1 (!t132) ((rd_T45 l0 x13_1).f0) ((rd_T45 l0 x13_1).f1) ((rd_T45 l0 x13_1).f2) ((rd_T45 l0 x13_1).f3) ((rd_T45 l0 x13_1).f4) ((rd_T45 l0 x13_1).f5) ((rd_T45 l0 x13_1).f6) ((rd_T45 l0 x13_1).f7) ((rd_T45 l0 x13_1).f8) ((rd_T45 l0 x13_1).f9) ((rd_T45 l0 x13_1).f10) ((rd_T45 l0 x13_1).f11))) else (chanceryref3_ShapesError.j2 kj8 l0 x13_1 l0 (l0.length : Int) x13_1 (!t131) ((rd_T45 l0 x13_1).f0) ((rd_T45 l0 x13_1).f1) ((rd_T45 l0 x13_1).f2) ((rd_T45 l0 x13_1).f3) ((rd_T45 l0 x13_1).f4) ((rd_T45 l0 x13_1).f5) ((rd_T45 l0 x13_1).f6) ((rd_T45 l0 x13_1).f7) ((rd_T45 l0 x13_1).f8) ((rd_T45 l0 x13_1).f9) ((rd_T45 l0 x13_1).f10) ((rd_T45 l0 x13_1).f11)))) else (chanceryref3_ShapesError.j2 kj8 l0 x13_1 l0 (l0.length : Int) x13_1 (!t130) ((rd_T45 l0 x13_1).f0) ((rd_T45 l0 x13_1).f1) ((rd_T45 l0 x13_1).f2) ((rd_T45 l0 x13_1).f3) ((rd_T45 l0 x13_1).f4) ((rd_T45 l0 x13_1).f5) ((rd_T45 l0 x13_1).f6) ((rd_T45 l0 x13_1).f7) ((rd_T45 l0 x13_1).f8) ((rd_T45 l0 x13_1).f9) ((rd_T45 l0 x13_1).f10) ((rd_T45 l0 x13_1).f11)))) else (chanceryref3_ShapesError.j2 kj8 l0 x13_1 l0 (l0.length : Int) x13_1 (!t129) ((rd_T45 l0 x13_1).f0) ((rd_T45 l0 x13_1).f1) ((rd_T45 l0 x13_1).f2) ((rd_T45 l0 x13_1).f3) ((rd_T45 l0 x13_1).f4) ((rd_T45 l0 x13_1).f5) ((rd_T45 l0 x13_1).f6) ((rd_T45 l0 x13_1).f7) ((rd_T45 l0 x13_1).f8) ((rd_T45 l0 x13_1).f9) ((rd_T45 l0 x13_1).f10) ((rd_T45 l0 x13_1).f11)))) else (chanceryref3_ShapesError.j2 kj8 l0 x13_1 l0 (l0.length : Int) x13_1 (!t128) ((rd_T45 l0 x13_1).f0) ((rd_T45 l0 x13_1).f1) ((rd_T45 l0 x13_1).f2) ((rd_T45 l0 x13_1).f3) ((rd_T45 l0 x13_1).f4) ((rd_T45 l0 x13_1).f5) ((rd_T45 l0 x13_1).f6) ((rd_T45 l0 x13_1).f7) ((rd_T45 l0 x13_1).f8) ((rd_T45 l0 x13_1).f9) ((rd_T45 l0 x13_1).f10) ((rd_T45 l0 x13_1).f11))) = some r := H
           have A22 := Aside0.mk A220
           clear A220
           have HC23 := Aside0.mk H
           clear H
           obtain ⟨hcz24_0, hcz24_1, hcz24_2, hcz24_3, hcz24_4, hcz24_5, hcz24_6, hcz24_7, hcz24_8, hcz24_9, hcz24_10, hcz24_11⟩ := cells12 BK122.out
           have hfz24_ := fun j => blk_frozen BK122.out j
           go_upto_if 40 with (first | ((with_reducible refine gate_callee (f := 14) rfl ?_); refine goesL_ (some 43) rfl rfl Tryd.func14 (by kernel_rfl) rfl #[.int .i64 ((rd_T45 l0 x13_1).f3), .int .i64 (-1048576), .int .i64 1048576] rfl (by (try simp only [List.map_toArray, List.map_cons, List.map_nil]); first | done | rfl) ?_; (with_reducible refine (chanceryref3_In.calls ((rd_T45 l0 x13_1).f3) (-1048576) 1048576 t128 _ A22.out).mono ?_); rintro e w' ⟨rfl, ⟨nd, rfl⟩⟩; refine ⟨_, rfl, ?_⟩))
           (try simp only [Act.put, List.setIfInBounds_toArray, List.set_cons_zero, List.set_cons_succ])
           go_cut [40] (fun v40 wc => ∃ (kq : Nat) (x40_22 : Bool), v40 = .bool x40_22 ∧ Aside0 (chanceryref3_ShapesError.j2 kq l0 x13_1 l0 (l0.length : Int) x13_1 x40_22 ((rd_T45 l0 x13_1).f0) ((rd_T45 l0 x13_1).f1) ((rd_T45 l0 x13_1).f2) ((rd_T45 l0 x13_1).f3) ((rd_T45 l0 x13_1).f4) ((rd_T45 l0 x13_1).f5) ((rd_T45 l0 x13_1).f6) ((rd_T45 l0 x13_1).f7) ((rd_T45 l0 x13_1).f8) ((rd_T45 l0 x13_1).f9) ((rd_T45 l0 x13_1).f10) ((rd_T45 l0 x13_1).f11) = some r) ∧ Aside0 (kq ≤ kj8) ∧ Aside0 (wc.heap[gb122]? = some (.cells #[.int .i64 ((rd_T45 l0 x13_1).f0), .int .i64 ((rd_T45 l0 x13_1).f1), .int .i64 ((rd_T45 l0 x13_1).f2), .int .i64 ((rd_T45 l0 x13_1).f3), .int .i64 ((rd_T45 l0 x13_1).f4), .int .i64 ((rd_T45 l0 x13_1).f5), .int .i64 ((rd_T45 l0 x13_1).f6), .int .i64 ((rd_T45 l0 x13_1).f7), .int .i64 ((rd_T45 l0 x13_1).f8), .int .i64 ((rd_T45 l0 x13_1).f9), .string ((rd_T45 l0 x13_1).f10), .string ((rd_T45 l0 x13_1).f11)] 45 (0, 0))) ∧ Aside0 (Below w.heap.size w wc))
           case first =>
            have H := HC23.out
            clear HC23
            by_cases c25 : t128 = true
            ·subst c25
             have H1 : ((chanceryref3_In.f ((rd_T45 l0 x13_1).f4) (-1048576) 1048576).bind fun t129 => (if t129 = true then ((chanceryref3_In.f ((rd_T45 l0 x13_1).f5) 0 1048576).bind fun t130 => (if t130 = true then ((chanceryref3_In.f ((rd_T45 l0 x13_1).f6) 0 1048576).bind fun t131 => (if t131 = true then ((chanceryref3_In.f ((rd_T45 l0 x13_1).f7) 0 3599).bind fun t132 => (chanceryref3_ShapesError.j2 kj8 l0 x13_1 l0 (l0.length : Int) x13_1 (!t132) ((rd_T45 l0 x13_1).f0) ((rd_T45 l0 x13_1).f1) ((rd_T45 l0 x13_1).f2) ((rd_T45 l0 x13_1).f3) ((rd_T45 l0 x13_1).f4) ((rd_T45 l0 x13_1).f5) ((rd_T45 l0 x13_1).f6) ((rd_T45 l0 x13_1).f7) ((rd_T45 l0 x13_1).f8) ((rd_T45 l0 x13_1).f9) ((rd_T45 l0 x13_1).f10) ((rd_T45 l0 x13_1).f11))) else (chanceryref3_ShapesError.j2 kj8 l0 x13_1 l0 (l0.length : Int) x13_1 (!t131) ((rd_T45 l0 x13_1).f0) ((rd_T45 l0 x13_1).f1) ((rd_T45 l0 x13_1).f2) ((rd_T45 l0 x13_1).f3) ((rd_T45 l0 x13_1).f4) ((rd_T45 l0 x13_1).f5) ((rd_T45 l0 x13_1).f6) ((rd_T45 l0 x13_1).f7) ((rd_T45 l0 x13_1).f8) ((rd_T45 l0 x13_1).f9) ((rd_T45 l0 x13_1).f10) ((rd_T45 l0 x13_1).f11)))) else (chanceryref3_ShapesError.j2 kj8 l0 x13_1 l0 (l0.length : Int) x13_1 (!t130) ((rd_T45 l0 x13_1).f0) ((rd_T45 l0 x13_1).f1) ((rd_T45 l0 x13_1).f2) ((rd_T45 l0 x13_1).f3) ((rd_T45 l0 x13_1).f4) ((rd_T45 l0 x13_1).f5) ((rd_T45 l0 x13_1).f6) ((rd_T45 l0 x13_1).f7) ((rd_T45 l0 x13_1).f8) ((rd_T45 l0 x13_1).f9) ((rd_T45 l0 x13_1).f10) ((rd_T45 l0 x13_1).f11)))) else (chanceryref3_ShapesError.j2 kj8 l0 x13_1 l0 (l0.length : Int) x13_1 (!t129) ((rd_T45 l0 x13_1).f0) ((rd_T45 l0 x13_1).f1) ((rd_T45 l0 x13_1).f2) ((rd_T45 l0 x13_1).f3) ((rd_T45 l0 x13_1).f4) ((rd_T45 l0 x13_1).f5) ((rd_T45 l0 x13_1).f6) ((rd_T45 l0 x13_1).f7) ((rd_T45 l0 x13_1).f8) ((rd_T45 l0 x13_1).f9) ((rd_T45 l0 x13_1).f10) ((rd_T45 l0 x13_1).f11)))) = some r := by rw [if_pos rfl] at H; exact H
             clear H
             have H := H1
             clear H1
             replace H := Option.bind_eq_some_iff.mp H
             obtain ⟨t129, A260, H⟩ := H
             replace H : (if t129 = true then ((chanceryref3_In.f ((rd_T45 l0 x13_1).f5) 0 1048576).bind fun t130 => (if t130 = true then ((chanceryref3_In.f ((rd_T45 l0 x13_1).f6) 0 1048576).bind fun t131 => (if t131 = true then ((chanceryref3_In.f ((rd_T45 l0 x13_1).f7) 0 3599).bind fun t132 => (chanceryref3_ShapesError.j2 kj8 l0 x13_1 l0 (l0.length : Int) x13_1 (!t132) ((rd_T45 l0 x13_1).f0) ((rd_T45 l0 x13_1).f1) ((rd_T45 l0 x13_1).f2) ((rd_T45 l0 x13_1).f3) ((rd_T45 l0 x13_1).f4) ((rd_T45 l0 x13_1).f5) ((rd_T45 l0 x13_1).f6) ((rd_T45 l0 x13_1).f7) ((rd_T45 l0 x13_1).f8) ((rd_T45 l0 x13_1).f9) ((rd_T45 l0 x13_1).f10) ((rd_T45 l0 x13_1).f11))) else (chanceryref3_ShapesError.j2 kj8 l0 x13_1 l0 (l0.length : Int) x13_1 (!t131) ((rd_T45 l0 x13_1).f0) ((rd_T45 l0 x13_1).f1) ((rd_T45 l0 x13_1).f2) ((rd_T45 l0 x13_1).f3) ((rd_T45 l0 x13_1).f4) ((rd_T45 l0 x13_1).f5) ((rd_T45 l0 x13_1).f6) ((rd_T45 l0 x13_1).f7) ((rd_T45 l0 x13_1).f8) ((rd_T45 l0 x13_1).f9) ((rd_T45 l0 x13_1).f10) ((rd_T45 l0 x13_1).f11)))) else (chanceryref3_ShapesError.j2 kj8 l0 x13_1 l0 (l0.length : Int) x13_1 (!t130) ((rd_T45 l0 x13_1).f0) ((rd_T45 l0 x13_1).f1) ((rd_T45 l0 x13_1).f2) ((rd_T45 l0 x13_1).f3) ((rd_T45 l0 x13_1).f4) ((rd_T45 l0 x13_1).f5) ((rd_T45 l0 x13_1).f6) ((rd_T45 l0 x13_1).f7) ((rd_T45 l0 x13_1).f8) ((rd_T45 l0 x13_1).f9) ((rd_T45 l0 x13_1).f10) ((rd_T45 l0 x13_1).f11)))) else (chanceryref3_ShapesError.j2 kj8 l0 x13_1 l0 (l0.length : Int) x13_1 (!t129) ((rd_T45 l0 x13_1).f0) ((rd_T45 l0 x13_1).f1) ((rd_T45 l0 x13_1).f2) ((rd_T45 l0 x13_1).f3) ((rd_T45 l0 x13_1).f4) ((rd_T45 l0 x13_1).f5) ((rd_T45 l0 x13_1).f6) ((rd_T45 l0 x13_1).f7) ((rd_T45 l0 x13_1).f8) ((rd_T45 l0 x13_1).f9) ((rd_T45 l0 x13_1).f10) ((rd_T45 l0 x13_1).f11))) = some r := H
             have A26 := Aside0.mk A260
             clear A260
             by_cases c27 : t129 = true
             ·subst c27
              have H1 : ((chanceryref3_In.f ((rd_T45 l0 x13_1).f5) 0 1048576).bind fun t130 => (if t130 = true then ((chanceryref3_In.f ((rd_T45 l0 x13_1).f6) 0 1048576).bind fun t131 => (if t131 = true then ((chanceryref3_In.f ((rd_T45 l0 x13_1).f7) 0 3599).bind fun t132 => (chanceryref3_ShapesError.j2 kj8 l0 x13_1 l0 (l0.length : Int) x13_1 (!t132) ((rd_T45 l0 x13_1).f0) ((rd_T45 l0 x13_1).f1) ((rd_T45 l0 x13_1).f2) ((rd_T45 l0 x13_1).f3) ((rd_T45 l0 x13_1).f4) ((rd_T45 l0 x13_1).f5) ((rd_T45 l0 x13_1).f6) ((rd_T45 l0 x13_1).f7) ((rd_T45 l0 x13_1).f8) ((rd_T45 l0 x13_1).f9) ((rd_T45 l0 x13_1).f10) ((rd_T45 l0 x13_1).f11))) else (chanceryref3_ShapesError.j2 kj8 l0 x13_1 l0 (l0.length : Int) x13_1 (!t131) ((rd_T45 l0 x13_1).f0) ((rd_T45 l0 x13_1).f1) ((rd_T45 l0 x13_1).f2) ((rd_T45 l0 x13_1).f3) ((rd_T45 l0 x13_1).f4) ((rd_T45 l0 x13_1).f5) ((rd_T45 l0 x13_1).f6) ((rd_T45 l0 x13_1).f7) ((rd_T45 l0 x13_1).f8) ((rd_T45 l0 x13_1).f9) ((rd_T45 l0 x13_1).f10) ((rd_T45 l0 x13_1).f11)))) else (chanceryref3_ShapesError.j2 kj8 l0 x13_1 l0 (l0.length : Int) x13_1 (!t130) ((rd_T45 l0 x13_1).f0) ((rd_T45 l0 x13_1).f1) ((rd_T45 l0 x13_1).f2) ((rd_T45 l0 x13_1).f3) ((rd_T45 l0 x13_1).f4) ((rd_T45 l0 x13_1).f5) ((rd_T45 l0 x13_1).f6) ((rd_T45 l0 x13_1).f7) ((rd_T45 l0 x13_1).f8) ((rd_T45 l0 x13_1).f9) ((rd_T45 l0 x13_1).f10) ((rd_T45 l0 x13_1).f11)))) = some r := by rw [if_pos rfl] at H; exact H
              clear H
              have H := H1
              clear H1
              replace H := Option.bind_eq_some_iff.mp H
              obtain ⟨t130, A280, H⟩ := H
              replace H : (if t130 = true then ((chanceryref3_In.f ((rd_T45 l0 x13_1).f6) 0 1048576).bind fun t131 => (if t131 = true then ((chanceryref3_In.f ((rd_T45 l0 x13_1).f7) 0 3599).bind fun t132 => (chanceryref3_ShapesError.j2 kj8 l0 x13_1 l0 (l0.length : Int) x13_1 (!t132) ((rd_T45 l0 x13_1).f0) ((rd_T45 l0 x13_1).f1) ((rd_T45 l0 x13_1).f2) ((rd_T45 l0 x13_1).f3) ((rd_T45 l0 x13_1).f4) ((rd_T45 l0 x13_1).f5) ((rd_T45 l0 x13_1).f6) ((rd_T45 l0 x13_1).f7) ((rd_T45 l0 x13_1).f8) ((rd_T45 l0 x13_1).f9) ((rd_T45 l0 x13_1).f10) ((rd_T45 l0 x13_1).f11))) else (chanceryref3_ShapesError.j2 kj8 l0 x13_1 l0 (l0.length : Int) x13_1 (!t131) ((rd_T45 l0 x13_1).f0) ((rd_T45 l0 x13_1).f1) ((rd_T45 l0 x13_1).f2) ((rd_T45 l0 x13_1).f3) ((rd_T45 l0 x13_1).f4) ((rd_T45 l0 x13_1).f5) ((rd_T45 l0 x13_1).f6) ((rd_T45 l0 x13_1).f7) ((rd_T45 l0 x13_1).f8) ((rd_T45 l0 x13_1).f9) ((rd_T45 l0 x13_1).f10) ((rd_T45 l0 x13_1).f11)))) else (chanceryref3_ShapesError.j2 kj8 l0 x13_1 l0 (l0.length : Int) x13_1 (!t130) ((rd_T45 l0 x13_1).f0) ((rd_T45 l0 x13_1).f1) ((rd_T45 l0 x13_1).f2) ((rd_T45 l0 x13_1).f3) ((rd_T45 l0 x13_1).f4) ((rd_T45 l0 x13_1).f5) ((rd_T45 l0 x13_1).f6) ((rd_T45 l0 x13_1).f7) ((rd_T45 l0 x13_1).f8) ((rd_T45 l0 x13_1).f9) ((rd_T45 l0 x13_1).f10) ((rd_T45 l0 x13_1).f11))) = some r := H
              have A28 := Aside0.mk A280
              clear A280
              by_cases c29 : t130 = true
              ·subst c29
               have H1 : ((chanceryref3_In.f ((rd_T45 l0 x13_1).f6) 0 1048576).bind fun t131 => (if t131 = true then ((chanceryref3_In.f ((rd_T45 l0 x13_1).f7) 0 3599).bind fun t132 => (chanceryref3_ShapesError.j2 kj8 l0 x13_1 l0 (l0.length : Int) x13_1 (!t132) ((rd_T45 l0 x13_1).f0) ((rd_T45 l0 x13_1).f1) ((rd_T45 l0 x13_1).f2) ((rd_T45 l0 x13_1).f3) ((rd_T45 l0 x13_1).f4) ((rd_T45 l0 x13_1).f5) ((rd_T45 l0 x13_1).f6) ((rd_T45 l0 x13_1).f7) ((rd_T45 l0 x13_1).f8) ((rd_T45 l0 x13_1).f9) ((rd_T45 l0 x13_1).f10) ((rd_T45 l0 x13_1).f11))) else (chanceryref3_ShapesError.j2 kj8 l0 x13_1 l0 (l0.length : Int) x13_1 (!t131) ((rd_T45 l0 x13_1).f0) ((rd_T45 l0 x13_1).f1) ((rd_T45 l0 x13_1).f2) ((rd_T45 l0 x13_1).f3) ((rd_T45 l0 x13_1).f4) ((rd_T45 l0 x13_1).f5) ((rd_T45 l0 x13_1).f6) ((rd_T45 l0 x13_1).f7) ((rd_T45 l0 x13_1).f8) ((rd_T45 l0 x13_1).f9) ((rd_T45 l0 x13_1).f10) ((rd_T45 l0 x13_1).f11)))) = some r := by rw [if_pos rfl] at H; exact H
               clear H
               have H := H1
               clear H1
               replace H := Option.bind_eq_some_iff.mp H
               obtain ⟨t131, A300, H⟩ := H
               replace H : (if t131 = true then ((chanceryref3_In.f ((rd_T45 l0 x13_1).f7) 0 3599).bind fun t132 => (chanceryref3_ShapesError.j2 kj8 l0 x13_1 l0 (l0.length : Int) x13_1 (!t132) ((rd_T45 l0 x13_1).f0) ((rd_T45 l0 x13_1).f1) ((rd_T45 l0 x13_1).f2) ((rd_T45 l0 x13_1).f3) ((rd_T45 l0 x13_1).f4) ((rd_T45 l0 x13_1).f5) ((rd_T45 l0 x13_1).f6) ((rd_T45 l0 x13_1).f7) ((rd_T45 l0 x13_1).f8) ((rd_T45 l0 x13_1).f9) ((rd_T45 l0 x13_1).f10) ((rd_T45 l0 x13_1).f11))) else (chanceryref3_ShapesError.j2 kj8 l0 x13_1 l0 (l0.length : Int) x13_1 (!t131) ((rd_T45 l0 x13_1).f0) ((rd_T45 l0 x13_1).f1) ((rd_T45 l0 x13_1).f2) ((rd_T45 l0 x13_1).f3) ((rd_T45 l0 x13_1).f4) ((rd_T45 l0 x13_1).f5) ((rd_T45 l0 x13_1).f6) ((rd_T45 l0 x13_1).f7) ((rd_T45 l0 x13_1).f8) ((rd_T45 l0 x13_1).f9) ((rd_T45 l0 x13_1).f10) ((rd_T45 l0 x13_1).f11))) = some r := H
               have A30 := Aside0.mk A300
               clear A300
               by_cases c31 : t131 = true
               ·subst c31
                have H1 : ((chanceryref3_In.f ((rd_T45 l0 x13_1).f7) 0 3599).bind fun t132 => (chanceryref3_ShapesError.j2 kj8 l0 x13_1 l0 (l0.length : Int) x13_1 (!t132) ((rd_T45 l0 x13_1).f0) ((rd_T45 l0 x13_1).f1) ((rd_T45 l0 x13_1).f2) ((rd_T45 l0 x13_1).f3) ((rd_T45 l0 x13_1).f4) ((rd_T45 l0 x13_1).f5) ((rd_T45 l0 x13_1).f6) ((rd_T45 l0 x13_1).f7) ((rd_T45 l0 x13_1).f8) ((rd_T45 l0 x13_1).f9) ((rd_T45 l0 x13_1).f10) ((rd_T45 l0 x13_1).f11))) = some r := by rw [if_pos rfl] at H; exact H
                clear H
                have H := H1
                clear H1
                replace H := Option.bind_eq_some_iff.mp H
                obtain ⟨t132, A320, H⟩ := H
                replace H : (chanceryref3_ShapesError.j2 kj8 l0 x13_1 l0 (l0.length : Int) x13_1 (!t132) ((rd_T45 l0 x13_1).f0) ((rd_T45 l0 x13_1).f1) ((rd_T45 l0 x13_1).f2) ((rd_T45 l0 x13_1).f3) ((rd_T45 l0 x13_1).f4) ((rd_T45 l0 x13_1).f5) ((rd_T45 l0 x13_1).f6) ((rd_T45 l0 x13_1).f7) ((rd_T45 l0 x13_1).f8) ((rd_T45 l0 x13_1).f9) ((rd_T45 l0 x13_1).f10) ((rd_T45 l0 x13_1).f11)) = some r := H
                have A32 := Aside0.mk A320
                clear A320
                have H' := Aside0.mk H
                clear H
                obtain ⟨hcz33_0, hcz33_1, hcz33_2, hcz33_3, hcz33_4, hcz33_5, hcz33_6, hcz33_7, hcz33_8, hcz33_9, hcz33_10, hcz33_11⟩ := cells12 BK122.out
                have hfz33_ := fun j => blk_frozen BK122.out j
                go_wp2_with (first | ((with_reducible refine gate_callee (f := 14) rfl ?_); refine goesL_ (some 47) rfl rfl Tryd.func14 (by kernel_rfl) rfl #[.int .i64 ((rd_T45 l0 x13_1).f4), .int .i64 (-1048576), .int .i64 1048576] rfl (by (try simp only [List.map_toArray, List.map_cons, List.map_nil]); first | done | rfl) ?_; (with_reducible refine (chanceryref3_In.calls ((rd_T45 l0 x13_1).f4) (-1048576) 1048576 true _ A26.out).mono ?_); rintro e w' ⟨rfl, ⟨nd, rfl⟩⟩; refine ⟨_, rfl, ?_⟩) | ((with_reducible refine gate_callee (f := 14) rfl ?_); refine goesL_ (some 51) rfl rfl Tryd.func14 (by kernel_rfl) rfl #[.int .i64 ((rd_T45 l0 x13_1).f5), .int .i64 0, .int .i64 1048576] rfl (by (try simp only [List.map_toArray, List.map_cons, List.map_nil]); first | done | rfl) ?_; (with_reducible refine (chanceryref3_In.calls ((rd_T45 l0 x13_1).f5) 0 1048576 true _ A28.out).mono ?_); rintro e w' ⟨rfl, ⟨nd, rfl⟩⟩; refine ⟨_, rfl, ?_⟩) | ((with_reducible refine gate_callee (f := 14) rfl ?_); refine goesL_ (some 55) rfl rfl Tryd.func14 (by kernel_rfl) rfl #[.int .i64 ((rd_T45 l0 x13_1).f6), .int .i64 0, .int .i64 1048576] rfl (by (try simp only [List.map_toArray, List.map_cons, List.map_nil]); first | done | rfl) ?_; (with_reducible refine (chanceryref3_In.calls ((rd_T45 l0 x13_1).f6) 0 1048576 true _ A30.out).mono ?_); rintro e w' ⟨rfl, ⟨nd, rfl⟩⟩; refine ⟨_, rfl, ?_⟩) | ((with_reducible refine gate_callee (f := 14) rfl ?_); refine goesL_ (some 59) rfl rfl Tryd.func14 (by kernel_rfl) rfl #[.int .i64 ((rd_T45 l0 x13_1).f7), .int .i64 0, .int .i64 3599] rfl (by (try simp only [List.map_toArray, List.map_cons, List.map_nil]); first | done | rfl) ?_; (with_reducible refine (chanceryref3_In.calls ((rd_T45 l0 x13_1).f7) 0 3599 t132 _ A32.out).mono ?_); rintro e w' ⟨rfl, ⟨nd, rfl⟩⟩; refine ⟨_, rfl, ?_⟩))
                go_meet
                case rel => exact ⟨_, (!t132), (by first | rfl | (simp; done) | (simp [*]; done)), H', ⟨by have := HK1.out; have := HJ8.out; first | omega | exact Nat.le_refl _⟩, ⟨by (with_reducible repeat (first | refine blk_drewN ?_ _ | refine blk_drew ?_ | refine blk_alloc ?_ _)); exact BK122.out⟩, ⟨by repeat (first | (with_reducible first | exact HB.out | apply below_alloc | apply pw_below_drewN | apply below_drew1 | refine below_set ?_ GE122.out) | exact HB.out)⟩⟩
               ·replace c31 := Bool.eq_false_iff.mpr c31
                subst c31
                have H1 : (chanceryref3_ShapesError.j2 kj8 l0 x13_1 l0 (l0.length : Int) x13_1 (!false) ((rd_T45 l0 x13_1).f0) ((rd_T45 l0 x13_1).f1) ((rd_T45 l0 x13_1).f2) ((rd_T45 l0 x13_1).f3) ((rd_T45 l0 x13_1).f4) ((rd_T45 l0 x13_1).f5) ((rd_T45 l0 x13_1).f6) ((rd_T45 l0 x13_1).f7) ((rd_T45 l0 x13_1).f8) ((rd_T45 l0 x13_1).f9) ((rd_T45 l0 x13_1).f10) ((rd_T45 l0 x13_1).f11)) = some r := by rw [if_neg (show ¬ (false = true) by decide)] at H; exact H
                clear H
                have H := H1
                clear H1
                have H' := Aside0.mk H
                clear H
                obtain ⟨hcz34_0, hcz34_1, hcz34_2, hcz34_3, hcz34_4, hcz34_5, hcz34_6, hcz34_7, hcz34_8, hcz34_9, hcz34_10, hcz34_11⟩ := cells12 BK122.out
                have hfz34_ := fun j => blk_frozen BK122.out j
                go_wp2_with (first | ((with_reducible refine gate_callee (f := 14) rfl ?_); refine goesL_ (some 47) rfl rfl Tryd.func14 (by kernel_rfl) rfl #[.int .i64 ((rd_T45 l0 x13_1).f4), .int .i64 (-1048576), .int .i64 1048576] rfl (by (try simp only [List.map_toArray, List.map_cons, List.map_nil]); first | done | rfl) ?_; (with_reducible refine (chanceryref3_In.calls ((rd_T45 l0 x13_1).f4) (-1048576) 1048576 true _ A26.out).mono ?_); rintro e w' ⟨rfl, ⟨nd, rfl⟩⟩; refine ⟨_, rfl, ?_⟩) | ((with_reducible refine gate_callee (f := 14) rfl ?_); refine goesL_ (some 51) rfl rfl Tryd.func14 (by kernel_rfl) rfl #[.int .i64 ((rd_T45 l0 x13_1).f5), .int .i64 0, .int .i64 1048576] rfl (by (try simp only [List.map_toArray, List.map_cons, List.map_nil]); first | done | rfl) ?_; (with_reducible refine (chanceryref3_In.calls ((rd_T45 l0 x13_1).f5) 0 1048576 true _ A28.out).mono ?_); rintro e w' ⟨rfl, ⟨nd, rfl⟩⟩; refine ⟨_, rfl, ?_⟩) | ((with_reducible refine gate_callee (f := 14) rfl ?_); refine goesL_ (some 55) rfl rfl Tryd.func14 (by kernel_rfl) rfl #[.int .i64 ((rd_T45 l0 x13_1).f6), .int .i64 0, .int .i64 1048576] rfl (by (try simp only [List.map_toArray, List.map_cons, List.map_nil]); first | done | rfl) ?_; (with_reducible refine (chanceryref3_In.calls ((rd_T45 l0 x13_1).f6) 0 1048576 false _ A30.out).mono ?_); rintro e w' ⟨rfl, ⟨nd, rfl⟩⟩; refine ⟨_, rfl, ?_⟩))
                go_meet
                case rel => exact ⟨_, (!false), (by first | rfl | (simp; done) | (simp [*]; done)), H', ⟨by have := HK1.out; have := HJ8.out; first | omega | exact Nat.le_refl _⟩, ⟨by (with_reducible repeat (first | refine blk_drewN ?_ _ | refine blk_drew ?_ | refine blk_alloc ?_ _)); exact BK122.out⟩, ⟨by repeat (first | (with_reducible first | exact HB.out | apply below_alloc | apply pw_below_drewN | apply below_drew1 | refine below_set ?_ GE122.out) | exact HB.out)⟩⟩
              ·replace c29 := Bool.eq_false_iff.mpr c29
               subst c29
               have H1 : (chanceryref3_ShapesError.j2 kj8 l0 x13_1 l0 (l0.length : Int) x13_1 (!false) ((rd_T45 l0 x13_1).f0) ((rd_T45 l0 x13_1).f1) ((rd_T45 l0 x13_1).f2) ((rd_T45 l0 x13_1).f3) ((rd_T45 l0 x13_1).f4) ((rd_T45 l0 x13_1).f5) ((rd_T45 l0 x13_1).f6) ((rd_T45 l0 x13_1).f7) ((rd_T45 l0 x13_1).f8) ((rd_T45 l0 x13_1).f9) ((rd_T45 l0 x13_1).f10) ((rd_T45 l0 x13_1).f11)) = some r := by rw [if_neg (show ¬ (false = true) by decide)] at H; exact H
               clear H
               have H := H1
               clear H1
               have H' := Aside0.mk H
               clear H
               obtain ⟨hcz35_0, hcz35_1, hcz35_2, hcz35_3, hcz35_4, hcz35_5, hcz35_6, hcz35_7, hcz35_8, hcz35_9, hcz35_10, hcz35_11⟩ := cells12 BK122.out
               have hfz35_ := fun j => blk_frozen BK122.out j
               go_wp2_with (first | ((with_reducible refine gate_callee (f := 14) rfl ?_); refine goesL_ (some 47) rfl rfl Tryd.func14 (by kernel_rfl) rfl #[.int .i64 ((rd_T45 l0 x13_1).f4), .int .i64 (-1048576), .int .i64 1048576] rfl (by (try simp only [List.map_toArray, List.map_cons, List.map_nil]); first | done | rfl) ?_; (with_reducible refine (chanceryref3_In.calls ((rd_T45 l0 x13_1).f4) (-1048576) 1048576 true _ A26.out).mono ?_); rintro e w' ⟨rfl, ⟨nd, rfl⟩⟩; refine ⟨_, rfl, ?_⟩) | ((with_reducible refine gate_callee (f := 14) rfl ?_); refine goesL_ (some 51) rfl rfl Tryd.func14 (by kernel_rfl) rfl #[.int .i64 ((rd_T45 l0 x13_1).f5), .int .i64 0, .int .i64 1048576] rfl (by (try simp only [List.map_toArray, List.map_cons, List.map_nil]); first | done | rfl) ?_; (with_reducible refine (chanceryref3_In.calls ((rd_T45 l0 x13_1).f5) 0 1048576 false _ A28.out).mono ?_); rintro e w' ⟨rfl, ⟨nd, rfl⟩⟩; refine ⟨_, rfl, ?_⟩))
               go_meet
               case rel => exact ⟨_, (!false), (by first | rfl | (simp; done) | (simp [*]; done)), H', ⟨by have := HK1.out; have := HJ8.out; first | omega | exact Nat.le_refl _⟩, ⟨by (with_reducible repeat (first | refine blk_drewN ?_ _ | refine blk_drew ?_ | refine blk_alloc ?_ _)); exact BK122.out⟩, ⟨by repeat (first | (with_reducible first | exact HB.out | apply below_alloc | apply pw_below_drewN | apply below_drew1 | refine below_set ?_ GE122.out) | exact HB.out)⟩⟩
             ·replace c27 := Bool.eq_false_iff.mpr c27
              subst c27
              have H1 : (chanceryref3_ShapesError.j2 kj8 l0 x13_1 l0 (l0.length : Int) x13_1 (!false) ((rd_T45 l0 x13_1).f0) ((rd_T45 l0 x13_1).f1) ((rd_T45 l0 x13_1).f2) ((rd_T45 l0 x13_1).f3) ((rd_T45 l0 x13_1).f4) ((rd_T45 l0 x13_1).f5) ((rd_T45 l0 x13_1).f6) ((rd_T45 l0 x13_1).f7) ((rd_T45 l0 x13_1).f8) ((rd_T45 l0 x13_1).f9) ((rd_T45 l0 x13_1).f10) ((rd_T45 l0 x13_1).f11)) = some r := by rw [if_neg (show ¬ (false = true) by decide)] at H; exact H
              clear H
              have H := H1
              clear H1
              have H' := Aside0.mk H
              clear H
              obtain ⟨hcz36_0, hcz36_1, hcz36_2, hcz36_3, hcz36_4, hcz36_5, hcz36_6, hcz36_7, hcz36_8, hcz36_9, hcz36_10, hcz36_11⟩ := cells12 BK122.out
              have hfz36_ := fun j => blk_frozen BK122.out j
              go_wp2_with (first | ((with_reducible refine gate_callee (f := 14) rfl ?_); refine goesL_ (some 47) rfl rfl Tryd.func14 (by kernel_rfl) rfl #[.int .i64 ((rd_T45 l0 x13_1).f4), .int .i64 (-1048576), .int .i64 1048576] rfl (by (try simp only [List.map_toArray, List.map_cons, List.map_nil]); first | done | rfl) ?_; (with_reducible refine (chanceryref3_In.calls ((rd_T45 l0 x13_1).f4) (-1048576) 1048576 false _ A26.out).mono ?_); rintro e w' ⟨rfl, ⟨nd, rfl⟩⟩; refine ⟨_, rfl, ?_⟩))
              go_meet
              case rel => exact ⟨_, (!false), (by first | rfl | (simp; done) | (simp [*]; done)), H', ⟨by have := HK1.out; have := HJ8.out; first | omega | exact Nat.le_refl _⟩, ⟨by (with_reducible repeat (first | refine blk_drewN ?_ _ | refine blk_drew ?_ | refine blk_alloc ?_ _)); exact BK122.out⟩, ⟨by repeat (first | (with_reducible first | exact HB.out | apply below_alloc | apply pw_below_drewN | apply below_drew1 | refine below_set ?_ GE122.out) | exact HB.out)⟩⟩
            ·replace c25 := Bool.eq_false_iff.mpr c25
             subst c25
             have H1 : (chanceryref3_ShapesError.j2 kj8 l0 x13_1 l0 (l0.length : Int) x13_1 (!false) ((rd_T45 l0 x13_1).f0) ((rd_T45 l0 x13_1).f1) ((rd_T45 l0 x13_1).f2) ((rd_T45 l0 x13_1).f3) ((rd_T45 l0 x13_1).f4) ((rd_T45 l0 x13_1).f5) ((rd_T45 l0 x13_1).f6) ((rd_T45 l0 x13_1).f7) ((rd_T45 l0 x13_1).f8) ((rd_T45 l0 x13_1).f9) ((rd_T45 l0 x13_1).f10) ((rd_T45 l0 x13_1).f11)) = some r := by rw [if_neg (show ¬ (false = true) by decide)] at H; exact H
             clear H
             have H := H1
             clear H1
             have H' := Aside0.mk H
             clear H
             go_wp2
             go_meet
             case rel => exact ⟨_, (!false), (by first | rfl | (simp; done) | (simp [*]; done)), H', ⟨by have := HK1.out; have := HJ8.out; first | omega | exact Nat.le_refl _⟩, ⟨by (with_reducible repeat (first | refine blk_drewN ?_ _ | refine blk_drew ?_ | refine blk_alloc ?_ _)); exact BK122.out⟩, ⟨by repeat (first | (with_reducible first | exact HB.out | apply below_alloc | apply pw_below_drewN | apply below_drew1 | refine below_set ?_ GE122.out) | exact HB.out)⟩⟩
           case rest =>
            clear HC23; try clear c1; try clear p1; try clear q1; try clear hx1; try clear c2; try clear c2b0; try clear c2b1; try clear p2; try clear c3; try clear c3b0; try clear c4; try clear c4b0; try clear c5; try clear c5b0; try clear c7; try clear c9; try clear c12; try clear p12; try clear q12; try clear hx12; try clear c14; try clear c16; try clear c21; try clear c25; try clear c27; try clear c29; try clear c31; try clear hcz11_0; try clear hcz11_1; try clear hcz11_10; try clear hcz11_11; try clear hcz11_2; try clear hcz11_3; try clear hcz11_4; try clear hcz11_5; try clear hcz11_6; try clear hcz11_7; try clear hcz11_8; try clear hcz11_9; try clear hcz18_0; try clear hcz18_1; try clear hcz18_10; try clear hcz18_11; try clear hcz18_2; try clear hcz18_3; try clear hcz18_4; try clear hcz18_5; try clear hcz18_6; try clear hcz18_7; try clear hcz18_8; try clear hcz18_9; try clear hcz19_0; try clear hcz19_1; try clear hcz19_10; try clear hcz19_11; try clear hcz19_2; try clear hcz19_3; try clear hcz19_4; try clear hcz19_5; try clear hcz19_6; try clear hcz19_7; try clear hcz19_8; try clear hcz19_9; try clear hcz20_0; try clear hcz20_1; try clear hcz20_10; try clear hcz20_11; try clear hcz20_2; try clear hcz20_3; try clear hcz20_4; try clear hcz20_5; try clear hcz20_6; try clear hcz20_7; try clear hcz20_8; try clear hcz20_9; try clear hcz24_0; try clear hcz24_1; try clear hcz24_10; try clear hcz24_11; try clear hcz24_2; try clear hcz24_3; try clear hcz24_4; try clear hcz24_5; try clear hcz24_6; try clear hcz24_7; try clear hcz24_8; try clear hcz24_9; try clear hcz33_0; try clear hcz33_1; try clear hcz33_10; try clear hcz33_11; try clear hcz33_2; try clear hcz33_3; try clear hcz33_4; try clear hcz33_5; try clear hcz33_6; try clear hcz33_7; try clear hcz33_8; try clear hcz33_9; try clear hcz34_0; try clear hcz34_1; try clear hcz34_10; try clear hcz34_11; try clear hcz34_2; try clear hcz34_3; try clear hcz34_4; try clear hcz34_5; try clear hcz34_6; try clear hcz34_7; try clear hcz34_8; try clear hcz34_9; try clear hcz35_0; try clear hcz35_1; try clear hcz35_10; try clear hcz35_11; try clear hcz35_2; try clear hcz35_3; try clear hcz35_4; try clear hcz35_5; try clear hcz35_6; try clear hcz35_7; try clear hcz35_8; try clear hcz35_9; try clear hcz36_0; try clear hcz36_1; try clear hcz36_10; try clear hcz36_11; try clear hcz36_2; try clear hcz36_3; try clear hcz36_4; try clear hcz36_5; try clear hcz36_6; try clear hcz36_7; try clear hcz36_8; try clear hcz36_9; try clear hfz11_0; try clear hfz11_1; try clear hfz11_10; try clear hfz11_11; try clear hfz11_2; try clear hfz11_3; try clear hfz11_4; try clear hfz11_5; try clear hfz11_6; try clear hfz11_7; try clear hfz11_8; try clear hfz11_9; try clear hfz18_0; try clear hfz18_1; try clear hfz18_10; try clear hfz18_11; try clear hfz18_2; try clear hfz18_3; try clear hfz18_4; try clear hfz18_5; try clear hfz18_6; try clear hfz18_7; try clear hfz18_8; try clear hfz18_9; try clear hfz19_0; try clear hfz19_1; try clear hfz19_10; try clear hfz19_11; try clear hfz19_2; try clear hfz19_3; try clear hfz19_4; try clear hfz19_5; try clear hfz19_6; try clear hfz19_7; try clear hfz19_8; try clear hfz19_9; try clear hfz20_0; try clear hfz20_1; try clear hfz20_10; try clear hfz20_11; try clear hfz20_2; try clear hfz20_3; try clear hfz20_4; try clear hfz20_5; try clear hfz20_6; try clear hfz20_7; try clear hfz20_8; try clear hfz20_9; try clear hfz24_0; try clear hfz24_1; try clear hfz24_10; try clear hfz24_11; try clear hfz24_2; try clear hfz24_3; try clear hfz24_4; try clear hfz24_5; try clear hfz24_6; try clear hfz24_7; try clear hfz24_8; try clear hfz24_9; try clear hfz33_0; try clear hfz33_1; try clear hfz33_10; try clear hfz33_11; try clear hfz33_2; try clear hfz33_3; try clear hfz33_4; try clear hfz33_5; try clear hfz33_6; try clear hfz33_7; try clear hfz33_8; try clear hfz33_9; try clear hfz34_0; try clear hfz34_1; try clear hfz34_10; try clear hfz34_11; try clear hfz34_2; try clear hfz34_3; try clear hfz34_4; try clear hfz34_5; try clear hfz34_6; try clear hfz34_7; try clear hfz34_8; try clear hfz34_9; try clear hfz35_0; try clear hfz35_1; try clear hfz35_10; try clear hfz35_11; try clear hfz35_2; try clear hfz35_3; try clear hfz35_4; try clear hfz35_5; try clear hfz35_6; try clear hfz35_7; try clear hfz35_8; try clear hfz35_9; try clear hfz36_0; try clear hfz36_1; try clear hfz36_10; try clear hfz36_11; try clear hfz36_2; try clear hfz36_3; try clear hfz36_4; try clear hfz36_5; try clear hfz36_6; try clear hfz36_7; try clear hfz36_8; try clear hfz36_9; try clear hx121_0; try clear hx121_1; try clear hx121_10; try clear hx121_11; try clear hx121_2; try clear hx121_3; try clear hx121_4; try clear hx121_5; try clear hx121_6; try clear hx121_7; try clear hx121_8; try clear hx121_9; try clear p121; try clear q121
            obtain ⟨kq, x40_22, rfl, HA, HJ22, BK122, HB⟩ := hcut
            cases kq with
            | zero => exact absurd HA.out (by simp [chanceryref3_ShapesError.j2])
            | succ kj22 =>
             have H := HA.out
             clear HA
             simp only [chanceryref3_ShapesError.j2] at H
             by_cases c37 : x40_22 = true
             ·subst c37
              have H1 : (some 2) = some r := by rw [if_pos rfl] at H; exact H
              clear H
              have H := H1
              clear H1
              obtain rfl := Option.some.inj H
              go_wp2
              go_ret
              exact ⟨by first | rfl | (simp [errW_none, errW_some] <;> rfl) | (simp [*, errW_none, errW_some] <;> rfl), by repeat (first | (with_reducible first | exact HB.out | apply below_alloc | apply pw_below_drewN | apply below_drew1 | refine below_set ?_ GE122.out) | exact HB.out)⟩
             ·replace c37 := Bool.eq_false_iff.mpr c37
              subst c37
              have H1 : (if ((rd_T45 l0 x13_1).f2) = 6 then (chanceryref3_ShapesError.j3 kj22 l0 x13_1 l0 (l0.length : Int) x13_1 false ((rd_T45 l0 x13_1).f0) ((rd_T45 l0 x13_1).f1) ((rd_T45 l0 x13_1).f2) ((rd_T45 l0 x13_1).f3) ((rd_T45 l0 x13_1).f4) ((rd_T45 l0 x13_1).f5) ((rd_T45 l0 x13_1).f6) ((rd_T45 l0 x13_1).f7) ((rd_T45 l0 x13_1).f8) ((rd_T45 l0 x13_1).f9) ((rd_T45 l0 x13_1).f10) ((rd_T45 l0 x13_1).f11)) else (if ((rd_T45 l0 x13_1).f8) > 0 then (chanceryref3_ShapesError.j3 kj22 l0 x13_1 l0 (l0.length : Int) x13_1 true ((rd_T45 l0 x13_1).f0) ((rd_T45 l0 x13_1).f1) ((rd_T45 l0 x13_1).f2) ((rd_T45 l0 x13_1).f3) ((rd_T45 l0 x13_1).f4) ((rd_T45 l0 x13_1).f5) ((rd_T45 l0 x13_1).f6) ((rd_T45 l0 x13_1).f7) ((rd_T45 l0 x13_1).f8) ((rd_T45 l0 x13_1).f9) ((rd_T45 l0 x13_1).f10) ((rd_T45 l0 x13_1).f11)) else (chanceryref3_ShapesError.j3 kj22 l0 x13_1 l0 (l0.length : Int) x13_1 (decide (((rd_T45 l0 x13_1).f9) > 0)) ((rd_T45 l0 x13_1).f0) ((rd_T45 l0 x13_1).f1) ((rd_T45 l0 x13_1).f2) ((rd_T45 l0 x13_1).f3) ((rd_T45 l0 x13_1).f4) ((rd_T45 l0 x13_1).f5) ((rd_T45 l0 x13_1).f6) ((rd_T45 l0 x13_1).f7) ((rd_T45 l0 x13_1).f8) ((rd_T45 l0 x13_1).f9) ((rd_T45 l0 x13_1).f10) ((rd_T45 l0 x13_1).f11)))) = some r := by rw [if_neg (show ¬ (false = true) by decide)] at H; exact H
              clear H
              have H := H1
              clear H1
              have HC38 := Aside0.mk H
              clear H
              go_upto_region 19 with (fail)
              go_cut [61] (fun v61 wc => ∃ (kq : Nat) (x61_37 : Bool), v61 = .bool x61_37 ∧ Aside0 (chanceryref3_ShapesError.j3 kq l0 x13_1 l0 (l0.length : Int) x13_1 x61_37 ((rd_T45 l0 x13_1).f0) ((rd_T45 l0 x13_1).f1) ((rd_T45 l0 x13_1).f2) ((rd_T45 l0 x13_1).f3) ((rd_T45 l0 x13_1).f4) ((rd_T45 l0 x13_1).f5) ((rd_T45 l0 x13_1).f6) ((rd_T45 l0 x13_1).f7) ((rd_T45 l0 x13_1).f8) ((rd_T45 l0 x13_1).f9) ((rd_T45 l0 x13_1).f10) ((rd_T45 l0 x13_1).f11) = some r) ∧ Aside0 (kq ≤ kj22) ∧ Aside0 (wc.heap[gb122]? = some (.cells #[.int .i64 ((rd_T45 l0 x13_1).f0), .int .i64 ((rd_T45 l0 x13_1).f1), .int .i64 ((rd_T45 l0 x13_1).f2), .int .i64 ((rd_T45 l0 x13_1).f3), .int .i64 ((rd_T45 l0 x13_1).f4), .int .i64 ((rd_T45 l0 x13_1).f5), .int .i64 ((rd_T45 l0 x13_1).f6), .int .i64 ((rd_T45 l0 x13_1).f7), .int .i64 ((rd_T45 l0 x13_1).f8), .int .i64 ((rd_T45 l0 x13_1).f9), .string ((rd_T45 l0 x13_1).f10), .string ((rd_T45 l0 x13_1).f11)] 45 (0, 0))) ∧ Aside0 (Below w.heap.size w wc))
              case first =>
               have H := HC38.out
               clear HC38
               by_cases c39 : ((rd_T45 l0 x13_1).f2) = 6
               ·rw [if_pos c39] at H
                have c39b0 : (((rd_T45 l0 x13_1).f2) == 6) = true := beq_iff_eq.mpr c39
                have c39b1 : (((rd_T45 l0 x13_1).f2) != 6) = false := bne_eq_false_iff_eq.mpr c39
                clear c39
                (first | rw [c39b0] | (simp only [i64_w, i32_w]; rw [c39b0]) | skip)
                have H' := Aside0.mk H
                clear H
                obtain ⟨hcz40_0, hcz40_1, hcz40_2, hcz40_3, hcz40_4, hcz40_5, hcz40_6, hcz40_7, hcz40_8, hcz40_9, hcz40_10, hcz40_11⟩ := cells12 BK122.out
                have hfz40_ := fun j => blk_frozen BK122.out j
                go_wp2
                go_meet
                case rel => exact ⟨_, (false), (by first | rfl | (simp; done) | (simp [*]; done)), H', ⟨by have := HK1.out; have := HJ8.out; have := HJ22.out; first | omega | exact Nat.le_refl _⟩, ⟨by (with_reducible repeat (first | refine blk_drewN ?_ _ | refine blk_drew ?_ | refine blk_alloc ?_ _)); exact BK122.out⟩, ⟨by repeat (first | (with_reducible first | exact HB.out | apply below_alloc | apply pw_below_drewN | apply below_drew1 | refine below_set ?_ GE122.out) | exact HB.out)⟩⟩
               ·rw [if_neg c39] at H
                have c39b0 : (((rd_T45 l0 x13_1).f2) == 6) = false := beq_eq_false_iff_ne.mpr c39
                have c39b1 : (((rd_T45 l0 x13_1).f2) != 6) = true := bne_iff_ne.mpr c39
                (first | rw [c39b0] | (simp only [i64_w, i32_w]; rw [c39b0]) | skip)
                by_cases c41 : ((rd_T45 l0 x13_1).f8) > 0
                ·rw [if_pos c41] at H
                 have c41b0 : decide (0 < ((rd_T45 l0 x13_1).f8)) = true := decide_eq_true c41
                 clear c41
                 have H' := Aside0.mk H
                 clear H
                 obtain ⟨hcz42_0, hcz42_1, hcz42_2, hcz42_3, hcz42_4, hcz42_5, hcz42_6, hcz42_7, hcz42_8, hcz42_9, hcz42_10, hcz42_11⟩ := cells12 BK122.out
                 have hfz42_ := fun j => blk_frozen BK122.out j
                 go_wp2
                 go_meet
                 case rel => exact ⟨_, (true), (by first | rfl | (simp; done) | (simp [*]; done)), H', ⟨by have := HK1.out; have := HJ8.out; have := HJ22.out; first | omega | exact Nat.le_refl _⟩, ⟨by (with_reducible repeat (first | refine blk_drewN ?_ _ | refine blk_drew ?_ | refine blk_alloc ?_ _)); exact BK122.out⟩, ⟨by repeat (first | (with_reducible first | exact HB.out | apply below_alloc | apply pw_below_drewN | apply below_drew1 | refine below_set ?_ GE122.out) | exact HB.out)⟩⟩
                ·rw [if_neg c41] at H
                 have c41b0 : decide (0 < ((rd_T45 l0 x13_1).f8)) = false := decide_eq_false c41
                 clear c41
                 have H' := Aside0.mk H
                 clear H
                 obtain ⟨hcz43_0, hcz43_1, hcz43_2, hcz43_3, hcz43_4, hcz43_5, hcz43_6, hcz43_7, hcz43_8, hcz43_9, hcz43_10, hcz43_11⟩ := cells12 BK122.out
                 have hfz43_ := fun j => blk_frozen BK122.out j
                 go_wp2
                 go_meet
                 case rel => exact ⟨_, (decide (((rd_T45 l0 x13_1).f9) > 0)), (by first | rfl | (simp; done) | (simp [*]; done)), H', ⟨by have := HK1.out; have := HJ8.out; have := HJ22.out; first | omega | exact Nat.le_refl _⟩, ⟨by (with_reducible repeat (first | refine blk_drewN ?_ _ | refine blk_drew ?_ | refine blk_alloc ?_ _)); exact BK122.out⟩, ⟨by repeat (first | (with_reducible first | exact HB.out | apply below_alloc | apply pw_below_drewN | apply below_drew1 | refine below_set ?_ GE122.out) | exact HB.out)⟩⟩
              case rest =>
               clear HC38; try clear c1; try clear p1; try clear q1; try clear hx1; try clear c2; try clear c2b0; try clear c2b1; try clear p2; try clear c3; try clear c3b0; try clear c4; try clear c4b0; try clear c5; try clear c5b0; try clear c7; try clear c9; try clear c12; try clear p12; try clear q12; try clear hx12; try clear c14; try clear c16; try clear c21; try clear c25; try clear c27; try clear c29; try clear c31; try clear c37; try clear c39; try clear c39b0; try clear c39b1; try clear c41; try clear c41b0; try clear hcz11_0; try clear hcz11_1; try clear hcz11_10; try clear hcz11_11; try clear hcz11_2; try clear hcz11_3; try clear hcz11_4; try clear hcz11_5; try clear hcz11_6; try clear hcz11_7; try clear hcz11_8; try clear hcz11_9; try clear hcz18_0; try clear hcz18_1; try clear hcz18_10; try clear hcz18_11; try clear hcz18_2; try clear hcz18_3; try clear hcz18_4; try clear hcz18_5; try clear hcz18_6; try clear hcz18_7; try clear hcz18_8; try clear hcz18_9; try clear hcz19_0; try clear hcz19_1; try clear hcz19_10; try clear hcz19_11; try clear hcz19_2; try clear hcz19_3; try clear hcz19_4; try clear hcz19_5; try clear hcz19_6; try clear hcz19_7; try clear hcz19_8; try clear hcz19_9; try clear hcz20_0; try clear hcz20_1; try clear hcz20_10; try clear hcz20_11; try clear hcz20_2; try clear hcz20_3; try clear hcz20_4; try clear hcz20_5; try clear hcz20_6; try clear hcz20_7; try clear hcz20_8; try clear hcz20_9; try clear hcz24_0; try clear hcz24_1; try clear hcz24_10; try clear hcz24_11; try clear hcz24_2; try clear hcz24_3; try clear hcz24_4; try clear hcz24_5; try clear hcz24_6; try clear hcz24_7; try clear hcz24_8; try clear hcz24_9; try clear hcz33_0; try clear hcz33_1; try clear hcz33_10; try clear hcz33_11; try clear hcz33_2; try clear hcz33_3; try clear hcz33_4; try clear hcz33_5; try clear hcz33_6; try clear hcz33_7; try clear hcz33_8; try clear hcz33_9; try clear hcz34_0; try clear hcz34_1; try clear hcz34_10; try clear hcz34_11; try clear hcz34_2; try clear hcz34_3; try clear hcz34_4; try clear hcz34_5; try clear hcz34_6; try clear hcz34_7; try clear hcz34_8; try clear hcz34_9; try clear hcz35_0; try clear hcz35_1; try clear hcz35_10; try clear hcz35_11; try clear hcz35_2; try clear hcz35_3; try clear hcz35_4; try clear hcz35_5; try clear hcz35_6; try clear hcz35_7; try clear hcz35_8; try clear hcz35_9; try clear hcz36_0; try clear hcz36_1; try clear hcz36_10; try clear hcz36_11; try clear hcz36_2; try clear hcz36_3; try clear hcz36_4; try clear hcz36_5; try clear hcz36_6; try clear hcz36_7; try clear hcz36_8; try clear hcz36_9; try clear hcz40_0; try clear hcz40_1; try clear hcz40_10; try clear hcz40_11; try clear hcz40_2; try clear hcz40_3; try clear hcz40_4; try clear hcz40_5; try clear hcz40_6; try clear hcz40_7; try clear hcz40_8; try clear hcz40_9; try clear hcz42_0; try clear hcz42_1; try clear hcz42_10; try clear hcz42_11; try clear hcz42_2; try clear hcz42_3; try clear hcz42_4; try clear hcz42_5; try clear hcz42_6; try clear hcz42_7; try clear hcz42_8; try clear hcz42_9; try clear hcz43_0; try clear hcz43_1; try clear hcz43_10; try clear hcz43_11; try clear hcz43_2; try clear hcz43_3; try clear hcz43_4; try clear hcz43_5; try clear hcz43_6; try clear hcz43_7; try clear hcz43_8; try clear hcz43_9; try clear hfz11_0; try clear hfz11_1; try clear hfz11_10; try clear hfz11_11; try clear hfz11_2; try clear hfz11_3; try clear hfz11_4; try clear hfz11_5; try clear hfz11_6; try clear hfz11_7; try clear hfz11_8; try clear hfz11_9; try clear hfz18_0; try clear hfz18_1; try clear hfz18_10; try clear hfz18_11; try clear hfz18_2; try clear hfz18_3; try clear hfz18_4; try clear hfz18_5; try clear hfz18_6; try clear hfz18_7; try clear hfz18_8; try clear hfz18_9; try clear hfz19_0; try clear hfz19_1; try clear hfz19_10; try clear hfz19_11; try clear hfz19_2; try clear hfz19_3; try clear hfz19_4; try clear hfz19_5; try clear hfz19_6; try clear hfz19_7; try clear hfz19_8; try clear hfz19_9; try clear hfz20_0; try clear hfz20_1; try clear hfz20_10; try clear hfz20_11; try clear hfz20_2; try clear hfz20_3; try clear hfz20_4; try clear hfz20_5; try clear hfz20_6; try clear hfz20_7; try clear hfz20_8; try clear hfz20_9; try clear hfz24_0; try clear hfz24_1; try clear hfz24_10; try clear hfz24_11; try clear hfz24_2; try clear hfz24_3; try clear hfz24_4; try clear hfz24_5; try clear hfz24_6; try clear hfz24_7; try clear hfz24_8; try clear hfz24_9; try clear hfz33_0; try clear hfz33_1; try clear hfz33_10; try clear hfz33_11; try clear hfz33_2; try clear hfz33_3; try clear hfz33_4; try clear hfz33_5; try clear hfz33_6; try clear hfz33_7; try clear hfz33_8; try clear hfz33_9; try clear hfz34_0; try clear hfz34_1; try clear hfz34_10; try clear hfz34_11; try clear hfz34_2; try clear hfz34_3; try clear hfz34_4; try clear hfz34_5; try clear hfz34_6; try clear hfz34_7; try clear hfz34_8; try clear hfz34_9; try clear hfz35_0; try clear hfz35_1; try clear hfz35_10; try clear hfz35_11; try clear hfz35_2; try clear hfz35_3; try clear hfz35_4; try clear hfz35_5; try clear hfz35_6; try clear hfz35_7; try clear hfz35_8; try clear hfz35_9; try clear hfz36_0; try clear hfz36_1; try clear hfz36_10; try clear hfz36_11; try clear hfz36_2; try clear hfz36_3; try clear hfz36_4; try clear hfz36_5; try clear hfz36_6; try clear hfz36_7; try clear hfz36_8; try clear hfz36_9; try clear hfz40_0; try clear hfz40_1; try clear hfz40_10; try clear hfz40_11; try clear hfz40_2; try clear hfz40_3; try clear hfz40_4; try clear hfz40_5; try clear hfz40_6; try clear hfz40_7; try clear hfz40_8; try clear hfz40_9; try clear hfz42_0; try clear hfz42_1; try clear hfz42_10; try clear hfz42_11; try clear hfz42_2; try clear hfz42_3; try clear hfz42_4; try clear hfz42_5; try clear hfz42_6; try clear hfz42_7; try clear hfz42_8; try clear hfz42_9; try clear hfz43_0; try clear hfz43_1; try clear hfz43_10; try clear hfz43_11; try clear hfz43_2; try clear hfz43_3; try clear hfz43_4; try clear hfz43_5; try clear hfz43_6; try clear hfz43_7; try clear hfz43_8; try clear hfz43_9; try clear hx121_0; try clear hx121_1; try clear hx121_10; try clear hx121_11; try clear hx121_2; try clear hx121_3; try clear hx121_4; try clear hx121_5; try clear hx121_6; try clear hx121_7; try clear hx121_8; try clear hx121_9; try clear p121; try clear q121
               obtain ⟨kq, x61_37, rfl, HA, HJ37, BK122, HB⟩ := hcut
               cases kq with
               | zero => exact absurd HA.out (by simp [chanceryref3_ShapesError.j3])
               | succ kj37 =>
                have H := HA.out
                clear HA
                simp only [chanceryref3_ShapesError.j3] at H
                by_cases c44 : x61_37 = true
                ·subst c44
                 have H1 : (some 4) = some r := by rw [if_pos rfl] at H; exact H
                 clear H
                 have H := H1
                 clear H1
                 obtain rfl := Option.some.inj H
                 go_wp2
                 go_ret
                 exact ⟨by first | rfl | (simp [errW_none, errW_some] <;> rfl) | (simp [*, errW_none, errW_some] <;> rfl), by repeat (first | (with_reducible first | exact HB.out | apply below_alloc | apply pw_below_drewN | apply below_drew1 | refine below_set ?_ GE122.out) | exact HB.out)⟩
                ·replace c44 := Bool.eq_false_iff.mpr c44
                 subst c44
                 have H1 : (if 0 ≤ x13_1 then (if x13_1 ≤ (l0.length : Int) then ((chanceryref3_ShapeAt.f kj37 (l0.take (x13_1 : Int).toNat) ((rd_T45 l0 x13_1).f0)).bind fun t137 => (if t137 ≥ 0 then (some 6) else (chanceryref3_ShapesError.l1 kj37 l0 x13_1 ((rd_T45 l0 x13_1).f1) 1 l0 (l0.length : Int) x13_1))) else (none)) else (none)) = some r := by rw [if_neg (show ¬ (false = true) by decide)] at H; exact H
                 clear H
                 have H := H1
                 clear H1
                 by_cases c45 : 0 ≤ x13_1
                 ·rw [if_pos c45] at H
                  have c45b0 := eq_true c45
                  have c45b1 : decide (0 ≤ x13_1) = true := decide_eq_true c45
                  clear c45
                  by_cases c46 : x13_1 ≤ (l0.length : Int)
                  ·rw [if_pos c46] at H
                   have c46b0 := eq_true c46
                   have c46b1 : decide (x13_1 ≤ (l0.length : Int)) = true := decide_eq_true c46
                   clear c46
                   obtain ⟨y133, hy133⟩ : ∃ y_ : List (S45), y_ = (l0.take (x13_1 : Int).toNat) := ⟨_, rfl⟩
                   replace H : ((chanceryref3_ShapeAt.f kj37 y133 ((rd_T45 l0 x13_1).f0)).bind fun t137 => (if t137 ≥ 0 then (some 6) else (chanceryref3_ShapesError.l1 kj37 l0 x13_1 ((rd_T45 l0 x13_1).f1) 1 l0 (l0.length : Int) x13_1))) = some r := by first | (rw [hy133]; with_reducible exact H) | (have H2_ := (Option.bind_some _ _).symm.trans H; rw [hy133]; with_reducible exact H2_) | (have H2_ := (Option.bind_some _ _).symm.trans H; with_reducible exact H2_) | with_reducible exact H | (rw [hy133]; exact H) | exact H
                   have Ny133 := Aside0.mk hy133
                   clear hy133
                   replace H := Option.bind_eq_some_iff.mp H
                   obtain ⟨t137, A470, H⟩ := H
                   replace H : (if t137 ≥ 0 then (some 6) else (chanceryref3_ShapesError.l1 kj37 l0 x13_1 ((rd_T45 l0 x13_1).f1) 1 l0 (l0.length : Int) x13_1)) = some r := H
                   have A47 := Aside0.mk A470
                   clear A470
                   by_cases c48 : t137 ≥ 0
                   ·rw [if_pos c48] at H
                    have c48b0 : decide (0 ≤ t137) = true := decide_eq_true c48
                    clear c48
                    obtain rfl := Option.some.inj H
                    try go_wp2
                    have n0_ := Aside0.mk (blk_drew BK122.out)
                    have n1_ := Aside0.mk (below_drew1 HB.out)
                    clear BK122; clear HB
                    have BK122 := n0_
                    have HB := n1_
                    clear n0_ n1_
                    have q50 : (x13_1 : Int) ≤ ((l0.length : Int) : Int) := of_decide_eq_true (by first | (with_reducible assumption) | assumption)
                    obtain ⟨i050, hi050, _, hsz50, _⟩ := info_parts info45
                    have hroom50 : l0.length ≤ c0 := HC0.out
                    have hC50 : Kd.C k45 _ (some ad121) l0.length l0 := HR0.out
                    try clear hcut53
                    try clear hcut61
                    try clear hcut64
                    try clear hcut69
                    try clear hcut71
                    have hcut50 := cut_to (P := Tryd.prog) 22 45 .i64 Tryd.underlying22 hi050 (some ad121) l0.length c0 x13_1 (of_decide_eq_true (by first | (with_reducible assumption) | assumption)) q50 hroom50
                    have hr50 := Kd.C_take (m := (x13_1 : Int).toNat) hC50 (by omega)
                    have hy50 : y133.length = (x13_1 : Int).toNat := (by rw [Ny133.out, List.length_take]; omega)
                    rw [← Ny133.out] at hr50
                    rw [← hy50] at hcut50
                    have HR136 := Aside0.mk hr50
                    have HC136 := Aside0.mk (show y133.length ≤ c0 from by omega)
                    clear hr50 hC50 hroom50 hi050 hsz50
                    have KY50 := Aside0.mk hy50
                    clear hy50
                    replace q50 := eq_true q50
                    refine start_ (n := 8) (S := fun w' => w'.cell? ⟨gb122, 0, none⟩ = some (.int .i64 ((rd_T45 l0 x13_1).f0)) ∧ w'.cell? ⟨gb122, 1, none⟩ = some (.int .i64 ((rd_T45 l0 x13_1).f1)) ∧ w'.cell? ⟨gb122, 2, none⟩ = some (.int .i64 ((rd_T45 l0 x13_1).f2)) ∧ w'.cell? ⟨gb122, 3, none⟩ = some (.int .i64 ((rd_T45 l0 x13_1).f3)) ∧ w'.cell? ⟨gb122, 4, none⟩ = some (.int .i64 ((rd_T45 l0 x13_1).f4)) ∧ w'.cell? ⟨gb122, 5, none⟩ = some (.int .i64 ((rd_T45 l0 x13_1).f5)) ∧ w'.cell? ⟨gb122, 6, none⟩ = some (.int .i64 ((rd_T45 l0 x13_1).f6)) ∧ w'.cell? ⟨gb122, 7, none⟩ = some (.int .i64 ((rd_T45 l0 x13_1).f7)) ∧ w'.cell? ⟨gb122, 8, none⟩ = some (.int .i64 ((rd_T45 l0 x13_1).f8)) ∧ w'.cell? ⟨gb122, 9, none⟩ = some (.int .i64 ((rd_T45 l0 x13_1).f9)) ∧ w'.cell? ⟨gb122, 10, none⟩ = some (.string ((rd_T45 l0 x13_1).f10)) ∧ w'.cell? ⟨gb122, 11, none⟩ = some (.string ((rd_T45 l0 x13_1).f11))) (ds := []) #[false, false, false, false, false, false, false, false] (by kernel_rfl) rfl rfl ⟨(blk_cell BK122.out 0).trans rfl, (blk_cell BK122.out 1).trans rfl, (blk_cell BK122.out 2).trans rfl, (blk_cell BK122.out 3).trans rfl, (blk_cell BK122.out 4).trans rfl, (blk_cell BK122.out 5).trans rfl, (blk_cell BK122.out 6).trans rfl, (blk_cell BK122.out 7).trans rfl, (blk_cell BK122.out 8).trans rfl, (blk_cell BK122.out 9).trans rfl, (blk_cell BK122.out 10).trans rfl, (blk_cell BK122.out 11).trans rfl⟩ (fun hHeld => ?_); refine with_tabW chanceryref3_ShapesError.tab21 chanceryref3_ShapesError.bits21 (fun HT_ HW_ => ?_)
                    generalize wc.drew = w49 at BK122 HB HR136 hHeld ⊢
                    refine pure_ (i := 0) (N := some 76) (v := ?_) (a' := ?_) #[true, false, false, false, false, false, false, false] rfl rfl (any_of HT_.out (by kernel_rfl)) (fun _ _ _ h => h) (Or.inl ⟨by rfl, ?_⟩) ?_ ?_
                    rotate_left
                    ·intro w'
                     go_simp
                     with_reducible rfl
                    rotate_left
                    ·simp only [Act.put, List.setIfInBounds_toArray, List.set_cons_zero, List.set_cons_succ, i64_w, i32_w]
                     rfl
                    refine pure_ (i := 1) (N := some 77) (v := ?_) (a' := ?_) #[true, true, false, false, false, false, false, false] rfl rfl (any_of HT_.out (by kernel_rfl)) (fun _ _ _ h => h) (Or.inl ⟨by rfl, ?_⟩) ?_ ?_
                    rotate_left
                    ·intro w'
                     go_simp
                     with_reducible rfl
                    rotate_left
                    ·simp only [Act.put, List.setIfInBounds_toArray, List.set_cons_zero, List.set_cons_succ, i64_w, i32_w]
                     rfl
                    refine pure_ (i := 2) (N := some 78) (v := ?_) (a' := ?_) #[true, true, true, false, false, false, false, false] rfl rfl (any_of HT_.out (by kernel_rfl)) (fun _ _ _ h => h) (Or.inl ⟨by rfl, ?_⟩) ?_ ?_
                    rotate_left
                    ·intro w'
                     go_simp
                     with_reducible rfl
                    rotate_left
                    ·simp only [Act.put, List.setIfInBounds_toArray, List.set_cons_zero, List.set_cons_succ, i64_w, i32_w]
                     rfl
                    refine pure_ (i := 3) (N := some 79) (v := ?_) (a' := ?_) #[true, true, true, true, false, false, false, false] rfl rfl (any_of HT_.out (by kernel_rfl)) (fun _ _ _ h => h) (Or.inl ⟨by rfl, ?_⟩) ?_ ?_
                    rotate_left
                    ·intro w'
                     go_simp
                     with_reducible rfl
                    rotate_left
                    ·simp only [Act.put, List.setIfInBounds_toArray, List.set_cons_zero, List.set_cons_succ, i64_w, i32_w]
                     rfl
                    refine take_ (i := 4) (N := some 80) (v := ?_) (a' := ?_) #[true, true, true, true, true, false, false, false] rfl rfl (take_ofW HT_.out HW_.out (by kernel_rfl)) (fun _ _ _ h => h) (Or.inl ⟨by rfl, ?_⟩) hHeld ?_ ?_
                    rotate_left
                    ·rintro w' ⟨s0, s1, s2, s3, s4, s5, s6, s7, s8, s9, s10, s11⟩
                     go_simp
                     with_reducible rfl
                    rotate_left
                    ·simp only [Act.put, List.setIfInBounds_toArray, List.set_cons_zero, List.set_cons_succ, i64_w, i32_w]
                     rfl
                    refine one_ (i := 5) (N := some 81) #[true, true, true, true, true, true, false, false] rfl rfl (one_of HT_.out (by kernel_rfl)) (by decide) (fun K hK => ?_)
                    refine goes_ Tryd.func11 (by kernel_rfl) rfl #[.slice (some ad121) y133.length c0, .int .i64 ((rd_T45 l0 x13_1).f0)] (by rfl) rfl rfl (by (try simp only [List.map_toArray, List.map_cons, List.map_nil]); first | done | rfl) ?_
                    with_reducible refine (chanceryref3_ShapeAt.calls kj37 _ _ y133 ((rd_T45 l0 x13_1).f0) t137 _ ?side1 ?side2 A47.out).mono ?_
                    (case side1 => repeat (first | exact (Kd.C_below HR136.out HB.out) | (with_reducible refine Kd.C_alloc ?_ _) | (with_reducible refine Kd.C_drewN ?_ _) | (with_reducible refine Kd.C_drew ?_)))
                    (case side2 => exact HC136.out)
                    rintro e w51 ⟨rfl, hb⟩
                    refine ⟨_, rfl, ?_⟩
                    have n0_ := Aside0.mk (blk_below (g := gb122) (o := .cells #[.int .i64 ((rd_T45 l0 x13_1).f0), .int .i64 ((rd_T45 l0 x13_1).f1), .int .i64 ((rd_T45 l0 x13_1).f2), .int .i64 ((rd_T45 l0 x13_1).f3), .int .i64 ((rd_T45 l0 x13_1).f4), .int .i64 ((rd_T45 l0 x13_1).f5), .int .i64 ((rd_T45 l0 x13_1).f6), .int .i64 ((rd_T45 l0 x13_1).f7), .int .i64 ((rd_T45 l0 x13_1).f8), .int .i64 ((rd_T45 l0 x13_1).f9), .string ((rd_T45 l0 x13_1).f10), .string ((rd_T45 l0 x13_1).f11)] 45 (0, 0)) (by (with_reducible repeat (first | refine blk_drewN ?_ _ | refine blk_drew ?_ | refine blk_alloc ?_ _)); exact BK122.out) hb)
                    have n1_ := Aside0.mk (below_step (by repeat (first | (with_reducible first | exact HB.out | apply below_alloc | apply pw_below_drewN | apply below_drew1 | refine below_set ?_ GE122.out) | exact HB.out)) hb)
                    clear BK122; clear HB
                    have BK122 := n0_
                    have HB := n1_
                    clear n0_ n1_
                    (try clear hb)
                    (try clear hb2)
                    (try clear hk)
                    (try clear hi)
                    refine hK.out _ _ ⟨(blk_cell BK122.out 0).trans rfl, (blk_cell BK122.out 1).trans rfl, (blk_cell BK122.out 2).trans rfl, (blk_cell BK122.out 3).trans rfl, (blk_cell BK122.out 4).trans rfl, (blk_cell BK122.out 5).trans rfl, (blk_cell BK122.out 6).trans rfl, (blk_cell BK122.out 7).trans rfl, (blk_cell BK122.out 8).trans rfl, (blk_cell BK122.out 9).trans rfl, (blk_cell BK122.out 10).trans rfl, (blk_cell BK122.out 11).trans rfl⟩ (fun hHeld => ?_)
                    clear hK K
                    refine norm_ (a' := ?_) ?_ ?_
                    rotate_left
                    ·show Act.put _ (some 81) _ = _
                     simp only [Act.put, List.setIfInBounds_toArray, List.set_cons_zero, List.set_cons_succ, i64_w, i32_w]
                     rfl
                    refine pure_ (i := 6) (N := some 82) (v := ?_) (a' := ?_) #[true, true, true, true, true, true, true, false] rfl rfl (any_of HT_.out (by kernel_rfl)) (fun _ _ _ h => h) (Or.inl ⟨by rfl, ?_⟩) ?_ ?_
                    rotate_left
                    ·intro w'
                     go_simp
                     with_reducible rfl
                    rotate_left
                    ·simp only [Act.put, List.setIfInBounds_toArray, List.set_cons_zero, List.set_cons_succ, i64_w, i32_w]
                     rfl
                    refine pure_ (i := 7) (N := some 75) (v := ?_) (a' := ?_) #[true, true, true, true, true, true, true, true] rfl rfl (any_of HT_.out (by kernel_rfl)) (fun _ _ _ h => h) (Or.inl ⟨by rfl, ?_⟩) ?_ ?_
                    rotate_left
                    ·intro w'
                     go_simp
                     with_reducible rfl
                    rotate_left
                    ·simp only [Act.put, List.setIfInBounds_toArray, List.set_cons_zero, List.set_cons_succ, i64_w, i32_w]
                     rfl
                    refine done_ (done_of HT_.out (by kernel_rfl)) ?_
                    try go_wp2
                    go_ret
                    exact ⟨by first | rfl | (simp [errW_none, errW_some] <;> rfl) | (simp [*, errW_none, errW_some] <;> rfl), by repeat (first | (with_reducible first | exact HB.out | apply below_alloc | apply pw_below_drewN | apply below_drew1 | refine below_set ?_ GE122.out) | exact HB.out)⟩
                   ·rw [if_neg c48] at H
                    have c48b0 : decide (0 ≤ t137) = false := decide_eq_false c48
                    clear c48
                    have H' := Aside0.mk H
                    clear H
                    try go_wp2
                    have n0_ := Aside0.mk (blk_drew BK122.out)
                    have n1_ := Aside0.mk (below_drew1 HB.out)
                    clear BK122; clear HB
                    have BK122 := n0_
                    have HB := n1_
                    clear n0_ n1_
                    have q53 : (x13_1 : Int) ≤ ((l0.length : Int) : Int) := of_decide_eq_true (by first | (with_reducible assumption) | assumption)
                    obtain ⟨i053, hi053, _, hsz53, _⟩ := info_parts info45
                    have hroom53 : l0.length ≤ c0 := HC0.out
                    have hC53 : Kd.C k45 _ (some ad121) l0.length l0 := HR0.out
                    try clear hcut50
                    try clear hcut61
                    try clear hcut64
                    try clear hcut69
                    try clear hcut71
                    have hcut53 := cut_to (P := Tryd.prog) 22 45 .i64 Tryd.underlying22 hi053 (some ad121) l0.length c0 x13_1 (of_decide_eq_true (by first | (with_reducible assumption) | assumption)) q53 hroom53
                    have hr53 := Kd.C_take (m := (x13_1 : Int).toNat) hC53 (by omega)
                    have hy53 : y133.length = (x13_1 : Int).toNat := (by rw [Ny133.out, List.length_take]; omega)
                    rw [← Ny133.out] at hr53
                    rw [← hy53] at hcut53
                    have HR136 := Aside0.mk hr53
                    have HC136 := Aside0.mk (show y133.length ≤ c0 from by omega)
                    clear hr53 hC53 hroom53 hi053 hsz53
                    have KY53 := Aside0.mk hy53
                    clear hy53
                    replace q53 := eq_true q53
                    refine start_ (n := 8) (S := fun w' => w'.cell? ⟨gb122, 0, none⟩ = some (.int .i64 ((rd_T45 l0 x13_1).f0)) ∧ w'.cell? ⟨gb122, 1, none⟩ = some (.int .i64 ((rd_T45 l0 x13_1).f1)) ∧ w'.cell? ⟨gb122, 2, none⟩ = some (.int .i64 ((rd_T45 l0 x13_1).f2)) ∧ w'.cell? ⟨gb122, 3, none⟩ = some (.int .i64 ((rd_T45 l0 x13_1).f3)) ∧ w'.cell? ⟨gb122, 4, none⟩ = some (.int .i64 ((rd_T45 l0 x13_1).f4)) ∧ w'.cell? ⟨gb122, 5, none⟩ = some (.int .i64 ((rd_T45 l0 x13_1).f5)) ∧ w'.cell? ⟨gb122, 6, none⟩ = some (.int .i64 ((rd_T45 l0 x13_1).f6)) ∧ w'.cell? ⟨gb122, 7, none⟩ = some (.int .i64 ((rd_T45 l0 x13_1).f7)) ∧ w'.cell? ⟨gb122, 8, none⟩ = some (.int .i64 ((rd_T45 l0 x13_1).f8)) ∧ w'.cell? ⟨gb122, 9, none⟩ = some (.int .i64 ((rd_T45 l0 x13_1).f9)) ∧ w'.cell? ⟨gb122, 10, none⟩ = some (.string ((rd_T45 l0 x13_1).f10)) ∧ w'.cell? ⟨gb122, 11, none⟩ = some (.string ((rd_T45 l0 x13_1).f11))) (ds := []) #[false, false, false, false, false, false, false, false] (by kernel_rfl) rfl rfl ⟨(blk_cell BK122.out 0).trans rfl, (blk_cell BK122.out 1).trans rfl, (blk_cell BK122.out 2).trans rfl, (blk_cell BK122.out 3).trans rfl, (blk_cell BK122.out 4).trans rfl, (blk_cell BK122.out 5).trans rfl, (blk_cell BK122.out 6).trans rfl, (blk_cell BK122.out 7).trans rfl, (blk_cell BK122.out 8).trans rfl, (blk_cell BK122.out 9).trans rfl, (blk_cell BK122.out 10).trans rfl, (blk_cell BK122.out 11).trans rfl⟩ (fun hHeld => ?_); refine with_tabW chanceryref3_ShapesError.tab21 chanceryref3_ShapesError.bits21 (fun HT_ HW_ => ?_)
                    generalize wc.drew = w52 at BK122 HB HR136 hHeld ⊢
                    refine pure_ (i := 0) (N := some 76) (v := ?_) (a' := ?_) #[true, false, false, false, false, false, false, false] rfl rfl (any_of HT_.out (by kernel_rfl)) (fun _ _ _ h => h) (Or.inl ⟨by rfl, ?_⟩) ?_ ?_
                    rotate_left
                    ·intro w'
                     go_simp
                     with_reducible rfl
                    rotate_left
                    ·simp only [Act.put, List.setIfInBounds_toArray, List.set_cons_zero, List.set_cons_succ, i64_w, i32_w]
                     rfl
                    refine pure_ (i := 1) (N := some 77) (v := ?_) (a' := ?_) #[true, true, false, false, false, false, false, false] rfl rfl (any_of HT_.out (by kernel_rfl)) (fun _ _ _ h => h) (Or.inl ⟨by rfl, ?_⟩) ?_ ?_
                    rotate_left
                    ·intro w'
                     go_simp
                     with_reducible rfl
                    rotate_left
                    ·simp only [Act.put, List.setIfInBounds_toArray, List.set_cons_zero, List.set_cons_succ, i64_w, i32_w]
                     rfl
                    refine pure_ (i := 2) (N := some 78) (v := ?_) (a' := ?_) #[true, true, true, false, false, false, false, false] rfl rfl (any_of HT_.out (by kernel_rfl)) (fun _ _ _ h => h) (Or.inl ⟨by rfl, ?_⟩) ?_ ?_
                    rotate_left
                    ·intro w'
                     go_simp
                     with_reducible rfl
                    rotate_left
                    ·simp only [Act.put, List.setIfInBounds_toArray, List.set_cons_zero, List.set_cons_succ, i64_w, i32_w]
                     rfl
                    refine pure_ (i := 3) (N := some 79) (v := ?_) (a' := ?_) #[true, true, true, true, false, false, false, false] rfl rfl (any_of HT_.out (by kernel_rfl)) (fun _ _ _ h => h) (Or.inl ⟨by rfl, ?_⟩) ?_ ?_
                    rotate_left
                    ·intro w'
                     go_simp
                     with_reducible rfl
                    rotate_left
                    ·simp only [Act.put, List.setIfInBounds_toArray, List.set_cons_zero, List.set_cons_succ, i64_w, i32_w]
                     rfl
                    refine take_ (i := 4) (N := some 80) (v := ?_) (a' := ?_) #[true, true, true, true, true, false, false, false] rfl rfl (take_ofW HT_.out HW_.out (by kernel_rfl)) (fun _ _ _ h => h) (Or.inl ⟨by rfl, ?_⟩) hHeld ?_ ?_
                    rotate_left
                    ·rintro w' ⟨s0, s1, s2, s3, s4, s5, s6, s7, s8, s9, s10, s11⟩
                     go_simp
                     with_reducible rfl
                    rotate_left
                    ·simp only [Act.put, List.setIfInBounds_toArray, List.set_cons_zero, List.set_cons_succ, i64_w, i32_w]
                     rfl
                    refine one_ (i := 5) (N := some 81) #[true, true, true, true, true, true, false, false] rfl rfl (one_of HT_.out (by kernel_rfl)) (by decide) (fun K hK => ?_)
                    refine goes_ Tryd.func11 (by kernel_rfl) rfl #[.slice (some ad121) y133.length c0, .int .i64 ((rd_T45 l0 x13_1).f0)] (by rfl) rfl rfl (by (try simp only [List.map_toArray, List.map_cons, List.map_nil]); first | done | rfl) ?_
                    with_reducible refine (chanceryref3_ShapeAt.calls kj37 _ _ y133 ((rd_T45 l0 x13_1).f0) t137 _ ?side1 ?side2 A47.out).mono ?_
                    (case side1 => repeat (first | exact (Kd.C_below HR136.out HB.out) | (with_reducible refine Kd.C_alloc ?_ _) | (with_reducible refine Kd.C_drewN ?_ _) | (with_reducible refine Kd.C_drew ?_)))
                    (case side2 => exact HC136.out)
                    rintro e w54 ⟨rfl, hb⟩
                    refine ⟨_, rfl, ?_⟩
                    have n0_ := Aside0.mk (blk_below (g := gb122) (o := .cells #[.int .i64 ((rd_T45 l0 x13_1).f0), .int .i64 ((rd_T45 l0 x13_1).f1), .int .i64 ((rd_T45 l0 x13_1).f2), .int .i64 ((rd_T45 l0 x13_1).f3), .int .i64 ((rd_T45 l0 x13_1).f4), .int .i64 ((rd_T45 l0 x13_1).f5), .int .i64 ((rd_T45 l0 x13_1).f6), .int .i64 ((rd_T45 l0 x13_1).f7), .int .i64 ((rd_T45 l0 x13_1).f8), .int .i64 ((rd_T45 l0 x13_1).f9), .string ((rd_T45 l0 x13_1).f10), .string ((rd_T45 l0 x13_1).f11)] 45 (0, 0)) (by (with_reducible repeat (first | refine blk_drewN ?_ _ | refine blk_drew ?_ | refine blk_alloc ?_ _)); exact BK122.out) hb)
                    have n1_ := Aside0.mk (below_step (by repeat (first | (with_reducible first | exact HB.out | apply below_alloc | apply pw_below_drewN | apply below_drew1 | refine below_set ?_ GE122.out) | exact HB.out)) hb)
                    clear BK122; clear HB
                    have BK122 := n0_
                    have HB := n1_
                    clear n0_ n1_
                    (try clear hb)
                    (try clear hb2)
                    (try clear hk)
                    (try clear hi)
                    refine hK.out _ _ ⟨(blk_cell BK122.out 0).trans rfl, (blk_cell BK122.out 1).trans rfl, (blk_cell BK122.out 2).trans rfl, (blk_cell BK122.out 3).trans rfl, (blk_cell BK122.out 4).trans rfl, (blk_cell BK122.out 5).trans rfl, (blk_cell BK122.out 6).trans rfl, (blk_cell BK122.out 7).trans rfl, (blk_cell BK122.out 8).trans rfl, (blk_cell BK122.out 9).trans rfl, (blk_cell BK122.out 10).trans rfl, (blk_cell BK122.out 11).trans rfl⟩ (fun hHeld => ?_)
                    clear hK K
                    refine norm_ (a' := ?_) ?_ ?_
                    rotate_left
                    ·show Act.put _ (some 81) _ = _
                     simp only [Act.put, List.setIfInBounds_toArray, List.set_cons_zero, List.set_cons_succ, i64_w, i32_w]
                     rfl
                    refine pure_ (i := 6) (N := some 82) (v := ?_) (a' := ?_) #[true, true, true, true, true, true, true, false] rfl rfl (any_of HT_.out (by kernel_rfl)) (fun _ _ _ h => h) (Or.inl ⟨by rfl, ?_⟩) ?_ ?_
                    rotate_left
                    ·intro w'
                     go_simp
                     with_reducible rfl
                    rotate_left
                    ·simp only [Act.put, List.setIfInBounds_toArray, List.set_cons_zero, List.set_cons_succ, i64_w, i32_w]
                     rfl
                    refine pure_ (i := 7) (N := some 75) (v := ?_) (a' := ?_) #[true, true, true, true, true, true, true, true] rfl rfl (any_of HT_.out (by kernel_rfl)) (fun _ _ _ h => h) (Or.inl ⟨by rfl, ?_⟩) ?_ ?_
                    rotate_left
                    ·intro w'
                     go_simp
                     with_reducible rfl
                    rotate_left
                    ·simp only [Act.put, List.setIfInBounds_toArray, List.set_cons_zero, List.set_cons_succ, i64_w, i32_w]
                     rfl
                    refine done_ (done_of HT_.out (by kernel_rfl)) ?_
                    obtain ⟨hcz55_0, hcz55_1, hcz55_2, hcz55_3, hcz55_4, hcz55_5, hcz55_6, hcz55_7, hcz55_8, hcz55_9, hcz55_10, hcz55_11⟩ := cells12 BK122.out
                    have hfz55_ := fun j => blk_frozen BK122.out j
                    try go_wp2
                    go_loopg [5, 6] kj37 (fun kq v5 v6 w' => ∃ (x5_5 : Int) (x6_5 : Int), v5 = .int .i64 x5_5 ∧ v6 = .int .i64 x6_5 ∧ Aside0 (chanceryref3_ShapesError.l1 kq l0 x13_1 x5_5 x6_5 l0 (l0.length : Int) x13_1 = some r) ∧ Aside0 (kq ≤ kj37) ∧ Aside0 (w'.heap[gb122]? = some (.cells #[.int .i64 ((rd_T45 l0 x13_1).f0), .int .i64 ((rd_T45 l0 x13_1).f1), .int .i64 ((rd_T45 l0 x13_1).f2), .int .i64 ((rd_T45 l0 x13_1).f3), .int .i64 ((rd_T45 l0 x13_1).f4), .int .i64 ((rd_T45 l0 x13_1).f5), .int .i64 ((rd_T45 l0 x13_1).f6), .int .i64 ((rd_T45 l0 x13_1).f7), .int .i64 ((rd_T45 l0 x13_1).f8), .int .i64 ((rd_T45 l0 x13_1).f9), .string ((rd_T45 l0 x13_1).f10), .string ((rd_T45 l0 x13_1).f11)] 45 (0, 0))) ∧ Aside0 (Below w.heap.size w w'))
                    case atStart => exact ⟨(((rd_T45 l0 x13_1).f1)), (1), (by first | rfl | (simp; done) | (simp [*]; done)), (by first | rfl | (simp; done) | (simp [*]; done)), H', ⟨Nat.le_refl _⟩, ⟨by (with_reducible repeat (first | refine blk_drewN ?_ _ | refine blk_drew ?_ | refine blk_alloc ?_ _)); exact BK122.out⟩, ⟨by repeat (first | (with_reducible first | exact HB.out | apply below_alloc | apply pw_below_drewN | apply below_drew1 | refine below_set ?_ GE122.out) | exact HB.out)⟩⟩
                    case round =>
                     clear H'
                     try clear c1; try clear p1; try clear q1; try clear hx1; try clear p2; try clear c4; try clear q5; try clear c11; try clear p12; try clear q12; try clear hx12; try clear c44; try clear c45; try clear c45b0; try clear c45b1; try clear c46; try clear c46b0; try clear c46b1; try clear c48; try clear c48b0; try clear q50; try clear q53; try clear hcz11_3; try clear hcz11_4; try clear hcz11_5; try clear hcz11_6; try clear hcz11_7; try clear hcz11_8; try clear hcz11_9; try clear hcz18_0; try clear hcz18_1; try clear hcz18_10; try clear hcz18_11; try clear hcz18_2; try clear hcz18_3; try clear hcz18_4; try clear hcz18_5; try clear hcz18_6; try clear hcz18_7; try clear hcz18_8; try clear hcz18_9; try clear hcz19_0; try clear hcz19_1; try clear hcz19_10; try clear hcz19_11; try clear hcz19_2; try clear hcz19_3; try clear hcz19_4; try clear hcz19_5; try clear hcz19_6; try clear hcz19_7; try clear hcz19_8; try clear hcz19_9; try clear hcz20_0; try clear hcz20_1; try clear hcz20_10; try clear hcz20_11; try clear hcz20_2; try clear hcz20_3; try clear hcz20_4; try clear hcz20_5; try clear hcz20_6; try clear hcz20_7; try clear hcz20_8; try clear hcz20_9; try clear hcz24_0; try clear hcz24_1; try clear hcz24_10; try clear hcz24_11; try clear hcz24_2; try clear hcz24_3; try clear hcz24_4; try clear hcz24_5; try clear hcz24_6; try clear hcz24_7; try clear hcz24_8; try clear hcz24_9; try clear hcz33_0; try clear hcz33_1; try clear hcz33_10; try clear hcz33_11; try clear hcz33_2; try clear hcz33_3; try clear hcz33_4; try clear hcz33_5; try clear hcz33_6; try clear hcz33_7; try clear hcz33_8; try clear hcz33_9; try clear hcz34_0; try clear hcz34_1; try clear hcz34_10; try clear hcz34_11; try clear hcz34_2; try clear hcz34_3; try clear hcz34_4; try clear hcz34_5; try clear hcz34_6; try clear hcz34_7; try clear hcz34_8; try clear hcz34_9; try clear hcz35_0; try clear hcz35_1; try clear hcz35_10; try clear hcz35_11; try clear hcz35_2; try clear hcz35_3; try clear hcz35_4; try clear hcz35_5; try clear hcz35_6; try clear hcz35_7; try clear hcz35_8; try clear hcz35_9; try clear hcz36_0; try clear hcz36_1; try clear hcz36_10; try clear hcz36_11; try clear hcz36_2; try clear hcz36_3; try clear hcz36_4; try clear hcz36_5; try clear hcz36_6; try clear hcz36_7; try clear hcz36_8; try clear hcz36_9; try clear hcz40_0; try clear hcz40_1; try clear hcz40_10; try clear hcz40_11; try clear hcz40_2; try clear hcz40_3; try clear hcz40_4; try clear hcz40_5; try clear hcz40_6; try clear hcz40_7; try clear hcz40_8; try clear hcz40_9; try clear hcz42_0; try clear hcz42_1; try clear hcz42_10; try clear hcz42_11; try clear hcz42_2; try clear hcz42_3; try clear hcz42_4; try clear hcz42_5; try clear hcz42_6; try clear hcz42_7; try clear hcz42_8; try clear hcz42_9; try clear hcz43_0; try clear hcz43_1; try clear hcz43_10; try clear hcz43_11; try clear hcz43_2; try clear hcz43_3; try clear hcz43_4; try clear hcz43_5; try clear hcz43_6; try clear hcz43_7; try clear hcz43_8; try clear hcz43_9; try clear hcz55_0; try clear hcz55_1; try clear hcz55_10; try clear hcz55_11; try clear hcz55_2; try clear hcz55_3; try clear hcz55_4; try clear hcz55_5; try clear hcz55_6; try clear hcz55_7; try clear hcz55_8; try clear hcz55_9; try clear hfz11_0; try clear hfz11_1; try clear hfz11_10; try clear hfz11_11; try clear hfz11_2; try clear hfz11_3; try clear hfz11_4; try clear hfz11_5; try clear hfz11_6; try clear hfz11_7; try clear hfz11_8; try clear hfz11_9; try clear hfz18_0; try clear hfz18_1; try clear hfz18_10; try clear hfz18_11; try clear hfz18_2; try clear hfz18_3; try clear hfz18_4; try clear hfz18_5; try clear hfz18_6; try clear hfz18_7; try clear hfz18_8; try clear hfz18_9; try clear hfz19_0; try clear hfz19_1; try clear hfz19_10; try clear hfz19_11; try clear hfz19_2; try clear hfz19_3; try clear hfz19_4; try clear hfz19_5; try clear hfz19_6; try clear hfz19_7; try clear hfz19_8; try clear hfz19_9; try clear hfz20_0; try clear hfz20_1; try clear hfz20_10; try clear hfz20_11; try clear hfz20_2; try clear hfz20_3; try clear hfz20_4; try clear hfz20_5; try clear hfz20_6; try clear hfz20_7; try clear hfz20_8; try clear hfz20_9; try clear hfz24_0; try clear hfz24_1; try clear hfz24_10; try clear hfz24_11; try clear hfz24_2; try clear hfz24_3; try clear hfz24_4; try clear hfz24_5; try clear hfz24_6; try clear hfz24_7; try clear hfz24_8; try clear hfz24_9; try clear hfz33_0; try clear hfz33_1; try clear hfz33_10; try clear hfz33_11; try clear hfz33_2; try clear hfz33_3; try clear hfz33_4; try clear hfz33_5; try clear hfz33_6; try clear hfz33_7; try clear hfz33_8; try clear hfz33_9; try clear hfz34_0; try clear hfz34_1; try clear hfz34_10; try clear hfz34_11; try clear hfz34_2; try clear hfz34_3; try clear hfz34_4; try clear hfz34_5; try clear hfz34_6; try clear hfz34_7; try clear hfz34_8; try clear hfz34_9; try clear hfz35_0; try clear hfz35_1; try clear hfz35_10; try clear hfz35_11; try clear hfz35_2; try clear hfz35_3; try clear hfz35_4; try clear hfz35_5; try clear hfz35_6; try clear hfz35_7; try clear hfz35_8; try clear hfz35_9; try clear hfz36_0; try clear hfz36_1; try clear hfz36_10; try clear hfz36_11; try clear hfz36_2; try clear hfz36_3; try clear hfz36_4; try clear hfz36_5; try clear hfz36_6; try clear hfz36_7; try clear hfz36_8; try clear hfz36_9; try clear hfz40_0; try clear hfz40_1; try clear hfz40_10; try clear hfz40_11; try clear hfz40_2; try clear hfz40_3; try clear hfz40_4; try clear hfz40_5; try clear hfz40_6; try clear hfz40_7; try clear hfz40_8; try clear hfz40_9; try clear hfz42_0; try clear hfz42_1; try clear hfz42_10; try clear hfz42_11; try clear hfz42_2; try clear hfz42_3; try clear hfz42_4; try clear hfz42_5; try clear hfz42_6; try clear hfz42_7; try clear hfz42_8; try clear hfz42_9; try clear hfz43_0; try clear hfz43_1; try clear hfz43_10; try clear hfz43_11; try clear hfz43_2; try clear hfz43_3; try clear hfz43_4; try clear hfz43_5; try clear hfz43_6; try clear hfz43_7; try clear hfz43_8; try clear hfz43_9; try clear hfz55_0; try clear hfz55_1; try clear hfz55_10; try clear hfz55_11; try clear hfz55_2; try clear hfz55_3; try clear hfz55_4; try clear hfz55_5; try clear hfz55_6; try clear hfz55_7; try clear hfz55_8; try clear hfz55_9; try clear hx121_0; try clear hx121_1; try clear hx121_10; try clear hx121_11; try clear hx121_2; try clear hx121_3; try clear hx121_4; try clear hx121_5; try clear hx121_6; try clear hx121_7; try clear hx121_8; try clear hx121_9; try clear p121; try clear q121
                     obtain ⟨x5_5, x6_5, rfl, rfl, HA, HK5, BK122, HB⟩ := hrel
                     cases gk with
                     | zero => exact absurd HA.out (by simp [chanceryref3_ShapesError.l1])
                     | succ k5 =>
                      have H := HA.out
                      clear HA
                      simp only [chanceryref3_ShapesError.l1] at H
                      by_cases c56 : x5_5 = 0
                      ·rw [if_pos c56] at H
                       have c56b0 : (x5_5 == 0) = true := beq_iff_eq.mpr c56
                       have c56b1 : (x5_5 != 0) = false := bne_eq_false_iff_eq.mpr c56
                       clear c56
                       have H' := Aside0.mk H
                       clear H
                       go_wp2
                       go_roundg k5
                       case measure => have := HK1.out; have := HJ8.out; have := HJ22.out; have := HJ37.out; have := HK5.out; omega
                       case rel => exact ⟨(wrap64 (x13_1 + 1)), (by first | rfl | (simp; done) | (simp [*]; done)), H', ⟨by have := HK1.out; have := HJ8.out; have := HJ22.out; have := HJ37.out; have := HK5.out; omega⟩, ⟨by repeat (first | (with_reducible first | exact HB.out | apply below_alloc | apply pw_below_drewN | apply below_drew1 | refine below_set ?_ GE122.out) | exact HB.out)⟩⟩
                      ·rw [if_neg c56] at H
                       have c56b0 : (x5_5 == 0) = false := beq_eq_false_iff_ne.mpr c56
                       have c56b1 : (x5_5 != 0) = true := bne_iff_ne.mpr c56
                       by_cases c57 : 0 ≤ x13_1
                       ·rw [if_pos c57] at H
                        have c57b0 := eq_true c57
                        have c57b1 : decide (0 ≤ x13_1) = true := decide_eq_true c57
                        clear c57
                        by_cases c58 : x13_1 ≤ (l0.length : Int)
                        ·rw [if_pos c58] at H
                         have c58b0 := eq_true c58
                         have c58b1 : decide (x13_1 ≤ (l0.length : Int)) = true := decide_eq_true c58
                         clear c58
                         obtain ⟨y138, hy138⟩ : ∃ y_ : List (S45), y_ = (l0.take (x13_1 : Int).toNat) := ⟨_, rfl⟩
                         replace H : ((chanceryref3_ShapeAt.f k5 y138 x5_5).bind fun t142 => (if x6_5 ≥ 20 then (some 22) else (if t142 < 0 then (some 7) else (if 0 ≤ t142 then (if t142 < (l0.length : Int) then (if ((rd_T45 l0 t142).f2) = 5 then (chanceryref3_ShapesError.l1 k5 l0 x13_1 ((rd_T45 l0 t142).f1) (wrap64 (x6_5 + 1)) l0 (l0.length : Int) x13_1) else (some 8)) else (none)) else (none))))) = some r := by first | (rw [hy138]; with_reducible exact H) | (have H2_ := (Option.bind_some _ _).symm.trans H; rw [hy138]; with_reducible exact H2_) | (have H2_ := (Option.bind_some _ _).symm.trans H; with_reducible exact H2_) | with_reducible exact H | (rw [hy138]; exact H) | exact H
                         have Ny138 := Aside0.mk hy138
                         clear hy138
                         replace H := Option.bind_eq_some_iff.mp H
                         obtain ⟨t142, A590, H⟩ := H
                         replace H : (if x6_5 ≥ 20 then (some 22) else (if t142 < 0 then (some 7) else (if 0 ≤ t142 then (if t142 < (l0.length : Int) then (if ((rd_T45 l0 t142).f2) = 5 then (chanceryref3_ShapesError.l1 k5 l0 x13_1 ((rd_T45 l0 t142).f1) (wrap64 (x6_5 + 1)) l0 (l0.length : Int) x13_1) else (some 8)) else (none)) else (none)))) = some r := H
                         have A59 := Aside0.mk A590
                         clear A590
                         by_cases c60 : x6_5 ≥ 20
                         ·rw [if_pos c60] at H
                          have c60b0 : decide (20 ≤ x6_5) = true := decide_eq_true c60
                          clear c60
                          obtain rfl := Option.some.inj H
                          have q61 : (x13_1 : Int) ≤ ((l0.length : Int) : Int) := of_decide_eq_true (by first | (with_reducible assumption) | assumption)
                          obtain ⟨i061, hi061, _, hsz61, _⟩ := info_parts info45
                          have hroom61 : l0.length ≤ c0 := HC0.out
                          have hC61 : Kd.C k45 _ (some ad121) l0.length l0 := HR0.out
                          try clear hcut50
                          try clear hcut53
                          try clear hcut64
                          try clear hcut69
                          try clear hcut71
                          have hcut61 := cut_to (P := Tryd.prog) 22 45 .i64 Tryd.underlying22 hi061 (some ad121) l0.length c0 x13_1 (of_decide_eq_true (by first | (with_reducible assumption) | assumption)) q61 hroom61
                          have hr61 := Kd.C_take (m := (x13_1 : Int).toNat) hC61 (by omega)
                          have hy61 : y138.length = (x13_1 : Int).toNat := (by rw [Ny138.out, List.length_take]; omega)
                          rw [← Ny138.out] at hr61
                          rw [← hy61] at hcut61
                          have HR141 := Aside0.mk hr61
                          have HC141 := Aside0.mk (show y138.length ≤ c0 from by omega)
                          clear hr61 hC61 hroom61 hi061 hsz61
                          have KY61 := Aside0.mk hy61
                          clear hy61
                          replace q61 := eq_true q61
                          go_wp2_with (first | ((with_reducible refine gate_callee (f := 11) rfl ?_); refine goesL_ (some 93) rfl rfl Tryd.func11 (by kernel_rfl) rfl #[.slice (some ad121) y138.length c0, .int .i64 x5_5] rfl (by (try simp only [List.map_toArray, List.map_cons, List.map_nil]); first | done | rfl) ?_; (with_reducible refine (chanceryref3_ShapeAt.calls k5 _ _ y138 x5_5 t142 _ ?side1 ?side2 A59.out).mono ?_); (case side1 => repeat (first | exact (Kd.C_below HR141.out HB.out) | (with_reducible refine Kd.C_alloc ?_ _) | (with_reducible refine Kd.C_drewN ?_ _) | (with_reducible refine Kd.C_drew ?_))); (case side2 => exact HC141.out); rintro e w62 ⟨rfl, hb⟩; refine ⟨_, rfl, ?_⟩; have n0_ := Aside0.mk (blk_below (g := gb122) (o := .cells #[.int .i64 ((rd_T45 l0 x13_1).f0), .int .i64 ((rd_T45 l0 x13_1).f1), .int .i64 ((rd_T45 l0 x13_1).f2), .int .i64 ((rd_T45 l0 x13_1).f3), .int .i64 ((rd_T45 l0 x13_1).f4), .int .i64 ((rd_T45 l0 x13_1).f5), .int .i64 ((rd_T45 l0 x13_1).f6), .int .i64 ((rd_T45 l0 x13_1).f7), .int .i64 ((rd_T45 l0 x13_1).f8), .int .i64 ((rd_T45 l0 x13_1).f9), .string ((rd_T45 l0 x13_1).f10), .string ((rd_T45 l0 x13_1).f11)] 45 (0, 0)) (by (with_reducible repeat (first | refine blk_drewN ?_ _ | refine blk_drew ?_ | refine blk_alloc ?_ _)); exact BK122.out) hb); have n1_ := Aside0.mk (below_step (by repeat (first | (with_reducible first | exact HB.out | apply below_alloc | apply pw_below_drewN | apply below_drew1 | refine below_set ?_ GE122.out) | exact HB.out)) hb); clear BK122; clear HB; have BK122 := n0_; have HB := n1_; clear n0_ n1_; (try clear hb); (try clear hb2); (try clear hk); (try clear hi)))
                          go_ret
                          exact ⟨by first | rfl | (simp [errW_none, errW_some] <;> rfl) | (simp [*, errW_none, errW_some] <;> rfl), by repeat (first | (with_reducible first | exact HB.out | apply below_alloc | apply pw_below_drewN | apply below_drew1 | refine below_set ?_ GE122.out) | exact HB.out)⟩
                         ·rw [if_neg c60] at H
                          have c60b0 : decide (20 ≤ x6_5) = false := decide_eq_false c60
                          clear c60
                          by_cases c63 : t142 < 0
                          ·rw [if_pos c63] at H
                           have c63b0 : decide (t142 < 0) = true := decide_eq_true c63
                           clear c63
                           obtain rfl := Option.some.inj H
                           have q64 : (x13_1 : Int) ≤ ((l0.length : Int) : Int) := of_decide_eq_true (by first | (with_reducible assumption) | assumption)
                           obtain ⟨i064, hi064, _, hsz64, _⟩ := info_parts info45
                           have hroom64 : l0.length ≤ c0 := HC0.out
                           have hC64 : Kd.C k45 _ (some ad121) l0.length l0 := HR0.out
                           try clear hcut50
                           try clear hcut53
                           try clear hcut61
                           try clear hcut69
                           try clear hcut71
                           have hcut64 := cut_to (P := Tryd.prog) 22 45 .i64 Tryd.underlying22 hi064 (some ad121) l0.length c0 x13_1 (of_decide_eq_true (by first | (with_reducible assumption) | assumption)) q64 hroom64
                           have hr64 := Kd.C_take (m := (x13_1 : Int).toNat) hC64 (by omega)
                           have hy64 : y138.length = (x13_1 : Int).toNat := (by rw [Ny138.out, List.length_take]; omega)
                           rw [← Ny138.out] at hr64
                           rw [← hy64] at hcut64
                           have HR141 := Aside0.mk hr64
                           have HC141 := Aside0.mk (show y138.length ≤ c0 from by omega)
                           clear hr64 hC64 hroom64 hi064 hsz64
                           have KY64 := Aside0.mk hy64
                           clear hy64
                           replace q64 := eq_true q64
                           go_wp2_with (first | ((with_reducible refine gate_callee (f := 11) rfl ?_); refine goesL_ (some 93) rfl rfl Tryd.func11 (by kernel_rfl) rfl #[.slice (some ad121) y138.length c0, .int .i64 x5_5] rfl (by (try simp only [List.map_toArray, List.map_cons, List.map_nil]); first | done | rfl) ?_; (with_reducible refine (chanceryref3_ShapeAt.calls k5 _ _ y138 x5_5 t142 _ ?side1 ?side2 A59.out).mono ?_); (case side1 => repeat (first | exact (Kd.C_below HR141.out HB.out) | (with_reducible refine Kd.C_alloc ?_ _) | (with_reducible refine Kd.C_drewN ?_ _) | (with_reducible refine Kd.C_drew ?_))); (case side2 => exact HC141.out); rintro e w65 ⟨rfl, hb⟩; refine ⟨_, rfl, ?_⟩; have n0_ := Aside0.mk (blk_below (g := gb122) (o := .cells #[.int .i64 ((rd_T45 l0 x13_1).f0), .int .i64 ((rd_T45 l0 x13_1).f1), .int .i64 ((rd_T45 l0 x13_1).f2), .int .i64 ((rd_T45 l0 x13_1).f3), .int .i64 ((rd_T45 l0 x13_1).f4), .int .i64 ((rd_T45 l0 x13_1).f5), .int .i64 ((rd_T45 l0 x13_1).f6), .int .i64 ((rd_T45 l0 x13_1).f7), .int .i64 ((rd_T45 l0 x13_1).f8), .int .i64 ((rd_T45 l0 x13_1).f9), .string ((rd_T45 l0 x13_1).f10), .string ((rd_T45 l0 x13_1).f11)] 45 (0, 0)) (by (with_reducible repeat (first | refine blk_drewN ?_ _ | refine blk_drew ?_ | refine blk_alloc ?_ _)); exact BK122.out) hb); have n1_ := Aside0.mk (below_step (by repeat (first | (with_reducible first | exact HB.out | apply below_alloc | apply pw_below_drewN | apply below_drew1 | refine below_set ?_ GE122.out) | exact HB.out)) hb); clear BK122; clear HB; have BK122 := n0_; have HB := n1_; clear n0_ n1_; (try clear hb); (try clear hb2); (try clear hk); (try clear hi)))
                           go_ret
                           exact ⟨by first | rfl | (simp [errW_none, errW_some] <;> rfl) | (simp [*, errW_none, errW_some] <;> rfl), by repeat (first | (with_reducible first | exact HB.out | apply below_alloc | apply pw_below_drewN | apply below_drew1 | refine below_set ?_ GE122.out) | exact HB.out)⟩
                          ·rw [if_neg c63] at H
                           have c63b0 : decide (t142 < 0) = false := decide_eq_false c63
                           clear c63
                           by_cases c66 : 0 ≤ t142
                           ·rw [if_pos c66] at H
                            have c66b0 : decide (0 ≤ t142) = true := decide_eq_true c66
                            clear c66
                            by_cases c67 : t142 < (l0.length : Int)
                            ·rw [if_pos c67] at H
                             have c67b0 : decide (t142 < (l0.length : Int)) = true := decide_eq_true c67
                             clear c67
                             by_cases c68 : ((rd_T45 l0 t142).f2) = 5
                             ·rw [if_pos c68] at H
                              have c68b0 : (((rd_T45 l0 t142).f2) == 5) = true := beq_iff_eq.mpr c68
                              have c68b1 : (((rd_T45 l0 t142).f2) != 5) = false := bne_eq_false_iff_eq.mpr c68
                              clear c68
                              have H' := Aside0.mk H
                              clear H
                              have q69 : (x13_1 : Int) ≤ ((l0.length : Int) : Int) := of_decide_eq_true (by first | (with_reducible assumption) | assumption)
                              obtain ⟨i069, hi069, _, hsz69, _⟩ := info_parts info45
                              have hroom69 : l0.length ≤ c0 := HC0.out
                              have hC69 : Kd.C k45 _ (some ad121) l0.length l0 := HR0.out
                              try clear hcut50
                              try clear hcut53
                              try clear hcut61
                              try clear hcut64
                              try clear hcut71
                              have hcut69 := cut_to (P := Tryd.prog) 22 45 .i64 Tryd.underlying22 hi069 (some ad121) l0.length c0 x13_1 (of_decide_eq_true (by first | (with_reducible assumption) | assumption)) q69 hroom69
                              have hr69 := Kd.C_take (m := (x13_1 : Int).toNat) hC69 (by omega)
                              have hy69 : y138.length = (x13_1 : Int).toNat := (by rw [Ny138.out, List.length_take]; omega)
                              rw [← Ny138.out] at hr69
                              rw [← hy69] at hcut69
                              have HR141 := Aside0.mk hr69
                              have HC141 := Aside0.mk (show y138.length ≤ c0 from by omega)
                              clear hr69 hC69 hroom69 hi069 hsz69
                              have KY69 := Aside0.mk hy69
                              clear hy69
                              replace q69 := eq_true q69
                              go_wp2_with (first | ((with_reducible refine gate_callee (f := 11) rfl ?_); refine goesL_ (some 93) rfl rfl Tryd.func11 (by kernel_rfl) rfl #[.slice (some ad121) y138.length c0, .int .i64 x5_5] rfl (by (try simp only [List.map_toArray, List.map_cons, List.map_nil]); first | done | rfl) ?_; (with_reducible refine (chanceryref3_ShapeAt.calls k5 _ _ y138 x5_5 t142 _ ?side1 ?side2 A59.out).mono ?_); (case side1 => repeat (first | exact (Kd.C_below HR141.out HB.out) | (with_reducible refine Kd.C_alloc ?_ _) | (with_reducible refine Kd.C_drewN ?_ _) | (with_reducible refine Kd.C_drew ?_))); (case side2 => exact HC141.out); rintro e w70 ⟨rfl, hb⟩; refine ⟨_, rfl, ?_⟩; have n0_ := Aside0.mk (blk_below (g := gb122) (o := .cells #[.int .i64 ((rd_T45 l0 x13_1).f0), .int .i64 ((rd_T45 l0 x13_1).f1), .int .i64 ((rd_T45 l0 x13_1).f2), .int .i64 ((rd_T45 l0 x13_1).f3), .int .i64 ((rd_T45 l0 x13_1).f4), .int .i64 ((rd_T45 l0 x13_1).f5), .int .i64 ((rd_T45 l0 x13_1).f6), .int .i64 ((rd_T45 l0 x13_1).f7), .int .i64 ((rd_T45 l0 x13_1).f8), .int .i64 ((rd_T45 l0 x13_1).f9), .string ((rd_T45 l0 x13_1).f10), .string ((rd_T45 l0 x13_1).f11)] 45 (0, 0)) (by (with_reducible repeat (first | refine blk_drewN ?_ _ | refine blk_drew ?_ | refine blk_alloc ?_ _)); exact BK122.out) hb); have n1_ := Aside0.mk (below_step (by repeat (first | (with_reducible first | exact HB.out | apply below_alloc | apply pw_below_drewN | apply below_drew1 | refine below_set ?_ GE122.out) | exact HB.out)) hb); clear BK122; clear HB; have BK122 := n0_; have HB := n1_; clear n0_ n1_; (try clear hb); (try clear hb2); (try clear hk); (try clear hi); have p143 : 0 ≤ (t142 : Int) := of_decide_eq_true (by first | (with_reducible assumption) | assumption); have q143 : t142 < (l0.length : Int) := of_decide_eq_true (by first | (with_reducible assumption) | assumption); obtain ⟨ad143, e143, hx143_0, hx143_1, hx143_2, hx143_3, hx143_4, hx143_5, hx143_6, hx143_7, hx143_8, hx143_9, hx143_10, hx143_11⟩ := at_T45 HR0.out t142 p143 q143; obtain rfl : ad121 = ad143 := (by injection e143); replace hx143_0 := (HB.out.cell (World.block_lt_of_cell? w _ hx143_0)).trans hx143_0; replace hx143_1 := (HB.out.cell (World.block_lt_of_cell? w _ hx143_1)).trans hx143_1; replace hx143_2 := (HB.out.cell (World.block_lt_of_cell? w _ hx143_2)).trans hx143_2; replace hx143_3 := (HB.out.cell (World.block_lt_of_cell? w _ hx143_3)).trans hx143_3; replace hx143_4 := (HB.out.cell (World.block_lt_of_cell? w _ hx143_4)).trans hx143_4; replace hx143_5 := (HB.out.cell (World.block_lt_of_cell? w _ hx143_5)).trans hx143_5; replace hx143_6 := (HB.out.cell (World.block_lt_of_cell? w _ hx143_6)).trans hx143_6; replace hx143_7 := (HB.out.cell (World.block_lt_of_cell? w _ hx143_7)).trans hx143_7; replace hx143_8 := (HB.out.cell (World.block_lt_of_cell? w _ hx143_8)).trans hx143_8; replace hx143_9 := (HB.out.cell (World.block_lt_of_cell? w _ hx143_9)).trans hx143_9; replace hx143_10 := (HB.out.cell (World.block_lt_of_cell? w _ hx143_10)).trans hx143_10; replace hx143_11 := (HB.out.cell (World.block_lt_of_cell? w _ hx143_11)).trans hx143_11; replace p143 := eq_true p143; replace q143 := eq_true q143; have p144 : 0 ≤ (t142 : Int) := of_decide_eq_true (by first | (with_reducible assumption) | assumption); have q144 : t142 < (l0.length : Int) := of_decide_eq_true (by first | (with_reducible assumption) | assumption); obtain ⟨ad144, e144, hx144_0, hx144_1, hx144_2, hx144_3, hx144_4, hx144_5, hx144_6, hx144_7, hx144_8, hx144_9, hx144_10, hx144_11⟩ := at_T45 HR0.out t142 p144 q144; obtain rfl : ad121 = ad144 := (by injection e144); replace hx144_0 := (HB.out.cell (World.block_lt_of_cell? w _ hx144_0)).trans hx144_0; replace hx144_1 := (HB.out.cell (World.block_lt_of_cell? w _ hx144_1)).trans hx144_1; replace hx144_2 := (HB.out.cell (World.block_lt_of_cell? w _ hx144_2)).trans hx144_2; replace hx144_3 := (HB.out.cell (World.block_lt_of_cell? w _ hx144_3)).trans hx144_3; replace hx144_4 := (HB.out.cell (World.block_lt_of_cell? w _ hx144_4)).trans hx144_4; replace hx144_5 := (HB.out.cell (World.block_lt_of_cell? w _ hx144_5)).trans hx144_5; replace hx144_6 := (HB.out.cell (World.block_lt_of_cell? w _ hx144_6)).trans hx144_6; replace hx144_7 := (HB.out.cell (World.block_lt_of_cell? w _ hx144_7)).trans hx144_7; replace hx144_8 := (HB.out.cell (World.block_lt_of_cell? w _ hx144_8)).trans hx144_8; replace hx144_9 := (HB.out.cell (World.block_lt_of_cell? w _ hx144_9)).trans hx144_9; replace hx144_10 := (HB.out.cell (World.block_lt_of_cell? w _ hx144_10)).trans hx144_10; replace hx144_11 := (HB.out.cell (World.block_lt_of_cell? w _ hx144_11)).trans hx144_11; replace p144 := eq_true p144; replace q144 := eq_true q144))
                              go_roundg k5
                              case measure => have := HK1.out; have := HJ8.out; have := HJ22.out; have := HJ37.out; have := HK5.out; omega
                              case rel => exact ⟨((rd_T45 l0 t142).f1), (wrap64 (x6_5 + 1)), (by first | rfl | (simp; done) | (simp [*]; done)), (by first | rfl | (simp; done) | (simp [*]; done)), H', ⟨by have := HK1.out; have := HJ8.out; have := HJ22.out; have := HJ37.out; have := HK5.out; omega⟩, ⟨by (with_reducible repeat (first | refine blk_drewN ?_ _ | refine blk_drew ?_ | refine blk_alloc ?_ _)); exact BK122.out⟩, ⟨by repeat (first | (with_reducible first | exact HB.out | apply below_alloc | apply pw_below_drewN | apply below_drew1 | refine below_set ?_ GE122.out) | exact HB.out)⟩⟩
                             ·rw [if_neg c68] at H
                              have c68b0 : (((rd_T45 l0 t142).f2) == 5) = false := beq_eq_false_iff_ne.mpr c68
                              have c68b1 : (((rd_T45 l0 t142).f2) != 5) = true := bne_iff_ne.mpr c68
                              obtain rfl := Option.some.inj H
                              have q71 : (x13_1 : Int) ≤ ((l0.length : Int) : Int) := of_decide_eq_true (by first | (with_reducible assumption) | assumption)
                              obtain ⟨i071, hi071, _, hsz71, _⟩ := info_parts info45
                              have hroom71 : l0.length ≤ c0 := HC0.out
                              have hC71 : Kd.C k45 _ (some ad121) l0.length l0 := HR0.out
                              try clear hcut50
                              try clear hcut53
                              try clear hcut61
                              try clear hcut64
                              try clear hcut69
                              have hcut71 := cut_to (P := Tryd.prog) 22 45 .i64 Tryd.underlying22 hi071 (some ad121) l0.length c0 x13_1 (of_decide_eq_true (by first | (with_reducible assumption) | assumption)) q71 hroom71
                              have hr71 := Kd.C_take (m := (x13_1 : Int).toNat) hC71 (by omega)
                              have hy71 : y138.length = (x13_1 : Int).toNat := (by rw [Ny138.out, List.length_take]; omega)
                              rw [← Ny138.out] at hr71
                              rw [← hy71] at hcut71
                              have HR141 := Aside0.mk hr71
                              have HC141 := Aside0.mk (show y138.length ≤ c0 from by omega)
                              clear hr71 hC71 hroom71 hi071 hsz71
                              have KY71 := Aside0.mk hy71
                              clear hy71
                              replace q71 := eq_true q71
                              go_wp2_with (first | ((with_reducible refine gate_callee (f := 11) rfl ?_); refine goesL_ (some 93) rfl rfl Tryd.func11 (by kernel_rfl) rfl #[.slice (some ad121) y138.length c0, .int .i64 x5_5] rfl (by (try simp only [List.map_toArray, List.map_cons, List.map_nil]); first | done | rfl) ?_; (with_reducible refine (chanceryref3_ShapeAt.calls k5 _ _ y138 x5_5 t142 _ ?side1 ?side2 A59.out).mono ?_); (case side1 => repeat (first | exact (Kd.C_below HR141.out HB.out) | (with_reducible refine Kd.C_alloc ?_ _) | (with_reducible refine Kd.C_drewN ?_ _) | (with_reducible refine Kd.C_drew ?_))); (case side2 => exact HC141.out); rintro e w72 ⟨rfl, hb⟩; refine ⟨_, rfl, ?_⟩; have n0_ := Aside0.mk (blk_below (g := gb122) (o := .cells #[.int .i64 ((rd_T45 l0 x13_1).f0), .int .i64 ((rd_T45 l0 x13_1).f1), .int .i64 ((rd_T45 l0 x13_1).f2), .int .i64 ((rd_T45 l0 x13_1).f3), .int .i64 ((rd_T45 l0 x13_1).f4), .int .i64 ((rd_T45 l0 x13_1).f5), .int .i64 ((rd_T45 l0 x13_1).f6), .int .i64 ((rd_T45 l0 x13_1).f7), .int .i64 ((rd_T45 l0 x13_1).f8), .int .i64 ((rd_T45 l0 x13_1).f9), .string ((rd_T45 l0 x13_1).f10), .string ((rd_T45 l0 x13_1).f11)] 45 (0, 0)) (by (with_reducible repeat (first | refine blk_drewN ?_ _ | refine blk_drew ?_ | refine blk_alloc ?_ _)); exact BK122.out) hb); have n1_ := Aside0.mk (below_step (by repeat (first | (with_reducible first | exact HB.out | apply below_alloc | apply pw_below_drewN | apply below_drew1 | refine below_set ?_ GE122.out) | exact HB.out)) hb); clear BK122; clear HB; have BK122 := n0_; have HB := n1_; clear n0_ n1_; (try clear hb); (try clear hb2); (try clear hk); (try clear hi); have p143 : 0 ≤ (t142 : Int) := of_decide_eq_true (by first | (with_reducible assumption) | assumption); have q143 : t142 < (l0.length : Int) := of_decide_eq_true (by first | (with_reducible assumption) | assumption); obtain ⟨ad143, e143, hx143_0, hx143_1, hx143_2, hx143_3, hx143_4, hx143_5, hx143_6, hx143_7, hx143_8, hx143_9, hx143_10, hx143_11⟩ := at_T45 HR0.out t142 p143 q143; obtain rfl : ad121 = ad143 := (by injection e143); replace hx143_0 := (HB.out.cell (World.block_lt_of_cell? w _ hx143_0)).trans hx143_0; replace hx143_1 := (HB.out.cell (World.block_lt_of_cell? w _ hx143_1)).trans hx143_1; replace hx143_2 := (HB.out.cell (World.block_lt_of_cell? w _ hx143_2)).trans hx143_2; replace hx143_3 := (HB.out.cell (World.block_lt_of_cell? w _ hx143_3)).trans hx143_3; replace hx143_4 := (HB.out.cell (World.block_lt_of_cell? w _ hx143_4)).trans hx143_4; replace hx143_5 := (HB.out.cell (World.block_lt_of_cell? w _ hx143_5)).trans hx143_5; replace hx143_6 := (HB.out.cell (World.block_lt_of_cell? w _ hx143_6)).trans hx143_6; replace hx143_7 := (HB.out.cell (World.block_lt_of_cell? w _ hx143_7)).trans hx143_7; replace hx143_8 := (HB.out.cell (World.block_lt_of_cell? w _ hx143_8)).trans hx143_8; replace hx143_9 := (HB.out.cell (World.block_lt_of_cell? w _ hx143_9)).trans hx143_9; replace hx143_10 := (HB.out.cell (World.block_lt_of_cell? w _ hx143_10)).trans hx143_10; replace hx143_11 := (HB.out.cell (World.block_lt_of_cell? w _ hx143_11)).trans hx143_11; replace p143 := eq_true p143; replace q143 := eq_true q143))
                              go_ret
                              exact ⟨by first | rfl | (simp [errW_none, errW_some] <;> rfl) | (simp [*, errW_none, errW_some] <;> rfl), by repeat (first | (with_reducible first | exact HB.out | apply below_alloc | apply pw_below_drewN | apply below_drew1 | refine below_set ?_ GE122.out) | exact HB.out)⟩
                            ·rw [if_neg c67] at H
                             exact absurd H (by simp)
                           ·rw [if_neg c66] at H
                            exact absurd H (by simp)
                        ·rw [if_neg c58] at H
                         exact absurd H (by simp)
                       ·rw [if_neg c57] at H
                        exact absurd H (by simp)
                  ·rw [if_neg c46] at H
                   exact absurd H (by simp)
                 ·rw [if_neg c45] at H
                  exact absurd H (by simp)
       ·replace c7 := Bool.eq_false_iff.mpr c7
        subst c7
        have H1 : (some 8) = some r := by rw [if_neg (show ¬ (false = true) by decide)] at H; exact H
        clear H
        have H := H1
        clear H1
        obtain rfl := Option.some.inj H
        have p121 : 0 ≤ (x13_1 : Int) := of_decide_eq_true (by first | (with_reducible assumption) | assumption)
        have q121 : x13_1 < (l0.length : Int) := of_decide_eq_true (by first | (with_reducible assumption) | assumption)
        obtain ⟨ad121, e121, hx121_0, hx121_1, hx121_2, hx121_3, hx121_4, hx121_5, hx121_6, hx121_7, hx121_8, hx121_9, hx121_10, hx121_11⟩ := at_T45 (Kd.C_below HR0.out HB.out) x13_1 p121 q121
        cases e121
        replace p121 := eq_true p121
        replace q121 := eq_true q121
        go_wp2_with (first | ((with_reducible refine gate_dst (N := 4) rfl ?_); refine box_event ?hg (N := 4) ?hd (cs := #[.int .i64 0, .int .i64 0, .int .i64 0, .int .i64 0, .int .i64 0, .int .i64 0, .int .i64 0, .int .i64 0, .int .i64 0, .int .i64 0, .string (⟨#[]⟩ : ByteArray), .string (⟨#[]⟩ : ByteArray)]) (t := 45) ?hr ?_; (case hd => rfl); (case hg => rfl); (case hr => first | (go_simp; done) | (go_simp; rfl)); intro gb122 hg w73 hbox hb; have n0_ := Aside0.mk (below_step (by repeat (first | (with_reducible first | exact HB.out | apply below_alloc | apply pw_below_drewN | apply below_drew1) | exact HB.out)) hb); have n1_ := Aside0.mk (hbox); have n2_ := Aside0.mk ((by rw [hg]; exact (below_size (by repeat (first | (with_reducible first | exact HB.out | apply below_alloc | apply pw_below_drewN | apply below_drew1) | exact HB.out))) : w.heap.size ≤ gb122)); have n3_ := Aside0.mk ((by rw [hg]; exact (below_size (by repeat (first | (with_reducible first | exact HB.out | apply below_alloc | apply pw_below_drewN | apply below_drew1) | exact HB.out))) : w.heap.size ≤ gb122)); clear HB; have HB := n0_; have BK122 := n1_; have GW122 := n2_; have GE122 := n3_; clear n0_ n1_ n2_ n3_; clear hb hbox hg; obtain ⟨hcz74_0, hcz74_1, hcz74_2, hcz74_3, hcz74_4, hcz74_5, hcz74_6, hcz74_7, hcz74_8, hcz74_9, hcz74_10, hcz74_11⟩ := cells12 BK122.out; have hfz74_ := fun j => blk_frozen BK122.out j) | ((with_reducible refine gate_callee (f := 14) rfl ?_); refine goesL_ (some 21) rfl rfl Tryd.func14 (by kernel_rfl) rfl #[.int .i64 ((rd_T45 l0 x13_1).f2), .int .i64 0, .int .i64 7] rfl (by (try simp only [List.map_toArray, List.map_cons, List.map_nil]); first | done | rfl) ?_; (with_reducible refine (chanceryref3_In.calls ((rd_T45 l0 x13_1).f2) 0 7 false _ A6.out).mono ?_); rintro e w' ⟨rfl, ⟨nd, rfl⟩⟩; refine ⟨_, rfl, ?_⟩))
        go_ret
        exact ⟨by first | rfl | (simp [errW_none, errW_some] <;> rfl) | (simp [*, errW_none, errW_some] <;> rfl), by repeat (first | (with_reducible first | exact HB.out | apply below_alloc | apply pw_below_drewN | apply below_drew1 | refine below_set ?_ GE122.out) | exact HB.out)⟩
      ·rw [if_neg c5] at H
       exact absurd H (by simp)
     ·rw [if_neg c4] at H
      exact absurd H (by simp)
    ·rw [if_neg c3] at H
     have c3b0 : decide (x13_1 < (l0.length : Int)) = false := decide_eq_false c3
     clear c3
     obtain rfl := Option.some.inj H
     go_wp2
     go_ret
     exact ⟨by first | rfl | (simp [errW_none, errW_some] <;> rfl) | (simp [*, errW_none, errW_some] <;> rfl), by repeat (first | (with_reducible first | exact HB.out | apply below_alloc | apply pw_below_drewN | apply below_drew1) | exact HB.out)⟩
end Go.Proofs.YtmheeekbbhkmkaaDoor.QSH
