import Derived.Test.YtmheeekbbhkmkaaDoorHandSHc
import Derived.Test.YtmheeekbbhkmkaaDoorQSHx0
import Derived.Test.YtmheeekbbhkmkaaDoorQSHx1
import Derived.Test.YtmheeekbbhkmkaaDoorQSHx3
namespace Go.Proofs.YtmheeekbbhkmkaaDoor.QSH
open Go.RowKit Go.Proofs.YtmheeekbbhkmkaaDoor.Cells Go.Proofs.YtmheeekbbhkmkaaDoorW.PrintWords Go.Proofs.YtmheeekbbhkmkaaDoorW.PrintLast Go.Proofs.YtmheeekbbhkmkaaDoorW.PrintMore Go.Proofs.YtmheeekbbhkmkaaDoor.HandSH
attribute [local go_sem] max2_int min2_int max_two min_two max_three min_three max_four min_four 
set_option linter.unusedVariables false
set_option linter.unusedSimpArgs false
mutual
def chanceryref3_HitShape.l0 : Nat → List (S45) → Int → List (S45) → Int → Int → Int → Int → Option (Int)
 | 0, _, _, _, _, _, _, _ => none
 | k + 1, x0, x5, x16, x17, x18, x190000, x190001 => if x18 < x17 then (if 0 ≤ x18 then (if x18 < (x16.length : Int) then (if ((rd_T45 x16 x18).f2) = 5 then (chanceryref3_HitShape.j1 k x0 x5 x16 x17 x18 true x190000 x190001 ((rd_T45 x16 x18).f0) ((rd_T45 x16 x18).f1) ((rd_T45 x16 x18).f2) ((rd_T45 x16 x18).f3) ((rd_T45 x16 x18).f4) ((rd_T45 x16 x18).f5) ((rd_T45 x16 x18).f6) ((rd_T45 x16 x18).f7) ((rd_T45 x16 x18).f8) ((rd_T45 x16 x18).f9) ((rd_T45 x16 x18).f10) ((rd_T45 x16 x18).f11)) else (chanceryref3_HitShape.j1 k x0 x5 x16 x17 x18 (((rd_T45 x16 x18).f2) == 6) x190000 x190001 ((rd_T45 x16 x18).f0) ((rd_T45 x16 x18).f1) ((rd_T45 x16 x18).f2) ((rd_T45 x16 x18).f3) ((rd_T45 x16 x18).f4) ((rd_T45 x16 x18).f5) ((rd_T45 x16 x18).f6) ((rd_T45 x16 x18).f7) ((rd_T45 x16 x18).f8) ((rd_T45 x16 x18).f9) ((rd_T45 x16 x18).f10) ((rd_T45 x16 x18).f11))) else (none)) else (none)) else (some x5)
def chanceryref3_HitShape.j1 : Nat → List (S45) → Int → List (S45) → Int → Int → Bool → Int → Int → Int → Int → Int → Int → Int → Int → Int → Int → Int → Int → ByteArray → ByteArray → Option (Int)
 | 0, _, _, _, _, _, _, _, _, _, _, _, _, _, _, _, _, _, _, _, _ => none
 | k + 1, x0, x5, x16, x17, x18, x29, x190000, x190001, x192000, x192001, x192002, x192003, x192004, x192005, x192006, x192007, x192008, x192009, x192010, x192011 => if x29 = true then (chanceryref3_HitShape.l0 k x0 x5 x16 x17 (wrap64 (x18 + 1)) x190000 x190001) else (chanceryref3_HitShape.l1 k x0 x5 ([] : List (S45)) x192001 x16 x17 x18 x190000 x190001 x192000 x192001 x192002 x192003 x192004 x192005 x192006 x192007 x192008 x192009 x192010 x192011)
def chanceryref3_HitShape.l1 : Nat → List (S45) → Int → List (S45) → Int → List (S45) → Int → Int → Int → Int → Int → Int → Int → Int → Int → Int → Int → Int → Int → Int → ByteArray → ByteArray → Option (Int)
 | 0, _, _, _, _, _, _, _, _, _, _, _, _, _, _, _, _, _, _, _, _, _ => none
 | k + 1, x0, x5, x8, x9, x16, x17, x18, x190000, x190001, x192000, x192001, x192002, x192003, x192004, x192005, x192006, x192007, x192008, x192009, x192010, x192011 => if x9 = 0 then (chanceryref3_HitShape.l2 k x0 x5 x16 x17 x18 x8 (x8.length : Int) 0 x190000 x190001 x192000 x192001 x192002 x192003 x192004 x192005 x192006 x192007 x192008 x192009 x192010 x192011 x190000 x190001) else ((chanceryref3_ShapeAt.f k x0 x9).bind fun t192 => (if 0 ≤ t192 then (if t192 < (x0.length : Int) then ((some (([(⟨(rd_T45 x0 t192).f0, (rd_T45 x0 t192).f1, (rd_T45 x0 t192).f2, (rd_T45 x0 t192).f3, (rd_T45 x0 t192).f4, (rd_T45 x0 t192).f5, (rd_T45 x0 t192).f6, (rd_T45 x0 t192).f7, (rd_T45 x0 t192).f8, (rd_T45 x0 t192).f9, (rd_T45 x0 t192).f10, (rd_T45 x0 t192).f11⟩ : S45)] : List (S45)) : List (S45))).bind fun y195 => (if y195.length + x8.length < 1256584717458 then (chanceryref3_HitShape.l1 k x0 x5 (y195 ++ x8) ((rd_T45 x0 t192).f1) x16 x17 x18 x190000 x190001 x192000 x192001 x192002 x192003 x192004 x192005 x192006 x192007 x192008 x192009 x192010 x192011) else (none))) else (none)) else (none)))
def chanceryref3_HitShape.l2 : Nat → List (S45) → Int → List (S45) → Int → Int → List (S45) → Int → Int → Int → Int → Int → Int → Int → Int → Int → Int → Int → Int → Int → Int → ByteArray → ByteArray → Int → Int → Option (Int)
 | 0, _, _, _, _, _, _, _, _, _, _, _, _, _, _, _, _, _, _, _, _, _, _, _, _ => none
 | k + 1, x0, x5, x16, x17, x18, x47, x48, x49, x190000, x190001, x192000, x192001, x192002, x192003, x192004, x192005, x192006, x192007, x192008, x192009, x192010, x192011, x202000, x202001 => if x49 < x48 then (if 0 ≤ x49 then (if x49 < (x47.length : Int) then ((chanceryref3_middle.f ((rd_T45 x47 x49).f0) ((rd_T45 x47 x49).f1) ((rd_T45 x47 x49).f2) ((rd_T45 x47 x49).f3) ((rd_T45 x47 x49).f4) ((rd_T45 x47 x49).f5) ((rd_T45 x47 x49).f6) ((rd_T45 x47 x49).f7) ((rd_T45 x47 x49).f8) ((rd_T45 x47 x49).f9) ((rd_T45 x47 x49).f10) ((rd_T45 x47 x49).f11)).bind fun bt204 => ((chanceryref3_TurnPoint.f x202000 x202001 bt204.1 bt204.2 (wrap64 (-((rd_T45 x47 x49).f7)))).bind fun bt206 => (chanceryref3_HitShape.l2 k x0 x5 x16 x17 x18 x47 x48 (wrap64 (x49 + 1)) x190000 x190001 x192000 x192001 x192002 x192003 x192004 x192005 x192006 x192007 x192008 x192009 x192010 x192011 (wrap64 (bt206.1 - ((rd_T45 x47 x49).f3))) (wrap64 (bt206.2 - ((rd_T45 x47 x49).f4)))))) else (none)) else (none)) else ((chanceryref3_middle.f x192000 x192001 x192002 x192003 x192004 x192005 x192006 x192007 x192008 x192009 x192010 x192011).bind fun bt208 => ((chanceryref3_TurnPoint.f x202000 x202001 bt208.1 bt208.2 (wrap64 (-x192007))).bind fun bt210 => ((chanceryref3_In.f bt210.1 x192003 (wrap64 (x192003 + x192005))).bind fun t212 => (if t212 = true then ((chanceryref3_In.f bt210.2 x192004 (wrap64 (x192004 + x192006))).bind fun t213 => (chanceryref3_HitShape.j4 k x0 x5 x16 x17 x18 (!t213) x190000 x190001 x192000 x192001 x192002 x192003 x192004 x192005 x192006 x192007 x192008 x192009 x192010 x192011 bt210.1 bt210.2)) else (chanceryref3_HitShape.j4 k x0 x5 x16 x17 x18 true x190000 x190001 x192000 x192001 x192002 x192003 x192004 x192005 x192006 x192007 x192008 x192009 x192010 x192011 bt210.1 bt210.2)))))
def chanceryref3_HitShape.j4 : Nat → List (S45) → Int → List (S45) → Int → Int → Bool → Int → Int → Int → Int → Int → Int → Int → Int → Int → Int → Int → Int → ByteArray → ByteArray → Int → Int → Option (Int)
 | 0, _, _, _, _, _, _, _, _, _, _, _, _, _, _, _, _, _, _, _, _, _, _ => none
 | k + 1, x0, x5, x16, x17, x18, x102, x190000, x190001, x192000, x192001, x192002, x192003, x192004, x192005, x192006, x192007, x192008, x192009, x192010, x192011, x202000, x202001 => if x102 = true then (chanceryref3_HitShape.l0 k x0 x5 x16 x17 (wrap64 (x18 + 1)) x190000 x190001) else (if x192002 = 1 then (if x192005 > 0 then (chanceryref3_HitShape.j5 k x0 x5 x16 x17 x18 (decide (x192006 > 0)) x190000 x190001 x192000 x192001 x192002 x192003 x192004 x192005 x192006 x192007 x192008 x192009 x192010 x192011 x202000 x202001) else (chanceryref3_HitShape.j5 k x0 x5 x16 x17 x18 false x190000 x190001 x192000 x192001 x192002 x192003 x192004 x192005 x192006 x192007 x192008 x192009 x192010 x192011 x202000 x202001)) else (chanceryref3_HitShape.j5 k x0 x5 x16 x17 x18 false x190000 x190001 x192000 x192001 x192002 x192003 x192004 x192005 x192006 x192007 x192008 x192009 x192010 x192011 x202000 x202001))
def chanceryref3_HitShape.j5 : Nat → List (S45) → Int → List (S45) → Int → Int → Bool → Int → Int → Int → Int → Int → Int → Int → Int → Int → Int → Int → Int → ByteArray → ByteArray → Int → Int → Option (Int)
 | 0, _, _, _, _, _, _, _, _, _, _, _, _, _, _, _, _, _, _, _, _, _, _ => none
 | k + 1, x0, x5, x16, x17, x18, x115, x190000, x190001, x192000, x192001, x192002, x192003, x192004, x192005, x192006, x192007, x192008, x192009, x192010, x192011, x202000, x202001 => if x115 = true then ((chanceryref3_Near.f (wrap64 (1024 * (wrap64 ((wrap64 ((wrap64 (2 * x202000)) - (wrap64 (2 * x192003)))) - x192005)))) x192005).bind fun t214 => ((chanceryref3_Near.f (wrap64 (1024 * (wrap64 ((wrap64 ((wrap64 (2 * x202001)) - (wrap64 (2 * x192004)))) - x192006)))) x192006).bind fun t215 => (if (wrap64 ((wrap64 (t214 * t214)) + (wrap64 (t215 * t215)))) > 1048576 then (chanceryref3_HitShape.l0 k x0 x5 x16 x17 (wrap64 (x18 + 1)) x190000 x190001) else (chanceryref3_HitShape.l0 k x0 x192000 x16 x17 (wrap64 (x18 + 1)) x190000 x190001)))) else (chanceryref3_HitShape.l0 k x0 x192000 x16 x17 (wrap64 (x18 + 1)) x190000 x190001)
end
def chanceryref3_HitShape.f (k : Nat) (l0 : List (S45)) (a1_0 : Int) (a1_1 : Int) : Option (Int) := chanceryref3_HitShape.l0 k l0 0 l0 (l0.length : Int) 0 a1_0 a1_1
theorem chanceryref3_HitShape.mono_l : ∀ k, (∀ y0 y1 y2 y3 y4 y5 y6, LeO (chanceryref3_HitShape.l0 k y0 y1 y2 y3 y4 y5 y6) (chanceryref3_HitShape.l0 (k + 1) y0 y1 y2 y3 y4 y5 y6)) ∧ (∀ y0 y1 y2 y3 y4 y5 y6 y7 y8 y9 y10 y11 y12 y13 y14 y15 y16 y17 y18 y19, LeO (chanceryref3_HitShape.j1 k y0 y1 y2 y3 y4 y5 y6 y7 y8 y9 y10 y11 y12 y13 y14 y15 y16 y17 y18 y19) (chanceryref3_HitShape.j1 (k + 1) y0 y1 y2 y3 y4 y5 y6 y7 y8 y9 y10 y11 y12 y13 y14 y15 y16 y17 y18 y19)) ∧ (∀ y0 y1 y2 y3 y4 y5 y6 y7 y8 y9 y10 y11 y12 y13 y14 y15 y16 y17 y18 y19 y20, LeO (chanceryref3_HitShape.l1 k y0 y1 y2 y3 y4 y5 y6 y7 y8 y9 y10 y11 y12 y13 y14 y15 y16 y17 y18 y19 y20) (chanceryref3_HitShape.l1 (k + 1) y0 y1 y2 y3 y4 y5 y6 y7 y8 y9 y10 y11 y12 y13 y14 y15 y16 y17 y18 y19 y20)) ∧ (∀ y0 y1 y2 y3 y4 y5 y6 y7 y8 y9 y10 y11 y12 y13 y14 y15 y16 y17 y18 y19 y20 y21 y22 y23, LeO (chanceryref3_HitShape.l2 k y0 y1 y2 y3 y4 y5 y6 y7 y8 y9 y10 y11 y12 y13 y14 y15 y16 y17 y18 y19 y20 y21 y22 y23) (chanceryref3_HitShape.l2 (k + 1) y0 y1 y2 y3 y4 y5 y6 y7 y8 y9 y10 y11 y12 y13 y14 y15 y16 y17 y18 y19 y20 y21 y22 y23)) ∧ (∀ y0 y1 y2 y3 y4 y5 y6 y7 y8 y9 y10 y11 y12 y13 y14 y15 y16 y17 y18 y19 y20 y21, LeO (chanceryref3_HitShape.j4 k y0 y1 y2 y3 y4 y5 y6 y7 y8 y9 y10 y11 y12 y13 y14 y15 y16 y17 y18 y19 y20 y21) (chanceryref3_HitShape.j4 (k + 1) y0 y1 y2 y3 y4 y5 y6 y7 y8 y9 y10 y11 y12 y13 y14 y15 y16 y17 y18 y19 y20 y21)) ∧ (∀ y0 y1 y2 y3 y4 y5 y6 y7 y8 y9 y10 y11 y12 y13 y14 y15 y16 y17 y18 y19 y20 y21, LeO (chanceryref3_HitShape.j5 k y0 y1 y2 y3 y4 y5 y6 y7 y8 y9 y10 y11 y12 y13 y14 y15 y16 y17 y18 y19 y20 y21) (chanceryref3_HitShape.j5 (k + 1) y0 y1 y2 y3 y4 y5 y6 y7 y8 y9 y10 y11 y12 y13 y14 y15 y16 y17 y18 y19 y20 y21))
 | 0 => ⟨fun _ _ _ _ _ _ _ r h => by simp [chanceryref3_HitShape.l0] at h, fun _ _ _ _ _ _ _ _ _ _ _ _ _ _ _ _ _ _ _ _ r h => by simp [chanceryref3_HitShape.j1] at h, fun _ _ _ _ _ _ _ _ _ _ _ _ _ _ _ _ _ _ _ _ _ r h => by simp [chanceryref3_HitShape.l1] at h, fun _ _ _ _ _ _ _ _ _ _ _ _ _ _ _ _ _ _ _ _ _ _ _ _ r h => by simp [chanceryref3_HitShape.l2] at h, fun _ _ _ _ _ _ _ _ _ _ _ _ _ _ _ _ _ _ _ _ _ _ r h => by simp [chanceryref3_HitShape.j4] at h, fun _ _ _ _ _ _ _ _ _ _ _ _ _ _ _ _ _ _ _ _ _ _ r h => by simp [chanceryref3_HitShape.j5] at h⟩
 | k + 1 => by
  obtain ⟨ih0, ih1, ih2, ih3, ih4, ih5⟩ := chanceryref3_HitShape.mono_l k
  refine ⟨?_, ?_, ?_, ?_, ?_, ?_⟩
  ·intro y0 y1 y2 y3 y4 y5 y6
   unfold chanceryref3_HitShape.l0
   repeat' first
   | (with_reducible exact ih0 _ _ _ _ _ _ _)
   | (with_reducible exact ih1 _ _ _ _ _ _ _ _ _ _ _ _ _ _ _ _ _ _ _ _)
   | (with_reducible exact ih2 _ _ _ _ _ _ _ _ _ _ _ _ _ _ _ _ _ _ _ _ _)
   | (with_reducible exact ih3 _ _ _ _ _ _ _ _ _ _ _ _ _ _ _ _ _ _ _ _ _ _ _ _)
   | (with_reducible exact ih4 _ _ _ _ _ _ _ _ _ _ _ _ _ _ _ _ _ _ _ _ _ _)
   | (with_reducible exact ih5 _ _ _ _ _ _ _ _ _ _ _ _ _ _ _ _ _ _ _ _ _ _)
   | (with_reducible exact chanceryref3_ShapeAt.mono _ _ _)
   | (with_reducible exact LeO.refl _)
   | (with_reducible exact LeO.none _)
   | (with_reducible refine LeO.ite ?_ ?_)
   | (with_reducible refine LeO.bind ?_ (fun _ => ?_))
   | exact ih0 _ _ _ _ _ _ _
   | exact ih1 _ _ _ _ _ _ _ _ _ _ _ _ _ _ _ _ _ _ _ _
   | exact ih2 _ _ _ _ _ _ _ _ _ _ _ _ _ _ _ _ _ _ _ _ _
   | exact ih3 _ _ _ _ _ _ _ _ _ _ _ _ _ _ _ _ _ _ _ _ _ _ _ _
   | exact ih4 _ _ _ _ _ _ _ _ _ _ _ _ _ _ _ _ _ _ _ _ _ _
   | exact ih5 _ _ _ _ _ _ _ _ _ _ _ _ _ _ _ _ _ _ _ _ _ _
   | exact chanceryref3_ShapeAt.mono _ _ _
   | exact LeO.none _
   | refine LeO.ite ?_ ?_
   | refine LeO.bind ?_ (fun _ => ?_)
  ·intro y0 y1 y2 y3 y4 y5 y6 y7 y8 y9 y10 y11 y12 y13 y14 y15 y16 y17 y18 y19
   unfold chanceryref3_HitShape.j1
   repeat' first
   | (with_reducible exact ih0 _ _ _ _ _ _ _)
   | (with_reducible exact ih1 _ _ _ _ _ _ _ _ _ _ _ _ _ _ _ _ _ _ _ _)
   | (with_reducible exact ih2 _ _ _ _ _ _ _ _ _ _ _ _ _ _ _ _ _ _ _ _ _)
   | (with_reducible exact ih3 _ _ _ _ _ _ _ _ _ _ _ _ _ _ _ _ _ _ _ _ _ _ _ _)
   | (with_reducible exact ih4 _ _ _ _ _ _ _ _ _ _ _ _ _ _ _ _ _ _ _ _ _ _)
   | (with_reducible exact ih5 _ _ _ _ _ _ _ _ _ _ _ _ _ _ _ _ _ _ _ _ _ _)
   | (with_reducible exact chanceryref3_ShapeAt.mono _ _ _)
   | (with_reducible exact LeO.refl _)
   | (with_reducible exact LeO.none _)
   | (with_reducible refine LeO.ite ?_ ?_)
   | (with_reducible refine LeO.bind ?_ (fun _ => ?_))
   | exact ih0 _ _ _ _ _ _ _
   | exact ih1 _ _ _ _ _ _ _ _ _ _ _ _ _ _ _ _ _ _ _ _
   | exact ih2 _ _ _ _ _ _ _ _ _ _ _ _ _ _ _ _ _ _ _ _ _
   | exact ih3 _ _ _ _ _ _ _ _ _ _ _ _ _ _ _ _ _ _ _ _ _ _ _ _
   | exact ih4 _ _ _ _ _ _ _ _ _ _ _ _ _ _ _ _ _ _ _ _ _ _
   | exact ih5 _ _ _ _ _ _ _ _ _ _ _ _ _ _ _ _ _ _ _ _ _ _
   | exact chanceryref3_ShapeAt.mono _ _ _
   | exact LeO.none _
   | refine LeO.ite ?_ ?_
   | refine LeO.bind ?_ (fun _ => ?_)
  ·intro y0 y1 y2 y3 y4 y5 y6 y7 y8 y9 y10 y11 y12 y13 y14 y15 y16 y17 y18 y19 y20
   unfold chanceryref3_HitShape.l1
   repeat' first
   | (with_reducible exact ih0 _ _ _ _ _ _ _)
   | (with_reducible exact ih1 _ _ _ _ _ _ _ _ _ _ _ _ _ _ _ _ _ _ _ _)
   | (with_reducible exact ih2 _ _ _ _ _ _ _ _ _ _ _ _ _ _ _ _ _ _ _ _ _)
   | (with_reducible exact ih3 _ _ _ _ _ _ _ _ _ _ _ _ _ _ _ _ _ _ _ _ _ _ _ _)
   | (with_reducible exact ih4 _ _ _ _ _ _ _ _ _ _ _ _ _ _ _ _ _ _ _ _ _ _)
   | (with_reducible exact ih5 _ _ _ _ _ _ _ _ _ _ _ _ _ _ _ _ _ _ _ _ _ _)
   | (with_reducible exact chanceryref3_ShapeAt.mono _ _ _)
   | (with_reducible exact LeO.refl _)
   | (with_reducible exact LeO.none _)
   | (with_reducible refine LeO.ite ?_ ?_)
   | (with_reducible refine LeO.bind ?_ (fun _ => ?_))
   | exact ih0 _ _ _ _ _ _ _
   | exact ih1 _ _ _ _ _ _ _ _ _ _ _ _ _ _ _ _ _ _ _ _
   | exact ih2 _ _ _ _ _ _ _ _ _ _ _ _ _ _ _ _ _ _ _ _ _
   | exact ih3 _ _ _ _ _ _ _ _ _ _ _ _ _ _ _ _ _ _ _ _ _ _ _ _
   | exact ih4 _ _ _ _ _ _ _ _ _ _ _ _ _ _ _ _ _ _ _ _ _ _
   | exact ih5 _ _ _ _ _ _ _ _ _ _ _ _ _ _ _ _ _ _ _ _ _ _
   | exact chanceryref3_ShapeAt.mono _ _ _
   | exact LeO.none _
   | refine LeO.ite ?_ ?_
   | refine LeO.bind ?_ (fun _ => ?_)
  ·intro y0 y1 y2 y3 y4 y5 y6 y7 y8 y9 y10 y11 y12 y13 y14 y15 y16 y17 y18 y19 y20 y21 y22 y23
   unfold chanceryref3_HitShape.l2
   repeat' first
   | (with_reducible exact ih0 _ _ _ _ _ _ _)
   | (with_reducible exact ih1 _ _ _ _ _ _ _ _ _ _ _ _ _ _ _ _ _ _ _ _)
   | (with_reducible exact ih2 _ _ _ _ _ _ _ _ _ _ _ _ _ _ _ _ _ _ _ _ _)
   | (with_reducible exact ih3 _ _ _ _ _ _ _ _ _ _ _ _ _ _ _ _ _ _ _ _ _ _ _ _)
   | (with_reducible exact ih4 _ _ _ _ _ _ _ _ _ _ _ _ _ _ _ _ _ _ _ _ _ _)
   | (with_reducible exact ih5 _ _ _ _ _ _ _ _ _ _ _ _ _ _ _ _ _ _ _ _ _ _)
   | (with_reducible exact chanceryref3_ShapeAt.mono _ _ _)
   | (with_reducible exact LeO.refl _)
   | (with_reducible exact LeO.none _)
   | (with_reducible refine LeO.ite ?_ ?_)
   | (with_reducible refine LeO.bind ?_ (fun _ => ?_))
   | exact ih0 _ _ _ _ _ _ _
   | exact ih1 _ _ _ _ _ _ _ _ _ _ _ _ _ _ _ _ _ _ _ _
   | exact ih2 _ _ _ _ _ _ _ _ _ _ _ _ _ _ _ _ _ _ _ _ _
   | exact ih3 _ _ _ _ _ _ _ _ _ _ _ _ _ _ _ _ _ _ _ _ _ _ _ _
   | exact ih4 _ _ _ _ _ _ _ _ _ _ _ _ _ _ _ _ _ _ _ _ _ _
   | exact ih5 _ _ _ _ _ _ _ _ _ _ _ _ _ _ _ _ _ _ _ _ _ _
   | exact chanceryref3_ShapeAt.mono _ _ _
   | exact LeO.none _
   | refine LeO.ite ?_ ?_
   | refine LeO.bind ?_ (fun _ => ?_)
  ·intro y0 y1 y2 y3 y4 y5 y6 y7 y8 y9 y10 y11 y12 y13 y14 y15 y16 y17 y18 y19 y20 y21
   unfold chanceryref3_HitShape.j4
   repeat' first
   | (with_reducible exact ih0 _ _ _ _ _ _ _)
   | (with_reducible exact ih1 _ _ _ _ _ _ _ _ _ _ _ _ _ _ _ _ _ _ _ _)
   | (with_reducible exact ih2 _ _ _ _ _ _ _ _ _ _ _ _ _ _ _ _ _ _ _ _ _)
   | (with_reducible exact ih3 _ _ _ _ _ _ _ _ _ _ _ _ _ _ _ _ _ _ _ _ _ _ _ _)
   | (with_reducible exact ih4 _ _ _ _ _ _ _ _ _ _ _ _ _ _ _ _ _ _ _ _ _ _)
   | (with_reducible exact ih5 _ _ _ _ _ _ _ _ _ _ _ _ _ _ _ _ _ _ _ _ _ _)
   | (with_reducible exact chanceryref3_ShapeAt.mono _ _ _)
   | (with_reducible exact LeO.refl _)
   | (with_reducible exact LeO.none _)
   | (with_reducible refine LeO.ite ?_ ?_)
   | (with_reducible refine LeO.bind ?_ (fun _ => ?_))
   | exact ih0 _ _ _ _ _ _ _
   | exact ih1 _ _ _ _ _ _ _ _ _ _ _ _ _ _ _ _ _ _ _ _
   | exact ih2 _ _ _ _ _ _ _ _ _ _ _ _ _ _ _ _ _ _ _ _ _
   | exact ih3 _ _ _ _ _ _ _ _ _ _ _ _ _ _ _ _ _ _ _ _ _ _ _ _
   | exact ih4 _ _ _ _ _ _ _ _ _ _ _ _ _ _ _ _ _ _ _ _ _ _
   | exact ih5 _ _ _ _ _ _ _ _ _ _ _ _ _ _ _ _ _ _ _ _ _ _
   | exact chanceryref3_ShapeAt.mono _ _ _
   | exact LeO.none _
   | refine LeO.ite ?_ ?_
   | refine LeO.bind ?_ (fun _ => ?_)
  ·intro y0 y1 y2 y3 y4 y5 y6 y7 y8 y9 y10 y11 y12 y13 y14 y15 y16 y17 y18 y19 y20 y21
   unfold chanceryref3_HitShape.j5
   repeat' first
   | (with_reducible exact ih0 _ _ _ _ _ _ _)
   | (with_reducible exact ih1 _ _ _ _ _ _ _ _ _ _ _ _ _ _ _ _ _ _ _ _)
   | (with_reducible exact ih2 _ _ _ _ _ _ _ _ _ _ _ _ _ _ _ _ _ _ _ _ _)
   | (with_reducible exact ih3 _ _ _ _ _ _ _ _ _ _ _ _ _ _ _ _ _ _ _ _ _ _ _ _)
   | (with_reducible exact ih4 _ _ _ _ _ _ _ _ _ _ _ _ _ _ _ _ _ _ _ _ _ _)
   | (with_reducible exact ih5 _ _ _ _ _ _ _ _ _ _ _ _ _ _ _ _ _ _ _ _ _ _)
   | (with_reducible exact chanceryref3_ShapeAt.mono _ _ _)
   | (with_reducible exact LeO.refl _)
   | (with_reducible exact LeO.none _)
   | (with_reducible refine LeO.ite ?_ ?_)
   | (with_reducible refine LeO.bind ?_ (fun _ => ?_))
   | exact ih0 _ _ _ _ _ _ _
   | exact ih1 _ _ _ _ _ _ _ _ _ _ _ _ _ _ _ _ _ _ _ _
   | exact ih2 _ _ _ _ _ _ _ _ _ _ _ _ _ _ _ _ _ _ _ _ _
   | exact ih3 _ _ _ _ _ _ _ _ _ _ _ _ _ _ _ _ _ _ _ _ _ _ _ _
   | exact ih4 _ _ _ _ _ _ _ _ _ _ _ _ _ _ _ _ _ _ _ _ _ _
   | exact ih5 _ _ _ _ _ _ _ _ _ _ _ _ _ _ _ _ _ _ _ _ _ _
   | exact chanceryref3_ShapeAt.mono _ _ _
   | exact LeO.none _
   | refine LeO.ite ?_ ?_
   | refine LeO.bind ?_ (fun _ => ?_)
theorem chanceryref3_HitShape.mono : ∀ a0 a1 a2 k, LeO (chanceryref3_HitShape.f k a0 a1 a2) (chanceryref3_HitShape.f (k + 1) a0 a1 a2) := by
 intro a0 a1 a2 k
 obtain ⟨ih0, ih1, ih2, ih3, ih4, ih5⟩ := chanceryref3_HitShape.mono_l k
 unfold chanceryref3_HitShape.f
 repeat' first
   | (with_reducible exact ih0 _ _ _ _ _ _ _)
   | (with_reducible exact ih1 _ _ _ _ _ _ _ _ _ _ _ _ _ _ _ _ _ _ _ _)
   | (with_reducible exact ih2 _ _ _ _ _ _ _ _ _ _ _ _ _ _ _ _ _ _ _ _ _)
   | (with_reducible exact ih3 _ _ _ _ _ _ _ _ _ _ _ _ _ _ _ _ _ _ _ _ _ _ _ _)
   | (with_reducible exact ih4 _ _ _ _ _ _ _ _ _ _ _ _ _ _ _ _ _ _ _ _ _ _)
   | (with_reducible exact ih5 _ _ _ _ _ _ _ _ _ _ _ _ _ _ _ _ _ _ _ _ _ _)
   | (with_reducible exact chanceryref3_ShapeAt.mono _ _ _)
   | (with_reducible exact LeO.refl _)
   | (with_reducible exact LeO.none _)
   | (with_reducible refine LeO.ite ?_ ?_)
   | (with_reducible refine LeO.bind ?_ (fun _ => ?_))
   | exact ih0 _ _ _ _ _ _ _
   | exact ih1 _ _ _ _ _ _ _ _ _ _ _ _ _ _ _ _ _ _ _ _
   | exact ih2 _ _ _ _ _ _ _ _ _ _ _ _ _ _ _ _ _ _ _ _ _
   | exact ih3 _ _ _ _ _ _ _ _ _ _ _ _ _ _ _ _ _ _ _ _ _ _ _ _
   | exact ih4 _ _ _ _ _ _ _ _ _ _ _ _ _ _ _ _ _ _ _ _ _ _
   | exact ih5 _ _ _ _ _ _ _ _ _ _ _ _ _ _ _ _ _ _ _ _ _ _
   | exact chanceryref3_ShapeAt.mono _ _ _
   | exact LeO.none _
   | refine LeO.ite ?_ ?_
   | refine LeO.bind ?_ (fun _ => ?_)
def chanceryref3_HitShape.T16 : Bool × List (List Nat × List Nat) := (true, [([], []), ([], []), ([1], [1]), ([], []), ([3], [3]), ([4], [4]), ([0, 2, 5, 2], [0, 2, 5]), ([6, 6, 0, 1, 2, 3, 4, 5, 6], [6])])
def chanceryref3_HitShape.B16 : List Nat := [0, 0, 2, 0, 8, 24, 63, 127]
theorem chanceryref3_HitShape.tab16 : rtab .any (opsOf Tryd.f15 16) = chanceryref3_HitShape.T16 := by kernel_rfl
theorem chanceryref3_HitShape.bits16 : waitsOk chanceryref3_HitShape.T16.2 chanceryref3_HitShape.B16 = true := by kernel_rfl
def chanceryref3_HitShape.T19 : Bool × List (List Nat × List Nat) := (true, [([], []), ([], []), ([1], [1]), ([], []), ([3], [3]), ([4], [4]), ([0, 2, 5, 2], [0, 2, 5]), ([6, 6, 0, 1, 2, 3, 4, 5, 6], [6])])
def chanceryref3_HitShape.B19 : List Nat := [0, 0, 2, 0, 8, 24, 63, 127]
theorem chanceryref3_HitShape.tab19 : rtab .any (opsOf Tryd.f15 19) = chanceryref3_HitShape.T19 := by kernel_rfl
theorem chanceryref3_HitShape.bits19 : waitsOk chanceryref3_HitShape.T19.2 chanceryref3_HitShape.B19 = true := by kernel_rfl
def chanceryref3_HitShape.T22 : Bool × List (List Nat × List Nat) := (true, [([], []), ([0], [0]), ([1], [1]), ([], []), ([3], [3]), ([4], [4]), ([2, 5], [2, 5]), ([], []), ([7], [7]), ([6, 8], [6, 8]), ([9], [9]), ([], []), ([11], [11]), ([10, 12], [10, 12]), ([], []), ([14], [14]), ([15], [15]), ([], []), ([17], [17]), ([18], [18]), ([16, 19], [16, 19]), ([], []), ([21], [21]), ([20, 22], [20, 22]), ([23], [23]), ([], []), ([25], [25]), ([24, 26, 13], [24, 26]), ([13, 27, 0, 1, 2, 3, 4, 5, 6, 7, 8, 9, 10, 11, 12, 13], [13]), ([27, 28, 0, 1, 2, 3, 4, 5, 6, 7, 8, 9, 10, 11, 12, 13, 14, 15, 16, 17, 18, 19, 20, 21, 22, 23, 24, 25, 26, 27, 28], [27])])
def chanceryref3_HitShape.B22 : List Nat := [0, 1, 3, 0, 8, 24, 63, 0, 128, 511, 1023, 0, 2048, 8191, 0, 16384, 49152, 0, 131072, 393216, 1032192, 0, 2097152, 8372224, 16760832, 0, 33554432, 134217727, 268435455, 536870911]
theorem chanceryref3_HitShape.tab22 : rtab .any (opsOf Tryd.f15 22) = chanceryref3_HitShape.T22 := by kernel_rfl
theorem chanceryref3_HitShape.bits22 : waitsOk chanceryref3_HitShape.T22.2 chanceryref3_HitShape.B22 = true := by kernel_rfl
end Go.Proofs.YtmheeekbbhkmkaaDoor.QSH
