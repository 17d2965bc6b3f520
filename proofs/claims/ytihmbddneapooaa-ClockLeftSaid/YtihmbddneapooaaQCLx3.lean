-- WRITTEN BY wip/print2.py, a program of this session, over contracts of this session's own; no print of print.sh
import Derived.Test.YtihmbddneapooaaQCLx0
import Derived.Test.YtihmbddneapooaaQCLx2
namespace Go.Proofs.Ytihmbddneapooaa.QCL
open Go.RowKit Go.Proofs.Ytihmbddneapooaa.PClockLeft Go.Proofs.Ytihmbddneapooaa.HandCK Go.Proofs.YtihmbddneapooaaW.PrintWords Go.Proofs.YtihmbddneapooaaW.PrintLast Go.Proofs.YtihmbddneapooaaW.PrintMore
attribute [local go_sem] max2_int min2_int max_two min_two max_three min_three max_four min_four   -- for this text's walks alone
set_option linter.unusedVariables false
set_option linter.unusedSimpArgs false

/-! ### chancerylaw3_ClockLeft: function 12 -/
mutual
def chancerylaw3_ClockLeft.j0 : Nat → List Int → Int → Int → Int → Int → Bool → Bool → Int → Int → List (S74) → Option (Bool)
  | 0, _, _, _, _, _, _, _, _, _, _ => none
  | k + 1, x2, x7, x8, x9, x11, x38, x138000, x138001, x138002, x138003 => if x38 = true then (chancerylaw3_ClockLeft.j1 k x2 x7 x8 x9 3 x138000 x138001 x138002 x138003) else (chancerylaw3_ClockLeft.j1 k x2 x7 x8 x9 x11 x138000 x138001 x138002 x138003)
def chancerylaw3_ClockLeft.j1 : Nat → List Int → Int → Int → Int → Int → Bool → Int → Int → List (S74) → Option (Bool)
  | 0, _, _, _, _, _, _, _, _, _ => none
  | k + 1, x2, x7, x8, x9, x11, x138000, x138001, x138002, x138003 => chancerylaw3_ClockLeft.l0 k x7 x8 x9 x11 0 0 x2 (x2.length : Int) 0 x138000 x138001 x138002 x138003
def chancerylaw3_ClockLeft.l0 : Nat → Int → Int → Int → Int → Int → Int → List Int → Int → Int → Bool → Int → Int → List (S74) → Option (Bool)
  | 0, _, _, _, _, _, _, _, _, _, _, _, _, _ => none
  | k + 1, x7, x8, x9, x11, x12, x13, x39, x40, x41, x138000, x138001, x138002, x138003 => if x41 < x40 then (if 0 ≤ x41 then (if x41 < (x39.length : Int) then (if x11 = 0 then ((chanceryref3_In.f (rd x39 x41) 0 10000000).bind fun t139 => (chancerylaw3_ClockLeft.j3 k x7 x8 x9 x11 x12 x13 x41 (rd x39 x41) x39 x40 x41 (!t139) x138000 x138001 x138002 x138003)) else (chancerylaw3_ClockLeft.j3 k x7 x8 x9 x11 x12 x13 x41 (rd x39 x41) x39 x40 x41 false x138000 x138001 x138002 x138003)) else (none)) else (none)) else (if x11 = 0 then (if x9 = 0 then (if x7 = (wrap64 (x12 - x138001)) then (some (x8 == (mx 0 (wrap64 (x138001 - x13))))) else (some false)) else (some false)) else (if x9 = x11 then (if x7 = 0 then (some (x8 == 0)) else (some false)) else (some false)))
def chancerylaw3_ClockLeft.j3 : Nat → Int → Int → Int → Int → Int → Int → Int → Int → List Int → Int → Int → Bool → Bool → Int → Int → List (S74) → Option (Bool)
  | 0, _, _, _, _, _, _, _, _, _, _, _, _, _, _, _, _ => none
  | k + 1, x7, x8, x9, x11, x12, x13, x14, x15, x39, x40, x41, x52, x138000, x138001, x138002, x138003 => if x52 = true then (chancerylaw3_ClockLeft.j4 k x7 x8 x9 2 x12 x13 x14 x15 x39 x40 x41 x138000 x138001 x138002 x138003) else (chancerylaw3_ClockLeft.j4 k x7 x8 x9 x11 x12 x13 x14 x15 x39 x40 x41 x138000 x138001 x138002 x138003)
def chancerylaw3_ClockLeft.j4 : Nat → Int → Int → Int → Int → Int → Int → Int → Int → List Int → Int → Int → Bool → Int → Int → List (S74) → Option (Bool)
  | 0, _, _, _, _, _, _, _, _, _, _, _, _, _, _, _ => none
  | k + 1, x7, x8, x9, x11, x12, x13, x14, x15, x39, x40, x41, x138000, x138001, x138002, x138003 => if x11 = 0 then (if x14 < x138002 then (chancerylaw3_ClockLeft.l0 k x7 x8 x9 x11 (wrap64 (x12 + x15)) (wrap64 (x13 + x15)) x39 x40 (wrap64 (x41 + 1)) x138000 x138001 x138002 x138003) else (chancerylaw3_ClockLeft.l0 k x7 x8 x9 x11 (wrap64 (x12 + x15)) x13 x39 x40 (wrap64 (x41 + 1)) x138000 x138001 x138002 x138003)) else (chancerylaw3_ClockLeft.l0 k x7 x8 x9 x11 x12 x13 x39 x40 (wrap64 (x41 + 1)) x138000 x138001 x138002 x138003)
end
def chancerylaw3_ClockLeft.f (k : Nat) (l0 : List (S72)) (a1 : Int) (l2 : List Int) : Option (Bool) := (chancerylaw3_clocked.f k).bind fun t126 => (if t126 = true then ((clock_Left.f k l0 a1 l2).bind fun bt127 => ((clock_Report.f k l0 a1).bind fun bt130 => (if bt130.2.2.2.2 = 0 then (chancerylaw3_ClockLeft.j0 k l2 bt127.1 bt127.2.1 bt127.2.2 bt130.2.2.2.2 (decide ((l2.length : Int) > 1000)) bt130.1 bt130.2.1 bt130.2.2.1 bt130.2.2.2.1) else (chancerylaw3_ClockLeft.j0 k l2 bt127.1 bt127.2.1 bt127.2.2 bt130.2.2.2.2 false bt130.1 bt130.2.1 bt130.2.2.1 bt130.2.2.2.1)))) else (some false))
theorem chancerylaw3_ClockLeft.mono_l : ∀ k, (∀ y0 y1 y2 y3 y4 y5 y6 y7 y8 y9, LeO (chancerylaw3_ClockLeft.j0 k y0 y1 y2 y3 y4 y5 y6 y7 y8 y9) (chancerylaw3_ClockLeft.j0 (k + 1) y0 y1 y2 y3 y4 y5 y6 y7 y8 y9)) ∧ (∀ y0 y1 y2 y3 y4 y5 y6 y7 y8, LeO (chancerylaw3_ClockLeft.j1 k y0 y1 y2 y3 y4 y5 y6 y7 y8) (chancerylaw3_ClockLeft.j1 (k + 1) y0 y1 y2 y3 y4 y5 y6 y7 y8)) ∧ (∀ y0 y1 y2 y3 y4 y5 y6 y7 y8 y9 y10 y11 y12, LeO (chancerylaw3_ClockLeft.l0 k y0 y1 y2 y3 y4 y5 y6 y7 y8 y9 y10 y11 y12) (chancerylaw3_ClockLeft.l0 (k + 1) y0 y1 y2 y3 y4 y5 y6 y7 y8 y9 y10 y11 y12)) ∧ (∀ y0 y1 y2 y3 y4 y5 y6 y7 y8 y9 y10 y11 y12 y13 y14 y15, LeO (chancerylaw3_ClockLeft.j3 k y0 y1 y2 y3 y4 y5 y6 y7 y8 y9 y10 y11 y12 y13 y14 y15) (chancerylaw3_ClockLeft.j3 (k + 1) y0 y1 y2 y3 y4 y5 y6 y7 y8 y9 y10 y11 y12 y13 y14 y15)) ∧ (∀ y0 y1 y2 y3 y4 y5 y6 y7 y8 y9 y10 y11 y12 y13 y14, LeO (chancerylaw3_ClockLeft.j4 k y0 y1 y2 y3 y4 y5 y6 y7 y8 y9 y10 y11 y12 y13 y14) (chancerylaw3_ClockLeft.j4 (k + 1) y0 y1 y2 y3 y4 y5 y6 y7 y8 y9 y10 y11 y12 y13 y14))
  | 0 => ⟨fun _ _ _ _ _ _ _ _ _ _ r h => by simp [chancerylaw3_ClockLeft.j0] at h, fun _ _ _ _ _ _ _ _ _ r h => by simp [chancerylaw3_ClockLeft.j1] at h, fun _ _ _ _ _ _ _ _ _ _ _ _ _ r h => by simp [chancerylaw3_ClockLeft.l0] at h, fun _ _ _ _ _ _ _ _ _ _ _ _ _ _ _ _ r h => by simp [chancerylaw3_ClockLeft.j3] at h, fun _ _ _ _ _ _ _ _ _ _ _ _ _ _ _ r h => by simp [chancerylaw3_ClockLeft.j4] at h⟩
  | k + 1 => by
    obtain ⟨ih0, ih1, ih2, ih3, ih4⟩ := chancerylaw3_ClockLeft.mono_l k
    refine ⟨?_, ?_, ?_, ?_, ?_⟩
    · intro y0 y1 y2 y3 y4 y5 y6 y7 y8 y9
      unfold chancerylaw3_ClockLeft.j0
      repeat' first
      | (with_reducible exact ih0 _ _ _ _ _ _ _ _ _ _)
      | (with_reducible exact ih1 _ _ _ _ _ _ _ _ _)
      | (with_reducible exact ih2 _ _ _ _ _ _ _ _ _ _ _ _ _)
      | (with_reducible exact ih3 _ _ _ _ _ _ _ _ _ _ _ _ _ _ _ _)
      | (with_reducible exact ih4 _ _ _ _ _ _ _ _ _ _ _ _ _ _ _)
      | (with_reducible exact chancerylaw3_clocked.mono _)
      | (with_reducible exact clock_Left.mono _ _ _ _)
      | (with_reducible exact clock_Report.mono _ _ _)
      | (with_reducible exact LeO.refl _)
      | (with_reducible exact LeO.none _)
      | (with_reducible refine LeO.ite ?_ ?_)
      | (with_reducible refine LeO.bind ?_ (fun _ => ?_))
      | exact ih0 _ _ _ _ _ _ _ _ _ _
      | exact ih1 _ _ _ _ _ _ _ _ _
      | exact ih2 _ _ _ _ _ _ _ _ _ _ _ _ _
      | exact ih3 _ _ _ _ _ _ _ _ _ _ _ _ _ _ _ _
      | exact ih4 _ _ _ _ _ _ _ _ _ _ _ _ _ _ _
      | exact chancerylaw3_clocked.mono _
      | exact clock_Left.mono _ _ _ _
      | exact clock_Report.mono _ _ _
      | exact LeO.none _
      | refine LeO.ite ?_ ?_
      | refine LeO.bind ?_ (fun _ => ?_)
    · intro y0 y1 y2 y3 y4 y5 y6 y7 y8
      unfold chancerylaw3_ClockLeft.j1
      repeat' first
      | (with_reducible exact ih0 _ _ _ _ _ _ _ _ _ _)
      | (with_reducible exact ih1 _ _ _ _ _ _ _ _ _)
      | (with_reducible exact ih2 _ _ _ _ _ _ _ _ _ _ _ _ _)
      | (with_reducible exact ih3 _ _ _ _ _ _ _ _ _ _ _ _ _ _ _ _)
      | (with_reducible exact ih4 _ _ _ _ _ _ _ _ _ _ _ _ _ _ _)
      | (with_reducible exact chancerylaw3_clocked.mono _)
      | (with_reducible exact clock_Left.mono _ _ _ _)
      | (with_reducible exact clock_Report.mono _ _ _)
      | (with_reducible exact LeO.refl _)
      | (with_reducible exact LeO.none _)
      | (with_reducible refine LeO.ite ?_ ?_)
      | (with_reducible refine LeO.bind ?_ (fun _ => ?_))
      | exact ih0 _ _ _ _ _ _ _ _ _ _
      | exact ih1 _ _ _ _ _ _ _ _ _
      | exact ih2 _ _ _ _ _ _ _ _ _ _ _ _ _
      | exact ih3 _ _ _ _ _ _ _ _ _ _ _ _ _ _ _ _
      | exact ih4 _ _ _ _ _ _ _ _ _ _ _ _ _ _ _
      | exact chancerylaw3_clocked.mono _
      | exact clock_Left.mono _ _ _ _
      | exact clock_Report.mono _ _ _
      | exact LeO.none _
      | refine LeO.ite ?_ ?_
      | refine LeO.bind ?_ (fun _ => ?_)
    · intro y0 y1 y2 y3 y4 y5 y6 y7 y8 y9 y10 y11 y12
      unfold chancerylaw3_ClockLeft.l0
      repeat' first
      | (with_reducible exact ih0 _ _ _ _ _ _ _ _ _ _)
      | (with_reducible exact ih1 _ _ _ _ _ _ _ _ _)
      | (with_reducible exact ih2 _ _ _ _ _ _ _ _ _ _ _ _ _)
      | (with_reducible exact ih3 _ _ _ _ _ _ _ _ _ _ _ _ _ _ _ _)
      | (with_reducible exact ih4 _ _ _ _ _ _ _ _ _ _ _ _ _ _ _)
      | (with_reducible exact chancerylaw3_clocked.mono _)
      | (with_reducible exact clock_Left.mono _ _ _ _)
      | (with_reducible exact clock_Report.mono _ _ _)
      | (with_reducible exact LeO.refl _)
      | (with_reducible exact LeO.none _)
      | (with_reducible refine LeO.ite ?_ ?_)
      | (with_reducible refine LeO.bind ?_ (fun _ => ?_))
      | exact ih0 _ _ _ _ _ _ _ _ _ _
      | exact ih1 _ _ _ _ _ _ _ _ _
      | exact ih2 _ _ _ _ _ _ _ _ _ _ _ _ _
      | exact ih3 _ _ _ _ _ _ _ _ _ _ _ _ _ _ _ _
      | exact ih4 _ _ _ _ _ _ _ _ _ _ _ _ _ _ _
      | exact chancerylaw3_clocked.mono _
      | exact clock_Left.mono _ _ _ _
      | exact clock_Report.mono _ _ _
      | exact LeO.none _
      | refine LeO.ite ?_ ?_
      | refine LeO.bind ?_ (fun _ => ?_)
    · intro y0 y1 y2 y3 y4 y5 y6 y7 y8 y9 y10 y11 y12 y13 y14 y15
      unfold chancerylaw3_ClockLeft.j3
      repeat' first
      | (with_reducible exact ih0 _ _ _ _ _ _ _ _ _ _)
      | (with_reducible exact ih1 _ _ _ _ _ _ _ _ _)
      | (with_reducible exact ih2 _ _ _ _ _ _ _ _ _ _ _ _ _)
      | (with_reducible exact ih3 _ _ _ _ _ _ _ _ _ _ _ _ _ _ _ _)
      | (with_reducible exact ih4 _ _ _ _ _ _ _ _ _ _ _ _ _ _ _)
      | (with_reducible exact chancerylaw3_clocked.mono _)
      | (with_reducible exact clock_Left.mono _ _ _ _)
      | (with_reducible exact clock_Report.mono _ _ _)
      | (with_reducible exact LeO.refl _)
      | (with_reducible exact LeO.none _)
      | (with_reducible refine LeO.ite ?_ ?_)
      | (with_reducible refine LeO.bind ?_ (fun _ => ?_))
      | exact ih0 _ _ _ _ _ _ _ _ _ _
      | exact ih1 _ _ _ _ _ _ _ _ _
      | exact ih2 _ _ _ _ _ _ _ _ _ _ _ _ _
      | exact ih3 _ _ _ _ _ _ _ _ _ _ _ _ _ _ _ _
      | exact ih4 _ _ _ _ _ _ _ _ _ _ _ _ _ _ _
      | exact chancerylaw3_clocked.mono _
      | exact clock_Left.mono _ _ _ _
      | exact clock_Report.mono _ _ _
      | exact LeO.none _
      | refine LeO.ite ?_ ?_
      | refine LeO.bind ?_ (fun _ => ?_)
    · intro y0 y1 y2 y3 y4 y5 y6 y7 y8 y9 y10 y11 y12 y13 y14
      unfold chancerylaw3_ClockLeft.j4
      repeat' first
      | (with_reducible exact ih0 _ _ _ _ _ _ _ _ _ _)
      | (with_reducible exact ih1 _ _ _ _ _ _ _ _ _)
      | (with_reducible exact ih2 _ _ _ _ _ _ _ _ _ _ _ _ _)
      | (with_reducible exact ih3 _ _ _ _ _ _ _ _ _ _ _ _ _ _ _ _)
      | (with_reducible exact ih4 _ _ _ _ _ _ _ _ _ _ _ _ _ _ _)
      | (with_reducible exact chancerylaw3_clocked.mono _)
      | (with_reducible exact clock_Left.mono _ _ _ _)
      | (with_reducible exact clock_Report.mono _ _ _)
      | (with_reducible exact LeO.refl _)
      | (with_reducible exact LeO.none _)
      | (with_reducible refine LeO.ite ?_ ?_)
      | (with_reducible refine LeO.bind ?_ (fun _ => ?_))
      | exact ih0 _ _ _ _ _ _ _ _ _ _
      | exact ih1 _ _ _ _ _ _ _ _ _
      | exact ih2 _ _ _ _ _ _ _ _ _ _ _ _ _
      | exact ih3 _ _ _ _ _ _ _ _ _ _ _ _ _ _ _ _
      | exact ih4 _ _ _ _ _ _ _ _ _ _ _ _ _ _ _
      | exact chancerylaw3_clocked.mono _
      | exact clock_Left.mono _ _ _ _
      | exact clock_Report.mono _ _ _
      | exact LeO.none _
      | refine LeO.ite ?_ ?_
      | refine LeO.bind ?_ (fun _ => ?_)
theorem chancerylaw3_ClockLeft.mono : ∀ a0 a1 a2 k, LeO (chancerylaw3_ClockLeft.f k a0 a1 a2) (chancerylaw3_ClockLeft.f (k + 1) a0 a1 a2) := by
  intro a0 a1 a2 k
  obtain ⟨ih0, ih1, ih2, ih3, ih4⟩ := chancerylaw3_ClockLeft.mono_l k
  unfold chancerylaw3_ClockLeft.f
  repeat' first
      | (with_reducible exact ih0 _ _ _ _ _ _ _ _ _ _)
      | (with_reducible exact ih1 _ _ _ _ _ _ _ _ _)
      | (with_reducible exact ih2 _ _ _ _ _ _ _ _ _ _ _ _ _)
      | (with_reducible exact ih3 _ _ _ _ _ _ _ _ _ _ _ _ _ _ _ _)
      | (with_reducible exact ih4 _ _ _ _ _ _ _ _ _ _ _ _ _ _ _)
      | (with_reducible exact chancerylaw3_clocked.mono _)
      | (with_reducible exact clock_Left.mono _ _ _ _)
      | (with_reducible exact clock_Report.mono _ _ _)
      | (with_reducible exact LeO.refl _)
      | (with_reducible exact LeO.none _)
      | (with_reducible refine LeO.ite ?_ ?_)
      | (with_reducible refine LeO.bind ?_ (fun _ => ?_))
      | exact ih0 _ _ _ _ _ _ _ _ _ _
      | exact ih1 _ _ _ _ _ _ _ _ _
      | exact ih2 _ _ _ _ _ _ _ _ _ _ _ _ _
      | exact ih3 _ _ _ _ _ _ _ _ _ _ _ _ _ _ _ _
      | exact ih4 _ _ _ _ _ _ _ _ _ _ _ _ _ _ _
      | exact chancerylaw3_clocked.mono _
      | exact clock_Left.mono _ _ _ _
      | exact clock_Report.mono _ _ _
      | exact LeO.none _
      | refine LeO.ite ?_ ?_
      | refine LeO.bind ?_ (fun _ => ?_)
set_option maxHeartbeats 8000000 in
set_option maxRecDepth 100000 in
theorem chancerylaw3_ClockLeft.calls (k : Nat) (A0 : Option Addr) (c0 : Nat) (l0 : List (S72)) (a1 : Int) (A2 : Option Addr) (c2 : Nat) (l2 : List Int) (r : Bool) (w : World) (hr0 : Kd.C k72 w A0 l0.length l0) (hc0 : l0.length ≤ c0) (hr2 : Kd.C (Kd.int .i64) w A2 l2.length l2) (hc2 : l2.length ≤ c2) (h : chancerylaw3_ClockLeft.f k l0 a1 l2 = some r) :
    Calls Try.prog 12 #[.slice A0 l0.length c0, .int .i64 a1, .slice A2 l2.length c2] w fun e w' => e = .returned (.bool r) ∧ Below w.heap.size w w' := by
  have hu67 := Try.underlying67
  have HR0 := Aside0.mk hr0
  have HC0 := Aside0.mk hc0
  clear hr0 hc0
  have HR2 := Aside0.mk hr2
  have HC2 := Aside0.mk hc2
  clear hr2 hc2
  have HB := Aside0.mk (Below.refl w.heap.size w)
  have H : ((chancerylaw3_clocked.f k).bind fun t126 => (if t126 = true then ((clock_Left.f k l0 a1 l2).bind fun bt127 => ((clock_Report.f k l0 a1).bind fun bt130 => (if bt130.2.2.2.2 = 0 then (chancerylaw3_ClockLeft.j0 k l2 bt127.1 bt127.2.1 bt127.2.2 bt130.2.2.2.2 (decide ((l2.length : Int) > 1000)) bt130.1 bt130.2.1 bt130.2.2.1 bt130.2.2.2.1) else (chancerylaw3_ClockLeft.j0 k l2 bt127.1 bt127.2.1 bt127.2.2 bt130.2.2.2.2 false bt130.1 bt130.2.1 bt130.2.2.1 bt130.2.2.2.1)))) else (some false))) = some r := h
  clear h
  replace H := Option.bind_eq_some_iff.mp H
  obtain ⟨t126, A40, H⟩ := H
  replace H : (if t126 = true then ((clock_Left.f k l0 a1 l2).bind fun bt127 => ((clock_Report.f k l0 a1).bind fun bt130 => (if bt130.2.2.2.2 = 0 then (chancerylaw3_ClockLeft.j0 k l2 bt127.1 bt127.2.1 bt127.2.2 bt130.2.2.2.2 (decide ((l2.length : Int) > 1000)) bt130.1 bt130.2.1 bt130.2.2.1 bt130.2.2.2.1) else (chancerylaw3_ClockLeft.j0 k l2 bt127.1 bt127.2.1 bt127.2.2 bt130.2.2.2.2 false bt130.1 bt130.2.1 bt130.2.2.1 bt130.2.2.2.1)))) else (some false)) = some r := H
  have A4 := Aside0.mk A40
  clear A40
  by_cases c5 : t126 = true
  · subst c5
    have H1 : ((clock_Left.f k l0 a1 l2).bind fun bt127 => ((clock_Report.f k l0 a1).bind fun bt130 => (if bt130.2.2.2.2 = 0 then (chancerylaw3_ClockLeft.j0 k l2 bt127.1 bt127.2.1 bt127.2.2 bt130.2.2.2.2 (decide ((l2.length : Int) > 1000)) bt130.1 bt130.2.1 bt130.2.2.1 bt130.2.2.2.1) else (chancerylaw3_ClockLeft.j0 k l2 bt127.1 bt127.2.1 bt127.2.2 bt130.2.2.2.2 false bt130.1 bt130.2.1 bt130.2.2.1 bt130.2.2.2.1)))) = some r := by rw [if_pos rfl] at H; exact H
    clear H
    have H := H1
    clear H1
    replace H := Option.bind_eq_some_iff.mp H
    obtain ⟨⟨t127, t128, t129⟩, A60, H⟩ := H
    replace H : ((clock_Report.f k l0 a1).bind fun bt130 => (if bt130.2.2.2.2 = 0 then (chancerylaw3_ClockLeft.j0 k l2 t127 t128 t129 bt130.2.2.2.2 (decide ((l2.length : Int) > 1000)) bt130.1 bt130.2.1 bt130.2.2.1 bt130.2.2.2.1) else (chancerylaw3_ClockLeft.j0 k l2 t127 t128 t129 bt130.2.2.2.2 false bt130.1 bt130.2.1 bt130.2.2.1 bt130.2.2.2.1))) = some r := H
    have A6 := Aside0.mk A60
    clear A60
    replace H := Option.bind_eq_some_iff.mp H
    obtain ⟨⟨t130, t131, t132, t133, t136⟩, A70, H⟩ := H
    replace H : (if t136 = 0 then (chancerylaw3_ClockLeft.j0 k l2 t127 t128 t129 t136 (decide ((l2.length : Int) > 1000)) t130 t131 t132 t133) else (chancerylaw3_ClockLeft.j0 k l2 t127 t128 t129 t136 false t130 t131 t132 t133)) = some r := H
    have A7 := Aside0.mk A70
    clear A70
    have HC8 := Aside0.mk H
    clear H
    go_enter Try.func12, Try.ntmps12
    go_upto_region 5 with (first | ((with_reducible refine gate_callee (f := 33) rfl ?_); refine goesL_ (some 16) rfl rfl Try.func33 (by kernel_rfl) rfl #[] rfl (by (try simp only [List.map_toArray, List.map_cons, List.map_nil]); first | done | rfl | (simp only [List.length_drop, List.length_take]; rfl)) ?_; (with_reducible refine (chancerylaw3_clocked.calls k  true _ A4.out).mono ?_); rintro e w9 ⟨rfl, hb⟩; refine ⟨_, rfl, ?_⟩; have n0_ := Aside0.mk (below_step (by repeat (first | (with_reducible first | exact HB.out | apply below_alloc | apply pw_below_drewN | apply below_drew1) | exact HB.out)) hb); clear HB; have HB := n0_; clear n0_; (try clear hb); (try clear hb2); (try clear hk); (try clear hi)) | ((with_reducible refine gate_callee (f := 44) rfl ?_); refine goesL_ (some 22) rfl rfl Try.func44 (by kernel_rfl) rfl #[.slice A0 l0.length c0, .int .i64 a1, .slice A2 l2.length c2] rfl (by (try simp only [List.map_toArray, List.map_cons, List.map_nil]); first | done | rfl | (simp only [List.length_drop, List.length_take]; rfl)) ?_; (with_reducible refine (clock_Left.calls k _ _ l0 a1 _ _ l2 t127 t128 t129 _ ?side1 ?side2 ?side3 ?side4 A6.out).mono ?_); (case side1 => repeat (first | exact (Kd.C_below HR0.out HB.out) | (with_reducible refine Kd.C_alloc ?_ _) | (with_reducible refine Kd.C_drewN ?_ _) | (with_reducible refine Kd.C_drew ?_))); (case side2 => exact HC0.out); (case side3 => repeat (first | exact (Kd.C_below HR2.out HB.out) | (with_reducible refine Kd.C_alloc ?_ _) | (with_reducible refine Kd.C_drewN ?_ _) | (with_reducible refine Kd.C_drew ?_))); (case side4 => exact HC2.out); rintro e w10 ⟨rfl, hb⟩; refine ⟨_, rfl, ?_⟩; have n0_ := Aside0.mk (below_step (by repeat (first | (with_reducible first | exact HB.out | apply below_alloc | apply pw_below_drewN | apply below_drew1) | exact HB.out)) hb); clear HB; have HB := n0_; clear n0_; (try clear hb); (try clear hb2); (try clear hk); (try clear hi)) | ((with_reducible refine gate_callee (f := 34) rfl ?_); refine goesL_ (some 29) rfl rfl Try.func34 (by kernel_rfl) rfl #[.slice A0 l0.length c0, .int .i64 a1] rfl (by (try simp only [List.map_toArray, List.map_cons, List.map_nil]); first | done | rfl | (simp only [List.length_drop, List.length_take]; rfl)) ?_; (with_reducible refine (clock_Report.calls k _ _ l0 a1 t130 t131 t132 t133 t136 _ ?side1 ?side2 A7.out).mono ?_); (case side1 => repeat (first | exact (Kd.C_below HR0.out HB.out) | (with_reducible refine Kd.C_alloc ?_ _) | (with_reducible refine Kd.C_drewN ?_ _) | (with_reducible refine Kd.C_drew ?_))); (case side2 => exact HC0.out); rintro e w11 ⟨v134, rfl, ho0, hb⟩; refine ⟨_, rfl, ?_⟩; have n0_ := Aside0.mk (Kd.R_lower ho0 (below_size (by repeat (first | (with_reducible first | exact HB.out | apply below_alloc | apply pw_below_drewN | apply below_drew1) | exact HB.out)))); have n1_ := Aside0.mk (below_step (by repeat (first | (with_reducible first | exact HB.out | apply below_alloc | apply pw_below_drewN | apply below_drew1) | exact HB.out)) hb); clear HB; have HO135 := n0_; have HB := n1_; clear n0_ n1_; (try clear hb); (try clear hb2); (try clear hk); (try clear hi); (try clear ho0)) | ((with_reducible refine gate_dst (N := 10) rfl ?_); (try (refine gate_guard (by rfl) ?_; dsimp only)); refine box_event ?hg (N := 10) ?hd (cs := #[.bool false, .int .i64 0, .int .i64 0, .slice none 0 0]) (t := 67) ?hr ?_; (case hd => rfl); (case hg => rfl); (case hr => first | (go_simp; done) | (go_simp; rfl)); intro gb137 hg w12 hbox hb; have n0_ := Aside0.mk (Kd.R_below (by (with_reducible repeat (first | apply Kd.R_alloc | apply Kd.R_drewN | apply Kd.R_drew)); exact HO135.out) hb); have n1_ := Aside0.mk (below_step (by repeat (first | (with_reducible first | exact HB.out | apply below_alloc | apply pw_below_drewN | apply below_drew1) | exact HB.out)) hb); have n2_ := Aside0.mk (hbox); have n3_ := Aside0.mk ((by rw [hg]; exact (below_size (by repeat (first | (with_reducible first | exact HB.out | apply below_alloc | apply pw_below_drewN | apply below_drew1) | exact HB.out))) : w.heap.size ≤ gb137)); have n4_ := Aside0.mk ((by rw [hg]; exact (below_size (by repeat (first | (with_reducible first | exact HB.out | apply below_alloc | apply pw_below_drewN | apply below_drew1) | exact HB.out))) : w.heap.size ≤ gb137)); clear HO135; clear HB; have HO135 := n0_; have HB := n1_; have BK137 := n2_; have GW137 := n3_; have GE137 := n4_; clear n0_ n1_ n2_ n3_ n4_; clear hb hbox hg; have hcz13_0 : w12.cell? ⟨gb137, 0, none⟩ = some (.bool false) := (blk_cell BK137.out 0).trans rfl; have hcz13_1 : w12.cell? ⟨gb137, 1, none⟩ = some (.int .i64 0) := (blk_cell BK137.out 1).trans rfl; have hcz13_2 : w12.cell? ⟨gb137, 2, none⟩ = some (.int .i64 0) := (blk_cell BK137.out 2).trans rfl; have hcz13_3 : w12.cell? ⟨gb137, 3, none⟩ = some (.slice none 0 0) := (blk_cell BK137.out 3).trans rfl; have hfz13_0 := blk_frozen BK137.out 0; have hfz13_1 := blk_frozen BK137.out 1; have hfz13_2 := blk_frozen BK137.out 2; have hfz13_3 := blk_frozen BK137.out 3; obtain ⟨Ao14, co14, eo14⟩ := Kd.R_slice HO135.out; subst eo14))
    (try simp only [Act.put, List.setIfInBounds_toArray, List.set_cons_zero, List.set_cons_succ])
    go_cut [38] (fun v38 wc => ∃ (kq : Nat) (x38_7 : Bool), v38 = .bool x38_7 ∧ Aside0 (chancerylaw3_ClockLeft.j0 kq l2 t127 t128 t129 t136 x38_7 t130 t131 t132 t133 = some r) ∧ Aside0 (kq ≤ k) ∧ Aside0 (Kd.R k74 74 wc w.heap.size (fun _ => True) (.slice Ao14 t133.length co14) t133) ∧ Aside0 (wc.heap[gb137]? = some (.cells #[.bool t130, .int .i64 t131, .int .i64 t132, (.slice Ao14 t133.length co14)] 67 (0, 0))) ∧ Aside0 (Below w.heap.size w wc))
    case first =>
      have H := HC8.out
      clear HC8
      by_cases c15 : t136 = 0
      · rw [if_pos c15] at H
        have c15b0 : (t136 == 0) = true := beq_iff_eq.mpr c15
        have c15b1 : (t136 != 0) = false := bne_eq_false_iff_eq.mpr c15
        clear c15
        (first | rw [c15b0] | (simp only [i64_w, i32_w]; rw [c15b0]) | skip)
        have H' := Aside0.mk H
        clear H
        go_wp2
        go_meet
        case rel => exact ⟨_, (decide ((l2.length : Int) > 1000)), (by first | rfl | (simp; done) | (simp [*]; done)), H', ⟨by first | omega | exact Nat.le_refl _⟩, ⟨by (with_reducible repeat (first | apply Kd.R_alloc | apply Kd.R_drewN | apply Kd.R_drew)); exact Kd.R_mono (Kd.R_far (p := ⟨gb137, 3, none⟩) (Kd.R_far (p := ⟨gb137, 2, none⟩) (Kd.R_far (p := ⟨gb137, 1, none⟩) (Kd.R_far (p := ⟨gb137, 0, none⟩) (Kd.R_types HO135.out BK137.out (by decide)) (fun _ hk => hk.2) (.bool t130)) (fun _ hk => hk.2) (.int .i64 t131)) (fun _ hk => hk.2) (.int .i64 t132)) (fun _ hk => hk.2) (.slice Ao14 t133.length co14)) (fun _ hk => trivial)⟩, ⟨by (with_reducible repeat (first | refine blk_drewN ?_ _ | refine blk_drew ?_ | refine blk_alloc ?_ _)); refine blk_put (cs := #[.bool t130, .int .i64 t131, .int .i64 t132, .slice none 0 0]) ?_ 3 _ rfl; (with_reducible repeat (first | refine blk_drewN ?_ _ | refine blk_drew ?_ | refine blk_alloc ?_ _)); refine blk_put (cs := #[.bool t130, .int .i64 t131, .int .i64 0, .slice none 0 0]) ?_ 2 _ rfl; (with_reducible repeat (first | refine blk_drewN ?_ _ | refine blk_drew ?_ | refine blk_alloc ?_ _)); refine blk_put (cs := #[.bool t130, .int .i64 0, .int .i64 0, .slice none 0 0]) ?_ 1 _ rfl; (with_reducible repeat (first | refine blk_drewN ?_ _ | refine blk_drew ?_ | refine blk_alloc ?_ _)); refine blk_put (cs := #[.bool false, .int .i64 0, .int .i64 0, .slice none 0 0]) ?_ 0 _ rfl; (with_reducible repeat (first | refine blk_drewN ?_ _ | refine blk_drew ?_ | refine blk_alloc ?_ _)); exact BK137.out⟩, ⟨by repeat (first | (with_reducible first | exact HB.out | apply below_alloc | apply pw_below_drewN | apply below_drew1 | refine below_set ?_ GE137.out) | exact HB.out)⟩⟩
      · rw [if_neg c15] at H
        have c15b0 : (t136 == 0) = false := beq_eq_false_iff_ne.mpr c15
        have c15b1 : (t136 != 0) = true := bne_iff_ne.mpr c15
        (first | rw [c15b0] | (simp only [i64_w, i32_w]; rw [c15b0]) | skip)
        have H' := Aside0.mk H
        clear H
        go_wp2
        go_meet
        case rel => exact ⟨_, (false), (by first | rfl | (simp; done) | (simp [*]; done)), H', ⟨by first | omega | exact Nat.le_refl _⟩, ⟨by (with_reducible repeat (first | apply Kd.R_alloc | apply Kd.R_drewN | apply Kd.R_drew)); exact Kd.R_mono (Kd.R_far (p := ⟨gb137, 3, none⟩) (Kd.R_far (p := ⟨gb137, 2, none⟩) (Kd.R_far (p := ⟨gb137, 1, none⟩) (Kd.R_far (p := ⟨gb137, 0, none⟩) (Kd.R_types HO135.out BK137.out (by decide)) (fun _ hk => hk.2) (.bool t130)) (fun _ hk => hk.2) (.int .i64 t131)) (fun _ hk => hk.2) (.int .i64 t132)) (fun _ hk => hk.2) (.slice Ao14 t133.length co14)) (fun _ hk => trivial)⟩, ⟨by (with_reducible repeat (first | refine blk_drewN ?_ _ | refine blk_drew ?_ | refine blk_alloc ?_ _)); refine blk_put (cs := #[.bool t130, .int .i64 t131, .int .i64 t132, .slice none 0 0]) ?_ 3 _ rfl; (with_reducible repeat (first | refine blk_drewN ?_ _ | refine blk_drew ?_ | refine blk_alloc ?_ _)); refine blk_put (cs := #[.bool t130, .int .i64 t131, .int .i64 0, .slice none 0 0]) ?_ 2 _ rfl; (with_reducible repeat (first | refine blk_drewN ?_ _ | refine blk_drew ?_ | refine blk_alloc ?_ _)); refine blk_put (cs := #[.bool t130, .int .i64 0, .int .i64 0, .slice none 0 0]) ?_ 1 _ rfl; (with_reducible repeat (first | refine blk_drewN ?_ _ | refine blk_drew ?_ | refine blk_alloc ?_ _)); refine blk_put (cs := #[.bool false, .int .i64 0, .int .i64 0, .slice none 0 0]) ?_ 0 _ rfl; (with_reducible repeat (first | refine blk_drewN ?_ _ | refine blk_drew ?_ | refine blk_alloc ?_ _)); exact BK137.out⟩, ⟨by repeat (first | (with_reducible first | exact HB.out | apply below_alloc | apply pw_below_drewN | apply below_drew1 | refine below_set ?_ GE137.out) | exact HB.out)⟩⟩
    case rest =>
      clear HC8
      try clear c1
      try clear c2
      try clear p2
      try clear c3
      try clear c4
      try clear c5
      try clear c12
      try clear c15
      try clear c15b0
      try clear c15b1
      try clear hcz13_0
      try clear hcz13_1
      try clear hcz13_2
      try clear hcz13_3
      try clear hfz13_0
      try clear hfz13_1
      try clear hfz13_2
      try clear hfz13_3
      obtain ⟨kq, x38_7, rfl, HA, HJ7, HO_138003, BK137, HB⟩ := hcut
      cases kq with
      | zero => exact absurd HA.out (by simp [chancerylaw3_ClockLeft.j0])
      | succ kj7 =>
        have H := HA.out
        clear HA
        simp only [chancerylaw3_ClockLeft.j0] at H
        have HC16 := Aside0.mk H
        clear H
        go_upto_if 38 with (fail)
        go_cut [11] (fun v11 wc => ∃ (kq : Nat) (x11_15 : Int), v11 = .int .i64 x11_15 ∧ Aside0 (chancerylaw3_ClockLeft.j1 kq l2 t127 t128 t129 x11_15 t130 t131 t132 t133 = some r) ∧ Aside0 (kq ≤ kj7) ∧ Aside0 (Kd.R k74 74 wc w.heap.size (fun _ => True) (.slice Ao14 t133.length co14) t133) ∧ Aside0 (wc.heap[gb137]? = some (.cells #[.bool t130, .int .i64 t131, .int .i64 t132, (.slice Ao14 t133.length co14)] 67 (0, 0))) ∧ Aside0 (Below w.heap.size w wc))
        case first =>
          have H := HC16.out
          clear HC16
          by_cases c17 : x38_7 = true
          · subst c17
            have H1 : (chancerylaw3_ClockLeft.j1 kj7 l2 t127 t128 t129 3 t130 t131 t132 t133) = some r := by rw [if_pos rfl] at H; exact H
            clear H
            have H := H1
            clear H1
            have H' := Aside0.mk H
            clear H
            go_wp2
            go_meet
            case rel => exact ⟨_, (3), (by first | rfl | (simp; done) | (simp [*]; done)), H', ⟨by have := HJ7.out; first | omega | exact Nat.le_refl _⟩, ⟨by (with_reducible repeat (first | apply Kd.R_alloc | apply Kd.R_drewN | apply Kd.R_drew)); exact HO_138003.out⟩, ⟨by (with_reducible repeat (first | refine blk_drewN ?_ _ | refine blk_drew ?_ | refine blk_alloc ?_ _)); exact BK137.out⟩, ⟨by repeat (first | (with_reducible first | exact HB.out | apply below_alloc | apply pw_below_drewN | apply below_drew1 | refine below_set ?_ GE137.out) | exact HB.out)⟩⟩
          · replace c17 := Bool.eq_false_iff.mpr c17
            subst c17
            have H1 : (chancerylaw3_ClockLeft.j1 kj7 l2 t127 t128 t129 t136 t130 t131 t132 t133) = some r := by rw [if_neg (show ¬ (false = true) by decide)] at H; exact H
            clear H
            have H := H1
            clear H1
            have H' := Aside0.mk H
            clear H
            go_wp2
            go_meet
            case rel => exact ⟨_, (t136), (by first | rfl | (simp; done) | (simp [*]; done)), H', ⟨by have := HJ7.out; first | omega | exact Nat.le_refl _⟩, ⟨by (with_reducible repeat (first | apply Kd.R_alloc | apply Kd.R_drewN | apply Kd.R_drew)); exact HO_138003.out⟩, ⟨by (with_reducible repeat (first | refine blk_drewN ?_ _ | refine blk_drew ?_ | refine blk_alloc ?_ _)); exact BK137.out⟩, ⟨by repeat (first | (with_reducible first | exact HB.out | apply below_alloc | apply pw_below_drewN | apply below_drew1 | refine below_set ?_ GE137.out) | exact HB.out)⟩⟩
        case rest =>
          clear HC16
          try clear c1
          try clear c2
          try clear p2
          try clear c3
          try clear c4
          try clear c5
          try clear c12
          try clear c15
          try clear c15b0
          try clear c15b1
          try clear c17
          try clear hcz13_0
          try clear hcz13_1
          try clear hcz13_2
          try clear hcz13_3
          try clear hfz13_0
          try clear hfz13_1
          try clear hfz13_2
          try clear hfz13_3
          try clear p2
          obtain ⟨kq, x11_15, rfl, HA, HJ15, HO_138003, BK137, HB⟩ := hcut
          cases kq with
          | zero => exact absurd HA.out (by simp [chancerylaw3_ClockLeft.j1])
          | succ kj15 =>
            have H := HA.out
            clear HA
            simp only [chancerylaw3_ClockLeft.j1] at H
            have H' := Aside0.mk H
            clear H
            go_wp2
            go_loopg [11, 12, 13, 41] kj15 (fun kq v11 v12 v13 v41 w' => ∃ (x11_3 : Int) (x12_3 : Int) (x13_3 : Int) (x41_3 : Int), v11 = .int .i64 x11_3 ∧ v12 = .int .i64 x12_3 ∧ v13 = .int .i64 x13_3 ∧ v41 = .int .i64 x41_3 ∧ Aside0 (chancerylaw3_ClockLeft.l0 kq t127 t128 t129 x11_3 x12_3 x13_3 l2 (l2.length : Int) x41_3 t130 t131 t132 t133 = some r) ∧ Aside0 (kq ≤ kj15) ∧ Aside0 (Kd.R k74 74 w' w.heap.size (fun _ => True) (.slice Ao14 t133.length co14) t133) ∧ Aside0 (w'.heap[gb137]? = some (.cells #[.bool t130, .int .i64 t131, .int .i64 t132, (.slice Ao14 t133.length co14)] 67 (0, 0))) ∧ Aside0 (Below w.heap.size w w'))
            case atStart => exact ⟨(x11_15), (0), (0), (0), (by first | rfl | (simp; done) | (simp [*]; done)), (by first | rfl | (simp; done) | (simp [*]; done)), (by first | rfl | (simp; done) | (simp [*]; done)), (by first | rfl | (simp; done) | (simp [*]; done)), H', ⟨Nat.le_refl _⟩, ⟨by (with_reducible repeat (first | apply Kd.R_alloc | apply Kd.R_drewN | apply Kd.R_drew)); exact HO_138003.out⟩, ⟨by (with_reducible repeat (first | refine blk_drewN ?_ _ | refine blk_drew ?_ | refine blk_alloc ?_ _)); exact BK137.out⟩, ⟨by repeat (first | (with_reducible first | exact HB.out | apply below_alloc | apply pw_below_drewN | apply below_drew1 | refine below_set ?_ GE137.out) | exact HB.out)⟩⟩
            case round =>
              clear H'
              try clear c1
              try clear c2
              try clear p2
              try clear c3
              try clear c4
              try clear c5
              try clear c12
              try clear c15
              try clear c15b0
              try clear c15b1
              try clear c17
              try clear hcz13_0
              try clear hcz13_1
              try clear hcz13_2
              try clear hcz13_3
              try clear hfz13_0
              try clear hfz13_1
              try clear hfz13_2
              try clear hfz13_3
              try clear p2
              obtain ⟨x11_3, x12_3, x13_3, x41_3, rfl, rfl, rfl, rfl, HA, HK3, HO_138003, BK137, HB⟩ := hrel
              cases gk with
              | zero => exact absurd HA.out (by simp [chancerylaw3_ClockLeft.l0])
              | succ k3 =>
                have H := HA.out
                clear HA
                simp only [chancerylaw3_ClockLeft.l0] at H
                by_cases c18 : x41_3 < (l2.length : Int)
                · rw [if_pos c18] at H
                  have c18b0 : decide (x41_3 < (l2.length : Int)) = true := decide_eq_true c18
                  clear c18
                  by_cases c19 : 0 ≤ x41_3
                  · rw [if_pos c19] at H
                    have c19b0 : decide (0 ≤ x41_3) = true := decide_eq_true c19
                    clear c19
                    by_cases c20 : x41_3 < (l2.length : Int)
                    · rw [if_pos c20] at H
                      have c20b0 : decide (x41_3 < (l2.length : Int)) = true := decide_eq_true c20
                      clear c20
                      have HC21 := Aside0.mk H
                      clear H
                      have p138 : 0 ≤ (x41_3 : Int) := of_decide_eq_true (by first | (with_reducible assumption) | assumption)
                      have q138 : x41_3 < (l2.length : Int) := of_decide_eq_true (by first | (with_reducible assumption) | assumption)
                      obtain ⟨ad138, e138, hx138_0⟩ := Kd.at_int HR2.out x41_3 p138 q138
                      cases e138
                      replace hx138_0 := (HB.out.cell (World.block_lt_of_cell? w _ hx138_0)).trans hx138_0
                      replace p138 := eq_true p138
                      replace q138 := eq_true q138
                      go_upto_region 11 with (fail)
                      go_cut [52] (fun v52 wc => ∃ (kq : Nat) (x52_20 : Bool), v52 = .bool x52_20 ∧ Aside0 (chancerylaw3_ClockLeft.j3 kq t127 t128 t129 x11_3 x12_3 x13_3 x41_3 (rd l2 x41_3) l2 (l2.length : Int) x41_3 x52_20 t130 t131 t132 t133 = some r) ∧ Aside0 (kq ≤ k3) ∧ Aside0 (Kd.R k74 74 wc w.heap.size (fun _ => True) (.slice Ao14 t133.length co14) t133) ∧ Aside0 (wc.heap[gb137]? = some (.cells #[.bool t130, .int .i64 t131, .int .i64 t132, (.slice Ao14 t133.length co14)] 67 (0, 0))) ∧ Aside0 (Below w.heap.size w wc))
                      case first =>
                        have H := HC21.out
                        clear HC21
                        by_cases c22 : x11_3 = 0
                        · rw [if_pos c22] at H
                          have c22b0 : (x11_3 == 0) = true := beq_iff_eq.mpr c22
                          have c22b1 : (x11_3 != 0) = false := bne_eq_false_iff_eq.mpr c22
                          clear c22
                          (first | rw [c22b0] | (simp only [i64_w, i32_w]; rw [c22b0]) | skip)
                          replace H := Option.bind_eq_some_iff.mp H
                          obtain ⟨t139, A230, H⟩ := H
                          replace H : (chancerylaw3_ClockLeft.j3 k3 t127 t128 t129 x11_3 x12_3 x13_3 x41_3 (rd l2 x41_3) l2 (l2.length : Int) x41_3 (!t139) t130 t131 t132 t133) = some r := H
                          have A23 := Aside0.mk A230
                          clear A230
                          have H' := Aside0.mk H
                          clear H
                          go_wp2_with (first | (go_at_call 14; (with_reducible refine (chanceryref3_In.calls (rd l2 x41_3) 0 10000000 t139 _ A23.out).mono ?_); rintro e w' ⟨rfl, ⟨nd, rfl⟩⟩))
                          go_meet
                          case rel => exact ⟨_, (!t139), (by first | rfl | (simp; done) | (simp [*]; done)), H', ⟨by have := HJ7.out; have := HJ15.out; have := HK3.out; first | omega | exact Nat.le_refl _⟩, ⟨by (with_reducible repeat (first | apply Kd.R_alloc | apply Kd.R_drewN | apply Kd.R_drew)); exact HO_138003.out⟩, ⟨by (with_reducible repeat (first | refine blk_drewN ?_ _ | refine blk_drew ?_ | refine blk_alloc ?_ _)); exact BK137.out⟩, ⟨by repeat (first | (with_reducible first | exact HB.out | apply below_alloc | apply pw_below_drewN | apply below_drew1 | refine below_set ?_ GE137.out) | exact HB.out)⟩⟩
                        · rw [if_neg c22] at H
                          have c22b0 : (x11_3 == 0) = false := beq_eq_false_iff_ne.mpr c22
                          have c22b1 : (x11_3 != 0) = true := bne_iff_ne.mpr c22
                          (first | rw [c22b0] | (simp only [i64_w, i32_w]; rw [c22b0]) | skip)
                          have H' := Aside0.mk H
                          clear H
                          go_wp2
                          go_meet
                          case rel => exact ⟨_, (false), (by first | rfl | (simp; done) | (simp [*]; done)), H', ⟨by have := HJ7.out; have := HJ15.out; have := HK3.out; first | omega | exact Nat.le_refl _⟩, ⟨by (with_reducible repeat (first | apply Kd.R_alloc | apply Kd.R_drewN | apply Kd.R_drew)); exact HO_138003.out⟩, ⟨by (with_reducible repeat (first | refine blk_drewN ?_ _ | refine blk_drew ?_ | refine blk_alloc ?_ _)); exact BK137.out⟩, ⟨by repeat (first | (with_reducible first | exact HB.out | apply below_alloc | apply pw_below_drewN | apply below_drew1 | refine below_set ?_ GE137.out) | exact HB.out)⟩⟩
                      case rest =>
                        clear HC21
                        try clear c1
                        try clear p1
                        try clear q1
                        try clear hx1
                        try clear c2
                        try clear p2
                        try clear c3
                        try clear c4
                        try clear c5
                        try clear c12
                        try clear p13
                        try clear q13
                        try clear hx13
                        try clear c15
                        try clear c15b0
                        try clear c15b1
                        try clear c17
                        try clear c18
                        try clear c18b0
                        try clear c19
                        try clear c19b0
                        try clear c20
                        try clear c20b0
                        try clear c22
                        try clear c22b0
                        try clear c22b1
                        try clear hcz13_0
                        try clear hcz13_1
                        try clear hcz13_2
                        try clear hcz13_3
                        try clear hfz13_0
                        try clear hfz13_1
                        try clear hfz13_2
                        try clear hfz13_3
                        try clear hx138_0
                        try clear p138
                        try clear p2
                        try clear q138
                        obtain ⟨kq, x52_20, rfl, HA, HJ20, HO_138003, BK137, HB⟩ := hcut
                        cases kq with
                        | zero => exact absurd HA.out (by simp [chancerylaw3_ClockLeft.j3])
                        | succ kj20 =>
                          have H := HA.out
                          clear HA
                          simp only [chancerylaw3_ClockLeft.j3] at H
                          have HC24 := Aside0.mk H
                          clear H
                          go_upto_if 52 with (fail)
                          go_cut [11] (fun v11 wc => ∃ (kq : Nat) (x11_23 : Int), v11 = .int .i64 x11_23 ∧ Aside0 (chancerylaw3_ClockLeft.j4 kq t127 t128 t129 x11_23 x12_3 x13_3 x41_3 (rd l2 x41_3) l2 (l2.length : Int) x41_3 t130 t131 t132 t133 = some r) ∧ Aside0 (kq ≤ kj20) ∧ Aside0 (Kd.R k74 74 wc w.heap.size (fun _ => True) (.slice Ao14 t133.length co14) t133) ∧ Aside0 (wc.heap[gb137]? = some (.cells #[.bool t130, .int .i64 t131, .int .i64 t132, (.slice Ao14 t133.length co14)] 67 (0, 0))) ∧ Aside0 (Below w.heap.size w wc))
                          case first =>
                            have H := HC24.out
                            clear HC24
                            by_cases c25 : x52_20 = true
                            · subst c25
                              have H1 : (chancerylaw3_ClockLeft.j4 kj20 t127 t128 t129 2 x12_3 x13_3 x41_3 (rd l2 x41_3) l2 (l2.length : Int) x41_3 t130 t131 t132 t133) = some r := by rw [if_pos rfl] at H; exact H
                              clear H
                              have H := H1
                              clear H1
                              have H' := Aside0.mk H
                              clear H
                              go_wp2
                              go_meet
                              case rel => exact ⟨_, (2), (by first | rfl | (simp; done) | (simp [*]; done)), H', ⟨by have := HJ7.out; have := HJ15.out; have := HK3.out; have := HJ20.out; first | omega | exact Nat.le_refl _⟩, ⟨by (with_reducible repeat (first | apply Kd.R_alloc | apply Kd.R_drewN | apply Kd.R_drew)); exact HO_138003.out⟩, ⟨by (with_reducible repeat (first | refine blk_drewN ?_ _ | refine blk_drew ?_ | refine blk_alloc ?_ _)); exact BK137.out⟩, ⟨by repeat (first | (with_reducible first | exact HB.out | apply below_alloc | apply pw_below_drewN | apply below_drew1 | refine below_set ?_ GE137.out) | exact HB.out)⟩⟩
                            · replace c25 := Bool.eq_false_iff.mpr c25
                              subst c25
                              have H1 : (chancerylaw3_ClockLeft.j4 kj20 t127 t128 t129 x11_3 x12_3 x13_3 x41_3 (rd l2 x41_3) l2 (l2.length : Int) x41_3 t130 t131 t132 t133) = some r := by rw [if_neg (show ¬ (false = true) by decide)] at H; exact H
                              clear H
                              have H := H1
                              clear H1
                              have H' := Aside0.mk H
                              clear H
                              go_wp2
                              go_meet
                              case rel => exact ⟨_, (x11_3), (by first | rfl | (simp; done) | (simp [*]; done)), H', ⟨by have := HJ7.out; have := HJ15.out; have := HK3.out; have := HJ20.out; first | omega | exact Nat.le_refl _⟩, ⟨by (with_reducible repeat (first | apply Kd.R_alloc | apply Kd.R_drewN | apply Kd.R_drew)); exact HO_138003.out⟩, ⟨by (with_reducible repeat (first | refine blk_drewN ?_ _ | refine blk_drew ?_ | refine blk_alloc ?_ _)); exact BK137.out⟩, ⟨by repeat (first | (with_reducible first | exact HB.out | apply below_alloc | apply pw_below_drewN | apply below_drew1 | refine below_set ?_ GE137.out) | exact HB.out)⟩⟩
                          case rest =>
                            clear HC24
                            try clear c1
                            try clear p1
                            try clear q1
                            try clear hx1
                            try clear c2
                            try clear p2
                            try clear c3
                            try clear c4
                            try clear c5
                            try clear c12
                            try clear p13
                            try clear q13
                            try clear hx13
                            try clear c15
                            try clear c15b0
                            try clear c15b1
                            try clear c17
                            try clear c18
                            try clear c18b0
                            try clear c19
                            try clear c19b0
                            try clear c20
                            try clear c20b0
                            try clear c22
                            try clear c22b0
                            try clear c22b1
                            try clear c25
                            try clear hcz13_0
                            try clear hcz13_1
                            try clear hcz13_2
                            try clear hcz13_3
                            try clear hfz13_0
                            try clear hfz13_1
                            try clear hfz13_2
                            try clear hfz13_3
                            try clear hx138_0
                            try clear p1
                            try clear p13
                            try clear p138
                            try clear p2
                            try clear q1
                            try clear q13
                            try clear q138
                            obtain ⟨kq, x11_23, rfl, HA, HJ23, HO_138003, BK137, HB⟩ := hcut
                            cases kq with
                            | zero => exact absurd HA.out (by simp [chancerylaw3_ClockLeft.j4])
                            | succ kj23 =>
                              have H := HA.out
                              clear HA
                              simp only [chancerylaw3_ClockLeft.j4] at H
                              by_cases c26 : x11_23 = 0
                              · rw [if_pos c26] at H
                                have c26b0 : (x11_23 == 0) = true := beq_iff_eq.mpr c26
                                have c26b1 : (x11_23 != 0) = false := bne_eq_false_iff_eq.mpr c26
                                clear c26
                                by_cases c27 : x41_3 < t132
                                · rw [if_pos c27] at H
                                  have c27b0 : decide (x41_3 < t132) = true := decide_eq_true c27
                                  clear c27
                                  have H' := Aside0.mk H
                                  clear H
                                  have hcz28_0 : wc.cell? ⟨gb137, 0, none⟩ = some (.bool t130) := (blk_cell BK137.out 0).trans rfl
                                  have hcz28_1 : wc.cell? ⟨gb137, 1, none⟩ = some (.int .i64 t131) := (blk_cell BK137.out 1).trans rfl
                                  have hcz28_2 : wc.cell? ⟨gb137, 2, none⟩ = some (.int .i64 t132) := (blk_cell BK137.out 2).trans rfl
                                  have hcz28_3 : wc.cell? ⟨gb137, 3, none⟩ = some (.slice Ao14 t133.length co14) := (blk_cell BK137.out 3).trans rfl
                                  have hfz28_0 := blk_frozen BK137.out 0
                                  have hfz28_1 := blk_frozen BK137.out 1
                                  have hfz28_2 := blk_frozen BK137.out 2
                                  have hfz28_3 := blk_frozen BK137.out 3
                                  go_wp2
                                  go_roundg kj23
                                  case measure => have := HJ7.out; have := HJ15.out; have := HK3.out; have := HJ20.out; have := HJ23.out; omega
                                  case rel => exact ⟨(x11_23), (wrap64 (x12_3 + (rd l2 x41_3))), (wrap64 (x13_3 + (rd l2 x41_3))), (wrap64 (x41_3 + 1)), (by first | rfl | (simp; done) | (simp [*]; done)), (by first | rfl | (simp; done) | (simp [*]; done)), (by first | rfl | (simp; done) | (simp [*]; done)), (by first | rfl | (simp; done) | (simp [*]; done)), H', ⟨by have := HJ7.out; have := HJ15.out; have := HK3.out; have := HJ20.out; have := HJ23.out; omega⟩, ⟨by (with_reducible repeat (first | apply Kd.R_alloc | apply Kd.R_drewN | apply Kd.R_drew)); exact HO_138003.out⟩, ⟨by (with_reducible repeat (first | refine blk_drewN ?_ _ | refine blk_drew ?_ | refine blk_alloc ?_ _)); exact BK137.out⟩, ⟨by repeat (first | (with_reducible first | exact HB.out | apply below_alloc | apply pw_below_drewN | apply below_drew1 | refine below_set ?_ GE137.out) | exact HB.out)⟩⟩
                                · rw [if_neg c27] at H
                                  have c27b0 : decide (x41_3 < t132) = false := decide_eq_false c27
                                  clear c27
                                  have H' := Aside0.mk H
                                  clear H
                                  have hcz29_0 : wc.cell? ⟨gb137, 0, none⟩ = some (.bool t130) := (blk_cell BK137.out 0).trans rfl
                                  have hcz29_1 : wc.cell? ⟨gb137, 1, none⟩ = some (.int .i64 t131) := (blk_cell BK137.out 1).trans rfl
                                  have hcz29_2 : wc.cell? ⟨gb137, 2, none⟩ = some (.int .i64 t132) := (blk_cell BK137.out 2).trans rfl
                                  have hcz29_3 : wc.cell? ⟨gb137, 3, none⟩ = some (.slice Ao14 t133.length co14) := (blk_cell BK137.out 3).trans rfl
                                  have hfz29_0 := blk_frozen BK137.out 0
                                  have hfz29_1 := blk_frozen BK137.out 1
                                  have hfz29_2 := blk_frozen BK137.out 2
                                  have hfz29_3 := blk_frozen BK137.out 3
                                  go_wp2
                                  go_roundg kj23
                                  case measure => have := HJ7.out; have := HJ15.out; have := HK3.out; have := HJ20.out; have := HJ23.out; omega
                                  case rel => exact ⟨(x11_23), (wrap64 (x12_3 + (rd l2 x41_3))), (x13_3), (wrap64 (x41_3 + 1)), (by first | rfl | (simp; done) | (simp [*]; done)), (by first | rfl | (simp; done) | (simp [*]; done)), (by first | rfl | (simp; done) | (simp [*]; done)), (by first | rfl | (simp; done) | (simp [*]; done)), H', ⟨by have := HJ7.out; have := HJ15.out; have := HK3.out; have := HJ20.out; have := HJ23.out; omega⟩, ⟨by (with_reducible repeat (first | apply Kd.R_alloc | apply Kd.R_drewN | apply Kd.R_drew)); exact HO_138003.out⟩, ⟨by (with_reducible repeat (first | refine blk_drewN ?_ _ | refine blk_drew ?_ | refine blk_alloc ?_ _)); exact BK137.out⟩, ⟨by repeat (first | (with_reducible first | exact HB.out | apply below_alloc | apply pw_below_drewN | apply below_drew1 | refine below_set ?_ GE137.out) | exact HB.out)⟩⟩
                              · rw [if_neg c26] at H
                                have c26b0 : (x11_23 == 0) = false := beq_eq_false_iff_ne.mpr c26
                                have c26b1 : (x11_23 != 0) = true := bne_iff_ne.mpr c26
                                have H' := Aside0.mk H
                                clear H
                                go_wp2
                                go_roundg kj23
                                case measure => have := HJ7.out; have := HJ15.out; have := HK3.out; have := HJ20.out; have := HJ23.out; omega
                                case rel => exact ⟨(x11_23), (x12_3), (x13_3), (wrap64 (x41_3 + 1)), (by first | rfl | (simp; done) | (simp [*]; done)), (by first | rfl | (simp; done) | (simp [*]; done)), (by first | rfl | (simp; done) | (simp [*]; done)), (by first | rfl | (simp; done) | (simp [*]; done)), H', ⟨by have := HJ7.out; have := HJ15.out; have := HK3.out; have := HJ20.out; have := HJ23.out; omega⟩, ⟨by (with_reducible repeat (first | apply Kd.R_alloc | apply Kd.R_drewN | apply Kd.R_drew)); exact HO_138003.out⟩, ⟨by (with_reducible repeat (first | refine blk_drewN ?_ _ | refine blk_drew ?_ | refine blk_alloc ?_ _)); exact BK137.out⟩, ⟨by repeat (first | (with_reducible first | exact HB.out | apply below_alloc | apply pw_below_drewN | apply below_drew1 | refine below_set ?_ GE137.out) | exact HB.out)⟩⟩
                    · rw [if_neg c20] at H
                      exact absurd H (by simp)
                  · rw [if_neg c19] at H
                    exact absurd H (by simp)
                · rw [if_neg c18] at H
                  have c18b0 : decide (x41_3 < (l2.length : Int)) = false := decide_eq_false c18
                  clear c18
                  by_cases c30 : x11_3 = 0
                  · rw [if_pos c30] at H
                    have c30b0 : (x11_3 == 0) = true := beq_iff_eq.mpr c30
                    have c30b1 : (x11_3 != 0) = false := bne_eq_false_iff_eq.mpr c30
                    clear c30
                    by_cases c31 : t129 = 0
                    · rw [if_pos c31] at H
                      have c31b0 : (t129 == 0) = true := beq_iff_eq.mpr c31
                      have c31b1 : (t129 != 0) = false := bne_eq_false_iff_eq.mpr c31
                      clear c31
                      by_cases c32 : t127 = (wrap64 (x12_3 - t131))
                      · rw [if_pos c32] at H
                        have c32b0 : (t127 == (wrap64 (x12_3 - t131))) = true := beq_iff_eq.mpr c32
                        have c32b1 : (t127 != (wrap64 (x12_3 - t131))) = false := bne_eq_false_iff_eq.mpr c32
                        clear c32
                        obtain ⟨ji33, hji33⟩ : ∃ j_ : Int, (mx 0 (wrap64 (t131 - x13_3))) = j_ := ⟨_, rfl⟩
                        replace H : (some (t128 == (ji33))) = some r := by first | (rw [hji33] at H; exact H) | (simp only [hji33] at H ⊢; exact H)
                        have hji33_ : (if 0 < (wrap64 (t131 - x13_3)) then (wrap64 (t131 - x13_3)) else 0) = ji33 := hji33
                        obtain rfl := Option.some.inj H
                        have hcz34_0 : wr.cell? ⟨gb137, 0, none⟩ = some (.bool t130) := (blk_cell BK137.out 0).trans rfl
                        have hcz34_1 : wr.cell? ⟨gb137, 1, none⟩ = some (.int .i64 t131) := (blk_cell BK137.out 1).trans rfl
                        have hcz34_2 : wr.cell? ⟨gb137, 2, none⟩ = some (.int .i64 t132) := (blk_cell BK137.out 2).trans rfl
                        have hcz34_3 : wr.cell? ⟨gb137, 3, none⟩ = some (.slice Ao14 t133.length co14) := (blk_cell BK137.out 3).trans rfl
                        have hfz34_0 := blk_frozen BK137.out 0
                        have hfz34_1 := blk_frozen BK137.out 1
                        have hfz34_2 := blk_frozen BK137.out 2
                        have hfz34_3 := blk_frozen BK137.out 3
                        go_wp2
                        go_ret
                        exact ⟨by first | rfl | (simp [errW_none, errW_some] <;> rfl) | (simp only [← hji33]; first | rfl | (simp [errW_none, errW_some] <;> rfl)) | (simp [*, errW_none, errW_some] <;> rfl), by repeat (first | (with_reducible first | exact HB.out | apply below_alloc | apply pw_below_drewN | apply below_drew1 | refine below_set ?_ GE137.out) | exact HB.out)⟩
                      · rw [if_neg c32] at H
                        have c32b0 : (t127 == (wrap64 (x12_3 - t131))) = false := beq_eq_false_iff_ne.mpr c32
                        have c32b1 : (t127 != (wrap64 (x12_3 - t131))) = true := bne_iff_ne.mpr c32
                        obtain rfl := Option.some.inj H
                        have hcz35_0 : wr.cell? ⟨gb137, 0, none⟩ = some (.bool t130) := (blk_cell BK137.out 0).trans rfl
                        have hcz35_1 : wr.cell? ⟨gb137, 1, none⟩ = some (.int .i64 t131) := (blk_cell BK137.out 1).trans rfl
                        have hcz35_2 : wr.cell? ⟨gb137, 2, none⟩ = some (.int .i64 t132) := (blk_cell BK137.out 2).trans rfl
                        have hcz35_3 : wr.cell? ⟨gb137, 3, none⟩ = some (.slice Ao14 t133.length co14) := (blk_cell BK137.out 3).trans rfl
                        have hfz35_0 := blk_frozen BK137.out 0
                        have hfz35_1 := blk_frozen BK137.out 1
                        have hfz35_2 := blk_frozen BK137.out 2
                        have hfz35_3 := blk_frozen BK137.out 3
                        go_wp2
                        go_ret
                        exact ⟨by first | rfl | (simp [errW_none, errW_some] <;> rfl) | (simp [*, errW_none, errW_some] <;> rfl), by repeat (first | (with_reducible first | exact HB.out | apply below_alloc | apply pw_below_drewN | apply below_drew1 | refine below_set ?_ GE137.out) | exact HB.out)⟩
                    · rw [if_neg c31] at H
                      have c31b0 : (t129 == 0) = false := beq_eq_false_iff_ne.mpr c31
                      have c31b1 : (t129 != 0) = true := bne_iff_ne.mpr c31
                      obtain rfl := Option.some.inj H
                      go_wp2
                      go_ret
                      exact ⟨by first | rfl | (simp [errW_none, errW_some] <;> rfl) | (simp [*, errW_none, errW_some] <;> rfl), by repeat (first | (with_reducible first | exact HB.out | apply below_alloc | apply pw_below_drewN | apply below_drew1 | refine below_set ?_ GE137.out) | exact HB.out)⟩
                  · rw [if_neg c30] at H
                    have c30b0 : (x11_3 == 0) = false := beq_eq_false_iff_ne.mpr c30
                    have c30b1 : (x11_3 != 0) = true := bne_iff_ne.mpr c30
                    by_cases c36 : t129 = x11_3
                    · rw [if_pos c36] at H
                      have c36b0 : (t129 == x11_3) = true := beq_iff_eq.mpr c36
                      have c36b1 : (t129 != x11_3) = false := bne_eq_false_iff_eq.mpr c36
                      clear c36
                      by_cases c37 : t127 = 0
                      · rw [if_pos c37] at H
                        have c37b0 : (t127 == 0) = true := beq_iff_eq.mpr c37
                        have c37b1 : (t127 != 0) = false := bne_eq_false_iff_eq.mpr c37
                        clear c37
                        obtain rfl := Option.some.inj H
                        go_wp2
                        go_ret
                        exact ⟨by first | rfl | (simp [errW_none, errW_some] <;> rfl) | (simp [*, errW_none, errW_some] <;> rfl), by repeat (first | (with_reducible first | exact HB.out | apply below_alloc | apply pw_below_drewN | apply below_drew1 | refine below_set ?_ GE137.out) | exact HB.out)⟩
                      · rw [if_neg c37] at H
                        have c37b0 : (t127 == 0) = false := beq_eq_false_iff_ne.mpr c37
                        have c37b1 : (t127 != 0) = true := bne_iff_ne.mpr c37
                        obtain rfl := Option.some.inj H
                        go_wp2
                        go_ret
                        exact ⟨by first | rfl | (simp [errW_none, errW_some] <;> rfl) | (simp [*, errW_none, errW_some] <;> rfl), by repeat (first | (with_reducible first | exact HB.out | apply below_alloc | apply pw_below_drewN | apply below_drew1 | refine below_set ?_ GE137.out) | exact HB.out)⟩
                    · rw [if_neg c36] at H
                      have c36b0 : (t129 == x11_3) = false := beq_eq_false_iff_ne.mpr c36
                      have c36b1 : (t129 != x11_3) = true := bne_iff_ne.mpr c36
                      obtain rfl := Option.some.inj H
                      go_wp2
                      go_ret
                      exact ⟨by first | rfl | (simp [errW_none, errW_some] <;> rfl) | (simp [*, errW_none, errW_some] <;> rfl), by repeat (first | (with_reducible first | exact HB.out | apply below_alloc | apply pw_below_drewN | apply below_drew1 | refine below_set ?_ GE137.out) | exact HB.out)⟩
  · replace c5 := Bool.eq_false_iff.mpr c5
    subst c5
    have H1 : (some false) = some r := by rw [if_neg (show ¬ (false = true) by decide)] at H; exact H
    clear H
    have H := H1
    clear H1
    obtain rfl := Option.some.inj H
    go_enter Try.func12, Try.ntmps12
    go_wp2_with (first | ((with_reducible refine gate_callee (f := 33) rfl ?_); refine goesL_ (some 16) rfl rfl Try.func33 (by kernel_rfl) rfl #[] rfl (by (try simp only [List.map_toArray, List.map_cons, List.map_nil]); first | done | rfl | (simp only [List.length_drop, List.length_take]; rfl)) ?_; (with_reducible refine (chancerylaw3_clocked.calls k  false _ A4.out).mono ?_); rintro e w38 ⟨rfl, hb⟩; refine ⟨_, rfl, ?_⟩; have n0_ := Aside0.mk (below_step (by repeat (first | (with_reducible first | exact HB.out | apply below_alloc | apply pw_below_drewN | apply below_drew1) | exact HB.out)) hb); clear HB; have HB := n0_; clear n0_; (try clear hb); (try clear hb2); (try clear hk); (try clear hi)))
    go_ret
    exact ⟨by first | rfl | (simp [errW_none, errW_some] <;> rfl) | (simp [*, errW_none, errW_some] <;> rfl), by repeat (first | (with_reducible first | exact HB.out | apply below_alloc | apply pw_below_drewN | apply below_drew1) | exact HB.out)⟩

end Go.Proofs.Ytihmbddneapooaa.QCL
