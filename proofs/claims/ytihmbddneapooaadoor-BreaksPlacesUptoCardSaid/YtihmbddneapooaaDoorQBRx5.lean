-- WRITTEN BY wip/print2.py, a program of this session, over contracts of this session's own; no print of print.sh
import Derived.Test.YtihmbddneapooaaDoorQBRx0
import Derived.Test.YtihmbddneapooaaDoorQBRx4
namespace Go.Proofs.YtihmbddneapooaaDoor.QBR
open Go.RowKit Go.Proofs.YtihmbddneapooaaDoor.PMetricEms Go.Proofs.YtihmbddneapooaaDoor.HandMEf Go.Proofs.YtihmbddneapooaaDoor.HandMB Go.Proofs.YtihmbddneapooaaDoor.HandCL Go.Proofs.YtihmbddneapooaaDoorW.PrintWords Go.Proofs.YtihmbddneapooaaDoorW.PrintLast Go.Proofs.YtihmbddneapooaaDoorW.PrintMore
attribute [local go_sem] max2_int min2_int max_two min_two max_three min_three max_four min_four   -- for this text's walks alone
set_option linter.unusedVariables false
set_option linter.unusedSimpArgs false

/-! ### chanceryref3_BreakAt: function 25 -/
mutual
def chanceryref3_BreakAt.l0 : Nat → List Int → Int → List Int → List Int → Int → Int → Option (Int)
  | 0, _, _, _, _, _, _ => none
  | k + 1, x0, x1, x5, x19, x20, x21 => if x21 < x20 then (if 0 ≤ x21 then (if x21 < (x19.length : Int) then ((chanceryref3_breakClass.f k (rd x19 x21)).bind fun t149 => (if t149 = 109 then (if (x5.length : Int) = 0 then (chanceryref3_BreakAt.j1 k x0 x1 x5 t149 x19 x20 x21 true) else (if 0 ≤ (wrap64 ((x5.length : Int) - 1)) then (if (wrap64 ((x5.length : Int) - 1)) < (x5.length : Int) then (chanceryref3_BreakAt.j1 k x0 x1 x5 t149 x19 x20 x21 ((rd x5 (wrap64 ((x5.length : Int) - 1))) == 110)) else (none)) else (none))) else (chanceryref3_BreakAt.j1 k x0 x1 x5 t149 x19 x20 x21 false))) else (none)) else (none)) else (if 0 ≤ (wrap64 ((x5.length : Int) - 1)) then (if (wrap64 ((x5.length : Int) - 1)) < (x5.length : Int) then (if (x5.length : Int) > 1 then (if 0 ≤ (wrap64 ((x5.length : Int) - 2)) then (if (wrap64 ((x5.length : Int) - 2)) < (x5.length : Int) then (chanceryref3_BreakAt.j2 k x0 x1 x5 (rd x5 (wrap64 ((x5.length : Int) - 2))) 120 (rd x5 (wrap64 ((x5.length : Int) - 1)))) else (none)) else (none)) else (chanceryref3_BreakAt.j2 k x0 x1 x5 110 120 (rd x5 (wrap64 ((x5.length : Int) - 1))))) else (none)) else (none))
def chanceryref3_BreakAt.j1 : Nat → List Int → Int → List Int → Int → List Int → Int → Int → Bool → Option (Int)
  | 0, _, _, _, _, _, _, _, _ => none
  | k + 1, x0, x1, x5, x8, x19, x20, x21, x42 => if x42 = true then (if 120 = 109 then (chanceryref3_BreakAt.l0 k x0 x1 x5 x19 x20 (wrap64 (x21 + 1))) else (if x5.length < 140737488355328 then (chanceryref3_BreakAt.l0 k x0 x1 (x5 ++ [120]) x19 x20 (wrap64 (x21 + 1))) else (none))) else (if x8 = 109 then (chanceryref3_BreakAt.l0 k x0 x1 x5 x19 x20 (wrap64 (x21 + 1))) else (if x5.length < 140737488355328 then (chanceryref3_BreakAt.l0 k x0 x1 (x5 ++ [x8]) x19 x20 (wrap64 (x21 + 1))) else (none)))
def chanceryref3_BreakAt.j2 : Nat → List Int → Int → List Int → Int → Int → Int → Option (Int)
  | 0, _, _, _, _, _, _ => none
  | k + 1, x0, x1, x5, x10, x11, x12 => chanceryref3_BreakAt.l1 k x0 x1 x10 x11 x12 x5 (x5.length : Int) 0
def chanceryref3_BreakAt.l1 : Nat → List Int → Int → Int → Int → Int → List Int → Int → Int → Option (Int)
  | 0, _, _, _, _, _, _, _, _ => none
  | k + 1, x0, x1, x10, x11, x12, x65, x66, x67 => if x67 < x66 then (if 0 ≤ x67 then (if x67 < (x65.length : Int) then (if (rd x65 x67) = 115 then (chanceryref3_BreakAt.l1 k x0 x1 x10 x11 x12 x65 x66 (wrap64 (x67 + 1))) else (chanceryref3_BreakAt.l1 k x0 x1 x10 (rd x65 x67) x12 x65 x66 (wrap64 (x67 + 1)))) else (none)) else (none)) else (if 0 ≤ x1 then (if x1 < (x0.length : Int) then ((chanceryref3_breakClass.f k (rd x0 x1)).bind fun t161 => (if x12 = 110 then (some 2) else (if 0 ≤ (wrap64 (x1 - 1)) then (if (wrap64 (x1 - 1)) < (x0.length : Int) then (if (rd x0 (wrap64 (x1 - 1))) = 8205 then (chanceryref3_BreakAt.j4 k x10 x11 x12 t161 true) else (if t161 = 110 then (chanceryref3_BreakAt.j4 k x10 x11 x12 t161 true) else (if t161 = 115 then (chanceryref3_BreakAt.j4 k x10 x11 x12 t161 true) else (if t161 = 109 then (chanceryref3_BreakAt.j4 k x10 x11 x12 t161 true) else (chanceryref3_BreakAt.j4 k x10 x11 x12 t161 (t161 == 122)))))) else (none)) else (none)))) else (none)) else (none))
def chanceryref3_BreakAt.j4 : Nat → Int → Int → Int → Int → Bool → Option (Int)
  | 0, _, _, _, _, _ => none
  | k + 1, x10, x11, x12, x16, x83 => if x83 = true then (some (-1)) else (if x11 = 122 then (some 0) else (if x12 = 103 then (chanceryref3_BreakAt.j5 k x10 x12 x16 true) else (if x16 = 103 then (if x12 = 115 then (if x16 = 99 then (chanceryref3_BreakAt.j5 k x10 x12 x16 true) else (chanceryref3_BreakAt.j5 k x10 x12 x16 (x11 == 111))) else (chanceryref3_BreakAt.j5 k x10 x12 x16 true)) else (if x16 = 99 then (chanceryref3_BreakAt.j5 k x10 x12 x16 true) else (chanceryref3_BreakAt.j5 k x10 x12 x16 (x11 == 111))))))
def chanceryref3_BreakAt.j5 : Nat → Int → Int → Int → Bool → Option (Int)
  | 0, _, _, _, _ => none
  | k + 1, x10, x12, x16, x109 => if x109 = true then (some (-1)) else (if x12 = 115 then (some 0) else (if x12 = 45 then (some 1) else (if x12 = 104 then (if x16 = 100 then (some (-1)) else (if x10 = 115 then (some (-1)) else (if x10 = 110 then (some (-1)) else (some 0)))) else (if x12 = 119 then (some 0) else (if x16 = 119 then (some 0) else (some (-1)))))))
end
def chanceryref3_BreakAt.f (k : Nat) (l0 : List Int) (a1 : Int) : Option (Int) := if 0 ≤ a1 then (if a1 ≤ (l0.length : Int) then (chanceryref3_BreakAt.l0 k l0 a1 ([] : List Int) (l0.take (a1 : Int).toNat) ((l0.take (a1 : Int).toNat).length : Int) 0) else (none)) else (none)
theorem chanceryref3_BreakAt.mono_l : ∀ k, (∀ y0 y1 y2 y3 y4 y5, LeO (chanceryref3_BreakAt.l0 k y0 y1 y2 y3 y4 y5) (chanceryref3_BreakAt.l0 (k + 1) y0 y1 y2 y3 y4 y5)) ∧ (∀ y0 y1 y2 y3 y4 y5 y6 y7, LeO (chanceryref3_BreakAt.j1 k y0 y1 y2 y3 y4 y5 y6 y7) (chanceryref3_BreakAt.j1 (k + 1) y0 y1 y2 y3 y4 y5 y6 y7)) ∧ (∀ y0 y1 y2 y3 y4 y5, LeO (chanceryref3_BreakAt.j2 k y0 y1 y2 y3 y4 y5) (chanceryref3_BreakAt.j2 (k + 1) y0 y1 y2 y3 y4 y5)) ∧ (∀ y0 y1 y2 y3 y4 y5 y6 y7, LeO (chanceryref3_BreakAt.l1 k y0 y1 y2 y3 y4 y5 y6 y7) (chanceryref3_BreakAt.l1 (k + 1) y0 y1 y2 y3 y4 y5 y6 y7)) ∧ (∀ y0 y1 y2 y3 y4, LeO (chanceryref3_BreakAt.j4 k y0 y1 y2 y3 y4) (chanceryref3_BreakAt.j4 (k + 1) y0 y1 y2 y3 y4)) ∧ (∀ y0 y1 y2 y3, LeO (chanceryref3_BreakAt.j5 k y0 y1 y2 y3) (chanceryref3_BreakAt.j5 (k + 1) y0 y1 y2 y3))
  | 0 => ⟨fun _ _ _ _ _ _ r h => by simp [chanceryref3_BreakAt.l0] at h, fun _ _ _ _ _ _ _ _ r h => by simp [chanceryref3_BreakAt.j1] at h, fun _ _ _ _ _ _ r h => by simp [chanceryref3_BreakAt.j2] at h, fun _ _ _ _ _ _ _ _ r h => by simp [chanceryref3_BreakAt.l1] at h, fun _ _ _ _ _ r h => by simp [chanceryref3_BreakAt.j4] at h, fun _ _ _ _ r h => by simp [chanceryref3_BreakAt.j5] at h⟩
  | k + 1 => by
    obtain ⟨ih0, ih1, ih2, ih3, ih4, ih5⟩ := chanceryref3_BreakAt.mono_l k
    refine ⟨?_, ?_, ?_, ?_, ?_, ?_⟩
    · intro y0 y1 y2 y3 y4 y5
      unfold chanceryref3_BreakAt.l0
      repeat' first
      | (with_reducible exact ih0 _ _ _ _ _ _)
      | (with_reducible exact ih1 _ _ _ _ _ _ _ _)
      | (with_reducible exact ih2 _ _ _ _ _ _)
      | (with_reducible exact ih3 _ _ _ _ _ _ _ _)
      | (with_reducible exact ih4 _ _ _ _ _)
      | (with_reducible exact ih5 _ _ _ _)
      | (with_reducible exact chanceryref3_breakClass.mono _ _)
      | (with_reducible exact LeO.refl _)
      | (with_reducible exact LeO.none _)
      | (with_reducible refine LeO.ite ?_ ?_)
      | (with_reducible refine LeO.bind ?_ (fun _ => ?_))
      | exact ih0 _ _ _ _ _ _
      | exact ih1 _ _ _ _ _ _ _ _
      | exact ih2 _ _ _ _ _ _
      | exact ih3 _ _ _ _ _ _ _ _
      | exact ih4 _ _ _ _ _
      | exact ih5 _ _ _ _
      | exact chanceryref3_breakClass.mono _ _
      | exact LeO.none _
      | refine LeO.ite ?_ ?_
      | refine LeO.bind ?_ (fun _ => ?_)
    · intro y0 y1 y2 y3 y4 y5 y6 y7
      unfold chanceryref3_BreakAt.j1
      repeat' first
      | (with_reducible exact ih0 _ _ _ _ _ _)
      | (with_reducible exact ih1 _ _ _ _ _ _ _ _)
      | (with_reducible exact ih2 _ _ _ _ _ _)
      | (with_reducible exact ih3 _ _ _ _ _ _ _ _)
      | (with_reducible exact ih4 _ _ _ _ _)
      | (with_reducible exact ih5 _ _ _ _)
      | (with_reducible exact chanceryref3_breakClass.mono _ _)
      | (with_reducible exact LeO.refl _)
      | (with_reducible exact LeO.none _)
      | (with_reducible refine LeO.ite ?_ ?_)
      | (with_reducible refine LeO.bind ?_ (fun _ => ?_))
      | exact ih0 _ _ _ _ _ _
      | exact ih1 _ _ _ _ _ _ _ _
      | exact ih2 _ _ _ _ _ _
      | exact ih3 _ _ _ _ _ _ _ _
      | exact ih4 _ _ _ _ _
      | exact ih5 _ _ _ _
      | exact chanceryref3_breakClass.mono _ _
      | exact LeO.none _
      | refine LeO.ite ?_ ?_
      | refine LeO.bind ?_ (fun _ => ?_)
    · intro y0 y1 y2 y3 y4 y5
      unfold chanceryref3_BreakAt.j2
      repeat' first
      | (with_reducible exact ih0 _ _ _ _ _ _)
      | (with_reducible exact ih1 _ _ _ _ _ _ _ _)
      | (with_reducible exact ih2 _ _ _ _ _ _)
      | (with_reducible exact ih3 _ _ _ _ _ _ _ _)
      | (with_reducible exact ih4 _ _ _ _ _)
      | (with_reducible exact ih5 _ _ _ _)
      | (with_reducible exact chanceryref3_breakClass.mono _ _)
      | (with_reducible exact LeO.refl _)
      | (with_reducible exact LeO.none _)
      | (with_reducible refine LeO.ite ?_ ?_)
      | (with_reducible refine LeO.bind ?_ (fun _ => ?_))
      | exact ih0 _ _ _ _ _ _
      | exact ih1 _ _ _ _ _ _ _ _
      | exact ih2 _ _ _ _ _ _
      | exact ih3 _ _ _ _ _ _ _ _
      | exact ih4 _ _ _ _ _
      | exact ih5 _ _ _ _
      | exact chanceryref3_breakClass.mono _ _
      | exact LeO.none _
      | refine LeO.ite ?_ ?_
      | refine LeO.bind ?_ (fun _ => ?_)
    · intro y0 y1 y2 y3 y4 y5 y6 y7
      unfold chanceryref3_BreakAt.l1
      repeat' first
      | (with_reducible exact ih0 _ _ _ _ _ _)
      | (with_reducible exact ih1 _ _ _ _ _ _ _ _)
      | (with_reducible exact ih2 _ _ _ _ _ _)
      | (with_reducible exact ih3 _ _ _ _ _ _ _ _)
      | (with_reducible exact ih4 _ _ _ _ _)
      | (with_reducible exact ih5 _ _ _ _)
      | (with_reducible exact chanceryref3_breakClass.mono _ _)
      | (with_reducible exact LeO.refl _)
      | (with_reducible exact LeO.none _)
      | (with_reducible refine LeO.ite ?_ ?_)
      | (with_reducible refine LeO.bind ?_ (fun _ => ?_))
      | exact ih0 _ _ _ _ _ _
      | exact ih1 _ _ _ _ _ _ _ _
      | exact ih2 _ _ _ _ _ _
      | exact ih3 _ _ _ _ _ _ _ _
      | exact ih4 _ _ _ _ _
      | exact ih5 _ _ _ _
      | exact chanceryref3_breakClass.mono _ _
      | exact LeO.none _
      | refine LeO.ite ?_ ?_
      | refine LeO.bind ?_ (fun _ => ?_)
    · intro y0 y1 y2 y3 y4
      unfold chanceryref3_BreakAt.j4
      repeat' first
      | (with_reducible exact ih0 _ _ _ _ _ _)
      | (with_reducible exact ih1 _ _ _ _ _ _ _ _)
      | (with_reducible exact ih2 _ _ _ _ _ _)
      | (with_reducible exact ih3 _ _ _ _ _ _ _ _)
      | (with_reducible exact ih4 _ _ _ _ _)
      | (with_reducible exact ih5 _ _ _ _)
      | (with_reducible exact chanceryref3_breakClass.mono _ _)
      | (with_reducible exact LeO.refl _)
      | (with_reducible exact LeO.none _)
      | (with_reducible refine LeO.ite ?_ ?_)
      | (with_reducible refine LeO.bind ?_ (fun _ => ?_))
      | exact ih0 _ _ _ _ _ _
      | exact ih1 _ _ _ _ _ _ _ _
      | exact ih2 _ _ _ _ _ _
      | exact ih3 _ _ _ _ _ _ _ _
      | exact ih4 _ _ _ _ _
      | exact ih5 _ _ _ _
      | exact chanceryref3_breakClass.mono _ _
      | exact LeO.none _
      | refine LeO.ite ?_ ?_
      | refine LeO.bind ?_ (fun _ => ?_)
    · intro y0 y1 y2 y3
      unfold chanceryref3_BreakAt.j5
      repeat' first
      | (with_reducible exact ih0 _ _ _ _ _ _)
      | (with_reducible exact ih1 _ _ _ _ _ _ _ _)
      | (with_reducible exact ih2 _ _ _ _ _ _)
      | (with_reducible exact ih3 _ _ _ _ _ _ _ _)
      | (with_reducible exact ih4 _ _ _ _ _)
      | (with_reducible exact ih5 _ _ _ _)
      | (with_reducible exact chanceryref3_breakClass.mono _ _)
      | (with_reducible exact LeO.refl _)
      | (with_reducible exact LeO.none _)
      | (with_reducible refine LeO.ite ?_ ?_)
      | (with_reducible refine LeO.bind ?_ (fun _ => ?_))
      | exact ih0 _ _ _ _ _ _
      | exact ih1 _ _ _ _ _ _ _ _
      | exact ih2 _ _ _ _ _ _
      | exact ih3 _ _ _ _ _ _ _ _
      | exact ih4 _ _ _ _ _
      | exact ih5 _ _ _ _
      | exact chanceryref3_breakClass.mono _ _
      | exact LeO.none _
      | refine LeO.ite ?_ ?_
      | refine LeO.bind ?_ (fun _ => ?_)
theorem chanceryref3_BreakAt.mono : ∀ a0 a1 k, LeO (chanceryref3_BreakAt.f k a0 a1) (chanceryref3_BreakAt.f (k + 1) a0 a1) := by
  intro a0 a1 k
  obtain ⟨ih0, ih1, ih2, ih3, ih4, ih5⟩ := chanceryref3_BreakAt.mono_l k
  unfold chanceryref3_BreakAt.f
  repeat' first
      | (with_reducible exact ih0 _ _ _ _ _ _)
      | (with_reducible exact ih1 _ _ _ _ _ _ _ _)
      | (with_reducible exact ih2 _ _ _ _ _ _)
      | (with_reducible exact ih3 _ _ _ _ _ _ _ _)
      | (with_reducible exact ih4 _ _ _ _ _)
      | (with_reducible exact ih5 _ _ _ _)
      | (with_reducible exact chanceryref3_breakClass.mono _ _)
      | (with_reducible exact LeO.refl _)
      | (with_reducible exact LeO.none _)
      | (with_reducible refine LeO.ite ?_ ?_)
      | (with_reducible refine LeO.bind ?_ (fun _ => ?_))
      | exact ih0 _ _ _ _ _ _
      | exact ih1 _ _ _ _ _ _ _ _
      | exact ih2 _ _ _ _ _ _
      | exact ih3 _ _ _ _ _ _ _ _
      | exact ih4 _ _ _ _ _
      | exact ih5 _ _ _ _
      | exact chanceryref3_breakClass.mono _ _
      | exact LeO.none _
      | refine LeO.ite ?_ ?_
      | refine LeO.bind ?_ (fun _ => ?_)
set_option maxHeartbeats 8000000 in
set_option maxRecDepth 100000 in
theorem chanceryref3_BreakAt.calls (k : Nat) (A0 : Option Addr) (c0 : Nat) (l0 : List Int) (a1 : Int) (r : Int) (w : World) (hr0 : Kd.C (Kd.int .i64) w A0 l0.length l0) (hc0 : l0.length ≤ c0) (h : chanceryref3_BreakAt.f k l0 a1 = some r) :
    Calls Tryd.prog 25 #[.slice A0 l0.length c0, .int .i64 a1] w fun e w' => e = .returned (.int .i64 r) ∧ Below w.heap.size w w' := by
  have HR0 := Aside0.mk hr0
  have HC0 := Aside0.mk hc0
  clear hr0 hc0
  have HB := Aside0.mk (Below.refl w.heap.size w)
  have H : (if 0 ≤ a1 then (if a1 ≤ (l0.length : Int) then (chanceryref3_BreakAt.l0 k l0 a1 ([] : List Int) (l0.take (a1 : Int).toNat) ((l0.take (a1 : Int).toNat).length : Int) 0) else (none)) else (none)) = some r := h
  clear h
  by_cases c3 : 0 ≤ a1
  · rw [if_pos c3] at H
    have c3b0 := eq_true c3
    have c3b1 : decide (0 ≤ a1) = true := decide_eq_true c3
    clear c3
    by_cases c4 : a1 ≤ (l0.length : Int)
    · rw [if_pos c4] at H
      have c4b0 := eq_true c4
      have c4b1 : decide (a1 ≤ (l0.length : Int)) = true := decide_eq_true c4
      have HAL := Aside0.mk (And.intro (of_decide_eq_true c3b1) (of_decide_eq_true c4b1))
      clear c4
      have H' := Aside0.mk H
      clear H
      obtain ⟨i05, hi05, _, hsz5, _⟩ := info_parts info3
      obtain ⟨hcut5, hA5, hC5⟩ := print_take_of (P := Tryd.prog) (Value.int .i64) 0 25 3 .i64 Tryd.underlying25 hi05 hsz5 A0 c0 l0 a1 (of_decide_eq_true (by first | (with_reducible assumption) | assumption)) (of_decide_eq_true (by first | (with_reducible assumption) | assumption)) HC0.out
      have HR147 := Aside0.mk (Kd.C_of_reads (h1 := fun _ => rfl) (hA5 _ (Kd.reads_of_C HR0.out)))
      have HC147 := Aside0.mk hC5
      clear hA5 hC5 hi05 hsz5
      go_enter Tryd.func25, Tryd.ntmps25
      go_wp2
      go_loopg [5, 21] k (fun kq v5 v21 w' => ∃ (x5_1 : List Int) (x21_1 : Int), v21 = .int .i64 x21_1 ∧ Aside0 (chanceryref3_BreakAt.l0 kq l0 a1 x5_1 (l0.take (a1 : Int).toNat) ((l0.take (a1 : Int).toNat).length : Int) x21_1 = some r) ∧ Aside0 (kq ≤ k) ∧ Aside0 (Kd.R (Kd.int .u8) 5 w' w.heap.size (fun _ => True) v5 x5_1) ∧ Aside0 (Below w.heap.size w w'))
      case atStart => exact ⟨(([] : List Int)), (0), (by first | rfl | (simp; done) | (simp [*]; done)), H', ⟨Nat.le_refl _⟩, ⟨by first | exact Kd.R_nil _ _ _ _ _ | exact Kd.N_nil _ _ _ _ _ | exact Kd.V_nil _ _ _ _ _ | exact Kd.Q_nil _ _ _ _ _ | exact Kd.S_nil _ _ _ _ _⟩, ⟨by repeat (first | (with_reducible first | exact HB.out | apply below_alloc | apply pw_below_drewN | apply below_drew1) | exact HB.out)⟩⟩
      case round => as_aux_lemma =>
        clear H'
        try clear c2
        try clear p2
        try clear c3
        try clear c3b0
        try clear c3b1
        try clear c4
        try clear c4b0
        try clear c4b1
        obtain ⟨x5_1, x21_1, rfl, HA, HK1, HO_5, HB⟩ := hrel
        cases gk with
        | zero => exact absurd HA.out (by simp [chanceryref3_BreakAt.l0])
        | succ k1 =>
          have H := HA.out
          clear HA
          simp only [chanceryref3_BreakAt.l0] at H
          by_cases c6 : x21_1 < ((l0.take (a1 : Int).toNat).length : Int)
          · rw [if_pos c6] at H
            have c6b0 : decide (x21_1 < ((l0.take (a1 : Int).toNat).length : Int)) = true := decide_eq_true c6
            have c6y : decide (x21_1 < max a1 0) = true := by
              have ha_ : a1 ≤ (l0.length : Int) := HAL.out.2
              have e_ : ((l0.take (a1 : Int).toNat).length : Int) = max a1 0 := by rw [List.length_take]; omega
              rw [← e_]; exact c6b0
            clear c6
            by_cases c7 : 0 ≤ x21_1
            · rw [if_pos c7] at H
              have c7b0 : decide (0 ≤ x21_1) = true := decide_eq_true c7
              clear c7
              by_cases c8 : x21_1 < ((l0.take (a1 : Int).toNat).length : Int)
              · rw [if_pos c8] at H
                have c8b0 : decide (x21_1 < ((l0.take (a1 : Int).toNat).length : Int)) = true := decide_eq_true c8
                have c8y : (x21_1 < max a1 0) = True := eq_true (of_decide_eq_true c6y)
                clear c8
                replace H := Option.bind_eq_some_iff.mp H
                obtain ⟨t149, A90, H⟩ := H
                replace H : (if t149 = 109 then (if (x5_1.length : Int) = 0 then (chanceryref3_BreakAt.j1 k1 l0 a1 x5_1 t149 (l0.take (a1 : Int).toNat) ((l0.take (a1 : Int).toNat).length : Int) x21_1 true) else (if 0 ≤ (wrap64 ((x5_1.length : Int) - 1)) then (if (wrap64 ((x5_1.length : Int) - 1)) < (x5_1.length : Int) then (chanceryref3_BreakAt.j1 k1 l0 a1 x5_1 t149 (l0.take (a1 : Int).toNat) ((l0.take (a1 : Int).toNat).length : Int) x21_1 ((rd x5_1 (wrap64 ((x5_1.length : Int) - 1))) == 110)) else (none)) else (none))) else (chanceryref3_BreakAt.j1 k1 l0 a1 x5_1 t149 (l0.take (a1 : Int).toNat) ((l0.take (a1 : Int).toNat).length : Int) x21_1 false)) = some r := H
                have A9 := Aside0.mk A90
                clear A90
                have HC10 := Aside0.mk H
                clear H
                have p148 : 0 ≤ (x21_1 : Int) := of_decide_eq_true (by first | (with_reducible assumption) | assumption)
                have q148 : x21_1 < ((l0.take (a1 : Int).toNat).length : Int) := of_decide_eq_true (by first | (with_reducible assumption) | assumption)
                obtain ⟨ad148, e148, hx148_0⟩ := Kd.at_int HR147.out x21_1 p148 q148
                cases e148
                replace hx148_0 := (HB.out.cell (World.block_lt_of_cell? w _ hx148_0)).trans hx148_0
                replace p148 := eq_true p148
                replace q148 := eq_true q148
                go_upto_region 7 with (first | ((with_reducible refine gate_callee (f := 34) rfl ?_); refine goesL_ (some 26) rfl rfl Tryd.func34 (by kernel_rfl) rfl #[.int .i64 (rd (l0.take (a1 : Int).toNat) x21_1)] rfl (by (try simp only [List.map_toArray, List.map_cons, List.map_nil]); first | done | rfl | (simp only [List.length_drop, List.length_take]; rfl)) ?_; (with_reducible refine (chanceryref3_breakClass.calls k1 (rd (l0.take (a1 : Int).toNat) x21_1) t149 _ A9.out).mono ?_); rintro e w11 ⟨rfl, hb⟩; refine ⟨_, rfl, ?_⟩; have n0_ := Aside0.mk (Kd.R_below (by (with_reducible repeat (first | apply Kd.R_alloc | apply Kd.R_drewN | apply Kd.R_drew)); exact HO_5.out) hb); have n1_ := Aside0.mk (below_step (by repeat (first | (with_reducible first | exact HB.out | apply below_alloc | apply pw_below_drewN | apply below_drew1) | exact HB.out)) hb); clear HO_5; clear HB; have HO_5 := n0_; have HB := n1_; clear n0_ n1_; (try clear hb); (try clear hb2); (try clear hk); (try clear hi); obtain ⟨Ao12, co12, eo12⟩ := Kd.R_slice HO_5.out; subst eo12))
                (try simp only [Act.put, List.setIfInBounds_toArray, List.set_cons_zero, List.set_cons_succ])
                go_cut [42] (fun v42 wc => ∃ (kq : Nat) (x42_9 : Bool), v42 = .bool x42_9 ∧ Aside0 (chanceryref3_BreakAt.j1 kq l0 a1 x5_1 t149 (l0.take (a1 : Int).toNat) ((l0.take (a1 : Int).toNat).length : Int) x21_1 x42_9 = some r) ∧ Aside0 (kq ≤ k1) ∧ Aside0 (Kd.R (Kd.int .u8) 5 wc w.heap.size (fun _ => True) (.slice Ao12 x5_1.length co12) x5_1) ∧ Aside0 (Below w.heap.size w wc))
                case first => as_aux_lemma =>
                  have H := HC10.out
                  clear HC10
                  by_cases c13 : t149 = 109
                  · rw [if_pos c13] at H
                    have c13b0 : (t149 == 109) = true := beq_iff_eq.mpr c13
                    have c13b1 : (t149 != 109) = false := bne_eq_false_iff_eq.mpr c13
                    clear c13
                    (first | rw [c13b0] | (simp only [i64_w, i32_w]; rw [c13b0]) | skip)
                    by_cases c14 : (x5_1.length : Int) = 0
                    · rw [if_pos c14] at H
                      have c14b0 : ((x5_1.length : Int) == 0) = true := beq_iff_eq.mpr c14
                      have c14b1 : ((x5_1.length : Int) != 0) = false := bne_eq_false_iff_eq.mpr c14
                      clear c14
                      have H' := Aside0.mk H
                      clear H
                      go_wp2
                      go_meet
                      case rel => exact ⟨_, (true), (by first | rfl | (simp; done) | (simp [*]; done)), H', ⟨by have := HK1.out; first | omega | exact Nat.le_refl _⟩, ⟨by (with_reducible repeat (first | apply Kd.R_alloc | apply Kd.R_drewN | apply Kd.R_drew)); exact HO_5.out⟩, ⟨by repeat (first | (with_reducible first | exact HB.out | apply below_alloc | apply pw_below_drewN | apply below_drew1) | exact HB.out)⟩⟩
                    · rw [if_neg c14] at H
                      have c14b0 : ((x5_1.length : Int) == 0) = false := beq_eq_false_iff_ne.mpr c14
                      have c14b1 : ((x5_1.length : Int) != 0) = true := bne_iff_ne.mpr c14
                      have c14b2 : ¬ (x5_1 = []) := fun h_ => c14 (by rw [h_]; rfl)
                      obtain ⟨ji15, hji15⟩ : ∃ j_ : Int, (wrap64 ((x5_1.length : Int) - 1)) = j_ := ⟨_, rfl⟩
                      replace H : (if 0 ≤ (ji15) then (if (ji15) < (x5_1.length : Int) then (chanceryref3_BreakAt.j1 k1 l0 a1 x5_1 t149 (l0.take (a1 : Int).toNat) ((l0.take (a1 : Int).toNat).length : Int) x21_1 ((rd x5_1 (ji15)) == 110)) else (none)) else (none)) = some r := by first | (rw [hji15] at H; exact H) | (simp only [hji15] at H ⊢; exact H)
                      have hji15w : (IntKind.i64.wrap ((x5_1.length : Int) - 1)) = ji15 := (i64_w _).trans hji15
                      by_cases c16 : 0 ≤ (ji15)
                      · rw [if_pos c16] at H
                        have c16b0 : decide (0 ≤ (ji15)) = true := decide_eq_true c16
                        clear c16
                        by_cases c17 : (ji15) < (x5_1.length : Int)
                        · rw [if_pos c17] at H
                          have c17b0 : decide ((ji15) < (x5_1.length : Int)) = true := decide_eq_true c17
                          clear c17
                          have H' := Aside0.mk H
                          clear H
                          have p150 : 0 ≤ ((ji15) : Int) := of_decide_eq_true (by first | (with_reducible assumption) | assumption)
                          have q150 : (ji15) < (x5_1.length : Int) := of_decide_eq_true (by first | (with_reducible assumption) | assumption)
                          obtain ⟨ad150, e150, hx150_0⟩ := Kd.at_int (Kd.R_reads' HO_5.out).2.2 (ji15) p150 q150
                          cases e150
                          replace p150 := eq_true p150
                          replace q150 := eq_true q150
                          go_wp2
                          go_meet
                          case rel => exact ⟨_, (((rd x5_1 (ji15)) == 110)), (by first | rfl | (simp; done) | (simp only [← hji15] <;> (first | rfl | simp)) | (simp [*]; done)), H', ⟨by have := HK1.out; first | omega | exact Nat.le_refl _⟩, ⟨by (with_reducible repeat (first | apply Kd.R_alloc | apply Kd.R_drewN | apply Kd.R_drew)); exact HO_5.out⟩, ⟨by repeat (first | (with_reducible first | exact HB.out | apply below_alloc | apply pw_below_drewN | apply below_drew1) | exact HB.out)⟩⟩
                        · rw [if_neg c17] at H
                          exact absurd H (by simp)
                      · rw [if_neg c16] at H
                        exact absurd H (by simp)
                  · rw [if_neg c13] at H
                    have c13b0 : (t149 == 109) = false := beq_eq_false_iff_ne.mpr c13
                    have c13b1 : (t149 != 109) = true := bne_iff_ne.mpr c13
                    (first | rw [c13b0] | (simp only [i64_w, i32_w]; rw [c13b0]) | skip)
                    have H' := Aside0.mk H
                    clear H
                    go_wp2
                    go_meet
                    case rel => exact ⟨_, (false), (by first | rfl | (simp; done) | (simp [*]; done)), H', ⟨by have := HK1.out; first | omega | exact Nat.le_refl _⟩, ⟨by (with_reducible repeat (first | apply Kd.R_alloc | apply Kd.R_drewN | apply Kd.R_drew)); exact HO_5.out⟩, ⟨by repeat (first | (with_reducible first | exact HB.out | apply below_alloc | apply pw_below_drewN | apply below_drew1) | exact HB.out)⟩⟩
                case rest => as_aux_lemma =>
                  clear HC10
                  try clear c1
                  try clear p1
                  try clear q1
                  try clear hx1
                  try clear c2
                  try clear p2
                  try clear c3
                  try clear c3b0
                  try clear c3b1
                  try clear c4
                  try clear c4b0
                  try clear c4b1
                  try clear c6
                  try clear c6b0
                  try clear p6
                  try clear c7
                  try clear c7b0
                  try clear c8
                  try clear c8b0
                  try clear c13
                  try clear c13b0
                  try clear c13b1
                  try clear c14
                  try clear c14b0
                  try clear c14b1
                  try clear c14b2
                  try clear p14
                  try clear q14
                  try clear hx14
                  try clear p15
                  try clear q15
                  try clear hx15
                  try clear c16
                  try clear c16b0
                  try clear c17
                  try clear c17b0
                  try clear hx148_0
                  try clear hx150_0
                  try clear p148
                  try clear p150
                  try clear p2
                  try clear q148
                  try clear q150
                  obtain ⟨kq, x42_9, rfl, HA, HJ9, HO_5, HB⟩ := hcut
                  cases kq with
                  | zero => exact absurd HA.out (by simp [chanceryref3_BreakAt.j1])
                  | succ kj9 =>
                    have H := HA.out
                    clear HA
                    simp only [chanceryref3_BreakAt.j1] at H
                    by_cases c18 : x42_9 = true
                    · subst c18
                      have H1 : (if 120 = 109 then (chanceryref3_BreakAt.l0 kj9 l0 a1 x5_1 (l0.take (a1 : Int).toNat) ((l0.take (a1 : Int).toNat).length : Int) (wrap64 (x21_1 + 1))) else (if x5_1.length < 140737488355328 then (chanceryref3_BreakAt.l0 kj9 l0 a1 (x5_1 ++ [120]) (l0.take (a1 : Int).toNat) ((l0.take (a1 : Int).toNat).length : Int) (wrap64 (x21_1 + 1))) else (none))) = some r := by rw [if_pos rfl] at H; exact H
                      clear H
                      have H := H1
                      clear H1
                      by_cases c19 : 120 = 109
                      · rw [if_pos c19] at H
                        exact absurd c19 (by decide)
                      · rw [if_neg c19] at H
                        have c19b0 : (120 == 109) = false := beq_eq_false_iff_ne.mpr c19
                        have c19b1 : (120 != 109) = true := bne_iff_ne.mpr c19
                        by_cases c20 : x5_1.length < 140737488355328
                        · rw [if_pos c20] at H
                          have LMc20 := Aside0.mk c20
                          clear c20
                          obtain ⟨y151, hy151⟩ : ∃ y_ : List Int, y_ = (x5_1 ++ [120]) := ⟨_, rfl⟩
                          replace H : (chanceryref3_BreakAt.l0 kj9 l0 a1 y151 (l0.take (a1 : Int).toNat) ((l0.take (a1 : Int).toNat).length : Int) (wrap64 (x21_1 + 1))) = some r := by first | (rw [hy151]; with_reducible exact H) | (have H2_ := (Option.bind_some _ _).symm.trans H; rw [hy151]; with_reducible exact H2_) | (have H2_ := (Option.bind_some _ _).symm.trans H; with_reducible exact H2_) | with_reducible exact H | (rw [hy151]; exact H) | exact H
                          have Ny151 := Aside0.mk hy151
                          clear hy151
                          have H' := Aside0.mk H
                          clear H
                          go_wp2_with (first | ((with_reducible refine gate_builtin (b := .append) (xs := #[.tmp 45, .tmp 47]) rfl ?_); at_builtin; refine Kd.R_append (Kd.int .u8) (w0 := w) w.heap.size rfl (.tmp 45) (.tmp 47) 65 5 (.int .u8 0) 1 rfl Tryd.underlying65 info5 rfl (by decide) (by omega) (.slice Ao12 x5_1.length co12) x5_1 120 [.int .u8 120] (fun _ => True) (fun _ => False) rfl rfl ?aP (fun _ hk => hk.elim) ?aF ?aO ?aB ?aS ?aL ?_; (case aP => exact rfl); (case aB => exact (by repeat (first | (with_reducible first | exact HB.out | apply below_alloc | apply pw_below_drewN | apply below_drew1) | exact HB.out))); (case aF => exact (fun _ _ => trivial)); (case aO => exact (by (with_reducible repeat (first | apply Kd.R_alloc | apply Kd.R_drewN | apply Kd.R_drew)); exact HO_5.out)); (case aS => exact (below_size (by repeat (first | (with_reducible first | exact HB.out | apply below_alloc | apply pw_below_drewN | apply below_drew1) | exact HB.out)))); (case aL => have := LMc20.out; omega); intro v152 w21 ho hb hg hat; rw [← Ny151.out] at ho; have n0_ := Aside0.mk (hb); have n1_ := Aside0.mk (ho); clear HB; clear HO_5; have HB := n0_; have HO153 := n1_; clear n0_ n1_; clear ho hb hg hat))
                          go_roundg kj9
                          case measure => have := HK1.out; have := HJ9.out; omega
                          case rel => exact ⟨(y151), (wrap64 (x21_1 + 1)), (by first | rfl | (simp; done) | (simp [*]; done)), H', ⟨by have := HK1.out; have := HJ9.out; omega⟩, ⟨by (with_reducible repeat (first | apply Kd.R_alloc | apply Kd.R_drewN | apply Kd.R_drew)); exact HO153.out⟩, ⟨by repeat (first | (with_reducible first | exact HB.out | apply below_alloc | apply pw_below_drewN | apply below_drew1) | exact HB.out)⟩⟩
                        · rw [if_neg c20] at H
                          exact absurd H (by simp)
                    · replace c18 := Bool.eq_false_iff.mpr c18
                      subst c18
                      have H1 : (if t149 = 109 then (chanceryref3_BreakAt.l0 kj9 l0 a1 x5_1 (l0.take (a1 : Int).toNat) ((l0.take (a1 : Int).toNat).length : Int) (wrap64 (x21_1 + 1))) else (if x5_1.length < 140737488355328 then (chanceryref3_BreakAt.l0 kj9 l0 a1 (x5_1 ++ [t149]) (l0.take (a1 : Int).toNat) ((l0.take (a1 : Int).toNat).length : Int) (wrap64 (x21_1 + 1))) else (none))) = some r := by rw [if_neg (show ¬ (false = true) by decide)] at H; exact H
                      clear H
                      have H := H1
                      clear H1
                      by_cases c22 : t149 = 109
                      · rw [if_pos c22] at H
                        have c22b0 : (t149 == 109) = true := beq_iff_eq.mpr c22
                        have c22b1 : (t149 != 109) = false := bne_eq_false_iff_eq.mpr c22
                        clear c22
                        have H' := Aside0.mk H
                        clear H
                        go_wp2
                        go_roundg kj9
                        case measure => have := HK1.out; have := HJ9.out; omega
                        case rel => exact ⟨(x5_1), (wrap64 (x21_1 + 1)), (by first | rfl | (simp; done) | (simp [*]; done)), H', ⟨by have := HK1.out; have := HJ9.out; omega⟩, ⟨by (with_reducible repeat (first | apply Kd.R_alloc | apply Kd.R_drewN | apply Kd.R_drew)); exact HO_5.out⟩, ⟨by repeat (first | (with_reducible first | exact HB.out | apply below_alloc | apply pw_below_drewN | apply below_drew1) | exact HB.out)⟩⟩
                      · rw [if_neg c22] at H
                        have c22b0 : (t149 == 109) = false := beq_eq_false_iff_ne.mpr c22
                        have c22b1 : (t149 != 109) = true := bne_iff_ne.mpr c22
                        by_cases c23 : x5_1.length < 140737488355328
                        · rw [if_pos c23] at H
                          have LMc23 := Aside0.mk c23
                          clear c23
                          obtain ⟨y154, hy154⟩ : ∃ y_ : List Int, y_ = (x5_1 ++ [t149]) := ⟨_, rfl⟩
                          replace H : (chanceryref3_BreakAt.l0 kj9 l0 a1 y154 (l0.take (a1 : Int).toNat) ((l0.take (a1 : Int).toNat).length : Int) (wrap64 (x21_1 + 1))) = some r := by first | (rw [hy154]; with_reducible exact H) | (have H2_ := (Option.bind_some _ _).symm.trans H; rw [hy154]; with_reducible exact H2_) | (have H2_ := (Option.bind_some _ _).symm.trans H; with_reducible exact H2_) | with_reducible exact H | (rw [hy154]; exact H) | exact H
                          have Ny154 := Aside0.mk hy154
                          clear hy154
                          have H' := Aside0.mk H
                          clear H
                          go_wp2_with (first | ((with_reducible refine gate_builtin (b := .append) (xs := #[.tmp 45, .tmp 47]) rfl ?_); at_builtin; refine Kd.R_append (Kd.int .u8) (w0 := w) w.heap.size rfl (.tmp 45) (.tmp 47) 65 5 (.int .u8 0) 1 rfl Tryd.underlying65 info5 rfl (by decide) (by omega) (.slice Ao12 x5_1.length co12) x5_1 t149 [.int .u8 t149] (fun _ => True) (fun _ => False) rfl rfl ?aP (fun _ hk => hk.elim) ?aF ?aO ?aB ?aS ?aL ?_; (case aP => exact rfl); (case aB => exact (by repeat (first | (with_reducible first | exact HB.out | apply below_alloc | apply pw_below_drewN | apply below_drew1) | exact HB.out))); (case aF => exact (fun _ _ => trivial)); (case aO => exact (by (with_reducible repeat (first | apply Kd.R_alloc | apply Kd.R_drewN | apply Kd.R_drew)); exact HO_5.out)); (case aS => exact (below_size (by repeat (first | (with_reducible first | exact HB.out | apply below_alloc | apply pw_below_drewN | apply below_drew1) | exact HB.out)))); (case aL => have := LMc23.out; omega); intro v155 w24 ho hb hg hat; rw [← Ny154.out] at ho; have n0_ := Aside0.mk (hb); have n1_ := Aside0.mk (ho); clear HB; clear HO_5; have HB := n0_; have HO156 := n1_; clear n0_ n1_; clear ho hb hg hat))
                          go_roundg kj9
                          case measure => have := HK1.out; have := HJ9.out; omega
                          case rel => exact ⟨(y154), (wrap64 (x21_1 + 1)), (by first | rfl | (simp; done) | (simp [*]; done)), H', ⟨by have := HK1.out; have := HJ9.out; omega⟩, ⟨by (with_reducible repeat (first | apply Kd.R_alloc | apply Kd.R_drewN | apply Kd.R_drew)); exact HO156.out⟩, ⟨by repeat (first | (with_reducible first | exact HB.out | apply below_alloc | apply pw_below_drewN | apply below_drew1) | exact HB.out)⟩⟩
                        · rw [if_neg c23] at H
                          exact absurd H (by simp)
              · rw [if_neg c8] at H
                exact absurd H (by simp)
            · rw [if_neg c7] at H
              exact absurd H (by simp)
          · rw [if_neg c6] at H
            have c6b0 : decide (x21_1 < ((l0.take (a1 : Int).toNat).length : Int)) = false := decide_eq_false c6
            have c6y : decide (x21_1 < max a1 0) = false := by
              have ha_ : a1 ≤ (l0.length : Int) := HAL.out.2
              have e_ : ((l0.take (a1 : Int).toNat).length : Int) = max a1 0 := by rw [List.length_take]; omega
              rw [← e_]; exact c6b0
            clear c6
            obtain ⟨ji25, hji25⟩ : ∃ j_ : Int, (wrap64 ((x5_1.length : Int) - 1)) = j_ := ⟨_, rfl⟩
            replace H : (if 0 ≤ (ji25) then (if (ji25) < (x5_1.length : Int) then (if (x5_1.length : Int) > 1 then (if 0 ≤ (wrap64 ((x5_1.length : Int) - 2)) then (if (wrap64 ((x5_1.length : Int) - 2)) < (x5_1.length : Int) then (chanceryref3_BreakAt.j2 k1 l0 a1 x5_1 (rd x5_1 (wrap64 ((x5_1.length : Int) - 2))) 120 (rd x5_1 (ji25))) else (none)) else (none)) else (chanceryref3_BreakAt.j2 k1 l0 a1 x5_1 110 120 (rd x5_1 (ji25)))) else (none)) else (none)) = some r := by first | (rw [hji25] at H; exact H) | (simp only [hji25] at H ⊢; exact H)
            have hji25w : (IntKind.i64.wrap ((x5_1.length : Int) - 1)) = ji25 := (i64_w _).trans hji25
            by_cases c26 : 0 ≤ (ji25)
            · rw [if_pos c26] at H
              have c26b0 : decide (0 ≤ (ji25)) = true := decide_eq_true c26
              clear c26
              by_cases c27 : (ji25) < (x5_1.length : Int)
              · rw [if_pos c27] at H
                have c27b0 : decide ((ji25) < (x5_1.length : Int)) = true := decide_eq_true c27
                clear c27
                have HC28 := Aside0.mk H
                clear H
                obtain ⟨Ao29, co29, eo29⟩ := Kd.R_slice HO_5.out
                subst eo29
                have p157 : 0 ≤ ((ji25) : Int) := of_decide_eq_true (by first | (with_reducible assumption) | assumption)
                have q157 : (ji25) < (x5_1.length : Int) := of_decide_eq_true (by first | (with_reducible assumption) | assumption)
                obtain ⟨ad157, e157, hx157_0⟩ := Kd.at_int (Kd.R_reads' HO_5.out).2.2 (ji25) p157 q157
                cases e157
                replace p157 := eq_true p157
                replace q157 := eq_true q157
                go_upto_if 59 with (fail)
                go_cut [10] (fun v10 wc => ∃ (kq : Nat) (x10_27 : Int), v10 = .int .u8 x10_27 ∧ Aside0 (chanceryref3_BreakAt.j2 kq l0 a1 x5_1 x10_27 120 (rd x5_1 (ji25)) = some r) ∧ Aside0 (kq ≤ k1) ∧ Aside0 (Kd.R (Kd.int .u8) 5 wc w.heap.size (fun _ => True) (.slice (some ad157) x5_1.length co29) x5_1) ∧ Aside0 (Below w.heap.size w wc))
                case first => as_aux_lemma =>
                  have H := HC28.out
                  clear HC28
                  by_cases c30 : (x5_1.length : Int) > 1
                  · rw [if_pos c30] at H
                    have c30b0 : decide (1 < (x5_1.length : Int)) = true := decide_eq_true c30
                    have c30b1 : decide (1 < x5_1.length) = true := decide_eq_true (by omega)
                    clear c30
                    (first | rw [c30b0] | (simp only [i64_w, i32_w]; rw [c30b0]) | skip)
                    obtain ⟨ji31, hji31⟩ : ∃ j_ : Int, (wrap64 ((x5_1.length : Int) - 2)) = j_ := ⟨_, rfl⟩
                    replace H : (if 0 ≤ (ji31) then (if (ji31) < (x5_1.length : Int) then (chanceryref3_BreakAt.j2 k1 l0 a1 x5_1 (rd x5_1 (ji31)) 120 (rd x5_1 (ji25))) else (none)) else (none)) = some r := by first | (rw [hji31] at H; exact H) | (simp only [hji31] at H ⊢; exact H)
                    have hji31w : (IntKind.i64.wrap ((x5_1.length : Int) - 2)) = ji31 := (i64_w _).trans hji31
                    by_cases c32 : 0 ≤ (ji31)
                    · rw [if_pos c32] at H
                      have c32b0 : decide (0 ≤ (ji31)) = true := decide_eq_true c32
                      clear c32
                      by_cases c33 : (ji31) < (x5_1.length : Int)
                      · rw [if_pos c33] at H
                        have c33b0 : decide ((ji31) < (x5_1.length : Int)) = true := decide_eq_true c33
                        clear c33
                        have H' := Aside0.mk H
                        clear H
                        have p158 : 0 ≤ ((ji31) : Int) := of_decide_eq_true (by first | (with_reducible assumption) | assumption)
                        have q158 : (ji31) < (x5_1.length : Int) := of_decide_eq_true (by first | (with_reducible assumption) | assumption)
                        obtain ⟨ad158, e158, hx158_0⟩ := Kd.at_int (Kd.R_reads' HO_5.out).2.2 (ji31) p158 q158
                        obtain rfl : ad157 = ad158 := (by injection e158)
                        replace p158 := eq_true p158
                        replace q158 := eq_true q158
                        go_wp2
                        go_meet
                        case rel => exact ⟨_, (rd x5_1 (ji31)), (by first | rfl | (simp; done) | (simp only [← hji31] <;> (first | rfl | simp)) | (simp [*]; done)), H', ⟨by have := HK1.out; first | omega | exact Nat.le_refl _⟩, ⟨by (with_reducible repeat (first | apply Kd.R_alloc | apply Kd.R_drewN | apply Kd.R_drew)); exact HO_5.out⟩, ⟨by repeat (first | (with_reducible first | exact HB.out | apply below_alloc | apply pw_below_drewN | apply below_drew1) | exact HB.out)⟩⟩
                      · rw [if_neg c33] at H
                        exact absurd H (by simp)
                    · rw [if_neg c32] at H
                      exact absurd H (by simp)
                  · rw [if_neg c30] at H
                    have c30b0 : decide (1 < (x5_1.length : Int)) = false := decide_eq_false c30
                    have c30b1 : decide (1 < x5_1.length) = false := decide_eq_false (by omega)
                    clear c30
                    (first | rw [c30b0] | (simp only [i64_w, i32_w]; rw [c30b0]) | skip)
                    have H' := Aside0.mk H
                    clear H
                    go_wp2
                    go_meet
                    case rel => exact ⟨_, (110), (by first | rfl | (simp; done) | (simp [*]; done)), H', ⟨by have := HK1.out; first | omega | exact Nat.le_refl _⟩, ⟨by (with_reducible repeat (first | apply Kd.R_alloc | apply Kd.R_drewN | apply Kd.R_drew)); exact HO_5.out⟩, ⟨by repeat (first | (with_reducible first | exact HB.out | apply below_alloc | apply pw_below_drewN | apply below_drew1) | exact HB.out)⟩⟩
                case rest => as_aux_lemma =>
                  clear HC28
                  try clear c1
                  try clear p1
                  try clear q1
                  try clear hx1
                  try clear c2
                  try clear p2
                  try clear c3
                  try clear c3b0
                  try clear c3b1
                  try clear c4
                  try clear c4b0
                  try clear c4b1
                  try clear c6
                  try clear c6b0
                  try clear p6
                  try clear c7
                  try clear c7b0
                  try clear c8
                  try clear c8b0
                  try clear c13
                  try clear c13b0
                  try clear c13b1
                  try clear c14
                  try clear c14b0
                  try clear c14b1
                  try clear c14b2
                  try clear p14
                  try clear q14
                  try clear hx14
                  try clear p15
                  try clear q15
                  try clear hx15
                  try clear c16
                  try clear c16b0
                  try clear c17
                  try clear c17b0
                  try clear c18
                  try clear c19
                  try clear c19b0
                  try clear c19b1
                  try clear c20
                  try clear c22
                  try clear c22b0
                  try clear c22b1
                  try clear c23
                  try clear c25
                  try clear c26
                  try clear c26b0
                  try clear c27
                  try clear c27b0
                  try clear c30
                  try clear c30b0
                  try clear c30b1
                  try clear c32
                  try clear c32b0
                  try clear c33
                  try clear c33b0
                  try clear hx148_0
                  try clear hx150_0
                  try clear hx157_0
                  try clear hx158_0
                  try clear p1
                  try clear p14
                  try clear p148
                  try clear p15
                  try clear p150
                  try clear p157
                  try clear p158
                  try clear p2
                  try clear p6
                  try clear q1
                  try clear q14
                  try clear q148
                  try clear q15
                  try clear q150
                  try clear q157
                  try clear q158
                  obtain ⟨kq, x10_27, rfl, HA, HJ27, HO_5, HB⟩ := hcut
                  cases kq with
                  | zero => exact absurd HA.out (by simp [chanceryref3_BreakAt.j2])
                  | succ kj27 =>
                    have H := HA.out
                    clear HA
                    simp only [chanceryref3_BreakAt.j2] at H
                    have H' := Aside0.mk H
                    clear H
                    go_wp2
                    go_loopg [11, 67] kj27 (fun kq v11 v67 w' => ∃ (x11_3 : Int) (x67_3 : Int), v11 = .int .u8 x11_3 ∧ v67 = .int .i64 x67_3 ∧ Aside0 (chanceryref3_BreakAt.l1 kq l0 a1 x10_27 x11_3 (rd x5_1 (ji25)) x5_1 (x5_1.length : Int) x67_3 = some r) ∧ Aside0 (kq ≤ kj27) ∧ Aside0 (Kd.R (Kd.int .u8) 5 w' w.heap.size (fun _ => True) (.slice (some ad157) x5_1.length co29) x5_1) ∧ Aside0 (Below w.heap.size w w'))
                    case atStart => exact ⟨(120), (0), (by first | rfl | (simp; done) | (simp [*]; done)), (by first | rfl | (simp; done) | (simp [*]; done)), H', ⟨Nat.le_refl _⟩, ⟨by (with_reducible repeat (first | apply Kd.R_alloc | apply Kd.R_drewN | apply Kd.R_drew)); exact HO_5.out⟩, ⟨by repeat (first | (with_reducible first | exact HB.out | apply below_alloc | apply pw_below_drewN | apply below_drew1) | exact HB.out)⟩⟩
                    case round => as_aux_lemma =>
                      clear H'
                      try clear c1
                      try clear p1
                      try clear q1
                      try clear hx1
                      try clear c2
                      try clear p2
                      try clear c3
                      try clear c3b0
                      try clear c3b1
                      try clear c4
                      try clear c4b0
                      try clear c4b1
                      try clear c6
                      try clear c6b0
                      try clear p6
                      try clear c7
                      try clear c7b0
                      try clear c8
                      try clear c8b0
                      try clear c13
                      try clear c13b0
                      try clear c13b1
                      try clear c14
                      try clear c14b0
                      try clear c14b1
                      try clear c14b2
                      try clear p14
                      try clear q14
                      try clear hx14
                      try clear p15
                      try clear q15
                      try clear hx15
                      try clear c16
                      try clear c16b0
                      try clear c17
                      try clear c17b0
                      try clear c18
                      try clear c19
                      try clear c19b0
                      try clear c19b1
                      try clear c20
                      try clear c22
                      try clear c22b0
                      try clear c22b1
                      try clear c23
                      try clear c25
                      try clear c26
                      try clear c26b0
                      try clear c27
                      try clear c27b0
                      try clear c30
                      try clear c30b0
                      try clear c30b1
                      try clear c32
                      try clear c32b0
                      try clear c33
                      try clear c33b0
                      try clear hx148_0
                      try clear hx150_0
                      try clear hx157_0
                      try clear hx158_0
                      try clear p1
                      try clear p14
                      try clear p148
                      try clear p15
                      try clear p150
                      try clear p157
                      try clear p158
                      try clear p2
                      try clear p6
                      try clear q1
                      try clear q14
                      try clear q148
                      try clear q15
                      try clear q150
                      try clear q157
                      try clear q158
                      obtain ⟨x11_3, x67_3, rfl, rfl, HA, HK3, HO_65, HB⟩ := hrel
                      cases gk with
                      | zero => exact absurd HA.out (by simp [chanceryref3_BreakAt.l1])
                      | succ k3 =>
                        have H := HA.out
                        clear HA
                        simp only [chanceryref3_BreakAt.l1] at H
                        by_cases c34 : x67_3 < (x5_1.length : Int)
                        · rw [if_pos c34] at H
                          have c34b0 : decide (x67_3 < (x5_1.length : Int)) = true := decide_eq_true c34
                          clear c34
                          by_cases c35 : 0 ≤ x67_3
                          · rw [if_pos c35] at H
                            have c35b0 : decide (0 ≤ x67_3) = true := decide_eq_true c35
                            clear c35
                            by_cases c36 : x67_3 < (x5_1.length : Int)
                            · rw [if_pos c36] at H
                              have c36b0 : decide (x67_3 < (x5_1.length : Int)) = true := decide_eq_true c36
                              clear c36
                              by_cases c37 : (rd x5_1 x67_3) = 115
                              · rw [if_pos c37] at H
                                have c37b0 : ((rd x5_1 x67_3) == 115) = true := beq_iff_eq.mpr c37
                                have c37b1 : ((rd x5_1 x67_3) != 115) = false := bne_eq_false_iff_eq.mpr c37
                                clear c37
                                have H' := Aside0.mk H
                                clear H
                                have p159 : 0 ≤ (x67_3 : Int) := of_decide_eq_true (by first | (with_reducible assumption) | assumption)
                                have q159 : x67_3 < (x5_1.length : Int) := of_decide_eq_true (by first | (with_reducible assumption) | assumption)
                                obtain ⟨ad159, e159, hx159_0⟩ := Kd.at_int (Kd.R_reads' HO_65.out).2.2 x67_3 p159 q159
                                obtain rfl : ad157 = ad159 := (by injection e159)
                                replace p159 := eq_true p159
                                replace q159 := eq_true q159
                                go_wp2
                                go_roundg k3
                                case measure => have := HK1.out; have := HJ27.out; have := HK3.out; omega
                                case rel => exact ⟨(x11_3), (wrap64 (x67_3 + 1)), (by first | rfl | (simp; done) | (simp [*]; done)), (by first | rfl | (simp; done) | (simp [*]; done)), H', ⟨by have := HK1.out; have := HJ27.out; have := HK3.out; omega⟩, ⟨by (with_reducible repeat (first | apply Kd.R_alloc | apply Kd.R_drewN | apply Kd.R_drew)); exact HO_65.out⟩, ⟨by repeat (first | (with_reducible first | exact HB.out | apply below_alloc | apply pw_below_drewN | apply below_drew1) | exact HB.out)⟩⟩
                              · rw [if_neg c37] at H
                                have c37b0 : ((rd x5_1 x67_3) == 115) = false := beq_eq_false_iff_ne.mpr c37
                                have c37b1 : ((rd x5_1 x67_3) != 115) = true := bne_iff_ne.mpr c37
                                have H' := Aside0.mk H
                                clear H
                                have p159 : 0 ≤ (x67_3 : Int) := of_decide_eq_true (by first | (with_reducible assumption) | assumption)
                                have q159 : x67_3 < (x5_1.length : Int) := of_decide_eq_true (by first | (with_reducible assumption) | assumption)
                                obtain ⟨ad159, e159, hx159_0⟩ := Kd.at_int (Kd.R_reads' HO_65.out).2.2 x67_3 p159 q159
                                obtain rfl : ad157 = ad159 := (by injection e159)
                                replace p159 := eq_true p159
                                replace q159 := eq_true q159
                                go_wp2
                                go_roundg k3
                                case measure => have := HK1.out; have := HJ27.out; have := HK3.out; omega
                                case rel => exact ⟨(rd x5_1 x67_3), (wrap64 (x67_3 + 1)), (by first | rfl | (simp; done) | (simp [*]; done)), (by first | rfl | (simp; done) | (simp [*]; done)), H', ⟨by have := HK1.out; have := HJ27.out; have := HK3.out; omega⟩, ⟨by (with_reducible repeat (first | apply Kd.R_alloc | apply Kd.R_drewN | apply Kd.R_drew)); exact HO_65.out⟩, ⟨by repeat (first | (with_reducible first | exact HB.out | apply below_alloc | apply pw_below_drewN | apply below_drew1) | exact HB.out)⟩⟩
                            · rw [if_neg c36] at H
                              exact absurd H (by simp)
                          · rw [if_neg c35] at H
                            exact absurd H (by simp)
                        · rw [if_neg c34] at H
                          have c34b0 : decide (x67_3 < (x5_1.length : Int)) = false := decide_eq_false c34
                          clear c34
                          by_cases c38 : 0 ≤ a1
                          · rw [if_pos c38] at H
                            have c38b0 : decide (0 ≤ a1) = true := decide_eq_true c38
                            clear c38
                            by_cases c39 : a1 < (l0.length : Int)
                            · rw [if_pos c39] at H
                              have c39b0 : decide (a1 < (l0.length : Int)) = true := decide_eq_true c39
                              clear c39
                              replace H := Option.bind_eq_some_iff.mp H
                              obtain ⟨t161, A400, H⟩ := H
                              replace H : (if (rd x5_1 (ji25)) = 110 then (some 2) else (if 0 ≤ (wrap64 (a1 - 1)) then (if (wrap64 (a1 - 1)) < (l0.length : Int) then (if (rd l0 (wrap64 (a1 - 1))) = 8205 then (chanceryref3_BreakAt.j4 k3 x10_27 x11_3 (rd x5_1 (ji25)) t161 true) else (if t161 = 110 then (chanceryref3_BreakAt.j4 k3 x10_27 x11_3 (rd x5_1 (ji25)) t161 true) else (if t161 = 115 then (chanceryref3_BreakAt.j4 k3 x10_27 x11_3 (rd x5_1 (ji25)) t161 true) else (if t161 = 109 then (chanceryref3_BreakAt.j4 k3 x10_27 x11_3 (rd x5_1 (ji25)) t161 true) else (chanceryref3_BreakAt.j4 k3 x10_27 x11_3 (rd x5_1 (ji25)) t161 (t161 == 122)))))) else (none)) else (none))) = some r := H
                              have A40 := Aside0.mk A400
                              clear A400
                              by_cases c41 : (rd x5_1 (ji25)) = 110
                              · rw [if_pos c41] at H
                                have c41b0 : ((rd x5_1 (ji25)) == 110) = true := beq_iff_eq.mpr c41
                                have c41b1 : ((rd x5_1 (ji25)) != 110) = false := bne_eq_false_iff_eq.mpr c41
                                clear c41
                                obtain rfl := Option.some.inj H
                                have p160 : 0 ≤ (a1 : Int) := of_decide_eq_true (by first | (with_reducible assumption) | assumption)
                                have q160 : a1 < (l0.length : Int) := of_decide_eq_true (by first | (with_reducible assumption) | assumption)
                                obtain ⟨ad160, e160, hx160_0⟩ := Kd.at_int HR0.out a1 p160 q160
                                cases e160
                                replace hx160_0 := (HB.out.cell (World.block_lt_of_cell? w _ hx160_0)).trans hx160_0
                                replace p160 := eq_true p160
                                replace q160 := eq_true q160
                                go_wp2_with (first | ((with_reducible refine gate_callee (f := 34) rfl ?_); refine goesL_ (some 79) rfl rfl Tryd.func34 (by kernel_rfl) rfl #[.int .i64 (rd l0 a1)] rfl (by (try simp only [List.map_toArray, List.map_cons, List.map_nil]); first | done | rfl | (simp only [List.length_drop, List.length_take]; rfl)) ?_; (with_reducible refine (chanceryref3_breakClass.calls k3 (rd l0 a1) t161 _ A40.out).mono ?_); rintro e w42 ⟨rfl, hb⟩; refine ⟨_, rfl, ?_⟩; have n0_ := Aside0.mk (Kd.R_below (by (with_reducible repeat (first | apply Kd.R_alloc | apply Kd.R_drewN | apply Kd.R_drew)); exact HO_65.out) hb); have n1_ := Aside0.mk (below_step (by repeat (first | (with_reducible first | exact HB.out | apply below_alloc | apply pw_below_drewN | apply below_drew1) | exact HB.out)) hb); clear HO_65; clear HB; have HO_65 := n0_; have HB := n1_; clear n0_ n1_; (try clear hb); (try clear hb2); (try clear hk); (try clear hi)))
                                go_ret
                                exact ⟨by first | rfl | (simp [errW_none, errW_some] <;> rfl) | (simp only [← hji25]; first | rfl | (simp [errW_none, errW_some] <;> rfl)) | (simp [*, errW_none, errW_some] <;> rfl), by repeat (first | (with_reducible first | exact HB.out | apply below_alloc | apply pw_below_drewN | apply below_drew1) | exact HB.out)⟩
                              · rw [if_neg c41] at H
                                have c41b0 : ((rd x5_1 (ji25)) == 110) = false := beq_eq_false_iff_ne.mpr c41
                                have c41b1 : ((rd x5_1 (ji25)) != 110) = true := bne_iff_ne.mpr c41
                                have HC43 := Aside0.mk H
                                clear H
                                have p160 : 0 ≤ (a1 : Int) := of_decide_eq_true (by first | (with_reducible assumption) | assumption)
                                have q160 : a1 < (l0.length : Int) := of_decide_eq_true (by first | (with_reducible assumption) | assumption)
                                obtain ⟨ad160, e160, hx160_0⟩ := Kd.at_int HR0.out a1 p160 q160
                                cases e160
                                replace hx160_0 := (HB.out.cell (World.block_lt_of_cell? w _ hx160_0)).trans hx160_0
                                replace p160 := eq_true p160
                                replace q160 := eq_true q160
                                go_upto_region 26 with (first | ((with_reducible refine gate_callee (f := 34) rfl ?_); refine goesL_ (some 79) rfl rfl Tryd.func34 (by kernel_rfl) rfl #[.int .i64 (rd l0 a1)] rfl (by (try simp only [List.map_toArray, List.map_cons, List.map_nil]); first | done | rfl | (simp only [List.length_drop, List.length_take]; rfl)) ?_; (with_reducible refine (chanceryref3_breakClass.calls k3 (rd l0 a1) t161 _ A40.out).mono ?_); rintro e w44 ⟨rfl, hb⟩; refine ⟨_, rfl, ?_⟩; have n0_ := Aside0.mk (Kd.R_below (by (with_reducible repeat (first | apply Kd.R_alloc | apply Kd.R_drewN | apply Kd.R_drew)); exact HO_65.out) hb); have n1_ := Aside0.mk (below_step (by repeat (first | (with_reducible first | exact HB.out | apply below_alloc | apply pw_below_drewN | apply below_drew1) | exact HB.out)) hb); clear HO_65; clear HB; have HO_65 := n0_; have HB := n1_; clear n0_ n1_; (try clear hb); (try clear hb2); (try clear hk); (try clear hi)))
                                (try simp only [Act.put, List.setIfInBounds_toArray, List.set_cons_zero, List.set_cons_succ])
                                go_cut [83] (fun v83 wc => ∃ (kq : Nat) (x83_42 : Bool), v83 = .bool x83_42 ∧ Aside0 (chanceryref3_BreakAt.j4 kq x10_27 x11_3 (rd x5_1 (ji25)) t161 x83_42 = some r) ∧ Aside0 (kq ≤ k3) ∧ Aside0 (Below w.heap.size w wc))
                                case first => as_aux_lemma =>
                                  have H := HC43.out
                                  clear HC43
                                  obtain ⟨ji45, hji45⟩ : ∃ j_ : Int, (wrap64 (a1 - 1)) = j_ := ⟨_, rfl⟩
                                  replace H : (if 0 ≤ (ji45) then (if (ji45) < (l0.length : Int) then (if (rd l0 (ji45)) = 8205 then (chanceryref3_BreakAt.j4 k3 x10_27 x11_3 (rd x5_1 (ji25)) t161 true) else (if t161 = 110 then (chanceryref3_BreakAt.j4 k3 x10_27 x11_3 (rd x5_1 (ji25)) t161 true) else (if t161 = 115 then (chanceryref3_BreakAt.j4 k3 x10_27 x11_3 (rd x5_1 (ji25)) t161 true) else (if t161 = 109 then (chanceryref3_BreakAt.j4 k3 x10_27 x11_3 (rd x5_1 (ji25)) t161 true) else (chanceryref3_BreakAt.j4 k3 x10_27 x11_3 (rd x5_1 (ji25)) t161 (t161 == 122)))))) else (none)) else (none)) = some r := by first | (rw [hji45] at H; exact H) | (simp only [hji45] at H ⊢; exact H)
                                  have hji45w : (IntKind.i64.wrap (a1 - 1)) = ji45 := (i64_w _).trans hji45
                                  by_cases c46 : 0 ≤ (ji45)
                                  · rw [if_pos c46] at H
                                    have c46b0 : decide (0 ≤ (ji45)) = true := decide_eq_true c46
                                    clear c46
                                    (first | rw [c46b0] | (simp only [i64_w, i32_w]; rw [c46b0]) | skip)
                                    by_cases c47 : (ji45) < (l0.length : Int)
                                    · rw [if_pos c47] at H
                                      have c47b0 : decide ((ji45) < (l0.length : Int)) = true := decide_eq_true c47
                                      clear c47
                                      by_cases c48 : (rd l0 (ji45)) = 8205
                                      · rw [if_pos c48] at H
                                        have c48b0 : ((rd l0 (ji45)) == 8205) = true := beq_iff_eq.mpr c48
                                        have c48b1 : ((rd l0 (ji45)) != 8205) = false := bne_eq_false_iff_eq.mpr c48
                                        clear c48
                                        have H' := Aside0.mk H
                                        clear H
                                        have p162 : 0 ≤ ((ji45) : Int) := of_decide_eq_true (by first | (with_reducible assumption) | assumption)
                                        have q162 : (ji45) < (l0.length : Int) := of_decide_eq_true (by first | (with_reducible assumption) | assumption)
                                        obtain ⟨ad162, e162, hx162_0⟩ := Kd.at_int HR0.out (ji45) p162 q162
                                        obtain rfl : ad160 = ad162 := (by injection e162)
                                        replace hx162_0 := (HB.out.cell (World.block_lt_of_cell? w _ hx162_0)).trans hx162_0
                                        replace p162 := eq_true p162
                                        replace q162 := eq_true q162
                                        go_wp2
                                        go_meet
                                        case rel => exact ⟨_, (true), (by first | rfl | (simp; done) | (simp [*]; done)), H', ⟨by have := HK1.out; have := HJ27.out; have := HK3.out; first | omega | exact Nat.le_refl _⟩, ⟨by repeat (first | (with_reducible first | exact HB.out | apply below_alloc | apply pw_below_drewN | apply below_drew1) | exact HB.out)⟩⟩
                                      · rw [if_neg c48] at H
                                        have c48b0 : ((rd l0 (ji45)) == 8205) = false := beq_eq_false_iff_ne.mpr c48
                                        have c48b1 : ((rd l0 (ji45)) != 8205) = true := bne_iff_ne.mpr c48
                                        by_cases c49 : t161 = 110
                                        · rw [if_pos c49] at H
                                          have c49b0 : (t161 == 110) = true := beq_iff_eq.mpr c49
                                          have c49b1 : (t161 != 110) = false := bne_eq_false_iff_eq.mpr c49
                                          clear c49
                                          have H' := Aside0.mk H
                                          clear H
                                          have p162 : 0 ≤ ((ji45) : Int) := of_decide_eq_true (by first | (with_reducible assumption) | assumption)
                                          have q162 : (ji45) < (l0.length : Int) := of_decide_eq_true (by first | (with_reducible assumption) | assumption)
                                          obtain ⟨ad162, e162, hx162_0⟩ := Kd.at_int HR0.out (ji45) p162 q162
                                          obtain rfl : ad160 = ad162 := (by injection e162)
                                          replace hx162_0 := (HB.out.cell (World.block_lt_of_cell? w _ hx162_0)).trans hx162_0
                                          replace p162 := eq_true p162
                                          replace q162 := eq_true q162
                                          go_wp2
                                          go_meet
                                          case rel => exact ⟨_, (true), (by first | rfl | (simp; done) | (simp [*]; done)), H', ⟨by have := HK1.out; have := HJ27.out; have := HK3.out; first | omega | exact Nat.le_refl _⟩, ⟨by repeat (first | (with_reducible first | exact HB.out | apply below_alloc | apply pw_below_drewN | apply below_drew1) | exact HB.out)⟩⟩
                                        · rw [if_neg c49] at H
                                          have c49b0 : (t161 == 110) = false := beq_eq_false_iff_ne.mpr c49
                                          have c49b1 : (t161 != 110) = true := bne_iff_ne.mpr c49
                                          by_cases c50 : t161 = 115
                                          · rw [if_pos c50] at H
                                            have c50b0 : (t161 == 115) = true := beq_iff_eq.mpr c50
                                            have c50b1 : (t161 != 115) = false := bne_eq_false_iff_eq.mpr c50
                                            clear c50
                                            have H' := Aside0.mk H
                                            clear H
                                            have p162 : 0 ≤ ((ji45) : Int) := of_decide_eq_true (by first | (with_reducible assumption) | assumption)
                                            have q162 : (ji45) < (l0.length : Int) := of_decide_eq_true (by first | (with_reducible assumption) | assumption)
                                            obtain ⟨ad162, e162, hx162_0⟩ := Kd.at_int HR0.out (ji45) p162 q162
                                            obtain rfl : ad160 = ad162 := (by injection e162)
                                            replace hx162_0 := (HB.out.cell (World.block_lt_of_cell? w _ hx162_0)).trans hx162_0
                                            replace p162 := eq_true p162
                                            replace q162 := eq_true q162
                                            go_wp2
                                            go_meet
                                            case rel => exact ⟨_, (true), (by first | rfl | (simp; done) | (simp [*]; done)), H', ⟨by have := HK1.out; have := HJ27.out; have := HK3.out; first | omega | exact Nat.le_refl _⟩, ⟨by repeat (first | (with_reducible first | exact HB.out | apply below_alloc | apply pw_below_drewN | apply below_drew1) | exact HB.out)⟩⟩
                                          · rw [if_neg c50] at H
                                            have c50b0 : (t161 == 115) = false := beq_eq_false_iff_ne.mpr c50
                                            have c50b1 : (t161 != 115) = true := bne_iff_ne.mpr c50
                                            by_cases c51 : t161 = 109
                                            · rw [if_pos c51] at H
                                              have c51b0 : (t161 == 109) = true := beq_iff_eq.mpr c51
                                              have c51b1 : (t161 != 109) = false := bne_eq_false_iff_eq.mpr c51
                                              clear c51
                                              have H' := Aside0.mk H
                                              clear H
                                              have p162 : 0 ≤ ((ji45) : Int) := of_decide_eq_true (by first | (with_reducible assumption) | assumption)
                                              have q162 : (ji45) < (l0.length : Int) := of_decide_eq_true (by first | (with_reducible assumption) | assumption)
                                              obtain ⟨ad162, e162, hx162_0⟩ := Kd.at_int HR0.out (ji45) p162 q162
                                              obtain rfl : ad160 = ad162 := (by injection e162)
                                              replace hx162_0 := (HB.out.cell (World.block_lt_of_cell? w _ hx162_0)).trans hx162_0
                                              replace p162 := eq_true p162
                                              replace q162 := eq_true q162
                                              go_wp2
                                              go_meet
                                              case rel => exact ⟨_, (true), (by first | rfl | (simp; done) | (simp [*]; done)), H', ⟨by have := HK1.out; have := HJ27.out; have := HK3.out; first | omega | exact Nat.le_refl _⟩, ⟨by repeat (first | (with_reducible first | exact HB.out | apply below_alloc | apply pw_below_drewN | apply below_drew1) | exact HB.out)⟩⟩
                                            · rw [if_neg c51] at H
                                              have c51b0 : (t161 == 109) = false := beq_eq_false_iff_ne.mpr c51
                                              have c51b1 : (t161 != 109) = true := bne_iff_ne.mpr c51
                                              have H' := Aside0.mk H
                                              clear H
                                              have p162 : 0 ≤ ((ji45) : Int) := of_decide_eq_true (by first | (with_reducible assumption) | assumption)
                                              have q162 : (ji45) < (l0.length : Int) := of_decide_eq_true (by first | (with_reducible assumption) | assumption)
                                              obtain ⟨ad162, e162, hx162_0⟩ := Kd.at_int HR0.out (ji45) p162 q162
                                              obtain rfl : ad160 = ad162 := (by injection e162)
                                              replace hx162_0 := (HB.out.cell (World.block_lt_of_cell? w _ hx162_0)).trans hx162_0
                                              replace p162 := eq_true p162
                                              replace q162 := eq_true q162
                                              go_wp2
                                              go_meet
                                              case rel => exact ⟨_, ((t161 == 122)), (by first | rfl | (simp; done) | (simp [*]; done)), H', ⟨by have := HK1.out; have := HJ27.out; have := HK3.out; first | omega | exact Nat.le_refl _⟩, ⟨by repeat (first | (with_reducible first | exact HB.out | apply below_alloc | apply pw_below_drewN | apply below_drew1) | exact HB.out)⟩⟩
                                    · rw [if_neg c47] at H
                                      exact absurd H (by simp)
                                  · rw [if_neg c46] at H
                                    exact absurd H (by simp)
                                case rest => as_aux_lemma =>
                                  clear HC43
                                  try clear c1
                                  try clear p1
                                  try clear q1
                                  try clear hx1
                                  try clear c2
                                  try clear p2
                                  try clear c3
                                  try clear c3b0
                                  try clear c3b1
                                  try clear c4
                                  try clear c4b0
                                  try clear c4b1
                                  try clear c5
                                  try clear c6
                                  try clear c6b0
                                  try clear p6
                                  try clear c7
                                  try clear c7b0
                                  try clear c8
                                  try clear c8b0
                                  try clear c13
                                  try clear c13b0
                                  try clear c13b1
                                  try clear c14
                                  try clear c14b0
                                  try clear c14b1
                                  try clear c14b2
                                  try clear p14
                                  try clear q14
                                  try clear hx14
                                  try clear p15
                                  try clear q15
                                  try clear hx15
                                  try clear c16
                                  try clear c16b0
                                  try clear p16
                                  try clear q16
                                  try clear hx16
                                  try clear c17
                                  try clear c17b0
                                  try clear c18
                                  try clear c19
                                  try clear c19b0
                                  try clear c19b1
                                  try clear c20
                                  try clear c22
                                  try clear c22b0
                                  try clear c22b1
                                  try clear c23
                                  try clear c25
                                  try clear c26
                                  try clear c26b0
                                  try clear c27
                                  try clear c27b0
                                  try clear c30
                                  try clear c30b0
                                  try clear c30b1
                                  try clear c32
                                  try clear c32b0
                                  try clear c33
                                  try clear c33b0
                                  try clear c34
                                  try clear c34b0
                                  try clear c35
                                  try clear c35b0
                                  try clear c36
                                  try clear c36b0
                                  try clear c37
                                  try clear c37b0
                                  try clear c37b1
                                  try clear c38
                                  try clear c38b0
                                  try clear c39
                                  try clear c39b0
                                  try clear c41
                                  try clear c41b0
                                  try clear c41b1
                                  try clear c46
                                  try clear c46b0
                                  try clear c47
                                  try clear c47b0
                                  try clear c48
                                  try clear c48b0
                                  try clear c48b1
                                  try clear c49
                                  try clear c49b0
                                  try clear c49b1
                                  try clear c50
                                  try clear c50b0
                                  try clear c50b1
                                  try clear c51
                                  try clear c51b0
                                  try clear c51b1
                                  try clear hx148_0
                                  try clear hx150_0
                                  try clear hx157_0
                                  try clear hx158_0
                                  try clear hx159_0
                                  try clear hx160_0
                                  try clear hx162_0
                                  try clear p1
                                  try clear p14
                                  try clear p148
                                  try clear p15
                                  try clear p150
                                  try clear p157
                                  try clear p158
                                  try clear p159
                                  try clear p160
                                  try clear p162
                                  try clear p2
                                  try clear p6
                                  try clear q1
                                  try clear q14
                                  try clear q148
                                  try clear q15
                                  try clear q150
                                  try clear q157
                                  try clear q158
                                  try clear q159
                                  try clear q160
                                  try clear q162
                                  obtain ⟨kq, x83_42, rfl, HA, HJ42, HB⟩ := hcut
                                  cases kq with
                                  | zero => exact absurd HA.out (by simp [chanceryref3_BreakAt.j4])
                                  | succ kj42 =>
                                    have H := HA.out
                                    clear HA
                                    simp only [chanceryref3_BreakAt.j4] at H
                                    by_cases c52 : x83_42 = true
                                    · subst c52
                                      have H1 : (some (-1)) = some r := by rw [if_pos rfl] at H; exact H
                                      clear H
                                      have H := H1
                                      clear H1
                                      obtain rfl := Option.some.inj H
                                      go_wp2
                                      go_ret
                                      exact ⟨by first | rfl | (simp [errW_none, errW_some] <;> rfl) | (simp only [← hji25]; first | rfl | (simp [errW_none, errW_some] <;> rfl)) | (simp [*, errW_none, errW_some] <;> rfl), by repeat (first | (with_reducible first | exact HB.out | apply below_alloc | apply pw_below_drewN | apply below_drew1) | exact HB.out)⟩
                                    · replace c52 := Bool.eq_false_iff.mpr c52
                                      subst c52
                                      have H1 : (if x11_3 = 122 then (some 0) else (if (rd x5_1 (ji25)) = 103 then (chanceryref3_BreakAt.j5 kj42 x10_27 (rd x5_1 (ji25)) t161 true) else (if t161 = 103 then (if (rd x5_1 (ji25)) = 115 then (if t161 = 99 then (chanceryref3_BreakAt.j5 kj42 x10_27 (rd x5_1 (ji25)) t161 true) else (chanceryref3_BreakAt.j5 kj42 x10_27 (rd x5_1 (ji25)) t161 (x11_3 == 111))) else (chanceryref3_BreakAt.j5 kj42 x10_27 (rd x5_1 (ji25)) t161 true)) else (if t161 = 99 then (chanceryref3_BreakAt.j5 kj42 x10_27 (rd x5_1 (ji25)) t161 true) else (chanceryref3_BreakAt.j5 kj42 x10_27 (rd x5_1 (ji25)) t161 (x11_3 == 111)))))) = some r := by rw [if_neg (show ¬ (false = true) by decide)] at H; exact H
                                      clear H
                                      have H := H1
                                      clear H1
                                      by_cases c53 : x11_3 = 122
                                      · rw [if_pos c53] at H
                                        have c53b0 : (x11_3 == 122) = true := beq_iff_eq.mpr c53
                                        have c53b1 : (x11_3 != 122) = false := bne_eq_false_iff_eq.mpr c53
                                        clear c53
                                        obtain rfl := Option.some.inj H
                                        go_wp2
                                        go_ret
                                        exact ⟨by first | rfl | (simp [errW_none, errW_some] <;> rfl) | (simp only [← hji25]; first | rfl | (simp [errW_none, errW_some] <;> rfl)) | (simp [*, errW_none, errW_some] <;> rfl), by repeat (first | (with_reducible first | exact HB.out | apply below_alloc | apply pw_below_drewN | apply below_drew1) | exact HB.out)⟩
                                      · rw [if_neg c53] at H
                                        have c53b0 : (x11_3 == 122) = false := beq_eq_false_iff_ne.mpr c53
                                        have c53b1 : (x11_3 != 122) = true := bne_iff_ne.mpr c53
                                        have HC54 := Aside0.mk H
                                        clear H
                                        go_upto_region 30 with (fail)
                                        go_cut [109] (fun v109 wc => ∃ (kq : Nat) (x109_53 : Bool), v109 = .bool x109_53 ∧ Aside0 (chanceryref3_BreakAt.j5 kq x10_27 (rd x5_1 (ji25)) t161 x109_53 = some r) ∧ Aside0 (kq ≤ kj42) ∧ Aside0 (Below w.heap.size w wc))
                                        case first => as_aux_lemma =>
                                          have H := HC54.out
                                          clear HC54
                                          by_cases c55 : (rd x5_1 (ji25)) = 103
                                          · rw [if_pos c55] at H
                                            have c55b0 : ((rd x5_1 (ji25)) == 103) = true := beq_iff_eq.mpr c55
                                            have c55b1 : ((rd x5_1 (ji25)) != 103) = false := bne_eq_false_iff_eq.mpr c55
                                            clear c55
                                            (first | rw [c55b0] | (simp only [i64_w, i32_w]; rw [c55b0]) | skip)
                                            have H' := Aside0.mk H
                                            clear H
                                            go_wp2
                                            go_meet
                                            case rel => exact ⟨_, (true), (by first | rfl | (simp; done) | (simp [*]; done)), H', ⟨by have := HK1.out; have := HJ27.out; have := HK3.out; have := HJ42.out; first | omega | exact Nat.le_refl _⟩, ⟨by repeat (first | (with_reducible first | exact HB.out | apply below_alloc | apply pw_below_drewN | apply below_drew1) | exact HB.out)⟩⟩
                                          · rw [if_neg c55] at H
                                            have c55b0 : ((rd x5_1 (ji25)) == 103) = false := beq_eq_false_iff_ne.mpr c55
                                            have c55b1 : ((rd x5_1 (ji25)) != 103) = true := bne_iff_ne.mpr c55
                                            (first | rw [c55b0] | (simp only [i64_w, i32_w]; rw [c55b0]) | skip)
                                            by_cases c56 : t161 = 103
                                            · rw [if_pos c56] at H
                                              have c56b0 : (t161 == 103) = true := beq_iff_eq.mpr c56
                                              have c56b1 : (t161 != 103) = false := bne_eq_false_iff_eq.mpr c56
                                              clear c56
                                              by_cases c57 : (rd x5_1 (ji25)) = 115
                                              · rw [if_pos c57] at H
                                                have c57b0 : ((rd x5_1 (ji25)) == 115) = true := beq_iff_eq.mpr c57
                                                have c57b1 : ((rd x5_1 (ji25)) != 115) = false := bne_eq_false_iff_eq.mpr c57
                                                clear c57
                                                by_cases c58 : t161 = 99
                                                · rw [if_pos c58] at H
                                                  have c58b0 : (t161 == 99) = true := beq_iff_eq.mpr c58
                                                  have c58b1 : (t161 != 99) = false := bne_eq_false_iff_eq.mpr c58
                                                  clear c58
                                                  have H' := Aside0.mk H
                                                  clear H
                                                  go_wp2
                                                  go_meet
                                                  case rel => exact ⟨_, (true), (by first | rfl | (simp; done) | (simp [*]; done)), H', ⟨by have := HK1.out; have := HJ27.out; have := HK3.out; have := HJ42.out; first | omega | exact Nat.le_refl _⟩, ⟨by repeat (first | (with_reducible first | exact HB.out | apply below_alloc | apply pw_below_drewN | apply below_drew1) | exact HB.out)⟩⟩
                                                · rw [if_neg c58] at H
                                                  have c58b0 : (t161 == 99) = false := beq_eq_false_iff_ne.mpr c58
                                                  have c58b1 : (t161 != 99) = true := bne_iff_ne.mpr c58
                                                  have H' := Aside0.mk H
                                                  clear H
                                                  go_wp2
                                                  go_meet
                                                  case rel => exact ⟨_, ((x11_3 == 111)), (by first | rfl | (simp; done) | (simp [*]; done)), H', ⟨by have := HK1.out; have := HJ27.out; have := HK3.out; have := HJ42.out; first | omega | exact Nat.le_refl _⟩, ⟨by repeat (first | (with_reducible first | exact HB.out | apply below_alloc | apply pw_below_drewN | apply below_drew1) | exact HB.out)⟩⟩
                                              · rw [if_neg c57] at H
                                                have c57b0 : ((rd x5_1 (ji25)) == 115) = false := beq_eq_false_iff_ne.mpr c57
                                                have c57b1 : ((rd x5_1 (ji25)) != 115) = true := bne_iff_ne.mpr c57
                                                have H' := Aside0.mk H
                                                clear H
                                                go_wp2
                                                go_meet
                                                case rel => exact ⟨_, (true), (by first | rfl | (simp; done) | (simp [*]; done)), H', ⟨by have := HK1.out; have := HJ27.out; have := HK3.out; have := HJ42.out; first | omega | exact Nat.le_refl _⟩, ⟨by repeat (first | (with_reducible first | exact HB.out | apply below_alloc | apply pw_below_drewN | apply below_drew1) | exact HB.out)⟩⟩
                                            · rw [if_neg c56] at H
                                              have c56b0 : (t161 == 103) = false := beq_eq_false_iff_ne.mpr c56
                                              have c56b1 : (t161 != 103) = true := bne_iff_ne.mpr c56
                                              by_cases c59 : t161 = 99
                                              · rw [if_pos c59] at H
                                                have c59b0 : (t161 == 99) = true := beq_iff_eq.mpr c59
                                                have c59b1 : (t161 != 99) = false := bne_eq_false_iff_eq.mpr c59
                                                clear c59
                                                have H' := Aside0.mk H
                                                clear H
                                                go_wp2
                                                go_meet
                                                case rel => exact ⟨_, (true), (by first | rfl | (simp; done) | (simp [*]; done)), H', ⟨by have := HK1.out; have := HJ27.out; have := HK3.out; have := HJ42.out; first | omega | exact Nat.le_refl _⟩, ⟨by repeat (first | (with_reducible first | exact HB.out | apply below_alloc | apply pw_below_drewN | apply below_drew1) | exact HB.out)⟩⟩
                                              · rw [if_neg c59] at H
                                                have c59b0 : (t161 == 99) = false := beq_eq_false_iff_ne.mpr c59
                                                have c59b1 : (t161 != 99) = true := bne_iff_ne.mpr c59
                                                have H' := Aside0.mk H
                                                clear H
                                                go_wp2
                                                go_meet
                                                case rel => exact ⟨_, ((x11_3 == 111)), (by first | rfl | (simp; done) | (simp [*]; done)), H', ⟨by have := HK1.out; have := HJ27.out; have := HK3.out; have := HJ42.out; first | omega | exact Nat.le_refl _⟩, ⟨by repeat (first | (with_reducible first | exact HB.out | apply below_alloc | apply pw_below_drewN | apply below_drew1) | exact HB.out)⟩⟩
                                        case rest => as_aux_lemma =>
                                          clear HC54
                                          try clear c1
                                          try clear p1
                                          try clear q1
                                          try clear hx1
                                          try clear c2
                                          try clear p2
                                          try clear c3
                                          try clear c3b0
                                          try clear c3b1
                                          try clear c4
                                          try clear c4b0
                                          try clear c4b1
                                          try clear c5
                                          try clear c6
                                          try clear c6b0
                                          try clear p6
                                          try clear c7
                                          try clear c7b0
                                          try clear c8
                                          try clear c8b0
                                          try clear c13
                                          try clear c13b0
                                          try clear c13b1
                                          try clear c14
                                          try clear c14b0
                                          try clear c14b1
                                          try clear c14b2
                                          try clear p14
                                          try clear q14
                                          try clear hx14
                                          try clear p15
                                          try clear q15
                                          try clear hx15
                                          try clear c16
                                          try clear c16b0
                                          try clear p16
                                          try clear q16
                                          try clear hx16
                                          try clear c17
                                          try clear c17b0
                                          try clear c18
                                          try clear c19
                                          try clear c19b0
                                          try clear c19b1
                                          try clear c20
                                          try clear c22
                                          try clear c22b0
                                          try clear c22b1
                                          try clear c23
                                          try clear c25
                                          try clear c26
                                          try clear c26b0
                                          try clear c27
                                          try clear c27b0
                                          try clear c30
                                          try clear c30b0
                                          try clear c30b1
                                          try clear c32
                                          try clear c32b0
                                          try clear c33
                                          try clear c33b0
                                          try clear c34
                                          try clear c34b0
                                          try clear c35
                                          try clear c35b0
                                          try clear c36
                                          try clear c36b0
                                          try clear c37
                                          try clear c37b0
                                          try clear c37b1
                                          try clear c38
                                          try clear c38b0
                                          try clear c39
                                          try clear c39b0
                                          try clear c41
                                          try clear c41b0
                                          try clear c41b1
                                          try clear c46
                                          try clear c46b0
                                          try clear c47
                                          try clear c47b0
                                          try clear c48
                                          try clear c48b0
                                          try clear c48b1
                                          try clear c49
                                          try clear c49b0
                                          try clear c49b1
                                          try clear c50
                                          try clear c50b0
                                          try clear c50b1
                                          try clear c51
                                          try clear c51b0
                                          try clear c51b1
                                          try clear c52
                                          try clear c53
                                          try clear c53b0
                                          try clear c53b1
                                          try clear c55
                                          try clear c55b0
                                          try clear c55b1
                                          try clear c56
                                          try clear c56b0
                                          try clear c56b1
                                          try clear c57
                                          try clear c57b0
                                          try clear c57b1
                                          try clear c58
                                          try clear c58b0
                                          try clear c58b1
                                          try clear c59
                                          try clear c59b0
                                          try clear c59b1
                                          try clear hx148_0
                                          try clear hx150_0
                                          try clear hx157_0
                                          try clear hx158_0
                                          try clear hx159_0
                                          try clear hx160_0
                                          try clear hx162_0
                                          try clear p1
                                          try clear p14
                                          try clear p148
                                          try clear p15
                                          try clear p150
                                          try clear p157
                                          try clear p158
                                          try clear p159
                                          try clear p16
                                          try clear p160
                                          try clear p162
                                          try clear p2
                                          try clear p6
                                          try clear q1
                                          try clear q14
                                          try clear q148
                                          try clear q15
                                          try clear q150
                                          try clear q157
                                          try clear q158
                                          try clear q159
                                          try clear q16
                                          try clear q160
                                          try clear q162
                                          obtain ⟨kq, x109_53, rfl, HA, HJ53, HB⟩ := hcut
                                          cases kq with
                                          | zero => exact absurd HA.out (by simp [chanceryref3_BreakAt.j5])
                                          | succ kj53 =>
                                            have H := HA.out
                                            clear HA
                                            simp only [chanceryref3_BreakAt.j5] at H
                                            by_cases c60 : x109_53 = true
                                            · subst c60
                                              have H1 : (some (-1)) = some r := by rw [if_pos rfl] at H; exact H
                                              clear H
                                              have H := H1
                                              clear H1
                                              obtain rfl := Option.some.inj H
                                              go_wp2
                                              go_ret
                                              exact ⟨by first | rfl | (simp [errW_none, errW_some] <;> rfl) | (simp only [← hji25]; first | rfl | (simp [errW_none, errW_some] <;> rfl)) | (simp [*, errW_none, errW_some] <;> rfl), by repeat (first | (with_reducible first | exact HB.out | apply below_alloc | apply pw_below_drewN | apply below_drew1) | exact HB.out)⟩
                                            · replace c60 := Bool.eq_false_iff.mpr c60
                                              subst c60
                                              have H1 : (if (rd x5_1 (ji25)) = 115 then (some 0) else (if (rd x5_1 (ji25)) = 45 then (some 1) else (if (rd x5_1 (ji25)) = 104 then (if t161 = 100 then (some (-1)) else (if x10_27 = 115 then (some (-1)) else (if x10_27 = 110 then (some (-1)) else (some 0)))) else (if (rd x5_1 (ji25)) = 119 then (some 0) else (if t161 = 119 then (some 0) else (some (-1))))))) = some r := by rw [if_neg (show ¬ (false = true) by decide)] at H; exact H
                                              clear H
                                              have H := H1
                                              clear H1
                                              by_cases c61 : (rd x5_1 (ji25)) = 115
                                              · rw [if_pos c61] at H
                                                have c61b0 : ((rd x5_1 (ji25)) == 115) = true := beq_iff_eq.mpr c61
                                                have c61b1 : ((rd x5_1 (ji25)) != 115) = false := bne_eq_false_iff_eq.mpr c61
                                                clear c61
                                                obtain rfl := Option.some.inj H
                                                go_wp2
                                                go_ret
                                                exact ⟨by first | rfl | (simp [errW_none, errW_some] <;> rfl) | (simp only [← hji25]; first | rfl | (simp [errW_none, errW_some] <;> rfl)) | (simp [*, errW_none, errW_some] <;> rfl), by repeat (first | (with_reducible first | exact HB.out | apply below_alloc | apply pw_below_drewN | apply below_drew1) | exact HB.out)⟩
                                              · rw [if_neg c61] at H
                                                have c61b0 : ((rd x5_1 (ji25)) == 115) = false := beq_eq_false_iff_ne.mpr c61
                                                have c61b1 : ((rd x5_1 (ji25)) != 115) = true := bne_iff_ne.mpr c61
                                                by_cases c62 : (rd x5_1 (ji25)) = 45
                                                · rw [if_pos c62] at H
                                                  have c62b0 : ((rd x5_1 (ji25)) == 45) = true := beq_iff_eq.mpr c62
                                                  have c62b1 : ((rd x5_1 (ji25)) != 45) = false := bne_eq_false_iff_eq.mpr c62
                                                  clear c62
                                                  obtain rfl := Option.some.inj H
                                                  go_wp2
                                                  go_ret
                                                  exact ⟨by first | rfl | (simp [errW_none, errW_some] <;> rfl) | (simp only [← hji25]; first | rfl | (simp [errW_none, errW_some] <;> rfl)) | (simp [*, errW_none, errW_some] <;> rfl), by repeat (first | (with_reducible first | exact HB.out | apply below_alloc | apply pw_below_drewN | apply below_drew1) | exact HB.out)⟩
                                                · rw [if_neg c62] at H
                                                  have c62b0 : ((rd x5_1 (ji25)) == 45) = false := beq_eq_false_iff_ne.mpr c62
                                                  have c62b1 : ((rd x5_1 (ji25)) != 45) = true := bne_iff_ne.mpr c62
                                                  by_cases c63 : (rd x5_1 (ji25)) = 104
                                                  · rw [if_pos c63] at H
                                                    have c63b0 : ((rd x5_1 (ji25)) == 104) = true := beq_iff_eq.mpr c63
                                                    have c63b1 : ((rd x5_1 (ji25)) != 104) = false := bne_eq_false_iff_eq.mpr c63
                                                    clear c63
                                                    by_cases c64 : t161 = 100
                                                    · rw [if_pos c64] at H
                                                      have c64b0 : (t161 == 100) = true := beq_iff_eq.mpr c64
                                                      have c64b1 : (t161 != 100) = false := bne_eq_false_iff_eq.mpr c64
                                                      clear c64
                                                      obtain rfl := Option.some.inj H
                                                      go_wp2
                                                      go_ret
                                                      exact ⟨by first | rfl | (simp [errW_none, errW_some] <;> rfl) | (simp only [← hji25]; first | rfl | (simp [errW_none, errW_some] <;> rfl)) | (simp [*, errW_none, errW_some] <;> rfl), by repeat (first | (with_reducible first | exact HB.out | apply below_alloc | apply pw_below_drewN | apply below_drew1) | exact HB.out)⟩
                                                    · rw [if_neg c64] at H
                                                      have c64b0 : (t161 == 100) = false := beq_eq_false_iff_ne.mpr c64
                                                      have c64b1 : (t161 != 100) = true := bne_iff_ne.mpr c64
                                                      by_cases c65 : x10_27 = 115
                                                      · rw [if_pos c65] at H
                                                        have c65b0 : (x10_27 == 115) = true := beq_iff_eq.mpr c65
                                                        have c65b1 : (x10_27 != 115) = false := bne_eq_false_iff_eq.mpr c65
                                                        clear c65
                                                        obtain rfl := Option.some.inj H
                                                        go_wp2
                                                        go_ret
                                                        exact ⟨by first | rfl | (simp [errW_none, errW_some] <;> rfl) | (simp only [← hji25]; first | rfl | (simp [errW_none, errW_some] <;> rfl)) | (simp [*, errW_none, errW_some] <;> rfl), by repeat (first | (with_reducible first | exact HB.out | apply below_alloc | apply pw_below_drewN | apply below_drew1) | exact HB.out)⟩
                                                      · rw [if_neg c65] at H
                                                        have c65b0 : (x10_27 == 115) = false := beq_eq_false_iff_ne.mpr c65
                                                        have c65b1 : (x10_27 != 115) = true := bne_iff_ne.mpr c65
                                                        by_cases c66 : x10_27 = 110
                                                        · rw [if_pos c66] at H
                                                          have c66b0 : (x10_27 == 110) = true := beq_iff_eq.mpr c66
                                                          have c66b1 : (x10_27 != 110) = false := bne_eq_false_iff_eq.mpr c66
                                                          clear c66
                                                          obtain rfl := Option.some.inj H
                                                          go_wp2
                                                          go_ret
                                                          exact ⟨by first | rfl | (simp [errW_none, errW_some] <;> rfl) | (simp only [← hji25]; first | rfl | (simp [errW_none, errW_some] <;> rfl)) | (simp [*, errW_none, errW_some] <;> rfl), by repeat (first | (with_reducible first | exact HB.out | apply below_alloc | apply pw_below_drewN | apply below_drew1) | exact HB.out)⟩
                                                        · rw [if_neg c66] at H
                                                          have c66b0 : (x10_27 == 110) = false := beq_eq_false_iff_ne.mpr c66
                                                          have c66b1 : (x10_27 != 110) = true := bne_iff_ne.mpr c66
                                                          obtain rfl := Option.some.inj H
                                                          go_wp2
                                                          go_ret
                                                          exact ⟨by first | rfl | (simp [errW_none, errW_some] <;> rfl) | (simp only [← hji25]; first | rfl | (simp [errW_none, errW_some] <;> rfl)) | (simp [*, errW_none, errW_some] <;> rfl), by repeat (first | (with_reducible first | exact HB.out | apply below_alloc | apply pw_below_drewN | apply below_drew1) | exact HB.out)⟩
                                                  · rw [if_neg c63] at H
                                                    have c63b0 : ((rd x5_1 (ji25)) == 104) = false := beq_eq_false_iff_ne.mpr c63
                                                    have c63b1 : ((rd x5_1 (ji25)) != 104) = true := bne_iff_ne.mpr c63
                                                    by_cases c67 : (rd x5_1 (ji25)) = 119
                                                    · rw [if_pos c67] at H
                                                      have c67b0 : ((rd x5_1 (ji25)) == 119) = true := beq_iff_eq.mpr c67
                                                      have c67b1 : ((rd x5_1 (ji25)) != 119) = false := bne_eq_false_iff_eq.mpr c67
                                                      clear c67
                                                      obtain rfl := Option.some.inj H
                                                      go_wp2
                                                      go_ret
                                                      exact ⟨by first | rfl | (simp [errW_none, errW_some] <;> rfl) | (simp only [← hji25]; first | rfl | (simp [errW_none, errW_some] <;> rfl)) | (simp [*, errW_none, errW_some] <;> rfl), by repeat (first | (with_reducible first | exact HB.out | apply below_alloc | apply pw_below_drewN | apply below_drew1) | exact HB.out)⟩
                                                    · rw [if_neg c67] at H
                                                      have c67b0 : ((rd x5_1 (ji25)) == 119) = false := beq_eq_false_iff_ne.mpr c67
                                                      have c67b1 : ((rd x5_1 (ji25)) != 119) = true := bne_iff_ne.mpr c67
                                                      by_cases c68 : t161 = 119
                                                      · rw [if_pos c68] at H
                                                        have c68b0 : (t161 == 119) = true := beq_iff_eq.mpr c68
                                                        have c68b1 : (t161 != 119) = false := bne_eq_false_iff_eq.mpr c68
                                                        clear c68
                                                        obtain rfl := Option.some.inj H
                                                        go_wp2
                                                        go_ret
                                                        exact ⟨by first | rfl | (simp [errW_none, errW_some] <;> rfl) | (simp only [← hji25]; first | rfl | (simp [errW_none, errW_some] <;> rfl)) | (simp [*, errW_none, errW_some] <;> rfl), by repeat (first | (with_reducible first | exact HB.out | apply below_alloc | apply pw_below_drewN | apply below_drew1) | exact HB.out)⟩
                                                      · rw [if_neg c68] at H
                                                        have c68b0 : (t161 == 119) = false := beq_eq_false_iff_ne.mpr c68
                                                        have c68b1 : (t161 != 119) = true := bne_iff_ne.mpr c68
                                                        obtain rfl := Option.some.inj H
                                                        go_wp2
                                                        go_ret
                                                        exact ⟨by first | rfl | (simp [errW_none, errW_some] <;> rfl) | (simp only [← hji25]; first | rfl | (simp [errW_none, errW_some] <;> rfl)) | (simp [*, errW_none, errW_some] <;> rfl), by repeat (first | (with_reducible first | exact HB.out | apply below_alloc | apply pw_below_drewN | apply below_drew1) | exact HB.out)⟩
                            · rw [if_neg c39] at H
                              exact absurd H (by simp)
                          · rw [if_neg c38] at H
                            exact absurd H (by simp)
              · rw [if_neg c27] at H
                exact absurd H (by simp)
            · rw [if_neg c26] at H
              exact absurd H (by simp)
    · rw [if_neg c4] at H
      exact absurd H (by simp)
  · rw [if_neg c3] at H
    exact absurd H (by simp)

end Go.Proofs.YtihmbddneapooaaDoor.QBR
