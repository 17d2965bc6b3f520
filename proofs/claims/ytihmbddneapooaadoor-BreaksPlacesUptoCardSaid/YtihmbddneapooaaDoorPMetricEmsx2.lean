-- PRINTED BY print.sh 35421559b90ae4d0a3588c463048766b98c2df88dd9212a6774a882060cdf62d: not written by this session
import Derived.Test.YtihmbddneapooaaDoorPMetricEmsx0
namespace Go.Proofs.YtihmbddneapooaaDoor.PMetricEms
open Go.RowKit Go.Proofs.YtihmbddneapooaaDoorW.PrintWords Go.Proofs.YtihmbddneapooaaDoorW.PrintLast Go.Proofs.YtihmbddneapooaaDoorW.PrintMore
attribute [local go_sem] max2_int min2_int max_two min_two max_three min_three max_four min_four   -- for this text's walks alone
set_option linter.unusedVariables false
set_option linter.unusedSimpArgs false

/-! ### metric_single: function 28 -/
mutual
def metric_single.j0 : Nat → Int → Bool → Option (Int × Bool)
  | 0, _, _ => none
  | k + 1, x4, x7 => if x7 = true then (some (280, true)) else (if x4 = 73 then (metric_single.j1 k x4 (x4 == 73)) else (if x4 = 102 then (metric_single.j1 k x4 (x4 == 102)) else (if x4 = 114 then (metric_single.j1 k x4 (x4 == 114)) else (if x4 = 116 then (metric_single.j1 k x4 (x4 == 116)) else (if x4 = 40 then (metric_single.j1 k x4 (x4 == 40)) else (if x4 = 41 then (metric_single.j1 k x4 (x4 == 41)) else (if x4 = 91 then (metric_single.j1 k x4 (x4 == 91)) else (if x4 = 93 then (metric_single.j1 k x4 (x4 == 93)) else (metric_single.j1 k x4 (x4 == 45))))))))))
def metric_single.j1 : Nat → Int → Bool → Option (Int × Bool)
  | 0, _, _ => none
  | k + 1, x4, x18 => if x18 = true then (some (330, true)) else (if x4 = 109 then (metric_single.j2 k x4 (x4 == 109)) else (metric_single.j2 k x4 (x4 == 119)))
def metric_single.j2 : Nat → Int → Bool → Option (Int × Bool)
  | 0, _, _ => none
  | k + 1, x4, x28 => if x28 = true then (some (760, true)) else (if x4 = 77 then (some (880, true)) else (if x4 = 87 then (some (880, true)) else (some (0, false))))
end
def metric_single.f (k : Nat) (a0 : Int) : Option (Int × Bool) := if a0 = 32 then (some (250, true)) else (if a0 = 105 then (metric_single.j0 k a0 (a0 == 105)) else (if a0 = 106 then (metric_single.j0 k a0 (a0 == 106)) else (if a0 = 108 then (metric_single.j0 k a0 (a0 == 108)) else (if a0 = 33 then (metric_single.j0 k a0 (a0 == 33)) else (if a0 = 39 then (metric_single.j0 k a0 (a0 == 39)) else (if a0 = 44 then (metric_single.j0 k a0 (a0 == 44)) else (if a0 = 46 then (metric_single.j0 k a0 (a0 == 46)) else (if a0 = 58 then (metric_single.j0 k a0 (a0 == 58)) else (if a0 = 59 then (metric_single.j0 k a0 (a0 == 59)) else (metric_single.j0 k a0 (a0 == 124)))))))))))
theorem metric_single.mono_l : ∀ k, (∀ y0 y1, LeO (metric_single.j0 k y0 y1) (metric_single.j0 (k + 1) y0 y1)) ∧ (∀ y0 y1, LeO (metric_single.j1 k y0 y1) (metric_single.j1 (k + 1) y0 y1)) ∧ (∀ y0 y1, LeO (metric_single.j2 k y0 y1) (metric_single.j2 (k + 1) y0 y1))
  | 0 => ⟨fun _ _ r h => by simp [metric_single.j0] at h, fun _ _ r h => by simp [metric_single.j1] at h, fun _ _ r h => by simp [metric_single.j2] at h⟩
  | k + 1 => by
    obtain ⟨ih0, ih1, ih2⟩ := metric_single.mono_l k
    refine ⟨?_, ?_, ?_⟩
    · intro y0 y1
      unfold metric_single.j0
      repeat' first
      | (with_reducible exact ih0 _ _)
      | (with_reducible exact ih1 _ _)
      | (with_reducible exact ih2 _ _)
      | (with_reducible exact LeO.refl _)
      | (with_reducible exact LeO.none _)
      | (with_reducible refine LeO.ite ?_ ?_)
      | (with_reducible refine LeO.bind ?_ (fun _ => ?_))
      | exact ih0 _ _
      | exact ih1 _ _
      | exact ih2 _ _
      | exact LeO.none _
      | refine LeO.ite ?_ ?_
      | refine LeO.bind ?_ (fun _ => ?_)
    · intro y0 y1
      unfold metric_single.j1
      repeat' first
      | (with_reducible exact ih0 _ _)
      | (with_reducible exact ih1 _ _)
      | (with_reducible exact ih2 _ _)
      | (with_reducible exact LeO.refl _)
      | (with_reducible exact LeO.none _)
      | (with_reducible refine LeO.ite ?_ ?_)
      | (with_reducible refine LeO.bind ?_ (fun _ => ?_))
      | exact ih0 _ _
      | exact ih1 _ _
      | exact ih2 _ _
      | exact LeO.none _
      | refine LeO.ite ?_ ?_
      | refine LeO.bind ?_ (fun _ => ?_)
    · intro y0 y1
      unfold metric_single.j2
      repeat' first
      | (with_reducible exact ih0 _ _)
      | (with_reducible exact ih1 _ _)
      | (with_reducible exact ih2 _ _)
      | (with_reducible exact LeO.refl _)
      | (with_reducible exact LeO.none _)
      | (with_reducible refine LeO.ite ?_ ?_)
      | (with_reducible refine LeO.bind ?_ (fun _ => ?_))
      | exact ih0 _ _
      | exact ih1 _ _
      | exact ih2 _ _
      | exact LeO.none _
      | refine LeO.ite ?_ ?_
      | refine LeO.bind ?_ (fun _ => ?_)
theorem metric_single.mono : ∀ a0 k, LeO (metric_single.f k a0) (metric_single.f (k + 1) a0) := by
  intro a0 k
  obtain ⟨ih0, ih1, ih2⟩ := metric_single.mono_l k
  unfold metric_single.f
  repeat' first
      | (with_reducible exact ih0 _ _)
      | (with_reducible exact ih1 _ _)
      | (with_reducible exact ih2 _ _)
      | (with_reducible exact LeO.refl _)
      | (with_reducible exact LeO.none _)
      | (with_reducible refine LeO.ite ?_ ?_)
      | (with_reducible refine LeO.bind ?_ (fun _ => ?_))
      | exact ih0 _ _
      | exact ih1 _ _
      | exact ih2 _ _
      | exact LeO.none _
      | refine LeO.ite ?_ ?_
      | refine LeO.bind ?_ (fun _ => ?_)
set_option maxHeartbeats 8000000 in
set_option maxRecDepth 100000 in
theorem metric_single.calls (k : Nat) (a0 : Int) (r1 : Int) (r2 : Bool) (w : World) (h : metric_single.f k a0 = some (r1, r2)) :
    Calls Tryd.prog 28 #[.int .i64 a0] w fun e w' => e = .returned (.tuple #[.int .i64 r1, .bool r2]) ∧ Drawn0 w w' := by
  have H : (if a0 = 32 then (some (250, true)) else (if a0 = 105 then (metric_single.j0 k a0 (a0 == 105)) else (if a0 = 106 then (metric_single.j0 k a0 (a0 == 106)) else (if a0 = 108 then (metric_single.j0 k a0 (a0 == 108)) else (if a0 = 33 then (metric_single.j0 k a0 (a0 == 33)) else (if a0 = 39 then (metric_single.j0 k a0 (a0 == 39)) else (if a0 = 44 then (metric_single.j0 k a0 (a0 == 44)) else (if a0 = 46 then (metric_single.j0 k a0 (a0 == 46)) else (if a0 = 58 then (metric_single.j0 k a0 (a0 == 58)) else (if a0 = 59 then (metric_single.j0 k a0 (a0 == 59)) else (metric_single.j0 k a0 (a0 == 124)))))))))))) = some (r1, r2) := h
  clear h
  by_cases c2 : a0 = 32
  · rw [if_pos c2] at H
    have c2b0 : (a0 == 32) = true := beq_iff_eq.mpr c2
    have c2b1 : (a0 != 32) = false := bne_eq_false_iff_eq.mpr c2
    clear c2
    simp only [Option.some.injEq, Prod.mk.injEq] at H
    obtain ⟨rfl, rfl⟩ := H
    go_enter Tryd.func28, Tryd.ntmps28
    go_wp2
    go_ret2
    exact ⟨by first | rfl | (simp; done) | (simp [*]; done), by repeat (first | exact Drawn0.refl _ | apply Drawn0.step)⟩
  · rw [if_neg c2] at H
    have c2b0 : (a0 == 32) = false := beq_eq_false_iff_ne.mpr c2
    have c2b1 : (a0 != 32) = true := bne_iff_ne.mpr c2
    have HC3 := Aside0.mk H
    clear H
    go_enter Tryd.func28, Tryd.ntmps28
    go_upto_if 7 with (fail)
    go_cut [7] (fun v7 wc => ∃ (kq : Nat) (x7_2 : Bool), v7 = .bool x7_2 ∧ Aside0 (metric_single.j0 kq a0 x7_2 = some (r1, r2)) ∧ Aside0 (kq ≤ k) ∧ Drawn0 w wc)
    case first =>
      have H := HC3.out
      clear HC3
      by_cases c4 : a0 = 105
      · rw [if_pos c4] at H
        have c4b0 : (a0 == 105) = true := beq_iff_eq.mpr c4
        have c4b1 : (a0 != 105) = false := bne_eq_false_iff_eq.mpr c4
        clear c4
        (first | rw [c4b0] | (simp only [i64_w, i32_w]; rw [c4b0]) | skip)
        have H' := Aside0.mk H
        clear H
        go_wp2
        go_meet
        case rel => exact ⟨_, ((a0 == 105)), (by first | rfl | (simp; done) | (simp [*]; done)), H', ⟨by first | omega | exact Nat.le_refl _⟩, by repeat (first | exact Drawn0.refl _ | apply Drawn0.step)⟩
      · rw [if_neg c4] at H
        have c4b0 : (a0 == 105) = false := beq_eq_false_iff_ne.mpr c4
        have c4b1 : (a0 != 105) = true := bne_iff_ne.mpr c4
        (first | rw [c4b0] | (simp only [i64_w, i32_w]; rw [c4b0]) | skip)
        by_cases c5 : a0 = 106
        · rw [if_pos c5] at H
          have c5b0 : (a0 == 106) = true := beq_iff_eq.mpr c5
          have c5b1 : (a0 != 106) = false := bne_eq_false_iff_eq.mpr c5
          clear c5
          have H' := Aside0.mk H
          clear H
          go_wp2
          go_meet
          case rel => exact ⟨_, ((a0 == 106)), (by first | rfl | (simp; done) | (simp [*]; done)), H', ⟨by first | omega | exact Nat.le_refl _⟩, by repeat (first | exact Drawn0.refl _ | apply Drawn0.step)⟩
        · rw [if_neg c5] at H
          have c5b0 : (a0 == 106) = false := beq_eq_false_iff_ne.mpr c5
          have c5b1 : (a0 != 106) = true := bne_iff_ne.mpr c5
          by_cases c6 : a0 = 108
          · rw [if_pos c6] at H
            have c6b0 : (a0 == 108) = true := beq_iff_eq.mpr c6
            have c6b1 : (a0 != 108) = false := bne_eq_false_iff_eq.mpr c6
            clear c6
            have H' := Aside0.mk H
            clear H
            go_wp2
            go_meet
            case rel => exact ⟨_, ((a0 == 108)), (by first | rfl | (simp; done) | (simp [*]; done)), H', ⟨by first | omega | exact Nat.le_refl _⟩, by repeat (first | exact Drawn0.refl _ | apply Drawn0.step)⟩
          · rw [if_neg c6] at H
            have c6b0 : (a0 == 108) = false := beq_eq_false_iff_ne.mpr c6
            have c6b1 : (a0 != 108) = true := bne_iff_ne.mpr c6
            by_cases c7 : a0 = 33
            · rw [if_pos c7] at H
              have c7b0 : (a0 == 33) = true := beq_iff_eq.mpr c7
              have c7b1 : (a0 != 33) = false := bne_eq_false_iff_eq.mpr c7
              clear c7
              have H' := Aside0.mk H
              clear H
              go_wp2
              go_meet
              case rel => exact ⟨_, ((a0 == 33)), (by first | rfl | (simp; done) | (simp [*]; done)), H', ⟨by first | omega | exact Nat.le_refl _⟩, by repeat (first | exact Drawn0.refl _ | apply Drawn0.step)⟩
            · rw [if_neg c7] at H
              have c7b0 : (a0 == 33) = false := beq_eq_false_iff_ne.mpr c7
              have c7b1 : (a0 != 33) = true := bne_iff_ne.mpr c7
              by_cases c8 : a0 = 39
              · rw [if_pos c8] at H
                have c8b0 : (a0 == 39) = true := beq_iff_eq.mpr c8
                have c8b1 : (a0 != 39) = false := bne_eq_false_iff_eq.mpr c8
                clear c8
                have H' := Aside0.mk H
                clear H
                go_wp2
                go_meet
                case rel => exact ⟨_, ((a0 == 39)), (by first | rfl | (simp; done) | (simp [*]; done)), H', ⟨by first | omega | exact Nat.le_refl _⟩, by repeat (first | exact Drawn0.refl _ | apply Drawn0.step)⟩
              · rw [if_neg c8] at H
                have c8b0 : (a0 == 39) = false := beq_eq_false_iff_ne.mpr c8
                have c8b1 : (a0 != 39) = true := bne_iff_ne.mpr c8
                by_cases c9 : a0 = 44
                · rw [if_pos c9] at H
                  have c9b0 : (a0 == 44) = true := beq_iff_eq.mpr c9
                  have c9b1 : (a0 != 44) = false := bne_eq_false_iff_eq.mpr c9
                  clear c9
                  have H' := Aside0.mk H
                  clear H
                  go_wp2
                  go_meet
                  case rel => exact ⟨_, ((a0 == 44)), (by first | rfl | (simp; done) | (simp [*]; done)), H', ⟨by first | omega | exact Nat.le_refl _⟩, by repeat (first | exact Drawn0.refl _ | apply Drawn0.step)⟩
                · rw [if_neg c9] at H
                  have c9b0 : (a0 == 44) = false := beq_eq_false_iff_ne.mpr c9
                  have c9b1 : (a0 != 44) = true := bne_iff_ne.mpr c9
                  by_cases c10 : a0 = 46
                  · rw [if_pos c10] at H
                    have c10b0 : (a0 == 46) = true := beq_iff_eq.mpr c10
                    have c10b1 : (a0 != 46) = false := bne_eq_false_iff_eq.mpr c10
                    clear c10
                    have H' := Aside0.mk H
                    clear H
                    go_wp2
                    go_meet
                    case rel => exact ⟨_, ((a0 == 46)), (by first | rfl | (simp; done) | (simp [*]; done)), H', ⟨by first | omega | exact Nat.le_refl _⟩, by repeat (first | exact Drawn0.refl _ | apply Drawn0.step)⟩
                  · rw [if_neg c10] at H
                    have c10b0 : (a0 == 46) = false := beq_eq_false_iff_ne.mpr c10
                    have c10b1 : (a0 != 46) = true := bne_iff_ne.mpr c10
                    by_cases c11 : a0 = 58
                    · rw [if_pos c11] at H
                      have c11b0 : (a0 == 58) = true := beq_iff_eq.mpr c11
                      have c11b1 : (a0 != 58) = false := bne_eq_false_iff_eq.mpr c11
                      clear c11
                      have H' := Aside0.mk H
                      clear H
                      go_wp2
                      go_meet
                      case rel => exact ⟨_, ((a0 == 58)), (by first | rfl | (simp; done) | (simp [*]; done)), H', ⟨by first | omega | exact Nat.le_refl _⟩, by repeat (first | exact Drawn0.refl _ | apply Drawn0.step)⟩
                    · rw [if_neg c11] at H
                      have c11b0 : (a0 == 58) = false := beq_eq_false_iff_ne.mpr c11
                      have c11b1 : (a0 != 58) = true := bne_iff_ne.mpr c11
                      by_cases c12 : a0 = 59
                      · rw [if_pos c12] at H
                        have c12b0 : (a0 == 59) = true := beq_iff_eq.mpr c12
                        have c12b1 : (a0 != 59) = false := bne_eq_false_iff_eq.mpr c12
                        clear c12
                        have H' := Aside0.mk H
                        clear H
                        go_wp2
                        go_meet
                        case rel => exact ⟨_, ((a0 == 59)), (by first | rfl | (simp; done) | (simp [*]; done)), H', ⟨by first | omega | exact Nat.le_refl _⟩, by repeat (first | exact Drawn0.refl _ | apply Drawn0.step)⟩
                      · rw [if_neg c12] at H
                        have c12b0 : (a0 == 59) = false := beq_eq_false_iff_ne.mpr c12
                        have c12b1 : (a0 != 59) = true := bne_iff_ne.mpr c12
                        have H' := Aside0.mk H
                        clear H
                        go_wp2
                        go_meet
                        case rel => exact ⟨_, ((a0 == 124)), (by first | rfl | (simp; done) | (simp [*]; done)), H', ⟨by first | omega | exact Nat.le_refl _⟩, by repeat (first | exact Drawn0.refl _ | apply Drawn0.step)⟩
    case rest =>
      clear HC3
      try clear c1
      try clear c2
      try clear c2b0
      try clear c2b1
      try clear p2
      try clear c4
      try clear c4b0
      try clear c4b1
      try clear c5
      try clear c5b0
      try clear c5b1
      try clear c6
      try clear c6b0
      try clear c6b1
      try clear c7
      try clear c7b0
      try clear c7b1
      try clear c8
      try clear c8b0
      try clear c8b1
      try clear c9
      try clear c9b0
      try clear c9b1
      try clear c10
      try clear c10b0
      try clear c10b1
      try clear c11
      try clear c11b0
      try clear c11b1
      try clear c12
      try clear c12b0
      try clear c12b1
      obtain ⟨kq, x7_2, rfl, HA, HJ2, ⟨mc2, rfl⟩⟩ := hcut
      cases kq with
      | zero => exact absurd HA.out (by simp [metric_single.j0])
      | succ kj2 =>
        have H := HA.out
        clear HA
        simp only [metric_single.j0] at H
        by_cases c13 : x7_2 = true
        · subst c13
          have H1 : (some (280, true)) = some (r1, r2) := by rw [if_pos rfl] at H; exact H
          clear H
          have H := H1
          clear H1
          simp only [Option.some.injEq, Prod.mk.injEq] at H
          obtain ⟨rfl, rfl⟩ := H
          go_wp2
          go_ret2
          exact ⟨by first | rfl | (simp; done) | (simp [*]; done), by repeat (first | exact Drawn0.refl _ | apply Drawn0.step)⟩
        · replace c13 := Bool.eq_false_iff.mpr c13
          subst c13
          have H1 : (if a0 = 73 then (metric_single.j1 kj2 a0 (a0 == 73)) else (if a0 = 102 then (metric_single.j1 kj2 a0 (a0 == 102)) else (if a0 = 114 then (metric_single.j1 kj2 a0 (a0 == 114)) else (if a0 = 116 then (metric_single.j1 kj2 a0 (a0 == 116)) else (if a0 = 40 then (metric_single.j1 kj2 a0 (a0 == 40)) else (if a0 = 41 then (metric_single.j1 kj2 a0 (a0 == 41)) else (if a0 = 91 then (metric_single.j1 kj2 a0 (a0 == 91)) else (if a0 = 93 then (metric_single.j1 kj2 a0 (a0 == 93)) else (metric_single.j1 kj2 a0 (a0 == 45)))))))))) = some (r1, r2) := by rw [if_neg (show ¬ (false = true) by decide)] at H; exact H
          clear H
          have H := H1
          clear H1
          have HC14 := Aside0.mk H
          clear H
          go_upto_if 18 with (fail)
          go_cut [18] (fun v18 wc => ∃ (kq : Nat) (x18_13 : Bool), v18 = .bool x18_13 ∧ Aside0 (metric_single.j1 kq a0 x18_13 = some (r1, r2)) ∧ Aside0 (kq ≤ kj2) ∧ Drawn0 w wc)
          case first =>
            have H := HC14.out
            clear HC14
            by_cases c15 : a0 = 73
            · rw [if_pos c15] at H
              have c15b0 : (a0 == 73) = true := beq_iff_eq.mpr c15
              have c15b1 : (a0 != 73) = false := bne_eq_false_iff_eq.mpr c15
              clear c15
              (first | rw [c15b0] | (simp only [i64_w, i32_w]; rw [c15b0]) | skip)
              have H' := Aside0.mk H
              clear H
              go_wp2
              go_meet
              case rel => exact ⟨_, ((a0 == 73)), (by first | rfl | (simp; done) | (simp [*]; done)), H', ⟨by have := HJ2.out; first | omega | exact Nat.le_refl _⟩, by repeat (first | exact Drawn0.refl _ | apply Drawn0.step)⟩
            · rw [if_neg c15] at H
              have c15b0 : (a0 == 73) = false := beq_eq_false_iff_ne.mpr c15
              have c15b1 : (a0 != 73) = true := bne_iff_ne.mpr c15
              (first | rw [c15b0] | (simp only [i64_w, i32_w]; rw [c15b0]) | skip)
              by_cases c16 : a0 = 102
              · rw [if_pos c16] at H
                have c16b0 : (a0 == 102) = true := beq_iff_eq.mpr c16
                have c16b1 : (a0 != 102) = false := bne_eq_false_iff_eq.mpr c16
                clear c16
                have H' := Aside0.mk H
                clear H
                go_wp2
                go_meet
                case rel => exact ⟨_, ((a0 == 102)), (by first | rfl | (simp; done) | (simp [*]; done)), H', ⟨by have := HJ2.out; first | omega | exact Nat.le_refl _⟩, by repeat (first | exact Drawn0.refl _ | apply Drawn0.step)⟩
              · rw [if_neg c16] at H
                have c16b0 : (a0 == 102) = false := beq_eq_false_iff_ne.mpr c16
                have c16b1 : (a0 != 102) = true := bne_iff_ne.mpr c16
                by_cases c17 : a0 = 114
                · rw [if_pos c17] at H
                  have c17b0 : (a0 == 114) = true := beq_iff_eq.mpr c17
                  have c17b1 : (a0 != 114) = false := bne_eq_false_iff_eq.mpr c17
                  clear c17
                  have H' := Aside0.mk H
                  clear H
                  go_wp2
                  go_meet
                  case rel => exact ⟨_, ((a0 == 114)), (by first | rfl | (simp; done) | (simp [*]; done)), H', ⟨by have := HJ2.out; first | omega | exact Nat.le_refl _⟩, by repeat (first | exact Drawn0.refl _ | apply Drawn0.step)⟩
                · rw [if_neg c17] at H
                  have c17b0 : (a0 == 114) = false := beq_eq_false_iff_ne.mpr c17
                  have c17b1 : (a0 != 114) = true := bne_iff_ne.mpr c17
                  by_cases c18 : a0 = 116
                  · rw [if_pos c18] at H
                    have c18b0 : (a0 == 116) = true := beq_iff_eq.mpr c18
                    have c18b1 : (a0 != 116) = false := bne_eq_false_iff_eq.mpr c18
                    clear c18
                    have H' := Aside0.mk H
                    clear H
                    go_wp2
                    go_meet
                    case rel => exact ⟨_, ((a0 == 116)), (by first | rfl | (simp; done) | (simp [*]; done)), H', ⟨by have := HJ2.out; first | omega | exact Nat.le_refl _⟩, by repeat (first | exact Drawn0.refl _ | apply Drawn0.step)⟩
                  · rw [if_neg c18] at H
                    have c18b0 : (a0 == 116) = false := beq_eq_false_iff_ne.mpr c18
                    have c18b1 : (a0 != 116) = true := bne_iff_ne.mpr c18
                    by_cases c19 : a0 = 40
                    · rw [if_pos c19] at H
                      have c19b0 : (a0 == 40) = true := beq_iff_eq.mpr c19
                      have c19b1 : (a0 != 40) = false := bne_eq_false_iff_eq.mpr c19
                      clear c19
                      have H' := Aside0.mk H
                      clear H
                      go_wp2
                      go_meet
                      case rel => exact ⟨_, ((a0 == 40)), (by first | rfl | (simp; done) | (simp [*]; done)), H', ⟨by have := HJ2.out; first | omega | exact Nat.le_refl _⟩, by repeat (first | exact Drawn0.refl _ | apply Drawn0.step)⟩
                    · rw [if_neg c19] at H
                      have c19b0 : (a0 == 40) = false := beq_eq_false_iff_ne.mpr c19
                      have c19b1 : (a0 != 40) = true := bne_iff_ne.mpr c19
                      by_cases c20 : a0 = 41
                      · rw [if_pos c20] at H
                        have c20b0 : (a0 == 41) = true := beq_iff_eq.mpr c20
                        have c20b1 : (a0 != 41) = false := bne_eq_false_iff_eq.mpr c20
                        clear c20
                        have H' := Aside0.mk H
                        clear H
                        go_wp2
                        go_meet
                        case rel => exact ⟨_, ((a0 == 41)), (by first | rfl | (simp; done) | (simp [*]; done)), H', ⟨by have := HJ2.out; first | omega | exact Nat.le_refl _⟩, by repeat (first | exact Drawn0.refl _ | apply Drawn0.step)⟩
                      · rw [if_neg c20] at H
                        have c20b0 : (a0 == 41) = false := beq_eq_false_iff_ne.mpr c20
                        have c20b1 : (a0 != 41) = true := bne_iff_ne.mpr c20
                        by_cases c21 : a0 = 91
                        · rw [if_pos c21] at H
                          have c21b0 : (a0 == 91) = true := beq_iff_eq.mpr c21
                          have c21b1 : (a0 != 91) = false := bne_eq_false_iff_eq.mpr c21
                          clear c21
                          have H' := Aside0.mk H
                          clear H
                          go_wp2
                          go_meet
                          case rel => exact ⟨_, ((a0 == 91)), (by first | rfl | (simp; done) | (simp [*]; done)), H', ⟨by have := HJ2.out; first | omega | exact Nat.le_refl _⟩, by repeat (first | exact Drawn0.refl _ | apply Drawn0.step)⟩
                        · rw [if_neg c21] at H
                          have c21b0 : (a0 == 91) = false := beq_eq_false_iff_ne.mpr c21
                          have c21b1 : (a0 != 91) = true := bne_iff_ne.mpr c21
                          by_cases c22 : a0 = 93
                          · rw [if_pos c22] at H
                            have c22b0 : (a0 == 93) = true := beq_iff_eq.mpr c22
                            have c22b1 : (a0 != 93) = false := bne_eq_false_iff_eq.mpr c22
                            clear c22
                            have H' := Aside0.mk H
                            clear H
                            go_wp2
                            go_meet
                            case rel => exact ⟨_, ((a0 == 93)), (by first | rfl | (simp; done) | (simp [*]; done)), H', ⟨by have := HJ2.out; first | omega | exact Nat.le_refl _⟩, by repeat (first | exact Drawn0.refl _ | apply Drawn0.step)⟩
                          · rw [if_neg c22] at H
                            have c22b0 : (a0 == 93) = false := beq_eq_false_iff_ne.mpr c22
                            have c22b1 : (a0 != 93) = true := bne_iff_ne.mpr c22
                            have H' := Aside0.mk H
                            clear H
                            go_wp2
                            go_meet
                            case rel => exact ⟨_, ((a0 == 45)), (by first | rfl | (simp; done) | (simp [*]; done)), H', ⟨by have := HJ2.out; first | omega | exact Nat.le_refl _⟩, by repeat (first | exact Drawn0.refl _ | apply Drawn0.step)⟩
          case rest =>
            clear HC14
            try clear c1
            try clear c2
            try clear c2b0
            try clear c2b1
            try clear p2
            try clear c4
            try clear c4b0
            try clear c4b1
            try clear c5
            try clear c5b0
            try clear c5b1
            try clear c6
            try clear c6b0
            try clear c6b1
            try clear c7
            try clear c7b0
            try clear c7b1
            try clear c8
            try clear c8b0
            try clear c8b1
            try clear c9
            try clear c9b0
            try clear c9b1
            try clear c10
            try clear c10b0
            try clear c10b1
            try clear c11
            try clear c11b0
            try clear c11b1
            try clear c12
            try clear c12b0
            try clear c12b1
            try clear c13
            try clear c15
            try clear c15b0
            try clear c15b1
            try clear c16
            try clear c16b0
            try clear c16b1
            try clear c17
            try clear c17b0
            try clear c17b1
            try clear c18
            try clear c18b0
            try clear c18b1
            try clear c19
            try clear c19b0
            try clear c19b1
            try clear c20
            try clear c20b0
            try clear c20b1
            try clear c21
            try clear c21b0
            try clear c21b1
            try clear c22
            try clear c22b0
            try clear c22b1
            try clear p2
            obtain ⟨kq, x18_13, rfl, HA, HJ13, ⟨mc13, rfl⟩⟩ := hcut
            cases kq with
            | zero => exact absurd HA.out (by simp [metric_single.j1])
            | succ kj13 =>
              have H := HA.out
              clear HA
              simp only [metric_single.j1] at H
              by_cases c23 : x18_13 = true
              · subst c23
                have H1 : (some (330, true)) = some (r1, r2) := by rw [if_pos rfl] at H; exact H
                clear H
                have H := H1
                clear H1
                simp only [Option.some.injEq, Prod.mk.injEq] at H
                obtain ⟨rfl, rfl⟩ := H
                go_wp2
                go_ret2
                exact ⟨by first | rfl | (simp; done) | (simp [*]; done), by repeat (first | exact Drawn0.refl _ | apply Drawn0.step)⟩
              · replace c23 := Bool.eq_false_iff.mpr c23
                subst c23
                have H1 : (if a0 = 109 then (metric_single.j2 kj13 a0 (a0 == 109)) else (metric_single.j2 kj13 a0 (a0 == 119))) = some (r1, r2) := by rw [if_neg (show ¬ (false = true) by decide)] at H; exact H
                clear H
                have H := H1
                clear H1
                have HC24 := Aside0.mk H
                clear H
                go_upto_if 28 with (fail)
                go_cut [28] (fun v28 wc => ∃ (kq : Nat) (x28_23 : Bool), v28 = .bool x28_23 ∧ Aside0 (metric_single.j2 kq a0 x28_23 = some (r1, r2)) ∧ Aside0 (kq ≤ kj13) ∧ Drawn0 w wc)
                case first =>
                  have H := HC24.out
                  clear HC24
                  by_cases c25 : a0 = 109
                  · rw [if_pos c25] at H
                    have c25b0 : (a0 == 109) = true := beq_iff_eq.mpr c25
                    have c25b1 : (a0 != 109) = false := bne_eq_false_iff_eq.mpr c25
                    clear c25
                    (first | rw [c25b0] | (simp only [i64_w, i32_w]; rw [c25b0]) | skip)
                    have H' := Aside0.mk H
                    clear H
                    go_wp2
                    go_meet
                    case rel => exact ⟨_, ((a0 == 109)), (by first | rfl | (simp; done) | (simp [*]; done)), H', ⟨by have := HJ2.out; have := HJ13.out; first | omega | exact Nat.le_refl _⟩, by repeat (first | exact Drawn0.refl _ | apply Drawn0.step)⟩
                  · rw [if_neg c25] at H
                    have c25b0 : (a0 == 109) = false := beq_eq_false_iff_ne.mpr c25
                    have c25b1 : (a0 != 109) = true := bne_iff_ne.mpr c25
                    (first | rw [c25b0] | (simp only [i64_w, i32_w]; rw [c25b0]) | skip)
                    have H' := Aside0.mk H
                    clear H
                    go_wp2
                    go_meet
                    case rel => exact ⟨_, ((a0 == 119)), (by first | rfl | (simp; done) | (simp [*]; done)), H', ⟨by have := HJ2.out; have := HJ13.out; first | omega | exact Nat.le_refl _⟩, by repeat (first | exact Drawn0.refl _ | apply Drawn0.step)⟩
                case rest =>
                  clear HC24
                  try clear c1
                  try clear c2
                  try clear c2b0
                  try clear c2b1
                  try clear p2
                  try clear c4
                  try clear c4b0
                  try clear c4b1
                  try clear c5
                  try clear c5b0
                  try clear c5b1
                  try clear c6
                  try clear c6b0
                  try clear c6b1
                  try clear c7
                  try clear c7b0
                  try clear c7b1
                  try clear c8
                  try clear c8b0
                  try clear c8b1
                  try clear c9
                  try clear c9b0
                  try clear c9b1
                  try clear c10
                  try clear c10b0
                  try clear c10b1
                  try clear c11
                  try clear c11b0
                  try clear c11b1
                  try clear c12
                  try clear c12b0
                  try clear c12b1
                  try clear c13
                  try clear c15
                  try clear c15b0
                  try clear c15b1
                  try clear c16
                  try clear c16b0
                  try clear c16b1
                  try clear c17
                  try clear c17b0
                  try clear c17b1
                  try clear c18
                  try clear c18b0
                  try clear c18b1
                  try clear c19
                  try clear c19b0
                  try clear c19b1
                  try clear c20
                  try clear c20b0
                  try clear c20b1
                  try clear c21
                  try clear c21b0
                  try clear c21b1
                  try clear c22
                  try clear c22b0
                  try clear c22b1
                  try clear c23
                  try clear c25
                  try clear c25b0
                  try clear c25b1
                  try clear p2
                  obtain ⟨kq, x28_23, rfl, HA, HJ23, ⟨mc23, rfl⟩⟩ := hcut
                  cases kq with
                  | zero => exact absurd HA.out (by simp [metric_single.j2])
                  | succ kj23 =>
                    have H := HA.out
                    clear HA
                    simp only [metric_single.j2] at H
                    by_cases c26 : x28_23 = true
                    · subst c26
                      have H1 : (some (760, true)) = some (r1, r2) := by rw [if_pos rfl] at H; exact H
                      clear H
                      have H := H1
                      clear H1
                      simp only [Option.some.injEq, Prod.mk.injEq] at H
                      obtain ⟨rfl, rfl⟩ := H
                      go_wp2
                      go_ret2
                      exact ⟨by first | rfl | (simp; done) | (simp [*]; done), by repeat (first | exact Drawn0.refl _ | apply Drawn0.step)⟩
                    · replace c26 := Bool.eq_false_iff.mpr c26
                      subst c26
                      have H1 : (if a0 = 77 then (some (880, true)) else (if a0 = 87 then (some (880, true)) else (some (0, false)))) = some (r1, r2) := by rw [if_neg (show ¬ (false = true) by decide)] at H; exact H
                      clear H
                      have H := H1
                      clear H1
                      by_cases c27 : a0 = 77
                      · rw [if_pos c27] at H
                        have c27b0 : (a0 == 77) = true := beq_iff_eq.mpr c27
                        have c27b1 : (a0 != 77) = false := bne_eq_false_iff_eq.mpr c27
                        clear c27
                        simp only [Option.some.injEq, Prod.mk.injEq] at H
                        obtain ⟨rfl, rfl⟩ := H
                        go_wp2
                        go_ret2
                        exact ⟨by first | rfl | (simp; done) | (simp [*]; done), by repeat (first | exact Drawn0.refl _ | apply Drawn0.step)⟩
                      · rw [if_neg c27] at H
                        have c27b0 : (a0 == 77) = false := beq_eq_false_iff_ne.mpr c27
                        have c27b1 : (a0 != 77) = true := bne_iff_ne.mpr c27
                        by_cases c28 : a0 = 87
                        · rw [if_pos c28] at H
                          have c28b0 : (a0 == 87) = true := beq_iff_eq.mpr c28
                          have c28b1 : (a0 != 87) = false := bne_eq_false_iff_eq.mpr c28
                          clear c28
                          simp only [Option.some.injEq, Prod.mk.injEq] at H
                          obtain ⟨rfl, rfl⟩ := H
                          go_wp2
                          go_ret2
                          exact ⟨by first | rfl | (simp; done) | (simp [*]; done), by repeat (first | exact Drawn0.refl _ | apply Drawn0.step)⟩
                        · rw [if_neg c28] at H
                          have c28b0 : (a0 == 87) = false := beq_eq_false_iff_ne.mpr c28
                          have c28b1 : (a0 != 87) = true := bne_iff_ne.mpr c28
                          simp only [Option.some.injEq, Prod.mk.injEq] at H
                          obtain ⟨rfl, rfl⟩ := H
                          go_wp2
                          go_ret2
                          exact ⟨by first | rfl | (simp; done) | (simp [*]; done), by repeat (first | exact Drawn0.refl _ | apply Drawn0.step)⟩

-- NOT PRINTED: function 19 (metric_Em)

/-! ### metric_round: function 40 -/
def metric_round.f (a0 : Int) (a1 : Int) : Option (Int) := if (wrap64 (2 * a1)) = 0 then (none) else (some (wrap64 (Int.tdiv (wrap64 ((wrap64 (2 * a0)) + a1)) (wrap64 (2 * a1)))))
set_option maxHeartbeats 8000000 in
set_option maxRecDepth 100000 in
theorem metric_round.calls (a0 : Int) (a1 : Int) (r : Int) (w : World) (h : metric_round.f a0 a1 = some r) :
    Calls Tryd.prog 40 #[.int .i64 a0, .int .i64 a1] w fun e w' => e = .returned (.int .i64 r) ∧ Drawn0 w w' := by
  have H : (if (wrap64 (2 * a1)) = 0 then (none) else (some (wrap64 (Int.tdiv (wrap64 ((wrap64 (2 * a0)) + a1)) (wrap64 (2 * a1)))))) = some r := h
  clear h
  by_cases c3 : (wrap64 (2 * a1)) = 0
  · rw [if_pos c3] at H
    exact absurd H (by simp)
  · rw [if_neg c3] at H
    have c3b0 : ((wrap64 (2 * a1)) == 0) = false := beq_eq_false_iff_ne.mpr c3
    have c3b1 : ((wrap64 (2 * a1)) != 0) = true := bne_iff_ne.mpr c3
    obtain rfl := Option.some.inj H
    go_enter Tryd.func40, Tryd.ntmps40
    go_wp2
    go_ret
    exact ⟨by first | rfl | (simp; done) | (simp [*]; done), by repeat (first | exact Drawn0.refl _ | apply Drawn0.step)⟩

-- NOT PRINTED: function 37 (metric_advance)

-- NOT PRINTED: function 41 (metric_pair)

-- NOT PRINTED: function 38 (metric_kern)

-- NOT PRINTED: function 27 (metric_Width)

-- NOT PRINTED: function 18 (chancerylaw3_metrics)

/-! ### chanceryref3_In: function 16 -/
def chanceryref3_In.f (a0 : Int) (a1 : Int) (a2 : Int) : Option (Bool) := if a0 ≥ a1 then (some (decide (a0 ≤ a2))) else (some false)
set_option maxHeartbeats 8000000 in
set_option maxRecDepth 100000 in
theorem chanceryref3_In.calls (a0 : Int) (a1 : Int) (a2 : Int) (r : Bool) (w : World) (h : chanceryref3_In.f a0 a1 a2 = some r) :
    Calls Tryd.prog 16 #[.int .i64 a0, .int .i64 a1, .int .i64 a2] w fun e w' => e = .returned (.bool r) ∧ Drawn0 w w' := by
  have H : (if a0 ≥ a1 then (some (decide (a0 ≤ a2))) else (some false)) = some r := h
  clear h
  by_cases c4 : a0 ≥ a1
  · rw [if_pos c4] at H
    have c4b0 : decide (a1 ≤ a0) = true := decide_eq_true c4
    clear c4
    obtain rfl := Option.some.inj H
    go_enter Tryd.func16, Tryd.ntmps16
    go_wp2
    go_ret
    exact ⟨by first | rfl | (simp; done) | (simp [*]; done), by repeat (first | exact Drawn0.refl _ | apply Drawn0.step)⟩
  · rw [if_neg c4] at H
    have c4b0 : decide (a1 ≤ a0) = false := decide_eq_false c4
    clear c4
    obtain rfl := Option.some.inj H
    go_enter Tryd.func16, Tryd.ntmps16
    go_wp2
    go_ret
    exact ⟨by first | rfl | (simp; done) | (simp [*]; done), by repeat (first | exact Drawn0.refl _ | apply Drawn0.step)⟩

end Go.Proofs.YtihmbddneapooaaDoor.PMetricEms
