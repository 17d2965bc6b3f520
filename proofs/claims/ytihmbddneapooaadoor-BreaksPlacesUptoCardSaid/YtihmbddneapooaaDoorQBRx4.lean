-- WRITTEN BY wip/print2.py, a program of this session, over contracts of this session's own; no print of print.sh
import Derived.Test.YtihmbddneapooaaDoorQBRx0
namespace Go.Proofs.YtihmbddneapooaaDoor.QBR
open Go.RowKit Go.Proofs.YtihmbddneapooaaDoor.PMetricEms Go.Proofs.YtihmbddneapooaaDoor.HandMEf Go.Proofs.YtihmbddneapooaaDoor.HandMB Go.Proofs.YtihmbddneapooaaDoor.HandCL Go.Proofs.YtihmbddneapooaaDoorW.PrintWords Go.Proofs.YtihmbddneapooaaDoorW.PrintLast Go.Proofs.YtihmbddneapooaaDoorW.PrintMore
attribute [local go_sem] max2_int min2_int max_two min_two max_three min_three max_four min_four   -- for this text's walks alone
set_option linter.unusedVariables false
set_option linter.unusedSimpArgs false

/-! ### chanceryref3_breakClass: function 34 -/
mutual
def chanceryref3_breakClass.j0 : Nat → Int → Bool → Option (Int)
  | 0, _, _ => none
  | k + 1, x0, x6 => if x6 = true then (some 115) else (if x0 = 8203 then (some 122) else (if x0 = 160 then (chanceryref3_breakClass.j1 k x0 true) else (if x0 = 8239 then (chanceryref3_breakClass.j1 k x0 true) else (if x0 = 8288 then (chanceryref3_breakClass.j1 k x0 true) else (chanceryref3_breakClass.j1 k x0 (x0 == 65279))))))
def chanceryref3_breakClass.j1 : Nat → Int → Bool → Option (Int)
  | 0, _, _ => none
  | k + 1, x0, x16 => if x16 = true then (some 103) else (if x0 = 45 then (chanceryref3_breakClass.j2 k x0 true) else (if x0 = 8208 then (chanceryref3_breakClass.j2 k x0 true) else (chanceryref3_breakClass.j2 k x0 (x0 == 8211))))
def chanceryref3_breakClass.j2 : Nat → Int → Bool → Option (Int)
  | 0, _, _ => none
  | k + 1, x0, x31 => if x31 = true then (some 104) else (if x0 = 173 then (some 45) else ((chanceryref3_In.f x0 48 57).bind fun t138 => (if t138 = true then (some 100) else ((chanceryref3_has.f (⟨#[40, 91, 123, 194, 171, 194, 191, 194, 161, 226, 128, 152, 226, 128, 156, 227, 128, 140]⟩ : ByteArray) x0).bind fun t139 => (if t139 = true then (some 111) else ((chanceryref3_has.f (⟨#[41, 93, 125, 44, 46, 58, 59, 33, 63, 194, 187, 226, 128, 153, 226, 128, 157, 226, 128, 166, 227, 128, 129, 227, 128, 130, 227, 128, 141]⟩ : ByteArray) x0).bind fun t140 => (if t140 = true then (some 99) else (if x0 = 65532 then (chanceryref3_breakClass.j3 k x0 true) else ((chanceryref3_In.f x0 11904 42191).bind fun t141 => (if t141 = true then (chanceryref3_breakClass.j3 k x0 true) else ((chanceryref3_In.f x0 44032 55203).bind fun t142 => (if t142 = true then (chanceryref3_breakClass.j3 k x0 true) else ((chanceryref3_In.f x0 63744 64255).bind fun t143 => (if t143 = true then (chanceryref3_breakClass.j3 k x0 true) else ((chanceryref3_In.f x0 65280 65376).bind fun t144 => (if t144 = true then (chanceryref3_breakClass.j3 k x0 true) else ((chanceryref3_In.f x0 131072 262141).bind fun t145 => (chanceryref3_breakClass.j3 k x0 t145))))))))))))))))))
def chanceryref3_breakClass.j3 : Nat → Int → Bool → Option (Int)
  | 0, _, _ => none
  | k + 1, x0, x54 => if x54 = true then (some 119) else (if x0 = 8205 then (some 109) else ((chanceryref3_IsMark.f x0).bind fun t146 => (if t146 = true then (some 109) else (some 120))))
end
def chanceryref3_breakClass.f (k : Nat) (a0 : Int) : Option (Int) := if a0 = 10 then (some 110) else (if a0 = 9 then (chanceryref3_breakClass.j0 k a0 true) else (chanceryref3_breakClass.j0 k a0 (a0 == 32)))
theorem chanceryref3_breakClass.mono_l : ∀ k, (∀ y0 y1, LeO (chanceryref3_breakClass.j0 k y0 y1) (chanceryref3_breakClass.j0 (k + 1) y0 y1)) ∧ (∀ y0 y1, LeO (chanceryref3_breakClass.j1 k y0 y1) (chanceryref3_breakClass.j1 (k + 1) y0 y1)) ∧ (∀ y0 y1, LeO (chanceryref3_breakClass.j2 k y0 y1) (chanceryref3_breakClass.j2 (k + 1) y0 y1)) ∧ (∀ y0 y1, LeO (chanceryref3_breakClass.j3 k y0 y1) (chanceryref3_breakClass.j3 (k + 1) y0 y1))
  | 0 => ⟨fun _ _ r h => by simp [chanceryref3_breakClass.j0] at h, fun _ _ r h => by simp [chanceryref3_breakClass.j1] at h, fun _ _ r h => by simp [chanceryref3_breakClass.j2] at h, fun _ _ r h => by simp [chanceryref3_breakClass.j3] at h⟩
  | k + 1 => by
    obtain ⟨ih0, ih1, ih2, ih3⟩ := chanceryref3_breakClass.mono_l k
    refine ⟨?_, ?_, ?_, ?_⟩
    · intro y0 y1
      unfold chanceryref3_breakClass.j0
      repeat' first
      | (with_reducible exact ih0 _ _)
      | (with_reducible exact ih1 _ _)
      | (with_reducible exact ih2 _ _)
      | (with_reducible exact ih3 _ _)
      | (with_reducible exact LeO.refl _)
      | (with_reducible exact LeO.none _)
      | (with_reducible refine LeO.ite ?_ ?_)
      | (with_reducible refine LeO.bind ?_ (fun _ => ?_))
      | exact ih0 _ _
      | exact ih1 _ _
      | exact ih2 _ _
      | exact ih3 _ _
      | exact LeO.none _
      | refine LeO.ite ?_ ?_
      | refine LeO.bind ?_ (fun _ => ?_)
    · intro y0 y1
      unfold chanceryref3_breakClass.j1
      repeat' first
      | (with_reducible exact ih0 _ _)
      | (with_reducible exact ih1 _ _)
      | (with_reducible exact ih2 _ _)
      | (with_reducible exact ih3 _ _)
      | (with_reducible exact LeO.refl _)
      | (with_reducible exact LeO.none _)
      | (with_reducible refine LeO.ite ?_ ?_)
      | (with_reducible refine LeO.bind ?_ (fun _ => ?_))
      | exact ih0 _ _
      | exact ih1 _ _
      | exact ih2 _ _
      | exact ih3 _ _
      | exact LeO.none _
      | refine LeO.ite ?_ ?_
      | refine LeO.bind ?_ (fun _ => ?_)
    · intro y0 y1
      unfold chanceryref3_breakClass.j2
      repeat' first
      | (with_reducible exact ih0 _ _)
      | (with_reducible exact ih1 _ _)
      | (with_reducible exact ih2 _ _)
      | (with_reducible exact ih3 _ _)
      | (with_reducible exact LeO.refl _)
      | (with_reducible exact LeO.none _)
      | (with_reducible refine LeO.ite ?_ ?_)
      | (with_reducible refine LeO.bind ?_ (fun _ => ?_))
      | exact ih0 _ _
      | exact ih1 _ _
      | exact ih2 _ _
      | exact ih3 _ _
      | exact LeO.none _
      | refine LeO.ite ?_ ?_
      | refine LeO.bind ?_ (fun _ => ?_)
    · intro y0 y1
      unfold chanceryref3_breakClass.j3
      repeat' first
      | (with_reducible exact ih0 _ _)
      | (with_reducible exact ih1 _ _)
      | (with_reducible exact ih2 _ _)
      | (with_reducible exact ih3 _ _)
      | (with_reducible exact LeO.refl _)
      | (with_reducible exact LeO.none _)
      | (with_reducible refine LeO.ite ?_ ?_)
      | (with_reducible refine LeO.bind ?_ (fun _ => ?_))
      | exact ih0 _ _
      | exact ih1 _ _
      | exact ih2 _ _
      | exact ih3 _ _
      | exact LeO.none _
      | refine LeO.ite ?_ ?_
      | refine LeO.bind ?_ (fun _ => ?_)
theorem chanceryref3_breakClass.mono : ∀ a0 k, LeO (chanceryref3_breakClass.f k a0) (chanceryref3_breakClass.f (k + 1) a0) := by
  intro a0 k
  obtain ⟨ih0, ih1, ih2, ih3⟩ := chanceryref3_breakClass.mono_l k
  unfold chanceryref3_breakClass.f
  repeat' first
      | (with_reducible exact ih0 _ _)
      | (with_reducible exact ih1 _ _)
      | (with_reducible exact ih2 _ _)
      | (with_reducible exact ih3 _ _)
      | (with_reducible exact LeO.refl _)
      | (with_reducible exact LeO.none _)
      | (with_reducible refine LeO.ite ?_ ?_)
      | (with_reducible refine LeO.bind ?_ (fun _ => ?_))
      | exact ih0 _ _
      | exact ih1 _ _
      | exact ih2 _ _
      | exact ih3 _ _
      | exact LeO.none _
      | refine LeO.ite ?_ ?_
      | refine LeO.bind ?_ (fun _ => ?_)
set_option maxHeartbeats 8000000 in
set_option maxRecDepth 100000 in
theorem chanceryref3_breakClass.calls (k : Nat) (a0 : Int) (r : Int) (w : World) (h : chanceryref3_breakClass.f k a0 = some r) :
    Calls Tryd.prog 34 #[.int .i64 a0] w fun e w' => e = .returned (.int .u8 r) ∧ Below w.heap.size w w' := by
  have HB := Aside0.mk (Below.refl w.heap.size w)
  have H : (if a0 = 10 then (some 110) else (if a0 = 9 then (chanceryref3_breakClass.j0 k a0 true) else (chanceryref3_breakClass.j0 k a0 (a0 == 32)))) = some r := h
  clear h
  by_cases c2 : a0 = 10
  · rw [if_pos c2] at H
    have c2b0 : (a0 == 10) = true := beq_iff_eq.mpr c2
    have c2b1 : (a0 != 10) = false := bne_eq_false_iff_eq.mpr c2
    clear c2
    obtain rfl := Option.some.inj H
    go_enter Tryd.func34, Tryd.ntmps34
    go_wp2
    go_ret
    exact ⟨by first | rfl | (simp [errW_none, errW_some] <;> rfl) | (simp [*, errW_none, errW_some] <;> rfl), by repeat (first | (with_reducible first | exact HB.out | apply below_alloc | apply pw_below_drewN | apply below_drew1) | exact HB.out)⟩
  · rw [if_neg c2] at H
    have c2b0 : (a0 == 10) = false := beq_eq_false_iff_ne.mpr c2
    have c2b1 : (a0 != 10) = true := bne_iff_ne.mpr c2
    have HC3 := Aside0.mk H
    clear H
    go_enter Tryd.func34, Tryd.ntmps34
    go_upto_region 3 with (fail)
    go_cut [6] (fun v6 wc => ∃ (kq : Nat) (x6_2 : Bool), v6 = .bool x6_2 ∧ Aside0 (chanceryref3_breakClass.j0 kq a0 x6_2 = some r) ∧ Aside0 (kq ≤ k) ∧ Aside0 (Below w.heap.size w wc))
    case first =>
      have H := HC3.out
      clear HC3
      by_cases c4 : a0 = 9
      · rw [if_pos c4] at H
        have c4b0 : (a0 == 9) = true := beq_iff_eq.mpr c4
        have c4b1 : (a0 != 9) = false := bne_eq_false_iff_eq.mpr c4
        clear c4
        (first | rw [c4b0] | (simp only [i64_w, i32_w]; rw [c4b0]) | skip)
        have H' := Aside0.mk H
        clear H
        go_wp2
        go_meet
        case rel => exact ⟨_, (true), (by first | rfl | (simp; done) | (simp [*]; done)), H', ⟨by first | omega | exact Nat.le_refl _⟩, ⟨by repeat (first | (with_reducible first | exact HB.out | apply below_alloc | apply pw_below_drewN | apply below_drew1) | exact HB.out)⟩⟩
      · rw [if_neg c4] at H
        have c4b0 : (a0 == 9) = false := beq_eq_false_iff_ne.mpr c4
        have c4b1 : (a0 != 9) = true := bne_iff_ne.mpr c4
        (first | rw [c4b0] | (simp only [i64_w, i32_w]; rw [c4b0]) | skip)
        have H' := Aside0.mk H
        clear H
        go_wp2
        go_meet
        case rel => exact ⟨_, ((a0 == 32)), (by first | rfl | (simp; done) | (simp [*]; done)), H', ⟨by first | omega | exact Nat.le_refl _⟩, ⟨by repeat (first | (with_reducible first | exact HB.out | apply below_alloc | apply pw_below_drewN | apply below_drew1) | exact HB.out)⟩⟩
    case rest =>
      clear HC3
      try clear c2
      try clear c2b0
      try clear c2b1
      try clear p2
      try clear c3
      try clear c4
      try clear c4b0
      try clear c4b1
      obtain ⟨kq, x6_2, rfl, HA, HJ2, HB⟩ := hcut
      cases kq with
      | zero => exact absurd HA.out (by simp [chanceryref3_breakClass.j0])
      | succ kj2 =>
        have H := HA.out
        clear HA
        simp only [chanceryref3_breakClass.j0] at H
        by_cases c5 : x6_2 = true
        · subst c5
          have H1 : (some 115) = some r := by rw [if_pos rfl] at H; exact H
          clear H
          have H := H1
          clear H1
          obtain rfl := Option.some.inj H
          go_wp2
          go_ret
          exact ⟨by first | rfl | (simp [errW_none, errW_some] <;> rfl) | (simp [*, errW_none, errW_some] <;> rfl), by repeat (first | (with_reducible first | exact HB.out | apply below_alloc | apply pw_below_drewN | apply below_drew1) | exact HB.out)⟩
        · replace c5 := Bool.eq_false_iff.mpr c5
          subst c5
          have H1 : (if a0 = 8203 then (some 122) else (if a0 = 160 then (chanceryref3_breakClass.j1 kj2 a0 true) else (if a0 = 8239 then (chanceryref3_breakClass.j1 kj2 a0 true) else (if a0 = 8288 then (chanceryref3_breakClass.j1 kj2 a0 true) else (chanceryref3_breakClass.j1 kj2 a0 (a0 == 65279)))))) = some r := by rw [if_neg (show ¬ (false = true) by decide)] at H; exact H
          clear H
          have H := H1
          clear H1
          by_cases c6 : a0 = 8203
          · rw [if_pos c6] at H
            have c6b0 : (a0 == 8203) = true := beq_iff_eq.mpr c6
            have c6b1 : (a0 != 8203) = false := bne_eq_false_iff_eq.mpr c6
            clear c6
            obtain rfl := Option.some.inj H
            go_wp2
            go_ret
            exact ⟨by first | rfl | (simp [errW_none, errW_some] <;> rfl) | (simp [*, errW_none, errW_some] <;> rfl), by repeat (first | (with_reducible first | exact HB.out | apply below_alloc | apply pw_below_drewN | apply below_drew1) | exact HB.out)⟩
          · rw [if_neg c6] at H
            have c6b0 : (a0 == 8203) = false := beq_eq_false_iff_ne.mpr c6
            have c6b1 : (a0 != 8203) = true := bne_iff_ne.mpr c6
            have HC7 := Aside0.mk H
            clear H
            go_upto_region 7 with (fail)
            go_cut [16] (fun v16 wc => ∃ (kq : Nat) (x16_6 : Bool), v16 = .bool x16_6 ∧ Aside0 (chanceryref3_breakClass.j1 kq a0 x16_6 = some r) ∧ Aside0 (kq ≤ kj2) ∧ Aside0 (Below w.heap.size w wc))
            case first =>
              have H := HC7.out
              clear HC7
              by_cases c8 : a0 = 160
              · rw [if_pos c8] at H
                have c8b0 : (a0 == 160) = true := beq_iff_eq.mpr c8
                have c8b1 : (a0 != 160) = false := bne_eq_false_iff_eq.mpr c8
                clear c8
                (first | rw [c8b0] | (simp only [i64_w, i32_w]; rw [c8b0]) | skip)
                have H' := Aside0.mk H
                clear H
                go_wp2
                go_meet
                case rel => exact ⟨_, (true), (by first | rfl | (simp; done) | (simp [*]; done)), H', ⟨by have := HJ2.out; first | omega | exact Nat.le_refl _⟩, ⟨by repeat (first | (with_reducible first | exact HB.out | apply below_alloc | apply pw_below_drewN | apply below_drew1) | exact HB.out)⟩⟩
              · rw [if_neg c8] at H
                have c8b0 : (a0 == 160) = false := beq_eq_false_iff_ne.mpr c8
                have c8b1 : (a0 != 160) = true := bne_iff_ne.mpr c8
                (first | rw [c8b0] | (simp only [i64_w, i32_w]; rw [c8b0]) | skip)
                by_cases c9 : a0 = 8239
                · rw [if_pos c9] at H
                  have c9b0 : (a0 == 8239) = true := beq_iff_eq.mpr c9
                  have c9b1 : (a0 != 8239) = false := bne_eq_false_iff_eq.mpr c9
                  clear c9
                  have H' := Aside0.mk H
                  clear H
                  go_wp2
                  go_meet
                  case rel => exact ⟨_, (true), (by first | rfl | (simp; done) | (simp [*]; done)), H', ⟨by have := HJ2.out; first | omega | exact Nat.le_refl _⟩, ⟨by repeat (first | (with_reducible first | exact HB.out | apply below_alloc | apply pw_below_drewN | apply below_drew1) | exact HB.out)⟩⟩
                · rw [if_neg c9] at H
                  have c9b0 : (a0 == 8239) = false := beq_eq_false_iff_ne.mpr c9
                  have c9b1 : (a0 != 8239) = true := bne_iff_ne.mpr c9
                  by_cases c10 : a0 = 8288
                  · rw [if_pos c10] at H
                    have c10b0 : (a0 == 8288) = true := beq_iff_eq.mpr c10
                    have c10b1 : (a0 != 8288) = false := bne_eq_false_iff_eq.mpr c10
                    clear c10
                    have H' := Aside0.mk H
                    clear H
                    go_wp2
                    go_meet
                    case rel => exact ⟨_, (true), (by first | rfl | (simp; done) | (simp [*]; done)), H', ⟨by have := HJ2.out; first | omega | exact Nat.le_refl _⟩, ⟨by repeat (first | (with_reducible first | exact HB.out | apply below_alloc | apply pw_below_drewN | apply below_drew1) | exact HB.out)⟩⟩
                  · rw [if_neg c10] at H
                    have c10b0 : (a0 == 8288) = false := beq_eq_false_iff_ne.mpr c10
                    have c10b1 : (a0 != 8288) = true := bne_iff_ne.mpr c10
                    have H' := Aside0.mk H
                    clear H
                    go_wp2
                    go_meet
                    case rel => exact ⟨_, ((a0 == 65279)), (by first | rfl | (simp; done) | (simp [*]; done)), H', ⟨by have := HJ2.out; first | omega | exact Nat.le_refl _⟩, ⟨by repeat (first | (with_reducible first | exact HB.out | apply below_alloc | apply pw_below_drewN | apply below_drew1) | exact HB.out)⟩⟩
            case rest =>
              clear HC7
              try clear c1
              try clear c2
              try clear c2b0
              try clear c2b1
              try clear p2
              try clear c3
              try clear c4
              try clear c4b0
              try clear c4b1
              try clear c5
              try clear c6
              try clear c6b0
              try clear c6b1
              try clear c8
              try clear c8b0
              try clear c8b1
              try clear c9
              try clear c9b0
              try clear c9b1
              try clear c10
              try clear c10b0
              try clear c10b1
              try clear p2
              obtain ⟨kq, x16_6, rfl, HA, HJ6, HB⟩ := hcut
              cases kq with
              | zero => exact absurd HA.out (by simp [chanceryref3_breakClass.j1])
              | succ kj6 =>
                have H := HA.out
                clear HA
                simp only [chanceryref3_breakClass.j1] at H
                by_cases c11 : x16_6 = true
                · subst c11
                  have H1 : (some 103) = some r := by rw [if_pos rfl] at H; exact H
                  clear H
                  have H := H1
                  clear H1
                  obtain rfl := Option.some.inj H
                  go_wp2
                  go_ret
                  exact ⟨by first | rfl | (simp [errW_none, errW_some] <;> rfl) | (simp [*, errW_none, errW_some] <;> rfl), by repeat (first | (with_reducible first | exact HB.out | apply below_alloc | apply pw_below_drewN | apply below_drew1) | exact HB.out)⟩
                · replace c11 := Bool.eq_false_iff.mpr c11
                  subst c11
                  have H1 : (if a0 = 45 then (chanceryref3_breakClass.j2 kj6 a0 true) else (if a0 = 8208 then (chanceryref3_breakClass.j2 kj6 a0 true) else (chanceryref3_breakClass.j2 kj6 a0 (a0 == 8211)))) = some r := by rw [if_neg (show ¬ (false = true) by decide)] at H; exact H
                  clear H
                  have H := H1
                  clear H1
                  have HC12 := Aside0.mk H
                  clear H
                  go_upto_region 9 with (fail)
                  go_cut [31] (fun v31 wc => ∃ (kq : Nat) (x31_11 : Bool), v31 = .bool x31_11 ∧ Aside0 (chanceryref3_breakClass.j2 kq a0 x31_11 = some r) ∧ Aside0 (kq ≤ kj6) ∧ Aside0 (Below w.heap.size w wc))
                  case first =>
                    have H := HC12.out
                    clear HC12
                    by_cases c13 : a0 = 45
                    · rw [if_pos c13] at H
                      have c13b0 : (a0 == 45) = true := beq_iff_eq.mpr c13
                      have c13b1 : (a0 != 45) = false := bne_eq_false_iff_eq.mpr c13
                      clear c13
                      (first | rw [c13b0] | (simp only [i64_w, i32_w]; rw [c13b0]) | skip)
                      have H' := Aside0.mk H
                      clear H
                      go_wp2
                      go_meet
                      case rel => exact ⟨_, (true), (by first | rfl | (simp; done) | (simp [*]; done)), H', ⟨by have := HJ2.out; have := HJ6.out; first | omega | exact Nat.le_refl _⟩, ⟨by repeat (first | (with_reducible first | exact HB.out | apply below_alloc | apply pw_below_drewN | apply below_drew1) | exact HB.out)⟩⟩
                    · rw [if_neg c13] at H
                      have c13b0 : (a0 == 45) = false := beq_eq_false_iff_ne.mpr c13
                      have c13b1 : (a0 != 45) = true := bne_iff_ne.mpr c13
                      (first | rw [c13b0] | (simp only [i64_w, i32_w]; rw [c13b0]) | skip)
                      by_cases c14 : a0 = 8208
                      · rw [if_pos c14] at H
                        have c14b0 : (a0 == 8208) = true := beq_iff_eq.mpr c14
                        have c14b1 : (a0 != 8208) = false := bne_eq_false_iff_eq.mpr c14
                        clear c14
                        have H' := Aside0.mk H
                        clear H
                        go_wp2
                        go_meet
                        case rel => exact ⟨_, (true), (by first | rfl | (simp; done) | (simp [*]; done)), H', ⟨by have := HJ2.out; have := HJ6.out; first | omega | exact Nat.le_refl _⟩, ⟨by repeat (first | (with_reducible first | exact HB.out | apply below_alloc | apply pw_below_drewN | apply below_drew1) | exact HB.out)⟩⟩
                      · rw [if_neg c14] at H
                        have c14b0 : (a0 == 8208) = false := beq_eq_false_iff_ne.mpr c14
                        have c14b1 : (a0 != 8208) = true := bne_iff_ne.mpr c14
                        have H' := Aside0.mk H
                        clear H
                        go_wp2
                        go_meet
                        case rel => exact ⟨_, ((a0 == 8211)), (by first | rfl | (simp; done) | (simp [*]; done)), H', ⟨by have := HJ2.out; have := HJ6.out; first | omega | exact Nat.le_refl _⟩, ⟨by repeat (first | (with_reducible first | exact HB.out | apply below_alloc | apply pw_below_drewN | apply below_drew1) | exact HB.out)⟩⟩
                  case rest =>
                    clear HC12
                    try clear c1
                    try clear c2
                    try clear c2b0
                    try clear c2b1
                    try clear p2
                    try clear c3
                    try clear c4
                    try clear c4b0
                    try clear c4b1
                    try clear c5
                    try clear c6
                    try clear c6b0
                    try clear c6b1
                    try clear c8
                    try clear c8b0
                    try clear c8b1
                    try clear c9
                    try clear c9b0
                    try clear c9b1
                    try clear c10
                    try clear c10b0
                    try clear c10b1
                    try clear c11
                    try clear c13
                    try clear c13b0
                    try clear c13b1
                    try clear c14
                    try clear c14b0
                    try clear c14b1
                    try clear p2
                    obtain ⟨kq, x31_11, rfl, HA, HJ11, HB⟩ := hcut
                    cases kq with
                    | zero => exact absurd HA.out (by simp [chanceryref3_breakClass.j2])
                    | succ kj11 =>
                      have H := HA.out
                      clear HA
                      simp only [chanceryref3_breakClass.j2] at H
                      by_cases c15 : x31_11 = true
                      · subst c15
                        have H1 : (some 104) = some r := by rw [if_pos rfl] at H; exact H
                        clear H
                        have H := H1
                        clear H1
                        obtain rfl := Option.some.inj H
                        go_wp2
                        go_ret
                        exact ⟨by first | rfl | (simp [errW_none, errW_some] <;> rfl) | (simp [*, errW_none, errW_some] <;> rfl), by repeat (first | (with_reducible first | exact HB.out | apply below_alloc | apply pw_below_drewN | apply below_drew1) | exact HB.out)⟩
                      · replace c15 := Bool.eq_false_iff.mpr c15
                        subst c15
                        have H1 : (if a0 = 173 then (some 45) else ((chanceryref3_In.f a0 48 57).bind fun t138 => (if t138 = true then (some 100) else ((chanceryref3_has.f (⟨#[40, 91, 123, 194, 171, 194, 191, 194, 161, 226, 128, 152, 226, 128, 156, 227, 128, 140]⟩ : ByteArray) a0).bind fun t139 => (if t139 = true then (some 111) else ((chanceryref3_has.f (⟨#[41, 93, 125, 44, 46, 58, 59, 33, 63, 194, 187, 226, 128, 153, 226, 128, 157, 226, 128, 166, 227, 128, 129, 227, 128, 130, 227, 128, 141]⟩ : ByteArray) a0).bind fun t140 => (if t140 = true then (some 99) else (if a0 = 65532 then (chanceryref3_breakClass.j3 kj11 a0 true) else ((chanceryref3_In.f a0 11904 42191).bind fun t141 => (if t141 = true then (chanceryref3_breakClass.j3 kj11 a0 true) else ((chanceryref3_In.f a0 44032 55203).bind fun t142 => (if t142 = true then (chanceryref3_breakClass.j3 kj11 a0 true) else ((chanceryref3_In.f a0 63744 64255).bind fun t143 => (if t143 = true then (chanceryref3_breakClass.j3 kj11 a0 true) else ((chanceryref3_In.f a0 65280 65376).bind fun t144 => (if t144 = true then (chanceryref3_breakClass.j3 kj11 a0 true) else ((chanceryref3_In.f a0 131072 262141).bind fun t145 => (chanceryref3_breakClass.j3 kj11 a0 t145)))))))))))))))))) = some r := by rw [if_neg (show ¬ (false = true) by decide)] at H; exact H
                        clear H
                        have H := H1
                        clear H1
                        by_cases c16 : a0 = 173
                        · rw [if_pos c16] at H
                          have c16b0 : (a0 == 173) = true := beq_iff_eq.mpr c16
                          have c16b1 : (a0 != 173) = false := bne_eq_false_iff_eq.mpr c16
                          clear c16
                          obtain rfl := Option.some.inj H
                          go_wp2
                          go_ret
                          exact ⟨by first | rfl | (simp [errW_none, errW_some] <;> rfl) | (simp [*, errW_none, errW_some] <;> rfl), by repeat (first | (with_reducible first | exact HB.out | apply below_alloc | apply pw_below_drewN | apply below_drew1) | exact HB.out)⟩
                        · rw [if_neg c16] at H
                          have c16b0 : (a0 == 173) = false := beq_eq_false_iff_ne.mpr c16
                          have c16b1 : (a0 != 173) = true := bne_iff_ne.mpr c16
                          replace H := Option.bind_eq_some_iff.mp H
                          obtain ⟨t138, A170, H⟩ := H
                          replace H : (if t138 = true then (some 100) else ((chanceryref3_has.f (⟨#[40, 91, 123, 194, 171, 194, 191, 194, 161, 226, 128, 152, 226, 128, 156, 227, 128, 140]⟩ : ByteArray) a0).bind fun t139 => (if t139 = true then (some 111) else ((chanceryref3_has.f (⟨#[41, 93, 125, 44, 46, 58, 59, 33, 63, 194, 187, 226, 128, 153, 226, 128, 157, 226, 128, 166, 227, 128, 129, 227, 128, 130, 227, 128, 141]⟩ : ByteArray) a0).bind fun t140 => (if t140 = true then (some 99) else (if a0 = 65532 then (chanceryref3_breakClass.j3 kj11 a0 true) else ((chanceryref3_In.f a0 11904 42191).bind fun t141 => (if t141 = true then (chanceryref3_breakClass.j3 kj11 a0 true) else ((chanceryref3_In.f a0 44032 55203).bind fun t142 => (if t142 = true then (chanceryref3_breakClass.j3 kj11 a0 true) else ((chanceryref3_In.f a0 63744 64255).bind fun t143 => (if t143 = true then (chanceryref3_breakClass.j3 kj11 a0 true) else ((chanceryref3_In.f a0 65280 65376).bind fun t144 => (if t144 = true then (chanceryref3_breakClass.j3 kj11 a0 true) else ((chanceryref3_In.f a0 131072 262141).bind fun t145 => (chanceryref3_breakClass.j3 kj11 a0 t145)))))))))))))))) = some r := H
                          have A17 := Aside0.mk A170
                          clear A170
                          by_cases c18 : t138 = true
                          · subst c18
                            have H1 : (some 100) = some r := by rw [if_pos rfl] at H; exact H
                            clear H
                            have H := H1
                            clear H1
                            obtain rfl := Option.some.inj H
                            go_wp2_with (first | ((with_reducible refine gate_callee (f := 16) rfl ?_); refine goesL_ (some 47) rfl rfl Tryd.func16 (by kernel_rfl) rfl #[.int .i64 a0, .int .i64 48, .int .i64 57] rfl (by (try simp only [List.map_toArray, List.map_cons, List.map_nil]); first | done | rfl | (simp only [List.length_drop, List.length_take]; rfl)) ?_; (with_reducible refine (chanceryref3_In.calls a0 48 57 true _ A17.out).mono ?_); rintro e w' ⟨rfl, ⟨nd, rfl⟩⟩; refine ⟨_, rfl, ?_⟩))
                            go_ret
                            exact ⟨by first | rfl | (simp [errW_none, errW_some] <;> rfl) | (simp [*, errW_none, errW_some] <;> rfl), by repeat (first | (with_reducible first | exact HB.out | apply below_alloc | apply pw_below_drewN | apply below_drew1) | exact HB.out)⟩
                          · replace c18 := Bool.eq_false_iff.mpr c18
                            subst c18
                            have H1 : ((chanceryref3_has.f (⟨#[40, 91, 123, 194, 171, 194, 191, 194, 161, 226, 128, 152, 226, 128, 156, 227, 128, 140]⟩ : ByteArray) a0).bind fun t139 => (if t139 = true then (some 111) else ((chanceryref3_has.f (⟨#[41, 93, 125, 44, 46, 58, 59, 33, 63, 194, 187, 226, 128, 153, 226, 128, 157, 226, 128, 166, 227, 128, 129, 227, 128, 130, 227, 128, 141]⟩ : ByteArray) a0).bind fun t140 => (if t140 = true then (some 99) else (if a0 = 65532 then (chanceryref3_breakClass.j3 kj11 a0 true) else ((chanceryref3_In.f a0 11904 42191).bind fun t141 => (if t141 = true then (chanceryref3_breakClass.j3 kj11 a0 true) else ((chanceryref3_In.f a0 44032 55203).bind fun t142 => (if t142 = true then (chanceryref3_breakClass.j3 kj11 a0 true) else ((chanceryref3_In.f a0 63744 64255).bind fun t143 => (if t143 = true then (chanceryref3_breakClass.j3 kj11 a0 true) else ((chanceryref3_In.f a0 65280 65376).bind fun t144 => (if t144 = true then (chanceryref3_breakClass.j3 kj11 a0 true) else ((chanceryref3_In.f a0 131072 262141).bind fun t145 => (chanceryref3_breakClass.j3 kj11 a0 t145))))))))))))))) = some r := by rw [if_neg (show ¬ (false = true) by decide)] at H; exact H
                            clear H
                            have H := H1
                            clear H1
                            replace H := Option.bind_eq_some_iff.mp H
                            obtain ⟨t139, A190, H⟩ := H
                            replace H : (if t139 = true then (some 111) else ((chanceryref3_has.f (⟨#[41, 93, 125, 44, 46, 58, 59, 33, 63, 194, 187, 226, 128, 153, 226, 128, 157, 226, 128, 166, 227, 128, 129, 227, 128, 130, 227, 128, 141]⟩ : ByteArray) a0).bind fun t140 => (if t140 = true then (some 99) else (if a0 = 65532 then (chanceryref3_breakClass.j3 kj11 a0 true) else ((chanceryref3_In.f a0 11904 42191).bind fun t141 => (if t141 = true then (chanceryref3_breakClass.j3 kj11 a0 true) else ((chanceryref3_In.f a0 44032 55203).bind fun t142 => (if t142 = true then (chanceryref3_breakClass.j3 kj11 a0 true) else ((chanceryref3_In.f a0 63744 64255).bind fun t143 => (if t143 = true then (chanceryref3_breakClass.j3 kj11 a0 true) else ((chanceryref3_In.f a0 65280 65376).bind fun t144 => (if t144 = true then (chanceryref3_breakClass.j3 kj11 a0 true) else ((chanceryref3_In.f a0 131072 262141).bind fun t145 => (chanceryref3_breakClass.j3 kj11 a0 t145)))))))))))))) = some r := H
                            have A19 := Aside0.mk A190
                            clear A190
                            by_cases c20 : t139 = true
                            · subst c20
                              have H1 : (some 111) = some r := by rw [if_pos rfl] at H; exact H
                              clear H
                              have H := H1
                              clear H1
                              obtain rfl := Option.some.inj H
                              go_wp2_with (first | ((with_reducible refine gate_callee (f := 16) rfl ?_); refine goesL_ (some 47) rfl rfl Tryd.func16 (by kernel_rfl) rfl #[.int .i64 a0, .int .i64 48, .int .i64 57] rfl (by (try simp only [List.map_toArray, List.map_cons, List.map_nil]); first | done | rfl | (simp only [List.length_drop, List.length_take]; rfl)) ?_; (with_reducible refine (chanceryref3_In.calls a0 48 57 false _ A17.out).mono ?_); rintro e w' ⟨rfl, ⟨nd, rfl⟩⟩; refine ⟨_, rfl, ?_⟩) | ((with_reducible refine gate_callee (f := 30) rfl ?_); refine goesL_ (some 50) rfl rfl Tryd.func30 (by kernel_rfl) rfl #[.string (⟨#[40, 91, 123, 194, 171, 194, 191, 194, 161, 226, 128, 152, 226, 128, 156, 227, 128, 140]⟩ : ByteArray), .int .i64 a0] rfl (by (try simp only [List.map_toArray, List.map_cons, List.map_nil]); first | done | rfl | (simp only [List.length_drop, List.length_take]; rfl)) ?_; (with_reducible refine (chanceryref3_has.calls (⟨#[40, 91, 123, 194, 171, 194, 191, 194, 161, 226, 128, 152, 226, 128, 156, 227, 128, 140]⟩ : ByteArray) a0 true _ A19.out).mono ?_); rintro e w21 ⟨rfl, hb⟩; refine ⟨_, rfl, ?_⟩; have n0_ := Aside0.mk (below_step (by repeat (first | (with_reducible first | exact HB.out | apply below_alloc | apply pw_below_drewN | apply below_drew1) | exact HB.out)) hb); clear HB; have HB := n0_; clear n0_; (try clear hb); (try clear hb2); (try clear hk); (try clear hi)))
                              go_ret
                              exact ⟨by first | rfl | (simp [errW_none, errW_some] <;> rfl) | (simp [*, errW_none, errW_some] <;> rfl), by repeat (first | (with_reducible first | exact HB.out | apply below_alloc | apply pw_below_drewN | apply below_drew1) | exact HB.out)⟩
                            · replace c20 := Bool.eq_false_iff.mpr c20
                              subst c20
                              have H1 : ((chanceryref3_has.f (⟨#[41, 93, 125, 44, 46, 58, 59, 33, 63, 194, 187, 226, 128, 153, 226, 128, 157, 226, 128, 166, 227, 128, 129, 227, 128, 130, 227, 128, 141]⟩ : ByteArray) a0).bind fun t140 => (if t140 = true then (some 99) else (if a0 = 65532 then (chanceryref3_breakClass.j3 kj11 a0 true) else ((chanceryref3_In.f a0 11904 42191).bind fun t141 => (if t141 = true then (chanceryref3_breakClass.j3 kj11 a0 true) else ((chanceryref3_In.f a0 44032 55203).bind fun t142 => (if t142 = true then (chanceryref3_breakClass.j3 kj11 a0 true) else ((chanceryref3_In.f a0 63744 64255).bind fun t143 => (if t143 = true then (chanceryref3_breakClass.j3 kj11 a0 true) else ((chanceryref3_In.f a0 65280 65376).bind fun t144 => (if t144 = true then (chanceryref3_breakClass.j3 kj11 a0 true) else ((chanceryref3_In.f a0 131072 262141).bind fun t145 => (chanceryref3_breakClass.j3 kj11 a0 t145))))))))))))) = some r := by rw [if_neg (show ¬ (false = true) by decide)] at H; exact H
                              clear H
                              have H := H1
                              clear H1
                              replace H := Option.bind_eq_some_iff.mp H
                              obtain ⟨t140, A220, H⟩ := H
                              replace H : (if t140 = true then (some 99) else (if a0 = 65532 then (chanceryref3_breakClass.j3 kj11 a0 true) else ((chanceryref3_In.f a0 11904 42191).bind fun t141 => (if t141 = true then (chanceryref3_breakClass.j3 kj11 a0 true) else ((chanceryref3_In.f a0 44032 55203).bind fun t142 => (if t142 = true then (chanceryref3_breakClass.j3 kj11 a0 true) else ((chanceryref3_In.f a0 63744 64255).bind fun t143 => (if t143 = true then (chanceryref3_breakClass.j3 kj11 a0 true) else ((chanceryref3_In.f a0 65280 65376).bind fun t144 => (if t144 = true then (chanceryref3_breakClass.j3 kj11 a0 true) else ((chanceryref3_In.f a0 131072 262141).bind fun t145 => (chanceryref3_breakClass.j3 kj11 a0 t145)))))))))))) = some r := H
                              have A22 := Aside0.mk A220
                              clear A220
                              by_cases c23 : t140 = true
                              · subst c23
                                have H1 : (some 99) = some r := by rw [if_pos rfl] at H; exact H
                                clear H
                                have H := H1
                                clear H1
                                obtain rfl := Option.some.inj H
                                go_wp2_with (first | ((with_reducible refine gate_callee (f := 16) rfl ?_); refine goesL_ (some 47) rfl rfl Tryd.func16 (by kernel_rfl) rfl #[.int .i64 a0, .int .i64 48, .int .i64 57] rfl (by (try simp only [List.map_toArray, List.map_cons, List.map_nil]); first | done | rfl | (simp only [List.length_drop, List.length_take]; rfl)) ?_; (with_reducible refine (chanceryref3_In.calls a0 48 57 false _ A17.out).mono ?_); rintro e w' ⟨rfl, ⟨nd, rfl⟩⟩; refine ⟨_, rfl, ?_⟩) | ((with_reducible refine gate_callee (f := 30) rfl ?_); refine goesL_ (some 50) rfl rfl Tryd.func30 (by kernel_rfl) rfl #[.string (⟨#[40, 91, 123, 194, 171, 194, 191, 194, 161, 226, 128, 152, 226, 128, 156, 227, 128, 140]⟩ : ByteArray), .int .i64 a0] rfl (by (try simp only [List.map_toArray, List.map_cons, List.map_nil]); first | done | rfl | (simp only [List.length_drop, List.length_take]; rfl)) ?_; (with_reducible refine (chanceryref3_has.calls (⟨#[40, 91, 123, 194, 171, 194, 191, 194, 161, 226, 128, 152, 226, 128, 156, 227, 128, 140]⟩ : ByteArray) a0 false _ A19.out).mono ?_); rintro e w24 ⟨rfl, hb⟩; refine ⟨_, rfl, ?_⟩; have n0_ := Aside0.mk (below_step (by repeat (first | (with_reducible first | exact HB.out | apply below_alloc | apply pw_below_drewN | apply below_drew1) | exact HB.out)) hb); clear HB; have HB := n0_; clear n0_; (try clear hb); (try clear hb2); (try clear hk); (try clear hi)) | ((with_reducible refine gate_callee (f := 30) rfl ?_); refine goesL_ (some 53) rfl rfl Tryd.func30 (by kernel_rfl) rfl #[.string (⟨#[41, 93, 125, 44, 46, 58, 59, 33, 63, 194, 187, 226, 128, 153, 226, 128, 157, 226, 128, 166, 227, 128, 129, 227, 128, 130, 227, 128, 141]⟩ : ByteArray), .int .i64 a0] rfl (by (try simp only [List.map_toArray, List.map_cons, List.map_nil]); first | done | rfl | (simp only [List.length_drop, List.length_take]; rfl)) ?_; (with_reducible refine (chanceryref3_has.calls (⟨#[41, 93, 125, 44, 46, 58, 59, 33, 63, 194, 187, 226, 128, 153, 226, 128, 157, 226, 128, 166, 227, 128, 129, 227, 128, 130, 227, 128, 141]⟩ : ByteArray) a0 true _ A22.out).mono ?_); rintro e w25 ⟨rfl, hb⟩; refine ⟨_, rfl, ?_⟩; have n0_ := Aside0.mk (below_step (by repeat (first | (with_reducible first | exact HB.out | apply below_alloc | apply pw_below_drewN | apply below_drew1) | exact HB.out)) hb); clear HB; have HB := n0_; clear n0_; (try clear hb); (try clear hb2); (try clear hk); (try clear hi)))
                                go_ret
                                exact ⟨by first | rfl | (simp [errW_none, errW_some] <;> rfl) | (simp [*, errW_none, errW_some] <;> rfl), by repeat (first | (with_reducible first | exact HB.out | apply below_alloc | apply pw_below_drewN | apply below_drew1) | exact HB.out)⟩
                              · replace c23 := Bool.eq_false_iff.mpr c23
                                subst c23
                                have H1 : (if a0 = 65532 then (chanceryref3_breakClass.j3 kj11 a0 true) else ((chanceryref3_In.f a0 11904 42191).bind fun t141 => (if t141 = true then (chanceryref3_breakClass.j3 kj11 a0 true) else ((chanceryref3_In.f a0 44032 55203).bind fun t142 => (if t142 = true then (chanceryref3_breakClass.j3 kj11 a0 true) else ((chanceryref3_In.f a0 63744 64255).bind fun t143 => (if t143 = true then (chanceryref3_breakClass.j3 kj11 a0 true) else ((chanceryref3_In.f a0 65280 65376).bind fun t144 => (if t144 = true then (chanceryref3_breakClass.j3 kj11 a0 true) else ((chanceryref3_In.f a0 131072 262141).bind fun t145 => (chanceryref3_breakClass.j3 kj11 a0 t145))))))))))) = some r := by rw [if_neg (show ¬ (false = true) by decide)] at H; exact H
                                clear H
                                have H := H1
                                clear H1
                                have HC26 := Aside0.mk H
                                clear H
                                go_upto_region 19 with (first | ((with_reducible refine gate_callee (f := 16) rfl ?_); refine goesL_ (some 47) rfl rfl Tryd.func16 (by kernel_rfl) rfl #[.int .i64 a0, .int .i64 48, .int .i64 57] rfl (by (try simp only [List.map_toArray, List.map_cons, List.map_nil]); first | done | rfl | (simp only [List.length_drop, List.length_take]; rfl)) ?_; (with_reducible refine (chanceryref3_In.calls a0 48 57 false _ A17.out).mono ?_); rintro e w' ⟨rfl, ⟨nd, rfl⟩⟩; refine ⟨_, rfl, ?_⟩) | ((with_reducible refine gate_callee (f := 30) rfl ?_); refine goesL_ (some 50) rfl rfl Tryd.func30 (by kernel_rfl) rfl #[.string (⟨#[40, 91, 123, 194, 171, 194, 191, 194, 161, 226, 128, 152, 226, 128, 156, 227, 128, 140]⟩ : ByteArray), .int .i64 a0] rfl (by (try simp only [List.map_toArray, List.map_cons, List.map_nil]); first | done | rfl | (simp only [List.length_drop, List.length_take]; rfl)) ?_; (with_reducible refine (chanceryref3_has.calls (⟨#[40, 91, 123, 194, 171, 194, 191, 194, 161, 226, 128, 152, 226, 128, 156, 227, 128, 140]⟩ : ByteArray) a0 false _ A19.out).mono ?_); rintro e w27 ⟨rfl, hb⟩; refine ⟨_, rfl, ?_⟩; have n0_ := Aside0.mk (below_step (by repeat (first | (with_reducible first | exact HB.out | apply below_alloc | apply pw_below_drewN | apply below_drew1) | exact HB.out)) hb); clear HB; have HB := n0_; clear n0_; (try clear hb); (try clear hb2); (try clear hk); (try clear hi)) | ((with_reducible refine gate_callee (f := 30) rfl ?_); refine goesL_ (some 53) rfl rfl Tryd.func30 (by kernel_rfl) rfl #[.string (⟨#[41, 93, 125, 44, 46, 58, 59, 33, 63, 194, 187, 226, 128, 153, 226, 128, 157, 226, 128, 166, 227, 128, 129, 227, 128, 130, 227, 128, 141]⟩ : ByteArray), .int .i64 a0] rfl (by (try simp only [List.map_toArray, List.map_cons, List.map_nil]); first | done | rfl | (simp only [List.length_drop, List.length_take]; rfl)) ?_; (with_reducible refine (chanceryref3_has.calls (⟨#[41, 93, 125, 44, 46, 58, 59, 33, 63, 194, 187, 226, 128, 153, 226, 128, 157, 226, 128, 166, 227, 128, 129, 227, 128, 130, 227, 128, 141]⟩ : ByteArray) a0 false _ A22.out).mono ?_); rintro e w28 ⟨rfl, hb⟩; refine ⟨_, rfl, ?_⟩; have n0_ := Aside0.mk (below_step (by repeat (first | (with_reducible first | exact HB.out | apply below_alloc | apply pw_below_drewN | apply below_drew1) | exact HB.out)) hb); clear HB; have HB := n0_; clear n0_; (try clear hb); (try clear hb2); (try clear hk); (try clear hi)))
                                (try simp only [Act.put, List.setIfInBounds_toArray, List.set_cons_zero, List.set_cons_succ])
                                go_cut [54] (fun v54 wc => ∃ (kq : Nat) (x54_25 : Bool), v54 = .bool x54_25 ∧ Aside0 (chanceryref3_breakClass.j3 kq a0 x54_25 = some r) ∧ Aside0 (kq ≤ kj11) ∧ Aside0 (Below w.heap.size w wc))
                                case first =>
                                  have H := HC26.out
                                  clear HC26
                                  by_cases c29 : a0 = 65532
                                  · rw [if_pos c29] at H
                                    have c29b0 : (a0 == 65532) = true := beq_iff_eq.mpr c29
                                    have c29b1 : (a0 != 65532) = false := bne_eq_false_iff_eq.mpr c29
                                    clear c29
                                    (first | rw [c29b0] | (simp only [i64_w, i32_w]; rw [c29b0]) | skip)
                                    have H' := Aside0.mk H
                                    clear H
                                    go_wp2
                                    go_meet
                                    case rel => exact ⟨_, (true), (by first | rfl | (simp; done) | (simp [*]; done)), H', ⟨by have := HJ2.out; have := HJ6.out; have := HJ11.out; first | omega | exact Nat.le_refl _⟩, ⟨by repeat (first | (with_reducible first | exact HB.out | apply below_alloc | apply pw_below_drewN | apply below_drew1) | exact HB.out)⟩⟩
                                  · rw [if_neg c29] at H
                                    have c29b0 : (a0 == 65532) = false := beq_eq_false_iff_ne.mpr c29
                                    have c29b1 : (a0 != 65532) = true := bne_iff_ne.mpr c29
                                    (first | rw [c29b0] | (simp only [i64_w, i32_w]; rw [c29b0]) | skip)
                                    replace H := Option.bind_eq_some_iff.mp H
                                    obtain ⟨t141, A300, H⟩ := H
                                    replace H : (if t141 = true then (chanceryref3_breakClass.j3 kj11 a0 true) else ((chanceryref3_In.f a0 44032 55203).bind fun t142 => (if t142 = true then (chanceryref3_breakClass.j3 kj11 a0 true) else ((chanceryref3_In.f a0 63744 64255).bind fun t143 => (if t143 = true then (chanceryref3_breakClass.j3 kj11 a0 true) else ((chanceryref3_In.f a0 65280 65376).bind fun t144 => (if t144 = true then (chanceryref3_breakClass.j3 kj11 a0 true) else ((chanceryref3_In.f a0 131072 262141).bind fun t145 => (chanceryref3_breakClass.j3 kj11 a0 t145))))))))) = some r := H
                                    have A30 := Aside0.mk A300
                                    clear A300
                                    by_cases c31 : t141 = true
                                    · subst c31
                                      have H1 : (chanceryref3_breakClass.j3 kj11 a0 true) = some r := by rw [if_pos rfl] at H; exact H
                                      clear H
                                      have H := H1
                                      clear H1
                                      have H' := Aside0.mk H
                                      clear H
                                      go_wp2_with (first | (go_at_call 16; (with_reducible refine (chanceryref3_In.calls a0 11904 42191 true _ A30.out).mono ?_); rintro e w' ⟨rfl, ⟨nd, rfl⟩⟩))
                                      go_meet
                                      case rel => exact ⟨_, (true), (by first | rfl | (simp; done) | (simp [*]; done)), H', ⟨by have := HJ2.out; have := HJ6.out; have := HJ11.out; first | omega | exact Nat.le_refl _⟩, ⟨by repeat (first | (with_reducible first | exact HB.out | apply below_alloc | apply pw_below_drewN | apply below_drew1) | exact HB.out)⟩⟩
                                    · replace c31 := Bool.eq_false_iff.mpr c31
                                      subst c31
                                      have H1 : ((chanceryref3_In.f a0 44032 55203).bind fun t142 => (if t142 = true then (chanceryref3_breakClass.j3 kj11 a0 true) else ((chanceryref3_In.f a0 63744 64255).bind fun t143 => (if t143 = true then (chanceryref3_breakClass.j3 kj11 a0 true) else ((chanceryref3_In.f a0 65280 65376).bind fun t144 => (if t144 = true then (chanceryref3_breakClass.j3 kj11 a0 true) else ((chanceryref3_In.f a0 131072 262141).bind fun t145 => (chanceryref3_breakClass.j3 kj11 a0 t145)))))))) = some r := by rw [if_neg (show ¬ (false = true) by decide)] at H; exact H
                                      clear H
                                      have H := H1
                                      clear H1
                                      replace H := Option.bind_eq_some_iff.mp H
                                      obtain ⟨t142, A320, H⟩ := H
                                      replace H : (if t142 = true then (chanceryref3_breakClass.j3 kj11 a0 true) else ((chanceryref3_In.f a0 63744 64255).bind fun t143 => (if t143 = true then (chanceryref3_breakClass.j3 kj11 a0 true) else ((chanceryref3_In.f a0 65280 65376).bind fun t144 => (if t144 = true then (chanceryref3_breakClass.j3 kj11 a0 true) else ((chanceryref3_In.f a0 131072 262141).bind fun t145 => (chanceryref3_breakClass.j3 kj11 a0 t145))))))) = some r := H
                                      have A32 := Aside0.mk A320
                                      clear A320
                                      by_cases c33 : t142 = true
                                      · subst c33
                                        have H1 : (chanceryref3_breakClass.j3 kj11 a0 true) = some r := by rw [if_pos rfl] at H; exact H
                                        clear H
                                        have H := H1
                                        clear H1
                                        have H' := Aside0.mk H
                                        clear H
                                        go_wp2_with (first | (go_at_call 16; (with_reducible refine (chanceryref3_In.calls a0 11904 42191 false _ A30.out).mono ?_); rintro e w' ⟨rfl, ⟨nd, rfl⟩⟩) | (go_at_call 16; (with_reducible refine (chanceryref3_In.calls a0 44032 55203 true _ A32.out).mono ?_); rintro e w' ⟨rfl, ⟨nd, rfl⟩⟩))
                                        go_meet
                                        case rel => exact ⟨_, (true), (by first | rfl | (simp; done) | (simp [*]; done)), H', ⟨by have := HJ2.out; have := HJ6.out; have := HJ11.out; first | omega | exact Nat.le_refl _⟩, ⟨by repeat (first | (with_reducible first | exact HB.out | apply below_alloc | apply pw_below_drewN | apply below_drew1) | exact HB.out)⟩⟩
                                      · replace c33 := Bool.eq_false_iff.mpr c33
                                        subst c33
                                        have H1 : ((chanceryref3_In.f a0 63744 64255).bind fun t143 => (if t143 = true then (chanceryref3_breakClass.j3 kj11 a0 true) else ((chanceryref3_In.f a0 65280 65376).bind fun t144 => (if t144 = true then (chanceryref3_breakClass.j3 kj11 a0 true) else ((chanceryref3_In.f a0 131072 262141).bind fun t145 => (chanceryref3_breakClass.j3 kj11 a0 t145)))))) = some r := by rw [if_neg (show ¬ (false = true) by decide)] at H; exact H
                                        clear H
                                        have H := H1
                                        clear H1
                                        replace H := Option.bind_eq_some_iff.mp H
                                        obtain ⟨t143, A340, H⟩ := H
                                        replace H : (if t143 = true then (chanceryref3_breakClass.j3 kj11 a0 true) else ((chanceryref3_In.f a0 65280 65376).bind fun t144 => (if t144 = true then (chanceryref3_breakClass.j3 kj11 a0 true) else ((chanceryref3_In.f a0 131072 262141).bind fun t145 => (chanceryref3_breakClass.j3 kj11 a0 t145))))) = some r := H
                                        have A34 := Aside0.mk A340
                                        clear A340
                                        by_cases c35 : t143 = true
                                        · subst c35
                                          have H1 : (chanceryref3_breakClass.j3 kj11 a0 true) = some r := by rw [if_pos rfl] at H; exact H
                                          clear H
                                          have H := H1
                                          clear H1
                                          have H' := Aside0.mk H
                                          clear H
                                          go_wp2_with (first | (go_at_call 16; (with_reducible refine (chanceryref3_In.calls a0 11904 42191 false _ A30.out).mono ?_); rintro e w' ⟨rfl, ⟨nd, rfl⟩⟩) | (go_at_call 16; (with_reducible refine (chanceryref3_In.calls a0 44032 55203 false _ A32.out).mono ?_); rintro e w' ⟨rfl, ⟨nd, rfl⟩⟩) | (go_at_call 16; (with_reducible refine (chanceryref3_In.calls a0 63744 64255 true _ A34.out).mono ?_); rintro e w' ⟨rfl, ⟨nd, rfl⟩⟩))
                                          go_meet
                                          case rel => exact ⟨_, (true), (by first | rfl | (simp; done) | (simp [*]; done)), H', ⟨by have := HJ2.out; have := HJ6.out; have := HJ11.out; first | omega | exact Nat.le_refl _⟩, ⟨by repeat (first | (with_reducible first | exact HB.out | apply below_alloc | apply pw_below_drewN | apply below_drew1) | exact HB.out)⟩⟩
                                        · replace c35 := Bool.eq_false_iff.mpr c35
                                          subst c35
                                          have H1 : ((chanceryref3_In.f a0 65280 65376).bind fun t144 => (if t144 = true then (chanceryref3_breakClass.j3 kj11 a0 true) else ((chanceryref3_In.f a0 131072 262141).bind fun t145 => (chanceryref3_breakClass.j3 kj11 a0 t145)))) = some r := by rw [if_neg (show ¬ (false = true) by decide)] at H; exact H
                                          clear H
                                          have H := H1
                                          clear H1
                                          replace H := Option.bind_eq_some_iff.mp H
                                          obtain ⟨t144, A360, H⟩ := H
                                          replace H : (if t144 = true then (chanceryref3_breakClass.j3 kj11 a0 true) else ((chanceryref3_In.f a0 131072 262141).bind fun t145 => (chanceryref3_breakClass.j3 kj11 a0 t145))) = some r := H
                                          have A36 := Aside0.mk A360
                                          clear A360
                                          by_cases c37 : t144 = true
                                          · subst c37
                                            have H1 : (chanceryref3_breakClass.j3 kj11 a0 true) = some r := by rw [if_pos rfl] at H; exact H
                                            clear H
                                            have H := H1
                                            clear H1
                                            have H' := Aside0.mk H
                                            clear H
                                            go_wp2_with (first | (go_at_call 16; (with_reducible refine (chanceryref3_In.calls a0 11904 42191 false _ A30.out).mono ?_); rintro e w' ⟨rfl, ⟨nd, rfl⟩⟩) | (go_at_call 16; (with_reducible refine (chanceryref3_In.calls a0 44032 55203 false _ A32.out).mono ?_); rintro e w' ⟨rfl, ⟨nd, rfl⟩⟩) | (go_at_call 16; (with_reducible refine (chanceryref3_In.calls a0 63744 64255 false _ A34.out).mono ?_); rintro e w' ⟨rfl, ⟨nd, rfl⟩⟩) | (go_at_call 16; (with_reducible refine (chanceryref3_In.calls a0 65280 65376 true _ A36.out).mono ?_); rintro e w' ⟨rfl, ⟨nd, rfl⟩⟩))
                                            go_meet
                                            case rel => exact ⟨_, (true), (by first | rfl | (simp; done) | (simp [*]; done)), H', ⟨by have := HJ2.out; have := HJ6.out; have := HJ11.out; first | omega | exact Nat.le_refl _⟩, ⟨by repeat (first | (with_reducible first | exact HB.out | apply below_alloc | apply pw_below_drewN | apply below_drew1) | exact HB.out)⟩⟩
                                          · replace c37 := Bool.eq_false_iff.mpr c37
                                            subst c37
                                            have H1 : ((chanceryref3_In.f a0 131072 262141).bind fun t145 => (chanceryref3_breakClass.j3 kj11 a0 t145)) = some r := by rw [if_neg (show ¬ (false = true) by decide)] at H; exact H
                                            clear H
                                            have H := H1
                                            clear H1
                                            replace H := Option.bind_eq_some_iff.mp H
                                            obtain ⟨t145, A380, H⟩ := H
                                            replace H : (chanceryref3_breakClass.j3 kj11 a0 t145) = some r := H
                                            have A38 := Aside0.mk A380
                                            clear A380
                                            have H' := Aside0.mk H
                                            clear H
                                            go_wp2_with (first | (go_at_call 16; (with_reducible refine (chanceryref3_In.calls a0 11904 42191 false _ A30.out).mono ?_); rintro e w' ⟨rfl, ⟨nd, rfl⟩⟩) | (go_at_call 16; (with_reducible refine (chanceryref3_In.calls a0 44032 55203 false _ A32.out).mono ?_); rintro e w' ⟨rfl, ⟨nd, rfl⟩⟩) | (go_at_call 16; (with_reducible refine (chanceryref3_In.calls a0 63744 64255 false _ A34.out).mono ?_); rintro e w' ⟨rfl, ⟨nd, rfl⟩⟩) | (go_at_call 16; (with_reducible refine (chanceryref3_In.calls a0 65280 65376 false _ A36.out).mono ?_); rintro e w' ⟨rfl, ⟨nd, rfl⟩⟩) | (go_at_call 16; (with_reducible refine (chanceryref3_In.calls a0 131072 262141 t145 _ A38.out).mono ?_); rintro e w' ⟨rfl, ⟨nd, rfl⟩⟩))
                                            go_meet
                                            case rel => exact ⟨_, (t145), (by first | rfl | (simp; done) | (simp [*]; done)), H', ⟨by have := HJ2.out; have := HJ6.out; have := HJ11.out; first | omega | exact Nat.le_refl _⟩, ⟨by repeat (first | (with_reducible first | exact HB.out | apply below_alloc | apply pw_below_drewN | apply below_drew1) | exact HB.out)⟩⟩
                                case rest =>
                                  clear HC26
                                  try clear c1
                                  try clear c2
                                  try clear c2b0
                                  try clear c2b1
                                  try clear p2
                                  try clear c3
                                  try clear c4
                                  try clear c4b0
                                  try clear c4b1
                                  try clear c5
                                  try clear c6
                                  try clear c6b0
                                  try clear c6b1
                                  try clear c8
                                  try clear c8b0
                                  try clear c8b1
                                  try clear c9
                                  try clear c9b0
                                  try clear c9b1
                                  try clear c10
                                  try clear c10b0
                                  try clear c10b1
                                  try clear c11
                                  try clear c13
                                  try clear c13b0
                                  try clear c13b1
                                  try clear c14
                                  try clear c14b0
                                  try clear c14b1
                                  try clear c15
                                  try clear c16
                                  try clear c16b0
                                  try clear c16b1
                                  try clear c18
                                  try clear c20
                                  try clear c23
                                  try clear c29
                                  try clear c29b0
                                  try clear c29b1
                                  try clear c30
                                  try clear c31
                                  try clear c33
                                  try clear c34
                                  try clear c35
                                  try clear c37
                                  try clear p2
                                  obtain ⟨kq, x54_25, rfl, HA, HJ25, HB⟩ := hcut
                                  cases kq with
                                  | zero => exact absurd HA.out (by simp [chanceryref3_breakClass.j3])
                                  | succ kj25 =>
                                    have H := HA.out
                                    clear HA
                                    simp only [chanceryref3_breakClass.j3] at H
                                    by_cases c39 : x54_25 = true
                                    · subst c39
                                      have H1 : (some 119) = some r := by rw [if_pos rfl] at H; exact H
                                      clear H
                                      have H := H1
                                      clear H1
                                      obtain rfl := Option.some.inj H
                                      go_wp2
                                      go_ret
                                      exact ⟨by first | rfl | (simp [errW_none, errW_some] <;> rfl) | (simp [*, errW_none, errW_some] <;> rfl), by repeat (first | (with_reducible first | exact HB.out | apply below_alloc | apply pw_below_drewN | apply below_drew1) | exact HB.out)⟩
                                    · replace c39 := Bool.eq_false_iff.mpr c39
                                      subst c39
                                      have H1 : (if a0 = 8205 then (some 109) else ((chanceryref3_IsMark.f a0).bind fun t146 => (if t146 = true then (some 109) else (some 120)))) = some r := by rw [if_neg (show ¬ (false = true) by decide)] at H; exact H
                                      clear H
                                      have H := H1
                                      clear H1
                                      by_cases c40 : a0 = 8205
                                      · rw [if_pos c40] at H
                                        have c40b0 : (a0 == 8205) = true := beq_iff_eq.mpr c40
                                        have c40b1 : (a0 != 8205) = false := bne_eq_false_iff_eq.mpr c40
                                        clear c40
                                        obtain rfl := Option.some.inj H
                                        go_wp2
                                        go_ret
                                        exact ⟨by first | rfl | (simp [errW_none, errW_some] <;> rfl) | (simp [*, errW_none, errW_some] <;> rfl), by repeat (first | (with_reducible first | exact HB.out | apply below_alloc | apply pw_below_drewN | apply below_drew1) | exact HB.out)⟩
                                      · rw [if_neg c40] at H
                                        have c40b0 : (a0 == 8205) = false := beq_eq_false_iff_ne.mpr c40
                                        have c40b1 : (a0 != 8205) = true := bne_iff_ne.mpr c40
                                        replace H := Option.bind_eq_some_iff.mp H
                                        obtain ⟨t146, A410, H⟩ := H
                                        replace H : (if t146 = true then (some 109) else (some 120)) = some r := H
                                        have A41 := Aside0.mk A410
                                        clear A410
                                        by_cases c42 : t146 = true
                                        · subst c42
                                          have H1 : (some 109) = some r := by rw [if_pos rfl] at H; exact H
                                          clear H
                                          have H := H1
                                          clear H1
                                          obtain rfl := Option.some.inj H
                                          go_wp2_with (first | (go_at_call 22; (with_reducible refine (chanceryref3_IsMark.calls a0 true _ A41.out).mono ?_); rintro e w' ⟨rfl, ⟨nd, rfl⟩⟩))
                                          go_ret
                                          exact ⟨by first | rfl | (simp [errW_none, errW_some] <;> rfl) | (simp [*, errW_none, errW_some] <;> rfl), by repeat (first | (with_reducible first | exact HB.out | apply below_alloc | apply pw_below_drewN | apply below_drew1) | exact HB.out)⟩
                                        · replace c42 := Bool.eq_false_iff.mpr c42
                                          subst c42
                                          have H1 : (some 120) = some r := by rw [if_neg (show ¬ (false = true) by decide)] at H; exact H
                                          clear H
                                          have H := H1
                                          clear H1
                                          obtain rfl := Option.some.inj H
                                          go_wp2_with (first | (go_at_call 22; (with_reducible refine (chanceryref3_IsMark.calls a0 false _ A41.out).mono ?_); rintro e w' ⟨rfl, ⟨nd, rfl⟩⟩))
                                          go_ret
                                          exact ⟨by first | rfl | (simp [errW_none, errW_some] <;> rfl) | (simp [*, errW_none, errW_some] <;> rfl), by repeat (first | (with_reducible first | exact HB.out | apply below_alloc | apply pw_below_drewN | apply below_drew1) | exact HB.out)⟩

end Go.Proofs.YtihmbddneapooaaDoor.QBR
