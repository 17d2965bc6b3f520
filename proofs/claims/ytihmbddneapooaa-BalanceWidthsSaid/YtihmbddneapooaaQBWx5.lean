-- WRITTEN BY wip/print2.py, a program of this session, over contracts of this session's own; no print of print.sh
import Derived.Test.YtihmbddneapooaaQBWx0
import Derived.Test.YtihmbddneapooaaQBWx2
import Derived.Test.YtihmbddneapooaaQBWx3
import Derived.Test.YtihmbddneapooaaQBWx4
namespace Go.Proofs.Ytihmbddneapooaa.QBW
open Go.RowKit Go.Proofs.Ytihmbddneapooaa.QBA Go.Proofs.Ytihmbddneapooaa.HandBL Go.Proofs.YtihmbddneapooaaW.PrintWords Go.Proofs.YtihmbddneapooaaW.PrintLast Go.Proofs.YtihmbddneapooaaW.PrintMore
attribute [local go_sem] max2_int min2_int max_two min_two max_three min_three max_four min_four   -- for this text's walks alone
set_option linter.unusedVariables false
set_option linter.unusedSimpArgs false

/-! ### chancerylaw3_BalanceWidths: function 11 -/
mutual
def chancerylaw3_BalanceWidths.j0 : Nat → Int → List (S94) → Int → List Int → Int → Int → Bool → Option (Bool)
  | 0, _, _, _, _, _, _, _ => none
  | k + 1, x0, x1, x2, x7, x8, x9, x28 => if x28 = true then (chancerylaw3_BalanceWidths.j1 k x0 x1 x2 x7 x8 2) else (chancerylaw3_BalanceWidths.j1 k x0 x1 x2 x7 x8 x9)
def chancerylaw3_BalanceWidths.j1 : Nat → Int → List (S94) → Int → List Int → Int → Int → Option (Bool)
  | 0, _, _, _, _, _, _ => none
  | k + 1, x0, x1, x2, x7, x8, x9 => if x9 = 0 then (if x8 = 0 then ((chanceryref3_ColumnWidths.f k x0 x1 x2).bind fun t185 => ((chanceryref3_SameInts.f k x7 t185).bind fun t188 => (some t188))) else (some false)) else (if x8 = x9 then (some ((x7.length : Int) == 0)) else (some false))
end
def chancerylaw3_BalanceWidths.f (k : Nat) (a0 : Int) (l1 : List (S94)) (a2 : Int) : Option (Bool) := (chancerylaw3_balanced.f k).bind fun t178 => (if t178 = true then ((balance_Widths.f k a0 l1 a2).bind fun bt179 => ((chanceryref3_NeedsError.f k a0 l1).bind fun t183 => (if t183 = 0 then ((chanceryref3_In.f a2 0 31680).bind fun t184 => (chancerylaw3_BalanceWidths.j0 k a0 l1 a2 bt179.1 bt179.2 t183 (!t184))) else (chancerylaw3_BalanceWidths.j0 k a0 l1 a2 bt179.1 bt179.2 t183 false)))) else (some false))
theorem chancerylaw3_BalanceWidths.mono_l : ∀ k, (∀ y0 y1 y2 y3 y4 y5 y6, LeO (chancerylaw3_BalanceWidths.j0 k y0 y1 y2 y3 y4 y5 y6) (chancerylaw3_BalanceWidths.j0 (k + 1) y0 y1 y2 y3 y4 y5 y6)) ∧ (∀ y0 y1 y2 y3 y4 y5, LeO (chancerylaw3_BalanceWidths.j1 k y0 y1 y2 y3 y4 y5) (chancerylaw3_BalanceWidths.j1 (k + 1) y0 y1 y2 y3 y4 y5))
  | 0 => ⟨fun _ _ _ _ _ _ _ r h => by simp [chancerylaw3_BalanceWidths.j0] at h, fun _ _ _ _ _ _ r h => by simp [chancerylaw3_BalanceWidths.j1] at h⟩
  | k + 1 => by
    obtain ⟨ih0, ih1⟩ := chancerylaw3_BalanceWidths.mono_l k
    refine ⟨?_, ?_⟩
    · intro y0 y1 y2 y3 y4 y5 y6
      unfold chancerylaw3_BalanceWidths.j0
      repeat' first
      | (with_reducible exact ih0 _ _ _ _ _ _ _)
      | (with_reducible exact ih1 _ _ _ _ _ _)
      | (with_reducible exact balance_Widths.mono _ _ _ _)
      | (with_reducible exact chancerylaw3_balanced.mono _)
      | (with_reducible exact chanceryref3_ColumnWidths.mono _ _ _ _)
      | (with_reducible exact chanceryref3_NeedsError.mono _ _ _)
      | (with_reducible exact chanceryref3_SameInts.mono _ _ _)
      | (with_reducible exact LeO.refl _)
      | (with_reducible exact LeO.none _)
      | (with_reducible refine LeO.ite ?_ ?_)
      | (with_reducible refine LeO.bind ?_ (fun _ => ?_))
      | exact ih0 _ _ _ _ _ _ _
      | exact ih1 _ _ _ _ _ _
      | exact balance_Widths.mono _ _ _ _
      | exact chancerylaw3_balanced.mono _
      | exact chanceryref3_ColumnWidths.mono _ _ _ _
      | exact chanceryref3_NeedsError.mono _ _ _
      | exact chanceryref3_SameInts.mono _ _ _
      | exact LeO.none _
      | refine LeO.ite ?_ ?_
      | refine LeO.bind ?_ (fun _ => ?_)
    · intro y0 y1 y2 y3 y4 y5
      unfold chancerylaw3_BalanceWidths.j1
      repeat' first
      | (with_reducible exact ih0 _ _ _ _ _ _ _)
      | (with_reducible exact ih1 _ _ _ _ _ _)
      | (with_reducible exact balance_Widths.mono _ _ _ _)
      | (with_reducible exact chancerylaw3_balanced.mono _)
      | (with_reducible exact chanceryref3_ColumnWidths.mono _ _ _ _)
      | (with_reducible exact chanceryref3_NeedsError.mono _ _ _)
      | (with_reducible exact chanceryref3_SameInts.mono _ _ _)
      | (with_reducible exact LeO.refl _)
      | (with_reducible exact LeO.none _)
      | (with_reducible refine LeO.ite ?_ ?_)
      | (with_reducible refine LeO.bind ?_ (fun _ => ?_))
      | exact ih0 _ _ _ _ _ _ _
      | exact ih1 _ _ _ _ _ _
      | exact balance_Widths.mono _ _ _ _
      | exact chancerylaw3_balanced.mono _
      | exact chanceryref3_ColumnWidths.mono _ _ _ _
      | exact chanceryref3_NeedsError.mono _ _ _
      | exact chanceryref3_SameInts.mono _ _ _
      | exact LeO.none _
      | refine LeO.ite ?_ ?_
      | refine LeO.bind ?_ (fun _ => ?_)
theorem chancerylaw3_BalanceWidths.mono : ∀ a0 a1 a2 k, LeO (chancerylaw3_BalanceWidths.f k a0 a1 a2) (chancerylaw3_BalanceWidths.f (k + 1) a0 a1 a2) := by
  intro a0 a1 a2 k
  obtain ⟨ih0, ih1⟩ := chancerylaw3_BalanceWidths.mono_l k
  unfold chancerylaw3_BalanceWidths.f
  repeat' first
      | (with_reducible exact ih0 _ _ _ _ _ _ _)
      | (with_reducible exact ih1 _ _ _ _ _ _)
      | (with_reducible exact balance_Widths.mono _ _ _ _)
      | (with_reducible exact chancerylaw3_balanced.mono _)
      | (with_reducible exact chanceryref3_ColumnWidths.mono _ _ _ _)
      | (with_reducible exact chanceryref3_NeedsError.mono _ _ _)
      | (with_reducible exact chanceryref3_SameInts.mono _ _ _)
      | (with_reducible exact LeO.refl _)
      | (with_reducible exact LeO.none _)
      | (with_reducible refine LeO.ite ?_ ?_)
      | (with_reducible refine LeO.bind ?_ (fun _ => ?_))
      | exact ih0 _ _ _ _ _ _ _
      | exact ih1 _ _ _ _ _ _
      | exact balance_Widths.mono _ _ _ _
      | exact chancerylaw3_balanced.mono _
      | exact chanceryref3_ColumnWidths.mono _ _ _ _
      | exact chanceryref3_NeedsError.mono _ _ _
      | exact chanceryref3_SameInts.mono _ _ _
      | exact LeO.none _
      | refine LeO.ite ?_ ?_
      | refine LeO.bind ?_ (fun _ => ?_)
set_option maxHeartbeats 8000000 in
set_option maxRecDepth 100000 in
theorem chancerylaw3_BalanceWidths.calls (k : Nat) (a0 : Int) (A1 : Option Addr) (c1 : Nat) (l1 : List (S94)) (a2 : Int) (r : Bool) (w : World) (hr1 : Kd.C k94 w A1 l1.length l1) (hc1 : l1.length ≤ c1) (h : chancerylaw3_BalanceWidths.f k a0 l1 a2 = some r) :
    Calls Try.prog 11 #[.int .i64 a0, .slice A1 l1.length c1, .int .i64 a2] w fun e w' => e = .returned (.bool r) ∧ Below w.heap.size w w' := by
  have HR1 := Aside0.mk hr1
  have HC1 := Aside0.mk hc1
  clear hr1 hc1
  have HB := Aside0.mk (Below.refl w.heap.size w)
  have H : ((chancerylaw3_balanced.f k).bind fun t178 => (if t178 = true then ((balance_Widths.f k a0 l1 a2).bind fun bt179 => ((chanceryref3_NeedsError.f k a0 l1).bind fun t183 => (if t183 = 0 then ((chanceryref3_In.f a2 0 31680).bind fun t184 => (chancerylaw3_BalanceWidths.j0 k a0 l1 a2 bt179.1 bt179.2 t183 (!t184))) else (chancerylaw3_BalanceWidths.j0 k a0 l1 a2 bt179.1 bt179.2 t183 false)))) else (some false))) = some r := h
  clear h
  replace H := Option.bind_eq_some_iff.mp H
  obtain ⟨t178, A40, H⟩ := H
  replace H : (if t178 = true then ((balance_Widths.f k a0 l1 a2).bind fun bt179 => ((chanceryref3_NeedsError.f k a0 l1).bind fun t183 => (if t183 = 0 then ((chanceryref3_In.f a2 0 31680).bind fun t184 => (chancerylaw3_BalanceWidths.j0 k a0 l1 a2 bt179.1 bt179.2 t183 (!t184))) else (chancerylaw3_BalanceWidths.j0 k a0 l1 a2 bt179.1 bt179.2 t183 false)))) else (some false)) = some r := H
  have A4 := Aside0.mk A40
  clear A40
  by_cases c5 : t178 = true
  · subst c5
    have H1 : ((balance_Widths.f k a0 l1 a2).bind fun bt179 => ((chanceryref3_NeedsError.f k a0 l1).bind fun t183 => (if t183 = 0 then ((chanceryref3_In.f a2 0 31680).bind fun t184 => (chancerylaw3_BalanceWidths.j0 k a0 l1 a2 bt179.1 bt179.2 t183 (!t184))) else (chancerylaw3_BalanceWidths.j0 k a0 l1 a2 bt179.1 bt179.2 t183 false)))) = some r := by rw [if_pos rfl] at H; exact H
    clear H
    have H := H1
    clear H1
    replace H := Option.bind_eq_some_iff.mp H
    obtain ⟨⟨t179, t180⟩, A60, H⟩ := H
    replace H : ((chanceryref3_NeedsError.f k a0 l1).bind fun t183 => (if t183 = 0 then ((chanceryref3_In.f a2 0 31680).bind fun t184 => (chancerylaw3_BalanceWidths.j0 k a0 l1 a2 t179 t180 t183 (!t184))) else (chancerylaw3_BalanceWidths.j0 k a0 l1 a2 t179 t180 t183 false))) = some r := H
    have A6 := Aside0.mk A60
    clear A60
    replace H := Option.bind_eq_some_iff.mp H
    obtain ⟨t183, A70, H⟩ := H
    replace H : (if t183 = 0 then ((chanceryref3_In.f a2 0 31680).bind fun t184 => (chancerylaw3_BalanceWidths.j0 k a0 l1 a2 t179 t180 t183 (!t184))) else (chancerylaw3_BalanceWidths.j0 k a0 l1 a2 t179 t180 t183 false)) = some r := H
    have A7 := Aside0.mk A70
    clear A70
    have HC8 := Aside0.mk H
    clear H
    go_enter Try.func11, Try.ntmps11
    go_upto_region 5 with (first | ((with_reducible refine gate_callee (f := 37) rfl ?_); refine goesL_ (some 10) rfl rfl Try.func37 (by kernel_rfl) rfl #[] rfl (by (try simp only [List.map_toArray, List.map_cons, List.map_nil]); first | done | rfl | (simp only [List.length_drop, List.length_take]; rfl)) ?_; (with_reducible refine (chancerylaw3_balanced.calls k  true _ A4.out).mono ?_); rintro e w9 ⟨rfl, hb⟩; refine ⟨_, rfl, ?_⟩; have n0_ := Aside0.mk (below_step (by repeat (first | (with_reducible first | exact HB.out | apply below_alloc | apply pw_below_drewN | apply below_drew1) | exact HB.out)) hb); clear HB; have HB := n0_; clear n0_; (try clear hb); (try clear hb2); (try clear hk); (try clear hi)) | ((with_reducible refine gate_callee (f := 42) rfl ?_); refine goesL_ (some 16) rfl rfl Try.func42 (by kernel_rfl) rfl #[.int .i64 a0, .slice A1 l1.length c1, .int .i64 a2] rfl (by (try simp only [List.map_toArray, List.map_cons, List.map_nil]); first | done | rfl | (simp only [List.length_drop, List.length_take]; rfl)) ?_; (with_reducible refine (balance_Widths.calls k a0 _ _ l1 a2 t179 t180 _ ?side1 ?side2 A6.out).mono ?_); (case side1 => repeat (first | exact (Kd.C_below HR1.out HB.out) | (with_reducible refine Kd.C_alloc ?_ _) | (with_reducible refine Kd.C_drewN ?_ _) | (with_reducible refine Kd.C_drew ?_))); (case side2 => exact HC1.out); rintro e w10 ⟨v181, rfl, ho0, hb⟩; refine ⟨_, rfl, ?_⟩; have n0_ := Aside0.mk (Kd.R_lower ho0 (below_size (by repeat (first | (with_reducible first | exact HB.out | apply below_alloc | apply pw_below_drewN | apply below_drew1) | exact HB.out)))); have n1_ := Aside0.mk (below_step (by repeat (first | (with_reducible first | exact HB.out | apply below_alloc | apply pw_below_drewN | apply below_drew1) | exact HB.out)) hb); clear HB; have HO182 := n0_; have HB := n1_; clear n0_ n1_; (try clear hb); (try clear hb2); (try clear hk); (try clear hi); (try clear ho0)) | ((with_reducible refine gate_callee (f := 39) rfl ?_); refine goesL_ (some 21) rfl rfl Try.func39 (by kernel_rfl) rfl #[.int .i64 a0, .slice A1 l1.length c1] rfl (by (try simp only [List.map_toArray, List.map_cons, List.map_nil]); first | done | rfl | (simp only [List.length_drop, List.length_take]; rfl)) ?_; (with_reducible refine (chanceryref3_NeedsError.calls k a0 _ _ l1 t183 _ ?side1 ?side2 A7.out).mono ?_); (case side1 => repeat (first | exact (Kd.C_below HR1.out HB.out) | (with_reducible refine Kd.C_alloc ?_ _) | (with_reducible refine Kd.C_drewN ?_ _) | (with_reducible refine Kd.C_drew ?_))); (case side2 => exact HC1.out); rintro e w11 ⟨rfl, hb⟩; refine ⟨_, rfl, ?_⟩; have n0_ := Aside0.mk (Kd.R_below (by (with_reducible repeat (first | apply Kd.R_alloc | apply Kd.R_drewN | apply Kd.R_drew)); exact HO182.out) hb); have n1_ := Aside0.mk (below_step (by repeat (first | (with_reducible first | exact HB.out | apply below_alloc | apply pw_below_drewN | apply below_drew1) | exact HB.out)) hb); clear HO182; clear HB; have HO182 := n0_; have HB := n1_; clear n0_ n1_; (try clear hb); (try clear hb2); (try clear hk); (try clear hi)))
    (try simp only [Act.put, List.setIfInBounds_toArray, List.set_cons_zero, List.set_cons_succ])
    go_cut [28] (fun v28 wc => ∃ (kq : Nat) (x28_7 : Bool), v28 = .bool x28_7 ∧ Aside0 (chancerylaw3_BalanceWidths.j0 kq a0 l1 a2 t179 t180 t183 x28_7 = some r) ∧ Aside0 (kq ≤ k) ∧ Aside0 (Kd.R (Kd.int .i64) 3 wc w.heap.size (fun _ => True) v181 t179) ∧ Aside0 (Below w.heap.size w wc))
    case first =>
      have H := HC8.out
      clear HC8
      by_cases c12 : t183 = 0
      · rw [if_pos c12] at H
        have c12b0 : (t183 == 0) = true := beq_iff_eq.mpr c12
        have c12b1 : (t183 != 0) = false := bne_eq_false_iff_eq.mpr c12
        clear c12
        (first | rw [c12b0] | (simp only [i64_w, i32_w]; rw [c12b0]) | skip)
        replace H := Option.bind_eq_some_iff.mp H
        obtain ⟨t184, A130, H⟩ := H
        replace H : (chancerylaw3_BalanceWidths.j0 k a0 l1 a2 t179 t180 t183 (!t184)) = some r := H
        have A13 := Aside0.mk A130
        clear A130
        have H' := Aside0.mk H
        clear H
        go_wp2_with (first | (go_at_call 14; (with_reducible refine (chanceryref3_In.calls a2 0 31680 t184 _ A13.out).mono ?_); rintro e w' ⟨rfl, ⟨nd, rfl⟩⟩))
        go_meet
        case rel => exact ⟨_, (!t184), (by first | rfl | (simp; done) | (simp [*]; done)), H', ⟨by first | omega | exact Nat.le_refl _⟩, ⟨by (with_reducible repeat (first | apply Kd.R_alloc | apply Kd.R_drewN | apply Kd.R_drew)); exact HO182.out⟩, ⟨by repeat (first | (with_reducible first | exact HB.out | apply below_alloc | apply pw_below_drewN | apply below_drew1) | exact HB.out)⟩⟩
      · rw [if_neg c12] at H
        have c12b0 : (t183 == 0) = false := beq_eq_false_iff_ne.mpr c12
        have c12b1 : (t183 != 0) = true := bne_iff_ne.mpr c12
        (first | rw [c12b0] | (simp only [i64_w, i32_w]; rw [c12b0]) | skip)
        have H' := Aside0.mk H
        clear H
        go_wp2
        go_meet
        case rel => exact ⟨_, (false), (by first | rfl | (simp; done) | (simp [*]; done)), H', ⟨by first | omega | exact Nat.le_refl _⟩, ⟨by (with_reducible repeat (first | apply Kd.R_alloc | apply Kd.R_drewN | apply Kd.R_drew)); exact HO182.out⟩, ⟨by repeat (first | (with_reducible first | exact HB.out | apply below_alloc | apply pw_below_drewN | apply below_drew1) | exact HB.out)⟩⟩
    case rest =>
      clear HC8
      try clear c1
      try clear p2
      try clear c3
      try clear c4
      try clear c5
      try clear c11
      try clear c12
      try clear c12b0
      try clear c12b1
      obtain ⟨kq, x28_7, rfl, HA, HJ7, HO_7, HB⟩ := hcut
      cases kq with
      | zero => exact absurd HA.out (by simp [chancerylaw3_BalanceWidths.j0])
      | succ kj7 =>
        have H := HA.out
        clear HA
        simp only [chancerylaw3_BalanceWidths.j0] at H
        have HC14 := Aside0.mk H
        clear H
        go_upto_if 28 with (fail)
        go_cut [9] (fun v9 wc => ∃ (kq : Nat) (x9_13 : Int), v9 = .int .i64 x9_13 ∧ Aside0 (chancerylaw3_BalanceWidths.j1 kq a0 l1 a2 t179 t180 x9_13 = some r) ∧ Aside0 (kq ≤ kj7) ∧ Aside0 (Kd.R (Kd.int .i64) 3 wc w.heap.size (fun _ => True) v181 t179) ∧ Aside0 (Below w.heap.size w wc))
        case first =>
          have H := HC14.out
          clear HC14
          by_cases c15 : x28_7 = true
          · subst c15
            have H1 : (chancerylaw3_BalanceWidths.j1 kj7 a0 l1 a2 t179 t180 2) = some r := by rw [if_pos rfl] at H; exact H
            clear H
            have H := H1
            clear H1
            have H' := Aside0.mk H
            clear H
            go_wp2
            go_meet
            case rel => exact ⟨_, (2), (by first | rfl | (simp; done) | (simp [*]; done)), H', ⟨by have := HJ7.out; first | omega | exact Nat.le_refl _⟩, ⟨by (with_reducible repeat (first | apply Kd.R_alloc | apply Kd.R_drewN | apply Kd.R_drew)); exact HO_7.out⟩, ⟨by repeat (first | (with_reducible first | exact HB.out | apply below_alloc | apply pw_below_drewN | apply below_drew1) | exact HB.out)⟩⟩
          · replace c15 := Bool.eq_false_iff.mpr c15
            subst c15
            have H1 : (chancerylaw3_BalanceWidths.j1 kj7 a0 l1 a2 t179 t180 t183) = some r := by rw [if_neg (show ¬ (false = true) by decide)] at H; exact H
            clear H
            have H := H1
            clear H1
            have H' := Aside0.mk H
            clear H
            go_wp2
            go_meet
            case rel => exact ⟨_, (t183), (by first | rfl | (simp; done) | (simp [*]; done)), H', ⟨by have := HJ7.out; first | omega | exact Nat.le_refl _⟩, ⟨by (with_reducible repeat (first | apply Kd.R_alloc | apply Kd.R_drewN | apply Kd.R_drew)); exact HO_7.out⟩, ⟨by repeat (first | (with_reducible first | exact HB.out | apply below_alloc | apply pw_below_drewN | apply below_drew1) | exact HB.out)⟩⟩
        case rest =>
          clear HC14
          try clear c1
          try clear p2
          try clear c3
          try clear c4
          try clear c5
          try clear c11
          try clear c12
          try clear c12b0
          try clear c12b1
          try clear c15
          try clear p2
          obtain ⟨kq, x9_13, rfl, HA, HJ13, HO_7, HB⟩ := hcut
          cases kq with
          | zero => exact absurd HA.out (by simp [chancerylaw3_BalanceWidths.j1])
          | succ kj13 =>
            have H := HA.out
            clear HA
            simp only [chancerylaw3_BalanceWidths.j1] at H
            by_cases c16 : x9_13 = 0
            · rw [if_pos c16] at H
              have c16b0 : (x9_13 == 0) = true := beq_iff_eq.mpr c16
              have c16b1 : (x9_13 != 0) = false := bne_eq_false_iff_eq.mpr c16
              clear c16
              by_cases c17 : t180 = 0
              · rw [if_pos c17] at H
                have c17b0 : (t180 == 0) = true := beq_iff_eq.mpr c17
                have c17b1 : (t180 != 0) = false := bne_eq_false_iff_eq.mpr c17
                clear c17
                replace H := Option.bind_eq_some_iff.mp H
                obtain ⟨t185, A180, H⟩ := H
                replace H : ((chanceryref3_SameInts.f kj13 t179 t185).bind fun t188 => (some t188)) = some r := H
                have A18 := Aside0.mk A180
                clear A180
                replace H := Option.bind_eq_some_iff.mp H
                obtain ⟨t188, A190, H⟩ := H
                replace H : (some t188) = some r := H
                have A19 := Aside0.mk A190
                clear A190
                obtain rfl := Option.some.inj H
                go_wp2_with (first | (go_at_call 43; (with_reducible refine (chanceryref3_ColumnWidths.calls kj13 a0 _ _ l1 a2 t185 _ ?side1 ?side2 A18.out).mono ?_); (case side1 => repeat (first | exact (Kd.C_below HR1.out HB.out) | (with_reducible refine Kd.C_alloc ?_ _) | (with_reducible refine Kd.C_drewN ?_ _) | (with_reducible refine Kd.C_drew ?_))); (case side2 => exact HC1.out); rintro e w20 ⟨v186, rfl, ho0, hb⟩; have n0_ := Aside0.mk (Kd.R_elder' (by (with_reducible repeat (first | apply Kd.R_alloc | apply Kd.R_drewN | apply Kd.R_drew)); exact HO_7.out) (Kd.R_base ho0) hb); have n1_ := Aside0.mk (Kd.R_lower (Kd.R_new' ho0 (Kd.R_lt (by (with_reducible repeat (first | apply Kd.R_alloc | apply Kd.R_drewN | apply Kd.R_drew)); exact HO_7.out))) (below_size (by repeat (first | (with_reducible first | exact HB.out | apply below_alloc | apply pw_below_drewN | apply below_drew1) | exact HB.out)))); have n2_ := Aside0.mk (below_step (by repeat (first | (with_reducible first | exact HB.out | apply below_alloc | apply pw_below_drewN | apply below_drew1) | exact HB.out)) hb); clear HO_7; clear HB; have HO_7 := n0_; have HO187 := n1_; have HB := n2_; clear n0_ n1_ n2_; (try clear hb); (try clear hb2); (try clear hk); (try clear hi); (try clear ho0); obtain ⟨Ao21, co21, eo21⟩ := Kd.R_slice HO_7.out; subst eo21; obtain ⟨Ao22, co22, eo22⟩ := Kd.R_slice HO187.out; subst eo22) | (go_at_call 18; (with_reducible refine (chanceryref3_SameInts.calls kj13 _ _ t179 _ _ t185 t188 _ ?side1 ?side2 ?side3 ?side4 A19.out).mono ?_); (case side1 => repeat (first | exact (Kd.R_reads' HO_7.out).2.2 | (with_reducible refine Kd.C_alloc ?_ _) | (with_reducible refine Kd.C_drewN ?_ _) | (with_reducible refine Kd.C_drew ?_))); (case side2 => exact (Kd.R_reads' HO_7.out).2.1); (case side3 => repeat (first | exact (Kd.R_reads' HO187.out).2.2 | (with_reducible refine Kd.C_alloc ?_ _) | (with_reducible refine Kd.C_drewN ?_ _) | (with_reducible refine Kd.C_drew ?_))); (case side4 => exact (Kd.R_reads' HO187.out).2.1); rintro e w' ⟨rfl, ⟨nd, rfl⟩⟩))
                go_ret
                exact ⟨by first | rfl | (simp [errW_none, errW_some] <;> rfl) | (simp [*, errW_none, errW_some] <;> rfl), by repeat (first | (with_reducible first | exact HB.out | apply below_alloc | apply pw_below_drewN | apply below_drew1) | exact HB.out)⟩
              · rw [if_neg c17] at H
                have c17b0 : (t180 == 0) = false := beq_eq_false_iff_ne.mpr c17
                have c17b1 : (t180 != 0) = true := bne_iff_ne.mpr c17
                obtain rfl := Option.some.inj H
                go_wp2
                go_ret
                exact ⟨by first | rfl | (simp [errW_none, errW_some] <;> rfl) | (simp [*, errW_none, errW_some] <;> rfl), by repeat (first | (with_reducible first | exact HB.out | apply below_alloc | apply pw_below_drewN | apply below_drew1) | exact HB.out)⟩
            · rw [if_neg c16] at H
              have c16b0 : (x9_13 == 0) = false := beq_eq_false_iff_ne.mpr c16
              have c16b1 : (x9_13 != 0) = true := bne_iff_ne.mpr c16
              by_cases c23 : t180 = x9_13
              · rw [if_pos c23] at H
                have c23b0 : (t180 == x9_13) = true := beq_iff_eq.mpr c23
                have c23b1 : (t180 != x9_13) = false := bne_eq_false_iff_eq.mpr c23
                clear c23
                obtain rfl := Option.some.inj H
                obtain ⟨Ao24, co24, eo24⟩ := Kd.R_slice HO_7.out
                subst eo24
                go_wp2
                go_ret
                exact ⟨by first | rfl | (simp [errW_none, errW_some] <;> rfl) | (simp [*, errW_none, errW_some] <;> rfl), by repeat (first | (with_reducible first | exact HB.out | apply below_alloc | apply pw_below_drewN | apply below_drew1) | exact HB.out)⟩
              · rw [if_neg c23] at H
                have c23b0 : (t180 == x9_13) = false := beq_eq_false_iff_ne.mpr c23
                have c23b1 : (t180 != x9_13) = true := bne_iff_ne.mpr c23
                obtain rfl := Option.some.inj H
                go_wp2
                go_ret
                exact ⟨by first | rfl | (simp [errW_none, errW_some] <;> rfl) | (simp [*, errW_none, errW_some] <;> rfl), by repeat (first | (with_reducible first | exact HB.out | apply below_alloc | apply pw_below_drewN | apply below_drew1) | exact HB.out)⟩
  · replace c5 := Bool.eq_false_iff.mpr c5
    subst c5
    have H1 : (some false) = some r := by rw [if_neg (show ¬ (false = true) by decide)] at H; exact H
    clear H
    have H := H1
    clear H1
    obtain rfl := Option.some.inj H
    go_enter Try.func11, Try.ntmps11
    go_wp2_with (first | ((with_reducible refine gate_callee (f := 37) rfl ?_); refine goesL_ (some 10) rfl rfl Try.func37 (by kernel_rfl) rfl #[] rfl (by (try simp only [List.map_toArray, List.map_cons, List.map_nil]); first | done | rfl | (simp only [List.length_drop, List.length_take]; rfl)) ?_; (with_reducible refine (chancerylaw3_balanced.calls k  false _ A4.out).mono ?_); rintro e w25 ⟨rfl, hb⟩; refine ⟨_, rfl, ?_⟩; have n0_ := Aside0.mk (below_step (by repeat (first | (with_reducible first | exact HB.out | apply below_alloc | apply pw_below_drewN | apply below_drew1) | exact HB.out)) hb); clear HB; have HB := n0_; clear n0_; (try clear hb); (try clear hb2); (try clear hk); (try clear hi)))
    go_ret
    exact ⟨by first | rfl | (simp [errW_none, errW_some] <;> rfl) | (simp [*, errW_none, errW_some] <;> rfl), by repeat (first | (with_reducible first | exact HB.out | apply below_alloc | apply pw_below_drewN | apply below_drew1) | exact HB.out)⟩

end Go.Proofs.Ytihmbddneapooaa.QBW
