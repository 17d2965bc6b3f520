-- WRITTEN BY wip/print2.py, a program of this session, over contracts of this session's own; no print of print.sh
import Derived.Test.YtihmbddneapooaaQPOx0
import Derived.Test.YtihmbddneapooaaQPOx1
namespace Go.Proofs.Ytihmbddneapooaa.QPO
open Go.RowKit Go.Proofs.Ytihmbddneapooaa.HandPO Go.Proofs.YtihmbddneapooaaW.PrintWords Go.Proofs.YtihmbddneapooaaW.PrintLast Go.Proofs.YtihmbddneapooaaW.PrintMore
attribute [local go_sem] max2_int min2_int max_two min_two max_three min_three max_four min_four   -- for this text's walks alone
set_option linter.unusedVariables false
set_option linter.unusedSimpArgs false

/-! ### printing_Several: function 25 -/
mutual
def printing_Several.j0 : Nat → List Int → Int → Int → Bool → Bool → Option ((List (List Int)) × Int)
  | 0, _, _, _, _, _ => none
  | k + 1, x0, x1, x2, x3, x33 => if x33 = true then (some (([] : List (List Int)), 2)) else (printing_Several.l0 k x1 x2 x3 ([] : List (List Int)) x0 (x0.length : Int) 0)
def printing_Several.l0 : Nat → Int → Int → Bool → List (List Int) → List Int → Int → Int → Option ((List (List Int)) × Int)
  | 0, _, _, _, _, _, _, _ => none
  | k + 1, x1, x2, x3, x11, x34, x35, x36 => if x36 < x35 then (if 0 ≤ x36 then (if x36 < (x34.length : Int) then (if (wrap64 (x1 * x2)) = 0 then (none) else (if (Int.tmod x36 (wrap64 (x1 * x2))) = 0 then (if 0 ≤ (wrap64 (x1 * x2)) then (if (wrap64 (x1 * x2) : Int).toNat ≤ 35184372088832 then (if x11.length < 5864062014805 then ((some (x11 ++ [(List.replicate (wrap64 (x1 * x2) : Int).toNat 0)] : List (List Int))).bind fun y121 => (if x3 = true then (if x1 = 0 then (none) else (if 0 ≤ (wrap64 ((y121.length : Int) - 1)) then (if (wrap64 ((y121.length : Int) - 1)) < (y121.length : Int) then (if 0 ≤ (wrap64 ((wrap64 ((Int.tmod (Int.tmod x36 (wrap64 (x1 * x2))) x1) * x2)) + (wrap64 (Int.tdiv (Int.tmod x36 (wrap64 (x1 * x2))) x1)))) then (if (wrap64 ((wrap64 ((Int.tmod (Int.tmod x36 (wrap64 (x1 * x2))) x1) * x2)) + (wrap64 (Int.tdiv (Int.tmod x36 (wrap64 (x1 * x2))) x1)))) < ((rd_L1 y121 (wrap64 ((y121.length : Int) - 1))).length : Int) then (printing_Several.l0 k x1 x2 x3 (y121.set ((wrap64 ((y121.length : Int) - 1)) : Int).toNat ((rd_L1 y121 (wrap64 ((y121.length : Int) - 1))).set ((wrap64 ((wrap64 ((Int.tmod (Int.tmod x36 (wrap64 (x1 * x2))) x1) * x2)) + (wrap64 (Int.tdiv (Int.tmod x36 (wrap64 (x1 * x2))) x1)))) : Int).toNat (rd x34 x36))) x34 x35 (wrap64 (x36 + 1))) else (none)) else (none)) else (none)) else (none))) else (if 0 ≤ (wrap64 ((y121.length : Int) - 1)) then (if (wrap64 ((y121.length : Int) - 1)) < (y121.length : Int) then (if 0 ≤ (Int.tmod x36 (wrap64 (x1 * x2))) then (if (Int.tmod x36 (wrap64 (x1 * x2))) < ((rd_L1 y121 (wrap64 ((y121.length : Int) - 1))).length : Int) then (printing_Several.l0 k x1 x2 x3 (y121.set ((wrap64 ((y121.length : Int) - 1)) : Int).toNat ((rd_L1 y121 (wrap64 ((y121.length : Int) - 1))).set ((Int.tmod x36 (wrap64 (x1 * x2))) : Int).toNat (rd x34 x36))) x34 x35 (wrap64 (x36 + 1))) else (none)) else (none)) else (none)) else (none)))) else (none)) else (none)) else (none)) else (if x3 = true then (if x1 = 0 then (none) else (if 0 ≤ (wrap64 ((x11.length : Int) - 1)) then (if (wrap64 ((x11.length : Int) - 1)) < (x11.length : Int) then (if 0 ≤ (wrap64 ((wrap64 ((Int.tmod (Int.tmod x36 (wrap64 (x1 * x2))) x1) * x2)) + (wrap64 (Int.tdiv (Int.tmod x36 (wrap64 (x1 * x2))) x1)))) then (if (wrap64 ((wrap64 ((Int.tmod (Int.tmod x36 (wrap64 (x1 * x2))) x1) * x2)) + (wrap64 (Int.tdiv (Int.tmod x36 (wrap64 (x1 * x2))) x1)))) < ((rd_L1 x11 (wrap64 ((x11.length : Int) - 1))).length : Int) then (printing_Several.l0 k x1 x2 x3 (x11.set ((wrap64 ((x11.length : Int) - 1)) : Int).toNat ((rd_L1 x11 (wrap64 ((x11.length : Int) - 1))).set ((wrap64 ((wrap64 ((Int.tmod (Int.tmod x36 (wrap64 (x1 * x2))) x1) * x2)) + (wrap64 (Int.tdiv (Int.tmod x36 (wrap64 (x1 * x2))) x1)))) : Int).toNat (rd x34 x36))) x34 x35 (wrap64 (x36 + 1))) else (none)) else (none)) else (none)) else (none))) else (if 0 ≤ (wrap64 ((x11.length : Int) - 1)) then (if (wrap64 ((x11.length : Int) - 1)) < (x11.length : Int) then (if 0 ≤ (Int.tmod x36 (wrap64 (x1 * x2))) then (if (Int.tmod x36 (wrap64 (x1 * x2))) < ((rd_L1 x11 (wrap64 ((x11.length : Int) - 1))).length : Int) then (printing_Several.l0 k x1 x2 x3 (x11.set ((wrap64 ((x11.length : Int) - 1)) : Int).toNat ((rd_L1 x11 (wrap64 ((x11.length : Int) - 1))).set ((Int.tmod x36 (wrap64 (x1 * x2))) : Int).toNat (rd x34 x36))) x34 x35 (wrap64 (x36 + 1))) else (none)) else (none)) else (none)) else (none))))) else (none)) else (none)) else (some (x11, 0))
end
def printing_Several.f (k : Nat) (l0 : List Int) (a1 : Int) (a2 : Int) (a3 : Bool) : Option ((List (List Int)) × Int) := (printing_check.f k l0).bind fun t116 => (if t116 = 0 then (if a1 < 1 then (printing_Several.j0 k l0 a1 a2 a3 true) else (if a1 > 8 then (printing_Several.j0 k l0 a1 a2 a3 true) else (if a2 < 1 then (printing_Several.j0 k l0 a1 a2 a3 true) else (printing_Several.j0 k l0 a1 a2 a3 (decide (a2 > 8)))))) else (some (([] : List (List Int)), t116)))
theorem printing_Several.mono_l : ∀ k, (∀ y0 y1 y2 y3 y4, LeO (printing_Several.j0 k y0 y1 y2 y3 y4) (printing_Several.j0 (k + 1) y0 y1 y2 y3 y4)) ∧ (∀ y0 y1 y2 y3 y4 y5 y6, LeO (printing_Several.l0 k y0 y1 y2 y3 y4 y5 y6) (printing_Several.l0 (k + 1) y0 y1 y2 y3 y4 y5 y6))
  | 0 => ⟨fun _ _ _ _ _ r h => by simp [printing_Several.j0] at h, fun _ _ _ _ _ _ _ r h => by simp [printing_Several.l0] at h⟩
  | k + 1 => by
    obtain ⟨ih0, ih1⟩ := printing_Several.mono_l k
    refine ⟨?_, ?_⟩
    · intro y0 y1 y2 y3 y4
      unfold printing_Several.j0
      repeat' first
      | (with_reducible exact ih0 _ _ _ _ _)
      | (with_reducible exact ih1 _ _ _ _ _ _ _)
      | (with_reducible exact printing_check.mono _ _)
      | (with_reducible exact LeO.refl _)
      | (with_reducible exact LeO.none _)
      | (with_reducible refine LeO.ite ?_ ?_)
      | (with_reducible refine LeO.bind ?_ (fun _ => ?_))
      | exact ih0 _ _ _ _ _
      | exact ih1 _ _ _ _ _ _ _
      | exact printing_check.mono _ _
      | exact LeO.none _
      | refine LeO.ite ?_ ?_
      | refine LeO.bind ?_ (fun _ => ?_)
    · intro y0 y1 y2 y3 y4 y5 y6
      unfold printing_Several.l0
      repeat' first
      | (with_reducible exact ih0 _ _ _ _ _)
      | (with_reducible exact ih1 _ _ _ _ _ _ _)
      | (with_reducible exact printing_check.mono _ _)
      | (with_reducible exact LeO.refl _)
      | (with_reducible exact LeO.none _)
      | (with_reducible refine LeO.ite ?_ ?_)
      | (with_reducible refine LeO.bind ?_ (fun _ => ?_))
      | exact ih0 _ _ _ _ _
      | exact ih1 _ _ _ _ _ _ _
      | exact printing_check.mono _ _
      | exact LeO.none _
      | refine LeO.ite ?_ ?_
      | refine LeO.bind ?_ (fun _ => ?_)
theorem printing_Several.mono : ∀ a0 a1 a2 a3 k, LeO (printing_Several.f k a0 a1 a2 a3) (printing_Several.f (k + 1) a0 a1 a2 a3) := by
  intro a0 a1 a2 a3 k
  obtain ⟨ih0, ih1⟩ := printing_Several.mono_l k
  unfold printing_Several.f
  repeat' first
      | (with_reducible exact ih0 _ _ _ _ _)
      | (with_reducible exact ih1 _ _ _ _ _ _ _)
      | (with_reducible exact printing_check.mono _ _)
      | (with_reducible exact LeO.refl _)
      | (with_reducible exact LeO.none _)
      | (with_reducible refine LeO.ite ?_ ?_)
      | (with_reducible refine LeO.bind ?_ (fun _ => ?_))
      | exact ih0 _ _ _ _ _
      | exact ih1 _ _ _ _ _ _ _
      | exact printing_check.mono _ _
      | exact LeO.none _
      | refine LeO.ite ?_ ?_
      | refine LeO.bind ?_ (fun _ => ?_)
set_option maxHeartbeats 8000000 in
set_option maxRecDepth 100000 in
theorem printing_Several.calls (k : Nat) (A0 : Option Addr) (c0 : Nat) (l0 : List Int) (a1 : Int) (a2 : Int) (a3 : Bool) (r1 : List (List Int)) (r2 : Int) (w : World) (hr0 : Kd.C (Kd.int .i64) w A0 l0.length l0) (hc0 : l0.length ≤ c0) (h : printing_Several.f k l0 a1 a2 a3 = some (r1, r2)) :
    Calls Try.prog 25 #[.slice A0 l0.length c0, .int .i64 a1, .int .i64 a2, .bool a3] w fun e w' => ∃ v0_ : Value, e = .returned (.tuple #[v0_, .int .i64 r2]) ∧ Kd.S (Kd.slice 3 (Kd.int .i64)) 34 w' w.heap.size (fun _ => True) v0_ r1 ∧ Below w.heap.size w w' := by
  have HR0 := Aside0.mk hr0
  have HC0 := Aside0.mk hc0
  clear hr0 hc0
  have HB := Aside0.mk (Below.refl w.heap.size w)
  have H : ((printing_check.f k l0).bind fun t116 => (if t116 = 0 then (if a1 < 1 then (printing_Several.j0 k l0 a1 a2 a3 true) else (if a1 > 8 then (printing_Several.j0 k l0 a1 a2 a3 true) else (if a2 < 1 then (printing_Several.j0 k l0 a1 a2 a3 true) else (printing_Several.j0 k l0 a1 a2 a3 (decide (a2 > 8)))))) else (some (([] : List (List Int)), t116)))) = some (r1, r2) := h
  clear h
  replace H := Option.bind_eq_some_iff.mp H
  obtain ⟨t116, A50, H⟩ := H
  replace H : (if t116 = 0 then (if a1 < 1 then (printing_Several.j0 k l0 a1 a2 a3 true) else (if a1 > 8 then (printing_Several.j0 k l0 a1 a2 a3 true) else (if a2 < 1 then (printing_Several.j0 k l0 a1 a2 a3 true) else (printing_Several.j0 k l0 a1 a2 a3 (decide (a2 > 8)))))) else (some (([] : List (List Int)), t116))) = some (r1, r2) := H
  have A5 := Aside0.mk A50
  clear A50
  by_cases c6 : t116 = 0
  · rw [if_pos c6] at H
    have c6b0 : (t116 == 0) = true := beq_iff_eq.mpr c6
    have c6b1 : (t116 != 0) = false := bne_eq_false_iff_eq.mpr c6
    clear c6
    have HC7 := Aside0.mk H
    clear H
    go_enter Try.func25, Try.ntmps25
    go_upto_region 4 with (first | (go_at_call 46; (with_reducible refine (printing_check.calls k _ _ l0 t116 _ ?side1 ?side2 A5.out).mono ?_); (case side1 => repeat (first | exact HR0.out | (with_reducible refine Kd.C_alloc ?_ _) | (with_reducible refine Kd.C_drewN ?_ _) | (with_reducible refine Kd.C_drew ?_))); (case side2 => exact HC0.out); rintro e w' ⟨rfl, ⟨nd, rfl⟩⟩; (try first | exact ⟨rfl, _, World.drewN_drewN _ _ _⟩ | exact ⟨rfl, _, Eq.trans (World.drewN_drewN _ _ _) (congrArg (World.drewN _) (Nat.add_assoc _ _ _))⟩)))
    repeat (go_quiet (first | (go_at_call 46; (with_reducible refine (printing_check.calls k _ _ l0 t116 _ ?side1 ?side2 A5.out).mono ?_); (case side1 => repeat (first | exact HR0.out | (with_reducible refine Kd.C_alloc ?_ _) | (with_reducible refine Kd.C_drewN ?_ _) | (with_reducible refine Kd.C_drew ?_))); (case side2 => exact HC0.out); rintro e w' ⟨rfl, ⟨nd, rfl⟩⟩; (try first | exact ⟨rfl, _, World.drewN_drewN _ _ _⟩ | exact ⟨rfl, _, Eq.trans (World.drewN_drewN _ _ _) (congrArg (World.drewN _) (Nat.add_assoc _ _ _))⟩))); go_upto_region 4 with (first | (go_at_call 46; (with_reducible refine (printing_check.calls k _ _ l0 t116 _ ?side1 ?side2 A5.out).mono ?_); (case side1 => repeat (first | exact HR0.out | (with_reducible refine Kd.C_alloc ?_ _) | (with_reducible refine Kd.C_drewN ?_ _) | (with_reducible refine Kd.C_drew ?_))); (case side2 => exact HC0.out); rintro e w' ⟨rfl, ⟨nd, rfl⟩⟩; (try first | exact ⟨rfl, _, World.drewN_drewN _ _ _⟩ | exact ⟨rfl, _, Eq.trans (World.drewN_drewN _ _ _) (congrArg (World.drewN _) (Nat.add_assoc _ _ _))⟩))))
    (try simp only [Act.put, List.setIfInBounds_toArray, List.set_cons_zero, List.set_cons_succ])
    go_cut [33] (fun v33 wc => ∃ (kq : Nat) (x33_6 : Bool), v33 = .bool x33_6 ∧ Aside0 (printing_Several.j0 kq l0 a1 a2 a3 x33_6 = some (r1, r2)) ∧ Aside0 (kq ≤ k) ∧ Aside0 (Below w.heap.size w wc))
    case first =>
      have H := HC7.out
      clear HC7
      by_cases c8 : a1 < 1
      · rw [if_pos c8] at H
        have c8b0 : decide (a1 < 1) = true := decide_eq_true c8
        clear c8
        (first | rw [c8b0] | (simp only [i64_w, i32_w]; rw [c8b0]) | skip)
        have H' := Aside0.mk H
        clear H
        go_wp2
        repeat (go_quiet (fail); try go_wp2)
        go_meet
        case rel => exact ⟨_, (true), (by first | rfl | (simp; done) | (simp [*]; done)), H', ⟨by first | omega | exact Nat.le_refl _⟩, ⟨by repeat (first | (with_reducible first | exact HB.out | apply below_alloc | apply pw_below_drewN | apply below_drew1) | exact HB.out)⟩⟩
      · rw [if_neg c8] at H
        have c8b0 : decide (a1 < 1) = false := decide_eq_false c8
        clear c8
        (first | rw [c8b0] | (simp only [i64_w, i32_w]; rw [c8b0]) | skip)
        by_cases c9 : a1 > 8
        · rw [if_pos c9] at H
          have c9b0 : decide (8 < a1) = true := decide_eq_true c9
          clear c9
          have H' := Aside0.mk H
          clear H
          go_wp2
          repeat (go_quiet (fail); try go_wp2)
          go_meet
          case rel => exact ⟨_, (true), (by first | rfl | (simp; done) | (simp [*]; done)), H', ⟨by first | omega | exact Nat.le_refl _⟩, ⟨by repeat (first | (with_reducible first | exact HB.out | apply below_alloc | apply pw_below_drewN | apply below_drew1) | exact HB.out)⟩⟩
        · rw [if_neg c9] at H
          have c9b0 : decide (8 < a1) = false := decide_eq_false c9
          clear c9
          by_cases c10 : a2 < 1
          · rw [if_pos c10] at H
            have c10b0 : decide (a2 < 1) = true := decide_eq_true c10
            clear c10
            have H' := Aside0.mk H
            clear H
            go_wp2
            repeat (go_quiet (fail); try go_wp2)
            go_meet
            case rel => exact ⟨_, (true), (by first | rfl | (simp; done) | (simp [*]; done)), H', ⟨by first | omega | exact Nat.le_refl _⟩, ⟨by repeat (first | (with_reducible first | exact HB.out | apply below_alloc | apply pw_below_drewN | apply below_drew1) | exact HB.out)⟩⟩
          · rw [if_neg c10] at H
            have c10b0 : decide (a2 < 1) = false := decide_eq_false c10
            clear c10
            have H' := Aside0.mk H
            clear H
            go_wp2
            repeat (go_quiet (fail); try go_wp2)
            go_meet
            case rel => exact ⟨_, (decide (a2 > 8)), (by first | rfl | (simp; done) | (simp [*]; done)), H', ⟨by first | omega | exact Nat.le_refl _⟩, ⟨by repeat (first | (with_reducible first | exact HB.out | apply below_alloc | apply pw_below_drewN | apply below_drew1) | exact HB.out)⟩⟩
    case rest =>
      clear HC7
      try clear c1
      try clear c2
      try clear p2
      try clear c6
      try clear c6b0
      try clear c6b1
      try clear c8
      try clear c8b0
      try clear c9
      try clear c9b0
      try clear c10
      try clear c10b0
      obtain ⟨kq, x33_6, rfl, HA, HJ6, HB⟩ := hcut
      cases kq with
      | zero => exact absurd HA.out (by simp [printing_Several.j0])
      | succ kj6 =>
        have H := HA.out
        clear HA
        simp only [printing_Several.j0] at H
        by_cases c11 : x33_6 = true
        · subst c11
          have H1 : (some (([] : List (List Int)), 2)) = some (r1, r2) := by rw [if_pos rfl] at H; exact H
          clear H
          have H := H1
          clear H1
          simp only [Option.some.injEq, Prod.mk.injEq] at H
          obtain ⟨rfl, rfl⟩ := H
          go_wp2
          repeat (go_quiet (fail); try go_wp2)
          go_ret2
          exact ⟨_, by first | rfl | (simp [errW_none, errW_some] <;> rfl) | (simp [*, errW_none, errW_some] <;> rfl), by first | exact Kd.S_nil _ _ _ _ _ | exact Kd.N_nil _ _ _ _ _ | exact Kd.V_nil _ _ _ _ _ | exact Kd.Q_nil _ _ _ _ _ | exact Kd.R_nil _ _ _ _ _, by repeat (first | (with_reducible first | exact HB.out | apply below_alloc | apply pw_below_drewN | apply below_drew1) | exact HB.out)⟩
        · replace c11 := Bool.eq_false_iff.mpr c11
          subst c11
          have H1 : (printing_Several.l0 kj6 a1 a2 a3 ([] : List (List Int)) l0 (l0.length : Int) 0) = some (r1, r2) := by rw [if_neg (show ¬ (false = true) by decide)] at H; exact H
          clear H
          have H := H1
          clear H1
          have H' := Aside0.mk H
          clear H
          go_wp2
          repeat (go_quiet (fail); try go_wp2)
          go_loopg [11, 36] kj6 (fun kq v11 v36 w' => ∃ (x11_2 : List (List Int)) (x36_2 : Int), v36 = .int .i64 x36_2 ∧ Aside0 (printing_Several.l0 kq a1 a2 a3 x11_2 l0 (l0.length : Int) x36_2 = some (r1, r2)) ∧ Aside0 (kq ≤ kj6) ∧ Aside0 (Kd.S (Kd.slice 3 (Kd.int .i64)) 34 w' w.heap.size (fun _ => True) v11 x11_2) ∧ Aside0 (Below w.heap.size w w'))
          case atStart => exact ⟨(([] : List (List Int))), (0), (by first | rfl | (simp; done) | (simp [*]; done)), H', ⟨Nat.le_refl _⟩, ⟨by first | exact Kd.S_nil _ _ _ _ _ | exact Kd.N_nil _ _ _ _ _ | exact Kd.V_nil _ _ _ _ _ | exact Kd.Q_nil _ _ _ _ _ | exact Kd.R_nil _ _ _ _ _⟩, ⟨by repeat (first | (with_reducible first | exact HB.out | apply below_alloc | apply pw_below_drewN | apply below_drew1) | exact HB.out)⟩⟩
          case round =>
            clear H'
            try clear c1
            try clear c2
            try clear p2
            try clear c6
            try clear c6b0
            try clear c6b1
            try clear c8
            try clear c8b0
            try clear c9
            try clear c9b0
            try clear c10
            try clear c10b0
            try clear c11
            try clear p2
            obtain ⟨x11_2, x36_2, rfl, HA, HK2, HO_11, HB⟩ := hrel
            cases gk with
            | zero => exact absurd HA.out (by simp [printing_Several.l0])
            | succ k2 =>
              have H := HA.out
              clear HA
              simp only [printing_Several.l0] at H
              by_cases c12 : x36_2 < (l0.length : Int)
              · rw [if_pos c12] at H
                have c12b0 : decide (x36_2 < (l0.length : Int)) = true := decide_eq_true c12
                clear c12
                by_cases c13 : 0 ≤ x36_2
                · rw [if_pos c13] at H
                  have c13b0 : decide (0 ≤ x36_2) = true := decide_eq_true c13
                  clear c13
                  by_cases c14 : x36_2 < (l0.length : Int)
                  · rw [if_pos c14] at H
                    have c14b0 : decide (x36_2 < (l0.length : Int)) = true := decide_eq_true c14
                    clear c14
                    by_cases c15 : (wrap64 (a1 * a2)) = 0
                    · rw [if_pos c15] at H
                      exact absurd H (by simp)
                    · rw [if_neg c15] at H
                      have c15b0 : ((wrap64 (a1 * a2)) == 0) = false := beq_eq_false_iff_ne.mpr c15
                      have c15b1 : ((wrap64 (a1 * a2)) != 0) = true := bne_iff_ne.mpr c15
                      by_cases c16 : (Int.tmod x36_2 (wrap64 (a1 * a2))) = 0
                      · rw [if_pos c16] at H
                        have c16b0 : ((Int.tmod x36_2 (wrap64 (a1 * a2))) == 0) = true := beq_iff_eq.mpr c16
                        have c16b1 : ((Int.tmod x36_2 (wrap64 (a1 * a2))) != 0) = false := bne_eq_false_iff_eq.mpr c16
                        clear c16
                        obtain ⟨ji17, hji17⟩ : ∃ j_ : Int, (wrap64 (a1 * a2)) = j_ := ⟨_, rfl⟩
                        replace H : (if 0 ≤ (ji17) then (if (ji17 : Int).toNat ≤ 35184372088832 then (if x11_2.length < 5864062014805 then ((some (x11_2 ++ [(List.replicate (ji17 : Int).toNat 0)] : List (List Int))).bind fun y121 => (if a3 = true then (if a1 = 0 then (none) else (if 0 ≤ (wrap64 ((y121.length : Int) - 1)) then (if (wrap64 ((y121.length : Int) - 1)) < (y121.length : Int) then (if 0 ≤ (wrap64 ((wrap64 ((Int.tmod (Int.tmod x36_2 (ji17)) a1) * a2)) + (wrap64 (Int.tdiv (Int.tmod x36_2 (ji17)) a1)))) then (if (wrap64 ((wrap64 ((Int.tmod (Int.tmod x36_2 (ji17)) a1) * a2)) + (wrap64 (Int.tdiv (Int.tmod x36_2 (ji17)) a1)))) < ((rd_L1 y121 (wrap64 ((y121.length : Int) - 1))).length : Int) then (printing_Several.l0 k2 a1 a2 a3 (y121.set ((wrap64 ((y121.length : Int) - 1)) : Int).toNat ((rd_L1 y121 (wrap64 ((y121.length : Int) - 1))).set ((wrap64 ((wrap64 ((Int.tmod (Int.tmod x36_2 (ji17)) a1) * a2)) + (wrap64 (Int.tdiv (Int.tmod x36_2 (ji17)) a1)))) : Int).toNat (rd l0 x36_2))) l0 (l0.length : Int) (wrap64 (x36_2 + 1))) else (none)) else (none)) else (none)) else (none))) else (if 0 ≤ (wrap64 ((y121.length : Int) - 1)) then (if (wrap64 ((y121.length : Int) - 1)) < (y121.length : Int) then (if 0 ≤ (Int.tmod x36_2 (ji17)) then (if (Int.tmod x36_2 (ji17)) < ((rd_L1 y121 (wrap64 ((y121.length : Int) - 1))).length : Int) then (printing_Several.l0 k2 a1 a2 a3 (y121.set ((wrap64 ((y121.length : Int) - 1)) : Int).toNat ((rd_L1 y121 (wrap64 ((y121.length : Int) - 1))).set ((Int.tmod x36_2 (ji17)) : Int).toNat (rd l0 x36_2))) l0 (l0.length : Int) (wrap64 (x36_2 + 1))) else (none)) else (none)) else (none)) else (none)))) else (none)) else (none)) else (none)) = some (r1, r2) := by first | (rw [hji17] at H; exact H) | (simp only [hji17] at H ⊢; exact H)
                        (try rw [hji17] at c15b0)
                        (try rw [hji17] at c15b1)
                        (try rw [hji17] at c16b0)
                        (try rw [hji17] at c16b1)
                        have hji17w : (IntKind.i64.wrap (a1 * a2)) = ji17 := (i64_w _).trans hji17
                        by_cases c18 : 0 ≤ (ji17)
                        · rw [if_pos c18] at H
                          have c18b0 := eq_true c18
                          have c18b1 : decide (0 ≤ (ji17)) = true := decide_eq_true c18
                          clear c18
                          by_cases c19 : (ji17 : Int).toNat ≤ 35184372088832
                          · rw [if_pos c19] at H
                            have c19b0 := eq_true c19
                            have c19b1 : decide ((ji17 : Int).toNat ≤ 35184372088832) = true := decide_eq_true c19
                            clear c19
                            obtain ⟨y118, hy118⟩ : ∃ y_ : List Int, y_ = (List.replicate (ji17 : Int).toNat 0) := ⟨_, rfl⟩
                            replace H : (if x11_2.length < 5864062014805 then ((some (x11_2 ++ [y118] : List (List Int))).bind fun y121 => (if a3 = true then (if a1 = 0 then (none) else (if 0 ≤ (wrap64 ((y121.length : Int) - 1)) then (if (wrap64 ((y121.length : Int) - 1)) < (y121.length : Int) then (if 0 ≤ (wrap64 ((wrap64 ((Int.tmod (Int.tmod x36_2 (ji17)) a1) * a2)) + (wrap64 (Int.tdiv (Int.tmod x36_2 (ji17)) a1)))) then (if (wrap64 ((wrap64 ((Int.tmod (Int.tmod x36_2 (ji17)) a1) * a2)) + (wrap64 (Int.tdiv (Int.tmod x36_2 (ji17)) a1)))) < ((rd_L1 y121 (wrap64 ((y121.length : Int) - 1))).length : Int) then (printing_Several.l0 k2 a1 a2 a3 (y121.set ((wrap64 ((y121.length : Int) - 1)) : Int).toNat ((rd_L1 y121 (wrap64 ((y121.length : Int) - 1))).set ((wrap64 ((wrap64 ((Int.tmod (Int.tmod x36_2 (ji17)) a1) * a2)) + (wrap64 (Int.tdiv (Int.tmod x36_2 (ji17)) a1)))) : Int).toNat (rd l0 x36_2))) l0 (l0.length : Int) (wrap64 (x36_2 + 1))) else (none)) else (none)) else (none)) else (none))) else (if 0 ≤ (wrap64 ((y121.length : Int) - 1)) then (if (wrap64 ((y121.length : Int) - 1)) < (y121.length : Int) then (if 0 ≤ (Int.tmod x36_2 (ji17)) then (if (Int.tmod x36_2 (ji17)) < ((rd_L1 y121 (wrap64 ((y121.length : Int) - 1))).length : Int) then (printing_Several.l0 k2 a1 a2 a3 (y121.set ((wrap64 ((y121.length : Int) - 1)) : Int).toNat ((rd_L1 y121 (wrap64 ((y121.length : Int) - 1))).set ((Int.tmod x36_2 (ji17)) : Int).toNat (rd l0 x36_2))) l0 (l0.length : Int) (wrap64 (x36_2 + 1))) else (none)) else (none)) else (none)) else (none)))) else (none)) = some (r1, r2) := by first | (rw [hy118]; with_reducible exact H) | (have H2_ := (Option.bind_some _ _).symm.trans H; rw [hy118]; with_reducible exact H2_) | (have H2_ := (Option.bind_some _ _).symm.trans H; with_reducible exact H2_) | with_reducible exact H | (rw [hy118]; exact H) | exact H
                            have Ny118 := Aside0.mk hy118
                            clear hy118
                            by_cases c20 : x11_2.length < 5864062014805
                            · rw [if_pos c20] at H
                              have LMc20 := Aside0.mk c20
                              clear c20
                              obtain ⟨y121, hy121⟩ : ∃ y_ : List (List Int), y_ = (x11_2 ++ [y118]) := ⟨_, rfl⟩
                              replace H : (if a3 = true then (if a1 = 0 then (none) else (if 0 ≤ (wrap64 ((y121.length : Int) - 1)) then (if (wrap64 ((y121.length : Int) - 1)) < (y121.length : Int) then (if 0 ≤ (wrap64 ((wrap64 ((Int.tmod (Int.tmod x36_2 (ji17)) a1) * a2)) + (wrap64 (Int.tdiv (Int.tmod x36_2 (ji17)) a1)))) then (if (wrap64 ((wrap64 ((Int.tmod (Int.tmod x36_2 (ji17)) a1) * a2)) + (wrap64 (Int.tdiv (Int.tmod x36_2 (ji17)) a1)))) < ((rd_L1 y121 (wrap64 ((y121.length : Int) - 1))).length : Int) then (printing_Several.l0 k2 a1 a2 a3 (y121.set ((wrap64 ((y121.length : Int) - 1)) : Int).toNat ((rd_L1 y121 (wrap64 ((y121.length : Int) - 1))).set ((wrap64 ((wrap64 ((Int.tmod (Int.tmod x36_2 (ji17)) a1) * a2)) + (wrap64 (Int.tdiv (Int.tmod x36_2 (ji17)) a1)))) : Int).toNat (rd l0 x36_2))) l0 (l0.length : Int) (wrap64 (x36_2 + 1))) else (none)) else (none)) else (none)) else (none))) else (if 0 ≤ (wrap64 ((y121.length : Int) - 1)) then (if (wrap64 ((y121.length : Int) - 1)) < (y121.length : Int) then (if 0 ≤ (Int.tmod x36_2 (ji17)) then (if (Int.tmod x36_2 (ji17)) < ((rd_L1 y121 (wrap64 ((y121.length : Int) - 1))).length : Int) then (printing_Several.l0 k2 a1 a2 a3 (y121.set ((wrap64 ((y121.length : Int) - 1)) : Int).toNat ((rd_L1 y121 (wrap64 ((y121.length : Int) - 1))).set ((Int.tmod x36_2 (ji17)) : Int).toNat (rd l0 x36_2))) l0 (l0.length : Int) (wrap64 (x36_2 + 1))) else (none)) else (none)) else (none)) else (none))) = some (r1, r2) := by first | (rw [hy121]; with_reducible exact H) | (have H2_ := (Option.bind_some _ _).symm.trans H; rw [hy121]; with_reducible exact H2_) | (have H2_ := (Option.bind_some _ _).symm.trans H; with_reducible exact H2_) | with_reducible exact H | (rw [hy121]; exact H) | exact H
                              have Ny121 := Aside0.mk hy121
                              clear hy121
                              by_cases c21 : a3 = true
                              · subst c21
                                have H1 : (if a1 = 0 then (none) else (if 0 ≤ (wrap64 ((y121.length : Int) - 1)) then (if (wrap64 ((y121.length : Int) - 1)) < (y121.length : Int) then (if 0 ≤ (wrap64 ((wrap64 ((Int.tmod (Int.tmod x36_2 (ji17)) a1) * a2)) + (wrap64 (Int.tdiv (Int.tmod x36_2 (ji17)) a1)))) then (if (wrap64 ((wrap64 ((Int.tmod (Int.tmod x36_2 (ji17)) a1) * a2)) + (wrap64 (Int.tdiv (Int.tmod x36_2 (ji17)) a1)))) < ((rd_L1 y121 (wrap64 ((y121.length : Int) - 1))).length : Int) then (printing_Several.l0 k2 a1 a2 true (y121.set ((wrap64 ((y121.length : Int) - 1)) : Int).toNat ((rd_L1 y121 (wrap64 ((y121.length : Int) - 1))).set ((wrap64 ((wrap64 ((Int.tmod (Int.tmod x36_2 (ji17)) a1) * a2)) + (wrap64 (Int.tdiv (Int.tmod x36_2 (ji17)) a1)))) : Int).toNat (rd l0 x36_2))) l0 (l0.length : Int) (wrap64 (x36_2 + 1))) else (none)) else (none)) else (none)) else (none))) = some (r1, r2) := by rw [if_pos rfl] at H; exact H
                                clear H
                                have H := H1
                                clear H1
                                by_cases c22 : a1 = 0
                                · rw [if_pos c22] at H
                                  exact absurd H (by simp)
                                · rw [if_neg c22] at H
                                  have c22b0 : (a1 == 0) = false := beq_eq_false_iff_ne.mpr c22
                                  have c22b1 : (a1 != 0) = true := bne_iff_ne.mpr c22
                                  obtain ⟨ji23, hji23⟩ : ∃ j_ : Int, (wrap64 ((y121.length : Int) - 1)) = j_ := ⟨_, rfl⟩
                                  replace H : (if 0 ≤ (ji23) then (if (ji23) < (y121.length : Int) then (if 0 ≤ (wrap64 ((wrap64 ((Int.tmod (Int.tmod x36_2 (ji17)) a1) * a2)) + (wrap64 (Int.tdiv (Int.tmod x36_2 (ji17)) a1)))) then (if (wrap64 ((wrap64 ((Int.tmod (Int.tmod x36_2 (ji17)) a1) * a2)) + (wrap64 (Int.tdiv (Int.tmod x36_2 (ji17)) a1)))) < ((rd_L1 y121 (ji23)).length : Int) then (printing_Several.l0 k2 a1 a2 true (y121.set ((ji23) : Int).toNat ((rd_L1 y121 (ji23)).set ((wrap64 ((wrap64 ((Int.tmod (Int.tmod x36_2 (ji17)) a1) * a2)) + (wrap64 (Int.tdiv (Int.tmod x36_2 (ji17)) a1)))) : Int).toNat (rd l0 x36_2))) l0 (l0.length : Int) (wrap64 (x36_2 + 1))) else (none)) else (none)) else (none)) else (none)) = some (r1, r2) := by first | (rw [hji23] at H; exact H) | (simp only [hji23] at H ⊢; exact H)
                                  have hji23w : (IntKind.i64.wrap ((y121.length : Int) - 1)) = ji23 := (i64_w _).trans hji23
                                  by_cases c24 : 0 ≤ (ji23)
                                  · rw [if_pos c24] at H
                                    have c24b0 : decide (0 ≤ (ji23)) = true := decide_eq_true c24
                                    clear c24
                                    by_cases c25 : (ji23) < (y121.length : Int)
                                    · rw [if_pos c25] at H
                                      have c25b0 : decide ((ji23) < (y121.length : Int)) = true := decide_eq_true c25
                                      clear c25
                                      obtain ⟨ji26, hji26⟩ : ∃ j_ : Int, (wrap64 ((wrap64 ((Int.tmod (Int.tmod x36_2 (ji17)) a1) * a2)) + (wrap64 (Int.tdiv (Int.tmod x36_2 (ji17)) a1)))) = j_ := ⟨_, rfl⟩
                                      replace H : (if 0 ≤ (ji26) then (if (ji26) < ((rd_L1 y121 (ji23)).length : Int) then (printing_Several.l0 k2 a1 a2 true (y121.set ((ji23) : Int).toNat ((rd_L1 y121 (ji23)).set ((ji26) : Int).toNat (rd l0 x36_2))) l0 (l0.length : Int) (wrap64 (x36_2 + 1))) else (none)) else (none)) = some (r1, r2) := by first | (rw [hji26] at H; exact H) | (simp only [hji26] at H ⊢; exact H)
                                      have hji26w : (IntKind.i64.wrap ((wrap64 ((Int.tmod (Int.tmod x36_2 (ji17)) a1) * a2)) + (wrap64 (Int.tdiv (Int.tmod x36_2 (ji17)) a1)))) = ji26 := (i64_w _).trans hji26
                                      by_cases c27 : 0 ≤ (ji26)
                                      · rw [if_pos c27] at H
                                        have c27b0 : decide (0 ≤ (ji26)) = true := decide_eq_true c27
                                        clear c27
                                        by_cases c28 : (ji26) < ((rd_L1 y121 (ji23)).length : Int)
                                        · rw [if_pos c28] at H
                                          have c28b0 : decide ((ji26) < ((rd_L1 y121 (ji23)).length : Int)) = true := decide_eq_true c28
                                          clear c28
                                          obtain ⟨y125, hy125⟩ : ∃ y_ : List Int, y_ = ((rd_L1 y121 (ji23)).set ((ji26) : Int).toNat (rd l0 x36_2)) := ⟨_, rfl⟩
                                          replace H : (printing_Several.l0 k2 a1 a2 true (y121.set ((ji23) : Int).toNat y125) l0 (l0.length : Int) (wrap64 (x36_2 + 1))) = some (r1, r2) := by first | (rw [hy125]; with_reducible exact H) | (have H2_ := (Option.bind_some _ _).symm.trans H; rw [hy125]; with_reducible exact H2_) | (have H2_ := (Option.bind_some _ _).symm.trans H; with_reducible exact H2_) | with_reducible exact H | (rw [hy125]; exact H) | exact H
                                          have Ny125 := Aside0.mk hy125
                                          clear hy125
                                          obtain ⟨y127, hy127⟩ : ∃ y_ : List (List Int), y_ = (y121.set ((ji23) : Int).toNat y125) := ⟨_, rfl⟩
                                          replace H : (printing_Several.l0 k2 a1 a2 true y127 l0 (l0.length : Int) (wrap64 (x36_2 + 1))) = some (r1, r2) := by first | (rw [hy127]; with_reducible exact H) | (have H2_ := (Option.bind_some _ _).symm.trans H; rw [hy127]; with_reducible exact H2_) | (have H2_ := (Option.bind_some _ _).symm.trans H; with_reducible exact H2_) | with_reducible exact H | (rw [hy127]; exact H) | exact H
                                          have Ny127 := Aside0.mk hy127
                                          clear hy127
                                          have H' := Aside0.mk H
                                          clear H
                                          have p117 : 0 ≤ (x36_2 : Int) := of_decide_eq_true (by first | (with_reducible assumption) | assumption)
                                          have q117 : x36_2 < (l0.length : Int) := of_decide_eq_true (by first | (with_reducible assumption) | assumption)
                                          obtain ⟨ad117, e117, hx117_0⟩ := Kd.at_int HR0.out x36_2 p117 q117
                                          cases e117
                                          replace hx117_0 := (HB.out.cell (World.block_lt_of_cell? w _ hx117_0)).trans hx117_0
                                          replace p117 := eq_true p117
                                          replace q117 := eq_true q117
                                          go_wp2_with (first | ((with_reducible refine gate_dst (N := 52) rfl ?_); refine Kd.R_make (Kd.int .i64) _ 3 rfl (N := 52) rfl 34 _ _ rfl ji17 rfl rfl Try.underlying34 (.int .i64 0) 8 info3 rfl (by decide) (by omega) 0 (ok := fun _ => True) (okp := fun _ => True) rfl (fun _ hk => hk) trivial (of_decide_eq_true (by first | (with_reducible assumption) | assumption)) (Nat.le_trans (Nat.mul_le_mul_right _ (of_decide_eq_true (by first | (with_reducible assumption) | assumption) : ji17.toNat ≤ 35184372088832)) (by omega)) (Below.refl _ _) (Nat.le_refl _) ?_; intro v119 w30 ho31 hb hg_ hnew_; clear hg_ hnew_; (first | rw [← Ny118.out] at ho31 | (simp only [Int.reduceToNat] at ho31; rw [← Ny118.out] at ho31)); have n0_ := Aside0.mk (Kd.S_elder' (by (with_reducible repeat (first | apply Kd.S_alloc | apply Kd.S_drewN | apply Kd.S_drew)); exact HO_11.out) (Kd.R_base ho31) hb); have n1_ := Aside0.mk (Kd.R_lower ho31 (below_size (by repeat (first | (with_reducible first | exact HB.out | apply below_alloc | apply pw_below_drewN | apply below_drew1) | exact HB.out)))); have n2_ := Aside0.mk (below_step (by repeat (first | (with_reducible first | exact HB.out | apply below_alloc | apply pw_below_drewN | apply below_drew1) | exact HB.out)) hb); clear HO_11; clear HB; have HO_11 := n0_; have HO120 := n1_; have HB := n2_; clear n0_ n1_ n2_; clear hb ho31; obtain ⟨Ao33, co33, eo33⟩ := Kd.R_slice HO120.out; subst eo33) | ((with_reducible refine gate_builtin (b := .append) (xs := #[.tmp 48, .tmp 53]) rfl ?_); at_builtin; refine Kd.S_append (Kd.slice 3 (Kd.int .i64)) (w0 := w) w.heap.size rfl (.tmp 48) (.tmp 53) 46 34 (.slice none 0 0) 24 rfl Try.underlying46 info34 rfl (by decide) (by omega) u11 x11_2 y118 [.slice Ao33 y118.length co33] (fun _ => True) (fun k_ => some k_ = (.slice Ao33 y118.length co33 : Value).ownBlock) rfl rfl ?aP (fun k_ hk_ => ((Kd.R_mono (ok' := fun k_ => ((fun _ => True)) k_ ∧ some k_ ≠ (u11 : Value).ownBlock) (Kd.R_apart' (HO120.out) (Kd.S_typed HO_11.out) (by decide)) (fun k_ hk => ⟨trivial, hk.2⟩))).1 k_ hk_.symm) ?aF ?aO ?aB ?aS ?aL ?_; (case aP => exact Kd.M_row (Kd.R_mono (Kd.R_tight rfl (Kd.R_mono (ok' := fun k_ => ((fun _ => True)) k_ ∧ some k_ ≠ (u11 : Value).ownBlock) (Kd.R_apart' (HO120.out) (Kd.S_typed HO_11.out) (by decide)) (fun k_ hk => ⟨trivial, hk.2⟩))) (fun _ h_ => h_))); (case aB => exact (by repeat (first | (with_reducible first | exact HB.out | apply below_alloc | apply pw_below_drewN | apply below_drew1) | exact HB.out))); (case aF => exact (fun _ _ => trivial)); (case aO => exact (by (with_reducible repeat (first | apply Kd.S_alloc | apply Kd.S_drewN | apply Kd.S_drew)); exact Kd.S_mono HO_11.out (fun k_ hk => ⟨trivial, fun e_ => hk.2 e_⟩))); (case aS => exact (below_size (by repeat (first | (with_reducible first | exact HB.out | apply below_alloc | apply pw_below_drewN | apply below_drew1) | exact HB.out)))); (case aL => have := LMc20.out; omega); intro v122 w32 ho hb hg hat; rw [← Ny121.out] at ho; have n0_ := Aside0.mk (hb); have n1_ := Aside0.mk (ho); clear HB; clear HO_11; clear HO120; have HB := n0_; have HO123 := n1_; clear n0_ n1_; clear ho hb hg hat; obtain ⟨Ao34, co34, eo34⟩ := Kd.S_slice HO123.out; subst eo34; have p124 : 0 ≤ ((ji23) : Int) := of_decide_eq_true (by first | (with_reducible assumption) | assumption); have q124 : (ji23) < (y121.length : Int) := of_decide_eq_true (by first | (with_reducible assumption) | assumption); obtain ⟨ad124, A124_0, c124_0, e124, hx124_0, hl124_0, hi124_0⟩ := at_L1 (Kd.S_reads' HO123.out).2.2 (ji23) p124 q124; cases e124; obtain ⟨ce124, hce124, hMe124, hcc124⟩ := Kd.S_get HO123.out [] (ji23) p124 (by first | exact q124 | exact of_decide_eq_true (by first | (with_reducible assumption) | assumption) | (have e_ := (Kd.S_reads' HO123.out).1; omega)); obtain ⟨ve124_0, rfl, ge124_0⟩ := hMe124; have hv124_0 := hcc124 0 _ rfl; rw [Nat.add_zero, show ((Kd.slice 3 (Kd.int .i64))).sz = 1 from rfl, Nat.mul_one] at hv124_0; replace hv124_0 := Option.some.inj (hv124_0.symm.trans hx124_0); rw [hv124_0] at ge124_0; have HL124_0 := Aside0.mk (show Kd.R (Kd.int .i64) 3 _ _ _ _ (rd_L1 y121 (ji23)) from ge124_0); clear hv124_0 ge124_0; have HX124_0 := Aside0.mk hx124_0; clear hcc124 hce124; have HR124_0 := Aside0.mk hi124_0; have HC124_0 := Aside0.mk hl124_0; clear hi124_0 hl124_0; replace p124 := eq_true p124; replace q124 := eq_true q124; have p29 : 0 ≤ ((ji26) : Int) := of_decide_eq_true (by first | (with_reducible assumption) | assumption); have q29 : ((ji26) : Int) < (((rd_L1 y121 (ji23)).length : Int) : Int) := of_decide_eq_true (by first | (with_reducible assumption) | assumption); obtain ⟨go29, co29, eo29, gb29, gl29, cl29, HG29⟩ := Kd.R_form HL124_0.out (by omega); (first | cases eo29 | (injection eo29 with ea_ en_ ec_; (first | subst ea_ | (injection ea_ with ea_; subst ea_)); subst ec_; clear en_)); have GB29 := Aside0.mk gb29; have GG29 := Aside0.mk HG29; clear gb29 gl29 HG29; obtain ⟨hx29_0, hf29_0⟩ := Kd.R_celln 0 HL124_0.out ((ji26) : Int) p29 q29; replace p29 := eq_true p29; replace q29 := eq_true q29; have hq35 : ((ji23) : Int) < (y121.length : Int) := (by have h_ : ((ji23) : Int) < ((y121.length : Int) : Int) := of_decide_eq_true (by first | (with_reducible assumption) | assumption); first | exact h_ | (have e_ := (Kd.S_reads' HO123.out).1; omega) | simpa only [List.length_set, List.length_set] using h_); obtain ⟨oki35, ce35, hcl35, hM35, hcc35, hok35, hbk35⟩ := Kd.S_borrow HO123.out [] ((ji23) : Int) (of_decide_eq_true (by first | (with_reducible assumption) | assumption)) hq35; obtain ⟨ve35_0, rfl, ge35_0⟩ := hM35; have hv35 := hcc35 0 _ rfl; rw [Nat.add_zero, show ((Kd.slice 3 (Kd.int .i64))).sz = 1 from rfl, Nat.mul_one] at hv35; replace hv35 := Option.some.inj (hv35.symm.trans HX124_0.out); subst hv35; clear hcc35 hcl35; replace ge35_0 := (show Kd.R (Kd.int .i64) 3 _ _ _ _ (rd_L1 y121 (ji23)) from ge35_0); have HP35 := Kd.R_putg ge35_0 ((ji26) : Int) (rd l0 x36_2)) | ((with_reducible refine gate_store (t := 3) (p := 73) rfl ?_); (try (rw [drewN_self w32]; generalize hq_ : World.drewN w32 _ = w32; have n0_ := Aside0.mk (Kd.S_at hq_ HO123.out); have n1_ := Aside0.mk (Kd.R_at hq_ HL140.out); have n2_ := Aside0.mk (below_at hq_ HB.out); clear hq_ HO123 HL140 HB; have HO123 := n0_; have HL140 := n1_; have HB := n2_; clear n0_ n1_ n2_; (try (have hq35 : ((ji23) : Int) < (y121.length : Int) := (by have h_ : ((ji23) : Int) < ((y121.length : Int) : Int) := of_decide_eq_true (by first | (with_reducible assumption) | assumption); first | exact h_ | (have e_ := (Kd.S_reads' HO123.out).1; omega) | simpa only [List.length_set, List.length_set] using h_))); (try (obtain ⟨oki35, ce35, hcl35, hM35, hcc35, hok35, hbk35⟩ := Kd.S_borrow HO123.out [] ((ji23) : Int) (of_decide_eq_true (by first | (with_reducible assumption) | assumption)) hq35)); (try (obtain ⟨ve35_0, rfl, ge35_0⟩ := hM35)); (try (have hv35 := hcc35 0 _ rfl)); (try (rw [Nat.add_zero, show ((Kd.slice 3 (Kd.int .i64))).sz = 1 from rfl, Nat.mul_one] at hv35)); (try (replace hv35 := Option.some.inj (hv35.symm.trans HX124_0.out))); (try (subst hv35)); (try (clear hcc35 hcl35)); (try (replace ge35_0 := (show Kd.R (Kd.int .i64) 3 _ _ _ _ (rd_L1 y121 (ji23)) from ge35_0))); (try (have HP35 := Kd.R_putg ge35_0 ((ji26) : Int) (rd l0 x36_2))))); refine store_event (t := 3) (p := 73) (v := ?vo_w36) (w1 := (w32.setCell ⟨go29, ((ji26) : Int).toNat, none⟩ (.int .i64 (rd l0 x36_2)))) ?hg ?ho ?hn ?hr ?_; (case ho => rfl); (case hg => rfl); (case hn => rfl); (case hr => first | (go_simp; done) | (go_simp; rfl)); intro w36 hw; have hg : w32.grownBy w36 (some go29) := (by rw [hw]; exact HP35.2); have hz_ : Kd.R (Kd.int .i64) 3 w36 w.heap.size oki35 (.slice (some ⟨go29, 0, none⟩) (rd_L1 y121 (ji23)).length c124_0) y125 := (by rw [hw, Ny125.out]; exact HP35.1); have hp_ : Kd.S (Kd.slice 3 (Kd.int .i64)) 34 w36 w.heap.size (fun _ => True) (.slice (some ad124) y121.length co34) y127 := (by rw [Ny127.out]; exact hbk35 hg (fun k_ e_ => by injection e_ with e_; subst e_; exact ge35_0.1 _ rfl) (Kd.M_row hz_)); have hm_ := Kd.R_mono hz_ hok35; clear HP35 hbk35; have n0_ := Aside0.mk (hp_); have n1_ := Aside0.mk ((by rw [hw]; exact below_set (HB.out) GB29.out : Below w.heap.size w w36)); have n2_ := Aside0.mk (hm_); have n3_ := Aside0.mk ((Kd.R_reads' hm_).2.1); clear HO123; clear HB; clear HL124_0; have HO123 := n0_; have HB := n1_; have HL140 := n2_; have HC126 := n3_; clear n0_ n1_ n2_ n3_; clear hg hw hp_ hz_ hm_ hok35))
                                          repeat (go_quiet (first | ((with_reducible refine gate_dst (N := 52) rfl ?_); refine Kd.R_make (Kd.int .i64) _ 3 rfl (N := 52) rfl 34 _ _ rfl ji17 rfl rfl Try.underlying34 (.int .i64 0) 8 info3 rfl (by decide) (by omega) 0 (ok := fun _ => True) (okp := fun _ => True) rfl (fun _ hk => hk) trivial (of_decide_eq_true (by first | (with_reducible assumption) | assumption)) (Nat.le_trans (Nat.mul_le_mul_right _ (of_decide_eq_true (by first | (with_reducible assumption) | assumption) : ji17.toNat ≤ 35184372088832)) (by omega)) (Below.refl _ _) (Nat.le_refl _) ?_; intro v119 w30 ho31 hb hg_ hnew_; clear hg_ hnew_; (first | rw [← Ny118.out] at ho31 | (simp only [Int.reduceToNat] at ho31; rw [← Ny118.out] at ho31)); have n0_ := Aside0.mk (Kd.S_elder' (by (with_reducible repeat (first | apply Kd.S_alloc | apply Kd.S_drewN | apply Kd.S_drew)); exact HO_11.out) (Kd.R_base ho31) hb); have n1_ := Aside0.mk (Kd.R_lower ho31 (below_size (by repeat (first | (with_reducible first | exact HB.out | apply below_alloc | apply pw_below_drewN | apply below_drew1) | exact HB.out)))); have n2_ := Aside0.mk (below_step (by repeat (first | (with_reducible first | exact HB.out | apply below_alloc | apply pw_below_drewN | apply below_drew1) | exact HB.out)) hb); clear HO_11; clear HB; have HO_11 := n0_; have HO120 := n1_; have HB := n2_; clear n0_ n1_ n2_; clear hb ho31; obtain ⟨Ao33, co33, eo33⟩ := Kd.R_slice HO120.out; subst eo33) | ((with_reducible refine gate_builtin (b := .append) (xs := #[.tmp 48, .tmp 53]) rfl ?_); at_builtin; refine Kd.S_append (Kd.slice 3 (Kd.int .i64)) (w0 := w) w.heap.size rfl (.tmp 48) (.tmp 53) 46 34 (.slice none 0 0) 24 rfl Try.underlying46 info34 rfl (by decide) (by omega) u11 x11_2 y118 [.slice Ao33 y118.length co33] (fun _ => True) (fun k_ => some k_ = (.slice Ao33 y118.length co33 : Value).ownBlock) rfl rfl ?aP (fun k_ hk_ => ((Kd.R_mono (ok' := fun k_ => ((fun _ => True)) k_ ∧ some k_ ≠ (u11 : Value).ownBlock) (Kd.R_apart' (HO120.out) (Kd.S_typed HO_11.out) (by decide)) (fun k_ hk => ⟨trivial, hk.2⟩))).1 k_ hk_.symm) ?aF ?aO ?aB ?aS ?aL ?_; (case aP => exact Kd.M_row (Kd.R_mono (Kd.R_tight rfl (Kd.R_mono (ok' := fun k_ => ((fun _ => True)) k_ ∧ some k_ ≠ (u11 : Value).ownBlock) (Kd.R_apart' (HO120.out) (Kd.S_typed HO_11.out) (by decide)) (fun k_ hk => ⟨trivial, hk.2⟩))) (fun _ h_ => h_))); (case aB => exact (by repeat (first | (with_reducible first | exact HB.out | apply below_alloc | apply pw_below_drewN | apply below_drew1) | exact HB.out))); (case aF => exact (fun _ _ => trivial)); (case aO => exact (by (with_reducible repeat (first | apply Kd.S_alloc | apply Kd.S_drewN | apply Kd.S_drew)); exact Kd.S_mono HO_11.out (fun k_ hk => ⟨trivial, fun e_ => hk.2 e_⟩))); (case aS => exact (below_size (by repeat (first | (with_reducible first | exact HB.out | apply below_alloc | apply pw_below_drewN | apply below_drew1) | exact HB.out)))); (case aL => have := LMc20.out; omega); intro v122 w32 ho hb hg hat; rw [← Ny121.out] at ho; have n0_ := Aside0.mk (hb); have n1_ := Aside0.mk (ho); clear HB; clear HO_11; clear HO120; have HB := n0_; have HO123 := n1_; clear n0_ n1_; clear ho hb hg hat; obtain ⟨Ao34, co34, eo34⟩ := Kd.S_slice HO123.out; subst eo34; have p124 : 0 ≤ ((ji23) : Int) := of_decide_eq_true (by first | (with_reducible assumption) | assumption); have q124 : (ji23) < (y121.length : Int) := of_decide_eq_true (by first | (with_reducible assumption) | assumption); obtain ⟨ad124, A124_0, c124_0, e124, hx124_0, hl124_0, hi124_0⟩ := at_L1 (Kd.S_reads' HO123.out).2.2 (ji23) p124 q124; cases e124; obtain ⟨ce124, hce124, hMe124, hcc124⟩ := Kd.S_get HO123.out [] (ji23) p124 (by first | exact q124 | exact of_decide_eq_true (by first | (with_reducible assumption) | assumption) | (have e_ := (Kd.S_reads' HO123.out).1; omega)); obtain ⟨ve124_0, rfl, ge124_0⟩ := hMe124; have hv124_0 := hcc124 0 _ rfl; rw [Nat.add_zero, show ((Kd.slice 3 (Kd.int .i64))).sz = 1 from rfl, Nat.mul_one] at hv124_0; replace hv124_0 := Option.some.inj (hv124_0.symm.trans hx124_0); rw [hv124_0] at ge124_0; have HL124_0 := Aside0.mk (show Kd.R (Kd.int .i64) 3 _ _ _ _ (rd_L1 y121 (ji23)) from ge124_0); clear hv124_0 ge124_0; have HX124_0 := Aside0.mk hx124_0; clear hcc124 hce124; have HR124_0 := Aside0.mk hi124_0; have HC124_0 := Aside0.mk hl124_0; clear hi124_0 hl124_0; replace p124 := eq_true p124; replace q124 := eq_true q124; have p29 : 0 ≤ ((ji26) : Int) := of_decide_eq_true (by first | (with_reducible assumption) | assumption); have q29 : ((ji26) : Int) < (((rd_L1 y121 (ji23)).length : Int) : Int) := of_decide_eq_true (by first | (with_reducible assumption) | assumption); obtain ⟨go29, co29, eo29, gb29, gl29, cl29, HG29⟩ := Kd.R_form HL124_0.out (by omega); (first | cases eo29 | (injection eo29 with ea_ en_ ec_; (first | subst ea_ | (injection ea_ with ea_; subst ea_)); subst ec_; clear en_)); have GB29 := Aside0.mk gb29; have GG29 := Aside0.mk HG29; clear gb29 gl29 HG29; obtain ⟨hx29_0, hf29_0⟩ := Kd.R_celln 0 HL124_0.out ((ji26) : Int) p29 q29; replace p29 := eq_true p29; replace q29 := eq_true q29; have hq35 : ((ji23) : Int) < (y121.length : Int) := (by have h_ : ((ji23) : Int) < ((y121.length : Int) : Int) := of_decide_eq_true (by first | (with_reducible assumption) | assumption); first | exact h_ | (have e_ := (Kd.S_reads' HO123.out).1; omega) | simpa only [List.length_set, List.length_set] using h_); obtain ⟨oki35, ce35, hcl35, hM35, hcc35, hok35, hbk35⟩ := Kd.S_borrow HO123.out [] ((ji23) : Int) (of_decide_eq_true (by first | (with_reducible assumption) | assumption)) hq35; obtain ⟨ve35_0, rfl, ge35_0⟩ := hM35; have hv35 := hcc35 0 _ rfl; rw [Nat.add_zero, show ((Kd.slice 3 (Kd.int .i64))).sz = 1 from rfl, Nat.mul_one] at hv35; replace hv35 := Option.some.inj (hv35.symm.trans HX124_0.out); subst hv35; clear hcc35 hcl35; replace ge35_0 := (show Kd.R (Kd.int .i64) 3 _ _ _ _ (rd_L1 y121 (ji23)) from ge35_0); have HP35 := Kd.R_putg ge35_0 ((ji26) : Int) (rd l0 x36_2)) | ((with_reducible refine gate_store (t := 3) (p := 73) rfl ?_); (try (rw [drewN_self w32]; generalize hq_ : World.drewN w32 _ = w32; have n0_ := Aside0.mk (Kd.S_at hq_ HO123.out); have n1_ := Aside0.mk (Kd.R_at hq_ HL140.out); have n2_ := Aside0.mk (below_at hq_ HB.out); clear hq_ HO123 HL140 HB; have HO123 := n0_; have HL140 := n1_; have HB := n2_; clear n0_ n1_ n2_; (try (have hq35 : ((ji23) : Int) < (y121.length : Int) := (by have h_ : ((ji23) : Int) < ((y121.length : Int) : Int) := of_decide_eq_true (by first | (with_reducible assumption) | assumption); first | exact h_ | (have e_ := (Kd.S_reads' HO123.out).1; omega) | simpa only [List.length_set, List.length_set] using h_))); (try (obtain ⟨oki35, ce35, hcl35, hM35, hcc35, hok35, hbk35⟩ := Kd.S_borrow HO123.out [] ((ji23) : Int) (of_decide_eq_true (by first | (with_reducible assumption) | assumption)) hq35)); (try (obtain ⟨ve35_0, rfl, ge35_0⟩ := hM35)); (try (have hv35 := hcc35 0 _ rfl)); (try (rw [Nat.add_zero, show ((Kd.slice 3 (Kd.int .i64))).sz = 1 from rfl, Nat.mul_one] at hv35)); (try (replace hv35 := Option.some.inj (hv35.symm.trans HX124_0.out))); (try (subst hv35)); (try (clear hcc35 hcl35)); (try (replace ge35_0 := (show Kd.R (Kd.int .i64) 3 _ _ _ _ (rd_L1 y121 (ji23)) from ge35_0))); (try (have HP35 := Kd.R_putg ge35_0 ((ji26) : Int) (rd l0 x36_2))))); refine store_event (t := 3) (p := 73) (v := ?vo_w36) (w1 := (w32.setCell ⟨go29, ((ji26) : Int).toNat, none⟩ (.int .i64 (rd l0 x36_2)))) ?hg ?ho ?hn ?hr ?_; (case ho => rfl); (case hg => rfl); (case hn => rfl); (case hr => first | (go_simp; done) | (go_simp; rfl)); intro w36 hw; have hg : w32.grownBy w36 (some go29) := (by rw [hw]; exact HP35.2); have hz_ : Kd.R (Kd.int .i64) 3 w36 w.heap.size oki35 (.slice (some ⟨go29, 0, none⟩) (rd_L1 y121 (ji23)).length c124_0) y125 := (by rw [hw, Ny125.out]; exact HP35.1); have hp_ : Kd.S (Kd.slice 3 (Kd.int .i64)) 34 w36 w.heap.size (fun _ => True) (.slice (some ad124) y121.length co34) y127 := (by rw [Ny127.out]; exact hbk35 hg (fun k_ e_ => by injection e_ with e_; subst e_; exact ge35_0.1 _ rfl) (Kd.M_row hz_)); have hm_ := Kd.R_mono hz_ hok35; clear HP35 hbk35; have n0_ := Aside0.mk (hp_); have n1_ := Aside0.mk ((by rw [hw]; exact below_set (HB.out) GB29.out : Below w.heap.size w w36)); have n2_ := Aside0.mk (hm_); have n3_ := Aside0.mk ((Kd.R_reads' hm_).2.1); clear HO123; clear HB; clear HL124_0; have HO123 := n0_; have HB := n1_; have HL140 := n2_; have HC126 := n3_; clear n0_ n1_ n2_ n3_; clear hg hw hp_ hz_ hm_ hok35)); try go_wp2_with (first | ((with_reducible refine gate_dst (N := 52) rfl ?_); refine Kd.R_make (Kd.int .i64) _ 3 rfl (N := 52) rfl 34 _ _ rfl ji17 rfl rfl Try.underlying34 (.int .i64 0) 8 info3 rfl (by decide) (by omega) 0 (ok := fun _ => True) (okp := fun _ => True) rfl (fun _ hk => hk) trivial (of_decide_eq_true (by first | (with_reducible assumption) | assumption)) (Nat.le_trans (Nat.mul_le_mul_right _ (of_decide_eq_true (by first | (with_reducible assumption) | assumption) : ji17.toNat ≤ 35184372088832)) (by omega)) (Below.refl _ _) (Nat.le_refl _) ?_; intro v119 w30 ho31 hb hg_ hnew_; clear hg_ hnew_; (first | rw [← Ny118.out] at ho31 | (simp only [Int.reduceToNat] at ho31; rw [← Ny118.out] at ho31)); have n0_ := Aside0.mk (Kd.S_elder' (by (with_reducible repeat (first | apply Kd.S_alloc | apply Kd.S_drewN | apply Kd.S_drew)); exact HO_11.out) (Kd.R_base ho31) hb); have n1_ := Aside0.mk (Kd.R_lower ho31 (below_size (by repeat (first | (with_reducible first | exact HB.out | apply below_alloc | apply pw_below_drewN | apply below_drew1) | exact HB.out)))); have n2_ := Aside0.mk (below_step (by repeat (first | (with_reducible first | exact HB.out | apply below_alloc | apply pw_below_drewN | apply below_drew1) | exact HB.out)) hb); clear HO_11; clear HB; have HO_11 := n0_; have HO120 := n1_; have HB := n2_; clear n0_ n1_ n2_; clear hb ho31; obtain ⟨Ao33, co33, eo33⟩ := Kd.R_slice HO120.out; subst eo33) | ((with_reducible refine gate_builtin (b := .append) (xs := #[.tmp 48, .tmp 53]) rfl ?_); at_builtin; refine Kd.S_append (Kd.slice 3 (Kd.int .i64)) (w0 := w) w.heap.size rfl (.tmp 48) (.tmp 53) 46 34 (.slice none 0 0) 24 rfl Try.underlying46 info34 rfl (by decide) (by omega) u11 x11_2 y118 [.slice Ao33 y118.length co33] (fun _ => True) (fun k_ => some k_ = (.slice Ao33 y118.length co33 : Value).ownBlock) rfl rfl ?aP (fun k_ hk_ => ((Kd.R_mono (ok' := fun k_ => ((fun _ => True)) k_ ∧ some k_ ≠ (u11 : Value).ownBlock) (Kd.R_apart' (HO120.out) (Kd.S_typed HO_11.out) (by decide)) (fun k_ hk => ⟨trivial, hk.2⟩))).1 k_ hk_.symm) ?aF ?aO ?aB ?aS ?aL ?_; (case aP => exact Kd.M_row (Kd.R_mono (Kd.R_tight rfl (Kd.R_mono (ok' := fun k_ => ((fun _ => True)) k_ ∧ some k_ ≠ (u11 : Value).ownBlock) (Kd.R_apart' (HO120.out) (Kd.S_typed HO_11.out) (by decide)) (fun k_ hk => ⟨trivial, hk.2⟩))) (fun _ h_ => h_))); (case aB => exact (by repeat (first | (with_reducible first | exact HB.out | apply below_alloc | apply pw_below_drewN | apply below_drew1) | exact HB.out))); (case aF => exact (fun _ _ => trivial)); (case aO => exact (by (with_reducible repeat (first | apply Kd.S_alloc | apply Kd.S_drewN | apply Kd.S_drew)); exact Kd.S_mono HO_11.out (fun k_ hk => ⟨trivial, fun e_ => hk.2 e_⟩))); (case aS => exact (below_size (by repeat (first | (with_reducible first | exact HB.out | apply below_alloc | apply pw_below_drewN | apply below_drew1) | exact HB.out)))); (case aL => have := LMc20.out; omega); intro v122 w32 ho hb hg hat; rw [← Ny121.out] at ho; have n0_ := Aside0.mk (hb); have n1_ := Aside0.mk (ho); clear HB; clear HO_11; clear HO120; have HB := n0_; have HO123 := n1_; clear n0_ n1_; clear ho hb hg hat; obtain ⟨Ao34, co34, eo34⟩ := Kd.S_slice HO123.out; subst eo34; have p124 : 0 ≤ ((ji23) : Int) := of_decide_eq_true (by first | (with_reducible assumption) | assumption); have q124 : (ji23) < (y121.length : Int) := of_decide_eq_true (by first | (with_reducible assumption) | assumption); obtain ⟨ad124, A124_0, c124_0, e124, hx124_0, hl124_0, hi124_0⟩ := at_L1 (Kd.S_reads' HO123.out).2.2 (ji23) p124 q124; cases e124; obtain ⟨ce124, hce124, hMe124, hcc124⟩ := Kd.S_get HO123.out [] (ji23) p124 (by first | exact q124 | exact of_decide_eq_true (by first | (with_reducible assumption) | assumption) | (have e_ := (Kd.S_reads' HO123.out).1; omega)); obtain ⟨ve124_0, rfl, ge124_0⟩ := hMe124; have hv124_0 := hcc124 0 _ rfl; rw [Nat.add_zero, show ((Kd.slice 3 (Kd.int .i64))).sz = 1 from rfl, Nat.mul_one] at hv124_0; replace hv124_0 := Option.some.inj (hv124_0.symm.trans hx124_0); rw [hv124_0] at ge124_0; have HL124_0 := Aside0.mk (show Kd.R (Kd.int .i64) 3 _ _ _ _ (rd_L1 y121 (ji23)) from ge124_0); clear hv124_0 ge124_0; have HX124_0 := Aside0.mk hx124_0; clear hcc124 hce124; have HR124_0 := Aside0.mk hi124_0; have HC124_0 := Aside0.mk hl124_0; clear hi124_0 hl124_0; replace p124 := eq_true p124; replace q124 := eq_true q124; have p29 : 0 ≤ ((ji26) : Int) := of_decide_eq_true (by first | (with_reducible assumption) | assumption); have q29 : ((ji26) : Int) < (((rd_L1 y121 (ji23)).length : Int) : Int) := of_decide_eq_true (by first | (with_reducible assumption) | assumption); obtain ⟨go29, co29, eo29, gb29, gl29, cl29, HG29⟩ := Kd.R_form HL124_0.out (by omega); (first | cases eo29 | (injection eo29 with ea_ en_ ec_; (first | subst ea_ | (injection ea_ with ea_; subst ea_)); subst ec_; clear en_)); have GB29 := Aside0.mk gb29; have GG29 := Aside0.mk HG29; clear gb29 gl29 HG29; obtain ⟨hx29_0, hf29_0⟩ := Kd.R_celln 0 HL124_0.out ((ji26) : Int) p29 q29; replace p29 := eq_true p29; replace q29 := eq_true q29; have hq35 : ((ji23) : Int) < (y121.length : Int) := (by have h_ : ((ji23) : Int) < ((y121.length : Int) : Int) := of_decide_eq_true (by first | (with_reducible assumption) | assumption); first | exact h_ | (have e_ := (Kd.S_reads' HO123.out).1; omega) | simpa only [List.length_set, List.length_set] using h_); obtain ⟨oki35, ce35, hcl35, hM35, hcc35, hok35, hbk35⟩ := Kd.S_borrow HO123.out [] ((ji23) : Int) (of_decide_eq_true (by first | (with_reducible assumption) | assumption)) hq35; obtain ⟨ve35_0, rfl, ge35_0⟩ := hM35; have hv35 := hcc35 0 _ rfl; rw [Nat.add_zero, show ((Kd.slice 3 (Kd.int .i64))).sz = 1 from rfl, Nat.mul_one] at hv35; replace hv35 := Option.some.inj (hv35.symm.trans HX124_0.out); subst hv35; clear hcc35 hcl35; replace ge35_0 := (show Kd.R (Kd.int .i64) 3 _ _ _ _ (rd_L1 y121 (ji23)) from ge35_0); have HP35 := Kd.R_putg ge35_0 ((ji26) : Int) (rd l0 x36_2)) | ((with_reducible refine gate_store (t := 3) (p := 73) rfl ?_); (try (rw [drewN_self w32]; generalize hq_ : World.drewN w32 _ = w32; have n0_ := Aside0.mk (Kd.S_at hq_ HO123.out); have n1_ := Aside0.mk (Kd.R_at hq_ HL140.out); have n2_ := Aside0.mk (below_at hq_ HB.out); clear hq_ HO123 HL140 HB; have HO123 := n0_; have HL140 := n1_; have HB := n2_; clear n0_ n1_ n2_; (try (have hq35 : ((ji23) : Int) < (y121.length : Int) := (by have h_ : ((ji23) : Int) < ((y121.length : Int) : Int) := of_decide_eq_true (by first | (with_reducible assumption) | assumption); first | exact h_ | (have e_ := (Kd.S_reads' HO123.out).1; omega) | simpa only [List.length_set, List.length_set] using h_))); (try (obtain ⟨oki35, ce35, hcl35, hM35, hcc35, hok35, hbk35⟩ := Kd.S_borrow HO123.out [] ((ji23) : Int) (of_decide_eq_true (by first | (with_reducible assumption) | assumption)) hq35)); (try (obtain ⟨ve35_0, rfl, ge35_0⟩ := hM35)); (try (have hv35 := hcc35 0 _ rfl)); (try (rw [Nat.add_zero, show ((Kd.slice 3 (Kd.int .i64))).sz = 1 from rfl, Nat.mul_one] at hv35)); (try (replace hv35 := Option.some.inj (hv35.symm.trans HX124_0.out))); (try (subst hv35)); (try (clear hcc35 hcl35)); (try (replace ge35_0 := (show Kd.R (Kd.int .i64) 3 _ _ _ _ (rd_L1 y121 (ji23)) from ge35_0))); (try (have HP35 := Kd.R_putg ge35_0 ((ji26) : Int) (rd l0 x36_2))))); refine store_event (t := 3) (p := 73) (v := ?vo_w36) (w1 := (w32.setCell ⟨go29, ((ji26) : Int).toNat, none⟩ (.int .i64 (rd l0 x36_2)))) ?hg ?ho ?hn ?hr ?_; (case ho => rfl); (case hg => rfl); (case hn => rfl); (case hr => first | (go_simp; done) | (go_simp; rfl)); intro w36 hw; have hg : w32.grownBy w36 (some go29) := (by rw [hw]; exact HP35.2); have hz_ : Kd.R (Kd.int .i64) 3 w36 w.heap.size oki35 (.slice (some ⟨go29, 0, none⟩) (rd_L1 y121 (ji23)).length c124_0) y125 := (by rw [hw, Ny125.out]; exact HP35.1); have hp_ : Kd.S (Kd.slice 3 (Kd.int .i64)) 34 w36 w.heap.size (fun _ => True) (.slice (some ad124) y121.length co34) y127 := (by rw [Ny127.out]; exact hbk35 hg (fun k_ e_ => by injection e_ with e_; subst e_; exact ge35_0.1 _ rfl) (Kd.M_row hz_)); have hm_ := Kd.R_mono hz_ hok35; clear HP35 hbk35; have n0_ := Aside0.mk (hp_); have n1_ := Aside0.mk ((by rw [hw]; exact below_set (HB.out) GB29.out : Below w.heap.size w w36)); have n2_ := Aside0.mk (hm_); have n3_ := Aside0.mk ((Kd.R_reads' hm_).2.1); clear HO123; clear HB; clear HL124_0; have HO123 := n0_; have HB := n1_; have HL140 := n2_; have HC126 := n3_; clear n0_ n1_ n2_ n3_; clear hg hw hp_ hz_ hm_ hok35)))
                                          go_roundg k2
                                          case measure => have := HJ6.out; have := HK2.out; omega
                                          case rel => exact ⟨(y127), (wrap64 (x36_2 + 1)), (by first | rfl | (simp; done) | (simp [*]; done)), H', ⟨by have := HJ6.out; have := HK2.out; omega⟩, ⟨by (with_reducible repeat (first | apply Kd.S_alloc | apply Kd.S_drewN | apply Kd.S_drew)); first | exact HO123.out | (rw [set_drewN]; apply Kd.S_drewN; rw [Ny127.out, Ny125.out]; exact hbk35 HP35.2 (fun k_ e_ => by injection e_ with e_; subst e_; exact ge35_0.1 _ rfl) (Kd.M_row HP35.1))⟩, ⟨by first | (rw [set_drewN]; apply pw_below_drewN; exact below_set HB.out GB29.out) | repeat (first | (with_reducible first | exact HB.out | apply below_alloc | apply pw_below_drewN | apply below_drew1) | exact HB.out)⟩⟩
                                        · rw [if_neg c28] at H
                                          exact absurd H (by simp)
                                      · rw [if_neg c27] at H
                                        exact absurd H (by simp)
                                    · rw [if_neg c25] at H
                                      exact absurd H (by simp)
                                  · rw [if_neg c24] at H
                                    exact absurd H (by simp)
                              · replace c21 := Bool.eq_false_iff.mpr c21
                                subst c21
                                have H1 : (if 0 ≤ (wrap64 ((y121.length : Int) - 1)) then (if (wrap64 ((y121.length : Int) - 1)) < (y121.length : Int) then (if 0 ≤ (Int.tmod x36_2 (ji17)) then (if (Int.tmod x36_2 (ji17)) < ((rd_L1 y121 (wrap64 ((y121.length : Int) - 1))).length : Int) then (printing_Several.l0 k2 a1 a2 false (y121.set ((wrap64 ((y121.length : Int) - 1)) : Int).toNat ((rd_L1 y121 (wrap64 ((y121.length : Int) - 1))).set ((Int.tmod x36_2 (ji17)) : Int).toNat (rd l0 x36_2))) l0 (l0.length : Int) (wrap64 (x36_2 + 1))) else (none)) else (none)) else (none)) else (none)) = some (r1, r2) := by rw [if_neg (show ¬ (false = true) by decide)] at H; exact H
                                clear H
                                have H := H1
                                clear H1
                                obtain ⟨ji37, hji37⟩ : ∃ j_ : Int, (wrap64 ((y121.length : Int) - 1)) = j_ := ⟨_, rfl⟩
                                replace H : (if 0 ≤ (ji37) then (if (ji37) < (y121.length : Int) then (if 0 ≤ (Int.tmod x36_2 (ji17)) then (if (Int.tmod x36_2 (ji17)) < ((rd_L1 y121 (ji37)).length : Int) then (printing_Several.l0 k2 a1 a2 false (y121.set ((ji37) : Int).toNat ((rd_L1 y121 (ji37)).set ((Int.tmod x36_2 (ji17)) : Int).toNat (rd l0 x36_2))) l0 (l0.length : Int) (wrap64 (x36_2 + 1))) else (none)) else (none)) else (none)) else (none)) = some (r1, r2) := by first | (rw [hji37] at H; exact H) | (simp only [hji37] at H ⊢; exact H)
                                have hji37w : (IntKind.i64.wrap ((y121.length : Int) - 1)) = ji37 := (i64_w _).trans hji37
                                by_cases c38 : 0 ≤ (ji37)
                                · rw [if_pos c38] at H
                                  have c38b0 : decide (0 ≤ (ji37)) = true := decide_eq_true c38
                                  clear c38
                                  by_cases c39 : (ji37) < (y121.length : Int)
                                  · rw [if_pos c39] at H
                                    have c39b0 : decide ((ji37) < (y121.length : Int)) = true := decide_eq_true c39
                                    clear c39
                                    obtain ⟨ji40, hji40⟩ : ∃ j_ : Int, (Int.tmod x36_2 (ji17)) = j_ := ⟨_, rfl⟩
                                    replace H : (if 0 ≤ (ji40) then (if (ji40) < ((rd_L1 y121 (ji37)).length : Int) then (printing_Several.l0 k2 a1 a2 false (y121.set ((ji37) : Int).toNat ((rd_L1 y121 (ji37)).set ((ji40) : Int).toNat (rd l0 x36_2))) l0 (l0.length : Int) (wrap64 (x36_2 + 1))) else (none)) else (none)) = some (r1, r2) := by first | (rw [hji40] at H; exact H) | (simp only [hji40] at H ⊢; exact H)
                                    by_cases c41 : 0 ≤ (ji40)
                                    · rw [if_pos c41] at H
                                      have c41b0 : decide (0 ≤ (ji40)) = true := decide_eq_true c41
                                      clear c41
                                      by_cases c42 : (ji40) < ((rd_L1 y121 (ji37)).length : Int)
                                      · rw [if_pos c42] at H
                                        have c42b0 : decide ((ji40) < ((rd_L1 y121 (ji37)).length : Int)) = true := decide_eq_true c42
                                        clear c42
                                        obtain ⟨y129, hy129⟩ : ∃ y_ : List Int, y_ = ((rd_L1 y121 (ji37)).set ((ji40) : Int).toNat (rd l0 x36_2)) := ⟨_, rfl⟩
                                        replace H : (printing_Several.l0 k2 a1 a2 false (y121.set ((ji37) : Int).toNat y129) l0 (l0.length : Int) (wrap64 (x36_2 + 1))) = some (r1, r2) := by first | (rw [hy129]; with_reducible exact H) | (have H2_ := (Option.bind_some _ _).symm.trans H; rw [hy129]; with_reducible exact H2_) | (have H2_ := (Option.bind_some _ _).symm.trans H; with_reducible exact H2_) | with_reducible exact H | (rw [hy129]; exact H) | exact H
                                        have Ny129 := Aside0.mk hy129
                                        clear hy129
                                        obtain ⟨y131, hy131⟩ : ∃ y_ : List (List Int), y_ = (y121.set ((ji37) : Int).toNat y129) := ⟨_, rfl⟩
                                        replace H : (printing_Several.l0 k2 a1 a2 false y131 l0 (l0.length : Int) (wrap64 (x36_2 + 1))) = some (r1, r2) := by first | (rw [hy131]; with_reducible exact H) | (have H2_ := (Option.bind_some _ _).symm.trans H; rw [hy131]; with_reducible exact H2_) | (have H2_ := (Option.bind_some _ _).symm.trans H; with_reducible exact H2_) | with_reducible exact H | (rw [hy131]; exact H) | exact H
                                        have Ny131 := Aside0.mk hy131
                                        clear hy131
                                        have H' := Aside0.mk H
                                        clear H
                                        have p117 : 0 ≤ (x36_2 : Int) := of_decide_eq_true (by first | (with_reducible assumption) | assumption)
                                        have q117 : x36_2 < (l0.length : Int) := of_decide_eq_true (by first | (with_reducible assumption) | assumption)
                                        obtain ⟨ad117, e117, hx117_0⟩ := Kd.at_int HR0.out x36_2 p117 q117
                                        cases e117
                                        replace hx117_0 := (HB.out.cell (World.block_lt_of_cell? w _ hx117_0)).trans hx117_0
                                        replace p117 := eq_true p117
                                        replace q117 := eq_true q117
                                        go_wp2_with (first | ((with_reducible refine gate_dst (N := 52) rfl ?_); refine Kd.R_make (Kd.int .i64) _ 3 rfl (N := 52) rfl 34 _ _ rfl ji17 rfl rfl Try.underlying34 (.int .i64 0) 8 info3 rfl (by decide) (by omega) 0 (ok := fun _ => True) (okp := fun _ => True) rfl (fun _ hk => hk) trivial (of_decide_eq_true (by first | (with_reducible assumption) | assumption)) (Nat.le_trans (Nat.mul_le_mul_right _ (of_decide_eq_true (by first | (with_reducible assumption) | assumption) : ji17.toNat ≤ 35184372088832)) (by omega)) (Below.refl _ _) (Nat.le_refl _) ?_; intro v119 w44 ho45 hb hg_ hnew_; clear hg_ hnew_; (first | rw [← Ny118.out] at ho45 | (simp only [Int.reduceToNat] at ho45; rw [← Ny118.out] at ho45)); have n0_ := Aside0.mk (Kd.S_elder' (by (with_reducible repeat (first | apply Kd.S_alloc | apply Kd.S_drewN | apply Kd.S_drew)); exact HO_11.out) (Kd.R_base ho45) hb); have n1_ := Aside0.mk (Kd.R_lower ho45 (below_size (by repeat (first | (with_reducible first | exact HB.out | apply below_alloc | apply pw_below_drewN | apply below_drew1) | exact HB.out)))); have n2_ := Aside0.mk (below_step (by repeat (first | (with_reducible first | exact HB.out | apply below_alloc | apply pw_below_drewN | apply below_drew1) | exact HB.out)) hb); clear HO_11; clear HB; have HO_11 := n0_; have HO120 := n1_; have HB := n2_; clear n0_ n1_ n2_; clear hb ho45; obtain ⟨Ao47, co47, eo47⟩ := Kd.R_slice HO120.out; subst eo47) | ((with_reducible refine gate_builtin (b := .append) (xs := #[.tmp 48, .tmp 53]) rfl ?_); at_builtin; refine Kd.S_append (Kd.slice 3 (Kd.int .i64)) (w0 := w) w.heap.size rfl (.tmp 48) (.tmp 53) 46 34 (.slice none 0 0) 24 rfl Try.underlying46 info34 rfl (by decide) (by omega) u11 x11_2 y118 [.slice Ao47 y118.length co47] (fun _ => True) (fun k_ => some k_ = (.slice Ao47 y118.length co47 : Value).ownBlock) rfl rfl ?aP (fun k_ hk_ => ((Kd.R_mono (ok' := fun k_ => ((fun _ => True)) k_ ∧ some k_ ≠ (u11 : Value).ownBlock) (Kd.R_apart' (HO120.out) (Kd.S_typed HO_11.out) (by decide)) (fun k_ hk => ⟨trivial, hk.2⟩))).1 k_ hk_.symm) ?aF ?aO ?aB ?aS ?aL ?_; (case aP => exact Kd.M_row (Kd.R_mono (Kd.R_tight rfl (Kd.R_mono (ok' := fun k_ => ((fun _ => True)) k_ ∧ some k_ ≠ (u11 : Value).ownBlock) (Kd.R_apart' (HO120.out) (Kd.S_typed HO_11.out) (by decide)) (fun k_ hk => ⟨trivial, hk.2⟩))) (fun _ h_ => h_))); (case aB => exact (by repeat (first | (with_reducible first | exact HB.out | apply below_alloc | apply pw_below_drewN | apply below_drew1) | exact HB.out))); (case aF => exact (fun _ _ => trivial)); (case aO => exact (by (with_reducible repeat (first | apply Kd.S_alloc | apply Kd.S_drewN | apply Kd.S_drew)); exact Kd.S_mono HO_11.out (fun k_ hk => ⟨trivial, fun e_ => hk.2 e_⟩))); (case aS => exact (below_size (by repeat (first | (with_reducible first | exact HB.out | apply below_alloc | apply pw_below_drewN | apply below_drew1) | exact HB.out)))); (case aL => have := LMc20.out; omega); intro v122 w46 ho hb hg hat; rw [← Ny121.out] at ho; have n0_ := Aside0.mk (hb); have n1_ := Aside0.mk (ho); clear HB; clear HO_11; clear HO120; have HB := n0_; have HO123 := n1_; clear n0_ n1_; clear ho hb hg hat; obtain ⟨Ao48, co48, eo48⟩ := Kd.S_slice HO123.out; subst eo48; have p128 : 0 ≤ ((ji37) : Int) := of_decide_eq_true (by first | (with_reducible assumption) | assumption); have q128 : (ji37) < (y121.length : Int) := of_decide_eq_true (by first | (with_reducible assumption) | assumption); obtain ⟨ad128, A128_0, c128_0, e128, hx128_0, hl128_0, hi128_0⟩ := at_L1 (Kd.S_reads' HO123.out).2.2 (ji37) p128 q128; cases e128; obtain ⟨ce128, hce128, hMe128, hcc128⟩ := Kd.S_get HO123.out [] (ji37) p128 (by first | exact q128 | exact of_decide_eq_true (by first | (with_reducible assumption) | assumption) | (have e_ := (Kd.S_reads' HO123.out).1; omega)); obtain ⟨ve128_0, rfl, ge128_0⟩ := hMe128; have hv128_0 := hcc128 0 _ rfl; rw [Nat.add_zero, show ((Kd.slice 3 (Kd.int .i64))).sz = 1 from rfl, Nat.mul_one] at hv128_0; replace hv128_0 := Option.some.inj (hv128_0.symm.trans hx128_0); rw [hv128_0] at ge128_0; have HL128_0 := Aside0.mk (show Kd.R (Kd.int .i64) 3 _ _ _ _ (rd_L1 y121 (ji37)) from ge128_0); clear hv128_0 ge128_0; have HX128_0 := Aside0.mk hx128_0; clear hcc128 hce128; have HR128_0 := Aside0.mk hi128_0; have HC128_0 := Aside0.mk hl128_0; clear hi128_0 hl128_0; replace p128 := eq_true p128; replace q128 := eq_true q128; have p43 : 0 ≤ ((ji40) : Int) := of_decide_eq_true (by first | (with_reducible assumption) | assumption); have q43 : ((ji40) : Int) < (((rd_L1 y121 (ji37)).length : Int) : Int) := of_decide_eq_true (by first | (with_reducible assumption) | assumption); obtain ⟨go43, co43, eo43, gb43, gl43, cl43, HG43⟩ := Kd.R_form HL128_0.out (by omega); (first | cases eo43 | (injection eo43 with ea_ en_ ec_; (first | subst ea_ | (injection ea_ with ea_; subst ea_)); subst ec_; clear en_)); have GB43 := Aside0.mk gb43; have GG43 := Aside0.mk HG43; clear gb43 gl43 HG43; obtain ⟨hx43_0, hf43_0⟩ := Kd.R_celln 0 HL128_0.out ((ji40) : Int) p43 q43; replace p43 := eq_true p43; replace q43 := eq_true q43; have hq49 : ((ji37) : Int) < (y121.length : Int) := (by have h_ : ((ji37) : Int) < ((y121.length : Int) : Int) := of_decide_eq_true (by first | (with_reducible assumption) | assumption); first | exact h_ | (have e_ := (Kd.S_reads' HO123.out).1; omega) | simpa only [List.length_set, List.length_set] using h_); obtain ⟨oki49, ce49, hcl49, hM49, hcc49, hok49, hbk49⟩ := Kd.S_borrow HO123.out [] ((ji37) : Int) (of_decide_eq_true (by first | (with_reducible assumption) | assumption)) hq49; obtain ⟨ve49_0, rfl, ge49_0⟩ := hM49; have hv49 := hcc49 0 _ rfl; rw [Nat.add_zero, show ((Kd.slice 3 (Kd.int .i64))).sz = 1 from rfl, Nat.mul_one] at hv49; replace hv49 := Option.some.inj (hv49.symm.trans HX128_0.out); subst hv49; clear hcc49 hcl49; replace ge49_0 := (show Kd.R (Kd.int .i64) 3 _ _ _ _ (rd_L1 y121 (ji37)) from ge49_0); have HP49 := Kd.R_putg ge49_0 ((ji40) : Int) (rd l0 x36_2)) | ((with_reducible refine gate_store (t := 3) (p := 73) rfl ?_); (try (rw [drewN_self w46]; generalize hq_ : World.drewN w46 _ = w46; have n0_ := Aside0.mk (Kd.S_at hq_ HO123.out); have n1_ := Aside0.mk (Kd.R_at hq_ HL141.out); have n2_ := Aside0.mk (below_at hq_ HB.out); clear hq_ HO123 HL141 HB; have HO123 := n0_; have HL141 := n1_; have HB := n2_; clear n0_ n1_ n2_; (try (have hq49 : ((ji37) : Int) < (y121.length : Int) := (by have h_ : ((ji37) : Int) < ((y121.length : Int) : Int) := of_decide_eq_true (by first | (with_reducible assumption) | assumption); first | exact h_ | (have e_ := (Kd.S_reads' HO123.out).1; omega) | simpa only [List.length_set, List.length_set] using h_))); (try (obtain ⟨oki49, ce49, hcl49, hM49, hcc49, hok49, hbk49⟩ := Kd.S_borrow HO123.out [] ((ji37) : Int) (of_decide_eq_true (by first | (with_reducible assumption) | assumption)) hq49)); (try (obtain ⟨ve49_0, rfl, ge49_0⟩ := hM49)); (try (have hv49 := hcc49 0 _ rfl)); (try (rw [Nat.add_zero, show ((Kd.slice 3 (Kd.int .i64))).sz = 1 from rfl, Nat.mul_one] at hv49)); (try (replace hv49 := Option.some.inj (hv49.symm.trans HX128_0.out))); (try (subst hv49)); (try (clear hcc49 hcl49)); (try (replace ge49_0 := (show Kd.R (Kd.int .i64) 3 _ _ _ _ (rd_L1 y121 (ji37)) from ge49_0))); (try (have HP49 := Kd.R_putg ge49_0 ((ji40) : Int) (rd l0 x36_2))))); refine store_event (t := 3) (p := 73) (v := ?vo_w50) (w1 := (w46.setCell ⟨go43, ((ji40) : Int).toNat, none⟩ (.int .i64 (rd l0 x36_2)))) ?hg ?ho ?hn ?hr ?_; (case ho => rfl); (case hg => rfl); (case hn => rfl); (case hr => first | (go_simp; done) | (go_simp; rfl)); intro w50 hw; have hg : w46.grownBy w50 (some go43) := (by rw [hw]; exact HP49.2); have hz_ : Kd.R (Kd.int .i64) 3 w50 w.heap.size oki49 (.slice (some ⟨go43, 0, none⟩) (rd_L1 y121 (ji37)).length c128_0) y129 := (by rw [hw, Ny129.out]; exact HP49.1); have hp_ : Kd.S (Kd.slice 3 (Kd.int .i64)) 34 w50 w.heap.size (fun _ => True) (.slice (some ad128) y121.length co48) y131 := (by rw [Ny131.out]; exact hbk49 hg (fun k_ e_ => by injection e_ with e_; subst e_; exact ge49_0.1 _ rfl) (Kd.M_row hz_)); have hm_ := Kd.R_mono hz_ hok49; clear HP49 hbk49; have n0_ := Aside0.mk (hp_); have n1_ := Aside0.mk ((by rw [hw]; exact below_set (HB.out) GB43.out : Below w.heap.size w w50)); have n2_ := Aside0.mk (hm_); have n3_ := Aside0.mk ((Kd.R_reads' hm_).2.1); clear HO123; clear HB; clear HL128_0; have HO123 := n0_; have HB := n1_; have HL141 := n2_; have HC130 := n3_; clear n0_ n1_ n2_ n3_; clear hg hw hp_ hz_ hm_ hok49))
                                        repeat (go_quiet (first | ((with_reducible refine gate_dst (N := 52) rfl ?_); refine Kd.R_make (Kd.int .i64) _ 3 rfl (N := 52) rfl 34 _ _ rfl ji17 rfl rfl Try.underlying34 (.int .i64 0) 8 info3 rfl (by decide) (by omega) 0 (ok := fun _ => True) (okp := fun _ => True) rfl (fun _ hk => hk) trivial (of_decide_eq_true (by first | (with_reducible assumption) | assumption)) (Nat.le_trans (Nat.mul_le_mul_right _ (of_decide_eq_true (by first | (with_reducible assumption) | assumption) : ji17.toNat ≤ 35184372088832)) (by omega)) (Below.refl _ _) (Nat.le_refl _) ?_; intro v119 w44 ho45 hb hg_ hnew_; clear hg_ hnew_; (first | rw [← Ny118.out] at ho45 | (simp only [Int.reduceToNat] at ho45; rw [← Ny118.out] at ho45)); have n0_ := Aside0.mk (Kd.S_elder' (by (with_reducible repeat (first | apply Kd.S_alloc | apply Kd.S_drewN | apply Kd.S_drew)); exact HO_11.out) (Kd.R_base ho45) hb); have n1_ := Aside0.mk (Kd.R_lower ho45 (below_size (by repeat (first | (with_reducible first | exact HB.out | apply below_alloc | apply pw_below_drewN | apply below_drew1) | exact HB.out)))); have n2_ := Aside0.mk (below_step (by repeat (first | (with_reducible first | exact HB.out | apply below_alloc | apply pw_below_drewN | apply below_drew1) | exact HB.out)) hb); clear HO_11; clear HB; have HO_11 := n0_; have HO120 := n1_; have HB := n2_; clear n0_ n1_ n2_; clear hb ho45; obtain ⟨Ao47, co47, eo47⟩ := Kd.R_slice HO120.out; subst eo47) | ((with_reducible refine gate_builtin (b := .append) (xs := #[.tmp 48, .tmp 53]) rfl ?_); at_builtin; refine Kd.S_append (Kd.slice 3 (Kd.int .i64)) (w0 := w) w.heap.size rfl (.tmp 48) (.tmp 53) 46 34 (.slice none 0 0) 24 rfl Try.underlying46 info34 rfl (by decide) (by omega) u11 x11_2 y118 [.slice Ao47 y118.length co47] (fun _ => True) (fun k_ => some k_ = (.slice Ao47 y118.length co47 : Value).ownBlock) rfl rfl ?aP (fun k_ hk_ => ((Kd.R_mono (ok' := fun k_ => ((fun _ => True)) k_ ∧ some k_ ≠ (u11 : Value).ownBlock) (Kd.R_apart' (HO120.out) (Kd.S_typed HO_11.out) (by decide)) (fun k_ hk => ⟨trivial, hk.2⟩))).1 k_ hk_.symm) ?aF ?aO ?aB ?aS ?aL ?_; (case aP => exact Kd.M_row (Kd.R_mono (Kd.R_tight rfl (Kd.R_mono (ok' := fun k_ => ((fun _ => True)) k_ ∧ some k_ ≠ (u11 : Value).ownBlock) (Kd.R_apart' (HO120.out) (Kd.S_typed HO_11.out) (by decide)) (fun k_ hk => ⟨trivial, hk.2⟩))) (fun _ h_ => h_))); (case aB => exact (by repeat (first | (with_reducible first | exact HB.out | apply below_alloc | apply pw_below_drewN | apply below_drew1) | exact HB.out))); (case aF => exact (fun _ _ => trivial)); (case aO => exact (by (with_reducible repeat (first | apply Kd.S_alloc | apply Kd.S_drewN | apply Kd.S_drew)); exact Kd.S_mono HO_11.out (fun k_ hk => ⟨trivial, fun e_ => hk.2 e_⟩))); (case aS => exact (below_size (by repeat (first | (with_reducible first | exact HB.out | apply below_alloc | apply pw_below_drewN | apply below_drew1) | exact HB.out)))); (case aL => have := LMc20.out; omega); intro v122 w46 ho hb hg hat; rw [← Ny121.out] at ho; have n0_ := Aside0.mk (hb); have n1_ := Aside0.mk (ho); clear HB; clear HO_11; clear HO120; have HB := n0_; have HO123 := n1_; clear n0_ n1_; clear ho hb hg hat; obtain ⟨Ao48, co48, eo48⟩ := Kd.S_slice HO123.out; subst eo48; have p128 : 0 ≤ ((ji37) : Int) := of_decide_eq_true (by first | (with_reducible assumption) | assumption); have q128 : (ji37) < (y121.length : Int) := of_decide_eq_true (by first | (with_reducible assumption) | assumption); obtain ⟨ad128, A128_0, c128_0, e128, hx128_0, hl128_0, hi128_0⟩ := at_L1 (Kd.S_reads' HO123.out).2.2 (ji37) p128 q128; cases e128; obtain ⟨ce128, hce128, hMe128, hcc128⟩ := Kd.S_get HO123.out [] (ji37) p128 (by first | exact q128 | exact of_decide_eq_true (by first | (with_reducible assumption) | assumption) | (have e_ := (Kd.S_reads' HO123.out).1; omega)); obtain ⟨ve128_0, rfl, ge128_0⟩ := hMe128; have hv128_0 := hcc128 0 _ rfl; rw [Nat.add_zero, show ((Kd.slice 3 (Kd.int .i64))).sz = 1 from rfl, Nat.mul_one] at hv128_0; replace hv128_0 := Option.some.inj (hv128_0.symm.trans hx128_0); rw [hv128_0] at ge128_0; have HL128_0 := Aside0.mk (show Kd.R (Kd.int .i64) 3 _ _ _ _ (rd_L1 y121 (ji37)) from ge128_0); clear hv128_0 ge128_0; have HX128_0 := Aside0.mk hx128_0; clear hcc128 hce128; have HR128_0 := Aside0.mk hi128_0; have HC128_0 := Aside0.mk hl128_0; clear hi128_0 hl128_0; replace p128 := eq_true p128; replace q128 := eq_true q128; have p43 : 0 ≤ ((ji40) : Int) := of_decide_eq_true (by first | (with_reducible assumption) | assumption); have q43 : ((ji40) : Int) < (((rd_L1 y121 (ji37)).length : Int) : Int) := of_decide_eq_true (by first | (with_reducible assumption) | assumption); obtain ⟨go43, co43, eo43, gb43, gl43, cl43, HG43⟩ := Kd.R_form HL128_0.out (by omega); (first | cases eo43 | (injection eo43 with ea_ en_ ec_; (first | subst ea_ | (injection ea_ with ea_; subst ea_)); subst ec_; clear en_)); have GB43 := Aside0.mk gb43; have GG43 := Aside0.mk HG43; clear gb43 gl43 HG43; obtain ⟨hx43_0, hf43_0⟩ := Kd.R_celln 0 HL128_0.out ((ji40) : Int) p43 q43; replace p43 := eq_true p43; replace q43 := eq_true q43; have hq49 : ((ji37) : Int) < (y121.length : Int) := (by have h_ : ((ji37) : Int) < ((y121.length : Int) : Int) := of_decide_eq_true (by first | (with_reducible assumption) | assumption); first | exact h_ | (have e_ := (Kd.S_reads' HO123.out).1; omega) | simpa only [List.length_set, List.length_set] using h_); obtain ⟨oki49, ce49, hcl49, hM49, hcc49, hok49, hbk49⟩ := Kd.S_borrow HO123.out [] ((ji37) : Int) (of_decide_eq_true (by first | (with_reducible assumption) | assumption)) hq49; obtain ⟨ve49_0, rfl, ge49_0⟩ := hM49; have hv49 := hcc49 0 _ rfl; rw [Nat.add_zero, show ((Kd.slice 3 (Kd.int .i64))).sz = 1 from rfl, Nat.mul_one] at hv49; replace hv49 := Option.some.inj (hv49.symm.trans HX128_0.out); subst hv49; clear hcc49 hcl49; replace ge49_0 := (show Kd.R (Kd.int .i64) 3 _ _ _ _ (rd_L1 y121 (ji37)) from ge49_0); have HP49 := Kd.R_putg ge49_0 ((ji40) : Int) (rd l0 x36_2)) | ((with_reducible refine gate_store (t := 3) (p := 73) rfl ?_); (try (rw [drewN_self w46]; generalize hq_ : World.drewN w46 _ = w46; have n0_ := Aside0.mk (Kd.S_at hq_ HO123.out); have n1_ := Aside0.mk (Kd.R_at hq_ HL141.out); have n2_ := Aside0.mk (below_at hq_ HB.out); clear hq_ HO123 HL141 HB; have HO123 := n0_; have HL141 := n1_; have HB := n2_; clear n0_ n1_ n2_; (try (have hq49 : ((ji37) : Int) < (y121.length : Int) := (by have h_ : ((ji37) : Int) < ((y121.length : Int) : Int) := of_decide_eq_true (by first | (with_reducible assumption) | assumption); first | exact h_ | (have e_ := (Kd.S_reads' HO123.out).1; omega) | simpa only [List.length_set, List.length_set] using h_))); (try (obtain ⟨oki49, ce49, hcl49, hM49, hcc49, hok49, hbk49⟩ := Kd.S_borrow HO123.out [] ((ji37) : Int) (of_decide_eq_true (by first | (with_reducible assumption) | assumption)) hq49)); (try (obtain ⟨ve49_0, rfl, ge49_0⟩ := hM49)); (try (have hv49 := hcc49 0 _ rfl)); (try (rw [Nat.add_zero, show ((Kd.slice 3 (Kd.int .i64))).sz = 1 from rfl, Nat.mul_one] at hv49)); (try (replace hv49 := Option.some.inj (hv49.symm.trans HX128_0.out))); (try (subst hv49)); (try (clear hcc49 hcl49)); (try (replace ge49_0 := (show Kd.R (Kd.int .i64) 3 _ _ _ _ (rd_L1 y121 (ji37)) from ge49_0))); (try (have HP49 := Kd.R_putg ge49_0 ((ji40) : Int) (rd l0 x36_2))))); refine store_event (t := 3) (p := 73) (v := ?vo_w50) (w1 := (w46.setCell ⟨go43, ((ji40) : Int).toNat, none⟩ (.int .i64 (rd l0 x36_2)))) ?hg ?ho ?hn ?hr ?_; (case ho => rfl); (case hg => rfl); (case hn => rfl); (case hr => first | (go_simp; done) | (go_simp; rfl)); intro w50 hw; have hg : w46.grownBy w50 (some go43) := (by rw [hw]; exact HP49.2); have hz_ : Kd.R (Kd.int .i64) 3 w50 w.heap.size oki49 (.slice (some ⟨go43, 0, none⟩) (rd_L1 y121 (ji37)).length c128_0) y129 := (by rw [hw, Ny129.out]; exact HP49.1); have hp_ : Kd.S (Kd.slice 3 (Kd.int .i64)) 34 w50 w.heap.size (fun _ => True) (.slice (some ad128) y121.length co48) y131 := (by rw [Ny131.out]; exact hbk49 hg (fun k_ e_ => by injection e_ with e_; subst e_; exact ge49_0.1 _ rfl) (Kd.M_row hz_)); have hm_ := Kd.R_mono hz_ hok49; clear HP49 hbk49; have n0_ := Aside0.mk (hp_); have n1_ := Aside0.mk ((by rw [hw]; exact below_set (HB.out) GB43.out : Below w.heap.size w w50)); have n2_ := Aside0.mk (hm_); have n3_ := Aside0.mk ((Kd.R_reads' hm_).2.1); clear HO123; clear HB; clear HL128_0; have HO123 := n0_; have HB := n1_; have HL141 := n2_; have HC130 := n3_; clear n0_ n1_ n2_ n3_; clear hg hw hp_ hz_ hm_ hok49)); try go_wp2_with (first | ((with_reducible refine gate_dst (N := 52) rfl ?_); refine Kd.R_make (Kd.int .i64) _ 3 rfl (N := 52) rfl 34 _ _ rfl ji17 rfl rfl Try.underlying34 (.int .i64 0) 8 info3 rfl (by decide) (by omega) 0 (ok := fun _ => True) (okp := fun _ => True) rfl (fun _ hk => hk) trivial (of_decide_eq_true (by first | (with_reducible assumption) | assumption)) (Nat.le_trans (Nat.mul_le_mul_right _ (of_decide_eq_true (by first | (with_reducible assumption) | assumption) : ji17.toNat ≤ 35184372088832)) (by omega)) (Below.refl _ _) (Nat.le_refl _) ?_; intro v119 w44 ho45 hb hg_ hnew_; clear hg_ hnew_; (first | rw [← Ny118.out] at ho45 | (simp only [Int.reduceToNat] at ho45; rw [← Ny118.out] at ho45)); have n0_ := Aside0.mk (Kd.S_elder' (by (with_reducible repeat (first | apply Kd.S_alloc | apply Kd.S_drewN | apply Kd.S_drew)); exact HO_11.out) (Kd.R_base ho45) hb); have n1_ := Aside0.mk (Kd.R_lower ho45 (below_size (by repeat (first | (with_reducible first | exact HB.out | apply below_alloc | apply pw_below_drewN | apply below_drew1) | exact HB.out)))); have n2_ := Aside0.mk (below_step (by repeat (first | (with_reducible first | exact HB.out | apply below_alloc | apply pw_below_drewN | apply below_drew1) | exact HB.out)) hb); clear HO_11; clear HB; have HO_11 := n0_; have HO120 := n1_; have HB := n2_; clear n0_ n1_ n2_; clear hb ho45; obtain ⟨Ao47, co47, eo47⟩ := Kd.R_slice HO120.out; subst eo47) | ((with_reducible refine gate_builtin (b := .append) (xs := #[.tmp 48, .tmp 53]) rfl ?_); at_builtin; refine Kd.S_append (Kd.slice 3 (Kd.int .i64)) (w0 := w) w.heap.size rfl (.tmp 48) (.tmp 53) 46 34 (.slice none 0 0) 24 rfl Try.underlying46 info34 rfl (by decide) (by omega) u11 x11_2 y118 [.slice Ao47 y118.length co47] (fun _ => True) (fun k_ => some k_ = (.slice Ao47 y118.length co47 : Value).ownBlock) rfl rfl ?aP (fun k_ hk_ => ((Kd.R_mono (ok' := fun k_ => ((fun _ => True)) k_ ∧ some k_ ≠ (u11 : Value).ownBlock) (Kd.R_apart' (HO120.out) (Kd.S_typed HO_11.out) (by decide)) (fun k_ hk => ⟨trivial, hk.2⟩))).1 k_ hk_.symm) ?aF ?aO ?aB ?aS ?aL ?_; (case aP => exact Kd.M_row (Kd.R_mono (Kd.R_tight rfl (Kd.R_mono (ok' := fun k_ => ((fun _ => True)) k_ ∧ some k_ ≠ (u11 : Value).ownBlock) (Kd.R_apart' (HO120.out) (Kd.S_typed HO_11.out) (by decide)) (fun k_ hk => ⟨trivial, hk.2⟩))) (fun _ h_ => h_))); (case aB => exact (by repeat (first | (with_reducible first | exact HB.out | apply below_alloc | apply pw_below_drewN | apply below_drew1) | exact HB.out))); (case aF => exact (fun _ _ => trivial)); (case aO => exact (by (with_reducible repeat (first | apply Kd.S_alloc | apply Kd.S_drewN | apply Kd.S_drew)); exact Kd.S_mono HO_11.out (fun k_ hk => ⟨trivial, fun e_ => hk.2 e_⟩))); (case aS => exact (below_size (by repeat (first | (with_reducible first | exact HB.out | apply below_alloc | apply pw_below_drewN | apply below_drew1) | exact HB.out)))); (case aL => have := LMc20.out; omega); intro v122 w46 ho hb hg hat; rw [← Ny121.out] at ho; have n0_ := Aside0.mk (hb); have n1_ := Aside0.mk (ho); clear HB; clear HO_11; clear HO120; have HB := n0_; have HO123 := n1_; clear n0_ n1_; clear ho hb hg hat; obtain ⟨Ao48, co48, eo48⟩ := Kd.S_slice HO123.out; subst eo48; have p128 : 0 ≤ ((ji37) : Int) := of_decide_eq_true (by first | (with_reducible assumption) | assumption); have q128 : (ji37) < (y121.length : Int) := of_decide_eq_true (by first | (with_reducible assumption) | assumption); obtain ⟨ad128, A128_0, c128_0, e128, hx128_0, hl128_0, hi128_0⟩ := at_L1 (Kd.S_reads' HO123.out).2.2 (ji37) p128 q128; cases e128; obtain ⟨ce128, hce128, hMe128, hcc128⟩ := Kd.S_get HO123.out [] (ji37) p128 (by first | exact q128 | exact of_decide_eq_true (by first | (with_reducible assumption) | assumption) | (have e_ := (Kd.S_reads' HO123.out).1; omega)); obtain ⟨ve128_0, rfl, ge128_0⟩ := hMe128; have hv128_0 := hcc128 0 _ rfl; rw [Nat.add_zero, show ((Kd.slice 3 (Kd.int .i64))).sz = 1 from rfl, Nat.mul_one] at hv128_0; replace hv128_0 := Option.some.inj (hv128_0.symm.trans hx128_0); rw [hv128_0] at ge128_0; have HL128_0 := Aside0.mk (show Kd.R (Kd.int .i64) 3 _ _ _ _ (rd_L1 y121 (ji37)) from ge128_0); clear hv128_0 ge128_0; have HX128_0 := Aside0.mk hx128_0; clear hcc128 hce128; have HR128_0 := Aside0.mk hi128_0; have HC128_0 := Aside0.mk hl128_0; clear hi128_0 hl128_0; replace p128 := eq_true p128; replace q128 := eq_true q128; have p43 : 0 ≤ ((ji40) : Int) := of_decide_eq_true (by first | (with_reducible assumption) | assumption); have q43 : ((ji40) : Int) < (((rd_L1 y121 (ji37)).length : Int) : Int) := of_decide_eq_true (by first | (with_reducible assumption) | assumption); obtain ⟨go43, co43, eo43, gb43, gl43, cl43, HG43⟩ := Kd.R_form HL128_0.out (by omega); (first | cases eo43 | (injection eo43 with ea_ en_ ec_; (first | subst ea_ | (injection ea_ with ea_; subst ea_)); subst ec_; clear en_)); have GB43 := Aside0.mk gb43; have GG43 := Aside0.mk HG43; clear gb43 gl43 HG43; obtain ⟨hx43_0, hf43_0⟩ := Kd.R_celln 0 HL128_0.out ((ji40) : Int) p43 q43; replace p43 := eq_true p43; replace q43 := eq_true q43; have hq49 : ((ji37) : Int) < (y121.length : Int) := (by have h_ : ((ji37) : Int) < ((y121.length : Int) : Int) := of_decide_eq_true (by first | (with_reducible assumption) | assumption); first | exact h_ | (have e_ := (Kd.S_reads' HO123.out).1; omega) | simpa only [List.length_set, List.length_set] using h_); obtain ⟨oki49, ce49, hcl49, hM49, hcc49, hok49, hbk49⟩ := Kd.S_borrow HO123.out [] ((ji37) : Int) (of_decide_eq_true (by first | (with_reducible assumption) | assumption)) hq49; obtain ⟨ve49_0, rfl, ge49_0⟩ := hM49; have hv49 := hcc49 0 _ rfl; rw [Nat.add_zero, show ((Kd.slice 3 (Kd.int .i64))).sz = 1 from rfl, Nat.mul_one] at hv49; replace hv49 := Option.some.inj (hv49.symm.trans HX128_0.out); subst hv49; clear hcc49 hcl49; replace ge49_0 := (show Kd.R (Kd.int .i64) 3 _ _ _ _ (rd_L1 y121 (ji37)) from ge49_0); have HP49 := Kd.R_putg ge49_0 ((ji40) : Int) (rd l0 x36_2)) | ((with_reducible refine gate_store (t := 3) (p := 73) rfl ?_); (try (rw [drewN_self w46]; generalize hq_ : World.drewN w46 _ = w46; have n0_ := Aside0.mk (Kd.S_at hq_ HO123.out); have n1_ := Aside0.mk (Kd.R_at hq_ HL141.out); have n2_ := Aside0.mk (below_at hq_ HB.out); clear hq_ HO123 HL141 HB; have HO123 := n0_; have HL141 := n1_; have HB := n2_; clear n0_ n1_ n2_; (try (have hq49 : ((ji37) : Int) < (y121.length : Int) := (by have h_ : ((ji37) : Int) < ((y121.length : Int) : Int) := of_decide_eq_true (by first | (with_reducible assumption) | assumption); first | exact h_ | (have e_ := (Kd.S_reads' HO123.out).1; omega) | simpa only [List.length_set, List.length_set] using h_))); (try (obtain ⟨oki49, ce49, hcl49, hM49, hcc49, hok49, hbk49⟩ := Kd.S_borrow HO123.out [] ((ji37) : Int) (of_decide_eq_true (by first | (with_reducible assumption) | assumption)) hq49)); (try (obtain ⟨ve49_0, rfl, ge49_0⟩ := hM49)); (try (have hv49 := hcc49 0 _ rfl)); (try (rw [Nat.add_zero, show ((Kd.slice 3 (Kd.int .i64))).sz = 1 from rfl, Nat.mul_one] at hv49)); (try (replace hv49 := Option.some.inj (hv49.symm.trans HX128_0.out))); (try (subst hv49)); (try (clear hcc49 hcl49)); (try (replace ge49_0 := (show Kd.R (Kd.int .i64) 3 _ _ _ _ (rd_L1 y121 (ji37)) from ge49_0))); (try (have HP49 := Kd.R_putg ge49_0 ((ji40) : Int) (rd l0 x36_2))))); refine store_event (t := 3) (p := 73) (v := ?vo_w50) (w1 := (w46.setCell ⟨go43, ((ji40) : Int).toNat, none⟩ (.int .i64 (rd l0 x36_2)))) ?hg ?ho ?hn ?hr ?_; (case ho => rfl); (case hg => rfl); (case hn => rfl); (case hr => first | (go_simp; done) | (go_simp; rfl)); intro w50 hw; have hg : w46.grownBy w50 (some go43) := (by rw [hw]; exact HP49.2); have hz_ : Kd.R (Kd.int .i64) 3 w50 w.heap.size oki49 (.slice (some ⟨go43, 0, none⟩) (rd_L1 y121 (ji37)).length c128_0) y129 := (by rw [hw, Ny129.out]; exact HP49.1); have hp_ : Kd.S (Kd.slice 3 (Kd.int .i64)) 34 w50 w.heap.size (fun _ => True) (.slice (some ad128) y121.length co48) y131 := (by rw [Ny131.out]; exact hbk49 hg (fun k_ e_ => by injection e_ with e_; subst e_; exact ge49_0.1 _ rfl) (Kd.M_row hz_)); have hm_ := Kd.R_mono hz_ hok49; clear HP49 hbk49; have n0_ := Aside0.mk (hp_); have n1_ := Aside0.mk ((by rw [hw]; exact below_set (HB.out) GB43.out : Below w.heap.size w w50)); have n2_ := Aside0.mk (hm_); have n3_ := Aside0.mk ((Kd.R_reads' hm_).2.1); clear HO123; clear HB; clear HL128_0; have HO123 := n0_; have HB := n1_; have HL141 := n2_; have HC130 := n3_; clear n0_ n1_ n2_ n3_; clear hg hw hp_ hz_ hm_ hok49)))
                                        go_roundg k2
                                        case measure => have := HJ6.out; have := HK2.out; omega
                                        case rel => exact ⟨(y131), (wrap64 (x36_2 + 1)), (by first | rfl | (simp; done) | (simp [*]; done)), H', ⟨by have := HJ6.out; have := HK2.out; omega⟩, ⟨by (with_reducible repeat (first | apply Kd.S_alloc | apply Kd.S_drewN | apply Kd.S_drew)); exact HO123.out⟩, ⟨by repeat (first | (with_reducible first | exact HB.out | apply below_alloc | apply pw_below_drewN | apply below_drew1) | exact HB.out)⟩⟩
                                      · rw [if_neg c42] at H
                                        exact absurd H (by simp)
                                    · rw [if_neg c41] at H
                                      exact absurd H (by simp)
                                  · rw [if_neg c39] at H
                                    exact absurd H (by simp)
                                · rw [if_neg c38] at H
                                  exact absurd H (by simp)
                            · rw [if_neg c20] at H
                              exact absurd H (by simp)
                          · rw [if_neg c19] at H
                            exact absurd H (by simp)
                        · rw [if_neg c18] at H
                          exact absurd H (by simp)
                      · rw [if_neg c16] at H
                        have c16b0 : ((Int.tmod x36_2 (wrap64 (a1 * a2))) == 0) = false := beq_eq_false_iff_ne.mpr c16
                        have c16b1 : ((Int.tmod x36_2 (wrap64 (a1 * a2))) != 0) = true := bne_iff_ne.mpr c16
                        by_cases c51 : a3 = true
                        · subst c51
                          have H1 : (if a1 = 0 then (none) else (if 0 ≤ (wrap64 ((x11_2.length : Int) - 1)) then (if (wrap64 ((x11_2.length : Int) - 1)) < (x11_2.length : Int) then (if 0 ≤ (wrap64 ((wrap64 ((Int.tmod (Int.tmod x36_2 (wrap64 (a1 * a2))) a1) * a2)) + (wrap64 (Int.tdiv (Int.tmod x36_2 (wrap64 (a1 * a2))) a1)))) then (if (wrap64 ((wrap64 ((Int.tmod (Int.tmod x36_2 (wrap64 (a1 * a2))) a1) * a2)) + (wrap64 (Int.tdiv (Int.tmod x36_2 (wrap64 (a1 * a2))) a1)))) < ((rd_L1 x11_2 (wrap64 ((x11_2.length : Int) - 1))).length : Int) then (printing_Several.l0 k2 a1 a2 true (x11_2.set ((wrap64 ((x11_2.length : Int) - 1)) : Int).toNat ((rd_L1 x11_2 (wrap64 ((x11_2.length : Int) - 1))).set ((wrap64 ((wrap64 ((Int.tmod (Int.tmod x36_2 (wrap64 (a1 * a2))) a1) * a2)) + (wrap64 (Int.tdiv (Int.tmod x36_2 (wrap64 (a1 * a2))) a1)))) : Int).toNat (rd l0 x36_2))) l0 (l0.length : Int) (wrap64 (x36_2 + 1))) else (none)) else (none)) else (none)) else (none))) = some (r1, r2) := by rw [if_pos rfl] at H; exact H
                          clear H
                          have H := H1
                          clear H1
                          by_cases c52 : a1 = 0
                          · rw [if_pos c52] at H
                            exact absurd H (by simp)
                          · rw [if_neg c52] at H
                            have c52b0 : (a1 == 0) = false := beq_eq_false_iff_ne.mpr c52
                            have c52b1 : (a1 != 0) = true := bne_iff_ne.mpr c52
                            obtain ⟨ji53, hji53⟩ : ∃ j_ : Int, (wrap64 ((x11_2.length : Int) - 1)) = j_ := ⟨_, rfl⟩
                            replace H : (if 0 ≤ (ji53) then (if (ji53) < (x11_2.length : Int) then (if 0 ≤ (wrap64 ((wrap64 ((Int.tmod (Int.tmod x36_2 (wrap64 (a1 * a2))) a1) * a2)) + (wrap64 (Int.tdiv (Int.tmod x36_2 (wrap64 (a1 * a2))) a1)))) then (if (wrap64 ((wrap64 ((Int.tmod (Int.tmod x36_2 (wrap64 (a1 * a2))) a1) * a2)) + (wrap64 (Int.tdiv (Int.tmod x36_2 (wrap64 (a1 * a2))) a1)))) < ((rd_L1 x11_2 (ji53)).length : Int) then (printing_Several.l0 k2 a1 a2 true (x11_2.set ((ji53) : Int).toNat ((rd_L1 x11_2 (ji53)).set ((wrap64 ((wrap64 ((Int.tmod (Int.tmod x36_2 (wrap64 (a1 * a2))) a1) * a2)) + (wrap64 (Int.tdiv (Int.tmod x36_2 (wrap64 (a1 * a2))) a1)))) : Int).toNat (rd l0 x36_2))) l0 (l0.length : Int) (wrap64 (x36_2 + 1))) else (none)) else (none)) else (none)) else (none)) = some (r1, r2) := by first | (rw [hji53] at H; exact H) | (simp only [hji53] at H ⊢; exact H)
                            have hji53w : (IntKind.i64.wrap ((x11_2.length : Int) - 1)) = ji53 := (i64_w _).trans hji53
                            by_cases c54 : 0 ≤ (ji53)
                            · rw [if_pos c54] at H
                              have c54b0 : decide (0 ≤ (ji53)) = true := decide_eq_true c54
                              clear c54
                              by_cases c55 : (ji53) < (x11_2.length : Int)
                              · rw [if_pos c55] at H
                                have c55b0 : decide ((ji53) < (x11_2.length : Int)) = true := decide_eq_true c55
                                clear c55
                                obtain ⟨ji56, hji56⟩ : ∃ j_ : Int, (wrap64 ((wrap64 ((Int.tmod (Int.tmod x36_2 (wrap64 (a1 * a2))) a1) * a2)) + (wrap64 (Int.tdiv (Int.tmod x36_2 (wrap64 (a1 * a2))) a1)))) = j_ := ⟨_, rfl⟩
                                replace H : (if 0 ≤ (ji56) then (if (ji56) < ((rd_L1 x11_2 (ji53)).length : Int) then (printing_Several.l0 k2 a1 a2 true (x11_2.set ((ji53) : Int).toNat ((rd_L1 x11_2 (ji53)).set ((ji56) : Int).toNat (rd l0 x36_2))) l0 (l0.length : Int) (wrap64 (x36_2 + 1))) else (none)) else (none)) = some (r1, r2) := by first | (rw [hji56] at H; exact H) | (simp only [hji56] at H ⊢; exact H)
                                have hji56w : (IntKind.i64.wrap ((wrap64 ((Int.tmod (Int.tmod x36_2 (wrap64 (a1 * a2))) a1) * a2)) + (wrap64 (Int.tdiv (Int.tmod x36_2 (wrap64 (a1 * a2))) a1)))) = ji56 := (i64_w _).trans hji56
                                by_cases c57 : 0 ≤ (ji56)
                                · rw [if_pos c57] at H
                                  have c57b0 : decide (0 ≤ (ji56)) = true := decide_eq_true c57
                                  clear c57
                                  by_cases c58 : (ji56) < ((rd_L1 x11_2 (ji53)).length : Int)
                                  · rw [if_pos c58] at H
                                    have c58b0 : decide ((ji56) < ((rd_L1 x11_2 (ji53)).length : Int)) = true := decide_eq_true c58
                                    clear c58
                                    obtain ⟨y133, hy133⟩ : ∃ y_ : List Int, y_ = ((rd_L1 x11_2 (ji53)).set ((ji56) : Int).toNat (rd l0 x36_2)) := ⟨_, rfl⟩
                                    replace H : (printing_Several.l0 k2 a1 a2 true (x11_2.set ((ji53) : Int).toNat y133) l0 (l0.length : Int) (wrap64 (x36_2 + 1))) = some (r1, r2) := by first | (rw [hy133]; with_reducible exact H) | (have H2_ := (Option.bind_some _ _).symm.trans H; rw [hy133]; with_reducible exact H2_) | (have H2_ := (Option.bind_some _ _).symm.trans H; with_reducible exact H2_) | with_reducible exact H | (rw [hy133]; exact H) | exact H
                                    have Ny133 := Aside0.mk hy133
                                    clear hy133
                                    obtain ⟨y135, hy135⟩ : ∃ y_ : List (List Int), y_ = (x11_2.set ((ji53) : Int).toNat y133) := ⟨_, rfl⟩
                                    replace H : (printing_Several.l0 k2 a1 a2 true y135 l0 (l0.length : Int) (wrap64 (x36_2 + 1))) = some (r1, r2) := by first | (rw [hy135]; with_reducible exact H) | (have H2_ := (Option.bind_some _ _).symm.trans H; rw [hy135]; with_reducible exact H2_) | (have H2_ := (Option.bind_some _ _).symm.trans H; with_reducible exact H2_) | with_reducible exact H | (rw [hy135]; exact H) | exact H
                                    have Ny135 := Aside0.mk hy135
                                    clear hy135
                                    have H' := Aside0.mk H
                                    clear H
                                    have p117 : 0 ≤ (x36_2 : Int) := of_decide_eq_true (by first | (with_reducible assumption) | assumption)
                                    have q117 : x36_2 < (l0.length : Int) := of_decide_eq_true (by first | (with_reducible assumption) | assumption)
                                    obtain ⟨ad117, e117, hx117_0⟩ := Kd.at_int HR0.out x36_2 p117 q117
                                    cases e117
                                    replace hx117_0 := (HB.out.cell (World.block_lt_of_cell? w _ hx117_0)).trans hx117_0
                                    replace p117 := eq_true p117
                                    replace q117 := eq_true q117
                                    obtain ⟨Ao60, co60, eo60⟩ := Kd.S_slice HO_11.out
                                    subst eo60
                                    have p132 : 0 ≤ ((ji53) : Int) := of_decide_eq_true (by first | (with_reducible assumption) | assumption)
                                    have q132 : (ji53) < (x11_2.length : Int) := of_decide_eq_true (by first | (with_reducible assumption) | assumption)
                                    obtain ⟨ad132, A132_0, c132_0, e132, hx132_0, hl132_0, hi132_0⟩ := at_L1 (Kd.S_reads' HO_11.out).2.2 (ji53) p132 q132
                                    cases e132
                                    obtain ⟨ce132, hce132, hMe132, hcc132⟩ := Kd.S_get HO_11.out [] (ji53) p132 (by first | exact q132 | exact of_decide_eq_true (by first | (with_reducible assumption) | assumption) | (have e_ := (Kd.S_reads' HO_11.out).1; omega))
                                    obtain ⟨ve132_0, rfl, ge132_0⟩ := hMe132
                                    have hv132_0 := hcc132 0 _ rfl
                                    rw [Nat.add_zero, show ((Kd.slice 3 (Kd.int .i64))).sz = 1 from rfl, Nat.mul_one] at hv132_0
                                    replace hv132_0 := Option.some.inj (hv132_0.symm.trans hx132_0)
                                    rw [hv132_0] at ge132_0
                                    have HL132_0 := Aside0.mk (show Kd.R (Kd.int .i64) 3 _ _ _ _ (rd_L1 x11_2 (ji53)) from ge132_0)
                                    clear hv132_0 ge132_0
                                    have HX132_0 := Aside0.mk hx132_0
                                    clear hcc132 hce132
                                    have HR132_0 := Aside0.mk hi132_0
                                    have HC132_0 := Aside0.mk hl132_0
                                    clear hi132_0 hl132_0
                                    replace p132 := eq_true p132
                                    replace q132 := eq_true q132
                                    have p59 : 0 ≤ ((ji56) : Int) := of_decide_eq_true (by first | (with_reducible assumption) | assumption)
                                    have q59 : ((ji56) : Int) < (((rd_L1 x11_2 (ji53)).length : Int) : Int) := of_decide_eq_true (by first | (with_reducible assumption) | assumption)
                                    obtain ⟨go59, co59, eo59, gb59, gl59, cl59, HG59⟩ := Kd.R_form HL132_0.out (by omega)
                                    (first | cases eo59 | (injection eo59 with ea_ en_ ec_; (first | subst ea_ | (injection ea_ with ea_; subst ea_)); subst ec_; clear en_))
                                    have GB59 := Aside0.mk gb59
                                    have GG59 := Aside0.mk HG59
                                    clear gb59 gl59 HG59
                                    obtain ⟨hx59_0, hf59_0⟩ := Kd.R_celln 0 HL132_0.out ((ji56) : Int) p59 q59
                                    replace p59 := eq_true p59
                                    replace q59 := eq_true q59
                                    have hq61 : ((ji53) : Int) < (x11_2.length : Int) := (by have h_ : ((ji53) : Int) < ((x11_2.length : Int) : Int) := of_decide_eq_true (by first | (with_reducible assumption) | assumption); first | exact h_ | (have e_ := (Kd.S_reads' HO_11.out).1; omega) | simpa only [List.length_set, List.length_set] using h_)
                                    obtain ⟨oki61, ce61, hcl61, hM61, hcc61, hok61, hbk61⟩ := Kd.S_borrow HO_11.out [] ((ji53) : Int) (of_decide_eq_true (by first | (with_reducible assumption) | assumption)) hq61
                                    obtain ⟨ve61_0, rfl, ge61_0⟩ := hM61
                                    have hv61 := hcc61 0 _ rfl
                                    rw [Nat.add_zero, show ((Kd.slice 3 (Kd.int .i64))).sz = 1 from rfl, Nat.mul_one] at hv61
                                    replace hv61 := Option.some.inj (hv61.symm.trans HX132_0.out)
                                    subst hv61
                                    clear hcc61 hcl61
                                    replace ge61_0 := (show Kd.R (Kd.int .i64) 3 _ _ _ _ (rd_L1 x11_2 (ji53)) from ge61_0)
                                    have HP61 := Kd.R_putg ge61_0 ((ji56) : Int) (rd l0 x36_2)
                                    go_wp2_with (first | ((with_reducible refine gate_store (t := 3) (p := 73) rfl ?_); (try (rw [drewN_self wr]; generalize hq_ : World.drewN wr _ = wr; have n0_ := Aside0.mk (Kd.S_at hq_ HO_11.out); have n1_ := Aside0.mk (Kd.R_at hq_ HL142.out); have n2_ := Aside0.mk (below_at hq_ HB.out); clear hq_ HO_11 HL142 HB; have HO_11 := n0_; have HL142 := n1_; have HB := n2_; clear n0_ n1_ n2_; (try (have hq61 : ((ji53) : Int) < (x11_2.length : Int) := (by have h_ : ((ji53) : Int) < ((x11_2.length : Int) : Int) := of_decide_eq_true (by first | (with_reducible assumption) | assumption); first | exact h_ | (have e_ := (Kd.S_reads' HO_11.out).1; omega) | simpa only [List.length_set, List.length_set] using h_))); (try (obtain ⟨oki61, ce61, hcl61, hM61, hcc61, hok61, hbk61⟩ := Kd.S_borrow HO_11.out [] ((ji53) : Int) (of_decide_eq_true (by first | (with_reducible assumption) | assumption)) hq61)); (try (obtain ⟨ve61_0, rfl, ge61_0⟩ := hM61)); (try (have hv61 := hcc61 0 _ rfl)); (try (rw [Nat.add_zero, show ((Kd.slice 3 (Kd.int .i64))).sz = 1 from rfl, Nat.mul_one] at hv61)); (try (replace hv61 := Option.some.inj (hv61.symm.trans HX132_0.out))); (try (subst hv61)); (try (clear hcc61 hcl61)); (try (replace ge61_0 := (show Kd.R (Kd.int .i64) 3 _ _ _ _ (rd_L1 x11_2 (ji53)) from ge61_0))); (try (have HP61 := Kd.R_putg ge61_0 ((ji56) : Int) (rd l0 x36_2))))); refine store_event (t := 3) (p := 73) (v := ?vo_w62) (w1 := (wr.setCell ⟨go59, ((ji56) : Int).toNat, none⟩ (.int .i64 (rd l0 x36_2)))) ?hg ?ho ?hn ?hr ?_; (case ho => rfl); (case hg => rfl); (case hn => rfl); (case hr => first | (go_simp; done) | (go_simp; rfl)); intro w62 hw; have hg : wr.grownBy w62 (some go59) := (by rw [hw]; exact HP61.2); have hz_ : Kd.R (Kd.int .i64) 3 w62 w.heap.size oki61 (.slice (some ⟨go59, 0, none⟩) (rd_L1 x11_2 (ji53)).length c132_0) y133 := (by rw [hw, Ny133.out]; exact HP61.1); have hp_ : Kd.S (Kd.slice 3 (Kd.int .i64)) 34 w62 w.heap.size (fun _ => True) (.slice (some ad132) x11_2.length co60) y135 := (by rw [Ny135.out]; exact hbk61 hg (fun k_ e_ => by injection e_ with e_; subst e_; exact ge61_0.1 _ rfl) (Kd.M_row hz_)); have hm_ := Kd.R_mono hz_ hok61; clear HP61 hbk61; have n0_ := Aside0.mk (hp_); have n1_ := Aside0.mk ((by rw [hw]; exact below_set (HB.out) GB59.out : Below w.heap.size w w62)); have n2_ := Aside0.mk (hm_); have n3_ := Aside0.mk ((Kd.R_reads' hm_).2.1); clear HO_11; clear HB; clear HL132_0; have HO_11 := n0_; have HB := n1_; have HL142 := n2_; have HC134 := n3_; clear n0_ n1_ n2_ n3_; clear hg hw hp_ hz_ hm_ hok61))
                                    repeat (go_quiet (first | ((with_reducible refine gate_store (t := 3) (p := 73) rfl ?_); (try (rw [drewN_self wr]; generalize hq_ : World.drewN wr _ = wr; have n0_ := Aside0.mk (Kd.S_at hq_ HO_11.out); have n1_ := Aside0.mk (Kd.R_at hq_ HL142.out); have n2_ := Aside0.mk (below_at hq_ HB.out); clear hq_ HO_11 HL142 HB; have HO_11 := n0_; have HL142 := n1_; have HB := n2_; clear n0_ n1_ n2_; (try (have hq61 : ((ji53) : Int) < (x11_2.length : Int) := (by have h_ : ((ji53) : Int) < ((x11_2.length : Int) : Int) := of_decide_eq_true (by first | (with_reducible assumption) | assumption); first | exact h_ | (have e_ := (Kd.S_reads' HO_11.out).1; omega) | simpa only [List.length_set, List.length_set] using h_))); (try (obtain ⟨oki61, ce61, hcl61, hM61, hcc61, hok61, hbk61⟩ := Kd.S_borrow HO_11.out [] ((ji53) : Int) (of_decide_eq_true (by first | (with_reducible assumption) | assumption)) hq61)); (try (obtain ⟨ve61_0, rfl, ge61_0⟩ := hM61)); (try (have hv61 := hcc61 0 _ rfl)); (try (rw [Nat.add_zero, show ((Kd.slice 3 (Kd.int .i64))).sz = 1 from rfl, Nat.mul_one] at hv61)); (try (replace hv61 := Option.some.inj (hv61.symm.trans HX132_0.out))); (try (subst hv61)); (try (clear hcc61 hcl61)); (try (replace ge61_0 := (show Kd.R (Kd.int .i64) 3 _ _ _ _ (rd_L1 x11_2 (ji53)) from ge61_0))); (try (have HP61 := Kd.R_putg ge61_0 ((ji56) : Int) (rd l0 x36_2))))); refine store_event (t := 3) (p := 73) (v := ?vo_w62) (w1 := (wr.setCell ⟨go59, ((ji56) : Int).toNat, none⟩ (.int .i64 (rd l0 x36_2)))) ?hg ?ho ?hn ?hr ?_; (case ho => rfl); (case hg => rfl); (case hn => rfl); (case hr => first | (go_simp; done) | (go_simp; rfl)); intro w62 hw; have hg : wr.grownBy w62 (some go59) := (by rw [hw]; exact HP61.2); have hz_ : Kd.R (Kd.int .i64) 3 w62 w.heap.size oki61 (.slice (some ⟨go59, 0, none⟩) (rd_L1 x11_2 (ji53)).length c132_0) y133 := (by rw [hw, Ny133.out]; exact HP61.1); have hp_ : Kd.S (Kd.slice 3 (Kd.int .i64)) 34 w62 w.heap.size (fun _ => True) (.slice (some ad132) x11_2.length co60) y135 := (by rw [Ny135.out]; exact hbk61 hg (fun k_ e_ => by injection e_ with e_; subst e_; exact ge61_0.1 _ rfl) (Kd.M_row hz_)); have hm_ := Kd.R_mono hz_ hok61; clear HP61 hbk61; have n0_ := Aside0.mk (hp_); have n1_ := Aside0.mk ((by rw [hw]; exact below_set (HB.out) GB59.out : Below w.heap.size w w62)); have n2_ := Aside0.mk (hm_); have n3_ := Aside0.mk ((Kd.R_reads' hm_).2.1); clear HO_11; clear HB; clear HL132_0; have HO_11 := n0_; have HB := n1_; have HL142 := n2_; have HC134 := n3_; clear n0_ n1_ n2_ n3_; clear hg hw hp_ hz_ hm_ hok61)); try go_wp2_with (first | ((with_reducible refine gate_store (t := 3) (p := 73) rfl ?_); (try (rw [drewN_self wr]; generalize hq_ : World.drewN wr _ = wr; have n0_ := Aside0.mk (Kd.S_at hq_ HO_11.out); have n1_ := Aside0.mk (Kd.R_at hq_ HL142.out); have n2_ := Aside0.mk (below_at hq_ HB.out); clear hq_ HO_11 HL142 HB; have HO_11 := n0_; have HL142 := n1_; have HB := n2_; clear n0_ n1_ n2_; (try (have hq61 : ((ji53) : Int) < (x11_2.length : Int) := (by have h_ : ((ji53) : Int) < ((x11_2.length : Int) : Int) := of_decide_eq_true (by first | (with_reducible assumption) | assumption); first | exact h_ | (have e_ := (Kd.S_reads' HO_11.out).1; omega) | simpa only [List.length_set, List.length_set] using h_))); (try (obtain ⟨oki61, ce61, hcl61, hM61, hcc61, hok61, hbk61⟩ := Kd.S_borrow HO_11.out [] ((ji53) : Int) (of_decide_eq_true (by first | (with_reducible assumption) | assumption)) hq61)); (try (obtain ⟨ve61_0, rfl, ge61_0⟩ := hM61)); (try (have hv61 := hcc61 0 _ rfl)); (try (rw [Nat.add_zero, show ((Kd.slice 3 (Kd.int .i64))).sz = 1 from rfl, Nat.mul_one] at hv61)); (try (replace hv61 := Option.some.inj (hv61.symm.trans HX132_0.out))); (try (subst hv61)); (try (clear hcc61 hcl61)); (try (replace ge61_0 := (show Kd.R (Kd.int .i64) 3 _ _ _ _ (rd_L1 x11_2 (ji53)) from ge61_0))); (try (have HP61 := Kd.R_putg ge61_0 ((ji56) : Int) (rd l0 x36_2))))); refine store_event (t := 3) (p := 73) (v := ?vo_w62) (w1 := (wr.setCell ⟨go59, ((ji56) : Int).toNat, none⟩ (.int .i64 (rd l0 x36_2)))) ?hg ?ho ?hn ?hr ?_; (case ho => rfl); (case hg => rfl); (case hn => rfl); (case hr => first | (go_simp; done) | (go_simp; rfl)); intro w62 hw; have hg : wr.grownBy w62 (some go59) := (by rw [hw]; exact HP61.2); have hz_ : Kd.R (Kd.int .i64) 3 w62 w.heap.size oki61 (.slice (some ⟨go59, 0, none⟩) (rd_L1 x11_2 (ji53)).length c132_0) y133 := (by rw [hw, Ny133.out]; exact HP61.1); have hp_ : Kd.S (Kd.slice 3 (Kd.int .i64)) 34 w62 w.heap.size (fun _ => True) (.slice (some ad132) x11_2.length co60) y135 := (by rw [Ny135.out]; exact hbk61 hg (fun k_ e_ => by injection e_ with e_; subst e_; exact ge61_0.1 _ rfl) (Kd.M_row hz_)); have hm_ := Kd.R_mono hz_ hok61; clear HP61 hbk61; have n0_ := Aside0.mk (hp_); have n1_ := Aside0.mk ((by rw [hw]; exact below_set (HB.out) GB59.out : Below w.heap.size w w62)); have n2_ := Aside0.mk (hm_); have n3_ := Aside0.mk ((Kd.R_reads' hm_).2.1); clear HO_11; clear HB; clear HL132_0; have HO_11 := n0_; have HB := n1_; have HL142 := n2_; have HC134 := n3_; clear n0_ n1_ n2_ n3_; clear hg hw hp_ hz_ hm_ hok61)))
                                    go_roundg k2
                                    case measure => have := HJ6.out; have := HK2.out; omega
                                    case rel => exact ⟨(y135), (wrap64 (x36_2 + 1)), (by first | rfl | (simp; done) | (simp [*]; done)), H', ⟨by have := HJ6.out; have := HK2.out; omega⟩, ⟨by (with_reducible repeat (first | apply Kd.S_alloc | apply Kd.S_drewN | apply Kd.S_drew)); first | exact HO_11.out | (rw [set_drewN]; apply Kd.S_drewN; rw [Ny135.out, Ny133.out]; exact hbk61 HP61.2 (fun k_ e_ => by injection e_ with e_; subst e_; exact ge61_0.1 _ rfl) (Kd.M_row HP61.1))⟩, ⟨by first | (rw [set_drewN]; apply pw_below_drewN; exact below_set HB.out GB59.out) | repeat (first | (with_reducible first | exact HB.out | apply below_alloc | apply pw_below_drewN | apply below_drew1) | exact HB.out)⟩⟩
                                  · rw [if_neg c58] at H
                                    exact absurd H (by simp)
                                · rw [if_neg c57] at H
                                  exact absurd H (by simp)
                              · rw [if_neg c55] at H
                                exact absurd H (by simp)
                            · rw [if_neg c54] at H
                              exact absurd H (by simp)
                        · replace c51 := Bool.eq_false_iff.mpr c51
                          subst c51
                          have H1 : (if 0 ≤ (wrap64 ((x11_2.length : Int) - 1)) then (if (wrap64 ((x11_2.length : Int) - 1)) < (x11_2.length : Int) then (if 0 ≤ (Int.tmod x36_2 (wrap64 (a1 * a2))) then (if (Int.tmod x36_2 (wrap64 (a1 * a2))) < ((rd_L1 x11_2 (wrap64 ((x11_2.length : Int) - 1))).length : Int) then (printing_Several.l0 k2 a1 a2 false (x11_2.set ((wrap64 ((x11_2.length : Int) - 1)) : Int).toNat ((rd_L1 x11_2 (wrap64 ((x11_2.length : Int) - 1))).set ((Int.tmod x36_2 (wrap64 (a1 * a2))) : Int).toNat (rd l0 x36_2))) l0 (l0.length : Int) (wrap64 (x36_2 + 1))) else (none)) else (none)) else (none)) else (none)) = some (r1, r2) := by rw [if_neg (show ¬ (false = true) by decide)] at H; exact H
                          clear H
                          have H := H1
                          clear H1
                          obtain ⟨ji63, hji63⟩ : ∃ j_ : Int, (wrap64 ((x11_2.length : Int) - 1)) = j_ := ⟨_, rfl⟩
                          replace H : (if 0 ≤ (ji63) then (if (ji63) < (x11_2.length : Int) then (if 0 ≤ (Int.tmod x36_2 (wrap64 (a1 * a2))) then (if (Int.tmod x36_2 (wrap64 (a1 * a2))) < ((rd_L1 x11_2 (ji63)).length : Int) then (printing_Several.l0 k2 a1 a2 false (x11_2.set ((ji63) : Int).toNat ((rd_L1 x11_2 (ji63)).set ((Int.tmod x36_2 (wrap64 (a1 * a2))) : Int).toNat (rd l0 x36_2))) l0 (l0.length : Int) (wrap64 (x36_2 + 1))) else (none)) else (none)) else (none)) else (none)) = some (r1, r2) := by first | (rw [hji63] at H; exact H) | (simp only [hji63] at H ⊢; exact H)
                          have hji63w : (IntKind.i64.wrap ((x11_2.length : Int) - 1)) = ji63 := (i64_w _).trans hji63
                          by_cases c64 : 0 ≤ (ji63)
                          · rw [if_pos c64] at H
                            have c64b0 : decide (0 ≤ (ji63)) = true := decide_eq_true c64
                            clear c64
                            by_cases c65 : (ji63) < (x11_2.length : Int)
                            · rw [if_pos c65] at H
                              have c65b0 : decide ((ji63) < (x11_2.length : Int)) = true := decide_eq_true c65
                              clear c65
                              obtain ⟨ji66, hji66⟩ : ∃ j_ : Int, (Int.tmod x36_2 (wrap64 (a1 * a2))) = j_ := ⟨_, rfl⟩
                              replace H : (if 0 ≤ (ji66) then (if (ji66) < ((rd_L1 x11_2 (ji63)).length : Int) then (printing_Several.l0 k2 a1 a2 false (x11_2.set ((ji63) : Int).toNat ((rd_L1 x11_2 (ji63)).set ((ji66) : Int).toNat (rd l0 x36_2))) l0 (l0.length : Int) (wrap64 (x36_2 + 1))) else (none)) else (none)) = some (r1, r2) := by first | (rw [hji66] at H; exact H) | (simp only [hji66] at H ⊢; exact H)
                              (try rw [hji66] at c16b0)
                              (try rw [hji66] at c16b1)
                              by_cases c67 : 0 ≤ (ji66)
                              · rw [if_pos c67] at H
                                have c67b0 : decide (0 ≤ (ji66)) = true := decide_eq_true c67
                                clear c67
                                by_cases c68 : (ji66) < ((rd_L1 x11_2 (ji63)).length : Int)
                                · rw [if_pos c68] at H
                                  have c68b0 : decide ((ji66) < ((rd_L1 x11_2 (ji63)).length : Int)) = true := decide_eq_true c68
                                  clear c68
                                  obtain ⟨y137, hy137⟩ : ∃ y_ : List Int, y_ = ((rd_L1 x11_2 (ji63)).set ((ji66) : Int).toNat (rd l0 x36_2)) := ⟨_, rfl⟩
                                  replace H : (printing_Several.l0 k2 a1 a2 false (x11_2.set ((ji63) : Int).toNat y137) l0 (l0.length : Int) (wrap64 (x36_2 + 1))) = some (r1, r2) := by first | (rw [hy137]; with_reducible exact H) | (have H2_ := (Option.bind_some _ _).symm.trans H; rw [hy137]; with_reducible exact H2_) | (have H2_ := (Option.bind_some _ _).symm.trans H; with_reducible exact H2_) | with_reducible exact H | (rw [hy137]; exact H) | exact H
                                  have Ny137 := Aside0.mk hy137
                                  clear hy137
                                  obtain ⟨y139, hy139⟩ : ∃ y_ : List (List Int), y_ = (x11_2.set ((ji63) : Int).toNat y137) := ⟨_, rfl⟩
                                  replace H : (printing_Several.l0 k2 a1 a2 false y139 l0 (l0.length : Int) (wrap64 (x36_2 + 1))) = some (r1, r2) := by first | (rw [hy139]; with_reducible exact H) | (have H2_ := (Option.bind_some _ _).symm.trans H; rw [hy139]; with_reducible exact H2_) | (have H2_ := (Option.bind_some _ _).symm.trans H; with_reducible exact H2_) | with_reducible exact H | (rw [hy139]; exact H) | exact H
                                  have Ny139 := Aside0.mk hy139
                                  clear hy139
                                  have H' := Aside0.mk H
                                  clear H
                                  have p117 : 0 ≤ (x36_2 : Int) := of_decide_eq_true (by first | (with_reducible assumption) | assumption)
                                  have q117 : x36_2 < (l0.length : Int) := of_decide_eq_true (by first | (with_reducible assumption) | assumption)
                                  obtain ⟨ad117, e117, hx117_0⟩ := Kd.at_int HR0.out x36_2 p117 q117
                                  cases e117
                                  replace hx117_0 := (HB.out.cell (World.block_lt_of_cell? w _ hx117_0)).trans hx117_0
                                  replace p117 := eq_true p117
                                  replace q117 := eq_true q117
                                  obtain ⟨Ao70, co70, eo70⟩ := Kd.S_slice HO_11.out
                                  subst eo70
                                  have p136 : 0 ≤ ((ji63) : Int) := of_decide_eq_true (by first | (with_reducible assumption) | assumption)
                                  have q136 : (ji63) < (x11_2.length : Int) := of_decide_eq_true (by first | (with_reducible assumption) | assumption)
                                  obtain ⟨ad136, A136_0, c136_0, e136, hx136_0, hl136_0, hi136_0⟩ := at_L1 (Kd.S_reads' HO_11.out).2.2 (ji63) p136 q136
                                  cases e136
                                  obtain ⟨ce136, hce136, hMe136, hcc136⟩ := Kd.S_get HO_11.out [] (ji63) p136 (by first | exact q136 | exact of_decide_eq_true (by first | (with_reducible assumption) | assumption) | (have e_ := (Kd.S_reads' HO_11.out).1; omega))
                                  obtain ⟨ve136_0, rfl, ge136_0⟩ := hMe136
                                  have hv136_0 := hcc136 0 _ rfl
                                  rw [Nat.add_zero, show ((Kd.slice 3 (Kd.int .i64))).sz = 1 from rfl, Nat.mul_one] at hv136_0
                                  replace hv136_0 := Option.some.inj (hv136_0.symm.trans hx136_0)
                                  rw [hv136_0] at ge136_0
                                  have HL136_0 := Aside0.mk (show Kd.R (Kd.int .i64) 3 _ _ _ _ (rd_L1 x11_2 (ji63)) from ge136_0)
                                  clear hv136_0 ge136_0
                                  have HX136_0 := Aside0.mk hx136_0
                                  clear hcc136 hce136
                                  have HR136_0 := Aside0.mk hi136_0
                                  have HC136_0 := Aside0.mk hl136_0
                                  clear hi136_0 hl136_0
                                  replace p136 := eq_true p136
                                  replace q136 := eq_true q136
                                  have p69 : 0 ≤ ((ji66) : Int) := of_decide_eq_true (by first | (with_reducible assumption) | assumption)
                                  have q69 : ((ji66) : Int) < (((rd_L1 x11_2 (ji63)).length : Int) : Int) := of_decide_eq_true (by first | (with_reducible assumption) | assumption)
                                  obtain ⟨go69, co69, eo69, gb69, gl69, cl69, HG69⟩ := Kd.R_form HL136_0.out (by omega)
                                  (first | cases eo69 | (injection eo69 with ea_ en_ ec_; (first | subst ea_ | (injection ea_ with ea_; subst ea_)); subst ec_; clear en_))
                                  have GB69 := Aside0.mk gb69
                                  have GG69 := Aside0.mk HG69
                                  clear gb69 gl69 HG69
                                  obtain ⟨hx69_0, hf69_0⟩ := Kd.R_celln 0 HL136_0.out ((ji66) : Int) p69 q69
                                  replace p69 := eq_true p69
                                  replace q69 := eq_true q69
                                  have hq71 : ((ji63) : Int) < (x11_2.length : Int) := (by have h_ : ((ji63) : Int) < ((x11_2.length : Int) : Int) := of_decide_eq_true (by first | (with_reducible assumption) | assumption); first | exact h_ | (have e_ := (Kd.S_reads' HO_11.out).1; omega) | simpa only [List.length_set, List.length_set] using h_)
                                  obtain ⟨oki71, ce71, hcl71, hM71, hcc71, hok71, hbk71⟩ := Kd.S_borrow HO_11.out [] ((ji63) : Int) (of_decide_eq_true (by first | (with_reducible assumption) | assumption)) hq71
                                  obtain ⟨ve71_0, rfl, ge71_0⟩ := hM71
                                  have hv71 := hcc71 0 _ rfl
                                  rw [Nat.add_zero, show ((Kd.slice 3 (Kd.int .i64))).sz = 1 from rfl, Nat.mul_one] at hv71
                                  replace hv71 := Option.some.inj (hv71.symm.trans HX136_0.out)
                                  subst hv71
                                  clear hcc71 hcl71
                                  replace ge71_0 := (show Kd.R (Kd.int .i64) 3 _ _ _ _ (rd_L1 x11_2 (ji63)) from ge71_0)
                                  have HP71 := Kd.R_putg ge71_0 ((ji66) : Int) (rd l0 x36_2)
                                  go_wp2_with (first | ((with_reducible refine gate_store (t := 3) (p := 73) rfl ?_); (try (rw [drewN_self wr]; generalize hq_ : World.drewN wr _ = wr; have n0_ := Aside0.mk (Kd.S_at hq_ HO_11.out); have n1_ := Aside0.mk (Kd.R_at hq_ HL143.out); have n2_ := Aside0.mk (below_at hq_ HB.out); clear hq_ HO_11 HL143 HB; have HO_11 := n0_; have HL143 := n1_; have HB := n2_; clear n0_ n1_ n2_; (try (have hq71 : ((ji63) : Int) < (x11_2.length : Int) := (by have h_ : ((ji63) : Int) < ((x11_2.length : Int) : Int) := of_decide_eq_true (by first | (with_reducible assumption) | assumption); first | exact h_ | (have e_ := (Kd.S_reads' HO_11.out).1; omega) | simpa only [List.length_set, List.length_set] using h_))); (try (obtain ⟨oki71, ce71, hcl71, hM71, hcc71, hok71, hbk71⟩ := Kd.S_borrow HO_11.out [] ((ji63) : Int) (of_decide_eq_true (by first | (with_reducible assumption) | assumption)) hq71)); (try (obtain ⟨ve71_0, rfl, ge71_0⟩ := hM71)); (try (have hv71 := hcc71 0 _ rfl)); (try (rw [Nat.add_zero, show ((Kd.slice 3 (Kd.int .i64))).sz = 1 from rfl, Nat.mul_one] at hv71)); (try (replace hv71 := Option.some.inj (hv71.symm.trans HX136_0.out))); (try (subst hv71)); (try (clear hcc71 hcl71)); (try (replace ge71_0 := (show Kd.R (Kd.int .i64) 3 _ _ _ _ (rd_L1 x11_2 (ji63)) from ge71_0))); (try (have HP71 := Kd.R_putg ge71_0 ((ji66) : Int) (rd l0 x36_2))))); refine store_event (t := 3) (p := 73) (v := ?vo_w72) (w1 := (wr.setCell ⟨go69, ((ji66) : Int).toNat, none⟩ (.int .i64 (rd l0 x36_2)))) ?hg ?ho ?hn ?hr ?_; (case ho => rfl); (case hg => rfl); (case hn => rfl); (case hr => first | (go_simp; done) | (go_simp; rfl)); intro w72 hw; have hg : wr.grownBy w72 (some go69) := (by rw [hw]; exact HP71.2); have hz_ : Kd.R (Kd.int .i64) 3 w72 w.heap.size oki71 (.slice (some ⟨go69, 0, none⟩) (rd_L1 x11_2 (ji63)).length c136_0) y137 := (by rw [hw, Ny137.out]; exact HP71.1); have hp_ : Kd.S (Kd.slice 3 (Kd.int .i64)) 34 w72 w.heap.size (fun _ => True) (.slice (some ad136) x11_2.length co70) y139 := (by rw [Ny139.out]; exact hbk71 hg (fun k_ e_ => by injection e_ with e_; subst e_; exact ge71_0.1 _ rfl) (Kd.M_row hz_)); have hm_ := Kd.R_mono hz_ hok71; clear HP71 hbk71; have n0_ := Aside0.mk (hp_); have n1_ := Aside0.mk ((by rw [hw]; exact below_set (HB.out) GB69.out : Below w.heap.size w w72)); have n2_ := Aside0.mk (hm_); have n3_ := Aside0.mk ((Kd.R_reads' hm_).2.1); clear HO_11; clear HB; clear HL136_0; have HO_11 := n0_; have HB := n1_; have HL143 := n2_; have HC138 := n3_; clear n0_ n1_ n2_ n3_; clear hg hw hp_ hz_ hm_ hok71))
                                  repeat (go_quiet (first | ((with_reducible refine gate_store (t := 3) (p := 73) rfl ?_); (try (rw [drewN_self wr]; generalize hq_ : World.drewN wr _ = wr; have n0_ := Aside0.mk (Kd.S_at hq_ HO_11.out); have n1_ := Aside0.mk (Kd.R_at hq_ HL143.out); have n2_ := Aside0.mk (below_at hq_ HB.out); clear hq_ HO_11 HL143 HB; have HO_11 := n0_; have HL143 := n1_; have HB := n2_; clear n0_ n1_ n2_; (try (have hq71 : ((ji63) : Int) < (x11_2.length : Int) := (by have h_ : ((ji63) : Int) < ((x11_2.length : Int) : Int) := of_decide_eq_true (by first | (with_reducible assumption) | assumption); first | exact h_ | (have e_ := (Kd.S_reads' HO_11.out).1; omega) | simpa only [List.length_set, List.length_set] using h_))); (try (obtain ⟨oki71, ce71, hcl71, hM71, hcc71, hok71, hbk71⟩ := Kd.S_borrow HO_11.out [] ((ji63) : Int) (of_decide_eq_true (by first | (with_reducible assumption) | assumption)) hq71)); (try (obtain ⟨ve71_0, rfl, ge71_0⟩ := hM71)); (try (have hv71 := hcc71 0 _ rfl)); (try (rw [Nat.add_zero, show ((Kd.slice 3 (Kd.int .i64))).sz = 1 from rfl, Nat.mul_one] at hv71)); (try (replace hv71 := Option.some.inj (hv71.symm.trans HX136_0.out))); (try (subst hv71)); (try (clear hcc71 hcl71)); (try (replace ge71_0 := (show Kd.R (Kd.int .i64) 3 _ _ _ _ (rd_L1 x11_2 (ji63)) from ge71_0))); (try (have HP71 := Kd.R_putg ge71_0 ((ji66) : Int) (rd l0 x36_2))))); refine store_event (t := 3) (p := 73) (v := ?vo_w72) (w1 := (wr.setCell ⟨go69, ((ji66) : Int).toNat, none⟩ (.int .i64 (rd l0 x36_2)))) ?hg ?ho ?hn ?hr ?_; (case ho => rfl); (case hg => rfl); (case hn => rfl); (case hr => first | (go_simp; done) | (go_simp; rfl)); intro w72 hw; have hg : wr.grownBy w72 (some go69) := (by rw [hw]; exact HP71.2); have hz_ : Kd.R (Kd.int .i64) 3 w72 w.heap.size oki71 (.slice (some ⟨go69, 0, none⟩) (rd_L1 x11_2 (ji63)).length c136_0) y137 := (by rw [hw, Ny137.out]; exact HP71.1); have hp_ : Kd.S (Kd.slice 3 (Kd.int .i64)) 34 w72 w.heap.size (fun _ => True) (.slice (some ad136) x11_2.length co70) y139 := (by rw [Ny139.out]; exact hbk71 hg (fun k_ e_ => by injection e_ with e_; subst e_; exact ge71_0.1 _ rfl) (Kd.M_row hz_)); have hm_ := Kd.R_mono hz_ hok71; clear HP71 hbk71; have n0_ := Aside0.mk (hp_); have n1_ := Aside0.mk ((by rw [hw]; exact below_set (HB.out) GB69.out : Below w.heap.size w w72)); have n2_ := Aside0.mk (hm_); have n3_ := Aside0.mk ((Kd.R_reads' hm_).2.1); clear HO_11; clear HB; clear HL136_0; have HO_11 := n0_; have HB := n1_; have HL143 := n2_; have HC138 := n3_; clear n0_ n1_ n2_ n3_; clear hg hw hp_ hz_ hm_ hok71)); try go_wp2_with (first | ((with_reducible refine gate_store (t := 3) (p := 73) rfl ?_); (try (rw [drewN_self wr]; generalize hq_ : World.drewN wr _ = wr; have n0_ := Aside0.mk (Kd.S_at hq_ HO_11.out); have n1_ := Aside0.mk (Kd.R_at hq_ HL143.out); have n2_ := Aside0.mk (below_at hq_ HB.out); clear hq_ HO_11 HL143 HB; have HO_11 := n0_; have HL143 := n1_; have HB := n2_; clear n0_ n1_ n2_; (try (have hq71 : ((ji63) : Int) < (x11_2.length : Int) := (by have h_ : ((ji63) : Int) < ((x11_2.length : Int) : Int) := of_decide_eq_true (by first | (with_reducible assumption) | assumption); first | exact h_ | (have e_ := (Kd.S_reads' HO_11.out).1; omega) | simpa only [List.length_set, List.length_set] using h_))); (try (obtain ⟨oki71, ce71, hcl71, hM71, hcc71, hok71, hbk71⟩ := Kd.S_borrow HO_11.out [] ((ji63) : Int) (of_decide_eq_true (by first | (with_reducible assumption) | assumption)) hq71)); (try (obtain ⟨ve71_0, rfl, ge71_0⟩ := hM71)); (try (have hv71 := hcc71 0 _ rfl)); (try (rw [Nat.add_zero, show ((Kd.slice 3 (Kd.int .i64))).sz = 1 from rfl, Nat.mul_one] at hv71)); (try (replace hv71 := Option.some.inj (hv71.symm.trans HX136_0.out))); (try (subst hv71)); (try (clear hcc71 hcl71)); (try (replace ge71_0 := (show Kd.R (Kd.int .i64) 3 _ _ _ _ (rd_L1 x11_2 (ji63)) from ge71_0))); (try (have HP71 := Kd.R_putg ge71_0 ((ji66) : Int) (rd l0 x36_2))))); refine store_event (t := 3) (p := 73) (v := ?vo_w72) (w1 := (wr.setCell ⟨go69, ((ji66) : Int).toNat, none⟩ (.int .i64 (rd l0 x36_2)))) ?hg ?ho ?hn ?hr ?_; (case ho => rfl); (case hg => rfl); (case hn => rfl); (case hr => first | (go_simp; done) | (go_simp; rfl)); intro w72 hw; have hg : wr.grownBy w72 (some go69) := (by rw [hw]; exact HP71.2); have hz_ : Kd.R (Kd.int .i64) 3 w72 w.heap.size oki71 (.slice (some ⟨go69, 0, none⟩) (rd_L1 x11_2 (ji63)).length c136_0) y137 := (by rw [hw, Ny137.out]; exact HP71.1); have hp_ : Kd.S (Kd.slice 3 (Kd.int .i64)) 34 w72 w.heap.size (fun _ => True) (.slice (some ad136) x11_2.length co70) y139 := (by rw [Ny139.out]; exact hbk71 hg (fun k_ e_ => by injection e_ with e_; subst e_; exact ge71_0.1 _ rfl) (Kd.M_row hz_)); have hm_ := Kd.R_mono hz_ hok71; clear HP71 hbk71; have n0_ := Aside0.mk (hp_); have n1_ := Aside0.mk ((by rw [hw]; exact below_set (HB.out) GB69.out : Below w.heap.size w w72)); have n2_ := Aside0.mk (hm_); have n3_ := Aside0.mk ((Kd.R_reads' hm_).2.1); clear HO_11; clear HB; clear HL136_0; have HO_11 := n0_; have HB := n1_; have HL143 := n2_; have HC138 := n3_; clear n0_ n1_ n2_ n3_; clear hg hw hp_ hz_ hm_ hok71)))
                                  go_roundg k2
                                  case measure => have := HJ6.out; have := HK2.out; omega
                                  case rel => exact ⟨(y139), (wrap64 (x36_2 + 1)), (by first | rfl | (simp; done) | (simp [*]; done)), H', ⟨by have := HJ6.out; have := HK2.out; omega⟩, ⟨by (with_reducible repeat (first | apply Kd.S_alloc | apply Kd.S_drewN | apply Kd.S_drew)); exact HO_11.out⟩, ⟨by repeat (first | (with_reducible first | exact HB.out | apply below_alloc | apply pw_below_drewN | apply below_drew1) | exact HB.out)⟩⟩
                                · rw [if_neg c68] at H
                                  exact absurd H (by simp)
                              · rw [if_neg c67] at H
                                exact absurd H (by simp)
                            · rw [if_neg c65] at H
                              exact absurd H (by simp)
                          · rw [if_neg c64] at H
                            exact absurd H (by simp)
                  · rw [if_neg c14] at H
                    exact absurd H (by simp)
                · rw [if_neg c13] at H
                  exact absurd H (by simp)
              · rw [if_neg c12] at H
                have c12b0 : decide (x36_2 < (l0.length : Int)) = false := decide_eq_false c12
                clear c12
                simp only [Option.some.injEq, Prod.mk.injEq] at H
                obtain ⟨rfl, rfl⟩ := H
                go_wp2
                repeat (go_quiet (fail); try go_wp2)
                go_ret2
                exact ⟨_, by first | rfl | (simp [errW_none, errW_some] <;> rfl) | (simp [*, errW_none, errW_some] <;> rfl), by (with_reducible repeat (first | apply Kd.S_alloc | apply Kd.S_drewN | apply Kd.S_drew)); exact HO_11.out, by repeat (first | (with_reducible first | exact HB.out | apply below_alloc | apply pw_below_drewN | apply below_drew1) | exact HB.out)⟩
  · rw [if_neg c6] at H
    have c6b0 : (t116 == 0) = false := beq_eq_false_iff_ne.mpr c6
    have c6b1 : (t116 != 0) = true := bne_iff_ne.mpr c6
    simp only [Option.some.injEq, Prod.mk.injEq] at H
    obtain ⟨rfl, rfl⟩ := H
    go_enter Try.func25, Try.ntmps25
    go_wp2_with (first | (go_at_call 46; (with_reducible refine (printing_check.calls k _ _ l0 t116 _ ?side1 ?side2 A5.out).mono ?_); (case side1 => repeat (first | exact HR0.out | (with_reducible refine Kd.C_alloc ?_ _) | (with_reducible refine Kd.C_drewN ?_ _) | (with_reducible refine Kd.C_drew ?_))); (case side2 => exact HC0.out); rintro e w' ⟨rfl, ⟨nd, rfl⟩⟩; (try first | exact ⟨rfl, _, World.drewN_drewN _ _ _⟩ | exact ⟨rfl, _, Eq.trans (World.drewN_drewN _ _ _) (congrArg (World.drewN _) (Nat.add_assoc _ _ _))⟩)))
    repeat (go_quiet (first | (go_at_call 46; (with_reducible refine (printing_check.calls k _ _ l0 t116 _ ?side1 ?side2 A5.out).mono ?_); (case side1 => repeat (first | exact HR0.out | (with_reducible refine Kd.C_alloc ?_ _) | (with_reducible refine Kd.C_drewN ?_ _) | (with_reducible refine Kd.C_drew ?_))); (case side2 => exact HC0.out); rintro e w' ⟨rfl, ⟨nd, rfl⟩⟩; (try first | exact ⟨rfl, _, World.drewN_drewN _ _ _⟩ | exact ⟨rfl, _, Eq.trans (World.drewN_drewN _ _ _) (congrArg (World.drewN _) (Nat.add_assoc _ _ _))⟩))); try go_wp2_with (first | (go_at_call 46; (with_reducible refine (printing_check.calls k _ _ l0 t116 _ ?side1 ?side2 A5.out).mono ?_); (case side1 => repeat (first | exact HR0.out | (with_reducible refine Kd.C_alloc ?_ _) | (with_reducible refine Kd.C_drewN ?_ _) | (with_reducible refine Kd.C_drew ?_))); (case side2 => exact HC0.out); rintro e w' ⟨rfl, ⟨nd, rfl⟩⟩; (try first | exact ⟨rfl, _, World.drewN_drewN _ _ _⟩ | exact ⟨rfl, _, Eq.trans (World.drewN_drewN _ _ _) (congrArg (World.drewN _) (Nat.add_assoc _ _ _))⟩))))
    go_ret2
    exact ⟨_, by first | rfl | (simp [errW_none, errW_some] <;> rfl) | (simp [*, errW_none, errW_some] <;> rfl), by first | exact Kd.S_nil _ _ _ _ _ | exact Kd.N_nil _ _ _ _ _ | exact Kd.V_nil _ _ _ _ _ | exact Kd.Q_nil _ _ _ _ _ | exact Kd.R_nil _ _ _ _ _, by repeat (first | (with_reducible first | exact HB.out | apply below_alloc | apply pw_below_drewN | apply below_drew1) | exact HB.out)⟩

/-! ### chanceryref3_In: function 14 -/
def chanceryref3_In.f (a0 : Int) (a1 : Int) (a2 : Int) : Option (Bool) := if a0 ≥ a1 then (some (decide (a0 ≤ a2))) else (some false)
set_option maxHeartbeats 8000000 in
set_option maxRecDepth 100000 in
theorem chanceryref3_In.calls (a0 : Int) (a1 : Int) (a2 : Int) (r : Bool) (w : World) (h : chanceryref3_In.f a0 a1 a2 = some r) :
    Calls Try.prog 14 #[.int .i64 a0, .int .i64 a1, .int .i64 a2] w fun e w' => e = .returned (.bool r) ∧ Drawn0 w w' := by
  have H : (if a0 ≥ a1 then (some (decide (a0 ≤ a2))) else (some false)) = some r := h
  clear h
  by_cases c4 : a0 ≥ a1
  · rw [if_pos c4] at H
    have c4b0 : decide (a1 ≤ a0) = true := decide_eq_true c4
    clear c4
    obtain rfl := Option.some.inj H
    go_enter Try.func14, Try.ntmps14
    go_wp2
    go_ret
    exact ⟨by first | rfl | (simp; done) | (simp [*]; done), by repeat (first | exact Drawn0.refl _ | apply Drawn0.step)⟩
  · rw [if_neg c4] at H
    have c4b0 : decide (a1 ≤ a0) = false := decide_eq_false c4
    clear c4
    obtain rfl := Option.some.inj H
    go_enter Try.func14, Try.ntmps14
    go_wp2
    go_ret
    exact ⟨by first | rfl | (simp; done) | (simp [*]; done), by repeat (first | exact Drawn0.refl _ | apply Drawn0.step)⟩

/-! ### chancerylaw3_listError: function 26 -/
def chancerylaw3_listError.l0 : Nat → List Int → Int → Int → Option (Int)
  | 0, _, _, _ => none
  | k + 1, x8, x9, x10 => if x10 < x9 then (if 0 ≤ x10 then (if x10 < (x8.length : Int) then ((chanceryref3_In.f (rd x8 x10) 0 10000).bind fun t145 => (if t145 = true then (chancerylaw3_listError.l0 k x8 x9 (wrap64 (x10 + 1))) else (some 2))) else (none)) else (none)) else (some 0)
def chancerylaw3_listError.f (k : Nat) (l0 : List Int) : Option (Int) := if (l0.length : Int) > 10000 then (some 3) else (chancerylaw3_listError.l0 k l0 (l0.length : Int) 0)
theorem chancerylaw3_listError.mono_l : ∀ k, (∀ y0 y1 y2, LeO (chancerylaw3_listError.l0 k y0 y1 y2) (chancerylaw3_listError.l0 (k + 1) y0 y1 y2))
  | 0 => fun _ _ _ r h => by simp [chancerylaw3_listError.l0] at h
  | k + 1 => by
    have ih0 := chancerylaw3_listError.mono_l k
    · intro y0 y1 y2
      unfold chancerylaw3_listError.l0
      repeat' first
      | (with_reducible exact ih0 _ _ _)
      | (with_reducible exact LeO.refl _)
      | (with_reducible exact LeO.none _)
      | (with_reducible refine LeO.ite ?_ ?_)
      | (with_reducible refine LeO.bind ?_ (fun _ => ?_))
      | exact ih0 _ _ _
      | exact LeO.none _
      | refine LeO.ite ?_ ?_
      | refine LeO.bind ?_ (fun _ => ?_)
theorem chancerylaw3_listError.mono : ∀ a0 k, LeO (chancerylaw3_listError.f k a0) (chancerylaw3_listError.f (k + 1) a0) := by
  intro a0 k
  have ih0 := chancerylaw3_listError.mono_l k
  unfold chancerylaw3_listError.f
  repeat' first
      | (with_reducible exact ih0 _ _ _)
      | (with_reducible exact LeO.refl _)
      | (with_reducible exact LeO.none _)
      | (with_reducible refine LeO.ite ?_ ?_)
      | (with_reducible refine LeO.bind ?_ (fun _ => ?_))
      | exact ih0 _ _ _
      | exact LeO.none _
      | refine LeO.ite ?_ ?_
      | refine LeO.bind ?_ (fun _ => ?_)
set_option maxHeartbeats 8000000 in
set_option maxRecDepth 100000 in
theorem chancerylaw3_listError.calls (k : Nat) (A0 : Option Addr) (c0 : Nat) (l0 : List Int) (r : Int) (w : World) (hr0 : Kd.C (Kd.int .i64) w A0 l0.length l0) (hc0 : l0.length ≤ c0) (h : chancerylaw3_listError.f k l0 = some r) :
    Calls Try.prog 26 #[.slice A0 l0.length c0] w fun e w' => e = .returned (.int .i64 r) ∧ Drawn0 w w' := by
  have HR0 := Aside0.mk hr0
  have HC0 := Aside0.mk hc0
  clear hr0 hc0
  have H : (if (l0.length : Int) > 10000 then (some 3) else (chancerylaw3_listError.l0 k l0 (l0.length : Int) 0)) = some r := h
  clear h
  by_cases c2 : (l0.length : Int) > 10000
  · rw [if_pos c2] at H
    have c2b0 : decide (10000 < (l0.length : Int)) = true := decide_eq_true c2
    have c2b1 : decide (10000 < l0.length) = true := decide_eq_true (by omega)
    clear c2
    obtain rfl := Option.some.inj H
    go_enter Try.func26, Try.ntmps26
    go_wp2
    go_ret
    exact ⟨by first | rfl | (simp; done) | (simp [*]; done), by repeat (first | exact Drawn0.refl _ | apply Drawn0.step)⟩
  · rw [if_neg c2] at H
    have c2b0 : decide (10000 < (l0.length : Int)) = false := decide_eq_false c2
    have c2b1 : decide (10000 < l0.length) = false := decide_eq_false (by omega)
    clear c2
    have H' := Aside0.mk H
    clear H
    go_enter Try.func26, Try.ntmps26
    go_wp2
    go_loopg [10] k (fun kq v10 w' => ∃ (x10_1 : Int), v10 = .int .i64 x10_1 ∧ Aside0 (chancerylaw3_listError.l0 kq l0 (l0.length : Int) x10_1 = some r) ∧ Aside0 (kq ≤ k) ∧ Drawn0 w w')
    case atStart => exact ⟨(0), (by first | rfl | (simp; done) | (simp [*]; done)), H', ⟨Nat.le_refl _⟩, by repeat (first | exact Drawn0.refl _ | apply Drawn0.step)⟩
    case round =>
      clear H'
      try clear c2
      try clear c2b0
      try clear c2b1
      try clear p2
      obtain ⟨x10_1, rfl, HA, HK1, ⟨m1, rfl⟩⟩ := hrel
      cases gk with
      | zero => exact absurd HA.out (by simp [chancerylaw3_listError.l0])
      | succ k1 =>
        have H := HA.out
        clear HA
        simp only [chancerylaw3_listError.l0] at H
        by_cases c3 : x10_1 < (l0.length : Int)
        · rw [if_pos c3] at H
          have c3b0 : decide (x10_1 < (l0.length : Int)) = true := decide_eq_true c3
          clear c3
          by_cases c4 : 0 ≤ x10_1
          · rw [if_pos c4] at H
            have c4b0 : decide (0 ≤ x10_1) = true := decide_eq_true c4
            clear c4
            by_cases c5 : x10_1 < (l0.length : Int)
            · rw [if_pos c5] at H
              have c5b0 : decide (x10_1 < (l0.length : Int)) = true := decide_eq_true c5
              clear c5
              replace H := Option.bind_eq_some_iff.mp H
              obtain ⟨t145, A60, H⟩ := H
              replace H : (if t145 = true then (chancerylaw3_listError.l0 k1 l0 (l0.length : Int) (wrap64 (x10_1 + 1))) else (some 2)) = some r := H
              have A6 := Aside0.mk A60
              clear A60
              by_cases c7 : t145 = true
              · subst c7
                have H1 : (chancerylaw3_listError.l0 k1 l0 (l0.length : Int) (wrap64 (x10_1 + 1))) = some r := by rw [if_pos rfl] at H; exact H
                clear H
                have H := H1
                clear H1
                have H' := Aside0.mk H
                clear H
                have p144 : 0 ≤ (x10_1 : Int) := of_decide_eq_true (by first | (with_reducible assumption) | assumption)
                have q144 : x10_1 < (l0.length : Int) := of_decide_eq_true (by first | (with_reducible assumption) | assumption)
                obtain ⟨ad144, e144, hx144_0⟩ := Kd.at_int HR0.out x10_1 p144 q144
                cases e144
                replace p144 := eq_true p144
                replace q144 := eq_true q144
                go_wp2_with (first | ((with_reducible refine gate_callee (f := 14) rfl ?_); refine goesL_ (some 15) rfl rfl Try.func14 (by kernel_rfl) rfl #[.int .i64 (rd l0 x10_1), .int .i64 0, .int .i64 10000] rfl (by (try simp only [List.map_toArray, List.map_cons, List.map_nil]); first | done | rfl | (simp only [List.length_drop, List.length_take]; rfl)) ?_; (with_reducible refine (chanceryref3_In.calls (rd l0 x10_1) 0 10000 true _ A6.out).mono ?_); rintro e w' ⟨rfl, ⟨nd, rfl⟩⟩; refine ⟨_, rfl, ?_⟩))
                go_roundg k1
                case measure => have := HK1.out; omega
                case rel => exact ⟨(wrap64 (x10_1 + 1)), (by first | rfl | (simp; done) | (simp [*]; done)), H', ⟨by have := HK1.out; omega⟩, by repeat (first | exact Drawn0.refl _ | apply Drawn0.step)⟩
              · replace c7 := Bool.eq_false_iff.mpr c7
                subst c7
                have H1 : (some 2) = some r := by rw [if_neg (show ¬ (false = true) by decide)] at H; exact H
                clear H
                have H := H1
                clear H1
                obtain rfl := Option.some.inj H
                have p144 : 0 ≤ (x10_1 : Int) := of_decide_eq_true (by first | (with_reducible assumption) | assumption)
                have q144 : x10_1 < (l0.length : Int) := of_decide_eq_true (by first | (with_reducible assumption) | assumption)
                obtain ⟨ad144, e144, hx144_0⟩ := Kd.at_int HR0.out x10_1 p144 q144
                cases e144
                replace p144 := eq_true p144
                replace q144 := eq_true q144
                go_wp2_with (first | ((with_reducible refine gate_callee (f := 14) rfl ?_); refine goesL_ (some 15) rfl rfl Try.func14 (by kernel_rfl) rfl #[.int .i64 (rd l0 x10_1), .int .i64 0, .int .i64 10000] rfl (by (try simp only [List.map_toArray, List.map_cons, List.map_nil]); first | done | rfl | (simp only [List.length_drop, List.length_take]; rfl)) ?_; (with_reducible refine (chanceryref3_In.calls (rd l0 x10_1) 0 10000 false _ A6.out).mono ?_); rintro e w' ⟨rfl, ⟨nd, rfl⟩⟩; refine ⟨_, rfl, ?_⟩))
                go_ret
                exact ⟨by first | rfl | (simp; done) | (simp [*]; done), by repeat (first | exact Drawn0.refl _ | apply Drawn0.step)⟩
            · rw [if_neg c5] at H
              exact absurd H (by simp)
          · rw [if_neg c4] at H
            exact absurd H (by simp)
        · rw [if_neg c3] at H
          have c3b0 : decide (x10_1 < (l0.length : Int)) = false := decide_eq_false c3
          clear c3
          obtain rfl := Option.some.inj H
          go_wp2
          go_ret
          exact ⟨by first | rfl | (simp; done) | (simp [*]; done), by repeat (first | exact Drawn0.refl _ | apply Drawn0.step)⟩

end Go.Proofs.Ytihmbddneapooaa.QPO
