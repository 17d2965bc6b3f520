-- WRITTEN BY wip/print2.py, a program of this session, over contracts of this session's own; no print of print.sh
import Derived.Test.YtihmbddneapooaaQPOx0
import Derived.Test.YtihmbddneapooaaQPOx2
namespace Go.Proofs.Ytihmbddneapooaa.QPO
open Go.RowKit Go.Proofs.Ytihmbddneapooaa.HandPO Go.Proofs.YtihmbddneapooaaW.PrintWords Go.Proofs.YtihmbddneapooaaW.PrintLast Go.Proofs.YtihmbddneapooaaW.PrintMore
attribute [local go_sem] max2_int min2_int max_two min_two max_three min_three max_four min_four   -- for this text's walks alone
set_option linter.unusedVariables false
set_option linter.unusedSimpArgs false

/-! ### chancerylaw3_sided: function 28 -/
mutual
def chancerylaw3_sided.j0 : Nat → List Int → Int → Int → Bool → List (List Int) → Int → Bool → Option (Bool)
  | 0, _, _, _, _, _, _, _ => none
  | k + 1, x0, x1, x2, x3, x4, x5, x27 => if x27 = true then (if x5 = 2 then (some ((x4.length : Int) == 0)) else (some false)) else (if x5 = 0 then (if (wrap64 (x1 * x2)) = 0 then (none) else (chancerylaw3_sided.j1 k x0 x1 x2 x3 x4 (wrap64 (x1 * x2)) ((x4.length : Int) != (wrap64 (Int.tdiv (wrap64 ((wrap64 ((x0.length : Int) + (wrap64 (x1 * x2)))) - 1)) (wrap64 (x1 * x2))))))) else (chancerylaw3_sided.j1 k x0 x1 x2 x3 x4 (wrap64 (x1 * x2)) true))
def chancerylaw3_sided.j1 : Nat → List Int → Int → Int → Bool → List (List Int) → Int → Bool → Option (Bool)
  | 0, _, _, _, _, _, _, _ => none
  | k + 1, x0, x1, x2, x3, x4, x13, x51 => if x51 = true then (some false) else (chancerylaw3_sided.l0 k x0 x1 x2 x3 x13 x4 (x4.length : Int) 0)
def chancerylaw3_sided.l0 : Nat → List Int → Int → Int → Bool → Int → List (List Int) → Int → Int → Option (Bool)
  | 0, _, _, _, _, _, _, _, _ => none
  | k + 1, x0, x1, x2, x3, x13, x52, x53, x54 => if x54 < x53 then (if 0 ≤ x54 then (if x54 < (x52.length : Int) then (if ((rd_L1 x52 x54).length : Int) = x13 then (chancerylaw3_sided.l1 k x0 x1 x2 x3 x13 x54 (rd_L1 x52 x54) x52 x53 x54 x1 0) else (some false)) else (none)) else (none)) else (some true)
def chancerylaw3_sided.l1 : Nat → List Int → Int → Int → Bool → Int → Int → List Int → List (List Int) → Int → Int → Int → Int → Option (Bool)
  | 0, _, _, _, _, _, _, _, _, _, _, _, _ => none
  | k + 1, x0, x1, x2, x3, x13, x14, x15, x52, x53, x54, x63, x64 => if x64 < x63 then (chancerylaw3_sided.l2 k x0 x1 x2 x3 x13 x14 x15 x64 x52 x53 x54 x63 x64 x2 0) else (chancerylaw3_sided.l0 k x0 x1 x2 x3 x13 x52 x53 (wrap64 (x54 + 1)))
def chancerylaw3_sided.l2 : Nat → List Int → Int → Int → Bool → Int → Int → List Int → Int → List (List Int) → Int → Int → Int → Int → Int → Int → Option (Bool)
  | 0, _, _, _, _, _, _, _, _, _, _, _, _, _, _, _ => none
  | k + 1, x0, x1, x2, x3, x13, x14, x15, x16, x52, x53, x54, x63, x64, x67, x68 => if x68 < x67 then (if x3 = true then (chancerylaw3_sided.j5 k x0 x1 x2 x3 x13 x14 x15 x16 x68 (wrap64 ((wrap64 ((wrap64 (x14 * x13)) + (wrap64 (x68 * x1)))) + x16)) x52 x53 x54 x63 x64 x67 x68) else (chancerylaw3_sided.j5 k x0 x1 x2 x3 x13 x14 x15 x16 x68 (wrap64 ((wrap64 ((wrap64 (x14 * x13)) + (wrap64 (x16 * x2)))) + x68)) x52 x53 x54 x63 x64 x67 x68)) else (chancerylaw3_sided.l1 k x0 x1 x2 x3 x13 x14 x15 x52 x53 x54 x63 (wrap64 (x64 + 1)))
def chancerylaw3_sided.j5 : Nat → List Int → Int → Int → Bool → Int → Int → List Int → Int → Int → Int → List (List Int) → Int → Int → Int → Int → Int → Int → Option (Bool)
  | 0, _, _, _, _, _, _, _, _, _, _, _, _, _, _, _, _, _ => none
  | k + 1, x0, x1, x2, x3, x13, x14, x15, x16, x17, x18, x52, x53, x54, x63, x64, x67, x68 => if x18 < (x0.length : Int) then (if 0 ≤ x18 then (if 0 ≤ (wrap64 ((wrap64 (x16 * x2)) + x17)) then (if (wrap64 ((wrap64 (x16 * x2)) + x17)) < (x15.length : Int) then (if (rd x15 (wrap64 ((wrap64 (x16 * x2)) + x17))) = (rd x0 x18) then (chancerylaw3_sided.l2 k x0 x1 x2 x3 x13 x14 x15 x16 x52 x53 x54 x63 x64 x67 (wrap64 (x68 + 1))) else (some false)) else (none)) else (none)) else (none)) else (if 0 ≤ (wrap64 ((wrap64 (x16 * x2)) + x17)) then (if (wrap64 ((wrap64 (x16 * x2)) + x17)) < (x15.length : Int) then (if (rd x15 (wrap64 ((wrap64 (x16 * x2)) + x17))) = 0 then (chancerylaw3_sided.l2 k x0 x1 x2 x3 x13 x14 x15 x16 x52 x53 x54 x63 x64 x67 (wrap64 (x68 + 1))) else (some false)) else (none)) else (none))
end
def chancerylaw3_sided.f (k : Nat) (l0 : List Int) (a1 : Int) (a2 : Int) (a3 : Bool) (l4 : List (List Int)) (a5 : Int) : Option (Bool) := (chanceryref3_In.f a1 1 8).bind fun t160 => (if t160 = true then ((chanceryref3_In.f a2 1 8).bind fun t161 => (chancerylaw3_sided.j0 k l0 a1 a2 a3 l4 a5 (!t161))) else (chancerylaw3_sided.j0 k l0 a1 a2 a3 l4 a5 true))
theorem chancerylaw3_sided.mono_l : ∀ k, (∀ y0 y1 y2 y3 y4 y5 y6, LeO (chancerylaw3_sided.j0 k y0 y1 y2 y3 y4 y5 y6) (chancerylaw3_sided.j0 (k + 1) y0 y1 y2 y3 y4 y5 y6)) ∧ (∀ y0 y1 y2 y3 y4 y5 y6, LeO (chancerylaw3_sided.j1 k y0 y1 y2 y3 y4 y5 y6) (chancerylaw3_sided.j1 (k + 1) y0 y1 y2 y3 y4 y5 y6)) ∧ (∀ y0 y1 y2 y3 y4 y5 y6 y7, LeO (chancerylaw3_sided.l0 k y0 y1 y2 y3 y4 y5 y6 y7) (chancerylaw3_sided.l0 (k + 1) y0 y1 y2 y3 y4 y5 y6 y7)) ∧ (∀ y0 y1 y2 y3 y4 y5 y6 y7 y8 y9 y10 y11, LeO (chancerylaw3_sided.l1 k y0 y1 y2 y3 y4 y5 y6 y7 y8 y9 y10 y11) (chancerylaw3_sided.l1 (k + 1) y0 y1 y2 y3 y4 y5 y6 y7 y8 y9 y10 y11)) ∧ (∀ y0 y1 y2 y3 y4 y5 y6 y7 y8 y9 y10 y11 y12 y13 y14, LeO (chancerylaw3_sided.l2 k y0 y1 y2 y3 y4 y5 y6 y7 y8 y9 y10 y11 y12 y13 y14) (chancerylaw3_sided.l2 (k + 1) y0 y1 y2 y3 y4 y5 y6 y7 y8 y9 y10 y11 y12 y13 y14)) ∧ (∀ y0 y1 y2 y3 y4 y5 y6 y7 y8 y9 y10 y11 y12 y13 y14 y15 y16, LeO (chancerylaw3_sided.j5 k y0 y1 y2 y3 y4 y5 y6 y7 y8 y9 y10 y11 y12 y13 y14 y15 y16) (chancerylaw3_sided.j5 (k + 1) y0 y1 y2 y3 y4 y5 y6 y7 y8 y9 y10 y11 y12 y13 y14 y15 y16))
  | 0 => ⟨fun _ _ _ _ _ _ _ r h => by simp [chancerylaw3_sided.j0] at h, fun _ _ _ _ _ _ _ r h => by simp [chancerylaw3_sided.j1] at h, fun _ _ _ _ _ _ _ _ r h => by simp [chancerylaw3_sided.l0] at h, fun _ _ _ _ _ _ _ _ _ _ _ _ r h => by simp [chancerylaw3_sided.l1] at h, fun _ _ _ _ _ _ _ _ _ _ _ _ _ _ _ r h => by simp [chancerylaw3_sided.l2] at h, fun _ _ _ _ _ _ _ _ _ _ _ _ _ _ _ _ _ r h => by simp [chancerylaw3_sided.j5] at h⟩
  | k + 1 => by
    obtain ⟨ih0, ih1, ih2, ih3, ih4, ih5⟩ := chancerylaw3_sided.mono_l k
    refine ⟨?_, ?_, ?_, ?_, ?_, ?_⟩
    · intro y0 y1 y2 y3 y4 y5 y6
      unfold chancerylaw3_sided.j0
      repeat' first
      | (with_reducible exact ih0 _ _ _ _ _ _ _)
      | (with_reducible exact ih1 _ _ _ _ _ _ _)
      | (with_reducible exact ih2 _ _ _ _ _ _ _ _)
      | (with_reducible exact ih3 _ _ _ _ _ _ _ _ _ _ _ _)
      | (with_reducible exact ih4 _ _ _ _ _ _ _ _ _ _ _ _ _ _ _)
      | (with_reducible exact ih5 _ _ _ _ _ _ _ _ _ _ _ _ _ _ _ _ _)
      | (with_reducible exact LeO.refl _)
      | (with_reducible exact LeO.none _)
      | (with_reducible refine LeO.ite ?_ ?_)
      | (with_reducible refine LeO.bind ?_ (fun _ => ?_))
      | exact ih0 _ _ _ _ _ _ _
      | exact ih1 _ _ _ _ _ _ _
      | exact ih2 _ _ _ _ _ _ _ _
      | exact ih3 _ _ _ _ _ _ _ _ _ _ _ _
      | exact ih4 _ _ _ _ _ _ _ _ _ _ _ _ _ _ _
      | exact ih5 _ _ _ _ _ _ _ _ _ _ _ _ _ _ _ _ _
      | exact LeO.none _
      | refine LeO.ite ?_ ?_
      | refine LeO.bind ?_ (fun _ => ?_)
    · intro y0 y1 y2 y3 y4 y5 y6
      unfold chancerylaw3_sided.j1
      repeat' first
      | (with_reducible exact ih0 _ _ _ _ _ _ _)
      | (with_reducible exact ih1 _ _ _ _ _ _ _)
      | (with_reducible exact ih2 _ _ _ _ _ _ _ _)
      | (with_reducible exact ih3 _ _ _ _ _ _ _ _ _ _ _ _)
      | (with_reducible exact ih4 _ _ _ _ _ _ _ _ _ _ _ _ _ _ _)
      | (with_reducible exact ih5 _ _ _ _ _ _ _ _ _ _ _ _ _ _ _ _ _)
      | (with_reducible exact LeO.refl _)
      | (with_reducible exact LeO.none _)
      | (with_reducible refine LeO.ite ?_ ?_)
      | (with_reducible refine LeO.bind ?_ (fun _ => ?_))
      | exact ih0 _ _ _ _ _ _ _
      | exact ih1 _ _ _ _ _ _ _
      | exact ih2 _ _ _ _ _ _ _ _
      | exact ih3 _ _ _ _ _ _ _ _ _ _ _ _
      | exact ih4 _ _ _ _ _ _ _ _ _ _ _ _ _ _ _
      | exact ih5 _ _ _ _ _ _ _ _ _ _ _ _ _ _ _ _ _
      | exact LeO.none _
      | refine LeO.ite ?_ ?_
      | refine LeO.bind ?_ (fun _ => ?_)
    · intro y0 y1 y2 y3 y4 y5 y6 y7
      unfold chancerylaw3_sided.l0
      repeat' first
      | (with_reducible exact ih0 _ _ _ _ _ _ _)
      | (with_reducible exact ih1 _ _ _ _ _ _ _)
      | (with_reducible exact ih2 _ _ _ _ _ _ _ _)
      | (with_reducible exact ih3 _ _ _ _ _ _ _ _ _ _ _ _)
      | (with_reducible exact ih4 _ _ _ _ _ _ _ _ _ _ _ _ _ _ _)
      | (with_reducible exact ih5 _ _ _ _ _ _ _ _ _ _ _ _ _ _ _ _ _)
      | (with_reducible exact LeO.refl _)
      | (with_reducible exact LeO.none _)
      | (with_reducible refine LeO.ite ?_ ?_)
      | (with_reducible refine LeO.bind ?_ (fun _ => ?_))
      | exact ih0 _ _ _ _ _ _ _
      | exact ih1 _ _ _ _ _ _ _
      | exact ih2 _ _ _ _ _ _ _ _
      | exact ih3 _ _ _ _ _ _ _ _ _ _ _ _
      | exact ih4 _ _ _ _ _ _ _ _ _ _ _ _ _ _ _
      | exact ih5 _ _ _ _ _ _ _ _ _ _ _ _ _ _ _ _ _
      | exact LeO.none _
      | refine LeO.ite ?_ ?_
      | refine LeO.bind ?_ (fun _ => ?_)
    · intro y0 y1 y2 y3 y4 y5 y6 y7 y8 y9 y10 y11
      unfold chancerylaw3_sided.l1
      repeat' first
      | (with_reducible exact ih0 _ _ _ _ _ _ _)
      | (with_reducible exact ih1 _ _ _ _ _ _ _)
      | (with_reducible exact ih2 _ _ _ _ _ _ _ _)
      | (with_reducible exact ih3 _ _ _ _ _ _ _ _ _ _ _ _)
      | (with_reducible exact ih4 _ _ _ _ _ _ _ _ _ _ _ _ _ _ _)
      | (with_reducible exact ih5 _ _ _ _ _ _ _ _ _ _ _ _ _ _ _ _ _)
      | (with_reducible exact LeO.refl _)
      | (with_reducible exact LeO.none _)
      | (with_reducible refine LeO.ite ?_ ?_)
      | (with_reducible refine LeO.bind ?_ (fun _ => ?_))
      | exact ih0 _ _ _ _ _ _ _
      | exact ih1 _ _ _ _ _ _ _
      | exact ih2 _ _ _ _ _ _ _ _
      | exact ih3 _ _ _ _ _ _ _ _ _ _ _ _
      | exact ih4 _ _ _ _ _ _ _ _ _ _ _ _ _ _ _
      | exact ih5 _ _ _ _ _ _ _ _ _ _ _ _ _ _ _ _ _
      | exact LeO.none _
      | refine LeO.ite ?_ ?_
      | refine LeO.bind ?_ (fun _ => ?_)
    · intro y0 y1 y2 y3 y4 y5 y6 y7 y8 y9 y10 y11 y12 y13 y14
      unfold chancerylaw3_sided.l2
      repeat' first
      | (with_reducible exact ih0 _ _ _ _ _ _ _)
      | (with_reducible exact ih1 _ _ _ _ _ _ _)
      | (with_reducible exact ih2 _ _ _ _ _ _ _ _)
      | (with_reducible exact ih3 _ _ _ _ _ _ _ _ _ _ _ _)
      | (with_reducible exact ih4 _ _ _ _ _ _ _ _ _ _ _ _ _ _ _)
      | (with_reducible exact ih5 _ _ _ _ _ _ _ _ _ _ _ _ _ _ _ _ _)
      | (with_reducible exact LeO.refl _)
      | (with_reducible exact LeO.none _)
      | (with_reducible refine LeO.ite ?_ ?_)
      | (with_reducible refine LeO.bind ?_ (fun _ => ?_))
      | exact ih0 _ _ _ _ _ _ _
      | exact ih1 _ _ _ _ _ _ _
      | exact ih2 _ _ _ _ _ _ _ _
      | exact ih3 _ _ _ _ _ _ _ _ _ _ _ _
      | exact ih4 _ _ _ _ _ _ _ _ _ _ _ _ _ _ _
      | exact ih5 _ _ _ _ _ _ _ _ _ _ _ _ _ _ _ _ _
      | exact LeO.none _
      | refine LeO.ite ?_ ?_
      | refine LeO.bind ?_ (fun _ => ?_)
    · intro y0 y1 y2 y3 y4 y5 y6 y7 y8 y9 y10 y11 y12 y13 y14 y15 y16
      unfold chancerylaw3_sided.j5
      repeat' first
      | (with_reducible exact ih0 _ _ _ _ _ _ _)
      | (with_reducible exact ih1 _ _ _ _ _ _ _)
      | (with_reducible exact ih2 _ _ _ _ _ _ _ _)
      | (with_reducible exact ih3 _ _ _ _ _ _ _ _ _ _ _ _)
      | (with_reducible exact ih4 _ _ _ _ _ _ _ _ _ _ _ _ _ _ _)
      | (with_reducible exact ih5 _ _ _ _ _ _ _ _ _ _ _ _ _ _ _ _ _)
      | (with_reducible exact LeO.refl _)
      | (with_reducible exact LeO.none _)
      | (with_reducible refine LeO.ite ?_ ?_)
      | (with_reducible refine LeO.bind ?_ (fun _ => ?_))
      | exact ih0 _ _ _ _ _ _ _
      | exact ih1 _ _ _ _ _ _ _
      | exact ih2 _ _ _ _ _ _ _ _
      | exact ih3 _ _ _ _ _ _ _ _ _ _ _ _
      | exact ih4 _ _ _ _ _ _ _ _ _ _ _ _ _ _ _
      | exact ih5 _ _ _ _ _ _ _ _ _ _ _ _ _ _ _ _ _
      | exact LeO.none _
      | refine LeO.ite ?_ ?_
      | refine LeO.bind ?_ (fun _ => ?_)
theorem chancerylaw3_sided.mono : ∀ a0 a1 a2 a3 a4 a5 k, LeO (chancerylaw3_sided.f k a0 a1 a2 a3 a4 a5) (chancerylaw3_sided.f (k + 1) a0 a1 a2 a3 a4 a5) := by
  intro a0 a1 a2 a3 a4 a5 k
  obtain ⟨ih0, ih1, ih2, ih3, ih4, ih5⟩ := chancerylaw3_sided.mono_l k
  unfold chancerylaw3_sided.f
  repeat' first
      | (with_reducible exact ih0 _ _ _ _ _ _ _)
      | (with_reducible exact ih1 _ _ _ _ _ _ _)
      | (with_reducible exact ih2 _ _ _ _ _ _ _ _)
      | (with_reducible exact ih3 _ _ _ _ _ _ _ _ _ _ _ _)
      | (with_reducible exact ih4 _ _ _ _ _ _ _ _ _ _ _ _ _ _ _)
      | (with_reducible exact ih5 _ _ _ _ _ _ _ _ _ _ _ _ _ _ _ _ _)
      | (with_reducible exact LeO.refl _)
      | (with_reducible exact LeO.none _)
      | (with_reducible refine LeO.ite ?_ ?_)
      | (with_reducible refine LeO.bind ?_ (fun _ => ?_))
      | exact ih0 _ _ _ _ _ _ _
      | exact ih1 _ _ _ _ _ _ _
      | exact ih2 _ _ _ _ _ _ _ _
      | exact ih3 _ _ _ _ _ _ _ _ _ _ _ _
      | exact ih4 _ _ _ _ _ _ _ _ _ _ _ _ _ _ _
      | exact ih5 _ _ _ _ _ _ _ _ _ _ _ _ _ _ _ _ _
      | exact LeO.none _
      | refine LeO.ite ?_ ?_
      | refine LeO.bind ?_ (fun _ => ?_)
set_option maxHeartbeats 8000000 in
set_option maxRecDepth 100000 in
theorem chancerylaw3_sided.calls (k : Nat) (A0 : Option Addr) (c0 : Nat) (l0 : List Int) (a1 : Int) (a2 : Int) (a3 : Bool) (A4 : Option Addr) (c4 : Nat) (l4 : List (List Int)) (a5 : Int) (r : Bool) (w : World) (hr0 : Kd.C (Kd.int .i64) w A0 l0.length l0) (hc0 : l0.length ≤ c0) (hr4 : Kd.C (Kd.slice 3 (Kd.int .i64)) w A4 l4.length l4) (hc4 : l4.length ≤ c4) (h : chancerylaw3_sided.f k l0 a1 a2 a3 l4 a5 = some r) :
    Calls Try.prog 28 #[.slice A0 l0.length c0, .int .i64 a1, .int .i64 a2, .bool a3, .slice A4 l4.length c4, .int .i64 a5] w fun e w' => e = .returned (.bool r) ∧ Drawn0 w w' := by
  have HR0 := Aside0.mk hr0
  have HC0 := Aside0.mk hc0
  clear hr0 hc0
  have HR4 := Aside0.mk hr4
  have HC4 := Aside0.mk hc4
  clear hr4 hc4
  have H : ((chanceryref3_In.f a1 1 8).bind fun t160 => (if t160 = true then ((chanceryref3_In.f a2 1 8).bind fun t161 => (chancerylaw3_sided.j0 k l0 a1 a2 a3 l4 a5 (!t161))) else (chancerylaw3_sided.j0 k l0 a1 a2 a3 l4 a5 true))) = some r := h
  clear h
  have HC7 := Aside0.mk H
  clear H
  go_enter Try.func28, Try.ntmps28
  go_upto_region 1 with (fail)
  go_cut [27] (fun v27 wc => ∃ (kq : Nat) (x27_6 : Bool), v27 = .bool x27_6 ∧ Aside0 (chancerylaw3_sided.j0 kq l0 a1 a2 a3 l4 a5 x27_6 = some r) ∧ Aside0 (kq ≤ k) ∧ Drawn0 w wc)
  case first =>
    have H := HC7.out
    clear HC7
    replace H := Option.bind_eq_some_iff.mp H
    obtain ⟨t160, A80, H⟩ := H
    replace H : (if t160 = true then ((chanceryref3_In.f a2 1 8).bind fun t161 => (chancerylaw3_sided.j0 k l0 a1 a2 a3 l4 a5 (!t161))) else (chancerylaw3_sided.j0 k l0 a1 a2 a3 l4 a5 true)) = some r := H
    have A8 := Aside0.mk A80
    clear A80
    by_cases c9 : t160 = true
    · subst c9
      have H1 : ((chanceryref3_In.f a2 1 8).bind fun t161 => (chancerylaw3_sided.j0 k l0 a1 a2 a3 l4 a5 (!t161))) = some r := by rw [if_pos rfl] at H; exact H
      clear H
      have H := H1
      clear H1
      replace H := Option.bind_eq_some_iff.mp H
      obtain ⟨t161, A100, H⟩ := H
      replace H : (chancerylaw3_sided.j0 k l0 a1 a2 a3 l4 a5 (!t161)) = some r := H
      have A10 := Aside0.mk A100
      clear A100
      have H' := Aside0.mk H
      clear H
      go_wp2_with (first | ((with_reducible refine gate_callee (f := 14) rfl ?_); refine goesL_ (some 21) rfl rfl Try.func14 (by kernel_rfl) rfl #[.int .i64 a1, .int .i64 1, .int .i64 8] rfl (by (try simp only [List.map_toArray, List.map_cons, List.map_nil]); first | done | rfl | (simp only [List.length_drop, List.length_take]; rfl)) ?_; (with_reducible refine (chanceryref3_In.calls a1 1 8 true _ A8.out).mono ?_); rintro e w' ⟨rfl, ⟨nd, rfl⟩⟩; refine ⟨_, rfl, ?_⟩) | (go_at_call 14; (with_reducible refine (chanceryref3_In.calls a2 1 8 t161 _ A10.out).mono ?_); rintro e w' ⟨rfl, ⟨nd, rfl⟩⟩))
      go_meet
      case rel => exact ⟨_, (!t161), (by first | rfl | (simp; done) | (simp [*]; done)), H', ⟨by first | omega | exact Nat.le_refl _⟩, by repeat (first | exact Drawn0.refl _ | apply Drawn0.step)⟩
    · replace c9 := Bool.eq_false_iff.mpr c9
      subst c9
      have H1 : (chancerylaw3_sided.j0 k l0 a1 a2 a3 l4 a5 true) = some r := by rw [if_neg (show ¬ (false = true) by decide)] at H; exact H
      clear H
      have H := H1
      clear H1
      have H' := Aside0.mk H
      clear H
      go_wp2_with (first | ((with_reducible refine gate_callee (f := 14) rfl ?_); refine goesL_ (some 21) rfl rfl Try.func14 (by kernel_rfl) rfl #[.int .i64 a1, .int .i64 1, .int .i64 8] rfl (by (try simp only [List.map_toArray, List.map_cons, List.map_nil]); first | done | rfl | (simp only [List.length_drop, List.length_take]; rfl)) ?_; (with_reducible refine (chanceryref3_In.calls a1 1 8 false _ A8.out).mono ?_); rintro e w' ⟨rfl, ⟨nd, rfl⟩⟩; refine ⟨_, rfl, ?_⟩))
      go_meet
      case rel => exact ⟨_, (true), (by first | rfl | (simp; done) | (simp [*]; done)), H', ⟨by first | omega | exact Nat.le_refl _⟩, by repeat (first | exact Drawn0.refl _ | apply Drawn0.step)⟩
  case rest =>
    clear HC7
    try clear c1
    try clear c2
    try clear p2
    try clear c4
    try clear c9
    obtain ⟨kq, x27_6, rfl, HA, HJ6, ⟨mc6, rfl⟩⟩ := hcut
    cases kq with
    | zero => exact absurd HA.out (by simp [chancerylaw3_sided.j0])
    | succ kj6 =>
      have H := HA.out
      clear HA
      simp only [chancerylaw3_sided.j0] at H
      by_cases c11 : x27_6 = true
      · subst c11
        have H1 : (if a5 = 2 then (some ((l4.length : Int) == 0)) else (some false)) = some r := by rw [if_pos rfl] at H; exact H
        clear H
        have H := H1
        clear H1
        by_cases c12 : a5 = 2
        · rw [if_pos c12] at H
          have c12b0 : (a5 == 2) = true := beq_iff_eq.mpr c12
          have c12b1 : (a5 != 2) = false := bne_eq_false_iff_eq.mpr c12
          clear c12
          obtain rfl := Option.some.inj H
          go_wp2
          go_ret
          exact ⟨by first | rfl | (simp; done) | (simp [*]; done), by repeat (first | exact Drawn0.refl _ | apply Drawn0.step)⟩
        · rw [if_neg c12] at H
          have c12b0 : (a5 == 2) = false := beq_eq_false_iff_ne.mpr c12
          have c12b1 : (a5 != 2) = true := bne_iff_ne.mpr c12
          obtain rfl := Option.some.inj H
          go_wp2
          go_ret
          exact ⟨by first | rfl | (simp; done) | (simp [*]; done), by repeat (first | exact Drawn0.refl _ | apply Drawn0.step)⟩
      · replace c11 := Bool.eq_false_iff.mpr c11
        subst c11
        have H1 : (if a5 = 0 then (if (wrap64 (a1 * a2)) = 0 then (none) else (chancerylaw3_sided.j1 kj6 l0 a1 a2 a3 l4 (wrap64 (a1 * a2)) ((l4.length : Int) != (wrap64 (Int.tdiv (wrap64 ((wrap64 ((l0.length : Int) + (wrap64 (a1 * a2)))) - 1)) (wrap64 (a1 * a2))))))) else (chancerylaw3_sided.j1 kj6 l0 a1 a2 a3 l4 (wrap64 (a1 * a2)) true)) = some r := by rw [if_neg (show ¬ (false = true) by decide)] at H; exact H
        clear H
        have H := H1
        clear H1
        have HC13 := Aside0.mk H
        clear H
        go_upto_region 4 with (fail)
        go_cut [51] (fun v51 wc => ∃ (kq : Nat) (x51_12 : Bool), v51 = .bool x51_12 ∧ Aside0 (chancerylaw3_sided.j1 kq l0 a1 a2 a3 l4 (wrap64 (a1 * a2)) x51_12 = some r) ∧ Aside0 (kq ≤ kj6) ∧ Drawn0 w wc)
        case first =>
          have H := HC13.out
          clear HC13
          by_cases c14 : a5 = 0
          · rw [if_pos c14] at H
            have c14b0 : (a5 == 0) = true := beq_iff_eq.mpr c14
            have c14b1 : (a5 != 0) = false := bne_eq_false_iff_eq.mpr c14
            clear c14
            (first | rw [c14b0] | (simp only [i64_w, i32_w]; rw [c14b0]) | skip)
            by_cases c15 : (wrap64 (a1 * a2)) = 0
            · rw [if_pos c15] at H
              exact absurd H (by simp)
            · rw [if_neg c15] at H
              have c15b0 : ((wrap64 (a1 * a2)) == 0) = false := beq_eq_false_iff_ne.mpr c15
              have c15b1 : ((wrap64 (a1 * a2)) != 0) = true := bne_iff_ne.mpr c15
              have H' := Aside0.mk H
              clear H
              go_wp2
              go_meet
              case rel => exact ⟨_, (((l4.length : Int) != (wrap64 (Int.tdiv (wrap64 ((wrap64 ((l0.length : Int) + (wrap64 (a1 * a2)))) - 1)) (wrap64 (a1 * a2)))))), (by first | rfl | (simp; done) | (simp [*]; done)), H', ⟨by have := HJ6.out; first | omega | exact Nat.le_refl _⟩, by repeat (first | exact Drawn0.refl _ | apply Drawn0.step)⟩
          · rw [if_neg c14] at H
            have c14b0 : (a5 == 0) = false := beq_eq_false_iff_ne.mpr c14
            have c14b1 : (a5 != 0) = true := bne_iff_ne.mpr c14
            (first | rw [c14b0] | (simp only [i64_w, i32_w]; rw [c14b0]) | skip)
            have H' := Aside0.mk H
            clear H
            go_wp2
            go_meet
            case rel => exact ⟨_, (true), (by first | rfl | (simp; done) | (simp [*]; done)), H', ⟨by have := HJ6.out; first | omega | exact Nat.le_refl _⟩, by repeat (first | exact Drawn0.refl _ | apply Drawn0.step)⟩
        case rest =>
          clear HC13
          try clear c1
          try clear c2
          try clear p2
          try clear c4
          try clear c6
          try clear p6
          try clear c9
          try clear c11
          try clear c12
          try clear c12b0
          try clear c12b1
          try clear c14
          try clear c14b0
          try clear c14b1
          try clear c15
          try clear c15b0
          try clear c15b1
          try clear p2
          obtain ⟨kq, x51_12, rfl, HA, HJ12, ⟨mc12, rfl⟩⟩ := hcut
          cases kq with
          | zero => exact absurd HA.out (by simp [chancerylaw3_sided.j1])
          | succ kj12 =>
            have H := HA.out
            clear HA
            simp only [chancerylaw3_sided.j1] at H
            by_cases c16 : x51_12 = true
            · subst c16
              have H1 : (some false) = some r := by rw [if_pos rfl] at H; exact H
              clear H
              have H := H1
              clear H1
              obtain rfl := Option.some.inj H
              go_wp2
              go_ret
              exact ⟨by first | rfl | (simp; done) | (simp [*]; done), by repeat (first | exact Drawn0.refl _ | apply Drawn0.step)⟩
            · replace c16 := Bool.eq_false_iff.mpr c16
              subst c16
              have H1 : (chancerylaw3_sided.l0 kj12 l0 a1 a2 a3 (wrap64 (a1 * a2)) l4 (l4.length : Int) 0) = some r := by rw [if_neg (show ¬ (false = true) by decide)] at H; exact H
              clear H
              have H := H1
              clear H1
              have H' := Aside0.mk H
              clear H
              go_wp2
              go_loopg [54] kj12 (fun kq v54 w' => ∃ (x54_3 : Int), v54 = .int .i64 x54_3 ∧ Aside0 (chancerylaw3_sided.l0 kq l0 a1 a2 a3 (wrap64 (a1 * a2)) l4 (l4.length : Int) x54_3 = some r) ∧ Aside0 (kq ≤ kj12) ∧ Drawn0 w w')
              case atStart => exact ⟨(0), (by first | rfl | (simp; done) | (simp [*]; done)), H', ⟨Nat.le_refl _⟩, by repeat (first | exact Drawn0.refl _ | apply Drawn0.step)⟩
              case round =>
                clear H'
                try clear c1
                try clear c2
                try clear p2
                try clear c4
                try clear c6
                try clear p6
                try clear c9
                try clear c11
                try clear c12
                try clear c12b0
                try clear c12b1
                try clear c14
                try clear c14b0
                try clear c14b1
                try clear c15
                try clear c15b0
                try clear c15b1
                try clear c16
                try clear p2
                try clear p6
                obtain ⟨x54_3, rfl, HA, HK3, ⟨m3, rfl⟩⟩ := hrel
                cases gk with
                | zero => exact absurd HA.out (by simp [chancerylaw3_sided.l0])
                | succ k3 =>
                  have H := HA.out
                  clear HA
                  simp only [chancerylaw3_sided.l0] at H
                  by_cases c17 : x54_3 < (l4.length : Int)
                  · rw [if_pos c17] at H
                    have c17b0 : decide (x54_3 < (l4.length : Int)) = true := decide_eq_true c17
                    clear c17
                    by_cases c18 : 0 ≤ x54_3
                    · rw [if_pos c18] at H
                      have c18b0 : decide (0 ≤ x54_3) = true := decide_eq_true c18
                      clear c18
                      by_cases c19 : x54_3 < (l4.length : Int)
                      · rw [if_pos c19] at H
                        have c19b0 : decide (x54_3 < (l4.length : Int)) = true := decide_eq_true c19
                        clear c19
                        by_cases c20 : ((rd_L1 l4 x54_3).length : Int) = (wrap64 (a1 * a2))
                        · rw [if_pos c20] at H
                          have c20b0 : (((rd_L1 l4 x54_3).length : Int) == (wrap64 (a1 * a2))) = true := beq_iff_eq.mpr c20
                          have c20b1 : (((rd_L1 l4 x54_3).length : Int) != (wrap64 (a1 * a2))) = false := bne_eq_false_iff_eq.mpr c20
                          clear c20
                          have H' := Aside0.mk H
                          clear H
                          have p162 : 0 ≤ (x54_3 : Int) := of_decide_eq_true (by first | (with_reducible assumption) | assumption)
                          have q162 : x54_3 < (l4.length : Int) := of_decide_eq_true (by first | (with_reducible assumption) | assumption)
                          obtain ⟨ad162, A162_0, c162_0, e162, hx162_0, hl162_0, hi162_0⟩ := at_L1 HR4.out x54_3 p162 q162
                          cases e162
                          have HR162_0 := Aside0.mk hi162_0
                          have HC162_0 := Aside0.mk hl162_0
                          clear hi162_0 hl162_0
                          replace p162 := eq_true p162
                          replace q162 := eq_true q162
                          go_wp2
                          go_loopg [64] k3 (fun kq v64 w' => ∃ (x64_4 : Int), v64 = .int .i64 x64_4 ∧ Aside0 (chancerylaw3_sided.l1 kq l0 a1 a2 a3 (wrap64 (a1 * a2)) x54_3 (rd_L1 l4 x54_3) l4 (l4.length : Int) x54_3 a1 x64_4 = some r) ∧ Aside0 (kq ≤ k3) ∧ Drawn0 w w')
                          case atStart => exact ⟨(0), (by first | rfl | (simp; done) | (simp [*]; done)), H', ⟨Nat.le_refl _⟩, by repeat (first | exact Drawn0.refl _ | apply Drawn0.step)⟩
                          case round =>
                            clear H'
                            try clear c1
                            try clear p1
                            try clear q1
                            try clear hx1
                            try clear c2
                            try clear p2
                            try clear c4
                            try clear c6
                            try clear p6
                            try clear c9
                            try clear c11
                            try clear c12
                            try clear c12b0
                            try clear c12b1
                            try clear c14
                            try clear c14b0
                            try clear c14b1
                            try clear c15
                            try clear c15b0
                            try clear c15b1
                            try clear c16
                            try clear p16
                            try clear q16
                            try clear hx16
                            try clear c17
                            try clear c17b0
                            try clear c18
                            try clear c18b0
                            try clear c19
                            try clear c19b0
                            try clear c20
                            try clear c20b0
                            try clear c20b1
                            try clear hx162_0
                            try clear p162
                            try clear p2
                            try clear p6
                            try clear q162
                            obtain ⟨x64_4, rfl, HA, HK4, ⟨m4, rfl⟩⟩ := hrel
                            cases gk with
                            | zero => exact absurd HA.out (by simp [chancerylaw3_sided.l1])
                            | succ k4 =>
                              have H := HA.out
                              clear HA
                              simp only [chancerylaw3_sided.l1] at H
                              by_cases c21 : x64_4 < a1
                              · rw [if_pos c21] at H
                                have c21b0 : decide (x64_4 < a1) = true := decide_eq_true c21
                                clear c21
                                have H' := Aside0.mk H
                                clear H
                                go_wp2
                                go_loopg [68] k4 (fun kq v68 w' => ∃ (x68_5 : Int), v68 = .int .i64 x68_5 ∧ Aside0 (chancerylaw3_sided.l2 kq l0 a1 a2 a3 (wrap64 (a1 * a2)) x54_3 (rd_L1 l4 x54_3) x64_4 l4 (l4.length : Int) x54_3 a1 x64_4 a2 x68_5 = some r) ∧ Aside0 (kq ≤ k4) ∧ Drawn0 w w')
                                case atStart => exact ⟨(0), (by first | rfl | (simp; done) | (simp [*]; done)), H', ⟨Nat.le_refl _⟩, by repeat (first | exact Drawn0.refl _ | apply Drawn0.step)⟩
                                case round =>
                                  clear H'
                                  try clear c1
                                  try clear p1
                                  try clear q1
                                  try clear hx1
                                  try clear c2
                                  try clear p2
                                  try clear c4
                                  try clear c6
                                  try clear p6
                                  try clear c9
                                  try clear c11
                                  try clear c12
                                  try clear c12b0
                                  try clear c12b1
                                  try clear c14
                                  try clear c14b0
                                  try clear c14b1
                                  try clear c15
                                  try clear c15b0
                                  try clear c15b1
                                  try clear c16
                                  try clear p16
                                  try clear q16
                                  try clear hx16
                                  try clear c17
                                  try clear c17b0
                                  try clear c18
                                  try clear c18b0
                                  try clear c19
                                  try clear c19b0
                                  try clear c20
                                  try clear c20b0
                                  try clear c20b1
                                  try clear c21
                                  try clear c21b0
                                  try clear hx162_0
                                  try clear p1
                                  try clear p16
                                  try clear p162
                                  try clear p2
                                  try clear p6
                                  try clear q1
                                  try clear q16
                                  try clear q162
                                  obtain ⟨x68_5, rfl, HA, HK5, ⟨m5, rfl⟩⟩ := hrel
                                  cases gk with
                                  | zero => exact absurd HA.out (by simp [chancerylaw3_sided.l2])
                                  | succ k5 =>
                                    have H := HA.out
                                    clear HA
                                    simp only [chancerylaw3_sided.l2] at H
                                    by_cases c22 : x68_5 < a2
                                    · rw [if_pos c22] at H
                                      have c22b0 : decide (x68_5 < a2) = true := decide_eq_true c22
                                      clear c22
                                      have HC23 := Aside0.mk H
                                      clear H
                                      go_upto_if 80 with (fail)
                                      go_cut [18] (fun v18 wc => ∃ (kq : Nat) (x18_22 : Int), v18 = .int .i64 x18_22 ∧ Aside0 (chancerylaw3_sided.j5 kq l0 a1 a2 a3 (wrap64 (a1 * a2)) x54_3 (rd_L1 l4 x54_3) x64_4 x68_5 x18_22 l4 (l4.length : Int) x54_3 a1 x64_4 a2 x68_5 = some r) ∧ Aside0 (kq ≤ k5) ∧ Drawn0 w wc)
                                      case first =>
                                        have H := HC23.out
                                        clear HC23
                                        by_cases c24 : a3 = true
                                        · subst c24
                                          have H1 : (chancerylaw3_sided.j5 k5 l0 a1 a2 true (wrap64 (a1 * a2)) x54_3 (rd_L1 l4 x54_3) x64_4 x68_5 (wrap64 ((wrap64 ((wrap64 (x54_3 * (wrap64 (a1 * a2)))) + (wrap64 (x68_5 * a1)))) + x64_4)) l4 (l4.length : Int) x54_3 a1 x64_4 a2 x68_5) = some r := by rw [if_pos rfl] at H; exact H
                                          clear H
                                          have H := H1
                                          clear H1
                                          have H' := Aside0.mk H
                                          clear H
                                          go_wp2
                                          go_meet
                                          case rel => exact ⟨_, (wrap64 ((wrap64 ((wrap64 (x54_3 * (wrap64 (a1 * a2)))) + (wrap64 (x68_5 * a1)))) + x64_4)), (by first | rfl | (simp; done) | (simp [*]; done)), H', ⟨by have := HJ6.out; have := HJ12.out; have := HK3.out; have := HK4.out; have := HK5.out; first | omega | exact Nat.le_refl _⟩, by repeat (first | exact Drawn0.refl _ | apply Drawn0.step)⟩
                                        · replace c24 := Bool.eq_false_iff.mpr c24
                                          subst c24
                                          have H1 : (chancerylaw3_sided.j5 k5 l0 a1 a2 false (wrap64 (a1 * a2)) x54_3 (rd_L1 l4 x54_3) x64_4 x68_5 (wrap64 ((wrap64 ((wrap64 (x54_3 * (wrap64 (a1 * a2)))) + (wrap64 (x64_4 * a2)))) + x68_5)) l4 (l4.length : Int) x54_3 a1 x64_4 a2 x68_5) = some r := by rw [if_neg (show ¬ (false = true) by decide)] at H; exact H
                                          clear H
                                          have H := H1
                                          clear H1
                                          have H' := Aside0.mk H
                                          clear H
                                          go_wp2
                                          go_meet
                                          case rel => exact ⟨_, (wrap64 ((wrap64 ((wrap64 (x54_3 * (wrap64 (a1 * a2)))) + (wrap64 (x64_4 * a2)))) + x68_5)), (by first | rfl | (simp; done) | (simp [*]; done)), H', ⟨by have := HJ6.out; have := HJ12.out; have := HK3.out; have := HK4.out; have := HK5.out; first | omega | exact Nat.le_refl _⟩, by repeat (first | exact Drawn0.refl _ | apply Drawn0.step)⟩
                                      case rest =>
                                        clear HC23
                                        try clear c1
                                        try clear p1
                                        try clear q1
                                        try clear hx1
                                        try clear c2
                                        try clear p2
                                        try clear c4
                                        try clear c6
                                        try clear p6
                                        try clear c9
                                        try clear c11
                                        try clear c12
                                        try clear c12b0
                                        try clear c12b1
                                        try clear c14
                                        try clear c14b0
                                        try clear c14b1
                                        try clear c15
                                        try clear c15b0
                                        try clear c15b1
                                        try clear c16
                                        try clear p16
                                        try clear q16
                                        try clear hx16
                                        try clear c17
                                        try clear c17b0
                                        try clear c18
                                        try clear c18b0
                                        try clear c19
                                        try clear c19b0
                                        try clear c20
                                        try clear c20b0
                                        try clear c20b1
                                        try clear c21
                                        try clear c21b0
                                        try clear c22
                                        try clear c22b0
                                        try clear c24
                                        try clear hx162_0
                                        try clear p1
                                        try clear p16
                                        try clear p162
                                        try clear p2
                                        try clear p6
                                        try clear q1
                                        try clear q16
                                        try clear q162
                                        obtain ⟨kq, x18_22, rfl, HA, HJ22, ⟨mc22, rfl⟩⟩ := hcut
                                        cases kq with
                                        | zero => exact absurd HA.out (by simp [chancerylaw3_sided.j5])
                                        | succ kj22 =>
                                          have H := HA.out
                                          clear HA
                                          simp only [chancerylaw3_sided.j5] at H
                                          by_cases c25 : x18_22 < (l0.length : Int)
                                          · rw [if_pos c25] at H
                                            have c25b0 : decide (x18_22 < (l0.length : Int)) = true := decide_eq_true c25
                                            clear c25
                                            by_cases c26 : 0 ≤ x18_22
                                            · rw [if_pos c26] at H
                                              have c26b0 : decide (0 ≤ x18_22) = true := decide_eq_true c26
                                              clear c26
                                              obtain ⟨ji27, hji27⟩ : ∃ j_ : Int, (wrap64 ((wrap64 (x64_4 * a2)) + x68_5)) = j_ := ⟨_, rfl⟩
                                              replace H : (if 0 ≤ (ji27) then (if (ji27) < ((rd_L1 l4 x54_3).length : Int) then (if (rd (rd_L1 l4 x54_3) (ji27)) = (rd l0 x18_22) then (chancerylaw3_sided.l2 kj22 l0 a1 a2 a3 (wrap64 (a1 * a2)) x54_3 (rd_L1 l4 x54_3) x64_4 l4 (l4.length : Int) x54_3 a1 x64_4 a2 (wrap64 (x68_5 + 1))) else (some false)) else (none)) else (none)) = some r := by first | (rw [hji27] at H; exact H) | (simp only [hji27] at H ⊢; exact H)
                                              have hji27w : (IntKind.i64.wrap ((wrap64 (x64_4 * a2)) + x68_5)) = ji27 := (i64_w _).trans hji27
                                              by_cases c28 : 0 ≤ (ji27)
                                              · rw [if_pos c28] at H
                                                have c28b0 : decide (0 ≤ (ji27)) = true := decide_eq_true c28
                                                clear c28
                                                by_cases c29 : (ji27) < ((rd_L1 l4 x54_3).length : Int)
                                                · rw [if_pos c29] at H
                                                  have c29b0 : decide ((ji27) < ((rd_L1 l4 x54_3).length : Int)) = true := decide_eq_true c29
                                                  clear c29
                                                  by_cases c30 : (rd (rd_L1 l4 x54_3) (ji27)) = (rd l0 x18_22)
                                                  · rw [if_pos c30] at H
                                                    have c30b0 : ((rd (rd_L1 l4 x54_3) (ji27)) == (rd l0 x18_22)) = true := beq_iff_eq.mpr c30
                                                    have c30b1 : ((rd (rd_L1 l4 x54_3) (ji27)) != (rd l0 x18_22)) = false := bne_eq_false_iff_eq.mpr c30
                                                    clear c30
                                                    have H' := Aside0.mk H
                                                    clear H
                                                    have p163 : 0 ≤ (x18_22 : Int) := of_decide_eq_true (by first | (with_reducible assumption) | assumption)
                                                    have q163 : x18_22 < (l0.length : Int) := of_decide_eq_true (by first | (with_reducible assumption) | assumption)
                                                    obtain ⟨ad163, e163, hx163_0⟩ := Kd.at_int HR0.out x18_22 p163 q163
                                                    cases e163
                                                    replace p163 := eq_true p163
                                                    replace q163 := eq_true q163
                                                    have p164 : 0 ≤ ((ji27) : Int) := of_decide_eq_true (by first | (with_reducible assumption) | assumption)
                                                    have q164 : (ji27) < ((rd_L1 l4 x54_3).length : Int) := of_decide_eq_true (by first | (with_reducible assumption) | assumption)
                                                    obtain ⟨ad164, e164, hx164_0⟩ := Kd.at_int HR162_0.out (ji27) p164 q164
                                                    cases e164
                                                    replace p164 := eq_true p164
                                                    replace q164 := eq_true q164
                                                    go_wp2
                                                    go_roundg kj22
                                                    case measure => have := HJ6.out; have := HJ12.out; have := HK3.out; have := HK4.out; have := HK5.out; have := HJ22.out; omega
                                                    case rel => exact ⟨(wrap64 (x68_5 + 1)), (by first | rfl | (simp; done) | (simp [*]; done)), H', ⟨by have := HJ6.out; have := HJ12.out; have := HK3.out; have := HK4.out; have := HK5.out; have := HJ22.out; omega⟩, by repeat (first | exact Drawn0.refl _ | apply Drawn0.step)⟩
                                                  · rw [if_neg c30] at H
                                                    have c30b0 : ((rd (rd_L1 l4 x54_3) (ji27)) == (rd l0 x18_22)) = false := beq_eq_false_iff_ne.mpr c30
                                                    have c30b1 : ((rd (rd_L1 l4 x54_3) (ji27)) != (rd l0 x18_22)) = true := bne_iff_ne.mpr c30
                                                    obtain rfl := Option.some.inj H
                                                    have p163 : 0 ≤ (x18_22 : Int) := of_decide_eq_true (by first | (with_reducible assumption) | assumption)
                                                    have q163 : x18_22 < (l0.length : Int) := of_decide_eq_true (by first | (with_reducible assumption) | assumption)
                                                    obtain ⟨ad163, e163, hx163_0⟩ := Kd.at_int HR0.out x18_22 p163 q163
                                                    cases e163
                                                    replace p163 := eq_true p163
                                                    replace q163 := eq_true q163
                                                    have p164 : 0 ≤ ((ji27) : Int) := of_decide_eq_true (by first | (with_reducible assumption) | assumption)
                                                    have q164 : (ji27) < ((rd_L1 l4 x54_3).length : Int) := of_decide_eq_true (by first | (with_reducible assumption) | assumption)
                                                    obtain ⟨ad164, e164, hx164_0⟩ := Kd.at_int HR162_0.out (ji27) p164 q164
                                                    cases e164
                                                    replace p164 := eq_true p164
                                                    replace q164 := eq_true q164
                                                    go_wp2
                                                    go_ret
                                                    exact ⟨by first | rfl | (simp; done) | (simp only [← hji27] <;> (first | rfl | simp)) | (simp [*]; done), by repeat (first | exact Drawn0.refl _ | apply Drawn0.step)⟩
                                                · rw [if_neg c29] at H
                                                  exact absurd H (by simp)
                                              · rw [if_neg c28] at H
                                                exact absurd H (by simp)
                                            · rw [if_neg c26] at H
                                              exact absurd H (by simp)
                                          · rw [if_neg c25] at H
                                            have c25b0 : decide (x18_22 < (l0.length : Int)) = false := decide_eq_false c25
                                            clear c25
                                            obtain ⟨ji31, hji31⟩ : ∃ j_ : Int, (wrap64 ((wrap64 (x64_4 * a2)) + x68_5)) = j_ := ⟨_, rfl⟩
                                            replace H : (if 0 ≤ (ji31) then (if (ji31) < ((rd_L1 l4 x54_3).length : Int) then (if (rd (rd_L1 l4 x54_3) (ji31)) = 0 then (chancerylaw3_sided.l2 kj22 l0 a1 a2 a3 (wrap64 (a1 * a2)) x54_3 (rd_L1 l4 x54_3) x64_4 l4 (l4.length : Int) x54_3 a1 x64_4 a2 (wrap64 (x68_5 + 1))) else (some false)) else (none)) else (none)) = some r := by first | (rw [hji31] at H; exact H) | (simp only [hji31] at H ⊢; exact H)
                                            have hji31w : (IntKind.i64.wrap ((wrap64 (x64_4 * a2)) + x68_5)) = ji31 := (i64_w _).trans hji31
                                            by_cases c32 : 0 ≤ (ji31)
                                            · rw [if_pos c32] at H
                                              have c32b0 : decide (0 ≤ (ji31)) = true := decide_eq_true c32
                                              clear c32
                                              by_cases c33 : (ji31) < ((rd_L1 l4 x54_3).length : Int)
                                              · rw [if_pos c33] at H
                                                have c33b0 : decide ((ji31) < ((rd_L1 l4 x54_3).length : Int)) = true := decide_eq_true c33
                                                clear c33
                                                by_cases c34 : (rd (rd_L1 l4 x54_3) (ji31)) = 0
                                                · rw [if_pos c34] at H
                                                  have c34b0 : ((rd (rd_L1 l4 x54_3) (ji31)) == 0) = true := beq_iff_eq.mpr c34
                                                  have c34b1 : ((rd (rd_L1 l4 x54_3) (ji31)) != 0) = false := bne_eq_false_iff_eq.mpr c34
                                                  clear c34
                                                  have H' := Aside0.mk H
                                                  clear H
                                                  have p165 : 0 ≤ ((ji31) : Int) := of_decide_eq_true (by first | (with_reducible assumption) | assumption)
                                                  have q165 : (ji31) < ((rd_L1 l4 x54_3).length : Int) := of_decide_eq_true (by first | (with_reducible assumption) | assumption)
                                                  obtain ⟨ad165, e165, hx165_0⟩ := Kd.at_int HR162_0.out (ji31) p165 q165
                                                  cases e165
                                                  replace p165 := eq_true p165
                                                  replace q165 := eq_true q165
                                                  go_wp2
                                                  go_roundg kj22
                                                  case measure => have := HJ6.out; have := HJ12.out; have := HK3.out; have := HK4.out; have := HK5.out; have := HJ22.out; omega
                                                  case rel => exact ⟨(wrap64 (x68_5 + 1)), (by first | rfl | (simp; done) | (simp [*]; done)), H', ⟨by have := HJ6.out; have := HJ12.out; have := HK3.out; have := HK4.out; have := HK5.out; have := HJ22.out; omega⟩, by repeat (first | exact Drawn0.refl _ | apply Drawn0.step)⟩
                                                · rw [if_neg c34] at H
                                                  have c34b0 : ((rd (rd_L1 l4 x54_3) (ji31)) == 0) = false := beq_eq_false_iff_ne.mpr c34
                                                  have c34b1 : ((rd (rd_L1 l4 x54_3) (ji31)) != 0) = true := bne_iff_ne.mpr c34
                                                  obtain rfl := Option.some.inj H
                                                  have p165 : 0 ≤ ((ji31) : Int) := of_decide_eq_true (by first | (with_reducible assumption) | assumption)
                                                  have q165 : (ji31) < ((rd_L1 l4 x54_3).length : Int) := of_decide_eq_true (by first | (with_reducible assumption) | assumption)
                                                  obtain ⟨ad165, e165, hx165_0⟩ := Kd.at_int HR162_0.out (ji31) p165 q165
                                                  cases e165
                                                  replace p165 := eq_true p165
                                                  replace q165 := eq_true q165
                                                  go_wp2
                                                  go_ret
                                                  exact ⟨by first | rfl | (simp; done) | (simp only [← hji31] <;> (first | rfl | simp)) | (simp [*]; done), by repeat (first | exact Drawn0.refl _ | apply Drawn0.step)⟩
                                              · rw [if_neg c33] at H
                                                exact absurd H (by simp)
                                            · rw [if_neg c32] at H
                                              exact absurd H (by simp)
                                    · rw [if_neg c22] at H
                                      have c22b0 : decide (x68_5 < a2) = false := decide_eq_false c22
                                      clear c22
                                      have H' := Aside0.mk H
                                      clear H
                                      go_wp2
                                      go_roundg k5
                                      case measure => have := HJ6.out; have := HJ12.out; have := HK3.out; have := HK4.out; have := HK5.out; omega
                                      case rel => exact ⟨(wrap64 (x64_4 + 1)), (by first | rfl | (simp; done) | (simp [*]; done)), H', ⟨by have := HJ6.out; have := HJ12.out; have := HK3.out; have := HK4.out; have := HK5.out; omega⟩, by repeat (first | exact Drawn0.refl _ | apply Drawn0.step)⟩
                              · rw [if_neg c21] at H
                                have c21b0 : decide (x64_4 < a1) = false := decide_eq_false c21
                                clear c21
                                have H' := Aside0.mk H
                                clear H
                                go_wp2
                                go_roundg k4
                                case measure => have := HJ6.out; have := HJ12.out; have := HK3.out; have := HK4.out; omega
                                case rel => exact ⟨(wrap64 (x54_3 + 1)), (by first | rfl | (simp; done) | (simp [*]; done)), H', ⟨by have := HJ6.out; have := HJ12.out; have := HK3.out; have := HK4.out; omega⟩, by repeat (first | exact Drawn0.refl _ | apply Drawn0.step)⟩
                        · rw [if_neg c20] at H
                          have c20b0 : (((rd_L1 l4 x54_3).length : Int) == (wrap64 (a1 * a2))) = false := beq_eq_false_iff_ne.mpr c20
                          have c20b1 : (((rd_L1 l4 x54_3).length : Int) != (wrap64 (a1 * a2))) = true := bne_iff_ne.mpr c20
                          obtain rfl := Option.some.inj H
                          have p162 : 0 ≤ (x54_3 : Int) := of_decide_eq_true (by first | (with_reducible assumption) | assumption)
                          have q162 : x54_3 < (l4.length : Int) := of_decide_eq_true (by first | (with_reducible assumption) | assumption)
                          obtain ⟨ad162, A162_0, c162_0, e162, hx162_0, hl162_0, hi162_0⟩ := at_L1 HR4.out x54_3 p162 q162
                          cases e162
                          have HR162_0 := Aside0.mk hi162_0
                          have HC162_0 := Aside0.mk hl162_0
                          clear hi162_0 hl162_0
                          replace p162 := eq_true p162
                          replace q162 := eq_true q162
                          go_wp2
                          go_ret
                          exact ⟨by first | rfl | (simp; done) | (simp [*]; done), by repeat (first | exact Drawn0.refl _ | apply Drawn0.step)⟩
                      · rw [if_neg c19] at H
                        exact absurd H (by simp)
                    · rw [if_neg c18] at H
                      exact absurd H (by simp)
                  · rw [if_neg c17] at H
                    have c17b0 : decide (x54_3 < (l4.length : Int)) = false := decide_eq_false c17
                    clear c17
                    obtain rfl := Option.some.inj H
                    go_wp2
                    go_ret
                    exact ⟨by first | rfl | (simp; done) | (simp [*]; done), by repeat (first | exact Drawn0.refl _ | apply Drawn0.step)⟩

end Go.Proofs.Ytihmbddneapooaa.QPO
