/- What printing.Place answers, told in plain numbers, and that the Go function answers so: the walks of the text beside put together. No condition. -/
import Derived.Test.YtihmbddneapooaaHandPP
namespace Go.Proofs.Ytihmbddneapooaa.HandPP
open Go.RowKit Go.Proofs.YtihmbddneapooaaW.PrintWords Go.Proofs.YtihmbddneapooaaW.PrintLast Go.Proofs.YtihmbddneapooaaW.PrintMore
def one (x : Int) : Int := if x < 1 then 1 else x
/-- How wide and high a page stands in a part of width w and height h. -/
def dims (pw ph w h : Int) : Int × Int :=
  if w < pw then (if h * pw < w * ph then (one (pw * h / ph), h) else (w, one (ph * w / pw)))
  else if h < ph then (one (pw * h / ph), h) else (pw, ph)
def Ok (x : Int) : Prop := 0 ≤ x ∧ x ≤ 31680
instance (x : Int) : Decidable (Ok x) := by unfold Ok; infer_instance
def placeS (pw ph x0 y0 x1 y1 : Int) : Int × Int × Int × Int × Int :=
  if ¬ (Ok x0 ∧ Ok y0 ∧ Ok x1 ∧ Ok y1 ∧ (1 ≤ pw ∧ pw ≤ 31680) ∧ (1 ≤ ph ∧ ph ≤ 31680)) then (0, 0, 0, 0, 2)
  else if x1 - x0 < 1 ∨ y1 - y0 < 1 then (0, 0, 0, 0, 5)
  else (x0 + (x1 - x0 - (dims pw ph (x1 - x0) (y1 - y0)).1) / 2, y0 + (y1 - y0 - (dims pw ph (x1 - x0) (y1 - y0)).2) / 2,
    x0 + (x1 - x0 - (dims pw ph (x1 - x0) (y1 - y0)).1) / 2 + (dims pw ph (x1 - x0) (y1 - y0)).1, y0 + (y1 - y0 - (dims pw ph (x1 - x0) (y1 - y0)).2) / 2 + (dims pw ph (x1 - x0) (y1 - y0)).2, 0)
def printing_Place.f (a0 a1 a2_0 a2_1 a2_2 a2_3 : Int) : Option (Int × Int × Int × Int × Int) := some (placeS a0 a1 a2_0 a2_1 a2_2 a2_3)
/-- A quotient that is not greater than a bound. -/
theorem quot_le {a b c : Int} (hb : 1 ≤ b) (h : a ≤ c * b) : a / b ≤ c := by
  have : a / b < c + 1 := (Int.ediv_lt_iff_lt_mul (by omega)).2 (by rw [Int.add_mul]; omega)
  omega
theorem quot_nn {a b : Int} (ha : 0 ≤ a) (hb : 1 ≤ b) : 0 ≤ a / b := Int.ediv_nonneg ha (by omega)
theorem quot_self {a b : Int} (ha : 1 ≤ a) : a * b / a = b := Int.mul_ediv_cancel_left _ (by omega)
abbrev Ans (pw ph x0 y0 x1 y1 : Int) (w : World) (r : Int × Int × Int × Int × Int) : Prop :=
  Calls Try.prog 13 #[.int .i64 pw, .int .i64 ph, .agg #[.int .i64 x0, .int .i64 y0, .int .i64 x1, .int .i64 y1]] w fun e w' => e = .returned (.tuple #[.agg #[.int .i64 r.1, .int .i64 r.2.1, .int .i64 r.2.2.1, .int .i64 r.2.2.2.1], .int .i64 r.2.2.2.2]) ∧ Below w.heap.size w w'
theorem place_any (pw ph x0 y0 x1 y1 : Int) (w : World) : Ans pw ph x0 y0 x1 y1 w (placeS pw ph x0 y0 x1 y1) := by
  by_cases g0 : Ok x0
  case neg =>
    rw [show placeS pw ph x0 y0 x1 y1 = (0, 0, 0, 0, 2) by unfold placeS; rw [if_pos (fun h => g0 h.1)]]
    unfold Ok at g0
    by_cases l : x0 < 0
    · exact err_x0_low pw ph x0 y0 x1 y1 w l
    · exact err_x0_high pw ph x0 y0 x1 y1 w (by omega) (by omega)
  by_cases g1 : Ok y0
  case neg =>
    rw [show placeS pw ph x0 y0 x1 y1 = (0, 0, 0, 0, 2) by unfold placeS; rw [if_pos (fun h => g1 h.2.1)]]
    unfold Ok at g0 g1
    by_cases l : y0 < 0
    · exact err_y0_low pw ph x0 y0 x1 y1 w (by omega) (by omega) l
    · exact err_y0_high pw ph x0 y0 x1 y1 w (by omega) (by omega) (by omega) (by omega)
  by_cases g2 : Ok x1
  case neg =>
    rw [show placeS pw ph x0 y0 x1 y1 = (0, 0, 0, 0, 2) by unfold placeS; rw [if_pos (fun h => g2 h.2.2.1)]]
    unfold Ok at g0 g1 g2
    by_cases l : x1 < 0
    · exact err_x1_low pw ph x0 y0 x1 y1 w (by omega) (by omega) (by omega) (by omega) l
    · exact err_x1_high pw ph x0 y0 x1 y1 w (by omega) (by omega) (by omega) (by omega) (by omega) (by omega)
  by_cases g3 : Ok y1
  case neg =>
    rw [show placeS pw ph x0 y0 x1 y1 = (0, 0, 0, 0, 2) by unfold placeS; rw [if_pos (fun h => g3 h.2.2.2.1)]]
    unfold Ok at g0 g1 g2 g3
    by_cases l : y1 < 0
    · exact err_y1_low pw ph x0 y0 x1 y1 w (by omega) (by omega) (by omega) (by omega) (by omega) (by omega) l
    · exact err_y1_high pw ph x0 y0 x1 y1 w (by omega) (by omega) (by omega) (by omega) (by omega) (by omega) (by omega) (by omega)
  by_cases g4 : 1 ≤ pw ∧ pw ≤ 31680
  case neg =>
    rw [show placeS pw ph x0 y0 x1 y1 = (0, 0, 0, 0, 2) by unfold placeS; rw [if_pos (fun h => g4 h.2.2.2.2.1)]]
    unfold Ok at g0 g1 g2 g3
    by_cases l : pw < 1
    · exact err_pw_low pw ph x0 y0 x1 y1 w (by omega) (by omega) (by omega) (by omega) (by omega) (by omega) (by omega) (by omega) l
    · exact err_pw_high pw ph x0 y0 x1 y1 w (by omega) (by omega) (by omega) (by omega) (by omega) (by omega) (by omega) (by omega) (by omega) (by omega)
  by_cases g5 : 1 ≤ ph ∧ ph ≤ 31680
  case neg =>
    rw [show placeS pw ph x0 y0 x1 y1 = (0, 0, 0, 0, 2) by unfold placeS; rw [if_pos (fun h => g5 h.2.2.2.2.2)]]
    unfold Ok at g0 g1 g2 g3
    by_cases l : ph < 1
    · exact err_ph_low pw ph x0 y0 x1 y1 w (by omega) (by omega) (by omega) (by omega) (by omega) (by omega) (by omega) (by omega) (by omega) (by omega) l
    · exact err_ph_high pw ph x0 y0 x1 y1 w (by omega) (by omega) (by omega) (by omega) (by omega) (by omega) (by omega) (by omega) (by omega) (by omega) (by omega) (by omega)
  have all : ¬ ¬ (Ok x0 ∧ Ok y0 ∧ Ok x1 ∧ Ok y1 ∧ (1 ≤ pw ∧ pw ≤ 31680) ∧ (1 ≤ ph ∧ ph ≤ 31680)) := fun h => h ⟨g0, g1, g2, g3, g4, g5⟩
  by_cases g6 : x1 - x0 < 1 ∨ y1 - y0 < 1
  · rw [show placeS pw ph x0 y0 x1 y1 = (0, 0, 0, 0, 5) by unfold placeS; rw [if_neg all, if_pos g6]]
    unfold Ok at g0 g1 g2 g3
    by_cases l : x1 - x0 < 1
    · exact err_w pw ph x0 y0 x1 y1 w (by omega) (by omega) (by omega) (by omega) (by omega) (by omega) (by omega) (by omega) (by omega) (by omega) (by omega) (by omega) l
    · exact err_h pw ph x0 y0 x1 y1 w (by omega) (by omega) (by omega) (by omega) (by omega) (by omega) (by omega) (by omega) (by omega) (by omega) (by omega) (by omega) (by omega) (by omega)
  have fin : ∀ d : Int × Int, dims pw ph (x1 - x0) (y1 - y0) = d → Ans pw ph x0 y0 x1 y1 w (x0 + (x1 - x0 - d.1) / 2, y0 + (y1 - y0 - d.2) / 2, x0 + (x1 - x0 - d.1) / 2 + d.1, y0 + (y1 - y0 - d.2) / 2 + d.2, 0) → Ans pw ph x0 y0 x1 y1 w (placeS pw ph x0 y0 x1 y1) := by
    intro d hd h
    rw [show placeS pw ph x0 y0 x1 y1 = (x0 + (x1 - x0 - d.1) / 2, y0 + (y1 - y0 - d.2) / 2, x0 + (x1 - x0 - d.1) / 2 + d.1, y0 + (y1 - y0 - d.2) / 2 + d.2, 0) by unfold placeS; rw [if_neg all, if_neg g6, hd]]
    exact h
  unfold Ok at g0 g1 g2 g3
  have pr1 := prod_bd (a := pw) (b := y1 - y0) (by omega) (by omega) (by omega) (by omega)
  have pr2 := prod_bd (a := ph) (b := y1 - y0) (by omega) (by omega) (by omega) (by omega)
  have pr3 := prod_bd (a := pw) (b := x1 - x0) (by omega) (by omega) (by omega) (by omega)
  have pr4 := prod_bd (a := ph) (b := x1 - x0) (by omega) (by omega) (by omega) (by omega)
  have cm1 : (y1 - y0) * pw = pw * (y1 - y0) := Int.mul_comm _ _
  have cm2 : (x1 - x0) * ph = ph * (x1 - x0) := Int.mul_comm _ _
  have zy : (y1 - y0 - (y1 - y0)) / 2 = 0 := by omega
  have zx : (x1 - x0 - (x1 - x0)) / 2 = 0 := by omega
  by_cases c1 : x1 - x0 < pw
  · by_cases c2 : (y1 - y0) * pw < (x1 - x0) * ph
    · have q1 := quot_nn (b := ph) pr1.1 (by omega)
      have q2 : pw * (y1 - y0) / ph ≤ x1 - x0 := quot_le (by omega) (by omega)
      have q3 : ph * (y1 - y0) / ph = y1 - y0 := quot_self (by omega)
      refine fin _ (by unfold dims; rw [if_pos c1, if_pos c2]) ?_
      unfold one
      by_cases s : pw * (y1 - y0) / ph < 1
      · rw [if_pos s]
        have := place_d1 pw ph x0 y0 x1 y1 w (by omega) (by omega) (by omega) (by omega) (by omega) (by omega) (by omega) (by omega) (by omega) (by omega) (by omega) (by omega) (by omega) (by omega) c1 c2 (by omega) (by omega) (by omega) (by omega) pr1.1 pr1.2 pr2.1 pr2.2 q1 q2 q3 s
        simp only [zy, Int.add_zero]
        exact this
      · rw [if_neg s]
        have := place_d pw ph x0 y0 x1 y1 w (by omega) (by omega) (by omega) (by omega) (by omega) (by omega) (by omega) (by omega) (by omega) (by omega) (by omega) (by omega) (by omega) (by omega) c1 c2 (by omega) (by omega) (by omega) (by omega) pr1.1 pr1.2 pr2.1 pr2.2 q1 q2 q3 (by omega)
        simp only [zy, Int.add_zero]
        exact this
    · have q1 := quot_nn (b := pw) pr4.1 (by omega)
      have q2 : ph * (x1 - x0) / pw ≤ y1 - y0 := quot_le (by omega) (by omega)
      have q3 : pw * (x1 - x0) / pw = x1 - x0 := quot_self (by omega)
      refine fin _ (by unfold dims; rw [if_pos c1, if_neg c2]) ?_
      unfold one
      by_cases s : ph * (x1 - x0) / pw < 1
      · rw [if_pos s]
        have := place_c1 pw ph x0 y0 x1 y1 w (by omega) (by omega) (by omega) (by omega) (by omega) (by omega) (by omega) (by omega) (by omega) (by omega) (by omega) (by omega) (by omega) (by omega) c1 c2 (by omega) (by omega) (by omega) (by omega) pr3.1 pr3.2 pr4.1 pr4.2 q1 q2 q3 s
        simp only [zx, Int.add_zero]
        exact this
      · rw [if_neg s]
        have := place_c pw ph x0 y0 x1 y1 w (by omega) (by omega) (by omega) (by omega) (by omega) (by omega) (by omega) (by omega) (by omega) (by omega) (by omega) (by omega) (by omega) (by omega) c1 c2 (by omega) (by omega) (by omega) (by omega) pr3.1 pr3.2 pr4.1 pr4.2 q1 q2 q3 (by omega)
        simp only [zx, Int.add_zero]
        exact this
  · by_cases c2 : y1 - y0 < ph
    · have q1 := quot_nn (b := ph) pr1.1 (by omega)
      have q2 : pw * (y1 - y0) / ph ≤ x1 - x0 := by
        have h1 : pw * (y1 - y0) ≤ pw * ph := Int.mul_le_mul_of_nonneg_left (by omega) (by omega)
        have := quot_le (a := pw * (y1 - y0)) (c := pw) (by omega : 1 ≤ ph) h1
        omega
      have q3 : ph * (y1 - y0) / ph = y1 - y0 := quot_self (by omega)
      refine fin _ (by unfold dims; rw [if_neg c1, if_pos c2]) ?_
      unfold one
      by_cases s : pw * (y1 - y0) / ph < 1
      · rw [if_pos s]
        have := place_b1 pw ph x0 y0 x1 y1 w (by omega) (by omega) (by omega) (by omega) (by omega) (by omega) (by omega) (by omega) (by omega) (by omega) (by omega) (by omega) (by omega) (by omega) c1 c2 pr1.1 pr1.2 pr2.1 pr2.2 q1 q2 q3 s
        simp only [zy, Int.add_zero]
        exact this
      · rw [if_neg s]
        have := place_b pw ph x0 y0 x1 y1 w (by omega) (by omega) (by omega) (by omega) (by omega) (by omega) (by omega) (by omega) (by omega) (by omega) (by omega) (by omega) (by omega) (by omega) c1 c2 pr1.1 pr1.2 pr2.1 pr2.2 q1 q2 q3 (by omega)
        simp only [zy, Int.add_zero]
        exact this
    · refine fin _ (by unfold dims; rw [if_neg c1, if_neg c2]) ?_
      exact place_a pw ph x0 y0 x1 y1 w (by omega) (by omega) (by omega) (by omega) (by omega) (by omega) (by omega) (by omega) (by omega) (by omega) (by omega) (by omega) (by omega) (by omega) c1 c2
theorem printing_Place.calls (a0 a1 a2_0 a2_1 a2_2 a2_3 : Int) (r1 r2 r3 r4 r5 : Int) (w : World) (h : printing_Place.f a0 a1 a2_0 a2_1 a2_2 a2_3 = some (r1, r2, r3, r4, r5)) :
    Calls Try.prog 13 #[.int .i64 a0, .int .i64 a1, .agg #[.int .i64 a2_0, .int .i64 a2_1, .int .i64 a2_2, .int .i64 a2_3]] w fun e w' => e = .returned (.tuple #[.agg #[.int .i64 r1, .int .i64 r2, .int .i64 r3, .int .i64 r4], .int .i64 r5]) ∧ Below w.heap.size w w' := by
  have e : placeS a0 a1 a2_0 a2_1 a2_2 a2_3 = (r1, r2, r3, r4, r5) := Option.some.inj h
  have := place_any a0 a1 a2_0 a2_1 a2_2 a2_3 w
  rw [e] at this
  exact this
end Go.Proofs.Ytihmbddneapooaa.HandPP
