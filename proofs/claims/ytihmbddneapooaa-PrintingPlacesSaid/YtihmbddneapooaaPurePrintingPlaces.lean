/- Proved: printing.Place answers as the statement says, for every page size and part of a sheet: a statement over whole numbers alone, about the Lean functions of this seat's texts. No condition. -/
import Derived.Test.YtihmbddneapooaaQPPx3
import Derived.Test.YtihmbddneapooaaLib
namespace Go.Proofs.Ytihmbddneapooaa.Pure
open Go.RowKit Go.Proofs.Ytihmbddneapooaa.QPP Go.Proofs.Ytihmbddneapooaa.HandPP Go.Proofs.YtihmbddneapooaaW.PrintWords Go.Proofs.YtihmbddneapooaaW.PrintLast Go.Proofs.YtihmbddneapooaaW.PrintMore Go.Proofs.Ytihmbddneapooaa.Lib
namespace PrintPl
theorem in_ok (a b c : Int) : chanceryref3_In.f a b c = some (decide (b ≤ a ∧ a ≤ c)) := by
  unfold chanceryref3_In.f
  by_cases h : a ≥ b
  · rw [if_pos h]; congr 1; simp; omega
  · rw [if_neg h]; congr 1; simp; omega
theorem mx_one (a : Int) (h : 1 ≤ a) : mx a 1 = a := by unfold mx; rw [if_neg (by omega)]
theorem mx_is_one (a : Int) : mx a 1 = one a := rfl
theorem near (x w a : Int) (hx : 0 ≤ x) (hx2 : x ≤ 31680) (hw : w ≤ 31680) (ha : 1 ≤ a) (haw : a ≤ w) : wrap64 (x + wrap64 (Int.tdiv (wrap64 (w - a)) 2)) = x + (w - a) / 2 ∧ wrap64 (x + (w - a) / 2 + a) = x + (w - a) / 2 + a := by
  rw [w64 (n := w - a) (by omega) (by omega), tdiv_nn (by omega), w64 (n := (w - a) / 2) (by omega) (by omega), w64 (n := x + (w - a) / 2) (by omega) (by omega), w64 (by omega) (by omega)]
  exact ⟨rfl, rfl⟩
/-- The last comparison. -/
theorem last (x0 y0 w h a b : Int) (d : Int × Int) (hd : d = (a, b)) (hx : 0 ≤ x0) (hx2 : x0 ≤ 31680) (hy : 0 ≤ y0) (hy2 : y0 ≤ 31680) (hw : w ≤ 31680) (hh : h ≤ 31680) (ha : 1 ≤ a) (haw : a ≤ w) (hb : 1 ≤ b) (hbh : b ≤ h) (r : Int × Int × Int × Int × Int)
    (hr : r = (x0 + (w - d.1) / 2, y0 + (h - d.2) / 2, x0 + (w - d.1) / 2 + d.1, y0 + (h - d.2) / 2 + d.2, 0)) :
    (r.1 == (wrap64 (x0 + (wrap64 (Int.tdiv (wrap64 (w - a)) 2)))) && (r.2.1 == (wrap64 (y0 + (wrap64 (Int.tdiv (wrap64 (h - b)) 2)))) && (r.2.2.1 == (wrap64 ((wrap64 (x0 + (wrap64 (Int.tdiv (wrap64 (w - a)) 2)))) + a)) && (r.2.2.2.1 == (wrap64 ((wrap64 (y0 + (wrap64 (Int.tdiv (wrap64 (h - b)) 2)))) + b)))))) = true := by
  obtain ⟨e1, e2⟩ := near x0 w a hx hx2 hw ha haw
  obtain ⟨e3, e4⟩ := near y0 h b hy hy2 hh hb hbh
  rw [e1, e3, e2, e4, hr, hd]
  simp
theorem one_bd (q w : Int) (_h0 : 0 ≤ q) (h1 : q ≤ w) (hw : 1 ≤ w) : 1 ≤ one q ∧ one q ≤ w := by unfold one; split <;> omega
end PrintPl
open PrintPl in
theorem PrintingPlaces (pw ph x0 y0 x1 y1 : Int) : ∃ k, chancerylaw3_PrintingPlaces.f k pw ph x0 y0 x1 y1 = some true := by
  refine Ev.rounds (r := true) ?_
  unfold chancerylaw3_PrintingPlaces.f
  refine Ev.bind0 (a := (0, 25, 100, 75, 0)) (by decide +kernel) (Ev.pos rfl ?_)
  refine Ev.step (fun k => by rw [chancerylaw3_PrintingPlaces.j0]) ?_
  refine Ev.neg (by decide) ?_
  refine Ev.bind0 (a := placeS pw ph x0 y0 x1 y1) rfl ?_
  generalize hr : placeS pw ph x0 y0 x1 y1 = r
  unfold placeS at hr
  have bad : ¬ (Ok x0 ∧ Ok y0 ∧ Ok x1 ∧ Ok y1 ∧ (1 ≤ pw ∧ pw ≤ 31680) ∧ (1 ≤ ph ∧ ph ≤ 31680)) → ∀ u v : Int, Ev (fun k => chancerylaw3_PrintingPlaces.j1 k pw ph r.2.2.2.2 u v true x0 y0 x1 y1 r.1 r.2.1 r.2.2.1 r.2.2.2.1) true := by
    intro h u v
    rw [if_pos h] at hr
    subst hr
    exact Ev.step (fun k => by rw [chancerylaw3_PrintingPlaces.j1]) (Ev.pos rfl (Ev.pos rfl (Ev.ret (by simp))))
  refine Ev.bind0 (in_ok _ _ _) ?_
  by_cases g0 : 0 ≤ x0 ∧ x0 ≤ 31680
  case neg => exact Ev.dneg g0 (by rw [decide_eq_false g0]; exact bad (fun h => g0 h.1) _ _)
  refine Ev.dpos g0 (Ev.bind0 (in_ok _ _ _) ?_)
  by_cases g1 : 0 ≤ y0 ∧ y0 ≤ 31680
  case neg => exact Ev.dneg g1 (by rw [decide_eq_false g1]; exact bad (fun h => g1 h.2.1) _ _)
  refine Ev.dpos g1 (Ev.bind0 (in_ok _ _ _) ?_)
  by_cases g2 : 0 ≤ x1 ∧ x1 ≤ 31680
  case neg => exact Ev.dneg g2 (by rw [decide_eq_false g2]; exact bad (fun h => g2 h.2.2.1) _ _)
  refine Ev.dpos g2 (Ev.bind0 (in_ok _ _ _) ?_)
  by_cases g3 : 0 ≤ y1 ∧ y1 ≤ 31680
  case neg => exact Ev.dneg g3 (by rw [decide_eq_false g3]; exact bad (fun h => g3 h.2.2.2.1) _ _)
  refine Ev.dpos g3 (Ev.bind0 (in_ok _ _ _) ?_)
  by_cases g4 : 1 ≤ pw ∧ pw ≤ 31680
  case neg => exact Ev.dneg g4 (by rw [decide_eq_false g4]; exact bad (fun h => g4 h.2.2.2.2.1) _ _)
  refine Ev.dpos g4 (Ev.bind0 (in_ok _ _ _) ?_)
  by_cases g5 : 1 ≤ ph ∧ ph ≤ 31680
  case neg => rw [decide_eq_false g5]; exact bad (fun h => g5 h.2.2.2.2.2) _ _
  rw [decide_eq_true g5, w64 (n := x1 - x0) (by omega) (by omega), w64 (n := y1 - y0) (by omega) (by omega)]
  clear bad
  rw [if_neg (fun h => h ⟨g0, g1, g2, g3, g4, g5⟩)] at hr
  have hw2 : x1 - x0 ≤ 31680 := by omega
  have hh2 : y1 - y0 ≤ 31680 := by omega
  generalize x1 - x0 = w at hr hw2 ⊢
  generalize y1 - y0 = h at hr hh2 ⊢
  refine Ev.step (fun k => by rw [chancerylaw3_PrintingPlaces.j1]) (Ev.neg (by simp) ?_)
  by_cases c1 : w < 1
  · rw [if_pos (.inl c1)] at hr
    subst hr
    exact Ev.pos c1 (Ev.pos rfl (Ev.ret (by simp)))
  refine Ev.neg c1 ?_
  by_cases c2 : h < 1
  · rw [if_pos (.inr c2)] at hr
    subst hr
    exact Ev.pos c2 (Ev.pos rfl (Ev.ret (by simp)))
  refine Ev.neg c2 ?_
  rw [if_neg (by omega)] at hr
  have r5 : r.2.2.2.2 = 0 := by rw [← hr]
  have pr1 := prod_bd (a := pw) (b := h) (by omega) (by omega) (by omega) (by omega)
  have pr2 := prod_bd (a := ph) (b := w) (by omega) (by omega) (by omega) (by omega)
  have cm1 : h * pw = pw * h := Int.mul_comm _ _
  have cm2 : w * ph = ph * w := Int.mul_comm _ _
  -- one of the two sides is shorter
  have less : (w < pw ∨ h < ph) → Ev (fun k => chancerylaw3_PrintingPlaces.j2 k pw ph r.2.2.2.2 w h pw ph true x0 y0 x1 y1 r.1 r.2.1 r.2.2.1 r.2.2.2.1) true := by
    intro hl
    refine Ev.step (fun k => by rw [chancerylaw3_PrintingPlaces.j2]) (Ev.pos rfl ?_)
    rw [w64 (n := w * ph) (by omega) (by omega), w64 (n := h * pw) (by omega) (by omega)]
    by_cases s : w * ph ≤ h * pw
    · have hwp : w < pw := by
        refine Classical.byContradiction fun hn => ?_
        have h1 : pw * h < w * ph := by
          have a1 : pw * h < pw * ph := Int.mul_lt_mul_of_pos_left (by omega) (by omega)
          have a2 : pw * ph ≤ w * ph := Int.mul_le_mul_of_nonneg_right (by omega) (by omega)
          omega
        omega
      have q1 := quot_nn (b := pw) pr2.1 (by omega)
      have q2 : ph * w / pw ≤ h := quot_le (by omega) (by omega)
      have ob := one_bd _ h q1 q2 (by omega)
      refine Ev.pos s (Ev.neg (by omega) (Ev.pos r5 (Ev.ret ?_)))
      rw [w64 (n := ph * w) (by omega) (by omega), tdiv_nn pr2.1, w64 (n := ph * w / pw) (by omega) (by omega), mx_one w (by omega), mx_is_one]
      exact last x0 y0 w h w (one (ph * w / pw)) (dims pw ph w h) (by unfold dims; rw [if_pos hwp, if_neg (by omega)]) g0.1 g0.2 g1.1 g1.2 hw2 hh2 (by omega) (by omega) ob.1 ob.2 r hr.symm
    · have q1 := quot_nn (b := ph) pr1.1 (by omega)
      have q2 : pw * h / ph ≤ w := quot_le (by omega) (by omega)
      have ob := one_bd _ w q1 q2 (by omega)
      refine Ev.neg s (Ev.neg (by omega) (Ev.pos r5 (Ev.ret ?_)))
      rw [w64 (n := pw * h) (by omega) (by omega), tdiv_nn pr1.1, w64 (n := pw * h / ph) (by omega) (by omega), mx_one h (by omega), mx_is_one]
      refine last x0 y0 w h (one (pw * h / ph)) h (dims pw ph w h) ?_ g0.1 g0.2 g1.1 g1.2 hw2 hh2 ob.1 ob.2 (by omega) (by omega) r hr.symm
      unfold dims
      by_cases hwp : w < pw
      · rw [if_pos hwp, if_pos (by omega)]
      · rw [if_neg hwp, if_pos (by omega)]
  by_cases c3 : w < pw
  · exact Ev.pos c3 (less (.inl c3))
  · refine Ev.neg c3 ?_
    by_cases c4 : h < ph
    · rw [decide_eq_true c4]; exact less (.inr c4)
    · rw [decide_eq_false c4]
      refine Ev.step (fun k => by rw [chancerylaw3_PrintingPlaces.j2]) (Ev.neg (by simp) (Ev.pos r5 (Ev.ret ?_)))
      rw [mx_one pw (by omega), mx_one ph (by omega)]
      exact last x0 y0 w h pw ph (dims pw ph w h) (by unfold dims; rw [if_neg c3, if_neg c4]) g0.1 g0.2 g1.1 g1.2 hw2 hh2 (by omega) (by omega) (by omega) (by omega) r hr.symm
end Go.Proofs.Ytihmbddneapooaa.Pure
