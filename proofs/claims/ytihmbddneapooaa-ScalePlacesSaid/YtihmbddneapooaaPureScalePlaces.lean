/- Proved: scale.Check, Marks and Place answer as the statement says, for every scale, value and length: a statement over whole numbers alone, about the Lean functions of this seat's texts. No condition. -/
import Derived.Test.YtihmbddneapooaaQSPx2
import Derived.Test.YtihmbddneapooaaLib
namespace Go.Proofs.Ytihmbddneapooaa.Pure
open Go.RowKit Go.Proofs.Ytihmbddneapooaa.QSP Go.Proofs.YtihmbddneapooaaW.PrintWords Go.Proofs.YtihmbddneapooaaW.PrintLast Go.Proofs.YtihmbddneapooaaW.PrintMore Go.Proofs.Ytihmbddneapooaa.Lib
namespace ScalePl
theorem in_ok (a b c : Int) : chanceryref3_In.f a b c = some (decide (b ≤ a ∧ a ≤ c)) := by
  unfold chanceryref3_In.f
  by_cases h : a ≥ b
  · rw [if_pos h]; congr 1; simp; omega
  · rw [if_neg h]; congr 1; simp; omega
theorem down_ok (a b : Int) (hb : 1 ≤ b) (hb2 : b ≤ 4000000000000000000) (h1 : -4000000000000000000 ≤ a) (h2 : a ≤ 4000000000000000000) : chanceryref3_Down.f a b = some (a / b) := by
  have e := Int.mul_ediv_add_emod a b
  have e2 := Int.emod_nonneg a (by omega : b ≠ 0)
  have e3 := Int.emod_lt_of_pos a (by omega : 0 < b)
  have hc : b * (a / b) = a / b * b := Int.mul_comm _ _
  have b1 : -4000000000000000000 ≤ a / b := (Int.le_ediv_iff_mul_le (by omega)).2 (by
    have : (-4000000000000000000 : Int) * b ≤ -4000000000000000000 * 1 := Int.mul_le_mul_of_nonpos_left (by omega) (by omega)
    omega)
  have b2 : a / b < 4000000000000000001 := (Int.ediv_lt_iff_lt_mul (by omega)).2 (by
    have : (4000000000000000001 : Int) * 1 ≤ 4000000000000000001 * b := Int.mul_le_mul_of_nonneg_left (by omega) (by omega)
    omega)
  unfold chanceryref3_Down.f
  rw [if_neg (by omega), tdiv_down a b (by omega)]
  by_cases h : a < 0 ∧ a % b ≠ 0
  · have e4 : (a / b + 1) * b = a / b * b + b := by rw [Int.add_mul]; omega
    rw [if_pos h, w64 (n := a / b + 1) (by omega) (by omega), w64 (n := (a / b + 1) * b) (by omega) (by omega), if_pos (by omega), w64 (by omega) (by omega)]; congr 1; omega
  · rw [if_neg h, w64 (n := a / b) (by omega) (by omega), w64 (n := a / b * b) (by omega) (by omega), if_neg (by omega)]
theorem near_ok (a b : Int) (hb : 1 ≤ b) (hb2 : b ≤ 400000000000000000) (h1 : -400000000000000000 ≤ a) (h2 : a ≤ 400000000000000000) : chanceryref3_Near.f a b = some ((2 * a + b) / (2 * b)) := by
  unfold chanceryref3_Near.f
  rw [w64 (n := 2 * a) (by omega) (by omega), w64 (n := 2 * a + b) (by omega) (by omega), w64 (n := 2 * b) (by omega) (by omega), down_ok _ _ (by omega) (by omega) (by omega) (by omega)]
  rfl
theorem near_ok2 (a b : Int) (hb : 1 ≤ b) (hb2 : b ≤ 1000000000000000000) (h1 : -1000000000000000000 ≤ a) (h2 : a ≤ 1000000000000000000) : chanceryref3_Near.f a b = some ((2 * a + b) / (2 * b)) := by
  unfold chanceryref3_Near.f
  rw [w64 (n := 2 * a) (by omega) (by omega), w64 (n := 2 * a + b) (by omega) (by omega), w64 (n := 2 * b) (by omega) (by omega), down_ok _ _ (by omega) (by omega) (by omega) (by omega)]
  rfl
theorem floor_ok (a s : Int) (hs : 1 ≤ s) (h1 : -4000000000000000000 ≤ a) (h2 : a ≤ 4000000000000000000) : scale_floor.f a s = some (a / s) := by
  have e2 := Int.emod_nonneg a (by omega : s ≠ 0)
  have e3 := Int.emod_lt_of_pos a (by omega : 0 < s)
  have b1 : -4000000000000000000 ≤ a / s := (Int.le_ediv_iff_mul_le (by omega)).2 (by
    have : (-4000000000000000000 : Int) * s ≤ -4000000000000000000 * 1 := Int.mul_le_mul_of_nonpos_left (by omega) (by omega)
    omega)
  have b2 : a / s < 4000000000000000001 := (Int.ediv_lt_iff_lt_mul (by omega)).2 (by
    have : (4000000000000000001 : Int) * 1 ≤ 4000000000000000001 * s := Int.mul_le_mul_of_nonneg_left (by omega) (by omega)
    omega)
  unfold scale_floor.f
  rw [if_neg (by omega), tmod_down a s (by omega), tdiv_down a s (by omega)]
  by_cases h : a < 0 ∧ a % s ≠ 0
  · rw [if_pos h, if_pos h, if_pos (by omega), w64 (n := a / s + 1) (by omega) (by omega), w64 (by omega) (by omega)]; congr 1; omega
  · rw [if_neg h, if_neg h, if_neg (by omega), w64 (by omega) (by omega)]
section
variable (lo hi st : Int)
def Within : Prop := -4000000000000 ≤ lo ∧ lo ≤ 4000000000000 ∧ -4000000000000 ≤ hi ∧ hi ≤ 4000000000000 ∧ 1 ≤ st ∧ st ≤ 4000000000000
instance : Decidable (Within lo hi st) := by unfold Within; infer_instance
/-- The first error of a scale. -/
def chk : Int := if ¬ Within lo hi st then 2 else if lo ≥ hi then 5 else if (hi - lo) % st ≠ 0 ∨ lo % st ≠ 0 then 4 else if (hi - lo) / st > 500 then 3 else 0
theorem div_bd (a s : Int) (hs : 1 ≤ s) (h1 : 0 ≤ a) (h2 : a ≤ 8000000000000) : 0 ≤ a / s ∧ a / s ≤ 8000000000000 := by
  have := Int.ediv_le_self s h1
  exact ⟨Int.ediv_nonneg h1 (by omega), Int.le_trans this h2⟩
theorem zero_tmod (a : Int) (s : Int) (hs : 1 ≤ s) : Int.tmod a s = 0 ↔ a % s = 0 := by
  have e2 := Int.emod_nonneg a (by omega : s ≠ 0)
  have e3 := Int.emod_lt_of_pos a (by omega : 0 < s)
  rw [tmod_down a s (by omega)]
  by_cases h : a < 0 ∧ a % s ≠ 0
  · rw [if_pos h]; omega
  · rw [if_neg h]
theorem check_ok : Ev (fun k => scale_Check.f k lo hi st) (chk lo hi st) := by
  have yes : ¬ Within lo hi st → Ev (fun k => scale_Check.j0 k true lo hi st) (chk lo hi st) := fun h =>
    Ev.step (fun k => by rw [scale_Check.j0]) (Ev.pos rfl (Ev.ret (by unfold chk; rw [if_pos h])))
  unfold scale_Check.f
  by_cases a1 : lo < -4000000000000
  · exact Ev.pos a1 (yes fun h => by unfold Within at h; omega)
  · refine Ev.neg a1 ?_
    by_cases a2 : lo > 4000000000000
    · exact Ev.pos a2 (yes fun h => by unfold Within at h; omega)
    · refine Ev.neg a2 ?_
      by_cases a3 : hi < -4000000000000
      · exact Ev.pos a3 (yes fun h => by unfold Within at h; omega)
      · refine Ev.neg a3 ?_
        by_cases a4 : hi > 4000000000000
        · exact Ev.pos a4 (yes fun h => by unfold Within at h; omega)
        · refine Ev.neg a4 ?_
          by_cases a5 : st < 1
          · exact Ev.pos a5 (yes fun h => by unfold Within at h; omega)
          · refine Ev.neg a5 ?_
            by_cases a6 : st > 4000000000000
            · rw [decide_eq_true a6]; exact yes fun h => by unfold Within at h; omega
            · rw [decide_eq_false a6]
              have W : Within lo hi st := by unfold Within; omega
              refine Ev.step (fun k => by rw [scale_Check.j0]) (Ev.neg (by simp) ?_)
              unfold chk
              rw [if_neg (fun h => h W)]
              by_cases b1 : lo ≥ hi
              · rw [if_pos b1]; exact Ev.pos b1 (Ev.now _)
              · rw [if_neg b1]
                refine Ev.neg b1 (Ev.neg (by omega) ?_)
                have d := div_bd (hi - lo) st (by omega) (by omega) (by omega)
                rw [w64 (n := hi - lo) (by omega) (by omega), tmod_nn (by omega)]
                by_cases b2 : (hi - lo) % st = 0
                · refine Ev.pos b2 (Ev.bind0 (floor_ok lo st (by omega) (by omega) (by omega)) ?_)
                  have e := Int.mul_ediv_add_emod lo st
                  have e2 := Int.emod_nonneg lo (by omega : st ≠ 0)
                  have e3 := Int.emod_lt_of_pos lo (by omega : 0 < st)
                  have hc : st * (lo / st) = lo / st * st := Int.mul_comm _ _
                  rw [w64 (n := lo / st * st) (by omega) (by omega)]
                  by_cases b3 : lo % st = 0
                  · rw [if_neg (by omega), show (lo / st * st != lo) = false from bne_eq_false_iff_eq.2 (by omega)]
                    refine Ev.step (fun k => by rw [scale_Check.j1]) (Ev.neg (by simp) (Ev.neg (by omega) ?_))
                    rw [w64 (n := hi - lo) (by omega) (by omega), tdiv_nn (by omega), w64 (n := (hi - lo) / st) (by omega) (by omega)]
                    by_cases b4 : (hi - lo) / st > 500
                    · exact Ev.pos b4 (Ev.ret (by rw [if_pos b4]))
                    · exact Ev.neg b4 (Ev.ret (by rw [if_neg b4]))
                  · rw [if_pos (by omega), show (lo / st * st != lo) = true from bne_iff_ne.2 (by omega)]
                    exact Ev.step (fun k => by rw [scale_Check.j1]) (Ev.pos rfl (Ev.now _))
                · rw [if_pos (by omega)]
                  exact Ev.neg b2 (Ev.step (fun k => by rw [scale_Check.j1]) (Ev.pos rfl (Ev.now _)))
/-- What an accepted scale is. -/
theorem chk_zero (h : chk lo hi st = 0) : Within lo hi st ∧ lo < hi ∧ hi = lo + (hi - lo) / st * st ∧ lo % st = 0 ∧ 1 ≤ (hi - lo) / st ∧ (hi - lo) / st ≤ 500 := by
  unfold chk at h
  by_cases W : Within lo hi st
  · rw [if_neg (fun h => h W)] at h
    by_cases b1 : lo ≥ hi
    · rw [if_pos b1] at h; omega
    · rw [if_neg b1] at h
      by_cases b2 : (hi - lo) % st ≠ 0 ∨ lo % st ≠ 0
      · rw [if_pos b2] at h; omega
      · rw [if_neg b2] at h
        by_cases b3 : (hi - lo) / st > 500
        · rw [if_pos b3] at h; omega
        · have W' := W
          unfold Within at W'
          have e := Int.mul_ediv_add_emod (hi - lo) st
          have hc : st * ((hi - lo) / st) = (hi - lo) / st * st := Int.mul_comm _ _
          refine ⟨W, by omega, by omega, by omega, ?_, by omega⟩
          refine Classical.byContradiction fun hn => ?_
          have d := div_bd (hi - lo) st (by omega) (by omega) (by omega)
          have z : (hi - lo) / st = 0 := by omega
          rw [z, Int.mul_zero] at e; omega
  · rw [if_pos W] at h; omega
/-- What Place answers. -/
def place (value long : Int) : Int × Int := if chk lo hi st ≠ 0 then (0, chk lo hi st) else if long < 0 ∨ long > 100000 ∨ value < lo ∨ value > hi then (0, 2) else ((2 * ((value - lo) * long) + (hi - lo)) / (2 * (hi - lo)), 0)
theorem place_ok (value long : Int) : Ev (fun k => scale_Place.f k lo hi st value long) (place lo hi st value long) := by
  unfold scale_Place.f
  refine Ev.bind (check_ok lo hi st) ?_
  by_cases hz : chk lo hi st = 0
  · have hp : place lo hi st value long = if long < 0 ∨ long > 100000 ∨ value < lo ∨ value > hi then (0, 2) else ((2 * ((value - lo) * long) + (hi - lo)) / (2 * (hi - lo)), 0) := by
      unfold place; rw [if_neg (fun h => h hz)]
    refine Ev.pos hz ?_
    obtain ⟨W, hlt, _, _, _, _⟩ := chk_zero lo hi st hz
    unfold Within at W
    by_cases a1 : long < 0
    · exact Ev.pos a1 (Ev.ret (by rw [hp, if_pos (by omega)]))
    · refine Ev.neg a1 ?_
      by_cases a2 : long > 100000
      · exact Ev.pos a2 (Ev.ret (by rw [hp, if_pos (by omega)]))
      · refine Ev.neg a2 ?_
        by_cases a3 : value < lo
        · exact Ev.pos a3 (Ev.ret (by rw [hp, if_pos (by omega)]))
        · refine Ev.neg a3 ?_
          by_cases a4 : value > hi
          · exact Ev.pos a4 (Ev.ret (by rw [hp, if_pos (by omega)]))
          · refine Ev.neg a4 ?_
            have p1 : 0 ≤ (value - lo) * long := Int.mul_nonneg (by omega) (by omega)
            have p2 : (value - lo) * long ≤ 8000000000000 * 100000 := Int.mul_le_mul (by omega) (by omega) (by omega) (by omega)
            have p3 : 2 * (value - lo) * long = 2 * ((value - lo) * long) := Int.mul_assoc _ _ _
            rw [w64 (n := value - lo) (by omega) (by omega), w64 (n := 2 * (value - lo)) (by omega) (by omega), w64 (n := 2 * (value - lo) * long) (by omega) (by omega), w64 (n := hi - lo) (by omega) (by omega), w64 (n := 2 * (value - lo) * long + (hi - lo)) (by omega) (by omega), w64 (n := 2 * (hi - lo)) (by omega) (by omega)]
            exact Ev.bind0 (floor_ok _ _ (by omega) (by omega) (by omega)) (Ev.ret (by rw [hp, if_neg (by omega), p3]))
  · exact Ev.neg hz (Ev.ret (by unfold place; rw [if_pos hz]))
/-- What Marks answers. -/
def marks : List Int := tab (fun i => lo + i * st) ((hi - lo) / st + 1).toNat
theorem marks_ok : Ev (fun k => scale_Marks.f k lo hi st) (if chk lo hi st = 0 then (marks lo hi st, 0) else ([], chk lo hi st)) := by
  unfold scale_Marks.f
  refine Ev.bind (check_ok lo hi st) ?_
  by_cases hz : chk lo hi st = 0
  · rw [if_pos hz]
    refine Ev.pos hz ?_
    obtain ⟨W, hlt, he, _, q1, q2⟩ := chk_zero lo hi st hz
    unfold Within at W
    unfold marks
    generalize (hi - lo) / st = q at he q1 q2
    have start : Ev (fun k => scale_Marks.l0 k (tab (fun i => lo + i * st) (0 : Int).toNat) (lo + 0 * st) lo hi st) (tab (fun i => lo + i * st) (q + 1).toNat, 0) := by
      refine climb (g := fun i k => scale_Marks.l0 k (tab (fun i => lo + i * st) i.toNat) (lo + i * st) lo hi st) (a := 0) (n := q + 1) (by omega) ?_ fun i i0 i1 hi' => ?_
      · have : (q + 1) * st = q * st + st := by rw [Int.add_mul]; omega
        exact Ev.step (fun k => by rw [scale_Marks.l0]) (Ev.neg (by omega) (Ev.now _))
      · have m1 : i * st ≤ q * st := Int.mul_le_mul_of_nonneg_right (by omega) (by omega)
        have m0 : 0 ≤ i * st := Int.mul_nonneg i0 (by omega)
        have m2 : (i + 1) * st = i * st + st := by rw [Int.add_mul]; omega
        refine Ev.step (fun k => by rw [scale_Marks.l0]) (Ev.pos (by omega) (Ev.pos (by rw [tab_length]; omega) ?_))
        rw [w64 (n := lo + i * st + st) (by omega) (by omega)]
        have ts := tab_snoc (fun i => lo + i * st) i.toNat
        rw [show ((i.toNat : Nat) : Int) = i by omega] at ts
        rw [← ts, show lo + i * st + st = lo + (i + 1) * st by omega, show i.toNat + 1 = (i + 1).toNat by omega]
        exact hi'
    simpa [tab] using start
  · rw [if_neg hz]
    exact Ev.neg hz (Ev.now _)
/-- Behind the statement's own first error. -/
theorem behind (value long : Int) (p : Int × Int) (hp : p = place lo hi st value long) (m : List Int × Int) (hm : m = if chk lo hi st = 0 then (marks lo hi st, 0) else ([], chk lo hi st)) :
    Ev (fun k => chancerylaw3_ScalePlaces.j3 k value long p.1 p.2 m.1 m.2 (chk lo hi st) lo hi st) true := by
  refine Ev.step (fun k => by rw [chancerylaw3_ScalePlaces.j3]) ?_
  unfold place at hp
  by_cases hz : chk lo hi st = 0
  · obtain ⟨W, hlt, he, _, q1, q2⟩ := chk_zero lo hi st hz
    unfold Within at W
    rw [if_pos hz] at hm
    rw [if_neg (fun h => h hz)] at hp
    subst hm
    refine Ev.pos hz (Ev.bind (check_ok lo hi st) ?_)
    refine Ev.pos hz (Ev.pos rfl (Ev.neg (by omega) ?_))
    have hml : ((marks lo hi st).length : Int) = (hi - lo) / st + 1 := by unfold marks; rw [tab_length]; omega
    rw [w64 (n := hi - lo) (by omega) (by omega), tdiv_nn (by omega), w64 (n := (hi - lo) / st) (by omega) (by omega), w64 (n := (hi - lo) / st + 1) (by omega) (by omega), show (((marks lo hi st).length : Int) != (hi - lo) / st + 1) = false from bne_eq_false_iff_eq.2 hml]
    refine Ev.step (fun k => by rw [chancerylaw3_ScalePlaces.j4]) (Ev.neg (by simp) ?_)
    refine climb (g := fun i k => chancerylaw3_ScalePlaces.l0 k value long p.1 p.2 (marks lo hi st) ((marks lo hi st).length : Int) i lo hi st) (a := 0) (n := (marks lo hi st).length) (by omega) ?_ fun i i0 i1 hi' => ?_
    · refine Ev.step (fun k => by rw [chancerylaw3_ScalePlaces.l0]) (Ev.neg (by omega) (Ev.bind0 (in_ok _ _ _) ?_))
      by_cases c1 : 0 ≤ long ∧ long ≤ 100000
      · refine Ev.dpos c1 (Ev.bind0 (in_ok _ _ _) ?_)
        by_cases c2 : lo ≤ value ∧ value ≤ hi
        · rw [if_neg (by omega)] at hp
          subst hp
          have p1 : 0 ≤ (value - lo) * long := Int.mul_nonneg (by omega) (by omega)
          have p2 : (value - lo) * long ≤ 8000000000000 * 100000 := Int.mul_le_mul (by omega) (by omega) (by omega) (by omega)
          refine Ev.dpos c2 (Ev.pos rfl ?_)
          rw [w64 (n := value - lo) (by omega) (by omega), w64 (n := (value - lo) * long) (by omega) (by omega), w64 (n := hi - lo) (by omega) (by omega)]
          exact Ev.bind0 (near_ok2 _ _ (by omega) (by omega) (by omega) (by omega)) (Ev.ret (by simp))
        · rw [if_pos (by omega)] at hp
          subst hp
          exact Ev.dneg c2 (Ev.pos rfl (Ev.ret (by simp)))
      · rw [if_pos (by omega)] at hp
        subst hp
        exact Ev.dneg c1 (Ev.pos rfl (Ev.ret (by simp)))
    · have i2 : i < (hi - lo) / st + 1 := by omega
      have m1 : i * st ≤ (hi - lo) / st * st := Int.mul_le_mul_of_nonneg_right (by omega) (by omega)
      have m0 : 0 ≤ i * st := Int.mul_nonneg i0 (by omega)
      have r : rd (marks lo hi st) i = lo + i * st := by unfold marks; exact rd_tab i0 (by omega)
      refine Ev.step (fun k => by rw [chancerylaw3_ScalePlaces.l0]) (Ev.pos i1 (Ev.pos i0 (Ev.pos i1 ?_)))
      rw [r, w64 (n := i * st) (by omega) (by omega), w64 (n := lo + i * st) (by omega) (by omega), w64 (n := i + 1) (by omega) (by omega)]
      exact Ev.pos rfl hi'
  · rw [if_neg hz] at hm
    rw [if_pos hz] at hp
    subst hm
    subst hp
    refine Ev.neg hz (Ev.bind (check_ok lo hi st) ?_)
    exact Ev.pos rfl (Ev.pos rfl (Ev.pos rfl (Ev.pos rfl (Ev.ret (by simp)))))
theorem law_error (value long : Int) (p : Int × Int) (m : List Int × Int) (h : Ev (fun k => chancerylaw3_ScalePlaces.j3 k value long p.1 p.2 m.1 m.2 (chk lo hi st) lo hi st) true) :
    Ev (fun k => (chanceryref3_In.f lo (-4000000000000) 4000000000000).bind fun t121 => (if t121 = true then ((chanceryref3_In.f hi (-4000000000000) 4000000000000).bind fun t122 => (if t122 = true then ((chanceryref3_In.f st 1 4000000000000).bind fun t123 => (chancerylaw3_ScalePlaces.j1 k value long p.1 p.2 m.1 m.2 0 (!t123) lo hi st)) else (chancerylaw3_ScalePlaces.j1 k value long p.1 p.2 m.1 m.2 0 (!t122) lo hi st))) else (chancerylaw3_ScalePlaces.j1 k value long p.1 p.2 m.1 m.2 0 (!t121) lo hi st))) true := by
  have no : ¬ Within lo hi st → Ev (fun k => chancerylaw3_ScalePlaces.j1 k value long p.1 p.2 m.1 m.2 0 true lo hi st) true := by
    intro W
    unfold chk at h
    rw [if_pos W] at h
    exact Ev.step (fun k => by rw [chancerylaw3_ScalePlaces.j1]) (Ev.pos rfl h)
  refine Ev.bind0 (in_ok _ _ _) ?_
  by_cases a1 : -4000000000000 ≤ lo ∧ lo ≤ 4000000000000
  · refine Ev.dpos a1 (Ev.bind0 (in_ok _ _ _) ?_)
    by_cases a2 : -4000000000000 ≤ hi ∧ hi ≤ 4000000000000
    · refine Ev.dpos a2 (Ev.bind0 (in_ok _ _ _) ?_)
      by_cases a3 : 1 ≤ st ∧ st ≤ 4000000000000
      · rw [decide_eq_true a3]
        have W : Within lo hi st := by unfold Within; omega
        unfold chk at h
        rw [if_neg (fun h => h W)] at h
        refine Ev.step (fun k => by rw [chancerylaw3_ScalePlaces.j1]) (Ev.neg (by simp) ?_)
        by_cases b1 : lo ≥ hi
        · rw [if_pos b1] at h
          exact Ev.pos b1 h
        · rw [if_neg b1] at h
          refine Ev.neg b1 (Ev.neg (by omega) ?_)
          have d := div_bd (hi - lo) st (by omega) (by omega) (by omega)
          have zt := zero_tmod lo st (by omega)
          rw [w64 (n := hi - lo) (by omega) (by omega), tmod_nn (a := hi - lo) (by omega)]
          have go : ((hi - lo) % st ≠ 0 ∨ lo % st ≠ 0) → Ev (fun k => chancerylaw3_ScalePlaces.j2 k value long p.1 p.2 m.1 m.2 0 true lo hi st) true := fun g => by
            rw [if_pos g] at h
            exact Ev.step (fun k => by rw [chancerylaw3_ScalePlaces.j2]) (Ev.pos rfl h)
          by_cases b2 : lo % st = 0
          · refine Ev.pos (zt.2 b2) ?_
            by_cases b3 : (hi - lo) % st = 0
            · rw [if_neg (by omega)] at h
              rw [show ((hi - lo) % st != 0) = false from bne_eq_false_iff_eq.2 b3]
              refine Ev.step (fun k => by rw [chancerylaw3_ScalePlaces.j2]) (Ev.neg (by simp) (Ev.neg (by omega) ?_))
              rw [w64 (n := hi - lo) (by omega) (by omega), tdiv_nn (by omega), w64 (n := (hi - lo) / st) (by omega) (by omega)]
              by_cases b4 : (hi - lo) / st > 500
              · rw [if_pos b4] at h; exact Ev.pos b4 h
              · rw [if_neg b4] at h; exact Ev.neg b4 h
            · rw [show ((hi - lo) % st != 0) = true from bne_iff_ne.2 b3]
              exact go (.inl b3)
          · refine Ev.neg (fun e => b2 (zt.1 e)) ?_
            rw [show (Int.tmod lo st != 0) = true from bne_iff_ne.2 (fun e => b2 (zt.1 e))]
            exact go (.inr b2)
      · rw [decide_eq_false a3]
        exact no fun W => by unfold Within at W; omega
    · refine Ev.dneg a2 ?_
      rw [decide_eq_false a2]
      exact no fun W => by unfold Within at W; omega
  · refine Ev.dneg a1 ?_
    rw [decide_eq_false a1]
    exact no fun W => by unfold Within at W; omega
end
end ScalePl
open ScalePl in
theorem ScalePlaces (lo hi st value long : Int) : ∃ k, chancerylaw3_ScalePlaces.f k lo hi st value long = some true := by
  refine Ev.rounds (r := true) ?_
  unfold chancerylaw3_ScalePlaces.f
  refine Ev.bind (a := (60, 0)) (Ev.out (place_ok 0 50 10 3 1000) (by decide +kernel)) (Ev.pos rfl ?_)
  refine Ev.step (fun k => by rw [chancerylaw3_ScalePlaces.j0]) (Ev.neg (by simp) ?_)
  refine Ev.bind (place_ok lo hi st value long) (Ev.bind (marks_ok lo hi st) ?_)
  exact law_error lo hi st value long _ _ (behind lo hi st value long _ rfl _ rfl)
end Go.Proofs.Ytihmbddneapooaa.Pure
