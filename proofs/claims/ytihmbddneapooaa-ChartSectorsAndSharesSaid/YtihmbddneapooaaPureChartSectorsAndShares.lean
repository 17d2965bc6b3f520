/- Proved: chart.Sectors and chart.Shares answer as the statement says, for every chart and every list of numbers that the form lets in: a statement over numbers and lists alone, about the functions that print.sh printed. Conditions: the ones that the reading of the arguments gives (ranges of numbers, sizes). -/
import Derived.Test.YtihmbddneapooaaPChartSectorsAndSharesx8
import Derived.Test.YtihmbddneapooaaLib
namespace Go.Proofs.Ytihmbddneapooaa.Pure
open Go.RowKit Go.Proofs.Ytihmbddneapooaa.PChartSectorsAndShares Go.Proofs.YtihmbddneapooaaW.PrintWords Go.Proofs.YtihmbddneapooaaW.PrintLast Go.Proofs.YtihmbddneapooaaW.PrintMore Go.Proofs.Ytihmbddneapooaa.Lib

namespace ChartShares
theorem sameInts_from (xs ys : List Int) (hx : xs.length ≤ 9223372036854775806) (hl : xs.length = ys.length) (d : Nat) : ∀ i : Int, 0 ≤ i → i + d = xs.length → (∀ j, 0 ≤ j → j < i → rd xs j = rd ys j) → Ev (fun k => chanceryref3_SameInts.l0 k xs ys (xs.length : Int) i) (decide (xs = ys)) := by
  induction d with
  | zero =>
    intro i h0 hi hp
    refine Ev.step (fun k => by rw [chanceryref3_SameInts.l0]) (Ev.neg (by omega) (Ev.ret ?_))
    rw [eq_comm, decide_eq_true_eq]
    exact ext_rd hl fun j a b => hp j a (by omega)
  | succ d ih =>
    intro i h0 hi hp
    refine Ev.step (fun k => by rw [chanceryref3_SameInts.l0]) (Ev.pos (by omega) (Ev.pos (by omega) (Ev.pos (by omega) (Ev.pos (by omega) ?_))))
    by_cases e : rd xs i = rd ys i
    · refine Ev.pos e ?_
      rw [w64 (n := i + 1) (by omega) (by omega)]
      refine ih (i + 1) (by omega) (by omega) fun j a b => ?_
      by_cases c : j = i
      · rw [c]; exact e
      · exact hp j a (by omega)
    · refine Ev.neg e (Ev.ret ?_)
      rw [eq_comm, decide_eq_false_iff_not]
      intro h; rw [h] at e; exact e rfl
theorem sameInts_ok (xs ys : List Int) (hx : xs.length ≤ 9223372036854775806) : Ev (fun k => chanceryref3_SameInts.f k xs ys) (decide (xs = ys)) := by
  unfold chanceryref3_SameInts.f
  by_cases hl : xs.length = ys.length
  · exact Ev.pos (by omega) (sameInts_from xs ys hx hl xs.length 0 (by omega) (by omega) fun j a b => by omega)
  · refine Ev.neg (by omega) (Ev.ret ?_)
    rw [eq_comm, decide_eq_false_iff_not]
    intro h; exact hl (by rw [h])
theorem in_ok (a b c : Int) : chanceryref3_In.f a b c = some (decide (b ≤ a ∧ a ≤ c)) := by
  unfold chanceryref3_In.f
  by_cases h : a ≥ b
  · rw [if_pos h]; congr 1; simp; omega
  · rw [if_neg h]; congr 1; simp; omega
theorem down_ok (a b : Int) (hb : 1 ≤ b) (hb2 : b ≤ 2000000000000000000) (h1 : -2000000000000000000 ≤ a) (h2 : a ≤ 2000000000000000000) : chanceryref3_Down.f a b = some (a / b) := by
  have e := Int.mul_ediv_add_emod a b
  have e2 := Int.emod_nonneg a (by omega : b ≠ 0)
  have e3 := Int.emod_lt_of_pos a (by omega : 0 < b)
  have hc : b * (a / b) = a / b * b := Int.mul_comm _ _
  have b1 : -2000000000000000000 ≤ a / b := (Int.le_ediv_iff_mul_le (by omega)).2 (by
    have : (-2000000000000000000 : Int) * b ≤ -2000000000000000000 * 1 := Int.mul_le_mul_of_nonpos_left (by omega) (by omega)
    omega)
  have b2 : a / b < 2000000000000000001 := (Int.ediv_lt_iff_lt_mul (by omega)).2 (by
    have : (2000000000000000001 : Int) * 1 ≤ 2000000000000000001 * b := Int.mul_le_mul_of_nonneg_left (by omega) (by omega)
    omega)
  unfold chanceryref3_Down.f
  rw [if_neg (by omega), tdiv_down a b (by omega)]
  by_cases h : a < 0 ∧ a % b ≠ 0
  · have e4 : (a / b + 1) * b = a / b * b + b := by rw [Int.add_mul]; omega
    rw [if_pos h, w64 (n := a / b + 1) (by omega) (by omega), w64 (n := (a / b + 1) * b) (by omega) (by omega), if_pos (by omega), w64 (by omega) (by omega)]; congr 1; omega
  · rw [if_neg h, w64 (n := a / b) (by omega) (by omega), w64 (n := a / b * b) (by omega) (by omega), if_neg (by omega)]
theorem near_ok (a b : Int) (hb : 1 ≤ b) (hb2 : b ≤ 400000000000000000) (h1 : -400000000000000000 ≤ a) (h2 : a ≤ 400000000000000000) : chanceryref3_Near.f a b = some ((2 * a + b) / (2 * b)) := by
  unfold chanceryref3_Near.f
  rw [w64 (n := 2 * a) (by omega) (by omega), w64 (n := 2 * a + b) (by omega) (by omega), w64 (n := 2 * b) (by omega) (by omega), down_ok _ _ (by omega) (by omega) (by omega) (by omega)]
  rfl
/-! ### the first error of a chart -/
def Good (kind x : Int) : Prop := -83333333333 ≤ x ∧ x ≤ 83333333333 ∧ (kind = 3 ∨ kind = 1 → 0 ≤ x)
instance (kind x : Int) : Decidable (Good kind x) := by unfold Good; infer_instance
theorem rd_L2_eq (xs : List (List Int)) (i : Int) : rd_L2 xs i = xs.getD i.toNat [] := rfl
section
variable (kind : Int) (names : List ByteArray) (ser : List (List Int))
def Row (s : List Int) : Prop := s.length = names.length ∧ ∀ i : Int, 0 ≤ i → i < s.length → Good kind (rd s i)
theorem check_row (j r : Int) (s : List Int) (hs : s.length ≤ 1000) (h : Ev (fun k => chart_Check.l0 k ser (ser.length : Int) (wrap64 (j + 1)) kind names ser) r) (hb : ∀ i : Int, 0 ≤ i → i < s.length → Good kind (rd s i)) :
    Ev (fun k => chart_Check.l1 k ser (ser.length : Int) j s (s.length : Int) 0 kind names ser) r := by
  refine climb (g := fun i k => chart_Check.l1 k ser (ser.length : Int) j s (s.length : Int) i kind names ser) (n := s.length) (by omega) (Ev.step (fun k => by rw [chart_Check.l1]) (Ev.neg (by omega) h)) fun i h0 h1 hn => ?_
  obtain ⟨g1, g2, g3⟩ := hb i h0 h1
  refine Ev.step (fun k => by rw [chart_Check.l1]) (Ev.pos h1 (Ev.pos h0 (Ev.pos h1 (Ev.neg (by omega) (Ev.neg (by omega) ?_)))))
  rw [w64 (n := i + 1) (by omega) (by omega)]
  by_cases hz : rd s i < 0
  · exact Ev.pos hz (Ev.neg (fun e => by have := g3 (.inl e); omega) (Ev.neg (fun e => by have := g3 (.inr e); omega) hn))
  · exact Ev.neg hz hn
theorem check_row_bad (j b : Int) (s : List Int) (hs : s.length ≤ 1000) (b0 : 0 ≤ b) (b1 : b < s.length) (hbad : ¬ Good kind (rd s b)) (hb : ∀ i : Int, 0 ≤ i → i < b → Good kind (rd s i)) :
    Ev (fun k => chart_Check.l1 k ser (ser.length : Int) j s (s.length : Int) 0 kind names ser) 2 := by
  refine climb (g := fun i k => chart_Check.l1 k ser (ser.length : Int) j s (s.length : Int) i kind names ser) (n := b) (by omega) (Ev.step (fun k => by rw [chart_Check.l1]) (Ev.pos b1 (Ev.pos b0 (Ev.pos b1 ?_)))) fun i h0 h1 hn => ?_
  · by_cases c1 : rd s b < -83333333333
    · exact Ev.pos c1 (Ev.now _)
    · refine Ev.neg c1 ?_
      by_cases c2 : rd s b > 83333333333
      · exact Ev.pos c2 (Ev.now _)
      · refine Ev.neg c2 ?_
        by_cases c3 : rd s b < 0
        · refine Ev.pos c3 ?_
          by_cases c4 : kind = 3
          · exact Ev.pos c4 (Ev.now _)
          · refine Ev.neg c4 ?_
            by_cases c5 : kind = 1
            · exact Ev.pos c5 (Ev.now _)
            · exact absurd ⟨by omega, by omega, fun h => by omega⟩ hbad
        · exact absurd ⟨by omega, by omega, fun h => by omega⟩ hbad
  · obtain ⟨g1, g2, g3⟩ := hb i h0 h1
    refine Ev.step (fun k => by rw [chart_Check.l1]) (Ev.pos (by omega) (Ev.pos h0 (Ev.pos (by omega) (Ev.neg (by omega) (Ev.neg (by omega) ?_)))))
    rw [w64 (n := i + 1) (by omega) (by omega)]
    by_cases hz : rd s i < 0
    · exact Ev.pos hz (Ev.neg (fun e => by have := g3 (.inl e); omega) (Ev.neg (fun e => by have := g3 (.inr e); omega) hn))
    · exact Ev.neg hz hn
theorem error_row_step (j i r : Int) (s : List Int) (hs : s.length ≤ 1000) (h0 : 0 ≤ i) (h1 : i < s.length) (h : if Good kind (rd s i) then Ev (fun k => chancerylaw3_chartError.l1 k ser (ser.length : Int) j s (s.length : Int) (i + 1) kind names ser) r else r = 2) :
    Ev (fun k => chancerylaw3_chartError.l1 k ser (ser.length : Int) j s (s.length : Int) i kind names ser) r := by
  refine Ev.step (fun k => by rw [chancerylaw3_chartError.l1]) (Ev.pos h1 (Ev.pos h0 (Ev.pos h1 ?_)))
  have low : kind = 3 ∨ kind = 1 → Ev (fun k => chancerylaw3_chartError.j5 k (rd s i) (-83333333333) ser (ser.length : Int) j s (s.length : Int) i true kind names ser) r := by
    intro hk
    refine Ev.step (fun k => by rw [chancerylaw3_chartError.j5]) (Ev.pos rfl (Ev.bind0 (in_ok _ _ _) ?_))
    by_cases g : 0 ≤ rd s i ∧ rd s i ≤ 83333333333
    · rw [if_pos ⟨by omega, g.2, fun _ => g.1⟩] at h
      refine Ev.dpos g ?_
      rw [w64 (n := i + 1) (by omega) (by omega)]
      exact h
    · rw [if_neg (fun c : Good kind (rd s i) => g ⟨c.2.2 hk, c.2.1⟩)] at h
      exact Ev.dneg g (Ev.ret h.symm)
  have any : ¬ (kind = 3 ∨ kind = 1) → Ev (fun k => chancerylaw3_chartError.j5 k (rd s i) (-83333333333) ser (ser.length : Int) j s (s.length : Int) i false kind names ser) r := by
    intro hk
    refine Ev.step (fun k => by rw [chancerylaw3_chartError.j5]) (Ev.neg (by simp) (Ev.bind0 (in_ok _ _ _) ?_))
    by_cases g : -83333333333 ≤ rd s i ∧ rd s i ≤ 83333333333
    · rw [if_pos ⟨g.1, g.2, fun c => absurd c hk⟩] at h
      refine Ev.dpos g ?_
      rw [w64 (n := i + 1) (by omega) (by omega)]
      exact h
    · rw [if_neg (fun c : Good kind (rd s i) => g ⟨c.1, c.2.1⟩)] at h
      exact Ev.dneg g (Ev.ret h.symm)
  by_cases k3 : kind = 3
  · exact Ev.pos k3 (low (.inl k3))
  · refine Ev.neg k3 ?_
    by_cases k1 : kind = 1
    · rw [show (kind == 1) = true by simpa using k1]; exact low (.inr k1)
    · rw [show (kind == 1) = false by simpa using k1]; exact any (by omega)
theorem rows (hn : names.length ≤ 200) (hser : ser.length ≤ 12) : ∃ e : Int, Ev (fun k => chart_Check.l0 k ser (ser.length : Int) 0 kind names ser) e ∧ Ev (fun k => chancerylaw3_chartError.l0 k ser (ser.length : Int) 0 kind names ser) e ∧
    (e = 0 → ∀ s ∈ ser, Row kind names s) := by
  rcases first_bad (fun j => Row kind names (ser.getD j.toNat [])) ser.length with hall | ⟨b, b0, b1, hbad, hb⟩
  · refine ⟨0, ?_, ?_, fun _ s hs => ?_⟩
    · refine climb (g := fun j k => chart_Check.l0 k ser (ser.length : Int) j kind names ser) (n := ser.length) (by omega) (Ev.step (fun k => by rw [chart_Check.l0]) (Ev.neg (by omega) (Ev.now _))) fun j h0 h1 hj => ?_
      obtain ⟨r1, r2⟩ := hall j h0 h1
      refine Ev.step (fun k => by rw [chart_Check.l0]) (Ev.pos h1 (Ev.pos h0 (Ev.pos h1 (Ev.pos (by rw [rd_L2_eq]; omega) ?_))))
      exact check_row kind names ser j 0 _ (by rw [rd_L2_eq]; omega) (by rw [w64 (n := j + 1) (by omega) (by omega)]; exact hj) r2
    · refine climb (g := fun j k => chancerylaw3_chartError.l0 k ser (ser.length : Int) j kind names ser) (n := ser.length) (by omega) (Ev.step (fun k => by rw [chancerylaw3_chartError.l0]) (Ev.neg (by omega) (Ev.now _))) fun j h0 h1 hj => ?_
      obtain ⟨r1, r2⟩ := hall j h0 h1
      refine Ev.step (fun k => by rw [chancerylaw3_chartError.l0]) (Ev.pos h1 (Ev.pos h0 (Ev.pos h1 (Ev.pos (by rw [rd_L2_eq]; omega) ?_))))
      rw [rd_L2_eq]
      generalize ser.getD j.toNat [] = s at r1 r2
      refine climb (g := fun i k => chancerylaw3_chartError.l1 k ser (ser.length : Int) j s (s.length : Int) i kind names ser) (n := s.length) (by omega) (Ev.step (fun k => by rw [chancerylaw3_chartError.l1]) (Ev.neg (by omega) ?_)) fun i i0 i1 hi => ?_
      · rw [w64 (n := j + 1) (by omega) (by omega)]; exact hj
      · exact error_row_step kind names ser j i 0 s (by omega) i0 i1 (by rw [if_pos (r2 i i0 i1)]; exact hi)
    · obtain ⟨i, i0, i1, e⟩ := mem_getD [] hs
      rw [← e]; exact hall i i0 i1
  · have first : ∀ r : Int, Ev (fun k => chart_Check.l0 k ser (ser.length : Int) b kind names ser) r → Ev (fun k => chart_Check.l0 k ser (ser.length : Int) 0 kind names ser) r := fun r hr => by
      refine climb (g := fun j k => chart_Check.l0 k ser (ser.length : Int) j kind names ser) (n := b) b0 hr fun j h0 h1 hj => ?_
      obtain ⟨r1, r2⟩ := hb j h0 h1
      refine Ev.step (fun k => by rw [chart_Check.l0]) (Ev.pos (by omega) (Ev.pos h0 (Ev.pos (by omega) (Ev.pos (by rw [rd_L2_eq]; omega) ?_))))
      exact check_row kind names ser j r _ (by rw [rd_L2_eq]; omega) (by rw [w64 (n := j + 1) (by omega) (by omega)]; exact hj) r2
    have second : ∀ r : Int, Ev (fun k => chancerylaw3_chartError.l0 k ser (ser.length : Int) b kind names ser) r → Ev (fun k => chancerylaw3_chartError.l0 k ser (ser.length : Int) 0 kind names ser) r := fun r hr => by
      refine climb (g := fun j k => chancerylaw3_chartError.l0 k ser (ser.length : Int) j kind names ser) (n := b) b0 hr fun j h0 h1 hj => ?_
      obtain ⟨r1, r2⟩ := hb j h0 h1
      refine Ev.step (fun k => by rw [chancerylaw3_chartError.l0]) (Ev.pos (by omega) (Ev.pos h0 (Ev.pos (by omega) (Ev.pos (by rw [rd_L2_eq]; omega) ?_))))
      rw [rd_L2_eq]
      generalize ser.getD j.toNat [] = s at r1 r2
      refine climb (g := fun i k => chancerylaw3_chartError.l1 k ser (ser.length : Int) j s (s.length : Int) i kind names ser) (n := s.length) (by omega) (Ev.step (fun k => by rw [chancerylaw3_chartError.l1]) (Ev.neg (by omega) ?_)) fun i i0 i1 hi => ?_
      · rw [w64 (n := j + 1) (by omega) (by omega)]; exact hj
      · exact error_row_step kind names ser j i r s (by omega) i0 i1 (by rw [if_pos (r2 i i0 i1)]; exact hi)
    by_cases hl : (ser.getD b.toNat []).length = names.length
    · rcases first_bad (fun i => Good kind (rd (ser.getD b.toNat []) i)) (ser.getD b.toNat []).length with ha | ⟨c, c0, c1, cbad, cb⟩
      · exact absurd ⟨hl, ha⟩ hbad
      · refine ⟨2, first 2 ?_, second 2 ?_, fun h => by omega⟩
        · refine Ev.step (fun k => by rw [chart_Check.l0]) (Ev.pos b1 (Ev.pos b0 (Ev.pos b1 (Ev.pos (by rw [rd_L2_eq]; omega) ?_))))
          exact check_row_bad kind names ser b c _ (by rw [rd_L2_eq]; omega) c0 c1 cbad cb
        · refine Ev.step (fun k => by rw [chancerylaw3_chartError.l0]) (Ev.pos b1 (Ev.pos b0 (Ev.pos b1 (Ev.pos (by rw [rd_L2_eq]; omega) ?_))))
          rw [rd_L2_eq]
          generalize ser.getD b.toNat [] = s at hl c1 cbad cb
          refine climb (g := fun i k => chancerylaw3_chartError.l1 k ser (ser.length : Int) b s (s.length : Int) i kind names ser) (n := c) c0 ?_ fun i i0 i1 hi => ?_
          · exact error_row_step kind names ser b c 2 s (by omega) c0 c1 (by rw [if_neg cbad])
          · exact error_row_step kind names ser b i 2 s (by omega) i0 (by omega) (by rw [if_pos (cb i i0 i1)]; exact hi)
    · refine ⟨14, first 14 ?_, second 14 ?_, fun h => by omega⟩
      · exact Ev.step (fun k => by rw [chart_Check.l0]) (Ev.pos b1 (Ev.pos b0 (Ev.pos b1 (Ev.neg (by rw [rd_L2_eq]; omega) (Ev.now _)))))
      · exact Ev.step (fun k => by rw [chancerylaw3_chartError.l0]) (Ev.pos b1 (Ev.pos b0 (Ev.pos b1 (Ev.neg (by rw [rd_L2_eq]; omega) (Ev.now _)))))
/-- Check and the statement's own first error are the same. -/
theorem errors : ∃ e : Int, Ev (fun k => chart_Check.f k kind names ser) e ∧ Ev (fun k => chancerylaw3_chartError.f k kind names ser) e ∧
    (e = 0 → 1 ≤ names.length ∧ names.length ≤ 200 ∧ 1 ≤ ser.length ∧ ser.length ≤ 12 ∧ ∀ s ∈ ser, Row kind names s) := by
  have h0 : ∀ r b, Ev (fun k => chart_Check.j0 k b kind names ser) r → b = decide (kind < 0 ∨ kind > 3) → Ev (fun k => chart_Check.f k kind names ser) r := by
    intro r b h e
    unfold chart_Check.f
    by_cases c : kind < 0
    · refine Ev.pos c ?_
      rw [show b = true by rw [e]; simp; omega] at h; exact h
    · refine Ev.neg c ?_
      rw [show b = decide (kind > 3) by rw [e]; simp; omega] at h; exact h
  by_cases hk : kind < 0 ∨ kind > 3
  · refine ⟨8, h0 8 true (Ev.step (fun k => by rw [chart_Check.j0]) (Ev.pos rfl (Ev.now _))) (by simp; omega), ?_, fun h => by omega⟩
    unfold chancerylaw3_chartError.f
    exact Ev.bind0 (in_ok _ _ _) (Ev.dneg (by omega) (Ev.now _))
  · by_cases hz : names.length = 0 ∨ ser.length = 0
    · refine ⟨7, h0 7 false (Ev.step (fun k => by rw [chart_Check.j0]) (Ev.neg (by simp) ?_)) (by simp; omega), ?_, fun h => by omega⟩
      · have y : Ev (fun k => chart_Check.j1 k true kind names ser) 7 := Ev.step (fun k => by rw [chart_Check.j1]) (Ev.pos rfl (Ev.now _))
        by_cases c : (names.length : Int) = 0
        · exact Ev.pos c y
        · refine Ev.neg c ?_
          rw [show ((ser.length : Int) == 0) = true from beq_iff_eq.2 (by omega)]; exact y
      · unfold chancerylaw3_chartError.f
        refine Ev.bind0 (in_ok _ _ _) (Ev.dpos (by omega) ?_)
        have y : Ev (fun k => chancerylaw3_chartError.j0 k true kind names ser) 7 := Ev.step (fun k => by rw [chancerylaw3_chartError.j0]) (Ev.pos rfl (Ev.now _))
        by_cases c : (names.length : Int) = 0
        · exact Ev.pos c y
        · refine Ev.neg c ?_
          rw [show ((ser.length : Int) == 0) = true from beq_iff_eq.2 (by omega)]; exact y
    · have h1 : ∀ r, Ev (fun k => chart_Check.j1 k false kind names ser) r → Ev (fun k => chart_Check.f k kind names ser) r := fun r h => by
        refine h0 r false (Ev.step (fun k => by rw [chart_Check.j0]) (Ev.neg (by simp) (Ev.neg (by omega) ?_))) (by simp; omega)
        rw [show ((ser.length : Int) == 0) = false from beq_eq_false_iff_ne.2 (by omega)]; exact h
      have k1 : ∀ r, Ev (fun k => chancerylaw3_chartError.j0 k false kind names ser) r → Ev (fun k => chancerylaw3_chartError.f k kind names ser) r := fun r h => by
        unfold chancerylaw3_chartError.f
        refine Ev.bind0 (in_ok _ _ _) (Ev.dpos (by omega) (Ev.neg (by omega) ?_))
        rw [show ((ser.length : Int) == 0) = false from beq_eq_false_iff_ne.2 (by omega)]; exact h
      by_cases hb : names.length > 200 ∨ ser.length > 12
      · refine ⟨3, h1 3 (Ev.step (fun k => by rw [chart_Check.j1]) (Ev.neg (by simp) ?_)), k1 3 (Ev.step (fun k => by rw [chancerylaw3_chartError.j0]) (Ev.neg (by simp) ?_)), fun h => by omega⟩
        · have y : Ev (fun k => chart_Check.j2 k true kind names ser) 3 := Ev.step (fun k => by rw [chart_Check.j2]) (Ev.pos rfl (Ev.now _))
          by_cases c : (names.length : Int) > 200
          · exact Ev.pos c y
          · refine Ev.neg c ?_
            rw [show decide ((ser.length : Int) > 12) = true by simp; omega]; exact y
        · have y : Ev (fun k => chancerylaw3_chartError.j1 k true kind names ser) 3 := Ev.step (fun k => by rw [chancerylaw3_chartError.j1]) (Ev.pos rfl (Ev.now _))
          by_cases c : (names.length : Int) > 200
          · exact Ev.pos c y
          · refine Ev.neg c ?_
            rw [show decide ((ser.length : Int) > 12) = true by simp; omega]; exact y
      · have h2 : ∀ r, Ev (fun k => chart_Check.j2 k false kind names ser) r → Ev (fun k => chart_Check.f k kind names ser) r := fun r h => by
          refine h1 r (Ev.step (fun k => by rw [chart_Check.j1]) (Ev.neg (by simp) (Ev.neg (by omega) ?_)))
          rw [show decide ((ser.length : Int) > 12) = false by simp; omega]; exact h
        have k2 : ∀ r, Ev (fun k => chancerylaw3_chartError.j1 k false kind names ser) r → Ev (fun k => chancerylaw3_chartError.f k kind names ser) r := fun r h => by
          refine k1 r (Ev.step (fun k => by rw [chancerylaw3_chartError.j0]) (Ev.neg (by simp) (Ev.neg (by omega) ?_)))
          rw [show decide ((ser.length : Int) > 12) = false by simp; omega]; exact h
        by_cases hf : kind = 3 ∧ ser.length > 1
        · refine ⟨4, h2 4 (Ev.step (fun k => by rw [chart_Check.j2]) (Ev.neg (by simp) (Ev.pos hf.1 ?_))), k2 4 (Ev.step (fun k => by rw [chancerylaw3_chartError.j1]) (Ev.neg (by simp) (Ev.pos hf.1 (Ev.pos (by omega) (Ev.now _))))), fun h => by omega⟩
          rw [show decide ((ser.length : Int) > 1) = true by simp; omega]
          exact Ev.step (fun k => by rw [chart_Check.j3]) (Ev.pos rfl (Ev.now _))
        · obtain ⟨e, e1, e2, e3⟩ := rows kind names ser (by omega) (by omega)
          refine ⟨e, h2 e (Ev.step (fun k => by rw [chart_Check.j2]) (Ev.neg (by simp) ?_)), k2 e (Ev.step (fun k => by rw [chancerylaw3_chartError.j1]) (Ev.neg (by simp) ?_)), fun h => ⟨by omega, by omega, by omega, by omega, e3 h⟩⟩
          · have y : Ev (fun k => chart_Check.j3 k false kind names ser) e := Ev.step (fun k => by rw [chart_Check.j3]) (Ev.neg (by simp) e1)
            by_cases c : kind = 3
            · refine Ev.pos c ?_
              rw [show decide ((ser.length : Int) > 1) = false by simp; omega]; exact y
            · exact Ev.neg c y
          · have y : Ev (fun k => chancerylaw3_chartError.j2 k kind names ser) e := Ev.step (fun k => by rw [chancerylaw3_chartError.j2]) e2
            by_cases c : kind = 3
            · exact Ev.pos c (Ev.neg (by omega) y)
            · exact Ev.neg c y
end
/-! ### sectors -/
section
variable (kind : Int) (names : List ByteArray) (ser : List (List Int)) (s : List Int)
/-- The end of the sector of the value ahead of place i. -/
def turn (i : Int) : Int := if i ≤ 0 then 0 else if upto s s.length > 0 then (2 * (upto s i * 3600) + upto s s.length) / (2 * upto s s.length) else 0
theorem turn_next (i : Int) (h : 0 ≤ i) : turn s (i + 1) = if upto s s.length > 0 then (2 * (upto s (i + 1) * 3600) + upto s s.length) / (2 * upto s s.length) else 0 := by
  unfold turn; rw [if_neg (by omega)]
/-- The sectors of the values ahead of place i. -/
def secs (i : Nat) : List S61 := tab (fun n => ⟨n, turn s n, turn s (n + 1)⟩) i
theorem secs_length (i : Nat) : (secs s i).length = i := tab_length _ _
theorem secs_next (i : Nat) : secs s (i + 1) = secs s i ++ [⟨(i : Int), turn s i, turn s ((i : Int) + 1)⟩] := by
  exact tab_snoc _ _
theorem secs_at (n : Nat) (i : Int) (h0 : 0 ≤ i) (h : i < n) : rd_T61 (secs s n) i = ⟨i, turn s i, turn s (i + 1)⟩ := tab_get _ h0 h
theorem sums (hs : s.length ≤ 200) (hg : ∀ i : Int, 0 ≤ i → i < s.length → 0 ≤ rd s i ∧ rd s i ≤ 83333333333) (i : Int) (h0 : 0 ≤ i) (h : i ≤ s.length) : 0 ≤ upto s i ∧ upto s i ≤ 16666666666600 := by
  have := upto_bd (xs := s) (lo := 0) (hi := 83333333333) hg i h0 h
  omega
theorem sums_le (hg : ∀ i : Int, 0 ≤ i → i < s.length → 0 ≤ rd s i ∧ rd s i ≤ 83333333333) (i : Int) (h0 : 0 ≤ i) (h : i ≤ s.length) : upto s i ≤ upto s s.length := by
  have key : ∀ d : Nat, i + d ≤ s.length → upto s i ≤ upto s (i + d) := by
    intro d
    induction d with
    | zero => intro _; simp
    | succ d ih =>
      intro hd
      have h1 := ih (by omega)
      have h2 := upto_succ (xs := s) (i := i + d) (by omega) (by omega)
      have h3 := hg (i + d) (by omega) (by omega)
      rw [show i + ((d + 1 : Nat) : Int) = i + d + 1 by omega]
      omega
  have := key (s.length - i.toNat) (by omega)
  rw [show i + ((s.length - i.toNat : Nat) : Int) = s.length by omega] at this
  exact this
theorem sectors (hs1 : 1 ≤ s.length) (hs : s.length ≤ 200) (hg : ∀ i : Int, 0 ≤ i → i < s.length → 0 ≤ rd s i ∧ rd s i ≤ 83333333333) (hser : 1 ≤ ser.length) (h0 : rd_L2 ser 0 = s) :
    Ev (fun k => chart_Sectors.l0 k 0 s (s.length : Int) 0 kind names ser) (secs s s.length, 0) := by
  have S := sums s hs hg
  have e0 : (0 : Int) = upto s 0 := by rw [upto_zero]
  rw [show Ev (fun k => chart_Sectors.l0 k 0 s (s.length : Int) 0 kind names ser) (secs s s.length, 0) = Ev (fun k => chart_Sectors.l0 k (upto s 0) s (s.length : Int) 0 kind names ser) (secs s s.length, 0) by rw [upto_zero]]
  refine climb (g := fun i k => chart_Sectors.l0 k (upto s i) s (s.length : Int) i kind names ser) (n := s.length) (by omega) ?_ fun i i0 i1 hi => ?_
  · refine Ev.step (fun k => by rw [chart_Sectors.l0]) (Ev.neg (by omega) (Ev.pos (by omega) ?_))
    rw [h0]
    have start : Ev (fun k => chart_Sectors.l1 k (upto s s.length) (secs s (0 : Int).toNat) (upto s 0) (turn s 0) s (s.length : Int) 0) (secs s s.length, 0) := by
      refine climb (g := fun i k => chart_Sectors.l1 k (upto s s.length) (secs s i.toNat) (upto s i) (turn s i) s (s.length : Int) i) (n := s.length) (by omega) ?_ fun i i0 i1 hi => ?_
      · exact Ev.step (fun k => by rw [chart_Sectors.l1]) (Ev.neg (by omega) (Ev.ret (by simp)))
      · have u := upto_succ (xs := s) i0 i1
        have b1 := S i i0 (by omega)
        have b2 := S (i + 1) (by omega) (by omega)
        have b3 := S s.length (by omega) (by omega)
        have tn := turn_next s i i0
        have sn := secs_next s i.toNat
        rw [show ((i.toNat : Nat) : Int) = i by omega] at sn
        rw [show (i + 1).toNat = i.toNat + 1 by omega, sn] at hi
        refine Ev.step (fun k => by rw [chart_Sectors.l1]) (Ev.pos i1 (Ev.pos i0 (Ev.pos i1 ?_)))
        rw [← u, w64 (n := upto s (i + 1)) (by omega) (by omega), w64 (n := i + 1) (by omega) (by omega)]
        by_cases hp : upto s s.length > 0
        · rw [if_pos hp] at tn
          refine Ev.pos hp ?_
          rw [w64 (n := 2 * upto s s.length) (by omega) (by omega), w64 (n := 2 * upto s (i + 1)) (by omega) (by omega), w64 (n := 2 * upto s (i + 1) * 3600) (by omega) (by omega), w64 (n := 2 * upto s (i + 1) * 3600 + upto s s.length) (by omega) (by omega), tdiv_nn (by omega),
            show 2 * upto s (i + 1) * 3600 = 2 * (upto s (i + 1) * 3600) by omega, ← tn]
          have q : -1 ≤ turn s (i + 1) ∧ turn s (i + 1) ≤ 1000000000000000000 := by
            rw [tn]
            refine ⟨(Int.le_ediv_iff_mul_le (by omega)).2 (by omega), ?_⟩
            have : (2 * (upto s (i + 1) * 3600) + upto s s.length) / (2 * upto s s.length) ≤ 2 * (upto s (i + 1) * 3600) + upto s s.length := Int.ediv_le_self _ (by omega)
            omega
          rw [w64 (n := turn s (i + 1)) (by omega) (by omega)]
          refine Ev.neg (by omega) (Ev.pos (by rw [secs_length]; omega) ?_)
          exact hi
        · rw [if_neg hp] at tn
          refine Ev.neg hp (Ev.pos (by rw [secs_length]; omega) ?_)
          rw [tn] at hi
          exact hi
    rw [upto_zero] at start
    simpa [secs, tab, turn] using start
  · have u := upto_succ (xs := s) i0 i1
    have b2 := S (i + 1) (by omega) (by omega)
    refine Ev.step (fun k => by rw [chart_Sectors.l0]) (Ev.pos i1 (Ev.pos i0 (Ev.pos i1 ?_)))
    rw [← u, w64 (n := upto s (i + 1)) (by omega) (by omega), w64 (n := i + 1) (by omega) (by omega)]
    exact hi
end
/-! ### shares -/
/-- How many of the places ahead of n have p. -/
def cnt (p : Nat → Bool) : Nat → Nat
  | 0 => 0
  | n + 1 => cnt p n + if p n then 1 else 0
theorem cnt_congr {p q : Nat → Bool} {n : Nat} (h : ∀ i, i < n → p i = q i) : cnt p n = cnt q n := by
  induction n with
  | zero => rfl
  | succ n ih => unfold cnt; rw [ih fun i hi => h i (by omega), h n (by omega)]
theorem cnt_le {p q : Nat → Bool} {n : Nat} (h : ∀ i, i < n → p i = true → q i = true) : cnt p n ≤ cnt q n := by
  induction n with
  | zero => exact Nat.le_refl _
  | succ n ih =>
    unfold cnt
    have h1 := ih fun i hi => h i (by omega)
    have h2 := h n (by omega)
    cases hp : p n <;> cases hq : q n <;> simp_all <;> omega
theorem cnt_lt {p q : Nat → Bool} {n j : Nat} (h : ∀ i, i < n → p i = true → q i = true) (hj : j < n) (hp : p j = false) (hq : q j = true) : cnt p n < cnt q n := by
  induction n with
  | zero => omega
  | succ n ih =>
    unfold cnt
    by_cases e : j = n
    · subst e
      have h1 := cnt_le (n := j) fun i hi => h i (by omega)
      rw [hp, hq]; simp; omega
    · have h1 := ih (fun i hi => h i (by omega)) (by omega)
      have h2 := h n (by omega)
      cases hp2 : p n <;> cases hq2 : q n <;> simp_all <;> omega
theorem cnt_all (p : Nat → Bool) (n : Nat) : cnt p n ≤ n := by
  induction n with
  | zero => exact Nat.le_refl _
  | succ n ih => unfold cnt; split <;> omega
theorem cnt_set {p q : Nat → Bool} {n j : Nat} (hj : j < n) (hp : p j = false) (hq : ∀ i, i < n → q i = (p i || i == j)) : cnt q n = cnt p n + 1 := by
  induction n with
  | zero => omega
  | succ n ih =>
    unfold cnt
    by_cases e : j = n
    · subst e
      have h1 : cnt q j = cnt p j := cnt_congr fun i hi => by rw [hq i (by omega), show (i == j) = false from beq_eq_false_iff_ne.2 (by omega), Bool.or_false]
      rw [hq j (by omega), hp, h1]; simp
    · rw [ih (by omega) fun i hi => hq i (by omega), hq n (by omega), show (n == j) = false from beq_eq_false_iff_ne.2 (by omega), Bool.or_false]
      omega
theorem cnt_some {p : Nat → Bool} {n : Nat} (h : cnt p n < n) : ∃ i, i < n ∧ p i = false := by
  induction n with
  | zero => omega
  | succ n ih =>
    unfold cnt at h
    cases hp : p n with
    | false => exact ⟨n, by omega, hp⟩
    | true =>
      rw [hp] at h; simp at h
      obtain ⟨i, h1, h2⟩ := ih h
      exact ⟨i, by omega, h2⟩
section
variable (l : List Int)
def rem (i : Int) : Int := 1000 * rd l i % upto l l.length
/-- Place a comes ahead of place b. -/
def ahead (a b : Int) : Bool := decide (rem l b < rem l a ∨ rem l a = rem l b ∧ a < b)
def before (i : Int) : Nat := cnt (fun n => ahead l n i) l.length
theorem ahead_irr (a : Int) : ahead l a a = false := by simp [ahead]
theorem ahead_tot (a b : Int) (h : a ≠ b) (h2 : ahead l a b = false) : ahead l b a = true := by
  simp only [ahead, decide_eq_false_iff_not, decide_eq_true_eq] at h2 ⊢; omega
theorem ahead_trans (a b c : Int) (h : ahead l a b = true) (h2 : ahead l b c = true) : ahead l a c = true := by
  simp only [ahead, decide_eq_true_eq] at h h2 ⊢; omega
/-- Marks that are closed upward: marked is just who has fewer ahead than there are marks. -/
theorem marked (up : Int → Bool) (hup : ∀ a b : Int, 0 ≤ a → a < l.length → 0 ≤ b → b < l.length → up b = true → ahead l a b = true → up a = true) (i : Int) (h0 : 0 ≤ i) (h : i < l.length) :
    up i = decide (before l i < cnt (fun n => up n) l.length) := by
  unfold before
  cases hu : up i with
  | true =>
    symm; rw [decide_eq_true_eq]
    refine cnt_lt (j := i.toNat) (fun a ha hh => hup a i (by omega) (by omega) h0 h hu hh) (by omega) ?_ ?_
    · rw [show ((i.toNat : Nat) : Int) = i by omega]; exact ahead_irr l i
    · rw [show ((i.toNat : Nat) : Int) = i by omega]; exact hu
  | false =>
    symm; rw [decide_eq_false_iff_not, Nat.not_lt]
    refine cnt_le fun a ha hh => ?_
    cases hx : ahead l a i with
    | true => rfl
    | false =>
      have hne : (a : Int) ≠ i := fun e => by rw [e] at hh; rw [hh] at hu; cases hu
      have := hup i a h0 h (by omega) (by omega) hh (ahead_tot l a i hne hx)
      rw [this] at hu; cases hu
def low (i : Int) : Int := 1000 * rd l i / upto l l.length
/-- How much of a thousand is left behind the places ahead of i. -/
def left (i : Int) : Int := 1000 - upto (tab (low l) l.length) i
theorem left_next (i : Int) (h0 : 0 ≤ i) (h : i < l.length) : left l (i + 1) = left l i - low l i := by
  unfold left; rw [upto_succ h0 (by rw [tab_length]; exact h), rd_tab h0 h]; omega
/-- The shares: rounded down, and one more where fewer than 'left' come before. -/
def want : List Int := tab (fun i => low l i + if (before l i : Int) < left l l.length then 1 else 0) l.length
variable (hl : l.length ≤ 200) (hg : ∀ i : Int, 0 ≤ i → i < l.length → 0 ≤ rd l i ∧ rd l i ≤ 83333333333) (hpos : 0 < upto l l.length)
include hg hpos
theorem low_bd (i : Int) (h0 : 0 ≤ i) (h : i < l.length) : 0 ≤ low l i ∧ low l i ≤ 1000 ∧ 0 ≤ rem l i ∧ rem l i < upto l l.length ∧ upto l l.length * low l i + rem l i = 1000 * rd l i := by
  have g := hg i h0 h
  have m1 := Int.emod_nonneg (1000 * rd l i) (by omega : upto l l.length ≠ 0)
  have m2 := Int.emod_lt_of_pos (1000 * rd l i) hpos
  have u := upto_succ (xs := l) h0 h
  have v := sums_le l hg (i + 1) (by omega) (by omega)
  have w := sums_le l hg i h0 (by omega)
  have p0 : 0 ≤ upto l i := by
    have := upto_bd (xs := l) (lo := 0) (hi := 83333333333) hg i h0 (by omega)
    omega
  refine ⟨Int.ediv_nonneg (by omega) (by omega), ?_, m1, m2, Int.mul_ediv_add_emod _ _⟩
  have : low l i < 1001 := (Int.ediv_lt_iff_lt_mul hpos).2 (by omega)
  omega
theorem left_all (i : Nat) (h : i ≤ l.length) : upto l l.length * (1000 - left l i) ≤ 1000 * upto l i ∧ 1000 * upto l i + i ≤ upto l l.length * (1000 - left l i) + upto l l.length * i ∧ 0 ≤ 1000 - left l i := by
  induction i with
  | zero => simp [left, upto]
  | succ i ih =>
    have h1 := ih (by omega)
    obtain ⟨b1, b2, b3, b4, b5⟩ := low_bd l hg hpos i (by omega) (by omega)
    have u := upto_succ (xs := l) (i := i) (by omega) (by omega)
    have e := left_next l i (by omega) (by omega)
    rw [show (((i + 1 : Nat) : Int)) = (i : Int) + 1 by omega, u, e, show 1000 - (left l i - low l i) = 1000 - left l i + low l i by omega, Int.mul_add, Int.mul_add, Int.mul_add]
    exact ⟨by omega, by omega, by omega⟩
/-- As many are left as there are places, at the most. -/
theorem left_bd (h1 : 1 ≤ l.length) : 0 ≤ left l l.length ∧ left l l.length < l.length := by
  have := left_all l hg hpos l.length (Nat.le_refl _)
  have a : upto l l.length * (1000 - left l l.length) ≤ upto l l.length * 1000 := by omega
  have b : 1000 - left l l.length ≤ 1000 := Int.le_of_mul_le_mul_left a hpos
  have c : upto l l.length * 1000 < upto l l.length * (1000 - left l l.length + l.length) := by rw [Int.mul_add]; omega
  have d := Int.lt_of_mul_lt_mul_left c (by omega)
  omega
end
section
variable (l : List Int) (hl1 : 1 ≤ l.length) (hl : l.length ≤ 200) (hg : ∀ i : Int, 0 ≤ i → i < l.length → 0 ≤ rd l i ∧ rd l i ≤ 83333333333) (hpos : 0 < upto l l.length)
theorem left_zero (l : List Int) : left l 0 = 1000 := by simp [left, upto]
/-- The best of the places ahead of i that are not marked, or -1. -/
def best (up : Int → Bool) : Nat → Int
  | 0 => -1
  | i + 1 => if up i = true then best up i else if best up i < 0 then i else if rem l i > rem l (best up i) then i else best up i
theorem best_is (up : Int → Bool) (i : Nat) : (best l up i = -1 ∧ ∀ k : Nat, k < i → up k = true) ∨
    (0 ≤ best l up i ∧ best l up i < i ∧ up (best l up i) = false ∧ ∀ k : Nat, k < i → up k = false → (k : Int) ≠ best l up i → ahead l (best l up i) k = true) := by
  induction i with
  | zero => exact .inl ⟨rfl, fun k h => by omega⟩
  | succ i ih =>
    unfold best
    by_cases hu : up i = true
    · rw [if_pos hu]
      rcases ih with ⟨h1, h2⟩ | ⟨h1, h2, h3, h4⟩
      · refine .inl ⟨h1, fun k hk => ?_⟩
        by_cases e : k = i
        · rw [e]; exact hu
        · exact h2 k (by omega)
      · refine .inr ⟨h1, by omega, h3, fun k hk hk2 hk3 => ?_⟩
        by_cases e : k = i
        · rw [e, hu] at hk2; cases hk2
        · exact h4 k (by omega) hk2 hk3
    · rw [if_neg hu]
      have hu' : up i = false := by simpa using hu
      rcases ih with ⟨h1, h2⟩ | ⟨h1, h2, h3, h4⟩
      · rw [if_pos (by omega)]
        refine .inr ⟨by omega, by omega, hu', fun k hk hk2 hk3 => ?_⟩
        have := h2 k (by omega)
        rw [this] at hk2; cases hk2
      · rw [if_neg (by omega)]
        by_cases hr : rem l i > rem l (best l up i)
        · rw [if_pos hr]
          refine .inr ⟨by omega, by omega, hu', fun k hk hk2 hk3 => ?_⟩
          by_cases e : (k : Int) = best l up i
          · rw [e]; unfold ahead; rw [decide_eq_true_eq]; exact .inl hr
          · have a1 := h4 k (by omega) hk2 e
            refine ahead_trans l i (best l up i) k ?_ a1
            unfold ahead; rw [decide_eq_true_eq]; exact .inl hr
        · rw [if_neg hr]
          refine .inr ⟨h1, by omega, h3, fun k hk hk2 hk3 => ?_⟩
          by_cases e : k = i
          · subst e; unfold ahead; rw [decide_eq_true_eq]; omega
          · exact h4 k (by omega) hk2 hk3
theorem rdOf_tab (f : Int → Bool) (n : Nat) (i : Int) (h0 : 0 ≤ i) (h : i < n) : rdOf false (tab f n) i = f i := tab_get false h0 h
include hl1 hl hg hpos
theorem pick (up : Int → Bool) (hup : ∀ a b : Int, 0 ≤ a → a < l.length → 0 ≤ b → b < l.length → up b = true → ahead l a b = true → up a = true) (d : Nat)
    (hd : left l l.length = (cnt (fun n => up n) l.length : Int) + d) :
    Ev (fun k => chart_Shares.l2 k l (upto l l.length) (tab (fun i => low l i + if up i = true then 1 else 0) l.length) (d : Int) (tab up l.length)) (want l, 0) := by
  have S := sums l hl hg l.length (by omega) (by omega)
  have L := left_bd l hg hpos hl1
  have Bd := low_bd l hg hpos
  induction d generalizing up with
  | zero =>
    refine Ev.step (fun k => by rw [chart_Shares.l2]) (Ev.neg (by omega) (Ev.ret ?_))
    congr 1
    refine tab_congr fun i h0 h => ?_
    have m := marked l up hup i h0 h
    by_cases c : before l i < cnt (fun n => up n) l.length
    · rw [if_pos (by rw [m]; simpa using c), if_pos (by omega)]
    · rw [if_neg (by rw [m]; simpa using c), if_neg (by omega)]
  | succ d ih =>
    have hc : cnt (fun n => up n) l.length < l.length := by omega
    have B := best_is l up l.length
    generalize hbb : best l up l.length = b at B
    obtain ⟨b0, b1, b2, b3⟩ : 0 ≤ b ∧ b < l.length ∧ up b = false ∧ ∀ k : Nat, k < l.length → up k = false → (k : Int) ≠ b → ahead l b k = true := by
      rcases B with ⟨h1, h2⟩ | h
      · obtain ⟨i, i1, i2⟩ := cnt_some hc
        have := h2 i i1
        rw [this] at i2; cases i2
      · exact h
    have hup' : ∀ a c : Int, 0 ≤ a → a < l.length → 0 ≤ c → c < l.length → (up c || c == b) = true → ahead l a c = true → (up a || a == b) = true := by
      intro a c a0 a1 c0 c1 h1 h2
      cases hx : up c with
      | true => rw [hup a c a0 a1 c0 c1 hx h2]; rfl
      | false =>
        rw [hx, Bool.false_or, beq_iff_eq] at h1
        subst h1
        cases hy : up a with
        | true => rfl
        | false =>
          by_cases e : a = c
          · rw [beq_iff_eq.2 e]; rfl
          · have := b3 a.toNat (by omega) (by rw [show ((a.toNat : Nat) : Int) = a by omega]; exact hy) (by omega)
            rw [show ((a.toNat : Nat) : Int) = a by omega] at this
            have w := ahead_trans l c a c this h2
            rw [ahead_irr] at w; cases w
    have hcnt : cnt (fun n => up n || (n : Int) == b) l.length = cnt (fun n => up n) l.length + 1 :=
      cnt_set (j := b.toNat) (by omega) (by rw [show ((b.toNat : Nat) : Int) = b by omega]; exact b2) fun i hi => by
        congr 1
        by_cases e : (i : Int) = b
        · rw [beq_iff_eq.2 e, beq_iff_eq.2 (by omega)]
        · rw [beq_eq_false_iff_ne.2 e, beq_eq_false_iff_ne.2 (by omega)]
    have next := ih (fun i => up i || i == b) hup' (by rw [hcnt]; omega)
    refine Ev.step (fun k => by rw [chart_Shares.l2]) (Ev.pos (by omega) ?_)
    refine climb (g := fun i k => chart_Shares.l3 k l (upto l l.length) (tab (fun i => low l i + if up i = true then 1 else 0) l.length) ((d + 1 : Nat) : Int) (tab up l.length) (best l up i.toNat) l (l.length : Int) i) (a := 0) (n := l.length) (by omega) ?_ fun i i0 i1 hi => ?_
    · refine Ev.step (fun k => by rw [chart_Shares.l3]) (Ev.neg (by omega) ?_)
      rw [show ((l.length : Int)).toNat = l.length by omega, hbb]
      refine Ev.pos b0 (Ev.pos (by rw [tab_length]; exact b1) (Ev.pos (by rw [tab_length]; exact b1) ?_))
      rw [rd_tab b0 b1, b2, tab_set b0, tab_set b0, w64 (n := (((d + 1 : Nat) : Int)) - 1) (by omega) (by omega)]
      have lb := Bd b b0 b1
      simp only [Bool.false_eq_true, if_false, Int.add_zero]
      rw [w64 (n := low l b + 1) (by omega) (by omega), show (((d + 1 : Nat) : Int)) - 1 = d by omega]
      have e1 : tab (fun j => if j = b then low l b + 1 else low l j + if up j = true then 1 else 0) l.length = tab (fun i => low l i + if (up i || i == b) = true then 1 else 0) l.length := by
        refine tab_congr fun i h0 h => ?_
        by_cases e : i = b
        · rw [if_pos e, e, if_pos (by simp)]
        · rw [if_neg e, beq_eq_false_iff_ne.2 e, Bool.or_false]
      have e2 : tab (fun j => if j = b then true else up j) l.length = tab (fun i => up i || i == b) l.length := by
        refine tab_congr fun i h0 h => ?_
        by_cases e : i = b
        · rw [if_pos e, beq_iff_eq.2 e, Bool.or_true]
        · rw [if_neg e, beq_eq_false_iff_ne.2 e, Bool.or_false]
      rw [e1, e2]
      exact next
    · have g1 := hg i i0 i1
      have bi := best_is l up i.toNat
      rw [show (i + 1).toNat = i.toNat + 1 by omega, show best l up (i.toNat + 1) = if up i = true then best l up i.toNat else if best l up i.toNat < 0 then i else if rem l i > rem l (best l up i.toNat) then i else best l up i.toNat by
        rw [best, show ((i.toNat : Nat) : Int) = i by omega]] at hi
      refine Ev.step (fun k => by rw [chart_Shares.l3]) (Ev.pos i1 (Ev.pos i0 (Ev.pos i1 (Ev.pos (by rw [tab_length]; exact i1) ?_))))
      rw [rdOf_tab up _ i i0 i1, w64 (n := i + 1) (by omega) (by omega)]
      by_cases hu : up i = true
      · rw [if_pos hu] at hi; exact Ev.pos hu hi
      · rw [if_neg hu] at hi
        refine Ev.neg hu ?_
        by_cases hn : best l up i.toNat < 0
        · rw [if_pos hn] at hi; exact Ev.pos hn hi
        · rw [if_neg hn] at hi
          have hb2 : best l up i.toNat < l.length := by omega
          have g2 := hg _ (by omega : 0 ≤ best l up i.toNat) hb2
          refine Ev.neg hn (Ev.neg (by omega) (Ev.pos (by omega) (Ev.pos hb2 ?_)))
          rw [w64 (n := 1000 * rd l i) (by omega) (by omega), w64 (n := 1000 * rd l (best l up i.toNat)) (by omega) (by omega), tmod_nn (by omega), tmod_nn (by omega)]
          by_cases hr : rem l i > rem l (best l up i.toNat)
          · rw [if_pos hr] at hi; exact Ev.pos hr hi
          · rw [if_neg hr] at hi; exact Ev.neg hr hi
/-- The numbers rounded down, in the program and in the statement. -/
theorem downs_prog (r : List Int × Int) (h : Ev (fun k => chart_Shares.l2 k l (upto l l.length) (tab (low l) l.length) (left l l.length) (List.replicate ((l.length : Int) : Int).toNat false)) r) :
    Ev (fun k => chart_Shares.l1 k l (upto l l.length) (List.replicate ((l.length : Int) : Int).toNat 0) 1000 l (l.length : Int) 0) r := by
  have S := sums l hl hg l.length (by omega) (by omega)
  have Bd := low_bd l hg hpos
  have start : Ev (fun k => chart_Shares.l1 k l (upto l l.length) (tab (fun j => if j < 0 then low l j else 0) l.length) (left l 0) l (l.length : Int) 0) r := by
    refine climb (g := fun i k => chart_Shares.l1 k l (upto l l.length) (tab (fun j => if j < i then low l j else 0) l.length) (left l i) l (l.length : Int) i) (n := l.length) (by omega) ?_ fun i i0 i1 hi => ?_
    · refine Ev.step (fun k => by rw [chart_Shares.l1]) (Ev.neg (by omega) (Ev.pos (by omega) (Ev.pos (by omega) ?_)))
      rw [tab_congr (g := low l) fun i a b => if_pos b]
      exact h
    · have g1 := hg i i0 i1
      obtain ⟨b1, b2, _⟩ := Bd i i0 i1
      have lb := left_all l hg hpos i.toNat (by omega)
      rw [show ((i.toNat : Nat) : Int) = i by omega] at lb
      refine Ev.step (fun k => by rw [chart_Shares.l1]) (Ev.pos i1 (Ev.pos i0 (Ev.pos i1 (Ev.neg (by omega) (Ev.pos (by rw [tab_length]; exact i1) (Ev.bind0 rfl ?_))))))
      rw [w64 (n := 1000 * rd l i) (by omega) (by omega), tdiv_nn (by omega), show 1000 * rd l i / upto l l.length = low l i from rfl, w64 (n := low l i) (by omega) (by omega), tab_set i0, rd_tab i0 i1, if_pos rfl, ← left_next l i i0 i1, w64 (n := i + 1) (by omega) (by omega)]
      have lb2 : left l (i + 1) ≤ 1000 ∧ -1000000 ≤ left l (i + 1) := by
        have := upto_bd (xs := tab (low l) l.length) (lo := 0) (hi := 1000) (fun j j0 j1 => by
          rw [tab_length] at j1
          rw [rd_tab j0 j1]
          have := Bd j j0 j1
          omega) (i + 1) (by omega) (by rw [tab_length]; omega)
        unfold left; omega
      rw [w64 (n := left l (i + 1)) (by omega) (by omega), tab_congr (g := fun j => if j < i + 1 then low l j else 0) fun j j0 j1 => ?_]
      · exact hi
      · by_cases e : j = i
        · rw [if_pos e, if_pos (by omega), e]
        · rw [if_neg e]
          by_cases e2 : j < i
          · rw [if_pos e2, if_pos (by omega)]
          · rw [if_neg e2, if_neg (by omega)]
  rw [left_zero l] at start
  rw [tab_const, show ((l.length : Int)).toNat = l.length by omega, tab_congr (g := fun j => if j < 0 then low l j else 0) fun j j0 j1 => by rw [if_neg (by omega)]]
  exact start
theorem downs_law (x3 : List Int) (x4 : Int) (h : Ev (fun k => chancerylaw3_sharesRight.l2 k l x3 x4 (upto l l.length) (tab (low l) l.length) (left l l.length) l (l.length : Int) 0) true) :
    Ev (fun k => chancerylaw3_sharesRight.l1 k l x3 x4 (upto l l.length) (List.replicate ((l.length : Int) : Int).toNat 0) 1000 l (l.length : Int) 0) true := by
  have S := sums l hl hg l.length (by omega) (by omega)
  have Bd := low_bd l hg hpos
  have start : Ev (fun k => chancerylaw3_sharesRight.l1 k l x3 x4 (upto l l.length) (tab (fun j => if j < 0 then low l j else 0) l.length) (left l 0) l (l.length : Int) 0) true := by
    refine climb (g := fun i k => chancerylaw3_sharesRight.l1 k l x3 x4 (upto l l.length) (tab (fun j => if j < i then low l j else 0) l.length) (left l i) l (l.length : Int) i) (n := l.length) (by omega) ?_ fun i i0 i1 hi => ?_
    · refine Ev.step (fun k => by rw [chancerylaw3_sharesRight.l1]) (Ev.neg (by omega) ?_)
      rw [tab_congr (g := low l) fun i a b => if_pos b]
      exact h
    · have g1 := hg i i0 i1
      obtain ⟨b1, b2, _⟩ := Bd i i0 i1
      refine Ev.step (fun k => by rw [chancerylaw3_sharesRight.l1]) (Ev.pos i1 (Ev.pos i0 (Ev.pos i1 (Ev.neg (by omega) (Ev.pos (by rw [tab_length]; exact i1) (Ev.bind0 rfl ?_))))))
      rw [w64 (n := 1000 * rd l i) (by omega) (by omega), tdiv_nn (by omega), show 1000 * rd l i / upto l l.length = low l i from rfl, w64 (n := low l i) (by omega) (by omega), tab_set i0, rd_tab i0 i1, if_pos rfl, ← left_next l i i0 i1, w64 (n := i + 1) (by omega) (by omega)]
      have lb2 : left l (i + 1) ≤ 1000 ∧ -1000000 ≤ left l (i + 1) := by
        have := upto_bd (xs := tab (low l) l.length) (lo := 0) (hi := 1000) (fun j j0 j1 => by
          rw [tab_length] at j1
          rw [rd_tab j0 j1]
          have := Bd j j0 j1
          omega) (i + 1) (by omega) (by rw [tab_length]; omega)
        unfold left; omega
      rw [w64 (n := left l (i + 1)) (by omega) (by omega), tab_congr (g := fun j => if j < i + 1 then low l j else 0) fun j j0 j1 => ?_]
      · exact hi
      · by_cases e : j = i
        · rw [if_pos e, if_pos (by omega), e]
        · rw [if_neg e]
          by_cases e2 : j < i
          · rw [if_pos e2, if_pos (by omega)]
          · rw [if_neg e2, if_neg (by omega)]
  rw [left_zero l] at start
  rw [tab_const, show ((l.length : Int)).toNat = l.length by omega, tab_congr (g := fun j => if j < 0 then low l j else 0) fun j j0 j1 => by rw [if_neg (by omega)]]
  exact start
/-- The statement's own rounding up. -/
theorem ups_law (x3 : List Int) (h : x3 = want l) : Ev (fun k => chancerylaw3_sharesRight.l2 k l x3 0 (upto l l.length) (tab (low l) l.length) (left l l.length) l (l.length : Int) 0) true := by
  have S := sums l hl hg l.length (by omega) (by omega)
  have Bd := low_bd l hg hpos
  have L := left_bd l hg hpos hl1
  have start : Ev (fun k => chancerylaw3_sharesRight.l2 k l x3 0 (upto l l.length) (tab (fun j => low l j + if j < 0 ∧ (before l j : Int) < left l l.length then 1 else 0) l.length) (left l l.length) l (l.length : Int) 0) true := by
    refine climb (g := fun i k => chancerylaw3_sharesRight.l2 k l x3 0 (upto l l.length) (tab (fun j => low l j + if j < i ∧ (before l j : Int) < left l l.length then 1 else 0) l.length) (left l l.length) l (l.length : Int) i) (n := l.length) (by omega) ?_ fun i i0 i1 hi => ?_
    · refine Ev.step (fun k => by rw [chancerylaw3_sharesRight.l2]) (Ev.neg (by omega) (Ev.pos rfl ?_))
      refine Ev.bind (a := true) (Ev.out (sameInts_ok _ _ (by rw [h]; unfold want; rw [tab_length]; omega)) ?_) (Ev.now _)
      rw [decide_eq_true_eq, h]
      unfold want
      refine tab_congr fun j j0 j1 => ?_
      by_cases c : (before l j : Int) < left l l.length
      · rw [if_pos c, if_pos ⟨j1, c⟩]
      · rw [if_neg c, if_neg (fun x => c x.2)]
    · have g1 := hg i i0 i1
      refine Ev.step (fun k => by rw [chancerylaw3_sharesRight.l2]) (Ev.pos i1 (Ev.pos i0 (Ev.pos i1 ?_)))
      have inner : Ev (fun k => chancerylaw3_sharesRight.l3 k l x3 0 (upto l l.length) (tab (fun j => low l j + if j < i ∧ (before l j : Int) < left l l.length then 1 else 0) l.length) (left l l.length) i (rd l i) (cnt (fun n => ahead l n i) ((0 : Int).toNat) : Int) l (l.length : Int) i l (l.length : Int) 0) true := by
        refine climb (g := fun j k => chancerylaw3_sharesRight.l3 k l x3 0 (upto l l.length) (tab (fun j => low l j + if j < i ∧ (before l j : Int) < left l l.length then 1 else 0) l.length) (left l l.length) i (rd l i) (cnt (fun n => ahead l n i) j.toNat : Int) l (l.length : Int) i l (l.length : Int) j) (n := l.length) (by omega) ?_ fun j j0 j1 hj => ?_
        · refine Ev.step (fun k => by rw [chancerylaw3_sharesRight.l3]) (Ev.neg (by omega) ?_)
          rw [show ((l.length : Int)).toNat = l.length by omega, w64 (n := i + 1) (by omega) (by omega)]
          have turnOver : ∀ p : Int, (p = low l i + if (before l i : Int) < left l l.length then 1 else 0) → tab (fun j => if j = i then p else low l j + if j < i ∧ (before l j : Int) < left l l.length then 1 else 0) l.length = tab (fun j => low l j + if j < i + 1 ∧ (before l j : Int) < left l l.length then 1 else 0) l.length := by
            intro p hp
            refine tab_congr fun j j0 j1 => ?_
            by_cases e : j = i
            · rw [if_pos e, hp, e]
              by_cases c : (before l i : Int) < left l l.length
              · rw [if_pos c, if_pos ⟨by omega, c⟩]
              · rw [if_neg c, if_neg (fun x => c x.2)]
            · rw [if_neg e]
              by_cases c : j < i ∧ (before l j : Int) < left l l.length
              · rw [if_pos c, if_pos ⟨by omega, c.2⟩]
              · rw [if_neg c, if_neg (fun x => c ⟨by omega, x.2⟩)]
          by_cases c : (before l i : Int) < left l l.length
          · refine Ev.pos c (Ev.pos i0 (Ev.pos (by rw [tab_length]; exact i1) ?_))
            have lb := Bd i i0 i1
            rw [rd_tab i0 i1, if_neg (fun x : i < i ∧ _ => by omega), Int.add_zero, w64 (n := low l i + 1) (by omega) (by omega), tab_set i0, turnOver _ (by rw [if_pos c])]
            exact hi
          · refine Ev.neg c ?_
            have := turnOver (low l i) (by rw [if_neg c]; omega)
            rw [tab_congr (f := fun j => if j = i then low l i else _) (g := fun j => low l j + if j < i ∧ (before l j : Int) < left l l.length then 1 else 0) fun j j0 j1 => by
              by_cases e : j = i
              · rw [if_pos e, e, if_neg (fun x : i < i ∧ _ => by omega)]; omega
              · rw [if_neg e]] at this
            rw [this]
            exact hi
        · have g2 := hg j j0 j1
          have ca := cnt_all (fun n => ahead l n i) j.toNat
          have cs : cnt (fun n => ahead l n i) (j + 1).toNat = cnt (fun n => ahead l n i) j.toNat + if ahead l j i = true then 1 else 0 := by
            rw [show (j + 1).toNat = j.toNat + 1 by omega, cnt, show ((j.toNat : Nat) : Int) = j by omega]
          rw [cs] at hj
          refine Ev.step (fun k => by rw [chancerylaw3_sharesRight.l3]) (Ev.pos j1 (Ev.pos j0 (Ev.pos j1 (Ev.neg (by omega) ?_))))
          rw [w64 (n := 1000 * rd l j) (by omega) (by omega), w64 (n := 1000 * rd l i) (by omega) (by omega), tmod_nn (by omega), tmod_nn (by omega), w64 (n := j + 1) (by omega) (by omega), w64 (n := (cnt (fun n => ahead l n i) j.toNat : Int) + 1) (by omega) (by omega)]
          by_cases r1 : rem l j > rem l i
          · rw [if_pos (by unfold ahead; rw [decide_eq_true_eq]; exact .inl r1)] at hj
            exact Ev.pos r1 (by simpa using hj)
          · refine Ev.neg r1 ?_
            by_cases r2 : rem l j = rem l i
            · refine Ev.pos r2 ?_
              by_cases r3 : j < i
              · rw [if_pos (by unfold ahead; rw [decide_eq_true_eq]; exact .inr ⟨r2, r3⟩)] at hj
                exact Ev.pos r3 (by simpa using hj)
              · rw [if_neg (by unfold ahead; rw [decide_eq_true_eq]; omega)] at hj
                exact Ev.neg r3 (by simpa using hj)
            · rw [if_neg (by unfold ahead; rw [decide_eq_true_eq]; omega)] at hj
              exact Ev.neg r2 (by simpa using hj)
      simpa [cnt] using inner
  rw [tab_congr (g := low l) fun j j0 j1 => by rw [if_neg (fun x => by omega)]; omega] at start
  exact start
end
/-- Shares, and the statement's own part on it. -/
theorem shares (l : List Int) (hlen : l.length ≤ 1000000000000000000) : Ev (fun k => chancerylaw3_sharesRight.f k l) true := by
  have wrong : ∀ (x3 : List Int) (x4 x5 : Int) (r0 : x3 = []) (r1 : x4 = x5) (r2 : x5 ≠ 0), ∀ (i x6 : Int), 0 ≤ i → i ≤ l.length → Ev (fun k => chancerylaw3_sharesRight.l0 k l x3 x4 x5 x6 l (l.length : Int) i) true := by
    intro x3 x4 x5 r0 r1 r2 i x6 i0 i1
    have key : ∀ (d : Nat) (i x6 : Int), 0 ≤ i → i + d = l.length → Ev (fun k => chancerylaw3_sharesRight.l0 k l x3 x4 x5 x6 l (l.length : Int) i) true := by
      intro d
      induction d with
      | zero =>
        intro i x6 h0 h
        exact Ev.step (fun k => by rw [chancerylaw3_sharesRight.l0]) (Ev.neg (by omega) (Ev.neg r2 (Ev.pos r1 (Ev.ret (by rw [r0]; rfl)))))
      | succ d ih =>
        intro i x6 h0 h
        refine Ev.step (fun k => by rw [chancerylaw3_sharesRight.l0]) (Ev.pos (by omega) (Ev.pos h0 (Ev.pos (by omega) (Ev.neg r2 ?_))))
        rw [w64 (n := i + 1) (by omega) (by omega)]
        exact ih (i + 1) _ (by omega) (by omega)
    exact key (l.length - i.toNat) i x6 i0 (by omega)
  unfold chancerylaw3_sharesRight.f
  by_cases hz : (l.length : Int) = 0
  · refine Ev.bind (a := ([], 7)) ?_ (Ev.pos hz (Ev.step (fun k => by rw [chancerylaw3_sharesRight.j0]) (wrong _ _ _ rfl rfl (by omega) 0 0 (by omega) (by omega))))
    unfold chart_Shares.f
    exact Ev.pos hz (Ev.now _)
  · by_cases hbig : (l.length : Int) > 200
    · refine Ev.bind (a := ([], 3)) ?_ (Ev.neg hz (Ev.pos hbig (Ev.step (fun k => by rw [chancerylaw3_sharesRight.j0]) (wrong _ _ _ rfl rfl (by omega) 0 0 (by omega) (by omega)))))
      unfold chart_Shares.f
      exact Ev.neg hz (Ev.pos hbig (Ev.now _))
    · have prog : ∀ r, Ev (fun k => chart_Shares.l0 k l (upto l 0) l (l.length : Int) 0) r → Ev (fun k => chart_Shares.f k l) r := fun r h => by
        unfold chart_Shares.f
        rw [upto_zero] at h
        exact Ev.neg hz (Ev.neg hbig h)
      have law : ∀ r : List Int × Int, Ev (fun k => chancerylaw3_sharesRight.l0 k l r.1 r.2 0 (upto l 0) l (l.length : Int) 0) true → Ev (fun k => if (l.length : Int) = 0 then (chancerylaw3_sharesRight.j0 k l r.1 r.2 7 0) else (if (l.length : Int) > 200 then (chancerylaw3_sharesRight.j0 k l r.1 r.2 3 0) else (chancerylaw3_sharesRight.j0 k l r.1 r.2 0 0))) true := fun r h => by
        rw [upto_zero] at h
        exact Ev.neg hz (Ev.neg hbig (Ev.step (fun k => by rw [chancerylaw3_sharesRight.j0]) h))
      have hl : l.length ≤ 200 := by omega
      rcases first_bad (fun i => 0 ≤ rd l i ∧ rd l i ≤ 83333333333) l.length with hg | ⟨b, b0, b1, bad, hb⟩
      · have S := sums l hl hg
        have lawUp : ∀ x3 : List Int, ∀ x4 : Int, Ev (fun k => chancerylaw3_sharesRight.l0 k l x3 x4 0 (upto l l.length) l (l.length : Int) l.length) true → Ev (fun k => chancerylaw3_sharesRight.l0 k l x3 x4 0 (upto l 0) l (l.length : Int) 0) true := by
          intro x3 x4 h
          refine climb (g := fun i k => chancerylaw3_sharesRight.l0 k l x3 x4 0 (upto l i) l (l.length : Int) i) (n := l.length) (by omega) h fun i i0 i1 hi => ?_
          have s2 := S (i + 1) (by omega) (by omega)
          refine Ev.step (fun k => by rw [chancerylaw3_sharesRight.l0]) (Ev.pos i1 (Ev.pos i0 (Ev.pos i1 (Ev.pos rfl (Ev.bind0 (in_ok _ _ _) (Ev.dpos (hg i i0 i1) ?_))))))
          rw [← upto_succ i0 i1, w64 (n := upto l (i + 1)) (by omega) (by omega), w64 (n := i + 1) (by omega) (by omega)]
          exact hi
        have progUp : ∀ r : List Int × Int, Ev (fun k => chart_Shares.l0 k l (upto l l.length) l (l.length : Int) l.length) r → Ev (fun k => chart_Shares.l0 k l (upto l 0) l (l.length : Int) 0) r := by
          intro r h
          refine climb (g := fun i k => chart_Shares.l0 k l (upto l i) l (l.length : Int) i) (n := l.length) (by omega) h fun i i0 i1 hi => ?_
          have s2 := S (i + 1) (by omega) (by omega)
          have g1 := hg i i0 i1
          refine Ev.step (fun k => by rw [chart_Shares.l0]) (Ev.pos i1 (Ev.pos i0 (Ev.pos i1 (Ev.neg (by omega) (Ev.neg (by omega) ?_)))))
          rw [← upto_succ i0 i1, w64 (n := upto l (i + 1)) (by omega) (by omega), w64 (n := i + 1) (by omega) (by omega)]
          exact hi
        have s1 := S l.length (by omega) (by omega)
        by_cases hpos : 0 < upto l l.length
        · refine Ev.bind (a := (want l, 0)) (prog _ (progUp _ ?_)) (law (want l, 0) (lawUp _ _ ?_))
          · refine Ev.step (fun k => by rw [chart_Shares.l0]) (Ev.neg (by omega) (Ev.pos (by omega) (Ev.pos (by omega) (Ev.bind0 rfl ?_))))
            refine Ev.neg (by omega) ?_
            refine downs_prog l (by omega) hl hg hpos _ ?_
            have L := left_bd l hg hpos (by omega)
            have c0 : cnt (fun n => (fun _ : Int => false) (n : Int)) l.length = 0 := by
              generalize l.length = n
              induction n with
              | zero => rfl
              | succ n ih => unfold cnt; rw [ih]; simp
            have := pick l (by omega) hl hg hpos (fun _ => false) (fun _ _ _ _ _ _ h _ => by cases h) (left l l.length).toNat (by rw [c0]; omega)
            rw [show (((left l l.length).toNat : Nat) : Int) = left l l.length by omega, ← tab_const, tab_congr (g := low l) fun i _ _ => by simp] at this
            rw [show ((l.length : Int)).toNat = l.length by omega]
            exact this
          · refine Ev.step (fun k => by rw [chancerylaw3_sharesRight.l0]) (Ev.neg (by omega) (Ev.pos rfl (Ev.pos (by omega) (Ev.pos (by omega) (Ev.bind0 rfl ?_)))))
            refine Ev.pos (by omega) ?_
            exact downs_law l (by omega) hl hg hpos _ _ (ups_law l (by omega) hl hg hpos _ rfl)
        · refine Ev.bind (a := (List.replicate ((l.length : Int) : Int).toNat 0, 0)) (prog _ (progUp _ ?_)) (law (List.replicate ((l.length : Int) : Int).toNat 0, 0) (lawUp _ _ ?_))
          · refine Ev.step (fun k => by rw [chart_Shares.l0]) (Ev.neg (by omega) (Ev.pos (by omega) (Ev.pos (by omega) (Ev.bind0 rfl ?_))))
            exact Ev.pos (by omega) (Ev.now _)
          · refine Ev.step (fun k => by rw [chancerylaw3_sharesRight.l0]) (Ev.neg (by omega) (Ev.pos rfl (Ev.pos (by omega) (Ev.pos (by omega) (Ev.bind0 rfl ?_)))))
            refine Ev.neg (by omega) (Ev.pos rfl ?_)
            exact Ev.bind (a := true) (Ev.out (sameInts_ok _ _ (by simp; omega)) (by simp)) (Ev.now _)
      · have lawUp : ∀ x3 : List Int, ∀ x4 : Int, Ev (fun k => chancerylaw3_sharesRight.l0 k l x3 x4 0 (upto l b) l (l.length : Int) b) true → Ev (fun k => chancerylaw3_sharesRight.l0 k l x3 x4 0 (upto l 0) l (l.length : Int) 0) true := by
          intro x3 x4 h
          refine climb (g := fun i k => chancerylaw3_sharesRight.l0 k l x3 x4 0 (upto l i) l (l.length : Int) i) (n := b) b0 h fun i i0 i1 hi => ?_
          have u := upto_succ (xs := l) i0 (by omega)
          have s2 : -1 ≤ upto l (i + 1) ∧ upto l (i + 1) ≤ 100000000000000 := by
            have := upto_bd (xs := l.take b.toNat) (lo := 0) (hi := 83333333333) (fun j j0 j1 => by
              have j2 : j < b := by rw [List.length_take] at j1; omega
              have := hb j j0 j2
              rw [show rd (l.take b.toNat) j = rd l j by unfold rd; rw [List.getD_eq_getElem?_getD, List.getD_eq_getElem?_getD, List.getElem?_take, if_pos (by omega)]]
              exact this) (i + 1) (by omega) (by rw [List.length_take]; omega)
            rw [show upto (l.take b.toNat) (i + 1) = upto l (i + 1) by unfold upto; rw [List.take_take, Nat.min_eq_left (by omega)]] at this
            omega
          refine Ev.step (fun k => by rw [chancerylaw3_sharesRight.l0]) (Ev.pos (by omega) (Ev.pos i0 (Ev.pos (by omega) (Ev.pos rfl (Ev.bind0 (in_ok _ _ _) (Ev.dpos (hb i i0 i1) ?_))))))
          rw [← u, w64 (n := upto l (i + 1)) (by omega) (by omega), w64 (n := i + 1) (by omega) (by omega)]
          exact hi
        have progUp : ∀ r : List Int × Int, Ev (fun k => chart_Shares.l0 k l (upto l b) l (l.length : Int) b) r → Ev (fun k => chart_Shares.l0 k l (upto l 0) l (l.length : Int) 0) r := by
          intro r h
          refine climb (g := fun i k => chart_Shares.l0 k l (upto l i) l (l.length : Int) i) (n := b) b0 h fun i i0 i1 hi => ?_
          have u := upto_succ (xs := l) i0 (by omega)
          have g1 := hb i i0 i1
          have s2 : -1 ≤ upto l (i + 1) ∧ upto l (i + 1) ≤ 100000000000000 := by
            have := upto_bd (xs := l.take b.toNat) (lo := 0) (hi := 83333333333) (fun j j0 j1 => by
              have j2 : j < b := by rw [List.length_take] at j1; omega
              have := hb j j0 j2
              rw [show rd (l.take b.toNat) j = rd l j by unfold rd; rw [List.getD_eq_getElem?_getD, List.getD_eq_getElem?_getD, List.getElem?_take, if_pos (by omega)]]
              exact this) (i + 1) (by omega) (by rw [List.length_take]; omega)
            rw [show upto (l.take b.toNat) (i + 1) = upto l (i + 1) by unfold upto; rw [List.take_take, Nat.min_eq_left (by omega)]] at this
            omega
          refine Ev.step (fun k => by rw [chart_Shares.l0]) (Ev.pos (by omega) (Ev.pos i0 (Ev.pos (by omega) (Ev.neg (by omega) (Ev.neg (by omega) ?_)))))
          rw [← u, w64 (n := upto l (i + 1)) (by omega) (by omega), w64 (n := i + 1) (by omega) (by omega)]
          exact hi
        refine Ev.bind (a := ([], 2)) (prog _ (progUp _ ?_)) (law ([], 2) (lawUp _ _ ?_))
        · refine Ev.step (fun k => by rw [chart_Shares.l0]) (Ev.pos b1 (Ev.pos b0 (Ev.pos b1 ?_)))
          by_cases c : rd l b < 0
          · exact Ev.pos c (Ev.now _)
          · exact Ev.neg c (Ev.pos (by omega) (Ev.now _))
        · refine Ev.step (fun k => by rw [chancerylaw3_sharesRight.l0]) (Ev.pos b1 (Ev.pos b0 (Ev.pos b1 (Ev.pos rfl (Ev.bind0 (in_ok _ _ _) (Ev.dneg bad ?_))))))
          rw [w64 (n := b + 1) (by omega) (by omega)]
          exact wrong _ _ _ rfl rfl (by omega) (b + 1) _ (by omega) (by omega)
/-! ### the statement -/
theorem check_secs (kind : Int) (names : List ByteArray) (ser : List (List Int)) (s l1 : List Int) (hs1 : 1 ≤ s.length) (hs : s.length ≤ 200) (hn : names.length = s.length) (hg : ∀ i : Int, 0 ≤ i → i < s.length → 0 ≤ rd s i ∧ rd s i ≤ 83333333333) (hser : 1 ≤ ser.length) (h0 : rd_L2 ser 0 = s) (hl : l1.length ≤ 1000000000000000000) :
    Ev (fun k => chancerylaw3_ChartSectorsAndShares.l0 k l1 (secs s s.length) 0 0 s (s.length : Int) 0 kind names ser) true := by
  have S := sums s hs hg
  have s1 := S s.length (by omega) (by omega)
  have start : Ev (fun k => chancerylaw3_ChartSectorsAndShares.l0 k l1 (secs s s.length) 0 (upto s 0) s (s.length : Int) 0 kind names ser) true := by
    refine climb (g := fun i k => chancerylaw3_ChartSectorsAndShares.l0 k l1 (secs s s.length) 0 (upto s i) s (s.length : Int) i kind names ser) (a := 0) (n := s.length) (by omega) ?_ fun i i0 i1 hi => ?_
    · refine Ev.step (fun k => by rw [chancerylaw3_ChartSectorsAndShares.l0]) (Ev.neg (by omega) (Ev.pos rfl ?_))
      rw [show (((secs s s.length).length : Int) != (names.length : Int)) = false by rw [secs_length, hn]; simp]
      refine Ev.step (fun k => by rw [chancerylaw3_ChartSectorsAndShares.j4]) (Ev.neg (by simp) (Ev.pos (by omega) ?_))
      rw [h0]
      have go : Ev (fun k => chancerylaw3_ChartSectorsAndShares.l1 k l1 (secs s s.length) (upto s s.length) (upto s 0) (turn s 0) s (s.length : Int) 0) true := by
        refine climb (g := fun i k => chancerylaw3_ChartSectorsAndShares.l1 k l1 (secs s s.length) (upto s s.length) (upto s i) (turn s i) s (s.length : Int) i) (a := 0) (n := s.length) (by omega) ?_ fun i i0 i1 hi => ?_
        · exact Ev.step (fun k => by rw [chancerylaw3_ChartSectorsAndShares.l1]) (Ev.neg (by omega) (Ev.bind (a := true) (shares l1 hl) (Ev.now _)))
        · have u := upto_succ (xs := s) i0 i1
          have b2 := S (i + 1) (by omega) (by omega)
          have tn := turn_next s i i0
          have at_i := secs_at s s.length i i0 i1
          refine Ev.step (fun k => by rw [chancerylaw3_ChartSectorsAndShares.l1]) (Ev.pos i1 (Ev.pos i0 (Ev.pos i1 ?_)))
          rw [← u, w64 (n := upto s (i + 1)) (by omega) (by omega), w64 (n := upto s (i + 1) * 3600) (by omega) (by omega), w64 (n := i + 1) (by omega) (by omega), at_i]
          by_cases hp : upto s s.length > 0
          · rw [if_pos hp] at tn
            refine Ev.pos hp (Ev.bind0 (near_ok _ _ (by omega) (by omega) (by omega) (by omega)) ?_)
            rw [← tn]
            exact Ev.pos (by rw [secs_length]; exact i1) (Ev.neg (by simp) hi)
          · rw [if_neg hp] at tn
            rw [tn] at hi ⊢
            exact Ev.neg hp (Ev.pos (by rw [secs_length]; exact i1) (Ev.neg (by simp) hi))
      rw [upto_zero] at go
      exact go
    · have u := upto_succ (xs := s) i0 i1
      have b2 := S (i + 1) (by omega) (by omega)
      refine Ev.step (fun k => by rw [chancerylaw3_ChartSectorsAndShares.l0]) (Ev.pos i1 (Ev.pos i0 (Ev.pos i1 ?_)))
      rw [← u, w64 (n := upto s (i + 1)) (by omega) (by omega), w64 (n := i + 1) (by omega) (by omega)]
      exact hi
  rw [upto_zero] at start
  exact start
theorem tail (kind : Int) (names : List ByteArray) (ser : List (List Int)) (l1 : List Int) (e : Int) (he : e ≠ 0) (hl : l1.length ≤ 1000000000000000000) : Ev (fun k => chancerylaw3_ChartSectorsAndShares.j2 k l1 [] e e kind names ser) true :=
  by
  refine Ev.step (fun k => by rw [chancerylaw3_ChartSectorsAndShares.j2]) ?_
  refine Ev.neg he ?_
  refine Ev.pos rfl ?_
  refine Ev.pos rfl ?_
  exact Ev.bind (a := true) (shares l1 hl) (Ev.now _)
end ChartShares
open ChartShares in
/-- The statement, for all charts and lists. -/
theorem ChartSectorsAndShares (kind : Int) (names : List ByteArray) (ser : List (List Int)) (l1 : List Int) (hl : l1.length ≤ 1000000000000000000) : ∃ k, chancerylaw3_ChartSectorsAndShares.f k kind names ser l1 = some true := by
  refine Ev.rounds (r := true) ?_
  unfold chancerylaw3_ChartSectorsAndShares.f
  refine Ev.bind (a := ([334, 333, 333], 0)) (Ev.of (fun k => chart_Shares.mono [1, 1, 1] k) (k := 60) (by decide +kernel)) (Ev.pos rfl ?_)
  refine Ev.bind (a := true) (Ev.out (sameInts_ok [334, 333, 333] [334, 333, 333] (by simp)) (by simp)) ?_
  refine Ev.step (fun k => by rw [chancerylaw3_ChartSectorsAndShares.j0]) (Ev.neg (by simp) ?_)
  obtain ⟨e, e1, e2, e3⟩ := errors kind names ser
  by_cases he : e = 0
  · subst he
    obtain ⟨n1, n2, n3, n4, n5⟩ := e3 rfl
    by_cases hk : kind = 3
    · obtain ⟨s, hs, h0⟩ : ∃ s, s ∈ ser ∧ rd_L2 ser 0 = s := ⟨rd_L2 ser 0, getD_mem (by omega) (by omega), rfl⟩
      obtain ⟨r1, r2⟩ := n5 s hs
      have hg : ∀ i : Int, 0 ≤ i → i < s.length → 0 ≤ rd s i ∧ rd s i ≤ 83333333333 := fun i a b => by
        obtain ⟨_, g2, g3⟩ := r2 i a b
        exact ⟨g3 (.inl hk), g2⟩
      refine Ev.bind (a := (secs s s.length, 0)) ?_ (Ev.bind e2 (Ev.pos rfl ?_))
      · unfold chart_Sectors.f
        refine Ev.bind e1 (Ev.pos rfl (Ev.pos hk (Ev.pos (by omega) ?_)))
        rw [h0]
        exact sectors kind names ser s (by omega) (by omega) hg n3 h0
      · rw [show (kind != 3) = false by simp [hk]]
        refine Ev.step (fun k => by rw [chancerylaw3_ChartSectorsAndShares.j1]) (Ev.neg (by simp) (Ev.step (fun k => by rw [chancerylaw3_ChartSectorsAndShares.j2]) (Ev.pos rfl (Ev.pos (by omega) ?_))))
        rw [h0]
        exact check_secs kind names ser s l1 (by omega) (by omega) r1.symm hg n3 h0 hl
    · refine Ev.bind (a := ([], 8)) ?_ (Ev.bind e2 (Ev.pos rfl ?_))
      · unfold chart_Sectors.f
        exact Ev.bind e1 (Ev.pos rfl (Ev.neg hk (Ev.now _)))
      · rw [show (kind != 3) = true by simp [hk]]
        exact Ev.step (fun k => by rw [chancerylaw3_ChartSectorsAndShares.j1]) (Ev.pos rfl (tail kind names ser l1 8 (by omega) hl))
  · refine Ev.bind (a := ([], e)) ?_ (Ev.bind e2 (Ev.neg he ?_))
    · unfold chart_Sectors.f
      exact Ev.bind e1 (Ev.neg he (Ev.now _))
    · exact Ev.step (fun k => by rw [chancerylaw3_ChartSectorsAndShares.j1]) (Ev.neg (by simp) (tail kind names ser l1 e he hl))
end Go.Proofs.Ytihmbddneapooaa.Pure
