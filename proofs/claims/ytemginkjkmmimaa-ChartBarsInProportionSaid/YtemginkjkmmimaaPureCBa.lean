/- Proved: chart.Check and the statement's own first error are alike; chart.Range and the statement's own extremes are alike; edges and scale.Place in closed form. Over numbers and lists alone. No condition but the ranges told. -/
import Derived.Test.YtemginkjkmmimaaQCBx4
import Derived.Test.YtemginkjkmmimaaQCBx5
import Derived.Test.YtemginkjkmmimaaHandCBd
import Derived.Test.YtemginkjkmmimaaLib
namespace Go.Proofs.Ytemginkjkmmimaa.ChartB
open Go.RowKit Go.Proofs.Ytemginkjkmmimaa.QCB Go.Proofs.YtemginkjkmmimaaW.PrintWords Go.Proofs.YtemginkjkmmimaaW.PrintLast Go.Proofs.YtemginkjkmmimaaW.PrintMore Go.Proofs.Ytemginkjkmmimaa.Lib Go.Proofs.Ytemginkjkmmimaa.HandCB
set_option linter.unusedVariables false
set_option linter.unusedSectionVars false
theorem in_ok (a b c : Int) : chanceryref3_In.f a b c = some (decide (b ≤ a ∧ a ≤ c)) := by
  unfold chanceryref3_In.f
  by_cases h : a ≥ b
  · rw [if_pos h]; congr 1; simp; omega
  · rw [if_neg h]; congr 1; simp; omega
def Good (kind x : Int) : Prop := -83333333333 ≤ x ∧ x ≤ 83333333333 ∧ (kind = 3 ∨ kind = 1 → 0 ≤ x)
instance (kind x : Int) : Decidable (Good kind x) := by unfold Good; infer_instance
theorem rd_L1_eq (xs : List (List Int)) (i : Int) : rd_L1 xs i = xs.getD i.toNat [] := rfl
section
variable (kind : Int) (names : List ByteArray) (ser : List (List Int))
def Row (s : List Int) : Prop := s.length = names.length ∧ ∀ i : Int, 0 ≤ i → i < s.length → Good kind (rd s i)
theorem check_row (j r : Int) (s : List Int) (hs : s.length ≤ 1000) (h : Ev (fun k => chart_Check.l0 k ser (ser.length : Int) (wrap64 (j + 1)) kind names ser) r) (hb : ∀ i : Int, 0 ≤ i → i < s.length → Good kind (rd s i)) :
    Ev (fun k => chart_Check.l1 k ser (ser.length : Int) j s (s.length : Int) 0 kind names ser) r := by
  refine climb (g := fun i k => chart_Check.l1 k ser (ser.length : Int) j s (s.length : Int) i kind names ser) (n := s.length) (by omega) (Ev.step (fun k => by rw [chart_Check.l1]) (Ev.neg (by omega) h)) fun i h0 h1 hn => ?_
  obtain ⟨g1, g2, g3⟩ := hb i h0 h1
  refine Ev.step (fun k => by rw [chart_Check.l1]) (Ev.pos h1 (Ev.pos h0 (Ev.pos h1 (Ev.neg (by omega) (Ev.neg (by omega) ?_)))))
  rw [w64 (n := i + 1) (by omega) (by omega)]
  by_cases hz : rd s i < 0
  · exact Ev.pos hz (Ev.neg (fun e => by have := g3 (.inl e); omega) (Ev.neg (fun e => by have := g3 (.inr e); omega) hn))
  · exact Ev.neg hz hn
theorem check_row_bad (j b : Int) (s : List Int) (hs : s.length ≤ 1000) (b0 : 0 ≤ b) (b1 : b < s.length) (hbad : ¬ Good kind (rd s b)) (hb : ∀ i : Int, 0 ≤ i → i < b → Good kind (rd s i)) :
    Ev (fun k => chart_Check.l1 k ser (ser.length : Int) j s (s.length : Int) 0 kind names ser) 2 := by
  refine climb (g := fun i k => chart_Check.l1 k ser (ser.length : Int) j s (s.length : Int) i kind names ser) (n := b) (by omega) (Ev.step (fun k => by rw [chart_Check.l1]) (Ev.pos b1 (Ev.pos b0 (Ev.pos b1 ?_)))) fun i h0 h1 hn => ?_
  · by_cases c1 : rd s b < -83333333333
    · exact Ev.pos c1 (Ev.now _)
    · refine Ev.neg c1 ?_
      by_cases c2 : rd s b > 83333333333
      · exact Ev.pos c2 (Ev.now _)
      · refine Ev.neg c2 ?_
        by_cases c3 : rd s b < 0
        · refine Ev.pos c3 ?_
          by_cases c4 : kind = 3
          · exact Ev.pos c4 (Ev.now _)
          · refine Ev.neg c4 ?_
            by_cases c5 : kind = 1
            · exact Ev.pos c5 (Ev.now _)
            · exact absurd ⟨by omega, by omega, fun h => by omega⟩ hbad
        · exact absurd ⟨by omega, by omega, fun h => by omega⟩ hbad
  · obtain ⟨g1, g2, g3⟩ := hb i h0 h1
    refine Ev.step (fun k => by rw [chart_Check.l1]) (Ev.pos (by omega) (Ev.pos h0 (Ev.pos (by omega) (Ev.neg (by omega) (Ev.neg (by omega) ?_)))))
    rw [w64 (n := i + 1) (by omega) (by omega)]
    by_cases hz : rd s i < 0
    · exact Ev.pos hz (Ev.neg (fun e => by have := g3 (.inl e); omega) (Ev.neg (fun e => by have := g3 (.inr e); omega) hn))
    · exact Ev.neg hz hn
theorem error_row_step (j i r : Int) (s : List Int) (hs : s.length ≤ 1000) (h0 : 0 ≤ i) (h1 : i < s.length) (h : if Good kind (rd s i) then Ev (fun k => chancerylaw3_chartError.l1 k ser (ser.length : Int) j s (s.length : Int) (i + 1) kind names ser) r else r = 2) :
    Ev (fun k => chancerylaw3_chartError.l1 k ser (ser.length : Int) j s (s.length : Int) i kind names ser) r := by
  refine Ev.step (fun k => by rw [chancerylaw3_chartError.l1]) (Ev.pos h1 (Ev.pos h0 (Ev.pos h1 ?_)))
  have low : kind = 3 ∨ kind = 1 → Ev (fun k => chancerylaw3_chartError.j5 k (rd s i) (-83333333333) ser (ser.length : Int) j s (s.length : Int) i true kind names ser) r := by
    intro hk
    refine Ev.step (fun k => by rw [chancerylaw3_chartError.j5]) (Ev.pos rfl (Ev.bind0 (in_ok _ _ _) ?_))
    by_cases g : 0 ≤ rd s i ∧ rd s i ≤ 83333333333
    · rw [if_pos ⟨by omega, g.2, fun _ => g.1⟩] at h
      refine Ev.dpos g ?_
      rw [w64 (n := i + 1) (by omega) (by omega)]
      exact h
    · rw [if_neg (fun c : Good kind (rd s i) => g ⟨c.2.2 hk, c.2.1⟩)] at h
      exact Ev.dneg g (Ev.ret h.symm)
  have any : ¬ (kind = 3 ∨ kind = 1) → Ev (fun k => chancerylaw3_chartError.j5 k (rd s i) (-83333333333) ser (ser.length : Int) j s (s.length : Int) i false kind names ser) r := by
    intro hk
    refine Ev.step (fun k => by rw [chancerylaw3_chartError.j5]) (Ev.neg (by simp) (Ev.bind0 (in_ok _ _ _) ?_))
    by_cases g : -83333333333 ≤ rd s i ∧ rd s i ≤ 83333333333
    · rw [if_pos ⟨g.1, g.2, fun c => absurd c hk⟩] at h
      refine Ev.dpos g ?_
      rw [w64 (n := i + 1) (by omega) (by omega)]
      exact h
    · rw [if_neg (fun c : Good kind (rd s i) => g ⟨c.1, c.2.1⟩)] at h
      exact Ev.dneg g (Ev.ret h.symm)
  by_cases k3 : kind = 3
  · exact Ev.pos k3 (low (.inl k3))
  · refine Ev.neg k3 ?_
    by_cases k1 : kind = 1
    · rw [show (kind == 1) = true by simpa using k1]; exact low (.inr k1)
    · rw [show (kind == 1) = false by simpa using k1]; exact any (by omega)
theorem rows (hn : names.length ≤ 200) (hser : ser.length ≤ 12) : ∃ e : Int, Ev (fun k => chart_Check.l0 k ser (ser.length : Int) 0 kind names ser) e ∧ Ev (fun k => chancerylaw3_chartError.l0 k ser (ser.length : Int) 0 kind names ser) e ∧
    (e = 0 → ∀ s ∈ ser, Row kind names s) := by
  rcases first_bad (fun j => Row kind names (ser.getD j.toNat [])) ser.length with hall | ⟨b, b0, b1, hbad, hb⟩
  · refine ⟨0, ?_, ?_, fun _ s hs => ?_⟩
    · refine climb (g := fun j k => chart_Check.l0 k ser (ser.length : Int) j kind names ser) (n := ser.length) (by omega) (Ev.step (fun k => by rw [chart_Check.l0]) (Ev.neg (by omega) (Ev.now _))) fun j h0 h1 hj => ?_
      obtain ⟨r1, r2⟩ := hall j h0 h1
      refine Ev.step (fun k => by rw [chart_Check.l0]) (Ev.pos h1 (Ev.pos h0 (Ev.pos h1 (Ev.pos (by rw [rd_L1_eq]; omega) ?_))))
      exact check_row kind names ser j 0 _ (by rw [rd_L1_eq]; omega) (by rw [w64 (n := j + 1) (by omega) (by omega)]; exact hj) r2
    · refine climb (g := fun j k => chancerylaw3_chartError.l0 k ser (ser.length : Int) j kind names ser) (n := ser.length) (by omega) (Ev.step (fun k => by rw [chancerylaw3_chartError.l0]) (Ev.neg (by omega) (Ev.now _))) fun j h0 h1 hj => ?_
      obtain ⟨r1, r2⟩ := hall j h0 h1
      refine Ev.step (fun k => by rw [chancerylaw3_chartError.l0]) (Ev.pos h1 (Ev.pos h0 (Ev.pos h1 (Ev.pos (by rw [rd_L1_eq]; omega) ?_))))
      rw [rd_L1_eq]
      generalize ser.getD j.toNat [] = s at r1 r2
      refine climb (g := fun i k => chancerylaw3_chartError.l1 k ser (ser.length : Int) j s (s.length : Int) i kind names ser) (n := s.length) (by omega) (Ev.step (fun k => by rw [chancerylaw3_chartError.l1]) (Ev.neg (by omega) ?_)) fun i i0 i1 hi => ?_
      · rw [w64 (n := j + 1) (by omega) (by omega)]; exact hj
      · exact error_row_step kind names ser j i 0 s (by omega) i0 i1 (by rw [if_pos (r2 i i0 i1)]; exact hi)
    · obtain ⟨i, i0, i1, e⟩ := mem_getD [] hs
      rw [← e]; exact hall i i0 i1
  · have first : ∀ r : Int, Ev (fun k => chart_Check.l0 k ser (ser.length : Int) b kind names ser) r → Ev (fun k => chart_Check.l0 k ser (ser.length : Int) 0 kind names ser) r := fun r hr => by
      refine climb (g := fun j k => chart_Check.l0 k ser (ser.length : Int) j kind names ser) (n := b) b0 hr fun j h0 h1 hj => ?_
      obtain ⟨r1, r2⟩ := hb j h0 h1
      refine Ev.step (fun k => by rw [chart_Check.l0]) (Ev.pos (by omega) (Ev.pos h0 (Ev.pos (by omega) (Ev.pos (by rw [rd_L1_eq]; omega) ?_))))
      exact check_row kind names ser j r _ (by rw [rd_L1_eq]; omega) (by rw [w64 (n := j + 1) (by omega) (by omega)]; exact hj) r2
    have second : ∀ r : Int, Ev (fun k => chancerylaw3_chartError.l0 k ser (ser.length : Int) b kind names ser) r → Ev (fun k => chancerylaw3_chartError.l0 k ser (ser.length : Int) 0 kind names ser) r := fun r hr => by
      refine climb (g := fun j k => chancerylaw3_chartError.l0 k ser (ser.length : Int) j kind names ser) (n := b) b0 hr fun j h0 h1 hj => ?_
      obtain ⟨r1, r2⟩ := hb j h0 h1
      refine Ev.step (fun k => by rw [chancerylaw3_chartError.l0]) (Ev.pos (by omega) (Ev.pos h0 (Ev.pos (by omega) (Ev.pos (by rw [rd_L1_eq]; omega) ?_))))
      rw [rd_L1_eq]
      generalize ser.getD j.toNat [] = s at r1 r2
      refine climb (g := fun i k => chancerylaw3_chartError.l1 k ser (ser.length : Int) j s (s.length : Int) i kind names ser) (n := s.length) (by omega) (Ev.step (fun k => by rw [chancerylaw3_chartError.l1]) (Ev.neg (by omega) ?_)) fun i i0 i1 hi => ?_
      · rw [w64 (n := j + 1) (by omega) (by omega)]; exact hj
      · exact error_row_step kind names ser j i r s (by omega) i0 i1 (by rw [if_pos (r2 i i0 i1)]; exact hi)
    by_cases hl : (ser.getD b.toNat []).length = names.length
    · rcases first_bad (fun i => Good kind (rd (ser.getD b.toNat []) i)) (ser.getD b.toNat []).length with ha | ⟨c, c0, c1, cbad, cb⟩
      · exact absurd ⟨hl, ha⟩ hbad
      · refine ⟨2, first 2 ?_, second 2 ?_, fun h => by omega⟩
        · refine Ev.step (fun k => by rw [chart_Check.l0]) (Ev.pos b1 (Ev.pos b0 (Ev.pos b1 (Ev.pos (by rw [rd_L1_eq]; omega) ?_))))
          exact check_row_bad kind names ser b c _ (by rw [rd_L1_eq]; omega) c0 c1 cbad cb
        · refine Ev.step (fun k => by rw [chancerylaw3_chartError.l0]) (Ev.pos b1 (Ev.pos b0 (Ev.pos b1 (Ev.pos (by rw [rd_L1_eq]; omega) ?_))))
          rw [rd_L1_eq]
          generalize ser.getD b.toNat [] = s at hl c1 cbad cb
          refine climb (g := fun i k => chancerylaw3_chartError.l1 k ser (ser.length : Int) b s (s.length : Int) i kind names ser) (n := c) c0 ?_ fun i i0 i1 hi => ?_
          · exact error_row_step kind names ser b c 2 s (by omega) c0 c1 (by rw [if_neg cbad])
          · exact error_row_step kind names ser b i 2 s (by omega) i0 (by omega) (by rw [if_pos (cb i i0 i1)]; exact hi)
    · refine ⟨14, first 14 ?_, second 14 ?_, fun h => by omega⟩
      · exact Ev.step (fun k => by rw [chart_Check.l0]) (Ev.pos b1 (Ev.pos b0 (Ev.pos b1 (Ev.neg (by rw [rd_L1_eq]; omega) (Ev.now _)))))
      · exact Ev.step (fun k => by rw [chancerylaw3_chartError.l0]) (Ev.pos b1 (Ev.pos b0 (Ev.pos b1 (Ev.neg (by rw [rd_L1_eq]; omega) (Ev.now _)))))
/-- Check and the statement's own first error are the same. -/
theorem errors : ∃ e : Int, Ev (fun k => chart_Check.f k kind names ser) e ∧ Ev (fun k => chancerylaw3_chartError.f k kind names ser) e ∧
    (e = 0 → 1 ≤ names.length ∧ names.length ≤ 200 ∧ 1 ≤ ser.length ∧ ser.length ≤ 12 ∧ ∀ s ∈ ser, Row kind names s) := by
  have h0 : ∀ r b, Ev (fun k => chart_Check.j0 k b kind names ser) r → b = decide (kind < 0 ∨ kind > 3) → Ev (fun k => chart_Check.f k kind names ser) r := by
    intro r b h e
    unfold chart_Check.f
    by_cases c : kind < 0
    · refine Ev.pos c ?_
      rw [show b = true by rw [e]; simp; omega] at h; exact h
    · refine Ev.neg c ?_
      rw [show b = decide (kind > 3) by rw [e]; simp; omega] at h; exact h
  by_cases hk : kind < 0 ∨ kind > 3
  · refine ⟨8, h0 8 true (Ev.step (fun k => by rw [chart_Check.j0]) (Ev.pos rfl (Ev.now _))) (by simp; omega), ?_, fun h => by omega⟩
    unfold chancerylaw3_chartError.f
    exact Ev.bind0 (in_ok _ _ _) (Ev.dneg (by omega) (Ev.now _))
  · by_cases hz : names.length = 0 ∨ ser.length = 0
    · refine ⟨7, h0 7 false (Ev.step (fun k => by rw [chart_Check.j0]) (Ev.neg (by simp) ?_)) (by simp; omega), ?_, fun h => by omega⟩
      · have y : Ev (fun k => chart_Check.j1 k true kind names ser) 7 := Ev.step (fun k => by rw [chart_Check.j1]) (Ev.pos rfl (Ev.now _))
        by_cases c : (names.length : Int) = 0
        · exact Ev.pos c y
        · refine Ev.neg c ?_
          rw [show ((ser.length : Int) == 0) = true from beq_iff_eq.2 (by omega)]; exact y
      · unfold chancerylaw3_chartError.f
        refine Ev.bind0 (in_ok _ _ _) (Ev.dpos (by omega) ?_)
        have y : Ev (fun k => chancerylaw3_chartError.j0 k true kind names ser) 7 := Ev.step (fun k => by rw [chancerylaw3_chartError.j0]) (Ev.pos rfl (Ev.now _))
        by_cases c : (names.length : Int) = 0
        · exact Ev.pos c y
        · refine Ev.neg c ?_
          rw [show ((ser.length : Int) == 0) = true from beq_iff_eq.2 (by omega)]; exact y
    · have h1 : ∀ r, Ev (fun k => chart_Check.j1 k false kind names ser) r → Ev (fun k => chart_Check.f k kind names ser) r := fun r h => by
        refine h0 r false (Ev.step (fun k => by rw [chart_Check.j0]) (Ev.neg (by simp) (Ev.neg (by omega) ?_))) (by simp; omega)
        rw [show ((ser.length : Int) == 0) = false from beq_eq_false_iff_ne.2 (by omega)]; exact h
      have k1 : ∀ r, Ev (fun k => chancerylaw3_chartError.j0 k false kind names ser) r → Ev (fun k => chancerylaw3_chartError.f k kind names ser) r := fun r h => by
        unfold chancerylaw3_chartError.f
        refine Ev.bind0 (in_ok _ _ _) (Ev.dpos (by omega) (Ev.neg (by omega) ?_))
        rw [show ((ser.length : Int) == 0) = false from beq_eq_false_iff_ne.2 (by omega)]; exact h
      by_cases hb : names.length > 200 ∨ ser.length > 12
      · refine ⟨3, h1 3 (Ev.step (fun k => by rw [chart_Check.j1]) (Ev.neg (by simp) ?_)), k1 3 (Ev.step (fun k => by rw [chancerylaw3_chartError.j0]) (Ev.neg (by simp) ?_)), fun h => by omega⟩
        · have y : Ev (fun k => chart_Check.j2 k true kind names ser) 3 := Ev.step (fun k => by rw [chart_Check.j2]) (Ev.pos rfl (Ev.now _))
          by_cases c : (names.length : Int) > 200
          · exact Ev.pos c y
          · refine Ev.neg c ?_
            rw [show decide ((ser.length : Int) > 12) = true by simp; omega]; exact y
        · have y : Ev (fun k => chancerylaw3_chartError.j1 k true kind names ser) 3 := Ev.step (fun k => by rw [chancerylaw3_chartError.j1]) (Ev.pos rfl (Ev.now _))
          by_cases c : (names.length : Int) > 200
          · exact Ev.pos c y
          · refine Ev.neg c ?_
            rw [show decide ((ser.length : Int) > 12) = true by simp; omega]; exact y
      · have h2 : ∀ r, Ev (fun k => chart_Check.j2 k false kind names ser) r → Ev (fun k => chart_Check.f k kind names ser) r := fun r h => by
          refine h1 r (Ev.step (fun k => by rw [chart_Check.j1]) (Ev.neg (by simp) (Ev.neg (by omega) ?_)))
          rw [show decide ((ser.length : Int) > 12) = false by simp; omega]; exact h
        have k2 : ∀ r, Ev (fun k => chancerylaw3_chartError.j1 k false kind names ser) r → Ev (fun k => chancerylaw3_chartError.f k kind names ser) r := fun r h => by
          refine k1 r (Ev.step (fun k => by rw [chancerylaw3_chartError.j0]) (Ev.neg (by simp) (Ev.neg (by omega) ?_)))
          rw [show decide ((ser.length : Int) > 12) = false by simp; omega]; exact h
        by_cases hf : kind = 3 ∧ ser.length > 1
        · refine ⟨4, h2 4 (Ev.step (fun k => by rw [chart_Check.j2]) (Ev.neg (by simp) (Ev.pos hf.1 ?_))), k2 4 (Ev.step (fun k => by rw [chancerylaw3_chartError.j1]) (Ev.neg (by simp) (Ev.pos hf.1 (Ev.pos (by omega) (Ev.now _))))), fun h => by omega⟩
          rw [show decide ((ser.length : Int) > 1) = true by simp; omega]
          exact Ev.step (fun k => by rw [chart_Check.j3]) (Ev.pos rfl (Ev.now _))
        · obtain ⟨e, e1, e2, e3⟩ := rows kind names ser (by omega) (by omega)
          refine ⟨e, h2 e (Ev.step (fun k => by rw [chart_Check.j2]) (Ev.neg (by simp) ?_)), k2 e (Ev.step (fun k => by rw [chancerylaw3_chartError.j1]) (Ev.neg (by simp) ?_)), fun h => ⟨by omega, by omega, by omega, by omega, e3 h⟩⟩
          · have y : Ev (fun k => chart_Check.j3 k false kind names ser) e := Ev.step (fun k => by rw [chart_Check.j3]) (Ev.neg (by simp) e1)
            by_cases c : kind = 3
            · refine Ev.pos c ?_
              rw [show decide ((ser.length : Int) > 1) = false by simp; omega]; exact y
            · exact Ev.neg c y
          · have y : Ev (fun k => chancerylaw3_chartError.j2 k kind names ser) e := Ev.step (fun k => by rw [chancerylaw3_chartError.j2]) e2
            by_cases c : kind = 3
            · exact Ev.pos c (Ev.neg (by omega) y)
            · exact Ev.neg c y
end
theorem floor_ok (a s : Int) (hs : 1 ≤ s) (h1 : -4000000000000000000 ≤ a) (h2 : a ≤ 4000000000000000000) : scale_floor.f a s = some (a / s) := by
  have e2 := Int.emod_nonneg a (by omega : s ≠ 0)
  have e3 := Int.emod_lt_of_pos a (by omega : 0 < s)
  have b1 : -4000000000000000000 ≤ a / s := (Int.le_ediv_iff_mul_le (by omega)).2 (by
    have : (-4000000000000000000 : Int) * s ≤ -4000000000000000000 * 1 := Int.mul_le_mul_of_nonpos_left (by omega) (by omega)
    omega)
  have b2 : a / s < 4000000000000000001 := (Int.ediv_lt_iff_lt_mul (by omega)).2 (by
    have : (4000000000000000001 : Int) * 1 ≤ 4000000000000000001 * s := Int.mul_le_mul_of_nonneg_left (by omega) (by omega)
    omega)
  unfold scale_floor.f
  rw [if_neg (by omega), tmod_down a s (by omega), tdiv_down a s (by omega)]
  by_cases h : a < 0 ∧ a % s ≠ 0
  · rw [if_pos h, if_pos h, if_pos (by omega), w64 (n := a / s + 1) (by omega) (by omega), w64 (by omega) (by omega)]; congr 1; omega
  · rw [if_neg h, if_neg h, if_neg (by omega), w64 (by omega) (by omega)]
section
variable (lo hi st : Int)
def Within : Prop := -4000000000000 ≤ lo ∧ lo ≤ 4000000000000 ∧ -4000000000000 ≤ hi ∧ hi ≤ 4000000000000 ∧ 1 ≤ st ∧ st ≤ 4000000000000
instance : Decidable (Within lo hi st) := by unfold Within; infer_instance
/-- The first error of a scale. -/
def chk : Int := if ¬ Within lo hi st then 2 else if lo ≥ hi then 5 else if (hi - lo) % st ≠ 0 ∨ lo % st ≠ 0 then 4 else if (hi - lo) / st > 500 then 3 else 0
theorem div_bd (a s : Int) (hs : 1 ≤ s) (h1 : 0 ≤ a) (h2 : a ≤ 8000000000000) : 0 ≤ a / s ∧ a / s ≤ 8000000000000 := by
  have := Int.ediv_le_self s h1
  exact ⟨Int.ediv_nonneg h1 (by omega), Int.le_trans this h2⟩
theorem zero_tmod (a : Int) (s : Int) (hs : 1 ≤ s) : Int.tmod a s = 0 ↔ a % s = 0 := by
  have e2 := Int.emod_nonneg a (by omega : s ≠ 0)
  have e3 := Int.emod_lt_of_pos a (by omega : 0 < s)
  rw [tmod_down a s (by omega)]
  by_cases h : a < 0 ∧ a % s ≠ 0
  · rw [if_pos h]; omega
  · rw [if_neg h]
theorem check_ok : Ev (fun k => scale_Check.f k lo hi st) (chk lo hi st) := by
  have yes : ¬ Within lo hi st → Ev (fun k => scale_Check.j0 k true lo hi st) (chk lo hi st) := fun h =>
    Ev.step (fun k => by rw [scale_Check.j0]) (Ev.pos rfl (Ev.ret (by unfold chk; rw [if_pos h])))
  unfold scale_Check.f
  by_cases a1 : lo < -4000000000000
  · exact Ev.pos a1 (yes fun h => by unfold Within at h; omega)
  · refine Ev.neg a1 ?_
    by_cases a2 : lo > 4000000000000
    · exact Ev.pos a2 (yes fun h => by unfold Within at h; omega)
    · refine Ev.neg a2 ?_
      by_cases a3 : hi < -4000000000000
      · exact Ev.pos a3 (yes fun h => by unfold Within at h; omega)
      · refine Ev.neg a3 ?_
        by_cases a4 : hi > 4000000000000
        · exact Ev.pos a4 (yes fun h => by unfold Within at h; omega)
        · refine Ev.neg a4 ?_
          by_cases a5 : st < 1
          · exact Ev.pos a5 (yes fun h => by unfold Within at h; omega)
          · refine Ev.neg a5 ?_
            by_cases a6 : st > 4000000000000
            · rw [decide_eq_true a6]; exact yes fun h => by unfold Within at h; omega
            · rw [decide_eq_false a6]
              have W : Within lo hi st := by unfold Within; omega
              refine Ev.step (fun k => by rw [scale_Check.j0]) (Ev.neg (by simp) ?_)
              unfold chk
              rw [if_neg (fun h => h W)]
              by_cases b1 : lo ≥ hi
              · rw [if_pos b1]; exact Ev.pos b1 (Ev.now _)
              · rw [if_neg b1]
                refine Ev.neg b1 (Ev.neg (by omega) ?_)
                have d := div_bd (hi - lo) st (by omega) (by omega) (by omega)
                rw [w64 (n := hi - lo) (by omega) (by omega), tmod_nn (by omega)]
                by_cases b2 : (hi - lo) % st = 0
                · refine Ev.pos b2 (Ev.bind0 (floor_ok lo st (by omega) (by omega) (by omega)) ?_)
                  have e := Int.mul_ediv_add_emod lo st
                  have e2 := Int.emod_nonneg lo (by omega : st ≠ 0)
                  have e3 := Int.emod_lt_of_pos lo (by omega : 0 < st)
                  have hc : st * (lo / st) = lo / st * st := Int.mul_comm _ _
                  rw [w64 (n := lo / st * st) (by omega) (by omega)]
                  by_cases b3 : lo % st = 0
                  · rw [if_neg (by omega), show (lo / st * st != lo) = false from bne_eq_false_iff_eq.2 (by omega)]
                    refine Ev.step (fun k => by rw [scale_Check.j1]) (Ev.neg (by simp) (Ev.neg (by omega) ?_))
                    rw [w64 (n := hi - lo) (by omega) (by omega), tdiv_nn (by omega), w64 (n := (hi - lo) / st) (by omega) (by omega)]
                    by_cases b4 : (hi - lo) / st > 500
                    · exact Ev.pos b4 (Ev.ret (by rw [if_pos b4]))
                    · exact Ev.neg b4 (Ev.ret (by rw [if_neg b4]))
                  · rw [if_pos (by omega), show (lo / st * st != lo) = true from bne_iff_ne.2 (by omega)]
                    exact Ev.step (fun k => by rw [scale_Check.j1]) (Ev.pos rfl (Ev.now _))
                · rw [if_pos (by omega)]
                  exact Ev.neg b2 (Ev.step (fun k => by rw [scale_Check.j1]) (Ev.pos rfl (Ev.now _)))
/-- What an accepted scale is. -/
theorem chk_zero (h : chk lo hi st = 0) : Within lo hi st ∧ lo < hi ∧ hi = lo + (hi - lo) / st * st ∧ lo % st = 0 ∧ 1 ≤ (hi - lo) / st ∧ (hi - lo) / st ≤ 500 := by
  unfold chk at h
  by_cases W : Within lo hi st
  · rw [if_neg (fun h => h W)] at h
    by_cases b1 : lo ≥ hi
    · rw [if_pos b1] at h; omega
    · rw [if_neg b1] at h
      by_cases b2 : (hi - lo) % st ≠ 0 ∨ lo % st ≠ 0
      · rw [if_pos b2] at h; omega
      · rw [if_neg b2] at h
        by_cases b3 : (hi - lo) / st > 500
        · rw [if_pos b3] at h; omega
        · have W' := W
          unfold Within at W'
          have e := Int.mul_ediv_add_emod (hi - lo) st
          have hc : st * ((hi - lo) / st) = (hi - lo) / st * st := Int.mul_comm _ _
          refine ⟨W, by omega, by omega, by omega, ?_, by omega⟩
          refine Classical.byContradiction fun hn => ?_
          have d := div_bd (hi - lo) st (by omega) (by omega) (by omega)
          have z : (hi - lo) / st = 0 := by omega
          rw [z, Int.mul_zero] at e; omega
  · rw [if_pos W] at h; omega
/-- What Place answers. -/
def place (value long : Int) : Int × Int := if chk lo hi st ≠ 0 then (0, chk lo hi st) else if long < 0 ∨ long > 100000 ∨ value < lo ∨ value > hi then (0, 2) else ((2 * ((value - lo) * long) + (hi - lo)) / (2 * (hi - lo)), 0)
theorem place_ok (value long : Int) : Ev (fun k => scale_Place.f k lo hi st value long) (place lo hi st value long) := by
  unfold scale_Place.f
  refine Ev.bind (check_ok lo hi st) ?_
  by_cases hz : chk lo hi st = 0
  · have hp : place lo hi st value long = if long < 0 ∨ long > 100000 ∨ value < lo ∨ value > hi then (0, 2) else ((2 * ((value - lo) * long) + (hi - lo)) / (2 * (hi - lo)), 0) := by
      unfold place; rw [if_neg (fun h => h hz)]
    refine Ev.pos hz ?_
    obtain ⟨W, hlt, _, _, _, _⟩ := chk_zero lo hi st hz
    unfold Within at W
    by_cases a1 : long < 0
    · exact Ev.pos a1 (Ev.ret (by rw [hp, if_pos (by omega)]))
    · refine Ev.neg a1 ?_
      by_cases a2 : long > 100000
      · exact Ev.pos a2 (Ev.ret (by rw [hp, if_pos (by omega)]))
      · refine Ev.neg a2 ?_
        by_cases a3 : value < lo
        · exact Ev.pos a3 (Ev.ret (by rw [hp, if_pos (by omega)]))
        · refine Ev.neg a3 ?_
          by_cases a4 : value > hi
          · exact Ev.pos a4 (Ev.ret (by rw [hp, if_pos (by omega)]))
          · refine Ev.neg a4 ?_
            have p1 : 0 ≤ (value - lo) * long := Int.mul_nonneg (by omega) (by omega)
            have p2 : (value - lo) * long ≤ 8000000000000 * 100000 := Int.mul_le_mul (by omega) (by omega) (by omega) (by omega)
            have p3 : 2 * (value - lo) * long = 2 * ((value - lo) * long) := Int.mul_assoc _ _ _
            rw [w64 (n := value - lo) (by omega) (by omega), w64 (n := 2 * (value - lo)) (by omega) (by omega), w64 (n := 2 * (value - lo) * long) (by omega) (by omega), w64 (n := hi - lo) (by omega) (by omega), w64 (n := 2 * (value - lo) * long + (hi - lo)) (by omega) (by omega), w64 (n := 2 * (hi - lo)) (by omega) (by omega)]
            exact Ev.bind0 (floor_ok _ _ (by omega) (by omega) (by omega)) (Ev.ret (by rw [hp, if_neg (by omega), p3]))
  · exact Ev.neg hz (Ev.ret (by unfold place; rw [if_pos hz]))

end
/-! ### edges -/
theorem edg_length (wd p : Int) (hp : 0 ≤ p) : (edg wd p).length = (p + 1).toNat := tab_length _ _
theorem edges_ok (wd p : Int) (h0 : 0 ≤ wd) (h1 : wd ≤ 1000000) (p0 : 1 ≤ p) (p1 : p ≤ 1000) : Ev (fun k => chart_edges.f k wd p) (edg wd p) := by
  unfold chart_edges.f
  have e1 : wrap64 (p + 1) = p + 1 := w64 (by omega) (by omega)
  rw [e1]
  refine Ev.pos (by omega) (Ev.pos (by omega) ?_)
  show Ev (fun k => chart_edges.l0 k wd p (List.replicate (p + 1).toNat 0) ((List.replicate (p + 1).toNat (0 : Int)).length : Int) 0) (edg wd p)
  rw [List.length_replicate, tab_const]
  have hst : tab (fun _ => (0 : Int)) (p + 1).toNat = tab (fun j => if j < 0 then wd * j / p else 0) (p + 1).toNat := tab_congr fun j j0 _ => by rw [if_neg (by omega)]
  rw [hst]
  refine climb (g := fun i k => chart_edges.l0 k wd p (tab (fun j => if j < i then wd * j / p else 0) (p + 1).toNat) (((p + 1).toNat : Nat) : Int) i) (n := p + 1) (by omega) ?_ fun i i0 i1 hi => ?_
  · refine Ev.step (fun k => by rw [chart_edges.l0]) (Ev.neg (by omega) (Ev.ret ?_))
    exact tab_congr fun j j0 j1 => by rw [if_pos (by omega)]
  · refine Ev.step (fun k => by rw [chart_edges.l0]) (Ev.pos (by omega) (Ev.neg (by omega) (Ev.pos i0 (Ev.pos (by rw [tab_length]; omega) ?_))))
    have m0 : 0 ≤ wd * i := Int.mul_nonneg h0 i0
    have m1 : wd * i ≤ 1000000 * 1000 := Int.mul_le_mul h1 (by omega) i0 (by omega)
    have m2 := Int.ediv_le_self p m0
    have m3 : 0 ≤ wd * i / p := Int.ediv_nonneg m0 (by omega)
    rw [w64 (n := wd * i) (by omega) (by omega), tdiv_nn m0, w64 (n := wd * i / p) (by omega) (by have := Int.ediv_le_self p m0; omega), w64 (n := i + 1) (by omega) (by omega), tab_set i0]
    rw [show (fun j => if j = i then wd * i / p else if j < i then wd * j / p else 0) = (fun j => if j < i + 1 then wd * j / p else 0) from funext fun j => by
      by_cases c : j = i
      · subst c; rw [if_pos rfl, if_pos (by omega)]
      · rw [if_neg c]
        by_cases d : j < i
        · rw [if_pos d, if_pos (by omega)]
        · rw [if_neg d, if_neg (by omega)]]
    exact hi
/-! ### the least and the greatest value -/
def val (ss : List (List Int)) (i j : Int) : Int := rd (rd_L1 ss j) i
def colS (ss : List (List Int)) (i : Int) : Nat → Int
  | 0 => 0
  | j + 1 => colS ss i j + val ss i j
theorem colS_succ (ss : List (List Int)) (i : Int) (j : Nat) : colS ss i (j + 1) = colS ss i j + val ss i j := rfl
def vals (ss : List (List Int)) (i : Int) (m : Nat) : List Int := (List.range m).map fun j : Nat => val ss i j
theorem vals_succ (ss : List (List Int)) (i : Int) (m : Nat) : vals ss i (m + 1) = vals ss i m ++ [val ss i m] := by
  unfold vals
  rw [List.range_succ, List.map_append]
  rfl
def item (kind : Int) (ss : List (List Int)) (i : Int) : List Int := if kind = 1 then [colS ss i ss.length] else vals ss i ss.length
def seq (kind : Int) (ss : List (List Int)) (n : Nat) : List Int := (List.range n).flatMap fun i : Nat => item kind ss i
theorem seq_succ (kind : Int) (ss : List (List Int)) (n : Nat) : seq kind ss (n + 1) = seq kind ss n ++ item kind ss n := by
  unfold seq
  rw [List.range_succ, List.flatMap_append]
  simp
theorem seq_length (kind : Int) (ss : List (List Int)) (n : Nat) (h : 1 ≤ ss.length) : (seq kind ss n).length ≤ n * ss.length := by
  induction n with
  | zero => simp [seq]
  | succ n ih =>
    rw [seq_succ, List.length_append, Nat.succ_mul]
    have : (item kind ss n).length ≤ ss.length := by
      unfold item
      split
      · simpa using h
      · simp [vals]
    omega
theorem colS_bd (kind : Int) (ss : List (List Int)) (i : Int) (hg : ∀ j : Int, 0 ≤ j → j < ss.length → Good kind (val ss i j)) (j : Nat) (hj : j ≤ ss.length) : -83333333333 * (j : Int) ≤ colS ss i j ∧ colS ss i j ≤ 83333333333 * (j : Int) := by
  induction j with
  | zero => simp [colS]
  | succ j ih =>
    have h1 := ih (by omega)
    obtain ⟨g1, g2, _⟩ := hg j (by omega) (by omega)
    rw [colS_succ]
    omega
theorem last_run (L : List Int) (hL : L.length ≤ 10000) (a b : Int) : Ev (fun k => chancerylaw3_extremes.l2 k a b L (L.length : Int) 0) (L.foldl mn a, L.foldl mx b) := by
  refine climb (g := fun i k => chancerylaw3_extremes.l2 k ((L.take i.toNat).foldl mn a) ((L.take i.toNat).foldl mx b) L (L.length : Int) i) (a := 0) (n := L.length) (by omega) ?_ fun i i0 i1 hi => ?_
  · refine Ev.step (fun k => by rw [chancerylaw3_extremes.l2]) (Ev.neg (by omega) (Ev.ret ?_))
    rw [show ((L.length : Int)).toNat = L.length by omega, List.take_length]
  · refine Ev.step (fun k => by rw [chancerylaw3_extremes.l2]) (Ev.pos i1 (Ev.pos i0 (Ev.pos i1 ?_)))
    rw [take_rd i0 i1, List.foldl_append, List.foldl_append] at hi
    rw [w64 (n := i + 1) (by omega) (by omega)]
    exact hi
/-- What Range answers, where Check finds no error. -/
def z0 (kind : Int) (ss : List (List Int)) : Int := if kind = 2 then val ss 0 0 else 0
def lowC (kind : Int) (ss : List (List Int)) (n : Nat) : Int := (seq kind ss n).foldl mn (z0 kind ss)
def highC (kind : Int) (ss : List (List Int)) (n : Nat) : Int := (seq kind ss n).foldl mx (z0 kind ss)
section
variable (kind : Int) (nm : List ByteArray) (ss : List (List Int)) (hn : nm.length ≤ 200) (hm1 : 1 ≤ ss.length) (hm : ss.length ≤ 12) (hn1 : 1 ≤ nm.length)
  (hl : ∀ j : Int, 0 ≤ j → j < ss.length → (rd_L1 ss j).length = nm.length) (hg : ∀ i j : Int, 0 ≤ i → i < nm.length → 0 ≤ j → j < ss.length → Good kind (val ss i j))
include hn hm hl hg hm1 hn1
theorem range_col (i : Int) (i0 : 0 ≤ i) (i1 : i < nm.length) (a b : Int) (r : Int × Int × Int) (hk : kind ≠ 1)
    (h : Ev (fun k => chart_Range.l0 k ((vals ss i ss.length).foldl mn a) ((vals ss i ss.length).foldl mx b) (nm.length : Int) (i + 1) kind nm ss) r) :
    Ev (fun k => chart_Range.l1 k a b i 0 (nm.length : Int) i ss (ss.length : Int) 0 kind nm ss) r := by
  refine climb (g := fun j k => chart_Range.l1 k ((vals ss i j.toNat).foldl mn a) ((vals ss i j.toNat).foldl mx b) i (colS ss i j.toNat) (nm.length : Int) i ss (ss.length : Int) j kind nm ss) (a := 0) (n := ss.length) (by omega) ?_ fun j j0 j1 hj => ?_
  · refine Ev.step (fun k => by rw [chart_Range.l1]) (Ev.neg (by omega) (Ev.neg hk ?_))
    rw [w64 (n := i + 1) (by omega) (by omega), show ((ss.length : Int)).toNat = ss.length by omega]
    exact h
  · have hc := colS_bd kind ss i (fun j h0 h1 => hg i j i0 i1 h0 h1) j.toNat (by omega)
    obtain ⟨g1, g2, _⟩ := hg i j i0 i1 j0 j1
    have hv := vals_succ ss i j.toNat
    rw [show ((j.toNat : Nat) : Int) = j by omega] at hv
    rw [show (j + 1).toNat = j.toNat + 1 by omega, hv, List.foldl_append, List.foldl_append, colS, show ((j.toNat : Nat) : Int) = j by omega] at hj
    refine Ev.step (fun k => by rw [chart_Range.l1]) (Ev.pos j1 (Ev.pos j0 (Ev.pos j1 (Ev.pos i0 (Ev.pos (by rw [hl j j0 j1]; exact i1) (Ev.neg hk ?_))))))
    rw [show rd (rd_L1 ss j) i = val ss i j from rfl, w64 (n := colS ss i j.toNat + val ss i j) (by omega) (by omega), w64 (n := j + 1) (by omega) (by omega)]
    exact hj
theorem range_sum (i : Int) (i0 : 0 ≤ i) (i1 : i < nm.length) (a b : Int) (r : Int × Int × Int) (hk : kind = 1)
    (h : Ev (fun k => chart_Range.l0 k a (mx b (colS ss i ss.length)) (nm.length : Int) (i + 1) kind nm ss) r) :
    Ev (fun k => chart_Range.l1 k a b i 0 (nm.length : Int) i ss (ss.length : Int) 0 kind nm ss) r := by
  refine climb (g := fun j k => chart_Range.l1 k a b i (colS ss i j.toNat) (nm.length : Int) i ss (ss.length : Int) j kind nm ss) (a := 0) (n := ss.length) (by omega) ?_ fun j j0 j1 hj => ?_
  · refine Ev.step (fun k => by rw [chart_Range.l1]) (Ev.neg (by omega) (Ev.pos hk ?_))
    rw [w64 (n := i + 1) (by omega) (by omega), show ((ss.length : Int)).toNat = ss.length by omega]
    exact h
  · have hc := colS_bd kind ss i (fun j h0 h1 => hg i j i0 i1 h0 h1) j.toNat (by omega)
    obtain ⟨g1, g2, _⟩ := hg i j i0 i1 j0 j1
    rw [show (j + 1).toNat = j.toNat + 1 by omega, colS, show ((j.toNat : Nat) : Int) = j by omega] at hj
    refine Ev.step (fun k => by rw [chart_Range.l1]) (Ev.pos j1 (Ev.pos j0 (Ev.pos j1 (Ev.pos i0 (Ev.pos (by rw [hl j j0 j1]; exact i1) (Ev.pos hk ?_))))))
    rw [show rd (rd_L1 ss j) i = val ss i j from rfl, w64 (n := colS ss i j.toNat + val ss i j) (by omega) (by omega), w64 (n := j + 1) (by omega) (by omega)]
    exact hj
theorem colS_nn (i : Int) (i0 : 0 ≤ i) (i1 : i < nm.length) (hk : kind = 1) (j : Nat) (hj : j ≤ ss.length) : 0 ≤ colS ss i j ∧ ∀ q : Nat, q ≤ j → colS ss i q ≤ colS ss i j := by
  induction j with
  | zero => exact ⟨by simp [colS], fun q hq => by rw [show q = 0 by omega]; omega⟩
  | succ j ih =>
    obtain ⟨h1, h2⟩ := ih (by omega)
    have g := (hg i j i0 i1 (by omega) (by omega)).2.2 (.inr hk)
    rw [colS_succ]
    refine ⟨by omega, fun q hq => ?_⟩
    by_cases c : q = j + 1
    · subst c; rw [colS_succ]; omega
    · have := h2 q (by omega); omega
theorem range_ok (hC : Ev (fun k => chart_Check.f k kind nm ss) 0) : Ev (fun k => chart_Range.f k kind nm ss) (lowC kind ss nm.length, highC kind ss nm.length, 0) := by
  have hmain : Ev (fun k => chart_Range.j0 k (z0 kind ss) (z0 kind ss) kind nm ss) (lowC kind ss nm.length, highC kind ss nm.length, 0) := by
    refine Ev.step (fun k => by rw [chart_Range.j0]) ?_
    refine climb (g := fun i k => chart_Range.l0 k ((seq kind ss i.toNat).foldl mn (z0 kind ss)) ((seq kind ss i.toNat).foldl mx (z0 kind ss)) (nm.length : Int) i kind nm ss) (a := 0) (n := nm.length) (by omega) ?_ fun i i0 i1 hi => ?_
    · refine Ev.step (fun k => by rw [chart_Range.l0]) (Ev.neg (by omega) (Ev.ret ?_))
      rw [show ((nm.length : Int)).toNat = nm.length by omega]
      rfl
    · refine Ev.step (fun k => by rw [chart_Range.l0]) (Ev.pos i1 ?_)
      have hq := seq_succ kind ss i.toNat
      rw [show ((i.toNat : Nat) : Int) = i by omega] at hq
      rw [show (i + 1).toNat = i.toNat + 1 by omega, hq, List.foldl_append, List.foldl_append] at hi
      by_cases hk : kind = 1
      · refine range_sum kind nm ss hn hm1 hm hn1 hl hg i i0 i1 _ _ _ hk ?_
        unfold item at hi
        rw [if_pos hk] at hi
        have hz : mn ((seq kind ss i.toNat).foldl mn (z0 kind ss)) (colS ss i ss.length) = (seq kind ss i.toNat).foldl mn (z0 kind ss) := by
          have key : ∀ q : Nat, q ≤ nm.length → (seq kind ss q).foldl mn (z0 kind ss) = 0 := by
            intro q
            induction q with
            | zero => intro _; show z0 kind ss = 0; unfold z0; rw [if_neg (by omega)]
            | succ q ih =>
              intro hq
              rw [seq_succ, List.foldl_append, ih (by omega)]
              unfold item
              rw [if_pos hk]
              have := (colS_nn kind nm ss hn hm1 hm hn1 hl hg q (by omega) (by omega) hk ss.length (Nat.le_refl _)).1
              show mn 0 _ = 0
              unfold mn
              rw [if_neg (by omega)]
          rw [key i.toNat (by omega)]
          have := (colS_nn kind nm ss hn hm1 hm hn1 hl hg i i0 i1 hk ss.length (Nat.le_refl _)).1
          unfold mn
          rw [if_neg (by omega)]
        simp only [List.foldl_cons, List.foldl_nil] at hi
        rw [hz] at hi
        exact hi
      · refine range_col kind nm ss hn hm1 hm hn1 hl hg i i0 i1 _ _ _ hk ?_
        unfold item at hi
        rw [if_neg hk] at hi
        exact hi
  unfold chart_Range.f
  refine Ev.bind hC (Ev.pos rfl ?_)
  unfold z0 at hmain
  by_cases k2 : kind = 2
  · rw [if_pos k2] at hmain
    exact Ev.pos k2 (Ev.pos (by omega) (Ev.pos (by rw [hl 0 (by omega) (by omega)]; omega) hmain))
  · rw [if_neg k2] at hmain
    exact Ev.neg k2 hmain
theorem extremes_col (i : Int) (i0 : 0 ≤ i) (i1 : i < nm.length) (L : List Int) (hL : L.length ≤ 10000) (r : Int × Int)
    (h : Ev (fun k => chancerylaw3_extremes.l0 k (L ++ item kind ss i) (nm.length : Int) (i + 1) kind nm ss) r) :
    Ev (fun k => chancerylaw3_extremes.l1 k L i 0 (nm.length : Int) i ss (ss.length : Int) 0 kind nm ss) r := by
  have e : Ev (fun k => chancerylaw3_extremes.l1 k (if kind = 1 then L else L ++ vals ss i (0 : Int).toNat) i (colS ss i (0 : Int).toNat) (nm.length : Int) i ss (ss.length : Int) 0 kind nm ss) r := by
    refine climb (g := fun j k => chancerylaw3_extremes.l1 k (if kind = 1 then L else L ++ vals ss i j.toNat) i (colS ss i j.toNat) (nm.length : Int) i ss (ss.length : Int) j kind nm ss) (a := 0) (n := ss.length) (by omega) ?_ fun j j0 j1 hj => ?_
    · refine Ev.step (fun k => by rw [chancerylaw3_extremes.l1]) (Ev.neg (by omega) ?_)
      rw [w64 (n := i + 1) (by omega) (by omega), show ((ss.length : Int)).toNat = ss.length by omega]
      unfold item at h
      by_cases hk : kind = 1
      · rw [if_pos hk] at h
        refine Ev.pos hk (Ev.pos (by rw [if_pos hk]; omega) ?_)
        rw [if_pos hk]
        exact h
      · rw [if_neg hk] at h
        refine Ev.neg hk ?_
        rw [if_neg hk]
        exact h
    · have hc := colS_bd kind ss i (fun j h0 h1 => hg i j i0 i1 h0 h1) j.toNat (by omega)
      obtain ⟨g1, g2, _⟩ := hg i j i0 i1 j0 j1
      have hv := vals_succ ss i j.toNat
      rw [show ((j.toNat : Nat) : Int) = j by omega] at hv
      rw [show (j + 1).toNat = j.toNat + 1 by omega, hv, colS, show ((j.toNat : Nat) : Int) = j by omega] at hj
      refine Ev.step (fun k => by rw [chancerylaw3_extremes.l1]) (Ev.pos j1 (Ev.pos j0 (Ev.pos j1 (Ev.pos i0 (Ev.pos (by rw [hl j j0 j1]; exact i1) ?_)))))
      rw [show rd (rd_L1 ss j) i = val ss i j from rfl, w64 (n := colS ss i j.toNat + val ss i j) (by omega) (by omega), w64 (n := j + 1) (by omega) (by omega)]
      by_cases hk : kind = 1
      · rw [if_pos hk] at hj
        rw [if_pos hk]
        exact Ev.pos hk hj
      · rw [if_neg hk] at hj
        rw [if_neg hk]
        refine Ev.neg hk (Ev.pos (by rw [List.length_append, vals, List.length_map, List.length_range]; omega) ?_)
        rw [List.append_assoc]
        exact hj
  rw [show (if kind = 1 then L else L ++ vals ss i (0 : Int).toNat) = L from by split <;> simp [vals]] at e
  exact e
/-- What the statement's own extremes are. -/
theorem extremes_ok : Ev (fun k => chancerylaw3_extremes.f k kind nm ss) (lowC kind ss nm.length, highC kind ss nm.length) := by
  have hbig : ∀ q : Nat, q ≤ nm.length → (seq kind ss q).length ≤ 2400 := fun q hq => by
    have h1 := seq_length kind ss q hm1
    have h2 : q * ss.length ≤ 200 * 12 := Nat.mul_le_mul (by omega) hm
    omega
  have run : ∀ L : List Int, L.length ≤ 1 → ∀ r, Ev (fun k => chancerylaw3_extremes.l0 k (L ++ seq kind ss nm.length) (nm.length : Int) nm.length kind nm ss) r → Ev (fun k => chancerylaw3_extremes.j0 k L kind nm ss) r := by
    intro L hL r hr
    refine Ev.step (fun k => by rw [chancerylaw3_extremes.j0]) ?_
    have := climb (g := fun i k => chancerylaw3_extremes.l0 k (L ++ seq kind ss i.toNat) (nm.length : Int) i kind nm ss) (r := r) (a := 0) (n := nm.length) (by omega) (by rw [show ((nm.length : Int)).toNat = nm.length by omega]; exact hr) fun i i0 i1 hi => by
      refine Ev.step (fun k => by rw [chancerylaw3_extremes.l0]) (Ev.pos i1 ?_)
      refine extremes_col kind nm ss hn hm1 hm hn1 hl hg i i0 i1 _ (by rw [List.length_append]; have := hbig i.toNat (by omega); omega) r ?_
      have hq := seq_succ kind ss i.toNat
      rw [show ((i.toNat : Nat) : Int) = i by omega] at hq
      rw [show (i + 1).toNat = i.toNat + 1 by omega, hq, ← List.append_assoc] at hi
      exact hi
    have e : L ++ seq kind ss (0 : Int).toNat = L := by simp [seq]
    rw [e] at this
    exact this
  have hend : ∀ L : List Int, 1 ≤ L.length → L.length ≤ 10000 → Ev (fun k => chancerylaw3_extremes.l0 k L (nm.length : Int) nm.length kind nm ss) (L.foldl mn (rd L 0), L.foldl mx (rd L 0)) := fun L h1 h2 =>
    Ev.step (fun k => by rw [chancerylaw3_extremes.l0]) (Ev.neg (by omega) (Ev.pos (by omega) (last_run L h2 _ _)))
  have hS := hbig nm.length (Nat.le_refl _)
  unfold chancerylaw3_extremes.f lowC highC z0
  by_cases k2 : kind = 2
  · refine Ev.pos k2 (run [] (by simp) _ ?_)
    rw [if_pos k2, List.nil_append]
    have h0 : seq kind ss nm.length ≠ [] ∧ rd (seq kind ss nm.length) 0 = val ss 0 0 := by
      obtain ⟨n', hn'⟩ : ∃ q, nm.length = q + 1 := ⟨nm.length - 1, by omega⟩
      obtain ⟨m', hm'⟩ : ∃ q, ss.length = q + 1 := ⟨ss.length - 1, by omega⟩
      have : seq kind ss nm.length = val ss 0 0 :: ((List.range m').map (fun j : Nat => val ss 0 ((j + 1 : Nat) : Int)) ++ (List.range n').flatMap (fun i : Nat => item kind ss ((i + 1 : Nat) : Int))) := by
        unfold seq
        rw [hn', List.range_succ_eq_map, List.flatMap_cons, List.flatMap_map]
        have hi0 : item kind ss ((0 : Nat) : Int) = val ss 0 0 :: (List.range m').map (fun j : Nat => val ss 0 ((j + 1 : Nat) : Int)) := by
          unfold item vals
          rw [if_neg (by omega), hm', List.range_succ_eq_map, List.map_cons, List.map_map]
          rfl
        rw [hi0, List.cons_append]
      rw [this]
      exact ⟨by simp, rfl⟩
    have h1 : 1 ≤ (seq kind ss nm.length).length := List.length_pos_iff.2 h0.1
    have := hend (seq kind ss nm.length) h1 (by omega)
    rw [h0.2] at this
    exact this
  · refine Ev.neg k2 (Ev.pos (by simp) (run [0] (by simp) _ ?_))
    rw [if_neg k2]
    have := hend ([0] ++ seq kind ss nm.length) (by simp) (by simp; omega)
    exact this
end
theorem foldl_mn_le (L : List Int) (a : Int) : L.foldl mn a ≤ a ∧ ∀ x ∈ L, L.foldl mn a ≤ x := by
  induction L generalizing a with
  | nil => exact ⟨Int.le_refl _, fun x hx => by cases hx⟩
  | cons y L ih =>
    obtain ⟨h1, h2⟩ := ih (mn a y)
    have h3 : mn a y ≤ a ∧ mn a y ≤ y := by unfold mn; split <;> omega
    refine ⟨by rw [List.foldl_cons]; omega, fun x hx => ?_⟩
    rw [List.foldl_cons]
    rcases List.mem_cons.1 hx with rfl | hx
    · omega
    · exact h2 x hx
theorem foldl_mx_ge (L : List Int) (a : Int) : a ≤ L.foldl mx a ∧ ∀ x ∈ L, x ≤ L.foldl mx a := by
  induction L generalizing a with
  | nil => exact ⟨Int.le_refl _, fun x hx => by cases hx⟩
  | cons y L ih =>
    obtain ⟨h1, h2⟩ := ih (mx a y)
    have h3 : a ≤ mx a y ∧ y ≤ mx a y := by unfold mx; split <;> omega
    refine ⟨by rw [List.foldl_cons]; omega, fun x hx => ?_⟩
    rw [List.foldl_cons]
    rcases List.mem_cons.1 hx with rfl | hx
    · omega
    · exact h2 x hx
theorem mem_seq_val (kind : Int) (ss : List (List Int)) (n : Nat) (hk : kind ≠ 1) (i j : Int) (i0 : 0 ≤ i) (i1 : i < n) (j0 : 0 ≤ j) (j1 : j < ss.length) : val ss i j ∈ seq kind ss n := by
  unfold seq
  refine List.mem_flatMap.2 ⟨i.toNat, List.mem_range.2 (by omega), ?_⟩
  unfold item vals
  rw [if_neg hk, show ((i.toNat : Nat) : Int) = i by omega]
  exact List.mem_map.2 ⟨j.toNat, List.mem_range.2 (by omega), by rw [show ((j.toNat : Nat) : Int) = j by omega]⟩
theorem mem_seq_sum (kind : Int) (ss : List (List Int)) (n : Nat) (hk : kind = 1) (i : Int) (i0 : 0 ≤ i) (i1 : i < n) : colS ss i ss.length ∈ seq kind ss n := by
  unfold seq
  refine List.mem_flatMap.2 ⟨i.toNat, List.mem_range.2 (by omega), ?_⟩
  unfold item
  rw [if_pos hk, show ((i.toNat : Nat) : Int) = i by omega]
  simp
/-- Place, for all values at once, from some number of rounds on. -/
theorem place_all (lo hi st : Int) : ∃ K, ∀ k, K ≤ k → ∀ v long, scale_Place.f k lo hi st v long = some (place lo hi st v long) := by
  obtain ⟨K, hK⟩ := check_ok lo hi st
  refine ⟨K, fun k hk v long => ?_⟩
  obtain ⟨K2, hK2⟩ := place_ok lo hi st v long
  have h1 := hK2 (max K K2) (by omega)
  have h2 := hK (max K K2) (by omega)
  have h3 := hK k hk
  simp only at h1 h2 h3
  unfold scale_Place.f at h1 ⊢
  rw [h3]
  rw [h2] at h1
  exact h1
theorem all_rounds {α : Type} {g : Nat → Nat → Option α} {r : Nat → α} (n : Nat) (h : ∀ i, i < n → Ev (g i) (r i)) : ∃ K, ∀ k, K ≤ k → ∀ i, i < n → g i k = some (r i) := by
  induction n with
  | zero => exact ⟨0, fun _ _ i hi => by omega⟩
  | succ n ih =>
    obtain ⟨K1, h1⟩ := ih fun i hi => h i (by omega)
    obtain ⟨K2, h2⟩ := h n (by omega)
    refine ⟨max K1 K2, fun k hk i hi => ?_⟩
    by_cases c : i = n
    · subst c; exact h2 k (by omega)
    · exact h1 k (by omega) i (by omega)
theorem Ev.one {α : Type} {g : Nat → Option α} {r s : α} (h : Ev g r) (h' : Ev g s) : r = s := by
  obtain ⟨K, h⟩ := h
  obtain ⟨K', h'⟩ := h'
  have a := h (max K K') (by omega)
  have b := h' (max K K') (by omega)
  rw [a] at b
  exact Option.some.inj b
section
variable (k : Nat) (kind : Int) (nm : List ByteArray) (ss : List (List Int)) (low high : Int) (hR : chart_Range.f k kind nm ss = some (low, high, 0))
include hR
theorem range_check : chart_Check.f k kind nm ss = some 0 := by
  unfold chart_Range.f at hR
  obtain ⟨t, ht, hR⟩ := Option.bind_eq_some_iff.1 hR
  by_cases h0 : t = 0
  · rw [h0] at ht; exact ht
  · rw [if_neg h0] at hR
    simp only [Option.some.injEq, Prod.mk.injEq] at hR
    exact absurd hR.2.2 h0
theorem range_kind : 0 ≤ kind ∧ kind ≤ 3 := by
  have h := range_check k kind nm ss low high hR
  unfold chart_Check.f at h
  by_cases c : kind < 0
  · rw [if_pos c] at h
    cases k with
    | zero => simp [chart_Check.j0] at h
    | succ k => rw [chart_Check.j0, if_pos rfl] at h; simp at h
  · rw [if_neg c] at h
    by_cases d : kind > 3
    · rw [decide_eq_true d] at h
      cases k with
      | zero => simp [chart_Check.j0] at h
      | succ k => rw [chart_Check.j0, if_pos rfl] at h; simp at h
    · omega
theorem range_ev : Ev (fun k => chart_Check.f k kind nm ss) 0 := Ev.of (fun k => chart_Check.mono _ _ _ k) (range_check k kind nm ss low high hR)
theorem range_shape : 1 ≤ nm.length ∧ nm.length ≤ 200 ∧ 1 ≤ ss.length ∧ ss.length ≤ 12 ∧ (∀ j : Int, 0 ≤ j → j < ss.length → (rd_L1 ss j).length = nm.length) ∧ ∀ i j : Int, 0 ≤ i → i < nm.length → 0 ≤ j → j < ss.length → Good kind (val ss i j) := by
  obtain ⟨e, h1, _, h3⟩ := errors kind nm ss
  obtain rfl : e = 0 := Ev.one h1 (range_ev k kind nm ss low high hR)
  obtain ⟨a, b, c, d, hr⟩ := h3 rfl
  have hm : ∀ j : Int, 0 ≤ j → j < ss.length → Row kind nm (rd_L1 ss j) := fun j h0 h1 => hr _ (by rw [rd_L1_eq]; exact getD_mem h0 h1)
  exact ⟨a, b, c, d, fun j h0 h1 => (hm j h0 h1).1, fun i j i0 i1 j0 j1 => (hm j j0 j1).2 i i0 (by rw [(hm j j0 j1).1]; exact i1)⟩
theorem range_val : lowC kind ss nm.length = low ∧ highC kind ss nm.length = high := by
  obtain ⟨n1, n2, m1, m2, hl, hg⟩ := range_shape k kind nm ss low high hR
  have h := Ev.one (range_ok kind nm ss n2 m1 m2 n1 hl hg (range_ev k kind nm ss low high hR)) (Ev.of (fun k => chart_Range.mono _ _ _ k) hR)
  simp only [Prod.mk.injEq] at h
  exact ⟨h.1, h.2.1⟩
end
theorem chk_of (k : Nat) (lo hi st r : Int) (h : scale_Check.f k lo hi st = some r) : chk lo hi st = r := Ev.one (check_ok lo hi st) (Ev.of (fun k => scale_Check.mono _ _ _ k) h)
theorem edg_at (wd p i : Int) (h0 : 0 ≤ i) (h1 : i ≤ p) : rd (edg wd p) i = wd * i / p := rd_tab h0 (by omega)
theorem edg_step (wd p i : Int) (w0 : 0 ≤ wd) (w1 : wd ≤ 1000000) (p0 : 1 ≤ p) (h0 : 0 ≤ i) (h1 : i < p) : wrap64 (rd (edg wd p) (i + 1) - rd (edg wd p) i) = wd * (i + 1) / p - wd * i / p ∧ 0 ≤ wd * (i + 1) / p - wd * i / p ∧ wd * (i + 1) / p - wd * i / p ≤ 1000000 ∧ 0 ≤ wd * i / p ∧ wd * (i + 1) / p ≤ 1000000 := by
  rw [edg_at wd p i h0 (by omega), edg_at wd p (i + 1) (by omega) (by omega)]
  have a : 0 ≤ wd * i / p := Int.ediv_nonneg (Int.mul_nonneg w0 h0) (by omega)
  have b : wd * i / p ≤ wd * (i + 1) / p := Int.ediv_le_ediv (by omega) (Int.mul_le_mul_of_nonneg_left (by omega) w0)
  have c : wd * (i + 1) / p ≤ wd := Int.ediv_le_of_le_mul (by omega) (Int.mul_le_mul_of_nonneg_left (by omega) w0)
  rw [w64 (by omega) (by omega)]
  omega
theorem rounds_all (lo hi st wd ht : Int) (n m : Nat) (hz : chk lo hi st = 0) (w1 : 1 ≤ wd) (w2 : wd ≤ 100000) (t1 : 1 ≤ ht) (t2 : ht ≤ 100000) (n1 : 1 ≤ n) (n2 : n ≤ 200) (m1 : 1 ≤ m) (m2 : m ≤ 12) :
    ∃ K, chart_edges.f K wd n = some (edg wd n) ∧
      (∀ i : Int, 0 ≤ i → i < n → chart_edges.f K (wrap64 (rd (edg wd n) (i + 1) - rd (edg wd n) i)) (2 * m + 2) = some (edg (wrap64 (rd (edg wd n) (i + 1) - rd (edg wd n) i)) (2 * m + 2)) ∧ chart_edges.f K (wrap64 (rd (edg wd n) (i + 1) - rd (edg wd n) i)) 4 = some (edg (wrap64 (rd (edg wd n) (i + 1) - rd (edg wd n) i)) 4)) ∧
      ∀ v, lo ≤ v → v ≤ hi → scale_Place.f K lo hi st v ht = some (PL lo hi ht v, 0) := by
  obtain ⟨K1, h1⟩ := edges_ok wd n (by omega) (by omega) (by omega) (by omega)
  have hw : ∀ i : Nat, i < n → 0 ≤ wrap64 (rd (edg wd n) ((i : Int) + 1) - rd (edg wd n) i) ∧ wrap64 (rd (edg wd n) ((i : Int) + 1) - rd (edg wd n) i) ≤ 1000000 := fun i hi => by
    have := edg_step wd n i (by omega) (by omega) (by omega) (by omega) (by omega)
    omega
  obtain ⟨K2, h2⟩ := all_rounds (g := fun i k => chart_edges.f k (wrap64 (rd (edg wd n) ((i : Int) + 1) - rd (edg wd n) i)) (2 * m + 2)) n fun i hi => edges_ok _ _ (hw i hi).1 (hw i hi).2 (by omega) (by omega)
  obtain ⟨K3, h3⟩ := all_rounds (g := fun i k => chart_edges.f k (wrap64 (rd (edg wd n) ((i : Int) + 1) - rd (edg wd n) i)) 4) n fun i hi => edges_ok _ _ (hw i hi).1 (hw i hi).2 (by omega) (by omega)
  obtain ⟨K4, h4⟩ := place_all lo hi st
  refine ⟨K1 + K2 + K3 + K4, h1 _ (by omega), fun i i0 i1 => ?_, fun v v0 v1 => ?_⟩
  · have a := h2 (K1 + K2 + K3 + K4) (by omega) i.toNat (by omega)
    have b := h3 (K1 + K2 + K3 + K4) (by omega) i.toNat (by omega)
    simp only [show ((i.toNat : Nat) : Int) = i by omega] at a b
    exact ⟨a, b⟩
  · rw [h4 _ (by omega), place, if_neg (fun h => h hz), if_neg (by omega)]
    rfl
theorem sum_col (ss : List (List Int)) (i : Int) (hg : ∀ j : Int, 0 ≤ j → j < ss.length → Good 1 (val ss i j)) (hm : ss.length ≤ 12) (j : Nat) (hj : j ≤ ss.length) : sumS 0 ss i j = colS ss i j := by
  induction j with
  | zero => rfl
  | succ j ih =>
    have h1 := colS_bd 1 ss i hg j (by omega)
    obtain ⟨g1, g2, _⟩ := hg j (by omega) (by omega)
    rw [sumS, ih (by omega), colS_succ]
    exact w64 (by unfold val at *; omega) (by unfold val at *; omega)
theorem bounds_all (kind : Int) (nm : List ByteArray) (ss : List (List Int)) (lo hi st : Int) (hz : chk lo hi st = 0) (n1 : 1 ≤ nm.length) (n2 : nm.length ≤ 200) (m1 : 1 ≤ ss.length) (m2 : ss.length ≤ 12) (hl : ∀ j : Int, 0 ≤ j → j < ss.length → (rd_L1 ss j).length = nm.length) (hg : ∀ i j : Int, 0 ≤ i → i < nm.length → 0 ≤ j → j < ss.length → Good kind (val ss i j)) (hlo : lo ≤ lowC kind ss nm.length) (hhi : highC kind ss nm.length ≤ hi) :
    (kind ≠ 1 → ∀ i j : Int, 0 ≤ i → i < nm.length → 0 ≤ j → j < ss.length → lo ≤ rd (rd_L1 ss j) i ∧ rd (rd_L1 ss j) i ≤ hi) ∧
    (kind = 1 → ∀ i : Int, 0 ≤ i → i < nm.length → ∀ j : Nat, j ≤ ss.length → lo ≤ sumS (mn (mx 0 lo) hi) ss i j ∧ sumS (mn (mx 0 lo) hi) ss i j ≤ hi) ∧
    (lo ≤ mn (mx 0 lo) hi ∧ mn (mx 0 lo) hi ≤ hi) := by
  have hlt := (chk_zero lo hi st hz).2.1
  refine ⟨fun hk i j i0 i1 j0 j1 => ?_, fun hk i i0 i1 j hj => ?_, ?_⟩
  · have h := mem_seq_val kind ss nm.length hk i j i0 i1 j0 j1
    have a := (foldl_mn_le (seq kind ss nm.length) (z0 kind ss)).2 _ h
    have b := (foldl_mx_ge (seq kind ss nm.length) (z0 kind ss)).2 _ h
    unfold lowC at hlo
    unfold highC at hhi
    unfold val at a b
    omega
  · subst hk
    have h := mem_seq_sum 1 ss nm.length rfl i i0 i1
    have a := (foldl_mn_le (seq 1 ss nm.length) (z0 1 ss)).1
    have b := (foldl_mx_ge (seq 1 ss nm.length) (z0 1 ss)).2 _ h
    have b0 := (foldl_mx_ge (seq 1 ss nm.length) (z0 1 ss)).1
    unfold lowC at hlo
    unfold highC at hhi
    rw [show z0 1 ss = 0 from by unfold z0; rw [if_neg (by decide)]] at a b b0 hlo hhi
    have hz : mn (mx 0 lo) hi = 0 := by
      unfold mn mx
      rw [if_neg (by omega), if_neg (by omega)]
    rw [hz, sum_col ss i (fun j h0 h1 => hg i j i0 i1 h0 h1) m2 j hj]
    obtain ⟨c1, c2⟩ := colS_nn 1 nm ss n2 m1 m2 n1 hl hg i i0 i1 rfl ss.length (Nat.le_refl _)
    have d := c2 j hj
    have e := (colS_nn 1 nm ss n2 m1 m2 n1 hl hg i i0 i1 rfl j hj).1
    omega
  · unfold mn mx
    split <;> split <;> omega
end Go.Proofs.Ytemginkjkmmimaa.ChartB
