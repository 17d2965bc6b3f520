/- Proved: scale.Find has the least step of the list 1, 2, 5, 10, 20, .. that is great enough, for all three numbers: the pure statement over whole numbers that print.sh printed. No condition. -/
import Derived.Test.YtihmbddneapooaaPScaleFindsLeastStepx3
import Derived.Test.YtihmbddneapooaaLib
namespace Go.Proofs.Ytihmbddneapooaa.Pure
open Go.RowKit Go.Proofs.Ytihmbddneapooaa.PScaleFindsLeastStep Go.Proofs.YtihmbddneapooaaW.PrintWords Go.Proofs.YtihmbddneapooaaW.PrintLast Go.Proofs.Ytihmbddneapooaa.Lib

namespace ScaleFind
theorem ceil_eq (h s : Int) (hs : 0 < s) : -((-h) / s) = if (h / s) * s < h then h / s + 1 else h / s := by
  have h1 := Int.mul_ediv_add_emod h s
  have h2 := Int.emod_nonneg h (by omega : s ≠ 0)
  have h3 := Int.emod_lt_of_pos h hs
  have hc : s * (h / s) = h / s * s := Int.mul_comm _ _
  by_cases hm : h % s = 0
  · rw [if_neg (by omega)]
    have : -h = (-(h / s)) * s := by rw [Int.neg_mul]; omega
    rw [this, Int.mul_ediv_cancel _ (by omega)]; omega
  · rw [if_pos (by omega)]
    have e : -h = (s - h % s) + s * (-(h / s) - 1) := by
      rw [Int.mul_sub, Int.mul_neg]; omega
    have : (-h) / s = -(h / s) - 1 := by
      rw [e, Int.add_mul_ediv_left _ _ (by omega), Int.ediv_eq_zero_of_lt (by omega) (by omega)]; omega
    omega
theorem quot_bd (a s : Int) (hs : 1 ≤ s) (h1 : -1000000000000 ≤ a) (h2 : a ≤ 1000000000000) : -1000000000000 ≤ a / s ∧ a / s ≤ 1000000000000 ∧ s * (a / s) ≤ a ∧ a < s * (a / s) + s := by
  have e := Int.mul_ediv_add_emod a s
  have e2 := Int.emod_nonneg a (by omega : s ≠ 0)
  have e3 := Int.emod_lt_of_pos a (by omega : 0 < s)
  refine ⟨?_, ?_, by omega, by omega⟩
  · exact (Int.le_ediv_iff_mul_le (by omega)).2 (by
      have : (-1000000000000 : Int) * s ≤ -1000000000000 * 1 := Int.mul_le_mul_of_nonpos_left (by omega) (by omega)
      omega)
  · have : a / s < 1000000000001 := (Int.ediv_lt_iff_lt_mul (by omega)).2 (by
      have : (1000000000001 : Int) * 1 ≤ 1000000000001 * s := Int.mul_le_mul_of_nonneg_left (by omega) (by omega)
      omega)
    omega
theorem floor_ok (a s : Int) (hs : 1 ≤ s) (h1 : -1000000000000 ≤ a) (h2 : a ≤ 1000000000000) : scale_floor.f a s = some (a / s) := by
  obtain ⟨b1, b2, _, _⟩ := quot_bd a s hs h1 h2
  have e2 := Int.emod_nonneg a (by omega : s ≠ 0)
  have e3 := Int.emod_lt_of_pos a (by omega : 0 < s)
  unfold scale_floor.f
  rw [if_neg (by omega), tmod_down a s (by omega), tdiv_down a s (by omega)]
  by_cases h : a < 0 ∧ a % s ≠ 0
  · rw [if_pos h, if_pos h, if_pos (by omega), w64 (n := a / s + 1) (by omega) (by omega), w64 (by omega) (by omega)]; congr 1; omega
  · rw [if_neg h, if_neg h, if_neg (by omega), w64 (by omega) (by omega)]
theorem down_ok (a s : Int) (hs : 1 ≤ s) (hs2 : s ≤ 50000000000000) (h1 : -1000000000000 ≤ a) (h2 : a ≤ 1000000000000) : chanceryref3_Down.f a s = some (a / s) := by
  obtain ⟨b1, b2, b3, b4⟩ := quot_bd a s hs h1 h2
  have e := Int.mul_ediv_add_emod a s
  have e2 := Int.emod_nonneg a (by omega : s ≠ 0)
  have e3 := Int.emod_lt_of_pos a (by omega : 0 < s)
  have hc : s * (a / s) = a / s * s := Int.mul_comm _ _
  unfold chanceryref3_Down.f
  rw [if_neg (by omega), tdiv_down a s (by omega)]
  by_cases h : a < 0 ∧ a % s ≠ 0
  · have e4 : (a / s + 1) * s = a / s * s + s := by rw [Int.add_mul]; omega
    rw [if_pos h, w64 (n := a / s + 1) (by omega) (by omega), w64 (n := (a / s + 1) * s) (by omega) (by omega), if_pos (by omega), w64 (by omega) (by omega)]; congr 1; omega
  · rw [if_neg h, w64 (n := a / s) (by omega) (by omega), w64 (n := a / s * s) (by omega) (by omega), if_neg (by omega)]
/-- The upper end of the scale in steps. -/
def top (low high s : Int) : Int := if low / s = -((-high) / s) then -((-high) / s) + 1 else -((-high) / s)
theorem top_bd (low high s : Int) (hs : 1 ≤ s) (hs2 : s ≤ 50000000000000) (l1 : -1000000000000 ≤ low) (l2 : low ≤ 1000000000000) (h1 : -1000000000000 ≤ high) (h2 : high ≤ 1000000000000) (hle : low ≤ high) :
    -1000000000001 ≤ top low high s ∧ top low high s ≤ 1000000000001 ∧ -51000000000000 ≤ top low high s * s ∧ top low high s * s ≤ 51000000000000 ∧ -51000000000000 ≤ low / s * s ∧ low / s * s ≤ 1000000000000 ∧ (10000000000000 ≤ s → top low high s - low / s ≤ 2) := by
  obtain ⟨a1, a2, a3, a4⟩ := quot_bd low s hs l1 l2
  obtain ⟨b1, b2, b3, b4⟩ := quot_bd (-high) s hs (by omega) (by omega)
  have c1 : s * (low / s) = low / s * s := Int.mul_comm _ _
  have c2 : s * ((-high) / s) = (-high) / s * s := Int.mul_comm _ _
  have n1 : -((-high) / s) * s = -((-high) / s * s) := by rw [Int.neg_mul]
  have n2 : (-((-high) / s) + 1) * s = -((-high) / s * s) + s := by rw [Int.add_mul, n1]; omega
  unfold top
  have q : 10000000000000 ≤ s → -1 ≤ low / s ∧ -1 ≤ (-high) / s := fun h =>
    ⟨(Int.le_ediv_iff_mul_le (by omega)).2 (by omega), (Int.le_ediv_iff_mul_le (by omega)).2 (by omega)⟩
  by_cases e : low / s = -((-high) / s)
  · have e' : low / s * s = -((-high) / s) * s := by rw [← e]
    rw [if_pos e]
    refine ⟨by omega, by omega, by omega, by omega, by omega, by omega, fun h => ?_⟩
    omega
  · rw [if_neg e]
    refine ⟨by omega, by omega, by omega, by omega, by omega, by omega, fun h => ?_⟩
    have := q h
    omega
def ans (low high s : Int) : Int × Int × Int × Int := (low / s * s, top low high s * s, s, 0)
/-- What the reference has for the upper end is the same. -/
theorem top_ref (low high s : Int) (hs : 1 ≤ s) (hle : low ≤ high) :
    (if (high / s) * s < high then high / s + 1 else if low / s = high / s then high / s + 1 else high / s) = top low high s := by
  have hm : low / s ≤ high / s := Int.ediv_le_ediv (by omega) hle
  unfold top
  rw [ceil_eq high s (by omega)]
  by_cases h : (high / s) * s < high
  · rw [if_pos h, if_pos h, if_neg (by omega)]
  · rw [if_neg h, if_neg h]

section
variable (low high steps : Int)
/-- One step of Find. -/
theorem find_step (x8 j s : Int) (hj0 : 0 ≤ j) (hj : j < 3) (hc : rd [1, 2, 5] j * x8 = s) (hs : 1 ≤ s) (hs2 : s ≤ 50000000000000) (l1 : -1000000000000 ≤ low) (l2 : low ≤ 1000000000000) (h1 : -1000000000000 ≤ high) (h2 : high ≤ 1000000000000) (hle : low ≤ high)
    (r : Int × Int × Int × Int) (h : if top low high s - low / s ≤ steps then r = ans low high s else Ev (fun k => scale_Find.l1 k low high steps x8 [1, 2, 5] 3 (j + 1)) r) :
    Ev (fun k => scale_Find.l1 k low high steps x8 [1, 2, 5] 3 j) r := by
  obtain ⟨t1, t2, t3, t4, t5, t6, t7⟩ := top_bd low high s hs hs2 l1 l2 h1 h2 hle
  obtain ⟨a1, a2, a3, a4⟩ := quot_bd low s hs l1 l2
  obtain ⟨b1, b2, b3, b4⟩ := quot_bd (-high) s hs (by omega) (by omega)
  refine Ev.step (fun k => by rw [scale_Find.l1]) ?_
  refine Ev.pos hj (Ev.pos hj0 (Ev.pos (by simpa using hj) ?_))
  rw [hc, w64 (n := s) (by omega) (by omega), w64 (n := -high) (by omega) (by omega)]
  refine Ev.bind0 (floor_ok low s hs l1 l2) (Ev.bind0 (floor_ok (-high) s hs (by omega) (by omega)) ?_)
  unfold ans at h
  generalize ht : top low high s = t at *
  unfold top at ht
  rw [w64 (n := -(-high / s)) (by omega) (by omega)]
  have wj : wrap64 (j + 1) = j + 1 := w64 (by omega) (by omega)
  by_cases e : low / s = -(-high / s)
  · rw [if_pos e] at ht
    refine Ev.pos e ?_
    rw [w64 (n := -(-high / s) + 1) (by omega) (by omega), ht, w64 (n := t - low / s) (by omega) (by omega), w64 (n := low / s * s) (by omega) (by omega), w64 (n := t * s) (by omega) (by omega)]
    by_cases g : t - low / s ≤ steps
    · rw [if_pos g] at h
      exact Ev.pos g (Ev.ret h.symm)
    · rw [if_neg g] at h
      exact Ev.neg g (by rw [wj]; exact h)
  · rw [if_neg e] at ht
    refine Ev.neg e ?_
    rw [ht, w64 (n := t - low / s) (by omega) (by omega), w64 (n := low / s * s) (by omega) (by omega), w64 (n := t * s) (by omega) (by omega)]
    by_cases g : t - low / s ≤ steps
    · rw [if_pos g] at h
      exact Ev.pos g (Ev.ret h.symm)
    · rw [if_neg g] at h
      exact Ev.neg g (by rw [wj]; exact h)
/-- One step of the statement's own search, against an answer of Find. -/
theorem law_step (s n : Int) (hn0 : 0 ≤ n) (hn : n ≤ 1000000) (hs : 1 ≤ s) (hs2 : s ≤ 50000000000000) (l1 : -1000000000000 ≤ low) (l2 : low ≤ 1000000000000) (h1 : -1000000000000 ≤ high) (h2 : high ≤ 1000000000000) (hle : low ≤ high)
    (r : Int × Int × Int × Int) (h : if top low high s - low / s ≤ steps then r = ans low high s else Ev (fun k => chancerylaw3_ScaleFindsLeastStep.l0 k low high steps r.2.2.2 (if n % 3 = 1 then s * 2 / 4 * 5 else s * 2) (n + 1) r.1 r.2.1 r.2.2.1) true) :
    Ev (fun k => chancerylaw3_ScaleFindsLeastStep.l0 k low high steps r.2.2.2 s n r.1 r.2.1 r.2.2.1) true := by
  obtain ⟨t1, t2, t3, t4, t5, t6, t7⟩ := top_bd low high s hs hs2 l1 l2 h1 h2 hle
  obtain ⟨a1, a2, a3, a4⟩ := quot_bd low s hs l1 l2
  obtain ⟨b1, b2, b3, b4⟩ := quot_bd high s hs h1 h2
  have hr := top_ref low high s hs hle
  have hc : s * (high / s) = high / s * s := Int.mul_comm _ _
  refine Ev.step (fun k => by rw [chancerylaw3_ScaleFindsLeastStep.l0]) ?_
  refine Ev.bind0 (down_ok low s hs hs2 l1 l2) (Ev.bind0 (down_ok high s hs hs2 h1 h2) ?_)
  rw [w64 (n := high / s * s) (by omega) (by omega)]
  have last : Ev (fun k => chancerylaw3_ScaleFindsLeastStep.j4 k low high steps r.2.2.2 s n (low / s) (top low high s) r.1 r.2.1 r.2.2.1) true := by
    refine Ev.step (fun k => by rw [chancerylaw3_ScaleFindsLeastStep.j4]) ?_
    rw [w64 (n := top low high s - low / s) (by omega) (by omega)]
    by_cases g : top low high s - low / s ≤ steps
    · rw [if_pos g] at h
      refine Ev.pos g ?_
      rw [h]
      unfold ans
      refine Ev.pos rfl (Ev.ret ?_)
      rw [w64 (n := low / s * s) (by omega) (by omega), w64 (n := top low high s * s) (by omega) (by omega)]
      simp
    · rw [if_neg g] at h
      refine Ev.neg g ?_
      rw [tmod_nn hn0, w64 (n := s * 2) (by omega) (by omega), tdiv_nn (a := s * 2) (by omega), w64 (n := s * 2 / 4) (by omega) (by omega), w64 (n := s * 2 / 4 * 5) (by omega) (by omega), w64 (n := n + 1) (by omega) (by omega)]
      by_cases m : n % 3 = 1
      · rw [if_pos m] at h
        exact Ev.pos m h
      · rw [if_neg m] at h
        exact Ev.neg m h
  by_cases q : high / s * s < high
  · rw [if_pos q] at hr
    refine Ev.pos q (Ev.step (fun k => by rw [chancerylaw3_ScaleFindsLeastStep.j3]) (Ev.pos rfl ?_))
    rw [w64 (n := high / s + 1) (by omega) (by omega), hr]
    exact last
  · rw [if_neg q] at hr
    refine Ev.neg q (Ev.step (fun k => by rw [chancerylaw3_ScaleFindsLeastStep.j3]) ?_)
    by_cases e : low / s = high / s
    · rw [if_pos e] at hr
      refine Ev.pos (by simpa using e) ?_
      rw [w64 (n := high / s + 1) (by omega) (by omega), hr]
      exact last
    · rw [if_neg e] at hr
      refine Ev.neg (by simpa using e) ?_
      rw [hr]
      exact last
/-- From a power of ten on, m powers below 10^13. -/
theorem from_power (m : Nat) : ∀ (p n : Int), 1 ≤ p → p * 10 ^ m = 10000000000000 → 0 ≤ n → n + 3 * m ≤ 1000 → n % 3 = 0 →
    -1000000000000 ≤ low → low ≤ 1000000000000 → -1000000000000 ≤ high → high ≤ 1000000000000 → low ≤ high → 2 ≤ steps →
    ∃ r : Int × Int × Int × Int, r.2.2.2 = 0 ∧ Ev (fun k => scale_Find.l1 k low high steps p [1, 2, 5] 3 0) r ∧ Ev (fun k => chancerylaw3_ScaleFindsLeastStep.l0 k low high steps 0 p n r.1 r.2.1 r.2.2.1) true := by
  induction m with
  | zero =>
    intro p n hp hm hn hn2 hn3 l1 l2 h1 h2 hle hst
    have hp' : p = 10000000000000 := by omega
    subst hp'
    obtain ⟨_, _, _, _, _, _, t7⟩ := top_bd low high 10000000000000 (by omega) (by omega) l1 l2 h1 h2 hle
    have g := Int.le_trans (t7 (by omega)) hst
    exact ⟨ans low high 10000000000000, rfl, find_step low high steps 10000000000000 0 10000000000000 (by omega) (by omega) rfl (by omega) (by omega) l1 l2 h1 h2 hle _ (by rw [if_pos g]),
      law_step low high steps 10000000000000 n hn (by omega) (by omega) (by omega) l1 l2 h1 h2 hle (ans low high 10000000000000) (by rw [if_pos g])⟩
  | succ m ih =>
    intro p n hp hm hn hn2 hn3 l1 l2 h1 h2 hle hst
    have hpow : p * 10 * 10 ^ m = 10000000000000 := by rw [Int.mul_assoc, Int.mul_comm 10, ← Int.pow_succ]; exact hm
    have hle10 : p * 10 ≤ 10000000000000 := by
      have h10 : (1 : Int) ≤ 10 ^ m := Int.pow_pos (by omega)
      have : p * 10 * 1 ≤ p * 10 * 10 ^ m := Int.mul_le_mul_of_nonneg_left h10 (by omega)
      omega
    obtain ⟨r', hr0, hf, hl⟩ := ih (p * 10) (n + 3) (by omega) hpow (by omega) (by omega) (by omega) l1 l2 h1 h2 hle hst
    have turn : Ev (fun k => scale_Find.l1 k low high steps p [1, 2, 5] 3 3) r' := by
      refine Ev.step (fun k => by rw [scale_Find.l1]) (Ev.neg (by omega) ?_)
      rw [w64 (n := p * 10) (by omega) (by omega)]
      refine Ev.step (fun k => by rw [scale_Find.l0]) ?_
      exact Ev.bind0 rfl hf
    by_cases g1 : top low high p - low / p ≤ steps
    · refine ⟨ans low high p, rfl, find_step low high steps p 0 p (by omega) (by omega) (by simp [rd]) (by omega) (by omega) l1 l2 h1 h2 hle _ (by rw [if_pos g1]), law_step low high steps p n hn (by omega) (by omega) (by omega) l1 l2 h1 h2 hle (ans low high p) (by rw [if_pos g1])⟩
    · have law1 : ∀ r : Int × Int × Int × Int, r.2.2.2 = 0 → Ev (fun k => chancerylaw3_ScaleFindsLeastStep.l0 k low high steps 0 (2 * p) (n + 1) r.1 r.2.1 r.2.2.1) true → Ev (fun k => chancerylaw3_ScaleFindsLeastStep.l0 k low high steps 0 p n r.1 r.2.1 r.2.2.1) true := by
        intro r hr h
        rw [← hr] at h ⊢
        refine law_step low high steps p n hn (by omega) (by omega) (by omega) l1 l2 h1 h2 hle r ?_
        rw [if_neg g1, if_neg (by omega), Int.mul_comm p 2]
        exact h
      have fnd1 : ∀ r, Ev (fun k => scale_Find.l1 k low high steps p [1, 2, 5] 3 1) r → Ev (fun k => scale_Find.l1 k low high steps p [1, 2, 5] 3 0) r := fun r h =>
        find_step low high steps p 0 p (by omega) (by omega) (by simp [rd]) (by omega) (by omega) l1 l2 h1 h2 hle _ (by rw [if_neg g1]; exact h)
      by_cases g2 : top low high (2 * p) - low / (2 * p) ≤ steps
      · exact ⟨ans low high (2 * p), rfl, fnd1 _ (find_step low high steps p 1 (2 * p) (by omega) (by omega) (by simp [rd]) (by omega) (by omega) l1 l2 h1 h2 hle _ (by rw [if_pos g2])), law1 (ans low high (2 * p)) rfl (law_step low high steps (2 * p) (n + 1) (by omega) (by omega) (by omega) (by omega) l1 l2 h1 h2 hle (ans low high (2 * p)) (by rw [if_pos g2]))⟩
      · have law2 : ∀ r : Int × Int × Int × Int, r.2.2.2 = 0 → Ev (fun k => chancerylaw3_ScaleFindsLeastStep.l0 k low high steps 0 (5 * p) (n + 2) r.1 r.2.1 r.2.2.1) true → Ev (fun k => chancerylaw3_ScaleFindsLeastStep.l0 k low high steps 0 p n r.1 r.2.1 r.2.2.1) true := by
          intro r hr h
          refine law1 r hr ?_
          rw [← hr] at h ⊢
          refine law_step low high steps (2 * p) (n + 1) (by omega) (by omega) (by omega) (by omega) l1 l2 h1 h2 hle r ?_
          rw [if_neg g2, if_pos (by omega), show 2 * p * 2 / 4 * 5 = 5 * p by omega, show n + 1 + 1 = n + 2 by omega]
          exact h
        have fnd2 : ∀ r, Ev (fun k => scale_Find.l1 k low high steps p [1, 2, 5] 3 2) r → Ev (fun k => scale_Find.l1 k low high steps p [1, 2, 5] 3 0) r := fun r h =>
          fnd1 r (find_step low high steps p 1 (2 * p) (by omega) (by omega) (by simp [rd]) (by omega) (by omega) l1 l2 h1 h2 hle _ (by rw [if_neg g2]; exact h))
        by_cases g3 : top low high (5 * p) - low / (5 * p) ≤ steps
        · exact ⟨ans low high (5 * p), rfl, fnd2 _ (find_step low high steps p 2 (5 * p) (by omega) (by omega) (by simp [rd]) (by omega) (by omega) l1 l2 h1 h2 hle _ (by rw [if_pos g3])), law2 (ans low high (5 * p)) rfl (law_step low high steps (5 * p) (n + 2) (by omega) (by omega) (by omega) (by omega) l1 l2 h1 h2 hle (ans low high (5 * p)) (by rw [if_pos g3]))⟩
        · refine ⟨r', hr0, fnd2 _ (find_step low high steps p 2 (5 * p) (by omega) (by omega) (by simp [rd]) (by omega) (by omega) l1 l2 h1 h2 hle _ (by rw [if_neg g3]; exact turn)), law2 r' hr0 ?_⟩
          rw [← hr0] at hl ⊢
          refine law_step low high steps (5 * p) (n + 2) (by omega) (by omega) (by omega) (by omega) l1 l2 h1 h2 hle r' ?_
          rw [if_neg g3, if_neg (by omega), show 5 * p * 2 = p * 10 by omega, show n + 2 + 1 = n + 3 by omega]
          exact hl
end
theorem in_ok (a b c : Int) : chanceryref3_In.f a b c = some (decide (b ≤ a ∧ a ≤ c)) := by
  unfold chanceryref3_In.f
  by_cases h : a ≥ b
  · rw [if_pos h]; congr 1; simp; omega
  · rw [if_neg h]; congr 1; simp; omega
/-- The whole of Find, and the statement's rest for its answer. -/
theorem whole (low high steps : Int) : ∃ r, Ev (fun k => scale_Find.f k low high steps) r ∧
    Ev (fun k => (chanceryref3_In.f low (-1000000000000) 1000000000000).bind fun t118 => (if t118 = true then ((chanceryref3_In.f high (-1000000000000) 1000000000000).bind fun t119 => (if t119 = true then ((chanceryref3_In.f steps 2 50).bind fun t120 => (chancerylaw3_ScaleFindsLeastStep.j1 k low high steps r.2.2.2 (!t120) r.1 r.2.1 r.2.2.1)) else (chancerylaw3_ScaleFindsLeastStep.j1 k low high steps r.2.2.2 (!t119) r.1 r.2.1 r.2.2.1))) else (chancerylaw3_ScaleFindsLeastStep.j1 k low high steps r.2.2.2 (!t118) r.1 r.2.1 r.2.2.1))) true := by
  by_cases hin : -1000000000000 ≤ low ∧ low ≤ 1000000000000 ∧ -1000000000000 ≤ high ∧ high ≤ 1000000000000 ∧ 2 ≤ steps ∧ steps ≤ 50
  · obtain ⟨l1, l2, h1, h2, s1, s2⟩ := hin
    have head : ∀ r, Ev (fun k => scale_Find.j0 k low high steps false) r → Ev (fun k => scale_Find.f k low high steps) r := by
      intro r h
      unfold scale_Find.f
      refine Ev.neg (by omega) (Ev.neg (by omega) (Ev.neg (by omega) (Ev.neg (by omega) (Ev.neg (by omega) ?_))))
      rw [show decide (steps > 50) = false by simp; omega]
      exact h
    have tail : ∀ r : Int × Int × Int × Int, Ev (fun k => chancerylaw3_ScaleFindsLeastStep.j1 k low high steps r.2.2.2 false r.1 r.2.1 r.2.2.1) true → Ev (fun k => (chanceryref3_In.f low (-1000000000000) 1000000000000).bind fun t118 => (if t118 = true then ((chanceryref3_In.f high (-1000000000000) 1000000000000).bind fun t119 => (if t119 = true then ((chanceryref3_In.f steps 2 50).bind fun t120 => (chancerylaw3_ScaleFindsLeastStep.j1 k low high steps r.2.2.2 (!t120) r.1 r.2.1 r.2.2.1)) else (chancerylaw3_ScaleFindsLeastStep.j1 k low high steps r.2.2.2 (!t119) r.1 r.2.1 r.2.2.1))) else (chancerylaw3_ScaleFindsLeastStep.j1 k low high steps r.2.2.2 (!t118) r.1 r.2.1 r.2.2.1))) true := by
      intro r h
      refine Ev.bind0 (in_ok _ _ _) (Ev.pos (by simp; omega) (Ev.bind0 (in_ok _ _ _) (Ev.pos (by simp; omega) (Ev.bind0 (in_ok _ _ _) ?_))))
      rw [show (!decide (2 ≤ steps ∧ steps ≤ 50)) = false by simp; omega]
      exact h
    by_cases hle : low ≤ high
    · obtain ⟨r, hr0, hf, hl⟩ := from_power low high steps 13 1 0 (by omega) (by omega) (by omega) (by omega) (by omega) l1 l2 h1 h2 hle s1
      refine ⟨r, head r (Ev.step (fun k => by rw [scale_Find.j0]) (Ev.neg (by simp) (Ev.neg (by omega) (Ev.step (f := fun k => scale_Find.l1 k low high steps 1 [1, 2, 5] 3 0) (fun k => by rw [scale_Find.l0]; rfl) hf)))), tail r ?_⟩
      refine Ev.step (fun k => by rw [chancerylaw3_ScaleFindsLeastStep.j1]) (Ev.neg (by simp) (Ev.neg (by omega) ?_))
      rw [hr0]
      exact hl
    · refine ⟨(0, 0, 0, 5), head _ (Ev.step (fun k => by rw [scale_Find.j0]) (Ev.neg (by simp) (Ev.pos (by omega) (Ev.now _)))), tail (0, 0, 0, 5) ?_⟩
      exact Ev.step (fun k => by rw [chancerylaw3_ScaleFindsLeastStep.j1]) (Ev.neg (by simp) (Ev.pos (by omega) (Ev.pos rfl (Ev.ret (by simp)))))
  · have yes : Ev (fun k => scale_Find.j0 k low high steps true) (0, 0, 0, 2) := Ev.step (fun k => by rw [scale_Find.j0]) (Ev.pos rfl (Ev.now _))
    have law : Ev (fun k => chancerylaw3_ScaleFindsLeastStep.j1 k low high steps 2 true 0 0 0) true := Ev.step (fun k => by rw [chancerylaw3_ScaleFindsLeastStep.j1]) (Ev.pos rfl (Ev.pos rfl (Ev.ret (by simp))))
    refine ⟨(0, 0, 0, 2), ?_, ?_⟩
    · unfold scale_Find.f
      by_cases a1 : low < -1000000000000
      · exact Ev.pos a1 yes
      · refine Ev.neg a1 ?_
        by_cases a2 : low > 1000000000000
        · exact Ev.pos a2 yes
        · refine Ev.neg a2 ?_
          by_cases a3 : high < -1000000000000
          · exact Ev.pos a3 yes
          · refine Ev.neg a3 ?_
            by_cases a4 : high > 1000000000000
            · exact Ev.pos a4 yes
            · refine Ev.neg a4 ?_
              by_cases a5 : steps < 2
              · exact Ev.pos a5 yes
              · refine Ev.neg a5 ?_
                rw [show decide (steps > 50) = true by simp; omega]
                exact yes
    · refine Ev.bind0 (in_ok _ _ _) ?_
      by_cases b1 : -1000000000000 ≤ low ∧ low ≤ 1000000000000
      · refine Ev.pos (by simpa using b1) (Ev.bind0 (in_ok _ _ _) ?_)
        by_cases b2 : -1000000000000 ≤ high ∧ high ≤ 1000000000000
        · refine Ev.pos (by simpa using b2) (Ev.bind0 (in_ok _ _ _) ?_)
          rw [show (!decide (2 ≤ steps ∧ steps ≤ 50)) = true by simp; omega]
          exact law
        · refine Ev.neg (by simpa using b2) ?_
          rw [show (!decide (-1000000000000 ≤ high ∧ high ≤ 1000000000000)) = true by simp; omega]
          exact law
      · refine Ev.neg (by simpa using b1) ?_
        rw [show (!decide (-1000000000000 ≤ low ∧ low ≤ 1000000000000)) = true by simp; omega]
        exact law
end ScaleFind
open ScaleFind in
theorem ScaleFindsLeastStep : chancerylaw3_ScaleFindsLeastStep.Pure := by
  intro low high steps _ _ _
  obtain ⟨r, hf, hl⟩ := whole low high steps
  refine Ev.rounds (r := true) ?_
  unfold chancerylaw3_ScaleFindsLeastStep.f
  refine Ev.bind (a := (0, 50, 10, 0)) (Ev.of (fun k => scale_Find.mono 3 47 5 k) (k := 40) (by decide +kernel)) (Ev.pos rfl ?_)
  exact Ev.step (fun k => by rw [chancerylaw3_ScaleFindsLeastStep.j0]) (Ev.neg (by simp) (Ev.bind hf hl))
end Go.Proofs.Ytihmbddneapooaa.Pure
