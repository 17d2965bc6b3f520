import Derived.Test.YthapclmfkjldaaaQLNx6
import Derived.Test.YthapclmfkjldaaaHandLNf
namespace Go.Proofs.Ythapclmfkjldaaa.LinesP
set_option linter.unusedSectionVars false
set_option linter.unusedVariables false
set_option linter.unusedSimpArgs false
open Go.RowKit Go.Proofs.Ythapclmfkjldaaa.QLN Go.Proofs.YthapclmfkjldaaaW.PrintWords Go.Proofs.YthapclmfkjldaaaW.PrintLast Go.Proofs.YthapclmfkjldaaaW.PrintMore Go.Proofs.Ythapclmfkjldaaa.Lib Go.Proofs.Ythapclmfkjldaaa.HandLN
theorem stop_pure (L : List S49) (i : Int) (h0 : 0 ≤ i) (h1 : i ≤ L.length) : chanceryref3_stop.f L i = some (mustP L i) := by
 unfold chanceryref3_stop.f mustP
 by_cases e : i = L.length
 · rw [if_pos e]; simp [e]
 · rw [if_neg e, if_pos h0, if_pos (by omega)]
   have eb : (i == (L.length : Int)) = false := beq_eq_false_iff_ne.2 e
   by_cases k : (rd_T49 L i).f0 = 2
   · rw [if_pos k]; simp [eb, k]
   · rw [if_neg k]; simp [eb, k]
theorem begin_pure (L : List S49) (hn : L.length ≤ 8000) (d : Nat) (hd : d ≤ L.length) : Ev (fun k => chanceryref3_begin.l0 k L ((L.length : Int) - d)) (nextD L d) := by
 induction d with
 | zero =>
  refine Ev.step (fun k => by rw [chanceryref3_begin.l0]) (Ev.neg (by omega) (Ev.ret ?_))
  simp [nextD]
 | succ d ih =>
  have h := ih (by omega)
  obtain ⟨i, hi⟩ : ∃ i, (L.length : Int) - ((d + 1 : Nat) : Int) = i := ⟨_, rfl⟩
  rw [hi]
  have e1 : (L.length : Int) - d = i + 1 := by omega
  have e2 : (L.length : Int) - d - 1 = i := by omega
  rw [e1] at h
  refine Ev.step (fun k => by rw [chanceryref3_begin.l0]) (Ev.pos (by omega) (Ev.pos (by omega) ?_))
  have eb : (i == (L.length : Int)) = false := beq_eq_false_iff_ne.2 (by omega)
  have hb : nextD L (d + 1) = if boxP (pt L i) = true then i else nextD L d := by rw [nextD, e2]
  by_cases k : (rd_T49 L i).f0 = 0
  · refine Ev.pos k (Ev.ret ?_)
    rw [hb, if_pos (by simp [boxP, k])]
  · refine Ev.neg k (Ev.bind0 (stop_pure L i (by omega) (by omega)) ?_)
    have hm : mustP L i = boxP (pt L i) := by simp [mustP, boxP, eb, k]
    rw [hm]
    by_cases m : boxP (pt L i) = true
    · refine Ev.pos m (Ev.ret ?_)
      rw [hb, if_pos m]
    · refine Ev.neg m ?_
      rw [w64 (n := i + 1) (by omega) (by omega), hb, if_neg m]
      exact h
theorem begT_at (L : List S49) (j : Int) (j0 : 0 ≤ j) (j1 : j ≤ L.length) : rd (begT L (-1)) j = nextD L ((L.length : Int) - j).toNat := (rd_tab j0 (by omega)).trans (if_pos ⟨by omega, j1⟩)
theorem follow_pure (L : List S49) (hn : L.length ≤ 8000) (i : Int) (h0 : 0 ≤ i) (h1 : i ≤ L.length) : Ev (fun k => chanceryref3_follow.f k L i) (afterP L (begT L (-1)) i) := by
 unfold chanceryref3_follow.f afterP
 by_cases e : i = L.length
 · rw [if_pos e]; exact Ev.pos e (Ev.now _)
 · rw [if_neg e]
   refine Ev.neg e ?_
   rw [w64 (n := i + 1) (by omega) (by omega), begT_at L (i + 1) (by omega) (by omega)]
   have h := begin_pure L hn ((L.length : Int) - (i + 1)).toNat (by omega)
   rw [show (L.length : Int) - (((L.length : Int) - (i + 1)).toNat : Nat) = i + 1 by omega] at h
   exact Ev.bind (show Ev (fun k => chanceryref3_begin.f k L (i + 1)) _ from h) (Ev.now _)
theorem bad_pure (d c : Int) (h0 : 0 ≤ d) (h1 : d ≤ 1000000000000) (c0 : 0 ≤ c) : chanceryref3_bad.f d c = some (badP d c) := by
 unfold chanceryref3_bad.f badP
 by_cases e : d = 0
 · rw [if_pos e, if_pos e]
 · rw [if_neg e, if_neg e]
   by_cases z : c = 0
   · rw [if_pos z, if_pos z]
   · rw [if_neg z, if_neg z]
     have p0 : 0 ≤ 1000 * d := by omega
     have tb : 0 ≤ 1000 * d / c ∧ 1000 * d / c ≤ 1000000000000000 := ⟨Int.ediv_nonneg p0 c0, by have := Int.ediv_le_self c p0; omega⟩
     rw [w64 (n := 1000 * d) (by omega) (by omega), tdiv_nn p0]
     generalize 1000 * d / c = t at tb ⊢
     rw [w64 (n := t) (by omega) (by omega)]
     by_cases g : t > 5000
     · rw [if_pos g, if_neg (by decide), show mn t 5000 = 5000 from if_pos g]
       rfl
     · have m1 : 0 ≤ t * t ∧ t * t ≤ 5000 * 5000 := ⟨Int.mul_nonneg tb.1 tb.1, Int.mul_le_mul (by omega) (by omega) tb.1 (by omega)⟩
       have m2 : 0 ≤ t * t * t ∧ t * t * t ≤ 5000 * 5000 * 5000 := ⟨Int.mul_nonneg m1.1 tb.1, Int.mul_le_mul m1.2 (by omega) tb.1 (by omega)⟩
       rw [if_neg g, show mn t 5000 = t from if_neg (by omega), w64 (n := t * t) (by omega) (by omega), w64 (n := t * t * t) (by omega) (by omega), tdiv_nn m2.1, w64 (n := t * t * t / 10000000) (by omega) (by omega)]
       unfold mn
       by_cases q : t * t * t / 10000000 < 10000
       · rw [if_pos q, if_neg (by omega)]
       · rw [if_neg q]
         congr 1
         split <;> omega
end Go.Proofs.Ythapclmfkjldaaa.LinesP
