/- Proved: chart.Range and chart.Bars answer as the statement says, for every chart, scale and rectangle: a statement over numbers and lists alone. No condition. -/
import Derived.Test.YtemginkjkmmimaaQCTx3
namespace Go.Proofs.Ytemginkjkmmimaa.Pure
open Go.RowKit Go.Proofs.Ytemginkjkmmimaa.QCB Go.Proofs.Ytemginkjkmmimaa.QCT Go.Proofs.YtemginkjkmmimaaW.PrintWords Go.Proofs.YtemginkjkmmimaaW.PrintLast Go.Proofs.YtemginkjkmmimaaW.PrintMore Go.Proofs.Ytemginkjkmmimaa.Lib Go.Proofs.Ytemginkjkmmimaa.HandCB Go.Proofs.Ytemginkjkmmimaa.ChartB
set_option linter.unusedVariables false
section
variable (kind : Int) (nm : List ByteArray) (ss : List (List Int)) (lo hi st wd ht : Int)
theorem same_bars (L : List S42) (hL : L.length ≤ 1000000) : Ev (fun k => chancerylaw3_ChartBarsInProportion.j2 k L L ((L.length : Int) != (L.length : Int))) true := by
  refine Ev.step (fun k => by rw [chancerylaw3_ChartBarsInProportion.j2]) (Ev.neg (by simp) ?_)
  refine climb (g := fun i k => chancerylaw3_ChartBarsInProportion.l0 k L L (L.length : Int) i) (a := 0) (n := L.length) (by omega) (Ev.step (fun k => by rw [chancerylaw3_ChartBarsInProportion.l0]) (Ev.neg (by omega) (Ev.now _))) fun i i0 i1 hn => ?_
  refine Ev.step (fun k => by rw [chancerylaw3_ChartBarsInProportion.l0]) (Ev.pos i1 (Ev.pos i0 (Ev.pos i1 (Ev.pos i1 (Ev.neg (by simp) ?_)))))
  rw [w64 (n := i + 1) (by omega) (by omega)]
  exact hn
/-- Where nothing is made, both say the same error. -/
theorem no_bars (f x15 x16 : Int) (hf : f ≠ 0) (h : Ev (fun k => chancerylaw3_ChartBarsInProportion.j1 k wd ht [] f f kind nm ss lo hi st) true → Ev (fun k => chancerylaw3_ChartBarsInProportion.j0 k wd ht [] f x15 x16 (x16 != x16) kind nm ss lo hi st) true) :
    Ev (fun k => chancerylaw3_ChartBarsInProportion.j0 k wd ht [] f x15 x16 (x16 != x16) kind nm ss lo hi st) true :=
  h (Ev.step (fun k => by rw [chancerylaw3_ChartBarsInProportion.j1]) (Ev.neg hf (Ev.pos rfl (Ev.ret (by simp)))))
theorem in_ok (a b c : Int) : chanceryref3_In.f a b c = some (decide (b ≤ a ∧ a ≤ c)) := by
  unfold chanceryref3_In.f
  by_cases h : a ≥ b
  · rw [if_pos h]; congr 1; simp; omega
  · rw [if_neg h]; congr 1; simp; omega
theorem ChartBarsInProportion (kind : Int) (nm : List ByteArray) (ss : List (List Int)) (lo hi st wd ht : Int) : ∃ k, chancerylaw3_ChartBarsInProportion.f k kind nm ss lo hi st wd ht = some true := by
  refine Ev.rounds (g := fun k => chancerylaw3_ChartBarsInProportion.f k kind nm ss lo hi st wd ht) ?_
  obtain ⟨e, hc, he, hs⟩ := errors kind nm ss
  unfold chancerylaw3_ChartBarsInProportion.f
  refine Ev.bind0 (show chancerylaw3_charted.f = some true from rfl) (Ev.pos rfl ?_)
  by_cases e0 : e = 0
  · subst e0
    obtain ⟨n1, n2, m1, m2, hr⟩ := hs rfl
    have hm : ∀ j : Int, 0 ≤ j → j < ss.length → Row kind nm (rd_L1 ss j) := fun j h0 h1 => hr _ (by rw [rd_L1_eq]; exact getD_mem h0 h1)
    have hl : ∀ j : Int, 0 ≤ j → j < ss.length → (rd_L1 ss j).length = nm.length := fun j h0 h1 => (hm j h0 h1).1
    have hg : ∀ i j : Int, 0 ≤ i → i < nm.length → 0 ≤ j → j < ss.length → ChartB.Good kind (val ss i j) := fun i j i0 i1 j0 j1 => (hm j j0 j1).2 i i0 (by rw [(hm j j0 j1).1]; exact i1)
    have hR := range_ok kind nm ss n2 m1 m2 n1 hl hg hc
    have hE := extremes_ok kind nm ss n2 m1 m2 n1 hl hg
    have hC := check_ok lo hi st
    have bars : ∀ r, Ev (fun k => (scale_Check.f k lo hi st).bind fun e => if e = 0 then (if kind = 3 then some ([], 8) else if wd < 1 ∨ wd > 100000 ∨ ht < 1 ∨ ht > 100000 ∨ lowC kind ss nm.length < lo ∨ highC kind ss nm.length > hi then some ([], 2) else some (barsC kind ss lo hi ht (edg wd nm.length) nm.length, 0)) else some ([], e)) r → Ev (fun k => chart_Bars.f k kind nm ss lo hi st wd ht) r := fun r h => by
      unfold chart_Bars.f
      exact Ev.bind hR (Ev.pos rfl h)
    refine Ev.bind hR ?_
    have fin : ∀ (L : List S42) (f : Int), Ev (fun k => chart_Bars.f k kind nm ss lo hi st wd ht) (L, f) → Ev (fun k => chancerylaw3_ChartBarsInProportion.j0 k wd ht L f (lowC kind ss nm.length) (highC kind ss nm.length) (highC kind ss nm.length != highC kind ss nm.length) kind nm ss lo hi st) true →
        Ev (fun n => (chart_Bars.f n kind nm ss lo hi st wd ht).bind fun bt146 => (chancerylaw3_chartError.f n kind nm ss).bind fun t150 => (if t150 = 0 then ((chancerylaw3_extremes.f n kind nm ss).bind fun bt152 => (if (lowC kind ss nm.length, highC kind ss nm.length, (0 : Int)).2.2 = 0 then (if (lowC kind ss nm.length, highC kind ss nm.length, (0 : Int)).1 = bt152.1 then (chancerylaw3_ChartBarsInProportion.j0 n wd ht bt146.1 bt146.2 bt152.1 bt152.2 ((lowC kind ss nm.length, highC kind ss nm.length, (0 : Int)).2.1 != bt152.2) kind nm ss lo hi st) else (chancerylaw3_ChartBarsInProportion.j0 n wd ht bt146.1 bt146.2 bt152.1 bt152.2 true kind nm ss lo hi st)) else (chancerylaw3_ChartBarsInProportion.j0 n wd ht bt146.1 bt146.2 bt152.1 bt152.2 true kind nm ss lo hi st))) else ((chart_Check.f n kind nm ss).bind fun t151 => (if t151 = t150 then (if (lowC kind ss nm.length, highC kind ss nm.length, (0 : Int)).2.2 = t150 then (if bt146.2 = t150 then (if (lowC kind ss nm.length, highC kind ss nm.length, (0 : Int)).1 = 0 then (if (lowC kind ss nm.length, highC kind ss nm.length, (0 : Int)).2.1 = 0 then (some ((bt146.1.length : Int) == 0)) else (some false)) else (some false)) else (some false)) else (some false)) else (some false))))) true := fun L f h1 h2 =>
      Ev.bind h1 (Ev.bind he (Ev.pos rfl (Ev.bind hE (Ev.pos rfl (Ev.pos rfl h2)))))
    by_cases s0 : chk lo hi st = 0
    · rw [s0] at hC
      by_cases k3 : kind = 3
      · refine fin [] 8 (bars _ (Ev.bind hC (Ev.pos rfl (Ev.pos k3 (Ev.now _))))) (no_bars kind nm ss lo hi st wd ht 8 _ _ (by decide) fun h => ?_)
        exact Ev.step (fun k => by rw [chancerylaw3_ChartBarsInProportion.j0]) (Ev.neg (by simp) (Ev.bind hC (Ev.pos rfl (Ev.pos k3 h))))
      · by_cases hb : wd < 1 ∨ wd > 100000 ∨ ht < 1 ∨ ht > 100000 ∨ lowC kind ss nm.length < lo ∨ highC kind ss nm.length > hi
        · refine fin [] 2 (bars _ (Ev.bind hC (Ev.pos rfl (Ev.neg k3 (Ev.pos hb (Ev.now _)))))) (no_bars kind nm ss lo hi st wd ht 2 _ _ (by decide) fun h => ?_)
          refine Ev.step (fun k => by rw [chancerylaw3_ChartBarsInProportion.j0]) (Ev.neg (by simp) (Ev.bind hC (Ev.pos rfl (Ev.neg k3 (Ev.bind0 (in_ok _ _ _) ?_)))))
          by_cases c1 : 1 ≤ wd ∧ wd ≤ 100000
          · refine Ev.dpos c1 (Ev.bind0 (in_ok _ _ _) ?_)
            by_cases c2 : 1 ≤ ht ∧ ht ≤ 100000
            · refine Ev.dpos c2 ?_
              by_cases c3 : lowC kind ss nm.length < lo
              · exact Ev.pos c3 h
              · exact Ev.neg c3 (Ev.pos (by omega) h)
            · exact Ev.dneg c2 h
          · exact Ev.dneg c1 h
        · refine fin _ 0 (bars _ (Ev.bind hC (Ev.pos rfl (Ev.neg k3 (Ev.neg hb (Ev.now _)))))) ?_
          refine Ev.step (fun k => by rw [chancerylaw3_ChartBarsInProportion.j0]) (Ev.neg (by simp) (Ev.bind hC (Ev.pos rfl (Ev.neg k3 (Ev.bind0 (in_ok _ _ _) (Ev.dpos (show 1 ≤ wd ∧ wd ≤ 100000 by omega) (Ev.bind0 (in_ok _ _ _) (Ev.dpos (show 1 ≤ ht ∧ ht ≤ 100000 by omega) (Ev.neg (show ¬ lowC kind ss nm.length < lo by omega) (Ev.neg (show ¬ highC kind ss nm.length > hi by omega) ?_))))))))))
          have hB : Ev (fun k => chancerylaw3_bars.f k kind nm ss lo hi st wd ht) (barsC kind ss lo hi ht (edg wd nm.length) nm.length) := by
            unfold chancerylaw3_bars.f
            exact Ev.bind hR (Ev.pos ⟨rfl, show lo ≤ lowC kind ss nm.length by omega, show highC kind ss nm.length ≤ hi by omega, k3, s0, by omega, by omega⟩ (Ev.now _))
          refine Ev.step (fun k => by rw [chancerylaw3_ChartBarsInProportion.j1]) (Ev.pos rfl (Ev.bind hB (Ev.pos rfl ?_)))
          refine same_bars _ ?_
          rw [barsC_length]
          have : nm.length * ss.length ≤ 200 * 12 := Nat.mul_le_mul n2 m2
          omega
    · refine fin [] (chk lo hi st) (bars _ (Ev.bind hC (Ev.neg s0 (Ev.now _)))) (no_bars kind nm ss lo hi st wd ht _ _ _ s0 fun h => ?_)
      exact Ev.step (fun k => by rw [chancerylaw3_ChartBarsInProportion.j0]) (Ev.neg (by simp) (Ev.bind hC (Ev.neg s0 h)))
  · have hR : Ev (fun k => chart_Range.f k kind nm ss) (0, 0, e) := by
      unfold chart_Range.f
      exact Ev.bind hc (Ev.neg e0 (Ev.now _))
    have hB : Ev (fun k => chart_Bars.f k kind nm ss lo hi st wd ht) ([], e) := by
      unfold chart_Bars.f
      exact Ev.bind hR (Ev.neg e0 (Ev.now _))
    exact Ev.bind hR (Ev.bind hB (Ev.bind he (Ev.neg e0 (Ev.bind hc (Ev.pos rfl (Ev.pos rfl (Ev.pos rfl (Ev.pos rfl (Ev.pos rfl (Ev.ret (by simp)))))))))))
end
end Go.Proofs.Ytemginkjkmmimaa.Pure
