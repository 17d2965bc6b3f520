import Derived.Test.YthapclmfkjldaaaPureLNd
import Derived.Test.YthapclmfkjldaaaQLNx9
namespace Go.Proofs.Ythapclmfkjldaaa.LinesP
set_option linter.unusedSectionVars false
set_option linter.unusedVariables false
set_option linter.unusedSimpArgs false
open Go.RowKit Go.Proofs.Ythapclmfkjldaaa.QLN Go.Proofs.YthapclmfkjldaaaW.PrintWords Go.Proofs.YthapclmfkjldaaaW.PrintLast Go.Proofs.YthapclmfkjldaaaW.PrintMore Go.Proofs.Ythapclmfkjldaaa.Lib Go.Proofs.Ythapclmfkjldaaa.HandLN
theorem canStop_pure (L : List S49) (hn : L.length ≤ 8000) (i : Int) (h0 : 0 ≤ i) (h1 : i ≤ L.length) : chanceryref3_canStop.f L i = some (mayP L i) := by
 unfold chanceryref3_canStop.f
 rw [stop_pure L i h0 h1, Option.bind_some]
 by_cases e : i = L.length
 · rw [if_pos (by simp [mustP, e])]; simp [mayP, e]
 · have eb : (i == (L.length : Int)) = false := beq_eq_false_iff_ne.2 e
   by_cases k2 : (rd_T49 L i).f0 = 2
   · by_cases c : (rd_T49 L i).f4 = -10000
     · rw [if_pos (by simp [mustP, k2, c])]
       simp [mayP, k2, c]
     · rw [if_neg (by simp [mustP, eb, k2, c]), if_pos h0, if_pos (by omega), if_pos k2]
       by_cases d : (rd_T49 L i).f4 < 10000
       · rw [if_pos d]; simp [mayP, k2, d]
       · rw [if_neg d, if_neg (by omega)]; simp [mayP, eb, k2, d]
   · rw [if_neg (by simp [mustP, eb, k2]), if_pos h0, if_pos (by omega), if_neg k2]
     by_cases k1 : (rd_T49 L i).f0 = 1
     · rw [if_pos k1]
       by_cases p : i > 0
       · rw [if_pos p, w64 (n := i - 1) (by omega) (by omega), if_pos (by omega), if_pos (by omega)]
         simp [mayP, eb, k1, p]
       · rw [if_neg p]; simp [mayP, eb, k1, p]
     · rw [if_neg k1]; simp [mayP, eb, k1, k2]
def refGo (L : List S49) (W : List Int) (f num : Int) : Nat → Int → List S41 → Bool → List S41
 | 0, _, out, _ => out
 | k + 1, t, out, first =>
  if t ≤ L.length then
   if (mayP L t && (decide (t > f) || mustP L t)) = true then
    (if mustP L t = true then (if (first || !fullA (ln L W f num t)) = true then out ++ [ln L W f num t] else out) else refGo L W f num k (t + 1) (if (first || !fullA (ln L W f num t)) = true then out ++ [ln L W f num t] else out) false)
   else if mustP L t = true then out else refGo L W f num k (t + 1) out first
  else out
theorem refGo_full (L : List S49) (W : List Int) (f num : Int) (k : Nat) : ∀ (t : Int) (out : List S41), (∀ t', t ≤ t' → t' ≤ L.length → fullA (ln L W f num t') = true) → refGo L W f num k t out false = out := by
 induction k with
 | zero => intro t out _; rfl
 | succ k ih =>
  intro t out h
  unfold refGo
  split
  · rename_i ht
    have e : (if (false || !fullA (ln L W f num t)) = true then out ++ [ln L W f num t] else out) = out := by rw [h t (Int.le_refl _) ht]; simp
    rw [e]
    split
    · split
      · rfl
      · exact ih (t + 1) out fun t' h1 h2 => h t' (by omega) h2
    · split
      · rfl
      · exact ih (t + 1) out fun t' h1 h2 => h t' (by omega) h2
  · rfl
theorem later_full (L : List S49) (W : List Int) (hF : Fine L) (hG : Glue L) (f num t t' : Int) (f0 : 0 ≤ f) (ft : f ≤ t) (tt : t ≤ t') (t1 : t' ≤ L.length) (h : fullB (ln L W f num t) (addP L t) = true) : fullA (ln L W f num t') = true := by
 have m := sum_mono L hF hG t.toNat t'.toNat (by omega) (by omega)
 have a := addP_nn L hF t' (by omega)
 have h' : (ln L W f num t).f2 - addP L t - (ln L W f num t).f4 > (ln L W f num t).f5 := of_decide_eq_true h
 have e5 : (ln L W f num t').f5 = (ln L W f num t).f5 := rfl
 rw [ln_f2 L W f num t f0 ft (by omega), ln_f4 L W f num t f0 ft (by omega)] at h'
 refine decide_eq_true ?_
 rw [ln_f2 L W f num t' f0 (by omega) t1, ln_f4 L W f num t' f0 (by omega) t1, e5]
 omega
theorem ends_ref (L : List S49) (W : List Int) (hF : Fine L) (hG : Glue L) (f num : Int) (f0 : 0 ≤ f) (k : Nat) : ∀ (t : Int) (out : List S41) (first : Bool), f ≤ t → (first = true ↔ out = []) →
    endsGo L W (fillT hW1 L (L.length : Int)) (fillT (·.f2) L (L.length : Int)) (fillT (·.f3) L (L.length : Int)) f num k t out = refGo L W f num k t out first := by
 induction k with
 | zero => intro t out first _ _; rfl
 | succ k ih =>
  intro t out first ft hfo
  unfold endsGo refGo
  by_cases ht : t ≤ (L.length : Int)
  · rw [if_pos ht, if_pos ht]
    by_cases hc : (mayP L t && (decide (t > f) || mustP L t)) = true
    · rw [if_pos hc, if_pos hc]
      have ex : lineP L W (fillT hW1 L (L.length : Int)) (fillT (·.f2) L (L.length : Int)) (fillT (·.f3) L (L.length : Int)) f t num = ln L W f num t := rfl
      simp only [ex]
      have eo : (if fullA (ln L W f num t) = false ∨ out = [] then out ++ [ln L W f num t] else out) = (if (first || !fullA (ln L W f num t)) = true then out ++ [ln L W f num t] else out) := by
       by_cases o : out = []
       · rw [if_pos (.inr o), if_pos (by rw [hfo.2 o]; rfl)]
       · have : first = false := by
          cases first with
          | false => rfl
          | true => exact absurd (hfo.1 rfl) o
         rw [this]
         cases fullA (ln L W f num t) <;> simp [o]
      rw [eo]
      generalize hout : (if (first || !fullA (ln L W f num t)) = true then out ++ [ln L W f num t] else out) = out'
      have hne : out' ≠ [] := by
       rw [← hout]
       by_cases o : out = []
       · rw [hfo.2 o]; simp
       · split
         · simp
         · exact o
      by_cases hb : fullB (ln L W f num t) (addP L t) = true
      · rw [if_pos hb]
        split
        · rfl
        · exact (refGo_full L W f num k (t + 1) out' fun t' h1 h2 => later_full L W hF hG f num t t' f0 ft (by omega) h2 hb).symm
      · rw [if_neg hb]
        split
        · rfl
        · exact ih (t + 1) out' false (by omega) ⟨fun h => (by cases h), fun h => absurd h hne⟩
    · rw [if_neg hc, if_neg hc]
      split
      · rfl
      · exact ih (t + 1) out first (by omega) hfo
  · rw [if_neg ht, if_neg ht]
theorem ends_ev (L : List S49) (W : List Int) (D : Int) (hF : Fine L) (w1 : 1 ≤ W.length) (w2 : W.length ≤ 20) (f num : Int) (f0 : 0 ≤ f) (n0 : 0 ≤ num) (k : Nat) : ∀ (t : Int) (out : List S41) (first : Bool), f ≤ t → t ≤ (L.length : Int) + 1 → (L.length : Int) + 1 ≤ t + k → (out.length : Int) ≤ t - f →
    Ev (fun q => chanceryref3_Ends.l0 q L f num out first t W D) (refGo L W f num k t out first) := by
 have hn := hF.1
 induction k with
 | zero =>
  intro t out first ft tn hk hl
  refine Ev.step (fun q => by rw [chanceryref3_Ends.l0]) ?_
  exact Ev.neg (by omega) (Ev.ret rfl)
 | succ k ih =>
  intro t out first ft tn hk hl
  refine Ev.step (fun q => by rw [chanceryref3_Ends.l0]) ?_
  unfold refGo
  by_cases ht : t ≤ (L.length : Int)
  · rw [if_pos ht]
    have t0 : 0 ≤ t := by omega
    have wt : wrap64 (t + 1) = t + 1 := w64 (by omega) (by omega)
    refine Ev.pos ht (Ev.bind0 (canStop_pure L hn t t0 ht) ?_)
    have jn : ∀ b, b = false → Ev (fun q => chanceryref3_Ends.j1 q L f num out first t b W D) (if mustP L t = true then out else refGo L W f num k (t + 1) out first) := by
     intro b hb
     refine Ev.step (fun q => by rw [chanceryref3_Ends.j1]) (Ev.neg (by rw [hb]; simp) (Ev.bind0 (stop_pure L t t0 ht) ?_))
     by_cases m : mustP L t = true
     · exact Ev.pos m (Ev.ret (by simp [m]))
     · rw [wt]
       exact Ev.neg m (Ev.out (ih (t + 1) out first (by omega) (by omega) (by omega) (by omega)) (by simp [m]))
    have jy : ∀ b, b = true → Ev (fun q => chanceryref3_Ends.j1 q L f num out first t b W D) (if mustP L t = true then (if (first || !fullA (ln L W f num t)) = true then out ++ [ln L W f num t] else out) else refGo L W f num k (t + 1) (if (first || !fullA (ln L W f num t)) = true then out ++ [ln L W f num t] else out) false) := by
     intro b hb
     refine Ev.step (fun q => by rw [chanceryref3_Ends.j1]) (Ev.pos hb (Ev.bind (oneLine_pure L W D hF w1 w2 f t num f0 ft ht n0) ?_))
     have hx : ∀ x : S41, x = ln L W f num t → ∀ b2 : Bool, b2 = (first || !fullA x) → Ev (fun q => chanceryref3_Ends.j2 q L f num out t b2 W D x.f0 x.f1 x.f2 x.f3 x.f4 x.f5) (if mustP L t = true then (if (first || !fullA x) = true then out ++ [x] else out) else refGo L W f num k (t + 1) (if (first || !fullA x) = true then out ++ [x] else out) false) := by
      intro x _ b2 h2
      refine Ev.step (fun q => by rw [chanceryref3_Ends.j2]) ?_
      by_cases c : b2 = true
      · rw [show (if (first || !fullA x) = true then out ++ [x] else out) = out ++ [x] from if_pos (by rw [← h2]; exact c)]
        refine Ev.pos c (Ev.pos (by omega) ?_)
        show Ev (fun q => (chanceryref3_stop.f L t).bind fun t238 => (if t238 = true then (some (out ++ [x])) else (chanceryref3_Ends.l0 q L f num (out ++ [x]) false (wrap64 (t + 1)) W D))) _
        refine Ev.bind0 (stop_pure L t t0 ht) ?_
        by_cases m : mustP L t = true
        · exact Ev.pos m (Ev.ret (by simp [m]))
        · rw [wt]
          exact Ev.neg m (Ev.out (ih (t + 1) (out ++ [x]) false (by omega) (by omega) (by omega) (by rw [List.length_append, List.length_singleton]; omega)) (by simp [m]))
      · rw [show (if (first || !fullA x) = true then out ++ [x] else out) = out from if_neg (by rw [← h2]; exact c)]
        refine Ev.neg c (Ev.bind0 (stop_pure L t t0 ht) ?_)
        by_cases m : mustP L t = true
        · exact Ev.pos m (Ev.ret (by simp [m]))
        · rw [wt]
          exact Ev.neg m (Ev.out (ih (t + 1) out false (by omega) (by omega) (by omega) (by omega)) (by simp [m]))
     have q1 := sumU_bd hW1 L (fun j j0 j1 => by have := hF.2 j j0 j1; unfold hW1; split <;> omega) t.toNat (by omega)
     have q2 := sumU_bd hW1 L (fun j j0 j1 => by have := hF.2 j j0 j1; unfold hW1; split <;> omega) f.toNat (by omega)
     have q3 := sumU_bd (·.f3) L (fun j j0 j1 => by have := hF.2 j j0 j1; exact ⟨by omega, by omega⟩) t.toNat (by omega)
     have q4 := sumU_bd (·.f3) L (fun j j0 j1 => by have := hF.2 j j0 j1; exact ⟨by omega, by omega⟩) f.toNat (by omega)
     have q5 := addP_nn L hF t t0
     have q6 : addP L t ≤ 100000 := by
      unfold addP
      split
      · rename_i h; exact (hF.2 t t0 h.1).2.1
      · omega
     have l2 := ln_f2 L W f num t f0 ft ht
     have l4 := ln_f4 L W f num t f0 ft ht
     have bd : wrap64 ((ln L W f num t).f2 - (ln L W f num t).f4) = (ln L W f num t).f2 - (ln L W f num t).f4 := by
      rw [l2, l4]
      exact w64 (by omega) (by omega)
     by_cases fi : first = true
     · exact Ev.pos fi (hx _ rfl true (by rw [fi]; rfl))
     · refine Ev.neg fi (hx _ rfl _ ?_)
       have : first = false := by simpa using fi
       rw [this, Bool.false_or]
       show decide (wrap64 ((ln L W f num t).f2 - (ln L W f num t).f4) ≤ (ln L W f num t).f5) = _
       rw [bd]
       unfold fullA
       by_cases c : (ln L W f num t).f2 - (ln L W f num t).f4 > (ln L W f num t).f5
       · rw [decide_eq_true c, decide_eq_false (by omega)]; rfl
       · rw [decide_eq_false c, decide_eq_true (by omega)]; rfl
    by_cases my : mayP L t = true
    · refine Ev.pos my ?_
      by_cases g : t > f
      · rw [if_pos (by simp [my, g])]
        exact Ev.pos g (jy true rfl)
      · refine Ev.neg g (Ev.bind0 (stop_pure L t t0 ht) ?_)
        by_cases m : mustP L t = true
        · rw [if_pos (by simp [my, m])]
          exact jy _ m
        · rw [if_neg (by simp [my, g, m])]
          exact jn _ (by simpa using m)
    · rw [if_neg (by simp [my])]
      exact Ev.neg my (jn false rfl)
  · rw [if_neg ht]
    exact Ev.neg ht (Ev.now _)
theorem endsR_ev (L : List S49) (W : List Int) (D : Int) (hF : Fine L) (hG : Glue L) (w1 : 1 ≤ W.length) (w2 : W.length ≤ 20) (f num : Int) (f0 : 0 ≤ f) (f1 : f ≤ L.length) (n0 : 0 ≤ num) : Ev (fun k => chanceryref3_Ends.f k L W D f num) (endsE L W f num) := by
 have h1 := ends_ev L W D hF w1 w2 f num f0 n0 (L.length + 2) f [] true (Int.le_refl _) (by omega) (by omega) (by simp)
 have h2 := ends_ref L W hF hG f num f0 (L.length + 2) f [] true (Int.le_refl _) (by simp)
 rw [← h2] at h1
 exact h1
end Go.Proofs.Ythapclmfkjldaaa.LinesP
