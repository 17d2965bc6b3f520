import Derived.Test.YthapclmfkjldaaaPureLNb
namespace Go.Proofs.Ythapclmfkjldaaa.LinesP
set_option linter.unusedSectionVars false
set_option linter.unusedVariables false
set_option linter.unusedSimpArgs false
open Go.RowKit Go.Proofs.Ythapclmfkjldaaa.QLN Go.Proofs.YthapclmfkjldaaaW.PrintWords Go.Proofs.YthapclmfkjldaaaW.PrintLast Go.Proofs.YthapclmfkjldaaaW.PrintMore Go.Proofs.Ythapclmfkjldaaa.Lib Go.Proofs.Ythapclmfkjldaaa.HandLN
def ln (L : List S49) (W : List Int) (f num t : Int) : S41 := lineP L W (fillT hW1 L (L.length : Int)) (fillT (·.f2) L (L.length : Int)) (fillT (·.f3) L (L.length : Int)) f t num
def refGo (L : List S49) (W : List Int) (f num : Int) : Nat → Int → List S41 → Bool → List S41
 | 0, _, out, _ => out
 | k + 1, t, out, first =>
  if t ≤ L.length then
   if (mayP L t && (decide (t > f) || mustP L t)) = true then
    (if mustP L t = true then (if (first || !fullA (ln L W f num t)) = true then out ++ [ln L W f num t] else out) else refGo L W f num k (t + 1) (if (first || !fullA (ln L W f num t)) = true then out ++ [ln L W f num t] else out) false)
   else if mustP L t = true then out else refGo L W f num k (t + 1) out first
  else out
theorem refGo_full (L : List S49) (W : List Int) (f num : Int) (k : Nat) : ∀ (t : Int) (out : List S41), (∀ t', t ≤ t' → t' ≤ L.length → fullA (ln L W f num t') = true) → refGo L W f num k t out false = out := by
 induction k with
 | zero => intro t out _; rfl
 | succ k ih =>
  intro t out h
  unfold refGo
  split
  · rename_i ht
    have e : (if (false || !fullA (ln L W f num t)) = true then out ++ [ln L W f num t] else out) = out := by rw [h t (Int.le_refl _) ht]; simp
    rw [e]
    split
    · split
      · rfl
      · exact ih (t + 1) out fun t' h1 h2 => h t' (by omega) h2
    · split
      · rfl
      · exact ih (t + 1) out fun t' h1 h2 => h t' (by omega) h2
  · rfl
def Glue (L : List S49) : Prop := ∀ i : Int, 0 ≤ i → i < L.length → (pt L i).f0 ≠ 1 → (pt L i).f2 = 0 ∧ (pt L i).f3 = 0
theorem sum_mono (L : List S49) (hF : Fine L) (hG : Glue L) (a b : Nat) (h : a ≤ b) (hb : b ≤ L.length) : sumU hW1 L a - sumU (·.f3) L a ≤ sumU hW1 L b - sumU (·.f3) L b := by
 induction b with
 | zero => rw [show a = 0 by omega]; omega
 | succ b ih =>
  by_cases c : a = b + 1
  · subst c; omega
  · have h1 := ih (by omega) (by omega)
    have h2 := hF.2 b (by omega) (by omega)
    have h3 : (pt L b).f3 ≤ hW1 (pt L b) := by
     unfold hW1
     by_cases k : (pt L b).f0 = 2
     · have := hG b (by omega) (by omega) (by omega)
       rw [if_pos k]; omega
     · rw [if_neg k]; omega
    have e1 : sumU hW1 L (b + 1) = sumU hW1 L b + hW1 (pt L b) := rfl
    have e2 : sumU (·.f3) L (b + 1) = sumU (·.f3) L b + (pt L b).f3 := rfl
    rw [e1, e2]
    omega
theorem addP_nn (L : List S49) (hF : Fine L) (t : Int) (t0 : 0 ≤ t) : 0 ≤ addP L t := by
 unfold addP
 split
 · rename_i h; exact (hF.2 t t0 h.1).1
 · omega
theorem ln_f2 (L : List S49) (W : List Int) (f num t : Int) (f0 : 0 ≤ f) (ft : f ≤ t) (t1 : t ≤ L.length) : (ln L W f num t).f2 = sumU hW1 L t.toNat - sumU hW1 L f.toNat + addP L t := by
 show rd _ t - rd _ f + addP L t = _
 rw [fill_end hW1 L t (by omega) t1, fill_end hW1 L f f0 (by omega)]
theorem ln_f4 (L : List S49) (W : List Int) (f num t : Int) (f0 : 0 ≤ f) (ft : f ≤ t) (t1 : t ≤ L.length) : (ln L W f num t).f4 = sumU (·.f3) L t.toNat - sumU (·.f3) L f.toNat := by
 show rd _ t - rd _ f = _
 rw [fill_end (·.f3) L t (by omega) t1, fill_end (·.f3) L f f0 (by omega)]
theorem later_full (L : List S49) (W : List Int) (hF : Fine L) (hG : Glue L) (f num t t' : Int) (f0 : 0 ≤ f) (ft : f ≤ t) (tt : t ≤ t') (t1 : t' ≤ L.length) (h : fullB (ln L W f num t) (addP L t) = true) : fullA (ln L W f num t') = true := by
 have m := sum_mono L hF hG t.toNat t'.toNat (by omega) (by omega)
 have a := addP_nn L hF t' (by omega)
 have h' : (ln L W f num t).f2 - addP L t - (ln L W f num t).f4 > (ln L W f num t).f5 := of_decide_eq_true h
 have e5 : (ln L W f num t').f5 = (ln L W f num t).f5 := rfl
 rw [ln_f2 L W f num t f0 ft (by omega), ln_f4 L W f num t f0 ft (by omega)] at h'
 refine decide_eq_true ?_
 rw [ln_f2 L W f num t' f0 (by omega) t1, ln_f4 L W f num t' f0 (by omega) t1, e5]
 omega
theorem ends_ref (L : List S49) (W : List Int) (hF : Fine L) (hG : Glue L) (f num : Int) (f0 : 0 ≤ f) (k : Nat) : ∀ (t : Int) (out : List S41) (first : Bool), f ≤ t → (first = true ↔ out = []) →
    endsGo L W (fillT hW1 L (L.length : Int)) (fillT (·.f2) L (L.length : Int)) (fillT (·.f3) L (L.length : Int)) f num k t out = refGo L W f num k t out first := by
 induction k with
 | zero => intro t out first _ _; rfl
 | succ k ih =>
  intro t out first ft hfo
  unfold endsGo refGo
  by_cases ht : t ≤ (L.length : Int)
  · rw [if_pos ht, if_pos ht]
    by_cases hc : (mayP L t && (decide (t > f) || mustP L t)) = true
    · rw [if_pos hc, if_pos hc]
      have ex : lineP L W (fillT hW1 L (L.length : Int)) (fillT (·.f2) L (L.length : Int)) (fillT (·.f3) L (L.length : Int)) f t num = ln L W f num t := rfl
      simp only [ex]
      have eo : (if fullA (ln L W f num t) = false ∨ out = [] then out ++ [ln L W f num t] else out) = (if (first || !fullA (ln L W f num t)) = true then out ++ [ln L W f num t] else out) := by
       by_cases o : out = []
       · rw [if_pos (.inr o), if_pos (by rw [hfo.2 o]; rfl)]
       · have : first = false := by
          cases first with
          | false => rfl
          | true => exact absurd (hfo.1 rfl) o
         rw [this]
         cases fullA (ln L W f num t) <;> simp [o]
      rw [eo]
      generalize hout : (if (first || !fullA (ln L W f num t)) = true then out ++ [ln L W f num t] else out) = out'
      have hne : out' ≠ [] := by
       rw [← hout]
       by_cases o : out = []
       · rw [hfo.2 o]; simp
       · split
         · simp
         · exact o
      by_cases hb : fullB (ln L W f num t) (addP L t) = true
      · rw [if_pos hb]
        split
        · rfl
        · exact (refGo_full L W f num k (t + 1) out' fun t' h1 h2 => later_full L W hF hG f num t t' f0 ft (by omega) h2 hb).symm
      · rw [if_neg hb]
        split
        · rfl
        · exact ih (t + 1) out' false (by omega) ⟨fun h => (by cases h), fun h => absurd h hne⟩
    · rw [if_neg hc, if_neg hc]
      split
      · rfl
      · exact ih (t + 1) out first (by omega) hfo
  · rw [if_neg ht, if_neg ht]
theorem ends_ev (L : List S49) (W : List Int) (D : Int) (hF : Fine L) (w1 : 1 ≤ W.length) (w2 : W.length ≤ 20) (f num : Int) (f0 : 0 ≤ f) (n0 : 0 ≤ num) (k : Nat) : ∀ (t : Int) (out : List S41) (first : Bool), f ≤ t → t ≤ (L.length : Int) + 1 → (L.length : Int) + 1 ≤ t + k → (out.length : Int) ≤ t - f →
    Ev (fun q => chanceryref3_Ends.l0 q L f num out first t W D) (refGo L W f num k t out first) := by
 have hn := hF.1
 induction k with
 | zero =>
  intro t out first ft tn hk hl
  refine Ev.step (fun q => by rw [chanceryref3_Ends.l0]) ?_
  exact Ev.neg (by omega) (Ev.ret rfl)
 | succ k ih =>
  intro t out first ft tn hk hl
  refine Ev.step (fun q => by rw [chanceryref3_Ends.l0]) ?_
  unfold refGo
  by_cases ht : t ≤ (L.length : Int)
  · rw [if_pos ht]
    have t0 : 0 ≤ t := by omega
    have wt : wrap64 (t + 1) = t + 1 := w64 (by omega) (by omega)
    refine Ev.pos ht (Ev.bind0 (canStop_pure L hn t t0 ht) ?_)
    have jn : ∀ b, b = false → Ev (fun q => chanceryref3_Ends.j1 q L f num out first t b W D) (if mustP L t = true then out else refGo L W f num k (t + 1) out first) := by
     intro b hb
     refine Ev.step (fun q => by rw [chanceryref3_Ends.j1]) (Ev.neg (by rw [hb]; simp) (Ev.bind0 (stop_pure L t t0 ht) ?_))
     by_cases m : mustP L t = true
     · exact Ev.pos m (Ev.ret (by simp [m]))
     · rw [wt]
       exact Ev.neg m (Ev.out (ih (t + 1) out first (by omega) (by omega) (by omega) (by omega)) (by simp [m]))
    have jy : ∀ b, b = true → Ev (fun q => chanceryref3_Ends.j1 q L f num out first t b W D) (if mustP L t = true then (if (first || !fullA (ln L W f num t)) = true then out ++ [ln L W f num t] else out) else refGo L W f num k (t + 1) (if (first || !fullA (ln L W f num t)) = true then out ++ [ln L W f num t] else out) false) := by
     intro b hb
     refine Ev.step (fun q => by rw [chanceryref3_Ends.j1]) (Ev.pos hb (Ev.bind (oneLine_pure L W D hF w1 w2 f t num f0 ft ht n0) ?_))
     have hx : ∀ x : S41, x = ln L W f num t → ∀ b2 : Bool, b2 = (first || !fullA x) → Ev (fun q => chanceryref3_Ends.j2 q L f num out t b2 W D x.f0 x.f1 x.f2 x.f3 x.f4 x.f5) (if mustP L t = true then (if (first || !fullA x) = true then out ++ [x] else out) else refGo L W f num k (t + 1) (if (first || !fullA x) = true then out ++ [x] else out) false) := by
      intro x _ b2 h2
      refine Ev.step (fun q => by rw [chanceryref3_Ends.j2]) ?_
      by_cases c : b2 = true
      · rw [show (if (first || !fullA x) = true then out ++ [x] else out) = out ++ [x] from if_pos (by rw [← h2]; exact c)]
        refine Ev.pos c (Ev.pos (by omega) ?_)
        show Ev (fun q => (chanceryref3_stop.f L t).bind fun t238 => (if t238 = true then (some (out ++ [x])) else (chanceryref3_Ends.l0 q L f num (out ++ [x]) false (wrap64 (t + 1)) W D))) _
        refine Ev.bind0 (stop_pure L t t0 ht) ?_
        by_cases m : mustP L t = true
        · exact Ev.pos m (Ev.ret (by simp [m]))
        · rw [wt]
          exact Ev.neg m (Ev.out (ih (t + 1) (out ++ [x]) false (by omega) (by omega) (by omega) (by rw [List.length_append, List.length_singleton]; omega)) (by simp [m]))
      · rw [show (if (first || !fullA x) = true then out ++ [x] else out) = out from if_neg (by rw [← h2]; exact c)]
        refine Ev.neg c (Ev.bind0 (stop_pure L t t0 ht) ?_)
        by_cases m : mustP L t = true
        · exact Ev.pos m (Ev.ret (by simp [m]))
        · rw [wt]
          exact Ev.neg m (Ev.out (ih (t + 1) out false (by omega) (by omega) (by omega) (by omega)) (by simp [m]))
     have q1 := sumU_bd hW1 L (fun j j0 j1 => by have := hF.2 j j0 j1; unfold hW1; split <;> omega) t.toNat (by omega)
     have q2 := sumU_bd hW1 L (fun j j0 j1 => by have := hF.2 j j0 j1; unfold hW1; split <;> omega) f.toNat (by omega)
     have q3 := sumU_bd (·.f3) L (fun j j0 j1 => by have := hF.2 j j0 j1; exact ⟨by omega, by omega⟩) t.toNat (by omega)
     have q4 := sumU_bd (·.f3) L (fun j j0 j1 => by have := hF.2 j j0 j1; exact ⟨by omega, by omega⟩) f.toNat (by omega)
     have q5 := addP_nn L hF t t0
     have q6 : addP L t ≤ 100000 := by
      unfold addP
      split
      · rename_i h; exact (hF.2 t t0 h.1).2.1
      · omega
     have l2 := ln_f2 L W f num t f0 ft ht
     have l4 := ln_f4 L W f num t f0 ft ht
     have bd : wrap64 ((ln L W f num t).f2 - (ln L W f num t).f4) = (ln L W f num t).f2 - (ln L W f num t).f4 := by
      rw [l2, l4]
      exact w64 (by omega) (by omega)
     by_cases fi : first = true
     · exact Ev.pos fi (hx _ rfl true (by rw [fi]; rfl))
     · refine Ev.neg fi (hx _ rfl _ ?_)
       have : first = false := by simpa using fi
       rw [this, Bool.false_or]
       show decide (wrap64 ((ln L W f num t).f2 - (ln L W f num t).f4) ≤ (ln L W f num t).f5) = _
       rw [bd]
       unfold fullA
       by_cases c : (ln L W f num t).f2 - (ln L W f num t).f4 > (ln L W f num t).f5
       · rw [decide_eq_true c, decide_eq_false (by omega)]; rfl
       · rw [decide_eq_false c, decide_eq_true (by omega)]; rfl
    by_cases my : mayP L t = true
    · refine Ev.pos my ?_
      by_cases g : t > f
      · rw [if_pos (by simp [my, g])]
        exact Ev.pos g (jy true rfl)
      · refine Ev.neg g (Ev.bind0 (stop_pure L t t0 ht) ?_)
        by_cases m : mustP L t = true
        · rw [if_pos (by simp [my, m])]
          exact jy _ m
        · rw [if_neg (by simp [my, g, m])]
          exact jn _ (by simpa using m)
    · rw [if_neg (by simp [my])]
      exact Ev.neg my (jn false rfl)
  · rw [if_neg ht]
    exact Ev.neg ht (Ev.now _)
end Go.Proofs.Ythapclmfkjldaaa.LinesP
