import Derived.Test.YthapclmfkjldaaaPureLNd
import Derived.Test.YthapclmfkjldaaaQLNx2
import Derived.Test.YthapclmfkjldaaaQLNx3
namespace Go.Proofs.Ythapclmfkjldaaa.LinesP
set_option linter.unusedSectionVars false
set_option linter.unusedVariables false
set_option linter.unusedSimpArgs false
open Go.RowKit Go.Proofs.YthapclmfkjldaaaW.PrintWords Go.Proofs.Ythapclmfkjldaaa.QLN Go.Proofs.Ythapclmfkjldaaa.HandLN Go.Proofs.Ythapclmfkjldaaa.Lib
def partE (p : S49) : Int :=
 if p.f0 < 0 ∨ p.f0 > 2 then 8
 else if (p.f0 ≠ 1 ∧ (p.f2 ≠ 0 ∨ p.f3 ≠ 0)) ∨ (p.f0 ≠ 2 ∧ (p.f4 ≠ 0 ∨ p.f5 = true)) then 4
 else if p.f1 < 0 ∨ p.f1 > 100000 ∨ p.f2 < 0 ∨ p.f2 > 100000 ∨ p.f3 < 0 ∨ p.f3 > p.f1 ∨ p.f4 < -10000 ∨ p.f4 > 10000 then 2
 else 0
theorem in_pure (a b c : Int) : chanceryref3_In.f a b c = some (decide (b ≤ a ∧ a ≤ c)) := by
 unfold chanceryref3_In.f
 by_cases h : a ≥ b
 · rw [if_pos h]; congr 1; simp; omega
 · rw [if_neg h]; congr 1; symm; simp; omega
section
variable (L : List S49) (hn : L.length ≤ 8000) (i : Int) (i0 : 0 ≤ i) (i1 : i < L.length)
include hn i0 i1
set_option maxHeartbeats 4000000 in
theorem check_at (r : Int) (h : (partE (pt L i) = 0 ∧ Ev (fun k => lines_Check.l0 k L (L.length : Int) (i + 1)) r) ∨ (partE (pt L i) ≠ 0 ∧ r = partE (pt L i))) : Ev (fun k => lines_Check.l0 k L (L.length : Int) i) r := by
 have wi : wrap64 (i + 1) = i + 1 := w64 (by omega) (by omega)
 refine Ev.step (fun q => by rw [lines_Check.l0]) ?_
 refine Ev.pos i1 (Ev.pos i0 (Ev.pos i1 ?_))
 rw [show pt L i = rd_T49 L i from rfl] at h
 generalize rd_T49 L i = p at h ⊢
 obtain ⟨x0, x1, x2, x3, x4, x5⟩ := p
 unfold partE at h
 dsimp only at h ⊢
 have fin : ∀ r', (¬ (x0 < 0 ∨ x0 > 2) ∧ ((x0 ≠ 1 ∧ (x2 ≠ 0 ∨ x3 ≠ 0)) ∨ (x0 ≠ 2 ∧ (x4 ≠ 0 ∨ x5 = true))) → r' = 4) → (¬ (x0 < 0 ∨ x0 > 2) ∧ ¬ ((x0 ≠ 1 ∧ (x2 ≠ 0 ∨ x3 ≠ 0)) ∨ (x0 ≠ 2 ∧ (x4 ≠ 0 ∨ x5 = true))) ∧ (x1 < 0 ∨ x1 > 100000 ∨ x2 < 0 ∨ x2 > 100000 ∨ x3 < 0 ∨ x3 > x1 ∨ x4 < -10000 ∨ x4 > 10000) → r' = 2) → True := fun _ _ _ => trivial
 by_cases c0 : x0 < 0 ∨ x0 > 2
 · rw [if_pos c0] at h
   have hr : r = 8 := by rcases h with h | h; exact absurd h.1 (by decide); exact h.2
   subst hr
   by_cases q : x0 < 0
   · refine Ev.pos q (Ev.step (fun q => by rw [lines_Check.j1]) ?_)
     exact Ev.pos rfl (Ev.ret rfl)
   · refine Ev.neg q (Ev.step (fun q => by rw [lines_Check.j1]) ?_)
     exact Ev.pos (decide_eq_true (by omega)) (Ev.ret rfl)
 · rw [if_neg c0] at h
   refine Ev.neg (by omega) (Ev.step (fun q => by rw [lines_Check.j1]) ?_)
   refine Ev.neg (by simp; omega) ?_
   have tail4 : ∀ b : Bool, b = true → r = 4 → Ev (fun n => lines_Check.j2 n L (L.length : Int) i b x0 x1 x2 x3 x4 x5) r := by
    intro b hb hr
    refine Ev.step (fun q => by rw [lines_Check.j2]) ?_
    exact Ev.pos hb (Ev.ret hr.symm)
   by_cases c1 : (x0 ≠ 1 ∧ (x2 ≠ 0 ∨ x3 ≠ 0)) ∨ (x0 ≠ 2 ∧ (x4 ≠ 0 ∨ x5 = true))
   · rw [if_pos c1] at h
     have hr : r = 4 := by rcases h with h | h; exact absurd h.1 (by decide); exact h.2
     by_cases d1 : x0 = 1
     · refine Ev.pos d1 (Ev.neg (by omega) ?_)
       by_cases d4 : x4 = 0
       · refine Ev.pos d4 (tail4 _ ?_ hr)
         rcases c1 with c1 | c1
         · exact absurd d1 c1.1
         · rcases c1.2 with c | c
           · exact absurd d4 c
           · exact c
       · exact Ev.neg d4 (tail4 _ rfl hr)
     · refine Ev.neg d1 ?_
       by_cases d2 : x2 = 0
       · refine Ev.pos d2 ?_
         by_cases d3 : x3 = 0
         · refine Ev.pos d3 ?_
           have c1' : x0 ≠ 2 ∧ (x4 ≠ 0 ∨ x5 = true) := by rcases c1 with c | c; exact absurd c.2 (by omega); exact c
           refine Ev.neg c1'.1 ?_
           by_cases d4 : x4 = 0
           · refine Ev.pos d4 (tail4 _ ?_ hr)
             rcases c1'.2 with c | c
             · exact absurd d4 c
             · exact c
           · exact Ev.neg d4 (tail4 _ rfl hr)
         · exact Ev.neg d3 (tail4 _ rfl hr)
       · exact Ev.neg d2 (tail4 _ rfl hr)
   · rw [if_neg c1] at h
     have tail0 : ∀ b : Bool, b = false → Ev (fun n => lines_Check.j2 n L (L.length : Int) i b x0 x1 x2 x3 x4 x5) r := by
      intro b hb
      refine Ev.step (fun q => by rw [lines_Check.j2, wi]) ?_
      refine Ev.neg (by rw [hb]; decide) ?_
      by_cases c2 : x1 < 0 ∨ x1 > 100000 ∨ x2 < 0 ∨ x2 > 100000 ∨ x3 < 0 ∨ x3 > x1 ∨ x4 < -10000 ∨ x4 > 10000
      · rw [if_pos c2] at h
        have hr : r = 2 := by rcases h with h | h; exact absurd h.1 (by decide); exact h.2
        subst hr
        by_cases e1 : x1 < 0
        · exact Ev.pos e1 (Ev.ret rfl)
        refine Ev.neg e1 ?_
        by_cases e2 : x1 > 100000
        · exact Ev.pos e2 (Ev.ret rfl)
        refine Ev.neg e2 ?_
        by_cases e3 : x2 < 0
        · exact Ev.pos e3 (Ev.ret rfl)
        refine Ev.neg e3 ?_
        by_cases e4 : x2 > 100000
        · exact Ev.pos e4 (Ev.ret rfl)
        refine Ev.neg e4 ?_
        by_cases e5 : x3 < 0
        · exact Ev.pos e5 (Ev.ret rfl)
        refine Ev.neg e5 ?_
        by_cases e6 : x3 > x1
        · exact Ev.pos e6 (Ev.ret rfl)
        refine Ev.neg e6 ?_
        by_cases e7 : x4 < -10000
        · exact Ev.pos e7 (Ev.ret rfl)
        refine Ev.neg e7 ?_
        exact Ev.pos (by omega) (Ev.ret rfl)
      · rw [if_neg c2] at h
        have he := h.elim (fun h => h.2) (fun h => absurd rfl h.1)
        exact Ev.neg (by omega) (Ev.neg (by omega) (Ev.neg (by omega) (Ev.neg (by omega) (Ev.neg (by omega) (Ev.neg (by omega) (Ev.neg (by omega) (Ev.neg (by omega) he)))))))
     have x5f : x0 ≠ 2 → x5 = false := fun h2 => by cases x5 with
      | false => rfl
      | true => exact absurd (.inr ⟨h2, .inr rfl⟩) c1
     by_cases d1 : x0 = 1
     · exact Ev.pos d1 (Ev.neg (by omega) (Ev.pos (by omega) (tail0 _ (x5f (by omega)))))
     · refine Ev.neg d1 (Ev.pos (by omega) (Ev.pos (by omega) ?_))
       by_cases d2 : x0 = 2
       · exact Ev.pos d2 (tail0 _ rfl)
       · exact Ev.neg d2 (Ev.pos (by omega) (tail0 _ (x5f d2)))
set_option maxHeartbeats 4000000 in
theorem parts_at (r : Int) (h : (partE (pt L i) = 0 ∧ Ev (fun k => chanceryref3_PartsError.l0 k L (L.length : Int) (i + 1)) r) ∨ (partE (pt L i) ≠ 0 ∧ r = partE (pt L i))) : Ev (fun k => chanceryref3_PartsError.l0 k L (L.length : Int) i) r := by
 have wi : wrap64 (i + 1) = i + 1 := w64 (by omega) (by omega)
 refine Ev.step (fun q => by rw [chanceryref3_PartsError.l0]) ?_
 refine Ev.pos i1 (Ev.pos i0 (Ev.pos i1 ?_))
 rw [show pt L i = rd_T49 L i from rfl] at h
 generalize rd_T49 L i = p at h ⊢
 obtain ⟨x0, x1, x2, x3, x4, x5⟩ := p
 unfold partE at h
 dsimp only at h ⊢
 refine Ev.bind0 (in_pure _ _ _) ?_
 by_cases c0 : x0 < 0 ∨ x0 > 2
 · rw [if_pos c0] at h
   have hr : r = 8 := by rcases h with h | h; exact absurd h.1 (by decide); exact h.2
   subst hr
   exact Ev.neg (by simp; omega) (Ev.ret rfl)
 · rw [if_neg c0] at h
   refine Ev.pos (decide_eq_true (by omega)) ?_
   have tail4 : r = 4 → ∀ b : Bool, b = true → Ev (fun n => chanceryref3_PartsError.j3 n L (L.length : Int) i b x0 x1 x2 x3 x4 x5) r := by
    intro hr b hb
    refine Ev.step (fun q => by rw [chanceryref3_PartsError.j3]) ?_
    exact Ev.pos hb (Ev.ret hr.symm)
   by_cases c1 : (x0 ≠ 1 ∧ (x2 ≠ 0 ∨ x3 ≠ 0)) ∨ (x0 ≠ 2 ∧ (x4 ≠ 0 ∨ x5 = true))
   · rw [if_pos c1] at h
     have hr : r = 4 := by rcases h with h | h; exact absurd h.1 (by decide); exact h.2
     have j2_ : ∀ b : Bool, (b = true ∨ (x0 ≠ 2 ∧ (x4 ≠ 0 ∨ x5 = true))) → Ev (fun n => chanceryref3_PartsError.j2 n L (L.length : Int) i b x0 x1 x2 x3 x4 x5) r := by
      intro b hb
      refine Ev.step (fun q => by rw [chanceryref3_PartsError.j2]) ?_
      by_cases e : b = true
      · exact Ev.pos e (tail4 hr _ e)
      · refine Ev.neg e ?_
        have hc := hb.resolve_left e
        refine Ev.neg hc.1 ?_
        by_cases d4 : x4 = 0
        · exact Ev.pos d4 (tail4 hr _ (hc.2.resolve_left (fun q => q d4)))
        · exact Ev.neg d4 (tail4 hr _ (by simpa using d4))
     have j1_ : ∀ b : Bool, (b = true ∨ (x0 ≠ 1 ∧ x3 ≠ 0) ∨ (x0 ≠ 2 ∧ (x4 ≠ 0 ∨ x5 = true))) → Ev (fun n => chanceryref3_PartsError.j1 n L (L.length : Int) i b x0 x1 x2 x3 x4 x5) r := by
      intro b hb
      refine Ev.step (fun q => by rw [chanceryref3_PartsError.j1]) ?_
      by_cases e : b = true
      · exact Ev.pos e (tail4 hr _ e)
      · refine Ev.neg e ?_
        have hc := hb.resolve_left e
        by_cases d1 : x0 = 1
        · exact Ev.pos d1 (j2_ _ (.inr (hc.resolve_left (fun q => q.1 d1))))
        · refine Ev.neg d1 (j2_ _ ?_)
          by_cases d3 : x3 = 0
          · exact .inr (hc.resolve_left (fun q => q.2 d3))
          · exact .inl (by simpa using d3)
     by_cases d1 : x0 = 1
     · exact Ev.pos d1 (j1_ _ (.inr (.inr (c1.resolve_left (fun q => q.1 d1)))))
     · refine Ev.neg d1 (j1_ _ ?_)
       by_cases d2 : x2 = 0
       · rcases c1 with c | c
         · exact .inr (.inl ⟨d1, c.2.resolve_left (fun q => q d2)⟩)
         · exact .inr (.inr c)
       · exact .inl (by simpa using d2)
   · rw [if_neg c1] at h
     have x5f : x0 ≠ 2 → x5 = false := fun h2 => by cases x5 with
      | false => rfl
      | true => exact absurd (.inr ⟨h2, .inr rfl⟩) c1
     have tail0 : ∀ b : Bool, b = false → Ev (fun n => chanceryref3_PartsError.j3 n L (L.length : Int) i b x0 x1 x2 x3 x4 x5) r := by
      intro b hb
      refine Ev.step (fun q => by rw [chanceryref3_PartsError.j3, wi]) ?_
      refine Ev.neg (by rw [hb]; decide) ?_
      refine Ev.bind0 (in_pure _ _ _) ?_
      by_cases e1 : 0 ≤ x1 ∧ x1 ≤ 100000
      · refine Ev.pos (decide_eq_true e1) (Ev.bind0 (in_pure _ _ _) ?_)
        by_cases e2 : 0 ≤ x2 ∧ x2 ≤ 100000
        · refine Ev.pos (decide_eq_true e2) (Ev.bind0 (in_pure _ _ _) ?_)
          by_cases e3 : 0 ≤ x3 ∧ x3 ≤ x1
          · refine Ev.pos (decide_eq_true e3) (Ev.bind0 (in_pure _ _ _) ?_)
            by_cases e4 : -10000 ≤ x4 ∧ x4 ≤ 10000
            · rw [if_neg (by omega)] at h
              exact Ev.pos (decide_eq_true e4) (h.elim (fun h => h.2) (fun h => absurd rfl h.1))
            · rw [if_pos (by omega)] at h
              exact Ev.neg (by simpa using fun q => by omega) (Ev.ret (by rcases h with h | h; exact absurd h.1 (by decide); exact h.2.symm))
          · rw [if_pos (by omega)] at h
            exact Ev.neg (by simpa using fun q => by omega) (Ev.ret (by rcases h with h | h; exact absurd h.1 (by decide); exact h.2.symm))
        · rw [if_pos (by omega)] at h
          exact Ev.neg (by simpa using fun q => by omega) (Ev.ret (by rcases h with h | h; exact absurd h.1 (by decide); exact h.2.symm))
      · rw [if_pos (by omega)] at h
        exact Ev.neg (by simpa using fun q => by omega) (Ev.ret (by rcases h with h | h; exact absurd h.1 (by decide); exact h.2.symm))
     have j2_ : Ev (fun n => chanceryref3_PartsError.j2 n L (L.length : Int) i false x0 x1 x2 x3 x4 x5) r := by
      refine Ev.step (fun q => by rw [chanceryref3_PartsError.j2]) ?_
      refine Ev.neg (by decide) ?_
      by_cases d2 : x0 = 2
      · exact Ev.pos d2 (tail0 _ rfl)
      · exact Ev.neg d2 (Ev.pos (by omega) (tail0 _ (x5f d2)))
     have j1_ : ∀ b : Bool, b = false → Ev (fun n => chanceryref3_PartsError.j1 n L (L.length : Int) i b x0 x1 x2 x3 x4 x5) r := by
      intro b hb
      refine Ev.step (fun q => by rw [chanceryref3_PartsError.j1]) ?_
      refine Ev.neg (by rw [hb]; decide) ?_
      by_cases d1 : x0 = 1
      · exact Ev.pos d1 j2_
      · have : x3 = 0 := by omega
        subst this
        exact Ev.neg d1 j2_
     by_cases d1 : x0 = 1
     · exact Ev.pos d1 (j1_ _ rfl)
     · exact Ev.neg d1 (j1_ _ (by have : x2 = 0 := by omega
                                  rw [this]; rfl))
end
theorem check_pure (L : List S49) : ∃ e : Int, Ev (fun k => lines_Check.f k L) e ∧ Ev (fun k => chanceryref3_PartsError.f k L) e ∧ (e = 0 → Fine L ∧ Glue L ∧ ∀ i : Int, 0 ≤ i → i < L.length → partE (pt L i) = 0) := by
 by_cases hn : (L.length : Int) > 8000
 · exact ⟨3, Ev.pos hn (Ev.ret rfl), Ev.pos hn (Ev.ret rfl), fun h => absurd h (by decide)⟩
 · have hn' : L.length ≤ 8000 := by omega
   rcases first_bad (fun i => partE (pt L i) = 0) (L.length : Int) with h | ⟨b, b0, b1, hb, hg⟩
   · refine ⟨0, Ev.neg hn ?_, Ev.neg hn ?_, fun _ => ⟨⟨hn', fun i i0 i1 => ?_⟩, fun i i0 i1 hk => ?_, h⟩⟩
     · refine climb (g := fun i k => lines_Check.l0 k L (L.length : Int) i) (by omega) (Ev.step (fun q => by rw [lines_Check.l0]) ?_) (fun i i0 i1 hi => check_at L hn' i i0 i1 0 (.inl ⟨h i i0 i1, hi⟩))
       exact Ev.neg (by omega) (Ev.ret rfl)
     · refine climb (g := fun i k => chanceryref3_PartsError.l0 k L (L.length : Int) i) (by omega) (Ev.step (fun q => by rw [chanceryref3_PartsError.l0]) ?_) (fun i i0 i1 hi => parts_at L hn' i i0 i1 0 (.inl ⟨h i i0 i1, hi⟩))
       exact Ev.neg (by omega) (Ev.ret rfl)
     · have := h i i0 i1
       unfold partE at this
       split at this
       · cases this
       · split at this
         · cases this
         · split at this
           · cases this
           · omega
     · have := h i i0 i1
       unfold partE at this
       split at this
       · cases this
       · split at this
         · cases this
         · rename_i q
           omega
   · refine ⟨partE (pt L b), Ev.neg hn ?_, Ev.neg hn ?_, fun h => absurd h hb⟩
     · exact climb (g := fun i k => lines_Check.l0 k L (L.length : Int) i) b0 (check_at L hn' b b0 b1 _ (.inr ⟨hb, rfl⟩)) (fun i i0 i1 hi => check_at L hn' i i0 (by omega) _ (.inl ⟨hg i i0 i1, hi⟩))
     · exact climb (g := fun i k => chanceryref3_PartsError.l0 k L (L.length : Int) i) b0 (parts_at L hn' b b0 b1 _ (.inr ⟨hb, rfl⟩)) (fun i i0 i1 hi => parts_at L hn' i i0 (by omega) _ (.inl ⟨hg i i0 i1, hi⟩))
def FineS (W : List Int) (D : Int) : Prop := 1 ≤ W.length ∧ W.length ≤ 20 ∧ (∀ i : Int, 0 ≤ i → i < W.length → 1 ≤ rd W i ∧ rd W i ≤ 100000) ∧ 0 ≤ D ∧ D ≤ 1000000
theorem shape_pure (W : List Int) (D : Int) : ∃ e : Int, Ev (fun k => lines_CheckShape.f k W D) e ∧ Ev (fun k => chanceryref3_ShapeError.f k W D) e ∧ (e = 0 → FineS W D) := by
 by_cases h0 : (W.length : Int) = 0
 · exact ⟨7, Ev.pos h0 (Ev.ret rfl), Ev.pos h0 (Ev.ret rfl), fun h => absurd h (by decide)⟩
 by_cases h1 : (W.length : Int) > 20
 · exact ⟨3, Ev.neg h0 (Ev.pos h1 (Ev.ret rfl)), Ev.neg h0 (Ev.pos h1 (Ev.ret rfl)), fun h => absurd h (by decide)⟩
 have A : ∀ (i r : Int), 0 ≤ i → i < W.length → (((1 ≤ rd W i ∧ rd W i ≤ 100000) ∧ Ev (fun k => lines_CheckShape.l0 k W (W.length : Int) (i + 1) W D) r) ∨ (¬ (1 ≤ rd W i ∧ rd W i ≤ 100000) ∧ r = 2)) → Ev (fun k => lines_CheckShape.l0 k W (W.length : Int) i W D) r := by
  intro i r i0 i1 h
  have wi : wrap64 (i + 1) = i + 1 := w64 (by omega) (by omega)
  refine Ev.step (fun q => by rw [lines_CheckShape.l0, wi]) ?_
  refine Ev.pos i1 (Ev.pos i0 (Ev.pos i1 ?_))
  rcases h with ⟨h, he⟩ | ⟨h, rfl⟩
  · exact Ev.neg (by omega) (Ev.neg (by omega) he)
  · by_cases q : rd W i < 1
    · exact Ev.pos q (Ev.ret rfl)
    · exact Ev.neg q (Ev.pos (by omega) (Ev.ret rfl))
 have B : ∀ (i r : Int), 0 ≤ i → i < W.length → (((1 ≤ rd W i ∧ rd W i ≤ 100000) ∧ Ev (fun k => chanceryref3_ShapeError.l0 k W (W.length : Int) (i + 1) W D) r) ∨ (¬ (1 ≤ rd W i ∧ rd W i ≤ 100000) ∧ r = 2)) → Ev (fun k => chanceryref3_ShapeError.l0 k W (W.length : Int) i W D) r := by
  intro i r i0 i1 h
  have wi : wrap64 (i + 1) = i + 1 := w64 (by omega) (by omega)
  refine Ev.step (fun q => by rw [chanceryref3_ShapeError.l0, wi]) ?_
  refine Ev.pos i1 (Ev.pos i0 (Ev.pos i1 (Ev.bind0 (in_pure _ _ _) ?_)))
  rcases h with ⟨h, he⟩ | ⟨h, rfl⟩
  · exact Ev.pos (decide_eq_true h) he
  · exact Ev.neg (by rw [decide_eq_true_eq]; exact h) (Ev.ret rfl)
 rcases first_bad (fun i => 1 ≤ rd W i ∧ rd W i ≤ 100000) (W.length : Int) with h | ⟨b, b0, b1, hb, hg⟩
 · by_cases hd : 0 ≤ D ∧ D ≤ 1000000
   · refine ⟨0, Ev.neg h0 (Ev.neg h1 ?_), Ev.neg h0 (Ev.neg h1 ?_), fun _ => ⟨by omega, by omega, h, hd.1, hd.2⟩⟩
     · refine climb (g := fun i k => lines_CheckShape.l0 k W (W.length : Int) i W D) (by omega) (Ev.step (fun q => by rw [lines_CheckShape.l0]) ?_) (fun i i0 i1 hi => A i 0 i0 i1 (.inl ⟨h i i0 i1, hi⟩))
       exact Ev.neg (by omega) (Ev.neg (by omega) (Ev.neg (by omega) (Ev.ret rfl)))
     · refine climb (g := fun i k => chanceryref3_ShapeError.l0 k W (W.length : Int) i W D) (by omega) (Ev.step (fun q => by rw [chanceryref3_ShapeError.l0]) ?_) (fun i i0 i1 hi => B i 0 i0 i1 (.inl ⟨h i i0 i1, hi⟩))
       exact Ev.neg (by omega) (Ev.bind0 (in_pure _ _ _) (Ev.pos (decide_eq_true hd) (Ev.ret rfl)))
   · refine ⟨2, Ev.neg h0 (Ev.neg h1 ?_), Ev.neg h0 (Ev.neg h1 ?_), fun h => absurd h (by decide)⟩
     · refine climb (g := fun i k => lines_CheckShape.l0 k W (W.length : Int) i W D) (by omega) (Ev.step (fun q => by rw [lines_CheckShape.l0]) ?_) (fun i i0 i1 hi => A i 2 i0 i1 (.inl ⟨h i i0 i1, hi⟩))
       refine Ev.neg (by omega) ?_
       by_cases q : D < 0
       · exact Ev.pos q (Ev.ret rfl)
       · exact Ev.neg q (Ev.pos (by omega) (Ev.ret rfl))
     · refine climb (g := fun i k => chanceryref3_ShapeError.l0 k W (W.length : Int) i W D) (by omega) (Ev.step (fun q => by rw [chanceryref3_ShapeError.l0]) ?_) (fun i i0 i1 hi => B i 2 i0 i1 (.inl ⟨h i i0 i1, hi⟩))
       exact Ev.neg (by omega) (Ev.bind0 (in_pure _ _ _) (Ev.neg (by rw [decide_eq_true_eq]; exact hd) (Ev.ret rfl)))
 · refine ⟨2, Ev.neg h0 (Ev.neg h1 ?_), Ev.neg h0 (Ev.neg h1 ?_), fun h => absurd h (by decide)⟩
   · exact climb (g := fun i k => lines_CheckShape.l0 k W (W.length : Int) i W D) b0 (A b 2 b0 b1 (.inr ⟨hb, rfl⟩)) (fun i i0 i1 hi => A i 2 i0 (by omega) (.inl ⟨hg i i0 i1, hi⟩))
   · exact climb (g := fun i k => chanceryref3_ShapeError.l0 k W (W.length : Int) i W D) b0 (B b 2 b0 b1 (.inr ⟨hb, rfl⟩)) (fun i i0 i1 hi => B i 2 i0 (by omega) (.inl ⟨hg i i0 i1, hi⟩))
end Go.Proofs.Ythapclmfkjldaaa.LinesP
