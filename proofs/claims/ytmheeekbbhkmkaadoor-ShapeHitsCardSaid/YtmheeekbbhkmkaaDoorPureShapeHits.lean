import Derived.Test.YtmheeekbbhkmkaaDoorPureShapeChecks
import Derived.Test.YtmheeekbbhkmkaaDoorQSIx2
namespace Go.Proofs.YtmheeekbbhkmkaaDoor.Pure
open Go.RowKit Go.Proofs.YtmheeekbbhkmkaaDoor.QSH Go.Proofs.YtmheeekbbhkmkaaDoor.HandSH Go.Proofs.YtmheeekbbhkmkaaDoor.QSI Go.Proofs.YtmheeekbbhkmkaaDoorW.PrintWords Go.Proofs.YtmheeekbbhkmkaaDoorW.PrintLast Go.Proofs.YtmheeekbbhkmkaaDoorW.PrintMore Go.Proofs.YtmheeekbbhkmkaaDoor.Lib
set_option linter.unusedVariables false
set_option linter.unusedSimpArgs false
namespace Shapes
theorem round_near (a b : Int) (h0 : 0 < b) (h1 : b ≤ 1099511627776) : shape_round.f a b = chanceryref3_Near.f a b := by
  unfold shape_round.f chanceryref3_Near.f chanceryref3_Down.f
  rw [w64 (n := b * 2) (by omega) (by omega), w64 (n := 2 * b) (by omega) (by omega), Int.mul_comm b 2]
  obtain ⟨A, hA⟩ : ∃ A, wrap64 (wrap64 (2 * a) + b) = A := ⟨_, rfl⟩
  have hA1 : -9223372036854775808 ≤ A ∧ A ≤ 9223372036854775807 := by rw [← hA]; unfold wrap64; omega
  rw [hA]
  obtain ⟨B, hB⟩ : ∃ B, 2 * b = B := ⟨_, rfl⟩
  have hB0 : 2 ≤ B := by omega
  rw [hB]
  have hBz : ¬ B = 0 := by omega
  rw [if_neg hBz, if_neg hBz]
  have hq : Int.tdiv A B = if A < 0 ∧ A % B ≠ 0 then A / B + 1 else A / B := tdiv_down A B (by omega)
  have hm : Int.tmod A B = if A < 0 ∧ A % B ≠ 0 then A % B - B else A % B := tmod_down A B (by omega)
  have hd := Int.emod_add_mul_ediv A B
  have hm0 := Int.emod_nonneg A (show B ≠ 0 by omega)
  have hm1 := Int.emod_lt_of_pos A (show 0 < B by omega)
  have hqb : -9223372036854775808 ≤ Int.tdiv A B ∧ Int.tdiv A B ≤ 9223372036854775807 := by
    have e1 : -9223372036854775808 ≤ A / B := Int.le_ediv_of_mul_le (by omega) (by omega)
    have e2 : A / B ≤ 9223372036854775807 := by
      by_cases h : 0 ≤ A
      · exact Int.le_trans (Int.ediv_le_self B h) hA1.2
      · have : A / B < 0 := Int.ediv_neg_of_neg_of_pos (by omega) (by omega)
        omega
    rw [hq]
    split
    · rename_i h
      have : A / B < 0 := Int.ediv_neg_of_neg_of_pos h.1 (by omega)
      omega
    · omega
  rw [w64 (n := Int.tdiv A B) hqb.1 hqb.2]
  have hprod : Int.tdiv A B * B = A - Int.tmod A B := by
    rw [hq, hm]
    have hc := Int.mul_comm B (A / B)
    split
    · rw [Int.add_mul]; omega
    · omega
  rw [hprod]
  have hs : (wrap64 (A - Int.tmod A B) > A) ↔ Int.tmod A B < 0 := by
    have hz : -9223372036854775808 ≤ A - Int.tmod A B ∧ A - Int.tmod A B ≤ 9223372036854775807 := by
      rw [hm]
      split
      · rename_i h
        by_cases hb : A / B + 1 ≤ 0
        · have : A - (A % B - B) = B * (A / B + 1) := by rw [Int.mul_add]; omega
          have h2 : B * (A / B + 1) ≤ 0 := Int.mul_nonpos_of_nonneg_of_nonpos (by omega) hb
          omega
        · have : A / B < 0 := Int.ediv_neg_of_neg_of_pos h.1 (by omega)
          omega
      · rename_i h
        by_cases hn : A < 0
        · have : A % B = 0 := by
            by_cases hz : A % B = 0
            · exact hz
            · exact absurd ⟨hn, hz⟩ h
          omega
        · have : 0 ≤ B * (A / B) := Int.mul_nonneg (by omega) (Int.ediv_nonneg (by omega) (by omega))
          omega
    rw [w64 hz.1 hz.2]
    omega
  by_cases h : Int.tmod A B < 0
  · rw [if_pos h, if_pos (hs.2 h)]; rfl
  · rw [if_neg h, if_neg (fun k => h (hs.1 k))]; rfl
theorem turn_eq (x y cx cy t : Int) : shape_turned.f x y cx cy t = chanceryref3_TurnPoint.f x y cx cy t := by
  unfold shape_turned.f chanceryref3_TurnPoint.f
  rw [show shape_sine.f = chanceryref3_Sine.f from rfl, Int.mul_comm cx 65536, Int.mul_comm cy 65536]
  refine congrArg _ (funext fun s => congrArg _ (funext fun c => ?_))
  rw [round_near _ 131072 (by decide) (by decide), round_near _ 131072 (by decide) (by decide)]
theorem near_some (a : Int) : ∃ r, chanceryref3_Near.f a 131072 = some r := by
  unfold chanceryref3_Near.f chanceryref3_Down.f
  rw [w64 (n := 2 * 131072) (by omega) (by omega), if_neg (by decide)]
  split
  · exact ⟨_, rfl⟩
  · exact ⟨_, rfl⟩
theorem turn_some (x y cx cy t : Int) (h0 : -3600 ≤ t) (h1 : t ≤ 3600) : ∃ r, chanceryref3_TurnPoint.f x y cx cy t = some r := by
  unfold chanceryref3_TurnPoint.f chanceryref3_Sine.f
  rw [w64 (n := t + 900) (by omega) (by omega), if_pos (show near t from ⟨by omega, by omega⟩), if_pos (show near (t + 900) from ⟨by omega, by omega⟩)]
  simp only [Option.bind_some]
  obtain ⟨r1, e1⟩ := near_some (wrap64 (wrap64 (wrap64 (65536 * cx) + wrap64 (wrap64 (wrap64 (2 * x) - cx) * sinE (t + 900))) - wrap64 (wrap64 (wrap64 (2 * y) - cy) * sinE t)))
  obtain ⟨r2, e2⟩ := near_some (wrap64 (wrap64 (wrap64 (65536 * cy) + wrap64 (wrap64 (wrap64 (2 * x) - cx) * sinE t)) + wrap64 (wrap64 (wrap64 (2 * y) - cy) * sinE (t + 900))))
  exact ⟨(r1, r2), by rw [e1, Option.bind_some, e2]; rfl⟩
def into (s : S45) (p : Int × Int) : Option (Int × Int) := (chanceryref3_TurnPoint.f p.1 p.2 (wrap64 (wrap64 (2 * s.f3) + s.f5)) (wrap64 (wrap64 (2 * s.f4) + s.f6)) (wrap64 (-s.f7))).bind fun q => some (wrap64 (q.1 - s.f3), wrap64 (q.2 - s.f4))
abbrev locP (k : Nat) (l : List S45) (s : S45) (p : Int × Int) : Option (Int × Int) := shape_local.f k l s.f0 s.f1 s.f2 s.f3 s.f4 s.f5 s.f6 s.f7 s.f8 s.f9 s.f10 s.f11 p.1 p.2
theorem turn_neg (s : S45) (hf : fieldErr s = 0) (p : Int × Int) : ∃ r, chanceryref3_TurnPoint.f p.1 p.2 (wrap64 (wrap64 (2 * s.f3) + s.f5)) (wrap64 (wrap64 (2 * s.f4) + s.f6)) (wrap64 (-s.f7)) = some r := by
  have h := fieldErr_zero hf
  refine turn_some _ _ _ _ _ ?_ ?_
  all_goals rw [w64 (n := -s.f7) (by omega) (by omega)]; omega
theorem chainH (l : List S45) (hl : l.length ≤ 1000) (hv : ∀ i : Nat, i < l.length → fitsAt l i) (p : Int × Int) : ∀ (d : Nat) (s : S45), fieldErr s = 0 → (s.f1 = 0 ∨ (0 ≤ idx s.f1 l 0 ∧ idx s.f1 l 0 < d)) → ∃ (gs : List S45) (q r : Int × Int), gs.length ≤ d ∧
    chanceryref3_TurnPoint.f q.1 q.2 (wrap64 (wrap64 (2 * s.f3) + s.f5)) (wrap64 (wrap64 (2 * s.f4) + s.f6)) (wrap64 (-s.f7)) = some r ∧ Ev (fun k => locP k l s p) r ∧
    (∀ (acc : List S45) (hit n i : Int) (x : S45) (R : Int), acc.length + d ≤ 100000 → Ev (fun k => chanceryref3_HitShape.l2 k l hit l n i (gs ++ acc) ((gs ++ acc).length : Int) 0 p.1 p.2 x.f0 x.f1 x.f2 x.f3 x.f4 x.f5 x.f6 x.f7 x.f8 x.f9 x.f10 x.f11 p.1 p.2) R →
      Ev (fun k => chanceryref3_HitShape.l1 k l hit acc s.f1 l n i p.1 p.2 x.f0 x.f1 x.f2 x.f3 x.f4 x.f5 x.f6 x.f7 x.f8 x.f9 x.f10 x.f11) R) ∧
    (∀ (acc : List S45) (hit n i : Int) (x : S45) (R : Int), acc.length + d ≤ 100000 → Ev (fun k => chanceryref3_HitShape.l2 k l hit l n i (gs ++ acc) ((gs ++ acc).length : Int) (gs.length : Int) p.1 p.2 x.f0 x.f1 x.f2 x.f3 x.f4 x.f5 x.f6 x.f7 x.f8 x.f9 x.f10 x.f11 q.1 q.2) R →
      Ev (fun k => chanceryref3_HitShape.l2 k l hit l n i (gs ++ acc) ((gs ++ acc).length : Int) 0 p.1 p.2 x.f0 x.f1 x.f2 x.f3 x.f4 x.f5 x.f6 x.f7 x.f8 x.f9 x.f10 x.f11 p.1 p.2) R) := by
  intro d
  induction d with
  | zero =>
    intro s hf hg
    have g0 : s.f1 = 0 := hg.resolve_right (by omega)
    obtain ⟨r, hr⟩ := turn_neg s hf p
    refine ⟨[], p, r, by simp, hr, ?_, fun acc hit n i x R ha hR => ?_, fun acc hit n i x R ha hR => hR⟩
    · refine Ev.step (fun k => by rw [locP, shape_local.f]) ?_
      refine (Ev.pos g0 ?_)
      exact Ev.bind0 ((turn_eq _ _ _ _ _).trans hr) (Ev.now _)
    · rw [List.nil_append] at hR
      refine Ev.step (fun k => by rw [chanceryref3_HitShape.l1]) ?_
      exact (Ev.pos g0 hR)
  | succ d ih =>
    intro s hf hg
    by_cases g0 : s.f1 = 0
    · obtain ⟨r, hr⟩ := turn_neg s hf p
      refine ⟨[], p, r, by simp, hr, ?_, fun acc hit n i x R ha hR => ?_, fun acc hit n i x R ha hR => hR⟩
      · refine Ev.step (fun k => by rw [locP, shape_local.f]) ?_
        refine (Ev.pos g0 ?_)
        exact Ev.bind0 ((turn_eq _ _ _ _ _).trans hr) (Ev.now _)
      · rw [List.nil_append] at hR
        refine Ev.step (fun k => by rw [chanceryref3_HitShape.l1]) ?_
        exact (Ev.pos g0 hR)
    have hg := hg.resolve_left g0
    have hr := idx_range s.f1 l
    have hfind : shape_find.f l s.f1 = some (idx s.f1 l 0) := find_ok _ _ (by omega)
    have hat : Ev (fun k => chanceryref3_ShapeAt.f k l s.f1) (idx s.f1 l 0) := shapeAt_ok _ _ (by omega)
    obtain ⟨j, hj⟩ : ∃ j, idx s.f1 l 0 = j := ⟨_, rfl⟩
    rw [hj] at hg hr hfind hat
    have hjl : 0 ≤ j ∧ j < (l.length : Int) := by omega
    have hfj := hv j.toNat (by omega)
    unfold fitsAt at hfj
    rw [show ((j.toNat : Nat) : Int) = j by omega] at hfj
    obtain ⟨g, hgd⟩ : ∃ g, rd_T45 l j = g := ⟨_, rfl⟩
    rw [hgd] at hfj
    obtain ⟨hf0, hfp⟩ := hfj
    obtain ⟨gs, q, r, hlen, ht, hloc, w1, w2⟩ := ih g hf0 (by
      rcases hfp with h | ⟨h, _⟩
      · exact .inl h
      · have e := idx_take g.f1 l j.toNat h
        have := idx_range g.f1 (l.take j.toNat)
        rw [List.length_take] at this
        exact .inr (by omega))
    obtain ⟨r', hr'⟩ := turn_neg s hf (wrap64 (r.1 - g.f3), wrap64 (r.2 - g.f4))
    refine ⟨gs ++ [g], (wrap64 (r.1 - g.f3), wrap64 (r.2 - g.f4)), r', by simp; omega, hr', ?_, fun acc hit n i x R ha hR => ?_, fun acc hit n i x R ha hR => ?_⟩
    · refine Ev.step (fun k => by rw [locP, shape_local.f]) ?_
      refine (Ev.neg g0 (Ev.bind0 hfind (Ev.pos hjl.1 (Ev.pos hjl.2 ?_))))
      rw [hgd]
      exact Ev.bind hloc (Ev.bind0 ((turn_eq _ _ _ _ _).trans hr') (Ev.now _))
    · refine Ev.step (fun k => by rw [chanceryref3_HitShape.l1]) ?_
      refine (Ev.neg g0 (Ev.bind hat (Ev.pos hjl.1 (Ev.pos hjl.2 (Ev.bind0 rfl (Ev.pos (show 1 + acc.length < 1256584717458 by omega) ?_))))))
      rw [hgd]
      refine w1 (g :: acc) hit n i x R (by simp; omega) ?_
      have e : gs ++ g :: acc = gs ++ [g] ++ acc := by simp
      rw [e]
      exact hR
    · have e : gs ++ [g] ++ acc = gs ++ g :: acc := by simp
      rw [e] at hR ⊢
      refine w2 (g :: acc) hit n i x R (by simp; omega) ?_
      have hg1 : rd_T45 (gs ++ g :: acc) (gs.length : Int) = g := by
        unfold rd_T45
        rw [List.getD_eq_getElem?_getD, Int.toNat_natCast, List.getElem?_append_right (Nat.le_refl _), Nat.sub_self]
        rfl
      refine Ev.step (fun k => by rw [chanceryref3_HitShape.l2, hg1]) ?_
      refine (Ev.pos (by simp; omega) (Ev.pos (by omega) (Ev.pos (by simp; omega) (Ev.bind0 rfl (Ev.bind0 ht ?_)))))
      rw [w64 (n := (gs.length : Int) + 1) (by omega) (by omega)]
      rw [show (((gs ++ [g]).length : Nat) : Int) = (gs.length : Int) + 1 by simp] at hR
      exact hR
theorem inside_ok (l : List S45) (s : S45) (hf : fieldErr s = 0) (hit n i : Int) (p r : Int × Int) : ∃ b : Bool,
    Ev (fun k => shape_inside.f k s.f0 s.f1 s.f2 s.f3 s.f4 s.f5 s.f6 s.f7 s.f8 s.f9 s.f10 s.f11 r.1 r.2) b ∧
    ∀ R, Ev (fun k => chanceryref3_HitShape.l0 k l (if b = true then s.f0 else hit) l n (wrap64 (i + 1)) p.1 p.2) R →
      Ev (fun k => (chanceryref3_In.f r.1 s.f3 (wrap64 (s.f3 + s.f5))).bind fun t => if t = true then ((chanceryref3_In.f r.2 s.f4 (wrap64 (s.f4 + s.f6))).bind fun t => chanceryref3_HitShape.j4 k l hit l n i (!t) p.1 p.2 s.f0 s.f1 s.f2 s.f3 s.f4 s.f5 s.f6 s.f7 s.f8 s.f9 s.f10 s.f11 r.1 r.2)
        else chanceryref3_HitShape.j4 k l hit l n i true p.1 p.2 s.f0 s.f1 s.f2 s.f3 s.f4 s.f5 s.f6 s.f7 s.f8 s.f9 s.f10 s.f11 r.1 r.2) R := by
  have hz := fieldErr_zero hf
  have j0t : Ev (fun k => shape_inside.j0 k r.1 r.2 true s.f0 s.f1 s.f2 s.f3 s.f4 s.f5 s.f6 s.f7 s.f8 s.f9 s.f10 s.f11) false := Ev.step (fun k => by rw [shape_inside.j0]) (Ev.pos rfl (Ev.now _))
  have j4t : ∀ R, Ev (fun k => chanceryref3_HitShape.l0 k l hit l n (wrap64 (i + 1)) p.1 p.2) R → Ev (fun k => chanceryref3_HitShape.j4 k l hit l n i true p.1 p.2 s.f0 s.f1 s.f2 s.f3 s.f4 s.f5 s.f6 s.f7 s.f8 s.f9 s.f10 s.f11 r.1 r.2) R := fun R hR => Ev.step (fun k => by rw [chanceryref3_HitShape.j4]) (Ev.pos rfl hR)
  obtain ⟨a, ha⟩ : ∃ a, wrap64 (s.f3 + s.f5) = a := ⟨_, rfl⟩
  obtain ⟨c, hc⟩ : ∃ c, wrap64 (s.f4 + s.f6) = c := ⟨_, rfl⟩
  by_cases hx : s.f3 ≤ r.1 ∧ r.1 ≤ a
  rotate_left
  · refine ⟨false, ?_, fun R hR => Ev.bind0 (in_ok _ _ _) ?_⟩
    · refine Ev.congr (fun k => by rw [shape_inside.f, ha, hc]) ?_
      by_cases h1 : r.1 < s.f3
      · exact Ev.pos h1 j0t
      · exact Ev.neg h1 (Ev.pos (show r.1 > a by omega) j0t)
    · rw [ha, decide_eq_false hx]
      exact Ev.neg (by simp) (j4t _ hR)
  by_cases hy : s.f4 ≤ r.2 ∧ r.2 ≤ c
  rotate_left
  · refine ⟨false, ?_, fun R hR => Ev.bind0 (in_ok _ _ _) ?_⟩
    · refine Ev.congr (fun k => by rw [shape_inside.f, ha, hc]) (Ev.neg (show ¬ r.1 < s.f3 by omega) (Ev.neg (show ¬ r.1 > a by omega) ?_))
      by_cases h1 : r.2 < s.f4
      · exact Ev.pos h1 j0t
      · refine Ev.neg h1 ?_
        rw [decide_eq_true (show r.2 > c by omega)]
        exact j0t
    · rw [ha, decide_eq_true hx]
      refine Ev.pos rfl (Ev.bind0 (in_ok _ _ _) ?_)
      rw [hc, decide_eq_false hy]
      exact j4t _ hR
  have pin : ∀ b, Ev (fun k => shape_inside.j0 k r.1 r.2 false s.f0 s.f1 s.f2 s.f3 s.f4 s.f5 s.f6 s.f7 s.f8 s.f9 s.f10 s.f11) b → Ev (fun k => shape_inside.f k s.f0 s.f1 s.f2 s.f3 s.f4 s.f5 s.f6 s.f7 s.f8 s.f9 s.f10 s.f11 r.1 r.2) b := fun b hb => by
    refine Ev.congr (fun k => by rw [shape_inside.f, ha, hc]) (Ev.neg (show ¬ r.1 < s.f3 by omega) (Ev.neg (show ¬ r.1 > a by omega) (Ev.neg (show ¬ r.2 < s.f4 by omega) ?_)))
    rw [decide_eq_false (show ¬ r.2 > c by omega)]
    exact hb
  have rin : ∀ R, Ev (fun k => chanceryref3_HitShape.j4 k l hit l n i false p.1 p.2 s.f0 s.f1 s.f2 s.f3 s.f4 s.f5 s.f6 s.f7 s.f8 s.f9 s.f10 s.f11 r.1 r.2) R →
      Ev (fun k => (chanceryref3_In.f r.1 s.f3 (wrap64 (s.f3 + s.f5))).bind fun t => if t = true then ((chanceryref3_In.f r.2 s.f4 (wrap64 (s.f4 + s.f6))).bind fun t => chanceryref3_HitShape.j4 k l hit l n i (!t) p.1 p.2 s.f0 s.f1 s.f2 s.f3 s.f4 s.f5 s.f6 s.f7 s.f8 s.f9 s.f10 s.f11 r.1 r.2)
        else chanceryref3_HitShape.j4 k l hit l n i true p.1 p.2 s.f0 s.f1 s.f2 s.f3 s.f4 s.f5 s.f6 s.f7 s.f8 s.f9 s.f10 s.f11 r.1 r.2) R := fun R hR => by
    refine Ev.bind0 (in_ok _ _ _) ?_
    rw [ha, decide_eq_true hx]
    refine Ev.pos rfl (Ev.bind0 (in_ok _ _ _) ?_)
    rw [hc, decide_eq_true hy]
    exact hR
  have plain : ∀ R, (s.f2 ≠ 1 ∨ s.f5 = 0 ∨ s.f6 = 0) → Ev (fun k => chanceryref3_HitShape.l0 k l s.f0 l n (wrap64 (i + 1)) p.1 p.2) R → Ev (fun k => chanceryref3_HitShape.j4 k l hit l n i false p.1 p.2 s.f0 s.f1 s.f2 s.f3 s.f4 s.f5 s.f6 s.f7 s.f8 s.f9 s.f10 s.f11 r.1 r.2) R := fun R h hR => by
    have j5f : Ev (fun k => chanceryref3_HitShape.j5 k l hit l n i false p.1 p.2 s.f0 s.f1 s.f2 s.f3 s.f4 s.f5 s.f6 s.f7 s.f8 s.f9 s.f10 s.f11 r.1 r.2) R := Ev.step (fun k => by rw [chanceryref3_HitShape.j5]) (Ev.neg (by simp) hR)
    refine Ev.step (fun k => by rw [chanceryref3_HitShape.j4]) ?_
    refine (Ev.neg (by simp) ?_)
    by_cases h2 : s.f2 = 1
    · refine Ev.pos h2 ?_
      by_cases h5 : s.f5 > 0
      · refine Ev.pos h5 ?_
        rw [decide_eq_false (by omega : ¬ s.f6 > 0)]
        exact j5f
      · exact Ev.neg h5 j5f
    · exact Ev.neg h2 j5f
  have pplain : (s.f2 ≠ 1 ∨ s.f5 = 0 ∨ s.f6 = 0) → Ev (fun k => shape_inside.j0 k r.1 r.2 false s.f0 s.f1 s.f2 s.f3 s.f4 s.f5 s.f6 s.f7 s.f8 s.f9 s.f10 s.f11) true := fun h => by
    have j1t : Ev (fun k => shape_inside.j1 k r.1 r.2 true s.f0 s.f1 s.f2 s.f3 s.f4 s.f5 s.f6 s.f7 s.f8 s.f9 s.f10 s.f11) true := Ev.step (fun k => by rw [shape_inside.j1]) (Ev.pos rfl (Ev.now _))
    refine Ev.step (fun k => by rw [shape_inside.j0]) ?_
    refine (Ev.neg (by simp) ?_)
    by_cases h2 : s.f2 = 1
    · refine Ev.pos h2 ?_
      by_cases h5 : s.f5 = 0
      · exact Ev.pos h5 j1t
      · refine Ev.neg h5 ?_
        rw [show (s.f6 == 0) = true from beq_iff_eq.2 (by omega)]
        exact j1t
    · exact Ev.neg h2 j1t
  by_cases ho : s.f2 ≠ 1 ∨ s.f5 = 0 ∨ s.f6 = 0
  · exact ⟨true, pin _ (pplain ho), fun R hR => rin _ (plain _ ho hR)⟩
  have h2 : s.f2 = 1 := by omega
  have nr : ∀ (y b : Int), 0 < b → b ≤ 1048576 → ∃ t, chanceryref3_Near.f y b = some t := fun y b h0 h1 => by
    unfold chanceryref3_Near.f chanceryref3_Down.f
    rw [w64 (n := 2 * b) (by omega) (by omega), if_neg (by omega)]
    split
    · exact ⟨_, rfl⟩
    · exact ⟨_, rfl⟩
  obtain ⟨u, hu⟩ := nr (wrap64 (1024 * (wrap64 ((wrap64 ((wrap64 (2 * r.1)) - (wrap64 (2 * s.f3)))) - s.f5)))) s.f5 (by omega) (by omega)
  obtain ⟨v, hv⟩ := nr (wrap64 (1024 * (wrap64 ((wrap64 ((wrap64 (2 * r.2)) - (wrap64 (2 * s.f4)))) - s.f6)))) s.f6 (by omega) (by omega)
  refine ⟨decide ((wrap64 ((wrap64 (u * u)) + (wrap64 (v * v)))) ≤ 1048576), pin _ ?_, fun R hR => rin _ ?_⟩
  · refine Ev.step (fun k => by rw [shape_inside.j0]) ?_
    refine (Ev.neg (by simp) (Ev.pos h2 (Ev.neg (show ¬ s.f5 = 0 by omega) ?_)))
    rw [show (s.f6 == 0) = false from beq_eq_false_iff_ne.2 (by omega)]
    refine Ev.step (fun k => by rw [shape_inside.j1]) ?_
    refine (Ev.neg (by simp) ?_)
    exact Ev.bind0 ((round_near _ _ (by omega) (by omega)).trans hu) (Ev.bind0 ((round_near _ _ (by omega) (by omega)).trans hv) (Ev.now _))
  · refine Ev.step (fun k => by rw [chanceryref3_HitShape.j4]) ?_
    refine (Ev.neg (by simp) (Ev.pos h2 (Ev.pos (show s.f5 > 0 by omega) ?_)))
    rw [decide_eq_true (show s.f6 > 0 by omega)]
    refine Ev.step (fun k => by rw [chanceryref3_HitShape.j5]) ?_
    refine (Ev.pos rfl (Ev.bind0 hu (Ev.bind0 hv ?_)))
    by_cases hd : (wrap64 ((wrap64 (u * u)) + (wrap64 (v * v)))) ≤ 1048576
    · rw [decide_eq_true hd, if_pos rfl] at hR
      exact Ev.neg (by omega) hR
    · rw [decide_eq_false hd, if_neg (by simp)] at hR
      exact Ev.pos (by omega) hR
theorem hit_one (l : List S45) (hl : l.length ≤ 1000) (hv : ∀ i : Nat, i < l.length → fitsAt l i) (p : Int × Int) (i : Nat) (hi : i < l.length) : ∃ b : Bool,
    (b = true → Ev (fun k => shape_Hit.l0 k l (i : Int) p.1 p.2) ((rd_T45 l i).f0, 0)) ∧
    (b = false → ∀ R, Ev (fun k => shape_Hit.l0 k l ((i : Int) - 1) p.1 p.2) R → Ev (fun k => shape_Hit.l0 k l (i : Int) p.1 p.2) R) ∧
    ∀ hit R, Ev (fun k => chanceryref3_HitShape.l0 k l (if b = true then (rd_T45 l i).f0 else hit) l (l.length : Int) ((i : Int) + 1) p.1 p.2) R → Ev (fun k => chanceryref3_HitShape.l0 k l hit l (l.length : Int) (i : Int) p.1 p.2) R := by
  have hfi := hv i hi
  unfold fitsAt at hfi
  obtain ⟨s, hs⟩ : ∃ s, rd_T45 l i = s := ⟨_, rfl⟩
  rw [hs] at hfi ⊢
  obtain ⟨hf, hfp⟩ := hfi
  have w1 : wrap64 ((i : Int) - 1) = (i : Int) - 1 := w64 (by omega) (by omega)
  have w2 : wrap64 ((i : Int) + 1) = (i : Int) + 1 := w64 (by omega) (by omega)
  by_cases hk : s.f2 = 5 ∨ s.f2 = 6
  · refine ⟨false, fun h => absurd h (by decide), fun _ R hR => ?_, fun hit R hR => ?_⟩
    · have j2t : Ev (fun k => shape_Hit.j2 k l (i : Int) true p.1 p.2 s.f0 s.f1 s.f2 s.f3 s.f4 s.f5 s.f6 s.f7 s.f8 s.f9 s.f10 s.f11) R := Ev.step (fun k => by rw [shape_Hit.j2, w1]) (Ev.pos rfl hR)
      refine Ev.step (fun k => by rw [shape_Hit.l0, hs]) ?_
      refine (Ev.pos (by omega) (Ev.pos (by omega) (Ev.pos (by omega) ?_)))
      by_cases h5 : s.f2 = 5
      · exact Ev.pos h5 j2t
      · refine Ev.neg h5 ?_
        rw [show (s.f2 == 6) = true from beq_iff_eq.2 (by omega)]
        exact j2t
    · rw [if_neg (by simp)] at hR
      have j1t : Ev (fun k => chanceryref3_HitShape.j1 k l hit l (l.length : Int) (i : Int) true p.1 p.2 s.f0 s.f1 s.f2 s.f3 s.f4 s.f5 s.f6 s.f7 s.f8 s.f9 s.f10 s.f11) R := Ev.step (fun k => by rw [chanceryref3_HitShape.j1, w2]) (Ev.pos rfl hR)
      refine Ev.step (fun k => by rw [chanceryref3_HitShape.l0, hs]) ?_
      refine (Ev.pos (by omega) (Ev.pos (by omega) (Ev.pos (by omega) ?_)))
      by_cases h5 : s.f2 = 5
      · exact Ev.pos h5 j1t
      · refine Ev.neg h5 ?_
        rw [show (s.f2 == 6) = true from beq_iff_eq.2 (by omega)]
        exact j1t
  obtain ⟨gs, q, r, hlen, ht, hloc, c1, c2⟩ := chainH l hl hv p i s hf (by
    rcases hfp with h | ⟨h, _⟩
    · exact .inl h
    · have e := idx_take s.f1 l i h
      have := idx_range s.f1 (l.take i)
      rw [List.length_take] at this
      exact .inr (by omega))
  have key : ∀ hit, ∃ b : Bool, _ := fun hit => inside_ok l s hf hit (l.length : Int) (i : Int) p r
  obtain ⟨b, hb, _⟩ := key 0
  have pj : ∀ R, Ev (fun k => shape_Hit.j2 k l (i : Int) false p.1 p.2 s.f0 s.f1 s.f2 s.f3 s.f4 s.f5 s.f6 s.f7 s.f8 s.f9 s.f10 s.f11) R → Ev (fun k => shape_Hit.l0 k l (i : Int) p.1 p.2) R := fun R hR => by
    refine Ev.step (fun k => by rw [shape_Hit.l0, hs]) ?_
    refine (Ev.pos (by omega) (Ev.pos (by omega) (Ev.pos (by omega) (Ev.neg (show ¬ s.f2 = 5 by omega) ?_))))
    rw [show (s.f2 == 6) = false from beq_eq_false_iff_ne.2 (by omega)]
    exact hR
  refine ⟨b, fun h => ?_, fun h R hR => ?_, fun hit R hR => ?_⟩
  · subst h
    exact pj _ (Ev.step (fun k => by rw [shape_Hit.j2]) (Ev.neg (by simp) (Ev.bind hloc (Ev.bind hb (Ev.pos rfl (Ev.now _))))))
  · subst h
    refine pj _ (Ev.step (fun k => by rw [shape_Hit.j2, w1]) ?_)
    exact Ev.neg (by simp) (Ev.bind hloc (Ev.bind hb (Ev.neg (show ¬ false = true by simp) hR)))
  · obtain ⟨b', hb', hR'⟩ := key hit
    obtain ⟨K, hK⟩ := hb
    obtain ⟨K', hK'⟩ := hb'
    have e := (hK (max K K') (by omega)).symm.trans (hK' (max K K') (by omega))
    injection e with e
    subst e
    refine Ev.step (fun k => by rw [chanceryref3_HitShape.l0, hs]) ?_
    refine (Ev.pos (by omega) (Ev.pos (by omega) (Ev.pos (by omega) (Ev.neg (show ¬ s.f2 = 5 by omega) ?_))))
    rw [show (s.f2 == 6) = false from beq_eq_false_iff_ne.2 (by omega)]
    refine Ev.step (fun k => by rw [chanceryref3_HitShape.j1]) ?_
    refine (Ev.neg (by simp) ?_)
    refine c1 [] hit (l.length : Int) (i : Int) s R (show 0 + i ≤ 100000 by omega) (c2 [] hit (l.length : Int) (i : Int) s R (show 0 + i ≤ 100000 by omega) ?_)
    rw [List.append_nil]
    refine Ev.step (fun k => by rw [chanceryref3_HitShape.l2]) ?_
    refine (Ev.neg (by omega) (Ev.bind0 rfl (Ev.bind0 ht ?_)))
    refine hR' R ?_
    rw [w2]
    exact hR
end Shapes
open Shapes
theorem shapedH : Ev (fun k => QSI.chancerylaw3_shaped.f k) true := Ev.of (fun k => QSI.chancerylaw3_shaped.mono k) (k := 40) (by decide +kernel)
theorem cutH (l : List S45) : ∃ t, QSI.chancerylaw3_cutShapes.f l = some t ∧ t.length ≤ 20 := by
  unfold QSI.chancerylaw3_cutShapes.f
  by_cases h : (l.length : Int) > 20
  · exact ⟨l.take 20, by rw [if_pos h, if_pos (by omega)], by rw [List.length_take]; omega⟩
  · exact ⟨l, by rw [if_neg h], by omega⟩
theorem ShapeHits (l0 : List S45) (px py : Int) : ∃ k, chancerylaw3_ShapeHits.f k l0 px py = some true := by
  obtain ⟨l, hc, hlen⟩ := cutH l0
  obtain ⟨e, h1, h2, h3⟩ := shapes_checks l
  suffices h : Ev (fun k => chancerylaw3_ShapeHits.f k l0 px py) true by
    obtain ⟨K, hK⟩ := h
    exact ⟨K, hK K (Nat.le_refl K)⟩
  refine Ev.congr (fun k => by rw [chancerylaw3_ShapeHits.f]) (Ev.bind shapedH (Ev.pos rfl (Ev.bind0 hc ?_)))
  by_cases h0 : e = 0
  · subst h0
    have hv := (h3 rfl).2
    have j0t : Ev (fun k => shape_Hit.j0 k l true px py) (0, 2) := Ev.step (fun k => by rw [shape_Hit.j0]) (Ev.pos rfl (Ev.now _))
    have bad : Ev (fun k => chancerylaw3_ShapeHits.j0 k l 0 2 0 true px py) true := by
      refine Ev.step (fun k => by rw [chancerylaw3_ShapeHits.j0]) ?_
      exact (Ev.pos rfl (Ev.neg (by decide) (Ev.pos rfl (Ev.ret rfl))))
    by_cases hx : -1048576 ≤ px ∧ px ≤ 1048576
    rotate_left
    · have hH : Ev (fun k => shape_Hit.f k l px py) (0, 2) := by
        refine Ev.congr (fun k => by rw [shape_Hit.f]) (Ev.bind h1 (Ev.pos rfl ?_))
        by_cases a : px < -1048576
        · exact Ev.pos a j0t
        · exact Ev.neg a (Ev.pos (show px > 1048576 by omega) j0t)
      refine Ev.bind hH (Ev.bind h2 (Ev.pos rfl (Ev.bind0 (in_ok _ _ _) ?_)))
      rw [decide_eq_false hx]
      exact Ev.neg (by simp) bad
    by_cases hy : -1048576 ≤ py ∧ py ≤ 1048576
    rotate_left
    · have hH : Ev (fun k => shape_Hit.f k l px py) (0, 2) := by
        refine Ev.congr (fun k => by rw [shape_Hit.f]) (Ev.bind h1 (Ev.pos rfl (Ev.neg (show ¬ px < -1048576 by omega) (Ev.neg (show ¬ px > 1048576 by omega) ?_))))
        by_cases a : py < -1048576
        · exact Ev.pos a j0t
        · refine Ev.neg a ?_
          rw [decide_eq_true (show py > 1048576 by omega)]
          exact j0t
      refine Ev.bind hH (Ev.bind h2 (Ev.pos rfl (Ev.bind0 (in_ok _ _ _) ?_)))
      rw [decide_eq_true hx]
      refine Ev.pos rfl (Ev.bind0 (in_ok _ _ _) ?_)
      rw [decide_eq_false hy]
      exact bad
    have scan : ∀ m : Nat, m ≤ l.length → ∃ r : Int, Ev (fun k => shape_Hit.l0 k l ((m : Int) - 1) px py) (r, 0) ∧ ∀ R, Ev (fun k => chanceryref3_HitShape.l0 k l r l (l.length : Int) (m : Int) px py) R → Ev (fun k => chanceryref3_HitShape.l0 k l 0 l (l.length : Int) 0 px py) R := by
      intro m
      induction m with
      | zero => exact fun _ => ⟨0, Ev.step (fun k => by rw [shape_Hit.l0]) (Ev.neg (by omega) (Ev.now _)), fun R hR => hR⟩
      | succ m ih =>
        intro hm
        obtain ⟨r, r1, r2⟩ := ih (by omega)
        obtain ⟨b, b1, b2, b3⟩ := hit_one l (by omega) hv (px, py) m (by omega)
        rw [show ((m + 1 : Nat) : Int) - 1 = (m : Int) by omega, show ((m + 1 : Nat) : Int) = (m : Int) + 1 by omega]
        cases b
        · exact ⟨r, b2 rfl _ r1, fun R hR => r2 R (b3 r R hR)⟩
        · exact ⟨(rd_T45 l m).f0, b1 rfl, fun R hR => r2 R (b3 r R hR)⟩
    obtain ⟨r, r1, r2⟩ := scan l.length (Nat.le_refl _)
    have hH : Ev (fun k => shape_Hit.f k l px py) (r, 0) := by
      refine Ev.congr (fun k => by rw [shape_Hit.f]) (Ev.bind h1 (Ev.pos rfl (Ev.neg (show ¬ px < -1048576 by omega) (Ev.neg (show ¬ px > 1048576 by omega) (Ev.neg (show ¬ py < -1048576 by omega) ?_)))))
      rw [decide_eq_false (show ¬ py > 1048576 by omega)]
      refine Ev.step (fun k => by rw [shape_Hit.j0, w64 (n := (l.length : Int) - 1) (by omega) (by omega)]) ?_
      refine (Ev.neg (by simp) r1)
    have hR : Ev (fun k => chanceryref3_HitShape.f k l px py) r := by
      unfold chanceryref3_HitShape.f
      exact r2 r (Ev.step (fun k => by rw [chanceryref3_HitShape.l0]) (Ev.neg (by omega) (Ev.now _)))
    refine Ev.bind hH (Ev.bind h2 (Ev.pos rfl (Ev.bind0 (in_ok _ _ _) ?_)))
    rw [decide_eq_true hx]
    refine Ev.pos rfl (Ev.bind0 (in_ok _ _ _) ?_)
    rw [decide_eq_true hy]
    refine Ev.step (fun k => by rw [chancerylaw3_ShapeHits.j0]) ?_
    exact (Ev.neg (by simp) (Ev.pos rfl (Ev.pos rfl (Ev.bind hR (Ev.ret (by simp))))))
  · have hH : Ev (fun k => shape_Hit.f k l px py) (0, e) := Ev.congr (fun k => by rw [shape_Hit.f]) (Ev.bind h1 (Ev.neg h0 (Ev.now _)))
    refine Ev.bind hH (Ev.bind h2 (Ev.neg h0 ?_))
    refine Ev.step (fun k => by rw [chancerylaw3_ShapeHits.j0]) ?_
    exact (Ev.neg (by simp) (Ev.neg h0 (Ev.pos rfl (Ev.ret rfl))))
end Go.Proofs.YtmheeekbbhkmkaaDoor.Pure
