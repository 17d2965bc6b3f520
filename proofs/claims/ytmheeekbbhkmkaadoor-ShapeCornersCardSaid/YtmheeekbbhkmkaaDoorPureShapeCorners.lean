import Derived.Test.YtmheeekbbhkmkaaDoorPureShapeChecks
import Derived.Test.YtmheeekbbhkmkaaDoorQSCx5
namespace Go.Proofs.YtmheeekbbhkmkaaDoor.Pure
open Go.RowKit Go.Proofs.YtmheeekbbhkmkaaDoor.QSH Go.Proofs.YtmheeekbbhkmkaaDoor.HandSH Go.Proofs.YtmheeekbbhkmkaaDoor.QSC Go.Proofs.YtmheeekbbhkmkaaDoorW.PrintWords Go.Proofs.YtmheeekbbhkmkaaDoorW.PrintLast Go.Proofs.YtmheeekbbhkmkaaDoorW.PrintMore Go.Proofs.YtmheeekbbhkmkaaDoor.Lib
set_option linter.unusedVariables false
set_option linter.unusedSimpArgs false
namespace Shapes
theorem round_near (a b : Int) (h0 : 0 < b) (h1 : b ≤ 1099511627776) : shape_round.f a b = chanceryref3_Near.f a b := by
  unfold shape_round.f chanceryref3_Near.f chanceryref3_Down.f
  rw [w64 (n := b * 2) (by omega) (by omega), w64 (n := 2 * b) (by omega) (by omega), Int.mul_comm b 2]
  obtain ⟨A, hA⟩ : ∃ A, wrap64 (wrap64 (2 * a) + b) = A := ⟨_, rfl⟩
  have hA1 : -9223372036854775808 ≤ A ∧ A ≤ 9223372036854775807 := by rw [← hA]; unfold wrap64; omega
  rw [hA]
  obtain ⟨B, hB⟩ : ∃ B, 2 * b = B := ⟨_, rfl⟩
  have hB0 : 2 ≤ B := by omega
  rw [hB]
  have hBz : ¬ B = 0 := by omega
  rw [if_neg hBz, if_neg hBz]
  have hq : Int.tdiv A B = if A < 0 ∧ A % B ≠ 0 then A / B + 1 else A / B := tdiv_down A B (by omega)
  have hm : Int.tmod A B = if A < 0 ∧ A % B ≠ 0 then A % B - B else A % B := tmod_down A B (by omega)
  have hd := Int.emod_add_mul_ediv A B
  have hm0 := Int.emod_nonneg A (show B ≠ 0 by omega)
  have hm1 := Int.emod_lt_of_pos A (show 0 < B by omega)
  have hqb : -9223372036854775808 ≤ Int.tdiv A B ∧ Int.tdiv A B ≤ 9223372036854775807 := by
    have e1 : -9223372036854775808 ≤ A / B := Int.le_ediv_of_mul_le (by omega) (by omega)
    have e2 : A / B ≤ 9223372036854775807 := by
      by_cases h : 0 ≤ A
      · exact Int.le_trans (Int.ediv_le_self B h) hA1.2
      · have : A / B < 0 := Int.ediv_neg_of_neg_of_pos (by omega) (by omega)
        omega
    rw [hq]
    split
    · rename_i h
      have : A / B < 0 := Int.ediv_neg_of_neg_of_pos h.1 (by omega)
      omega
    · omega
  rw [w64 (n := Int.tdiv A B) hqb.1 hqb.2]
  have hprod : Int.tdiv A B * B = A - Int.tmod A B := by
    rw [hq, hm]
    have hc := Int.mul_comm B (A / B)
    split
    · rw [Int.add_mul]; omega
    · omega
  rw [hprod]
  have hs : (wrap64 (A - Int.tmod A B) > A) ↔ Int.tmod A B < 0 := by
    have hz : -9223372036854775808 ≤ A - Int.tmod A B ∧ A - Int.tmod A B ≤ 9223372036854775807 := by
      rw [hm]
      split
      · rename_i h
        by_cases hb : A / B + 1 ≤ 0
        · have : A - (A % B - B) = B * (A / B + 1) := by rw [Int.mul_add]; omega
          have h2 : B * (A / B + 1) ≤ 0 := Int.mul_nonpos_of_nonneg_of_nonpos (by omega) hb
          omega
        · have : A / B < 0 := Int.ediv_neg_of_neg_of_pos h.1 (by omega)
          omega
      · rename_i h
        by_cases hn : A < 0
        · have : A % B = 0 := by
            by_cases hz : A % B = 0
            · exact hz
            · exact absurd ⟨hn, hz⟩ h
          omega
        · have : 0 ≤ B * (A / B) := Int.mul_nonneg (by omega) (Int.ediv_nonneg (by omega) (by omega))
          omega
    rw [w64 hz.1 hz.2]
    omega
  by_cases h : Int.tmod A B < 0
  · rw [if_pos h, if_pos (hs.2 h)]; rfl
  · rw [if_neg h, if_neg (fun k => h (hs.1 k))]; rfl
theorem turn_eq (x y cx cy t : Int) : shape_turned.f x y cx cy t = chanceryref3_TurnPoint.f x y cx cy t := by
  unfold shape_turned.f chanceryref3_TurnPoint.f
  rw [show shape_sine.f = chanceryref3_Sine.f from rfl, Int.mul_comm cx 65536, Int.mul_comm cy 65536]
  refine congrArg _ (funext fun s => congrArg _ (funext fun c => ?_))
  rw [round_near _ 131072 (by decide) (by decide), round_near _ 131072 (by decide) (by decide)]
theorem near_some (a : Int) : ∃ r, chanceryref3_Near.f a 131072 = some r := by
  unfold chanceryref3_Near.f chanceryref3_Down.f
  rw [w64 (n := 2 * 131072) (by omega) (by omega), if_neg (by decide)]
  split
  · exact ⟨_, rfl⟩
  · exact ⟨_, rfl⟩
theorem turn_some (x y cx cy t : Int) (h0 : -3600 ≤ t) (h1 : t ≤ 3600) : ∃ r, chanceryref3_TurnPoint.f x y cx cy t = some r := by
  unfold chanceryref3_TurnPoint.f chanceryref3_Sine.f
  rw [w64 (n := t + 900) (by omega) (by omega), if_pos (show near t from ⟨by omega, by omega⟩), if_pos (show near (t + 900) from ⟨by omega, by omega⟩)]
  simp only [Option.bind_some]
  obtain ⟨r1, e1⟩ := near_some (wrap64 (wrap64 (wrap64 (65536 * cx) + wrap64 (wrap64 (wrap64 (2 * x) - cx) * sinE (t + 900))) - wrap64 (wrap64 (wrap64 (2 * y) - cy) * sinE t)))
  obtain ⟨r2, e2⟩ := near_some (wrap64 (wrap64 (wrap64 (65536 * cy) + wrap64 (wrap64 (wrap64 (2 * x) - cx) * sinE t)) + wrap64 (wrap64 (wrap64 (2 * y) - cy) * sinE (t + 900))))
  exact ⟨(r1, r2), by rw [e1, Option.bind_some, e2]; rfl⟩
theorem rd37_set (xs : List S37) (i : Int) (h0 : 0 ≤ i) (h : i < xs.length) (v : S37) : rd_T37 (xs.set i.toNat v) i = v := by
  unfold rd_T37; rw [List.getD_eq_getElem?_getD, List.getElem?_set_self (by omega)]; rfl
theorem set37_same (xs : List S37) (i : Int) (h0 : 0 ≤ i) (h : i < xs.length) (v : S37) (hv : rd_T37 xs i = v) : xs.set i.toNat v = xs := by
  subst hv
  unfold rd_T37
  rw [List.getD_eq_getElem?_getD, List.getElem?_eq_getElem (by omega)]
  exact List.set_getElem_self (by omega)
theorem chain (l : List S45) (hl : l.length ≤ 1000) (hv : ∀ i : Nat, i < l.length → fitsAt l i) (x : S45) (n : Int) : ∀ (d : Nat) (g : Int), (g = 0 ∨ (0 ≤ idx g l 0 ∧ idx g l 0 < d)) → ∀ (p q : Int), ∃ X Y : Int,
    Ev (fun k => shape_out.l0 k l g p q) (X, Y) ∧
    ∀ (xs : List S37) (i : Int) (R : List S37), 0 ≤ i → i < xs.length → rd_T37 xs i = ⟨p, q⟩ → Ev (fun k => chanceryref3_CornersOf.l0 k l (xs.set i.toNat ⟨X, Y⟩) n (wrap64 (i + 1)) x.f0 x.f1 x.f2 x.f3 x.f4 x.f5 x.f6 x.f7 x.f8 x.f9 x.f10 x.f11) R →
      Ev (fun k => chanceryref3_CornersOf.l1 k l xs i g n i x.f0 x.f1 x.f2 x.f3 x.f4 x.f5 x.f6 x.f7 x.f8 x.f9 x.f10 x.f11) R := by
  intro d
  induction d with
  | zero =>
    intro g hg p q
    obtain rfl : g = 0 := hg.resolve_right (by omega)
    refine ⟨p, q, Ev.step (fun k => by rw [shape_out.l0]) (Ev.pos rfl (Ev.now _)), fun xs i R h0 h1 hr hR => ?_⟩
    rw [set37_same xs i h0 h1 _ hr] at hR
    refine Ev.step (fun k => by rw [chanceryref3_CornersOf.l1]) ?_
    exact (Ev.pos rfl hR)
  | succ d ih =>
    intro g hg p q
    by_cases g0 : g = 0
    · subst g0
      refine ⟨p, q, Ev.step (fun k => by rw [shape_out.l0]) (Ev.pos rfl (Ev.now _)), fun xs i R h0 h1 hr hR => ?_⟩
      rw [set37_same xs i h0 h1 _ hr] at hR
      refine Ev.step (fun k => by rw [chanceryref3_CornersOf.l1]) ?_
      exact (Ev.pos rfl hR)
    have hg := hg.resolve_left g0
    have hr := idx_range g l
    have hfind : shape_find.f l g = some (idx g l 0) := find_ok _ _ (by omega)
    have hat : Ev (fun k => chanceryref3_ShapeAt.f k l g) (idx g l 0) := shapeAt_ok _ _ (by omega)
    obtain ⟨j, hj⟩ : ∃ j, idx g l 0 = j := ⟨_, rfl⟩
    rw [hj] at hg hr hfind hat
    have hjl : 0 ≤ j ∧ j < (l.length : Int) := by omega
    have hf := hv j.toNat (by omega)
    unfold fitsAt at hf
    rw [show ((j.toNat : Nat) : Int) = j by omega] at hf
    obtain ⟨s, hs⟩ : ∃ s, rd_T45 l j = s := ⟨_, rfl⟩
    rw [hs] at hf
    obtain ⟨hf0, hfp⟩ := hf
    have hfz := fieldErr_zero hf0
    obtain ⟨⟨p', q'⟩, ht⟩ := turn_some (wrap64 (p + s.f3)) (wrap64 (q + s.f4)) (wrap64 (wrap64 (2 * s.f3) + s.f5)) (wrap64 (wrap64 (2 * s.f4) + s.f6)) s.f7 (by omega) (by omega)
    obtain ⟨X, Y, r1, r2⟩ := ih s.f1 (by
      rcases hfp with h | ⟨h, _⟩
      · exact .inl h
      · have e := idx_take s.f1 l j.toNat h
        have := idx_range s.f1 (l.take j.toNat)
        rw [List.length_take] at this
        exact .inr (by omega)) p' q'
    refine ⟨X, Y, Ev.step (fun k => by rw [shape_out.l0]) (Ev.neg g0 (Ev.bind0 hfind (Ev.pos hjl.1 (Ev.pos hjl.2 ?_)))), fun xs i R h0 h1 hr hR => ?_⟩
    · rw [hs]
      exact Ev.bind0 ((turn_eq _ _ _ _ _).trans ht) r1
    · refine Ev.step (fun k => by rw [chanceryref3_CornersOf.l1]) ?_
      refine (Ev.neg g0 (Ev.bind hat (Ev.pos hjl.1 (Ev.pos hjl.2 (Ev.pos h0 (Ev.pos h1 ?_))))))
      rw [hs, hr]
      refine Ev.bind0 rfl (Ev.bind0 ht ?_)
      refine r2 _ i R h0 (by rw [List.length_set]; exact h1) (rd37_set xs i h0 h1 _) ?_
      rw [List.set_set]
      exact hR
theorem corner_ok (l : List S45) (hl : l.length ≤ 1000) (hv : ∀ i : Nat, i < l.length → fitsAt l i) (m : Nat) (hm : m < l.length) (x : S45) (hx : rd_T45 l m = x) (px py : Int) : ∃ X Y : Int,
    Ev (fun k => cornerF k l x px py) (X, Y) ∧
    ∀ (xs : List S37) (n i : Int) (R : List S37), 0 ≤ i → i < n → i < xs.length → i < 1000 → rd_T37 xs i = ⟨px, py⟩ → Ev (fun k => chanceryref3_CornersOf.l0 k l (xs.set i.toNat ⟨X, Y⟩) n (i + 1) x.f0 x.f1 x.f2 x.f3 x.f4 x.f5 x.f6 x.f7 x.f8 x.f9 x.f10 x.f11) R →
      Ev (fun k => chanceryref3_CornersOf.l0 k l xs n i x.f0 x.f1 x.f2 x.f3 x.f4 x.f5 x.f6 x.f7 x.f8 x.f9 x.f10 x.f11) R := by
  have hf := hv m hm
  unfold fitsAt at hf
  rw [hx] at hf
  obtain ⟨hf0, hfp⟩ := hf
  have hfz := fieldErr_zero hf0
  obtain ⟨⟨p', q'⟩, ht⟩ := turn_some px py (wrap64 (wrap64 (2 * x.f3) + x.f5)) (wrap64 (wrap64 (2 * x.f4) + x.f6)) x.f7 (by omega) (by omega)
  have hg : x.f1 = 0 ∨ (0 ≤ idx x.f1 l 0 ∧ idx x.f1 l 0 < (m : Nat)) := by
    rcases hfp with h | ⟨h, _⟩
    · exact .inl h
    · have e := idx_take x.f1 l m h
      have := idx_range x.f1 (l.take m)
      rw [List.length_take] at this
      exact .inr (by omega)
  have key : ∀ n : Int, ∃ X Y : Int, Ev (fun k => shape_out.l0 k l x.f1 p' q') (X, Y) ∧ _ := fun n => chain l hl hv x n m x.f1 hg p' q'
  obtain ⟨X, Y, r1, _⟩ := key 0
  refine ⟨X, Y, ?_, fun xs n i R h0 h1 h2 h3 hr hR => ?_⟩
  · exact Ev.congr (fun k => by rw [cornerF]) (Ev.bind0 ((turn_eq _ _ _ _ _).trans ht) r1)
  · obtain ⟨X', Y', r1', r2⟩ := key n
    obtain ⟨K, hK⟩ := r1
    obtain ⟨K', hK'⟩ := r1'
    have e := (hK (max K K') (by omega)).symm.trans (hK' (max K K') (by omega))
    injection e with e
    injection e with e1 e2
    subst e1 e2
    refine Ev.step (fun k => by rw [chanceryref3_CornersOf.l0]) ?_
    refine (Ev.pos h1 (Ev.pos h0 (Ev.pos h2 ?_)))
    rw [hr]
    refine Ev.bind0 rfl (Ev.bind0 ht ?_)
    refine r2 _ i R h0 (by rw [List.length_set]; exact h2) (rd37_set xs i h0 h2 _) ?_
    rw [List.set_set, w64 (n := i + 1) (by omega) (by omega)]
    exact hR
theorem corners_both (l : List S45) (hl : l.length ≤ 1000) (hv : ∀ i : Nat, i < l.length → fitsAt l i) (m : Nat) (hm : m < l.length) : ∃ c : List S37, c.length = 4 ∧
    Ev (fun k => corners4 k l (rd_T45 l m)) c ∧ Ev (fun k => chanceryref3_CornersOf.f k l (m : Int)) c := by
  obtain ⟨x, hx⟩ : ∃ x, rd_T45 l m = x := ⟨_, rfl⟩
  obtain ⟨X0, Y0, a0, b0⟩ := corner_ok l hl hv m hm x hx x.f3 x.f4
  obtain ⟨X1, Y1, a1, b1⟩ := corner_ok l hl hv m hm x hx (wrap64 (x.f3 + x.f5)) x.f4
  obtain ⟨X2, Y2, a2, b2⟩ := corner_ok l hl hv m hm x hx (wrap64 (x.f3 + x.f5)) (wrap64 (x.f4 + x.f6))
  obtain ⟨X3, Y3, a3, b3⟩ := corner_ok l hl hv m hm x hx x.f3 (wrap64 (x.f4 + x.f6))
  refine ⟨[⟨X0, Y0⟩, ⟨X1, Y1⟩, ⟨X2, Y2⟩, ⟨X3, Y3⟩], rfl, ?_, ?_⟩
  · rw [hx]
    refine Ev.congr (fun k => by rw [corners4]) ?_
    refine Ev.bind a0 ?_
    refine Ev.bind a1 ?_
    refine Ev.bind a2 ?_
    refine Ev.bind a3 ?_
    exact Ev.now _
  · refine Ev.congr (fun k => by rw [chanceryref3_CornersOf.f, hx]) (Ev.pos (by omega) (Ev.pos (by omega) (Ev.bind0 rfl ?_)))
    refine b0 [⟨x.f3, x.f4⟩, ⟨wrap64 (x.f3 + x.f5), x.f4⟩, ⟨wrap64 (x.f3 + x.f5), wrap64 (x.f4 + x.f6)⟩, ⟨x.f3, wrap64 (x.f4 + x.f6)⟩] 4 0 _ (by omega) (by omega) (by simp) (by omega) rfl ?_
    refine b1 [⟨X0, Y0⟩, ⟨wrap64 (x.f3 + x.f5), x.f4⟩, ⟨wrap64 (x.f3 + x.f5), wrap64 (x.f4 + x.f6)⟩, ⟨x.f3, wrap64 (x.f4 + x.f6)⟩] 4 1 _ (by omega) (by omega) (by simp) (by omega) rfl ?_
    refine b2 [⟨X0, Y0⟩, ⟨X1, Y1⟩, ⟨wrap64 (x.f3 + x.f5), wrap64 (x.f4 + x.f6)⟩, ⟨x.f3, wrap64 (x.f4 + x.f6)⟩] 4 2 _ (by omega) (by omega) (by simp) (by omega) rfl ?_
    refine b3 [⟨X0, Y0⟩, ⟨X1, Y1⟩, ⟨X2, Y2⟩, ⟨x.f3, wrap64 (x.f4 + x.f6)⟩] 4 3 _ (by omega) (by omega) (by simp) (by omega) rfl ?_
    refine Ev.step (fun k => by rw [chanceryref3_CornersOf.l0]) ?_
    exact (Ev.neg (by omega) (Ev.now _))
theorem bounds_both (xs : List S37) (hx : xs.length ≤ 1000) : ∀ (d : Nat) (i : Int), 0 ≤ i → i + d = xs.length → ∀ a b c e : Int, ∃ r1 r2 r3 r4 : Int,
    Ev (fun k => shape_Bounds.l0 k xs (xs.length : Int) i a b c e) (r1, r2, r3, r4, 0) ∧
    ∀ z1 z2 z3 z4 : Int, Ev (fun k => chancerylaw3_ShapeCorners.l0 k xs xs (xs.length : Int) i z1 z2 z3 z4 a b c e) (z1 == r1 && (z2 == r2 && (z3 == r3 && (z4 == r4)))) := by
  intro d
  induction d with
  | zero =>
    intro i h0 h a b c e
    exact ⟨a, b, c, e, Ev.step (fun k => by rw [shape_Bounds.l0]) (Ev.neg (by omega) (Ev.now _)), fun z1 z2 z3 z4 => Ev.step (fun k => by rw [chancerylaw3_ShapeCorners.l0]) (Ev.neg (by omega) (Ev.now _))⟩
  | succ d ih =>
    intro i h0 h a b c e
    obtain ⟨r1, r2, r3, r4, h1, h2⟩ := ih (i + 1) (by omega) (by omega) (mn a (rd_T37 xs i).f0) (mn b (rd_T37 xs i).f1) (mx c (rd_T37 xs i).f0) (mx e (rd_T37 xs i).f1)
    refine ⟨r1, r2, r3, r4, ?_, fun z1 z2 z3 z4 => ?_⟩
    · refine Ev.step (fun k => by rw [shape_Bounds.l0, w64 (n := i + 1) (by omega) (by omega)]) ?_
      refine (Ev.pos (by omega) (Ev.pos h0 (Ev.pos (by omega) h1)))
    · refine Ev.step (fun k => by rw [chancerylaw3_ShapeCorners.l0, w64 (n := i + 1) (by omega) (by omega)]) ?_
      refine (Ev.pos (by omega) (Ev.pos h0 (Ev.pos (by omega) (Ev.pos (by omega) (Ev.neg (by simp) (h2 z1 z2 z3 z4))))))
end Shapes
open Shapes
theorem shapedC : Ev (fun k => QSC.chancerylaw3_shaped.f k) true := Ev.of (fun k => QSC.chancerylaw3_shaped.mono k) (k := 40) (by decide +kernel)
theorem cutC (l : List S45) : ∃ t, QSC.chancerylaw3_cutShapes.f l = some t ∧ t.length ≤ 20 := by
  unfold QSC.chancerylaw3_cutShapes.f
  by_cases h : (l.length : Int) > 20
  · exact ⟨l.take 20, by rw [if_pos h, if_pos (by omega)], by rw [List.length_take]; omega⟩
  · exact ⟨l, by rw [if_neg h], by omega⟩
theorem ShapeCorners (l0 : List S45) (item : Int) : ∃ k, chancerylaw3_ShapeCorners.f k l0 item = some true := by
  obtain ⟨l, hc, hlen⟩ := cutC l0
  obtain ⟨e, h1, h2, h3⟩ := shapes_checks l
  suffices h : Ev (fun k => chancerylaw3_ShapeCorners.f k l0 item) true by
    obtain ⟨K, hK⟩ := h
    exact ⟨K, hK K (Nat.le_refl K)⟩
  have hat : Ev (fun k => chanceryref3_ShapeAt.f k l item) (idx item l 0) := shapeAt_ok _ _ (by omega)
  have hfind : shape_find.f l item = some (idx item l 0) := find_ok _ _ (by omega)
  have hr := idx_range item l
  refine Ev.congr (fun k => by rw [chancerylaw3_ShapeCorners.f]) (Ev.bind shapedC (Ev.pos rfl (Ev.bind0 hc ?_)))
  by_cases h0 : e = 0
  · subst h0
    have hv := (h3 rfl).2
    by_cases hi : idx item l 0 < 0
    · have hC : Ev (fun k => shape_Corners.f k l item) ([], 7) := Ev.congr (fun k => by rw [shape_Corners.f]) (Ev.bind h1 (Ev.pos rfl (Ev.bind0 hfind (Ev.pos hi (Ev.now _)))))
      have hB : Ev (fun k => shape_Bounds.f k l item) (0, 0, 0, 0, 7) := Ev.congr (fun k => by rw [shape_Bounds.f]) (Ev.bind hC (Ev.neg (show ¬ (7 : Int) = 0 by decide) (Ev.now _)))
      refine Ev.bind hC (Ev.bind hB (Ev.bind h2 (Ev.bind h1 (Ev.pos rfl (Ev.bind hat (Ev.pos rfl ?_))))))
      rw [decide_eq_true hi]
      refine Ev.step (fun k => by rw [chancerylaw3_ShapeCorners.j0]) ?_
      refine (Ev.pos rfl (Ev.step (fun k => by rw [chancerylaw3_ShapeCorners.j1]) ?_))
      exact Ev.neg (show ¬ (7 : Int) = 0 by decide) (Ev.pos rfl (Ev.pos rfl (Ev.pos rfl (Ev.ret rfl))))
    · obtain ⟨m, hm⟩ : ∃ m : Nat, idx item l 0 = m := ⟨(idx item l 0).toNat, by omega⟩
      rw [hm] at hat hfind hi hr
      obtain ⟨c, hc4, r1, r2⟩ := corners_both l (by omega) hv m (by omega)
      have hC : Ev (fun k => shape_Corners.f k l item) (c, 0) := by
        refine Ev.congr (fun k => by rw [shape_Corners.f]) ?_
        refine Ev.bind h1 (Ev.pos rfl (Ev.bind0 hfind (Ev.neg hi ?_)))
        refine Ev.pos (show (m : Int) < (l.length : Int) by omega) ?_
        refine Ev.bind r1 ?_
        exact Ev.now _
      obtain ⟨b1, b2, b3, b4, s1, s2⟩ := bounds_both c (by omega) c.length 0 (by omega) (by omega) (rd_T37 c 0).f0 (rd_T37 c 0).f1 (rd_T37 c 0).f0 (rd_T37 c 0).f1
      have hB : Ev (fun k => shape_Bounds.f k l item) (b1, b2, b3, b4, 0) := Ev.congr (fun k => by rw [shape_Bounds.f]) (Ev.bind hC (Ev.pos rfl (Ev.pos (show (0 : Int) < (c.length : Int) by omega) s1)))
      refine Ev.bind hC (Ev.bind hB (Ev.bind h2 (Ev.bind h1 (Ev.pos rfl (Ev.bind hat (Ev.pos rfl ?_))))))
      rw [decide_eq_false hi]
      refine Ev.step (fun k => by rw [chancerylaw3_ShapeCorners.j0]) ?_
      refine (Ev.neg (by simp) (Ev.step (fun k => by rw [chancerylaw3_ShapeCorners.j1]) (Ev.pos rfl (Ev.bind r2 (Ev.pos rfl (Ev.pos rfl ?_))))))
      refine Ev.step (fun k => by rw [chancerylaw3_ShapeCorners.j2]) ?_
      refine (Ev.neg (by simp [hc4]) (Ev.pos (by omega) (Ev.out (s2 b1 b2 b3 b4) (by simp))))
  · have hC : Ev (fun k => shape_Corners.f k l item) ([], e) := Ev.congr (fun k => by rw [shape_Corners.f]) (Ev.bind h1 (Ev.neg h0 (Ev.now _)))
    have hB : Ev (fun k => shape_Bounds.f k l item) (0, 0, 0, 0, e) := Ev.congr (fun k => by rw [shape_Bounds.f]) (Ev.bind hC (Ev.neg h0 (Ev.now _)))
    refine Ev.bind hC (Ev.bind hB (Ev.bind h2 (Ev.bind h1 (Ev.pos rfl (Ev.bind hat (Ev.neg h0 ?_))))))
    refine Ev.step (fun k => by rw [chancerylaw3_ShapeCorners.j0]) ?_
    refine (Ev.neg (by simp) (Ev.step (fun k => by rw [chancerylaw3_ShapeCorners.j1]) ?_))
    exact Ev.neg h0 (Ev.pos rfl (Ev.pos rfl (Ev.pos rfl (Ev.ret rfl))))
end Go.Proofs.YtmheeekbbhkmkaaDoor.Pure
