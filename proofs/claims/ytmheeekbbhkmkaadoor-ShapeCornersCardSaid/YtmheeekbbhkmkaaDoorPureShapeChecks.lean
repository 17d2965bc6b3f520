import Derived.Test.YtmheeekbbhkmkaaDoorQSHx2
import Derived.Test.YtmheeekbbhkmkaaDoorHandSHd
import Derived.Test.YtmheeekbbhkmkaaDoorLib
namespace Go.Proofs.YtmheeekbbhkmkaaDoor.Pure
open Go.RowKit Go.Proofs.YtmheeekbbhkmkaaDoor.QSH Go.Proofs.YtmheeekbbhkmkaaDoor.HandSH Go.Proofs.YtmheeekbbhkmkaaDoorW.PrintWords Go.Proofs.YtmheeekbbhkmkaaDoorW.PrintLast Go.Proofs.YtmheeekbbhkmkaaDoorW.PrintMore Go.Proofs.YtmheeekbbhkmkaaDoor.Lib
set_option linter.unusedVariables false
set_option linter.unusedSimpArgs false
namespace Shapes
theorem in_ok (a b c : Int) : chanceryref3_In.f a b c = some (decide (b ≤ a ∧ a ≤ c)) := by
  unfold chanceryref3_In.f
  by_cases h : a ≥ b
  · rw [if_pos h]; congr 1; simp; omega
  · rw [if_neg h]; congr 1; simp; omega
theorem rd_at (l : List S45) (i : Nat) (h : i < l.length) : rd_T45 l (i : Int) = l[i] := by
  unfold rd_T45; rw [List.getD_eq_getElem?_getD, Int.toNat_natCast, List.getElem?_eq_getElem h]; rfl
theorem rd_take (l : List S45) (m : Nat) (i : Int) (h0 : 0 ≤ i) (h : i < m) (hm : m ≤ l.length) : rd_T45 (l.take m) i = rd_T45 l i := by
  unfold rd_T45
  rw [List.getD_eq_getElem?_getD, List.getD_eq_getElem?_getD, List.getElem?_take_of_lt (by omega)]
theorem idx_lt (n : Int) : ∀ (l : List S45) (i : Int), idx n l i < i + l.length ∨ idx n l i = -1
  | [], _ => .inr rfl
  | x :: l, i => by
    rw [idx]
    split
    · left; simp; omega
    · rcases idx_lt n l (i + 1) with h | h
      · left; simp; omega
      · exact .inr h
theorem idx_range (n : Int) (l : List S45) : idx n l 0 = -1 ∨ (0 ≤ idx n l 0 ∧ idx n l 0 < l.length) := by
  rcases idx_below n l 0 (by omega) with h | h
  · exact .inl h
  · rcases idx_lt n l 0 with k | k
    · exact .inr ⟨h, by omega⟩
    · omega
theorem idx_append (n : Int) : ∀ (l m : List S45) (i : Int), 0 ≤ i → 0 ≤ idx n l i → idx n (l ++ m) i = idx n l i
  | [], _, _, _, h => by rw [idx] at h; omega
  | x :: l, m, i, hi, h => by
    rw [List.cons_append, idx, idx]
    rw [idx] at h
    split
    · rfl
    · rename_i hx
      rw [if_neg hx] at h
      exact idx_append n l m (i + 1) (by omega) h
theorem idx_take (n : Int) (l : List S45) (m : Nat) (h : 0 ≤ idx n (l.take m) 0) : idx n l 0 = idx n (l.take m) 0 := by
  have := idx_append n (l.take m) (l.drop m) 0 (by omega) h
  rw [List.take_append_drop] at this
  exact this
theorem idx_item (n : Int) : ∀ (l : List S45) (i : Int), 0 ≤ i → 0 ≤ idx n l i → ∃ m : Nat, idx n l i = i + m ∧ ∃ h : m < l.length, l[m].f0 = n
  | [], _, _, h => by rw [idx] at h; omega
  | x :: l, i, hi, h => by
    rw [idx] at h ⊢
    split
    · rename_i hx; exact ⟨0, by omega, by simp, hx⟩
    · rename_i hx
      rw [if_neg hx] at h
      obtain ⟨m, h1, h2, h3⟩ := idx_item n l (i + 1) (by omega) h
      exact ⟨m + 1, by omega, by simp; omega, by simpa using h3⟩
theorem shapeAt_ok (l : List S45) (n : Int) (hl : l.length ≤ 1000000) : Ev (fun k => chanceryref3_ShapeAt.f k l n) (idx n l 0) := by
  suffices h : ∀ (d : Nat) (i : Nat), i + d = l.length → Ev (fun k => chanceryref3_ShapeAt.l0 k n l (l.length : Int) (i : Int)) (idx n (l.drop i) i) from h l.length 0 (by omega)
  intro d
  induction d with
  | zero =>
    intro i h
    refine Ev.step (fun k => by rw [chanceryref3_ShapeAt.l0]) (Ev.neg (by omega) (Ev.ret ?_))
    rw [List.drop_eq_nil_of_le (by omega)]; rfl
  | succ d ih =>
    intro i h
    rw [idx_drop n l i (by omega)]
    refine Ev.step (fun k => by rw [chanceryref3_ShapeAt.l0]) (Ev.pos (by omega) (Ev.pos (by omega) (Ev.pos (by omega) ?_)))
    by_cases e : (rd_T45 l (i : Int)).f0 = n
    · rw [if_pos e]; exact Ev.pos e (Ev.now _)
    · rw [if_neg e]
      refine Ev.neg e ?_
      rw [w64 (n := (i : Int) + 1) (by omega) (by omega)]
      exact ih (i + 1) (by omega)
theorem find_ok (l : List S45) (n : Int) (hl : l.length ≤ 1000000) : shape_find.f l n = some (idx n l 0) := if_pos hl
def fitsAt (l : List S45) (i : Nat) : Prop := fieldErr (rd_T45 l i) = 0 ∧ ((rd_T45 l i).f1 = 0 ∨ (0 ≤ idx (rd_T45 l i).f1 (l.take i) 0 ∧ (rd_T45 l (idx (rd_T45 l i).f1 (l.take i) 0)).f2 = 5))
theorem parents_ok (l : List S45) (i : Nat) (hi : i ≤ l.length) (hl : l.length ≤ 1000) (x11 : List S45) (x12 x13 : Int) : ∀ (d : Nat) (n : Int), n + d = 20 → 1 ≤ n → ∀ (x : S45), ∃ e : Int,
    Ev (fun k => shape_parents.l0 k (l.take i) n x.f0 x.f1 x.f2 x.f3 x.f4 x.f5 x.f6 x.f7 x.f8 x.f9 x.f10 x.f11) e ∧
    (e = 0 → (∀ R, Ev (fun k => chanceryref3_ShapesError.l0 k l x11 x12 (wrap64 (x13 + 1))) R → Ev (fun k => chanceryref3_ShapesError.l1 k l (i : Int) x.f1 n x11 x12 x13) R) ∧ (x.f1 = 0 ∨ (0 ≤ idx x.f1 (l.take i) 0 ∧ (rd_T45 l (idx x.f1 (l.take i) 0)).f2 = 5))) ∧
    (e ≠ 0 → Ev (fun k => chanceryref3_ShapesError.l1 k l (i : Int) x.f1 n x11 x12 x13) e) := by
  have htl : (l.take i).length = i := by rw [List.length_take]; omega
  intro d
  induction d with
  | zero =>
    intro n hn h1 x
    obtain rfl : n = 20 := by omega
    by_cases g0 : x.f1 = 0
    · exact ⟨0, Ev.step (fun k => by rw [shape_parents.l0]) (Ev.pos g0 (Ev.now _)), fun _ => ⟨fun R hR => Ev.step (fun k => by rw [chanceryref3_ShapesError.l1]) (Ev.pos g0 hR), .inl g0⟩, fun h => absurd rfl h⟩
    · refine ⟨22, Ev.step (fun k => by rw [shape_parents.l0]) (Ev.neg g0 (Ev.pos rfl (Ev.now _))), fun h => absurd h (by decide), fun _ => ?_⟩
      refine Ev.step (fun k => by rw [chanceryref3_ShapesError.l1]) (Ev.neg g0 (Ev.pos (by omega) (Ev.pos (by omega) (Ev.bind (shapeAt_ok _ _ ?_) (Ev.pos (show (20 : Int) ≥ 20 by omega) (Ev.now _))))))
      rw [Int.toNat_natCast, htl]; omega
  | succ d ih =>
    intro n hn h1 x
    by_cases g0 : x.f1 = 0
    · exact ⟨0, Ev.step (fun k => by rw [shape_parents.l0]) (Ev.pos g0 (Ev.now _)), fun _ => ⟨fun R hR => Ev.step (fun k => by rw [chanceryref3_ShapesError.l1]) (Ev.pos g0 hR), .inl g0⟩, fun h => absurd rfl h⟩
    have hn20 : ¬ n = 20 := by omega
    have hfind : shape_find.f (l.take i) x.f1 = some (idx x.f1 (l.take i) 0) := find_ok _ _ (by rw [htl]; omega)
    have hat : Ev (fun k => chanceryref3_ShapeAt.f k (l.take (i : Int).toNat) x.f1) (idx x.f1 (l.take i) 0) := by rw [Int.toNat_natCast]; exact shapeAt_ok _ _ (by rw [htl]; omega)
    have hr := idx_range x.f1 (l.take i)
    rw [htl] at hr
    obtain ⟨j, hj⟩ : ∃ j, idx x.f1 (l.take i) 0 = j := ⟨_, rfl⟩
    rw [hj] at hfind hat hr ⊢
    have wn : wrap64 (n + 1) = n + 1 := w64 (by omega) (by omega)
    have up : ∀ e, Ev (fun k => if j < 0 then some 7 else if 0 ≤ j then if j < (l.length : Int) then if (rd_T45 l j).f2 = 5 then chanceryref3_ShapesError.l1 k l (i : Int) (rd_T45 l j).f1 (wrap64 (n + 1)) x11 x12 x13 else some 8 else none else none) e → Ev (fun k => chanceryref3_ShapesError.l1 k l (i : Int) x.f1 n x11 x12 x13) e := fun e he =>
      Ev.step (fun k => by rw [chanceryref3_ShapesError.l1]) (Ev.neg g0 (Ev.pos (by omega) (Ev.pos (by omega) (Ev.bind hat (Ev.neg (show ¬ n ≥ 20 by omega) he)))))
    have upp : ∀ e, Ev (fun k => if j < 0 then some 7 else if 0 ≤ j then if j < ((l.take i).length : Int) then if (rd_T45 (l.take i) j).f2 = 5 then shape_parents.l0 k (l.take i) (wrap64 (n + 1)) (rd_T45 (l.take i) j).f0 (rd_T45 (l.take i) j).f1 (rd_T45 (l.take i) j).f2 (rd_T45 (l.take i) j).f3 (rd_T45 (l.take i) j).f4 (rd_T45 (l.take i) j).f5 (rd_T45 (l.take i) j).f6 (rd_T45 (l.take i) j).f7 (rd_T45 (l.take i) j).f8 (rd_T45 (l.take i) j).f9 (rd_T45 (l.take i) j).f10 (rd_T45 (l.take i) j).f11 else some 8 else none else none) e →
        Ev (fun k => shape_parents.l0 k (l.take i) n x.f0 x.f1 x.f2 x.f3 x.f4 x.f5 x.f6 x.f7 x.f8 x.f9 x.f10 x.f11) e := fun e he =>
      Ev.step (fun k => by rw [shape_parents.l0]) (Ev.neg g0 (Ev.neg hn20 (Ev.bind0 hfind he)))
    by_cases j0 : j < 0
    · exact ⟨7, upp _ (Ev.pos j0 (Ev.now _)), fun h => absurd h (by decide), fun _ => up _ (Ev.pos j0 (Ev.now _))⟩
    have j1 : 0 ≤ j ∧ j < (i : Int) := by omega
    have hrd := rd_take l i j j1.1 j1.2 hi
    rw [hrd] at upp
    by_cases k5 : (rd_T45 l j).f2 = 5
    · obtain ⟨e, r1, r2, r3⟩ := ih (n + 1) (by omega) (by omega) (rd_T45 l j)
      refine ⟨e, upp _ (Ev.neg j0 (Ev.pos j1.1 (Ev.pos (by omega) (Ev.pos k5 ?_)))), fun h => ⟨fun R hR => ?_, .inr ⟨j1.1, k5⟩⟩, fun h => ?_⟩
      · rw [wn]; exact r1
      · refine up _ (Ev.neg j0 (Ev.pos j1.1 (Ev.pos (by omega) (Ev.pos k5 ?_))))
        rw [wn]; exact (r2 h).1 R hR
      · refine up _ (Ev.neg j0 (Ev.pos j1.1 (Ev.pos (by omega) (Ev.pos k5 ?_))))
        rw [wn]; exact r3 h
    · exact ⟨8, upp _ (Ev.neg j0 (Ev.pos j1.1 (Ev.pos (by omega) (Ev.neg k5 (Ev.now _))))), fun h => absurd h (by decide), fun _ => up _ (Ev.neg j0 (Ev.pos j1.1 (Ev.pos (by omega) (Ev.neg k5 (Ev.now _)))))⟩
theorem fields_ok (l : List S45) (i : Nat) (hi : i < l.length) (hl : l.length ≤ 1000) :
    (fieldErr (rd_T45 l i) ≠ 0 → Ev (fun k => chanceryref3_ShapesError.l0 k l l (l.length : Int) (i : Int)) (fieldErr (rd_T45 l i))) ∧
    (fieldErr (rd_T45 l i) = 0 → ∀ R, Ev (fun k => (chanceryref3_ShapeAt.f k (l.take (i : Int).toNat) (rd_T45 l i).f0).bind fun t => if t ≥ 0 then some 6 else chanceryref3_ShapesError.l1 k l (i : Int) (rd_T45 l i).f1 1 l (l.length : Int) (i : Int)) R →
      Ev (fun k => chanceryref3_ShapesError.l0 k l l (l.length : Int) (i : Int)) R) := by
  obtain ⟨x, hx⟩ : ∃ x, rd_T45 l (i : Int) = x := ⟨_, rfl⟩
  rw [hx]
  have h0 : ∀ R, Ev (fun k => (chanceryref3_In.f x.f2 0 7).bind fun t => if t = true then ((chanceryref3_In.f x.f0 1 1073741824).bind fun t => if t = true then ((chanceryref3_In.f x.f1 0 1073741824).bind fun t => if t = true then ((chanceryref3_In.f x.f8 0 1073741824).bind fun t => if t = true then ((chanceryref3_In.f x.f9 0 1073741824).bind fun t => chanceryref3_ShapesError.j1 k l i l l.length i (!t) x.f0 x.f1 x.f2 x.f3 x.f4 x.f5 x.f6 x.f7 x.f8 x.f9 x.f10 x.f11)
      else chanceryref3_ShapesError.j1 k l i l l.length i (!t) x.f0 x.f1 x.f2 x.f3 x.f4 x.f5 x.f6 x.f7 x.f8 x.f9 x.f10 x.f11) else chanceryref3_ShapesError.j1 k l i l l.length i (!t) x.f0 x.f1 x.f2 x.f3 x.f4 x.f5 x.f6 x.f7 x.f8 x.f9 x.f10 x.f11) else chanceryref3_ShapesError.j1 k l i l l.length i (!t) x.f0 x.f1 x.f2 x.f3 x.f4 x.f5 x.f6 x.f7 x.f8 x.f9 x.f10 x.f11) else some 8) R →
      Ev (fun k => chanceryref3_ShapesError.l0 k l l (l.length : Int) (i : Int)) R := fun R hR =>
    Ev.step (fun k => by rw [chanceryref3_ShapesError.l0, hx]) (Ev.pos (by omega) (Ev.pos (by omega) (Ev.pos (by omega) hR)))
  have j1 : ∀ R, Ev (fun k => (chanceryref3_In.f x.f3 (-1048576) 1048576).bind fun t => if t = true then ((chanceryref3_In.f x.f4 (-1048576) 1048576).bind fun t => if t = true then ((chanceryref3_In.f x.f5 0 1048576).bind fun t => if t = true then ((chanceryref3_In.f x.f6 0 1048576).bind fun t => if t = true then ((chanceryref3_In.f x.f7 0 3599).bind fun t => chanceryref3_ShapesError.j2 k l i l l.length i (!t) x.f0 x.f1 x.f2 x.f3 x.f4 x.f5 x.f6 x.f7 x.f8 x.f9 x.f10 x.f11)
      else chanceryref3_ShapesError.j2 k l i l l.length i (!t) x.f0 x.f1 x.f2 x.f3 x.f4 x.f5 x.f6 x.f7 x.f8 x.f9 x.f10 x.f11) else chanceryref3_ShapesError.j2 k l i l l.length i (!t) x.f0 x.f1 x.f2 x.f3 x.f4 x.f5 x.f6 x.f7 x.f8 x.f9 x.f10 x.f11) else chanceryref3_ShapesError.j2 k l i l l.length i (!t) x.f0 x.f1 x.f2 x.f3 x.f4 x.f5 x.f6 x.f7 x.f8 x.f9 x.f10 x.f11) else chanceryref3_ShapesError.j2 k l i l l.length i (!t) x.f0 x.f1 x.f2 x.f3 x.f4 x.f5 x.f6 x.f7 x.f8 x.f9 x.f10 x.f11) R →
      Ev (fun k => chanceryref3_ShapesError.j1 k l i l l.length i false x.f0 x.f1 x.f2 x.f3 x.f4 x.f5 x.f6 x.f7 x.f8 x.f9 x.f10 x.f11) R := fun R hR =>
    Ev.step (fun k => by rw [chanceryref3_ShapesError.j1]) (Ev.neg (by simp) hR)
  have j1t : Ev (fun k => chanceryref3_ShapesError.j1 k l i l l.length i true x.f0 x.f1 x.f2 x.f3 x.f4 x.f5 x.f6 x.f7 x.f8 x.f9 x.f10 x.f11) 2 := Ev.step (fun k => by rw [chanceryref3_ShapesError.j1]) (Ev.pos rfl (Ev.now _))
  have j2t : Ev (fun k => chanceryref3_ShapesError.j2 k l i l l.length i true x.f0 x.f1 x.f2 x.f3 x.f4 x.f5 x.f6 x.f7 x.f8 x.f9 x.f10 x.f11) 2 := Ev.step (fun k => by rw [chanceryref3_ShapesError.j2]) (Ev.pos rfl (Ev.now _))
  have j3t : Ev (fun k => chanceryref3_ShapesError.j3 k l i l l.length i true x.f0 x.f1 x.f2 x.f3 x.f4 x.f5 x.f6 x.f7 x.f8 x.f9 x.f10 x.f11) 4 := Ev.step (fun k => by rw [chanceryref3_ShapesError.j3]) (Ev.pos rfl (Ev.now _))
  have fe : ∀ e : Int, fieldErr x = e → e ≠ 0 → Ev (fun k => chanceryref3_ShapesError.l0 k l l (l.length : Int) (i : Int)) e → (fieldErr x ≠ 0 → Ev (fun k => chanceryref3_ShapesError.l0 k l l (l.length : Int) (i : Int)) (fieldErr x)) ∧
    (fieldErr x = 0 → ∀ R, Ev (fun k => (chanceryref3_ShapeAt.f k (l.take (i : Int).toNat) x.f0).bind fun t => if t ≥ 0 then some 6 else chanceryref3_ShapesError.l1 k l (i : Int) x.f1 1 l (l.length : Int) (i : Int)) R → Ev (fun k => chanceryref3_ShapesError.l0 k l l (l.length : Int) (i : Int)) R) := fun e he h0 h =>
    ⟨fun _ => by rw [he]; exact h, fun hz => absurd (he.symm.trans hz) h0⟩
  have inN : ∀ {a b c : Int} {α : Type} {f : Nat → Bool → Option α} {r : α}, ¬ (b ≤ a ∧ a ≤ c) → Ev (fun k => f k false) r → Ev (fun k => (chanceryref3_In.f a b c).bind (f k)) r := fun h k => by
    refine Ev.bind0 (in_ok _ _ _) ?_
    rw [decide_eq_false h]; exact k
  have inP : ∀ {a b c : Int} {α : Type} {f : Nat → Bool → Option α} {r : α}, (b ≤ a ∧ a ≤ c) → Ev (fun k => f k true) r → Ev (fun k => (chanceryref3_In.f a b c).bind (f k)) r := fun h k => by
    refine Ev.bind0 (in_ok _ _ _) ?_
    rw [decide_eq_true h]; exact k
  by_cases c1 : 0 ≤ x.f2 ∧ x.f2 ≤ 7
  rotate_left
  · exact fe 8 (by unfold fieldErr; rw [if_pos (by omega)]) (by decide) (h0 _ (inN c1 (Ev.neg (by simp) (Ev.now _))))
  by_cases c2 : 1 ≤ x.f0 ∧ x.f0 ≤ 1073741824
  rotate_left
  · exact fe 2 (by unfold fieldErr; rw [if_neg (by omega), if_pos (by omega)]) (by decide) (h0 _ (inP c1 (Ev.pos rfl (inN c2 (Ev.neg (by simp) j1t)))))
  by_cases c3 : 0 ≤ x.f1 ∧ x.f1 ≤ 1073741824
  rotate_left
  · exact fe 2 (by unfold fieldErr; rw [if_neg (by omega), if_pos (by omega)]) (by decide) (h0 _ (inP c1 (Ev.pos rfl (inP c2 (Ev.pos rfl (inN c3 (Ev.neg (by simp) j1t)))))))
  by_cases c4 : 0 ≤ x.f8 ∧ x.f8 ≤ 1073741824
  rotate_left
  · exact fe 2 (by unfold fieldErr; rw [if_neg (by omega), if_pos (by omega)]) (by decide) (h0 _ (inP c1 (Ev.pos rfl (inP c2 (Ev.pos rfl (inP c3 (Ev.pos rfl (inN c4 (Ev.neg (by simp) j1t)))))))))
  by_cases c5 : 0 ≤ x.f9 ∧ x.f9 ≤ 1073741824
  rotate_left
  · exact fe 2 (by unfold fieldErr; rw [if_neg (by omega), if_pos (by omega)]) (by decide) (h0 _ (inP c1 (Ev.pos rfl (inP c2 (Ev.pos rfl (inP c3 (Ev.pos rfl (inP c4 (Ev.pos rfl (inN c5 j1t))))))))))
  have h1 : ∀ R, Ev (fun k => chanceryref3_ShapesError.j1 k l i l l.length i false x.f0 x.f1 x.f2 x.f3 x.f4 x.f5 x.f6 x.f7 x.f8 x.f9 x.f10 x.f11) R → Ev (fun k => chanceryref3_ShapesError.l0 k l l (l.length : Int) (i : Int)) R := fun R hR =>
    h0 _ (inP c1 (Ev.pos rfl (inP c2 (Ev.pos rfl (inP c3 (Ev.pos rfl (inP c4 (Ev.pos rfl (inP c5 hR)))))))))
  by_cases d1 : -1048576 ≤ x.f3 ∧ x.f3 ≤ 1048576
  rotate_left
  · exact fe 2 (by unfold fieldErr; rw [if_neg (by omega), if_neg (by omega), if_pos (by omega)]) (by decide) (h1 _ (j1 _ (inN d1 (Ev.neg (by simp) j2t))))
  by_cases d2 : -1048576 ≤ x.f4 ∧ x.f4 ≤ 1048576
  rotate_left
  · exact fe 2 (by unfold fieldErr; rw [if_neg (by omega), if_neg (by omega), if_pos (by omega)]) (by decide) (h1 _ (j1 _ (inP d1 (Ev.pos rfl (inN d2 (Ev.neg (by simp) j2t))))))
  by_cases d3 : 0 ≤ x.f5 ∧ x.f5 ≤ 1048576
  rotate_left
  · exact fe 2 (by unfold fieldErr; rw [if_neg (by omega), if_neg (by omega), if_pos (by omega)]) (by decide) (h1 _ (j1 _ (inP d1 (Ev.pos rfl (inP d2 (Ev.pos rfl (inN d3 (Ev.neg (by simp) j2t))))))))
  by_cases d4 : 0 ≤ x.f6 ∧ x.f6 ≤ 1048576
  rotate_left
  · exact fe 2 (by unfold fieldErr; rw [if_neg (by omega), if_neg (by omega), if_pos (by omega)]) (by decide) (h1 _ (j1 _ (inP d1 (Ev.pos rfl (inP d2 (Ev.pos rfl (inP d3 (Ev.pos rfl (inN d4 (Ev.neg (by simp) j2t))))))))))
  by_cases d5 : 0 ≤ x.f7 ∧ x.f7 ≤ 3599
  rotate_left
  · exact fe 2 (by unfold fieldErr; rw [if_neg (by omega), if_neg (by omega), if_pos (by omega)]) (by decide) (h1 _ (j1 _ (inP d1 (Ev.pos rfl (inP d2 (Ev.pos rfl (inP d3 (Ev.pos rfl (inP d4 (Ev.pos rfl (inN d5 j2t)))))))))))
  have h2 : ∀ R, Ev (fun k => if x.f2 = 6 then chanceryref3_ShapesError.j3 k l i l l.length i false x.f0 x.f1 x.f2 x.f3 x.f4 x.f5 x.f6 x.f7 x.f8 x.f9 x.f10 x.f11 else if x.f8 > 0 then chanceryref3_ShapesError.j3 k l i l l.length i true x.f0 x.f1 x.f2 x.f3 x.f4 x.f5 x.f6 x.f7 x.f8 x.f9 x.f10 x.f11 else chanceryref3_ShapesError.j3 k l i l l.length i (decide (x.f9 > 0)) x.f0 x.f1 x.f2 x.f3 x.f4 x.f5 x.f6 x.f7 x.f8 x.f9 x.f10 x.f11) R → Ev (fun k => chanceryref3_ShapesError.l0 k l l (l.length : Int) (i : Int)) R := fun R hR =>
    h1 _ (j1 _ (inP d1 (Ev.pos rfl (inP d2 (Ev.pos rfl (inP d3 (Ev.pos rfl (inP d4 (Ev.pos rfl (inP d5 (Ev.step (fun k => by rw [chanceryref3_ShapesError.j2]) (Ev.neg (by simp) hR))))))))))))
  by_cases m : x.f2 ≠ 6 ∧ (x.f8 ≠ 0 ∨ x.f9 ≠ 0)
  · refine fe 4 (by unfold fieldErr; rw [if_neg (by omega), if_neg (by omega), if_neg (by omega), if_pos m]) (by decide) (h2 _ (Ev.neg m.1 ?_))
    by_cases m8 : x.f8 > 0
    · exact Ev.pos m8 j3t
    · refine Ev.neg m8 ?_
      rw [decide_eq_true (by omega : x.f9 > 0)]
      exact j3t
  · have z : fieldErr x = 0 := by unfold fieldErr; rw [if_neg (by omega), if_neg (by omega), if_neg (by omega), if_neg m]
    refine ⟨fun h => absurd z h, fun _ R hR => h2 _ ?_⟩
    have j3f : Ev (fun k => chanceryref3_ShapesError.j3 k l i l l.length i false x.f0 x.f1 x.f2 x.f3 x.f4 x.f5 x.f6 x.f7 x.f8 x.f9 x.f10 x.f11) R :=
      Ev.step (fun k => by rw [chanceryref3_ShapesError.j3]) (Ev.neg (by simp) (Ev.pos (by omega) (Ev.pos (by omega) hR)))
    by_cases m6 : x.f2 = 6
    · exact Ev.pos m6 j3f
    · refine Ev.neg m6 (Ev.neg (by omega) ?_)
      rw [decide_eq_false (by omega : ¬ x.f9 > 0)]
      exact j3f
theorem shapes_checks (l : List S45) : ∃ e : Int, Ev (fun k => shape_Check.f k l) e ∧ Ev (fun k => chanceryref3_ShapesError.f k l) e ∧ (e = 0 → l.length ≤ 1000 ∧ ∀ i : Nat, i < l.length → fitsAt l i) := by
  by_cases hl : l.length > 1000
  · exact ⟨3, Ev.congr (fun k => by rw [shape_Check.f, if_pos hl]) (Ev.now _), Ev.congr (fun k => by rw [chanceryref3_ShapesError.f]) (Ev.pos (by omega) (Ev.now _)), fun h => absurd h (by decide)⟩
  suffices h : ∀ (d : Nat) (i : Nat), i + d = l.length → ∃ e : Int, Ev (fun k => checkL k l d i) e ∧ Ev (fun k => chanceryref3_ShapesError.l0 k l l (l.length : Int) (i : Int)) e ∧ (e = 0 → ∀ j : Nat, i ≤ j → j < l.length → fitsAt l j) by
    obtain ⟨e, h1, h2, h3⟩ := h l.length 0 (by omega)
    refine ⟨e, Ev.congr (fun k => by rw [shape_Check.f, if_neg hl]) h1, (by unfold chanceryref3_ShapesError.f; exact Ev.neg (by omega) h2), fun h => ⟨by omega, fun i hi => h3 h i (by omega) hi⟩⟩
  intro d
  induction d with
  | zero => exact fun i h => ⟨0, Ev.now _, Ev.step (fun k => by rw [chanceryref3_ShapesError.l0]) (Ev.neg (by omega) (Ev.now _)), fun _ j h1 h2 => by omega⟩
  | succ d ih =>
    intro i h
    obtain ⟨f1, f2⟩ := fields_ok l i (by omega) (by omega)
    by_cases hf : fieldErr (rd_T45 l i) = 0
    · have hat : Ev (fun k => chanceryref3_ShapeAt.f k (l.take (i : Int).toNat) (rd_T45 l i).f0) (idx (rd_T45 l i).f0 (l.take i) 0) := by rw [Int.toNat_natCast]; exact shapeAt_ok _ _ (by rw [List.length_take]; omega)
      by_cases hd : 0 ≤ idx (rd_T45 l i).f0 (l.take i) 0
      · refine ⟨6, ?_, f2 hf _ (Ev.bind hat (Ev.pos (by omega) (Ev.now _))), fun h => absurd h (by decide)⟩
        have hz : ∀ k, checkL k l (d + 1) i = some 6 := fun k => by rw [checkL, checkAt, if_neg (fun h => h hf), if_pos hd]; rfl
        exact Ev.congr hz (Ev.now _)
      · obtain ⟨e, r1, r2, r3⟩ := parents_ok l i (by omega) (by omega) l l.length i 19 1 (by omega) (by omega) (rd_T45 l i)
        have hp : ∀ R, Ev (fun k => if e = 0 then checkL k l d (i + 1) else some e) R → Ev (fun k => checkL k l (d + 1) i) R := fun R hR => by
          have hz : ∀ k, checkL k l (d + 1) i = (par k (l.take i) (rd_T45 l i)).bind fun e => if e = 0 then checkL k l d (i + 1) else some e := fun k => by rw [checkL, checkAt, if_neg (fun h => h hf), if_neg hd]
          exact Ev.congr hz (Ev.bind (show Ev (fun k => par k (l.take i) (rd_T45 l i)) e from r1) hR)
        by_cases he : e = 0
        · subst he
          obtain ⟨e', s1, s2, s3⟩ := ih (i + 1) (by omega)
          refine ⟨e', hp _ (Ev.pos rfl s1), f2 hf _ (Ev.bind hat (Ev.neg (by omega) ((r2 rfl).1 _ ?_))), fun h j h1 h2 => ?_⟩
          · rw [w64 (n := (i : Int) + 1) (by omega) (by omega)]
            exact s2
          · by_cases hj : j = i
            · subst hj; exact ⟨hf, (r2 rfl).2⟩
            · exact s3 h j (by omega) h2
        · exact ⟨e, hp _ (Ev.neg he (Ev.now _)), f2 hf _ (Ev.bind hat (Ev.neg (by omega) (r3 he))), fun h => absurd h he⟩
    · refine ⟨fieldErr (rd_T45 l i), ?_, f1 hf, fun h => absurd h hf⟩
      have hz : ∀ k, checkL k l (d + 1) i = some (fieldErr (rd_T45 l i)) := fun k => by rw [checkL, checkAt, if_pos hf]; exact if_neg hf
      exact Ev.congr hz (Ev.now _)
end Shapes
end Go.Proofs.YtmheeekbbhkmkaaDoor.Pure
