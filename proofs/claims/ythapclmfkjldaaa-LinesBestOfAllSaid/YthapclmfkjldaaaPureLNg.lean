import Derived.Test.YthapclmfkjldaaaHandLNk
namespace Go.Proofs.Ythapclmfkjldaaa.LinesP
set_option linter.unusedSectionVars false
set_option linter.unusedVariables false
set_option linter.unusedSimpArgs false
open Go.RowKit Go.Proofs.Ythapclmfkjldaaa.QLN Go.Proofs.YthapclmfkjldaaaW.PrintWords Go.Proofs.YthapclmfkjldaaaW.PrintLast Go.Proofs.YthapclmfkjldaaaW.PrintMore Go.Proofs.Ythapclmfkjldaaa.Lib Go.Proofs.Ythapclmfkjldaaa.HandLN
def pickW (s : List S41 × Int) (w : List S41) (c : Int) : List S41 × Int := if s.1 = [] ∨ c < s.2 ∨ (c = s.2 ∧ w.length ≤ s.1.length) then (w, c) else s
def stepW (L : List S49) (D : Int) (fl : Bool) (r : S41 → List S41 × Int) (s : List S41 × Int) (x : S41) : List S41 × Int :=
 pickW s (x :: if lastP L x.f1 = true then [] else (r x).1) (costR L D x fl + if lastP L x.f1 = true then 0 else (r x).2)
def bwG (L : List S49) (W : List Int) (D : Int) : Nat → Int → Int → Bool → List S41 × Int
 | 0, _, _, _ => ([], 0)
 | d + 1, f, num, fl => (endsE L W f num).foldl (stepW L D fl fun x => bwG L W D d (nxt L x.f1) (num + 1) (flagP L x.f1)) ([], 0)
theorem mn_mn (a m : Int) : mn (mn a m) m = mn a m := by
 unfold mn
 repeat' split
 all_goals omega
theorem cap_succ (W : List Int) (num : Int) : capN W (capN W num + 1) = capN W (num + 1) := by
 unfold capN mn
 repeat' split
 all_goals omega
theorem lineP_cap (L : List S49) (W wi gr yi : List Int) (f t num : Int) : lineP L W wi gr yi f t (capN W num) = lineP L W wi gr yi f t num := by
 unfold lineP capN
 rw [mn_mn]
theorem endsGo_cap (L : List S49) (W wi gr yi : List Int) (f num : Int) (k : Nat) : ∀ (t : Int) (out : List S41), endsGo L W wi gr yi f (capN W num) k t out = endsGo L W wi gr yi f num k t out := by
 induction k with
 | zero => intro t out; rfl
 | succ k ih =>
  intro t out
  unfold endsGo
  simp only [lineP_cap, ih]
theorem ends_cap (L : List S49) (W : List Int) (f num : Int) : endsE L W f (capN W num) = endsE L W f num := endsGo_cap L W _ _ _ f num _ _ _
theorem bw_eq (L : List S49) (W : List Int) (D : Int) (d : Nat) : ∀ (f num : Int) (fl : Bool), 0 ≤ f → f ≤ L.length → (L.length : Int) - f < d →
    (bwG L W D d f num fl).1 = wayG L W D d f num fl ∧ (bwG L W D d f num fl).2 = (bestP L W D f (capN W num) fl).2.1 ∧ ((bwG L W D d f num fl).1.length : Int) = (bestP L W D f (capN W num) fl).2.2 := by
 induction d with
 | zero => intro f num fl f0 f1 h; omega
 | succ d ih =>
  intro f num fl f0 f1 hd
  have hge := bestP_ge L W D f (capN W num) fl f0 f1
  have heq := bestP_eq L W D f (capN W num) fl f0 f1
  rw [ends_cap, cap_succ] at heq
  have key : ∀ (l : List S41) (s : List S41 × Int) (t : Int × Int × Int), (∀ x, x ∈ l → x ∈ endsE L W f num) →
      ((s.1 = [] ↔ t.1 < 0) ∧ s.2 = t.2.1 ∧ (s.1.length : Int) = t.2.2 ∧ (s.1 = [] ∨ s.1 = ln L W f num t.1 :: if lastP L t.1 = true then [] else wayG L W D d (nxt L t.1) (num + 1) (flagP L t.1))) →
      let s' := l.foldl (stepW L D fl fun x => bwG L W D d (nxt L x.f1) (num + 1) (flagP L x.f1)) s
      let t' := l.foldl (stepG L D fl fun x => bestP L W D (nxt L x.f1) (capN W (num + 1)) (flagP L x.f1)) t
      (s'.1 = [] ↔ t'.1 < 0) ∧ s'.2 = t'.2.1 ∧ (s'.1.length : Int) = t'.2.2 ∧ (s'.1 = [] ∨ s'.1 = ln L W f num t'.1 :: if lastP L t'.1 = true then [] else wayG L W D d (nxt L t'.1) (num + 1) (flagP L t'.1)) := by
   intro l
   induction l with
   | nil => intro s t _ h; exact h
   | cons x l ihl =>
    intro s t hm h
    refine ihl _ _ (fun y hy => hm y (List.mem_cons_of_mem _ hy)) ?_
    obtain ⟨q, ft, t1, hx⟩ := endsE_mem L W f num x (hm x List.mem_cons_self)
    have hx1 : x.f1 = q := by rw [hx]; rfl
    have hw : ((x :: if lastP L x.f1 = true then [] else (bwG L W D d (nxt L x.f1) (num + 1) (flagP L x.f1)).1) = ln L W f num x.f1 :: if lastP L x.f1 = true then [] else wayG L W D d (nxt L x.f1) (num + 1) (flagP L x.f1)) ∧
        (costR L D x fl + if lastP L x.f1 = true then 0 else (bwG L W D d (nxt L x.f1) (num + 1) (flagP L x.f1)).2) = (costR L D x fl + if lastP L x.f1 = true then 0 else (bestP L W D (nxt L x.f1) (capN W (num + 1)) (flagP L x.f1)).2.1) ∧
        (((x :: if lastP L x.f1 = true then [] else (bwG L W D d (nxt L x.f1) (num + 1) (flagP L x.f1)).1).length : Nat) : Int) = 1 + if lastP L x.f1 = true then 0 else (bestP L W D (nxt L x.f1) (capN W (num + 1)) (flagP L x.f1)).2.2 := by
     have hxl : x = ln L W f num x.f1 := by rw [hx1]; exact hx
     by_cases hl : lastP L x.f1 = true
     · simp only [if_pos hl]
       exact ⟨congrArg (· :: []) hxl, by first | trivial | rfl, by simp⟩
     · have hn := nxt_lt L x.f1 (by omega) (by omega) (by revert hl; cases lastP L x.f1 <;> simp)
       obtain ⟨i1, i2, i3⟩ := ih (nxt L x.f1) (num + 1) (flagP L x.f1) (by omega) (by omega) (by omega)
       simp only [if_neg hl]
       refine ⟨by rw [i1, ← hxl], by rw [i2], ?_⟩
       rw [List.length_cons]
       omega
    obtain ⟨w1, w2, w3⟩ := hw
    obtain ⟨h1, h2, h3, h4⟩ := h
    show ((stepW L D fl _ s x).1 = [] ↔ (stepG L D fl _ t x).1 < 0) ∧ _
    unfold stepW stepG
    rw [w2]
    generalize (costR L D x fl + if lastP L x.f1 = true then 0 else (bestP L W D (nxt L x.f1) (capN W (num + 1)) (flagP L x.f1)).2.1) = c
    rw [← w3]
    have hne : (x :: if lastP L x.f1 = true then [] else (bwG L W D d (nxt L x.f1) (num + 1) (flagP L x.f1)).1) ≠ [] := by simp
    generalize (x :: if lastP L x.f1 = true then [] else (bwG L W D d (nxt L x.f1) (num + 1) (flagP L x.f1)).1) = w at w1 hne
    unfold pickW pick
    by_cases e : s.1 = [] ∨ c < s.2 ∨ (c = s.2 ∧ w.length ≤ s.1.length)
    · have e' : t.1 < 0 ∨ c < t.2.1 ∨ (c = t.2.1 ∧ (w.length : Int) ≤ t.2.2) := by
       rcases e with e | e | e
       · exact .inl (h1.1 e)
       · exact .inr (.inl (by omega))
       · exact .inr (.inr ⟨by omega, by omega⟩)
      rw [if_pos e, if_pos e']
      exact ⟨⟨fun q => absurd q hne, fun q => by dsimp only at q; omega⟩, rfl, rfl, .inr w1⟩
    · have e' : ¬ (t.1 < 0 ∨ c < t.2.1 ∨ (c = t.2.1 ∧ (w.length : Int) ≤ t.2.2)) := by
       intro q
       rcases q with q | q | q
       · exact e (.inl (h1.2 q))
       · exact e (.inr (.inl (by omega)))
       · exact e (.inr (.inr ⟨by omega, by omega⟩))
      rw [if_neg e, if_neg e']
      exact ⟨h1, h2, h3, h4⟩
  obtain ⟨k1, k2, k3, k4⟩ := key (endsE L W f num) ([], 0) (-1, 0, 0) (fun _ h => h) ⟨⟨fun _ => by decide, fun _ => rfl⟩, rfl, rfl, .inl rfl⟩
  rw [← heq] at k1 k2 k3 k4
  have hb : (bwG L W D (d + 1) f num fl) = (endsE L W f num).foldl (stepW L D fl fun x => bwG L W D d (nxt L x.f1) (num + 1) (flagP L x.f1)) ([], 0) := rfl
  rw [← hb] at k1 k2 k3 k4
  refine ⟨?_, k2, k3⟩
  rcases k4 with q | q
  · have := k1.1 q; omega
  · rw [q]; rfl
end Go.Proofs.Ythapclmfkjldaaa.LinesP
