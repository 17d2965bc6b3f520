import Derived.Test.YthapclmfkjldaaaHandLNh
namespace Go.Proofs.Ythapclmfkjldaaa.LinesP
set_option linter.unusedSectionVars false
set_option linter.unusedVariables false
set_option linter.unusedSimpArgs false
open Go.RowKit Go.Proofs.YthapclmfkjldaaaW.PrintWords Go.Proofs.Ythapclmfkjldaaa.QLN Go.Proofs.Ythapclmfkjldaaa.HandLN
def endsE (L : List S49) (W : List Int) (f num : Int) : List S41 := endsP L W (fillT hW1 L (L.length : Int)) (fillT (·.f2) L (L.length : Int)) (fillT (·.f3) L (L.length : Int)) f num
def nxt (L : List S49) (t : Int) : Int := afterP L (begT L (-1)) t
def lastP (L : List S49) (t : Int) : Bool := nxt L t == L.length
def capN (W : List Int) (num : Int) : Int := mn num ((W.length : Int) - 1)
def pick (s : Int × Int × Int) (t c k : Int) : Int × Int × Int := if s.1 < 0 ∨ c < s.2.1 ∨ (c = s.2.1 ∧ k ≤ s.2.2) then (t, c, k) else s
def stepG (L : List S49) (D : Int) (fl : Bool) (r : S41 → Int × Int × Int) (s : Int × Int × Int) (x : S41) : Int × Int × Int :=
 pick s x.f1 (costR L D x fl + if lastP L x.f1 = true then 0 else (r x).2.1) (1 + if lastP L x.f1 = true then 0 else (r x).2.2)
def bestG (L : List S49) (W : List Int) (D : Int) : Nat → Int → Int → Bool → Int × Int × Int
 | 0, _, _, _ => (-1, 0, 0)
 | d + 1, f, num, fl => (endsE L W f num).foldl (stepG L D fl fun x => bestG L W D d (nxt L x.f1) (capN W (num + 1)) (flagP L x.f1)) (-1, 0, 0)
def bestP (L : List S49) (W : List Int) (D f num : Int) (fl : Bool) : Int × Int × Int := bestG L W D (L.length + 1 - f).toNat f num fl
theorem nextD_bd (L : List S49) (d : Nat) (hd : d ≤ L.length) : (L.length : Int) - d ≤ nextD L d ∧ nextD L d ≤ L.length := by
 induction d with
 | zero => unfold nextD; omega
 | succ d ih =>
  have := ih (by omega)
  unfold nextD
  split <;> omega
theorem nxt_bd (L : List S49) (t : Int) (t0 : 0 ≤ t) (t1 : t ≤ L.length) : t ≤ nxt L t ∧ nxt L t ≤ L.length ∧ (t < L.length → t < nxt L t) := by
 unfold nxt afterP
 by_cases e : t = L.length
 · rw [if_pos e]; omega
 · rw [if_neg e, begT_at L (t + 1) (by omega) (by omega)]
   have := nextD_bd L ((L.length : Int) - (t + 1)).toNat (by omega)
   omega
theorem nxt_lt (L : List S49) (t : Int) (t0 : 0 ≤ t) (t1 : t ≤ L.length) (h : lastP L t = false) : t < nxt L t ∧ nxt L t < L.length := by
 have hne : nxt L t ≠ L.length := fun e => by
  unfold lastP at h
  rw [e, beq_self_eq_true] at h
  cases h
 have b := nxt_bd L t t0 t1
 omega
theorem endsGo_mem (L : List S49) (W wi gr yi : List Int) (f num : Int) (k : Nat) : ∀ (t : Int) (out : List S41), f ≤ t → (∀ x, x ∈ out → ∃ t', f ≤ t' ∧ t' ≤ L.length ∧ x = lineP L W wi gr yi f t' num) →
    ∀ x, x ∈ endsGo L W wi gr yi f num k t out → ∃ t', f ≤ t' ∧ t' ≤ L.length ∧ x = lineP L W wi gr yi f t' num := by
 induction k with
 | zero => intro t out _ h x hx; exact h x hx
 | succ k ih =>
  intro t out ft h
  unfold endsGo
  by_cases ht : t ≤ (L.length : Int)
  · rw [if_pos ht]
    have h' : ∀ x, x ∈ (if fullA (lineP L W wi gr yi f t num) = false ∨ out = [] then out ++ [lineP L W wi gr yi f t num] else out) → ∃ t', f ≤ t' ∧ t' ≤ L.length ∧ x = lineP L W wi gr yi f t' num := by
     intro x hx
     split at hx
     · rw [List.mem_append, List.mem_singleton] at hx
       rcases hx with hx | hx
       · exact h x hx
       · exact ⟨t, ft, ht, hx⟩
     · exact h x hx
    split
    · dsimp only
      split
      · exact h'
      · split
        · exact h'
        · exact ih (t + 1) _ (by omega) h'
    · split
      · exact h
      · exact ih (t + 1) out (by omega) h
  · rw [if_neg ht]; exact h
theorem endsE_mem (L : List S49) (W : List Int) (f num : Int) (x : S41) (hx : x ∈ endsE L W f num) : ∃ t, f ≤ t ∧ t ≤ L.length ∧ x = ln L W f num t :=
 endsGo_mem L W _ _ _ f num _ f [] (Int.le_refl _) (fun _ h => by cases h) x hx
theorem endsGo_ne (L : List S49) (W wi gr yi : List Int) (f num : Int) (k : Nat) : ∀ (t : Int) (out : List S41), f ≤ t → (t ≤ L.length ∨ out ≠ []) → (L.length : Int) + 1 ≤ t + k → endsGo L W wi gr yi f num k t out ≠ [] := by
 induction k with
 | zero =>
  intro t out ft h hk
  rcases h with h | h
  · omega
  · exact h
 | succ k ih =>
  intro t out ft h hk
  unfold endsGo
  by_cases ht : t ≤ (L.length : Int)
  · rw [if_pos ht]
    have h' : (if fullA (lineP L W wi gr yi f t num) = false ∨ out = [] then out ++ [lineP L W wi gr yi f t num] else out) ≠ [] := by
     by_cases o : out = []
     · rw [if_pos (.inr o)]; simp
     · split
       · simp
       · exact o
    by_cases hc : (mayP L t && (decide (t > f) || mustP L t)) = true
    · rw [if_pos hc]
      dsimp only
      split
      · exact h'
      · split
        · exact h'
        · exact ih (t + 1) _ (by omega) (.inr h') (by omega)
    · rw [if_neg hc]
      have hm : mustP L t = true → mayP L t = true := by
       unfold mustP mayP
       intro hm
       simp only [Bool.or_eq_true, Bool.and_eq_true, beq_iff_eq, decide_eq_true_eq] at hm ⊢
       rcases hm with hm | hm
       · exact .inl (.inl hm)
       · exact .inr ⟨hm.1, by omega⟩
      have hmn : mustP L t ≠ true := fun hm' => hc (by rw [hm hm', hm', Bool.or_true]; rfl)
      rw [if_neg hmn]
      refine ih (t + 1) out (by omega) ?_ (by omega)
      by_cases e : t = L.length
      · exact absurd (by unfold mustP; rw [e, beq_self_eq_true]; rfl) hmn
      · exact .inl (by omega)
  · rw [if_neg ht]
    rcases h with h | h
    · omega
    · exact h
theorem endsE_ne (L : List S49) (W : List Int) (f num : Int) (f0 : 0 ≤ f) (f1 : f ≤ L.length) : endsE L W f num ≠ [] := endsGo_ne L W _ _ _ f num _ f [] (Int.le_refl _) (.inl f1) (by omega)
theorem sumU_mono (h : S49 → Int) (L : List S49) (hb : ∀ i : Int, 0 ≤ i → i < L.length → 0 ≤ h (pt L i)) (a b : Nat) (hab : a ≤ b) (hl : b ≤ L.length) : sumU h L a ≤ sumU h L b := by
 obtain ⟨d, rfl⟩ := Nat.exists_eq_add_of_le hab
 induction d with
 | zero => exact Int.le_refl _
 | succ d ih =>
  have h1 := ih (by omega) (by omega)
  have h2 := hb ((a + d : Nat) : Int) (by omega) (by omega)
  show sumU h L a ≤ sumU h L (a + d) + h (pt L ((a + d : Nat) : Int))
  omega
theorem ln_bd (L : List S49) (W : List Int) (hF : Fine L) (w1 : 1 ≤ W.length) (hW : ∀ i : Int, 0 ≤ i → i < W.length → 1 ≤ rd W i ∧ rd W i ≤ 100000) (f num t : Int) (f0 : 0 ≤ f) (ft : f ≤ t) (t1 : t ≤ L.length) (n0 : 0 ≤ num) :
    (0 ≤ (ln L W f num t).f2 ∧ (ln L W f num t).f2 ≤ 900000000) ∧ (0 ≤ (ln L W f num t).f3 ∧ (ln L W f num t).f3 ≤ 800000000) ∧ (0 ≤ (ln L W f num t).f4 ∧ (ln L W f num t).f4 ≤ 800000000) ∧ (1 ≤ (ln L W f num t).f5 ∧ (ln L W f num t).f5 ≤ 100000) := by
 have hn := hF.1
 have b1 : ∀ i : Int, 0 ≤ i → i < L.length → 0 ≤ hW1 (pt L i) ∧ hW1 (pt L i) ≤ 100000 := fun i i0 i1 => by have := hF.2 i i0 i1; unfold hW1; split <;> omega
 have b2 : ∀ i : Int, 0 ≤ i → i < L.length → 0 ≤ (pt L i).f2 ∧ (pt L i).f2 ≤ 100000 := fun i i0 i1 => by have := hF.2 i i0 i1; omega
 have b3 : ∀ i : Int, 0 ≤ i → i < L.length → 0 ≤ (pt L i).f3 ∧ (pt L i).f3 ≤ 100000 := fun i i0 i1 => by have := hF.2 i i0 i1; omega
 have m1 := sumU_mono hW1 L (fun i i0 i1 => (b1 i i0 i1).1) f.toNat t.toNat (by omega) (by omega)
 have m2 := sumU_mono (·.f2) L (fun i i0 i1 => (b2 i i0 i1).1) f.toNat t.toNat (by omega) (by omega)
 have m3 := sumU_mono (·.f3) L (fun i i0 i1 => (b3 i i0 i1).1) f.toNat t.toNat (by omega) (by omega)
 have s1 := sumU_bd hW1 L b1 t.toNat (by omega)
 have s2 := sumU_bd (·.f2) L b2 t.toNat (by omega)
 have s3 := sumU_bd (·.f3) L b3 t.toNat (by omega)
 have r1 := sumU_bd hW1 L b1 f.toNat (by omega)
 have r2 := sumU_bd (·.f2) L b2 f.toNat (by omega)
 have r3 := sumU_bd (·.f3) L b3 f.toNat (by omega)
 have ha : 0 ≤ addP L t ∧ addP L t ≤ 100000 := by
  unfold addP
  split
  · rename_i h
    have := hF.2 t (by omega) h.1
    omega
  · omega
 have e3 : (ln L W f num t).f3 = sumU (·.f2) L t.toNat - sumU (·.f2) L f.toNat := by
  show rd _ t - rd _ f = _
  rw [fill_end (·.f2) L t (by omega) t1, fill_end (·.f2) L f f0 (by omega)]
 have e5 : (ln L W f num t).f5 = rd W (mn num ((W.length : Int) - 1)) := rfl
 have hm : 0 ≤ mn num ((W.length : Int) - 1) ∧ mn num ((W.length : Int) - 1) < W.length := by unfold mn; split <;> omega
 have h5 := hW _ hm.1 hm.2
 rw [ln_f2 L W f num t f0 ft t1, e3, ln_f4 L W f num t f0 ft t1, e5]
 omega
theorem costR_bd (L : List S49) (D : Int) (hF : Fine L) (hD : 0 ≤ D ∧ D ≤ 1000000) (x : S41) (fl : Bool) (x0 : 0 ≤ x.f1) (h2 : 0 ≤ x.f2 ∧ x.f2 ≤ 900000000) (h3 : 0 ≤ x.f3) (h4 : 0 ≤ x.f4 ∧ x.f4 ≤ 800000000) (h5 : 1 ≤ x.f5 ∧ x.f5 ≤ 100000) :
    (-2200000000000 ≤ costP L (begT L (-1)) x ∧ costP L (begT L (-1)) x ≤ 2200000000000) ∧ (-2300000000000 ≤ costR L D x fl ∧ costR L D x fl ≤ 2300000000000) := by
 have hN := n1P_bd L (begT L (-1)) x h2 h3 h4 h5
 have hc : -2200000000000 ≤ costP L (begT L (-1)) x ∧ costP L (begT L (-1)) x ≤ 2200000000000 := by
  unfold costP
  split
  · rename_i h
    have hp := hF.2 x.f1 x0 h.1
    have sq : (pt L x.f1).f4 * (pt L x.f1).f4 ≤ 100000000 := by
     rcases Int.le_total 0 (pt L x.f1).f4 with c | c
     · exact Int.le_trans (Int.mul_le_mul hp.2.2.2.2.2.2.2 hp.2.2.2.2.2.2.2 c (by omega)) (by omega)
     · have : (-(pt L x.f1).f4) * (-(pt L x.f1).f4) ≤ 10000 * 10000 := Int.mul_le_mul (by omega) (by omega) (by omega) (by omega)
       rw [Int.neg_mul_neg] at this
       omega
    have sq0 : 0 ≤ (pt L x.f1).f4 * (pt L x.f1).f4 := by
     rcases Int.le_total 0 (pt L x.f1).f4 with c | c
     · exact Int.mul_nonneg c c
     · rw [← Int.neg_mul_neg]; exact Int.mul_nonneg (by omega) (by omega)
    split <;> omega
  · omega
 refine ⟨hc, ?_⟩
 unfold costR
 split <;> omega
def Bnd (L : List S49) (s : Int × Int × Int) (d : Int) : Prop := (-1 ≤ s.1 ∧ s.1 ≤ L.length) ∧ (-(2300000000000 * (d + 1)) ≤ s.2.1 ∧ s.2.1 ≤ 2300000000000 * (d + 1)) ∧ (0 ≤ s.2.2 ∧ s.2.2 ≤ d + 1)
theorem foldl_congr_mem {α β : Type} (f g : β → α → β) : ∀ (l : List α) (s : β), (∀ s x, x ∈ l → f s x = g s x) → l.foldl f s = l.foldl g s
 | [], _, _ => rfl
 | x :: l, s, h => by
  rw [List.foldl_cons, List.foldl_cons, h s x List.mem_cons_self]
  exact foldl_congr_mem f g l _ fun s y hy => h s y (List.mem_cons_of_mem _ hy)
theorem bestG_same (L : List S49) (W : List Int) (D : Int) (d : Nat) : ∀ (d' : Nat) (f num : Int) (fl : Bool), 0 ≤ f → f ≤ L.length → (L.length : Int) - f < d → (L.length : Int) - f < d' → bestG L W D d f num fl = bestG L W D d' f num fl := by
 induction d with
 | zero => intro d' f num fl f0 f1 h1 h2; omega
 | succ d ih =>
  intro d' f num fl f0 f1 h1 h2
  cases d' with
  | zero => omega
  | succ d' =>
   unfold bestG
   refine foldl_congr_mem _ _ _ _ fun s x hx => ?_
   obtain ⟨t, ft, t1, rfl⟩ := endsE_mem L W f num x hx
   unfold stepG
   by_cases hl : lastP L (ln L W f num t).f1 = true
   · simp only [if_pos hl]
   · have hb := nxt_lt L t (by omega) t1 (by revert hl; show lastP L t ≠ true → _; cases lastP L t <;> simp)
     have he := ih d' (nxt L t) (capN W (num + 1)) (flagP L t) (by omega) (by omega) (by omega) (by omega)
     show pick s t (costR L D (ln L W f num t) fl + if lastP L t = true then 0 else (bestG L W D d (nxt L t) (capN W (num + 1)) (flagP L t)).2.1) (1 + if lastP L t = true then 0 else (bestG L W D d (nxt L t) (capN W (num + 1)) (flagP L t)).2.2) = _
     rw [he]
     rfl
theorem bestP_eq (L : List S49) (W : List Int) (D f num : Int) (fl : Bool) (f0 : 0 ≤ f) (f1 : f ≤ L.length) :
    bestP L W D f num fl = (endsE L W f num).foldl (stepG L D fl fun x => bestP L W D (nxt L x.f1) (capN W (num + 1)) (flagP L x.f1)) (-1, 0, 0) := by
 unfold bestP
 obtain ⟨d, hd⟩ : ∃ d, ((L.length : Int) + 1 - f).toNat = d + 1 := ⟨((L.length : Int) - f).toNat, by omega⟩
 rw [hd]
 show (endsE L W f num).foldl _ _ = _
 refine foldl_congr_mem _ _ _ _ fun s x hx => ?_
 obtain ⟨t, ft, t1, rfl⟩ := endsE_mem L W f num x hx
 unfold stepG
 by_cases hl : lastP L (ln L W f num t).f1 = true
 · simp only [if_pos hl]
 · have hb := nxt_lt L t (by omega) t1 (by revert hl; show lastP L t ≠ true → _; cases lastP L t <;> simp)
   have he := bestG_same L W D d ((L.length : Int) + 1 - nxt L t).toNat (nxt L t) (capN W (num + 1)) (flagP L t) (by omega) (by omega) (by omega) (by omega)
   show pick s t (costR L D (ln L W f num t) fl + if lastP L t = true then 0 else (bestG L W D d (nxt L t) (capN W (num + 1)) (flagP L t)).2.1) (1 + if lastP L t = true then 0 else (bestG L W D d (nxt L t) (capN W (num + 1)) (flagP L t)).2.2) = _
   rw [he]
   rfl
section
variable (L : List S49) (W : List Int) (D : Int) (hF : Fine L) (hD : 0 ≤ D ∧ D ≤ 1000000) (w1 : 1 ≤ W.length) (hW : ∀ i : Int, 0 ≤ i → i < W.length → 1 ≤ rd W i ∧ rd W i ≤ 100000)
include hF hD w1 hW
theorem capN_nn (num : Int) (n0 : 0 ≤ num) : 0 ≤ capN W num := by unfold capN mn; split <;> omega
theorem fold_bd (f num : Int) (fl : Bool) (f0 : 0 ≤ f) (f1 : f ≤ L.length) (n0 : 0 ≤ num) (r : S41 → Int × Int × Int)
    (hr : ∀ x, x ∈ endsE L W f num → lastP L x.f1 = false → Bnd L (r x) ((L.length : Int) - nxt L x.f1)) :
    ∀ (l : List S41) (s : Int × Int × Int), (∀ x, x ∈ l → x ∈ endsE L W f num) → Bnd L s ((L.length : Int) - f) → Bnd L (l.foldl (stepG L D fl r) s) ((L.length : Int) - f)
 | [], s, _, h => h
 | x :: l, s, hm, h => by
  rw [List.foldl_cons]
  refine fold_bd f num fl f0 f1 n0 r hr l _ (fun y hy => hm y (List.mem_cons_of_mem _ hy)) ?_
  have hx := hm x List.mem_cons_self
  obtain ⟨t, ft, t1, e⟩ := endsE_mem L W f num x hx
  have hb := ln_bd L W hF w1 hW f num t f0 ft t1 n0
  rw [← e] at hb
  have ex : x.f1 = t := by rw [e]; rfl
  have hc := (costR_bd L D hF hD x fl (by omega) hb.1 hb.2.1.1 hb.2.2.1 hb.2.2.2).2
  unfold stepG
  have key : ∀ c k : Int, -(2300000000000 * ((L.length : Int) - f + 1)) ≤ c → c ≤ 2300000000000 * ((L.length : Int) - f + 1) → 0 ≤ k → k ≤ (L.length : Int) - f + 1 → Bnd L (pick s x.f1 c k) ((L.length : Int) - f) := by
   intro c k c0 c1 k0 k1
   unfold pick
   split
   · exact ⟨⟨by dsimp only; omega, by dsimp only; omega⟩, ⟨c0, c1⟩, ⟨k0, k1⟩⟩
   · exact h
  by_cases hl : lastP L x.f1 = true
  · rw [if_pos hl, if_pos hl]
    exact key _ _ (by omega) (by omega) (by omega) (by omega)
  · rw [if_neg hl, if_neg hl]
    have hl' : lastP L x.f1 = false := by cases h : lastP L x.f1 <;> simp_all
    have hbr := hr x hx hl'
    have hn := nxt_lt L x.f1 (by omega) (by omega) hl'
    obtain ⟨_, q1, q2⟩ := hbr
    exact key _ _ (by omega) (by omega) (by omega) (by omega)
theorem bestG_bd (d : Nat) : ∀ (f num : Int) (fl : Bool), 0 ≤ f → f ≤ L.length → 0 ≤ num → (L.length : Int) - f < d → Bnd L (bestG L W D d f num fl) ((L.length : Int) - f) := by
 induction d with
 | zero => intro f num fl f0 f1 n0 h; omega
 | succ d ih =>
  intro f num fl f0 f1 n0 h
  unfold bestG
  refine fold_bd L W D hF hD w1 hW f num fl f0 f1 n0 _ (fun x hx hl => ?_) _ _ (fun x hx => hx) (by unfold Bnd; dsimp only; omega)
  obtain ⟨t, ft, t1, e⟩ := endsE_mem L W f num x hx
  have ex : x.f1 = t := by rw [e]; rfl
  have hn := nxt_lt L x.f1 (by omega) (by omega) hl
  exact ih _ _ _ (by omega) (by omega) (capN_nn L W D hF hD w1 hW _ (by omega)) (by omega)
theorem bestP_bd (f num : Int) (fl : Bool) (f0 : 0 ≤ f) (f1 : f ≤ L.length) (n0 : 0 ≤ num) : Bnd L (bestP L W D f num fl) ((L.length : Int) - f) := bestG_bd L W D hF hD w1 hW _ f num fl f0 f1 n0 (by omega)
end
theorem fold_ge (L : List S49) (D : Int) (fl : Bool) (r : S41 → Int × Int × Int) (f : Int) : ∀ (l : List S41) (s : Int × Int × Int), (∀ x, x ∈ l → f ≤ x.f1) → (f ≤ s.1 ∨ (s.1 < 0 ∧ l ≠ [])) → f ≤ (l.foldl (stepG L D fl r) s).1
 | [], s, _, h => by rcases h with h | h; exact h; exact absurd rfl h.2
 | x :: l, s, hm, h => by
  rw [List.foldl_cons]
  refine fold_ge L D fl r f l _ (fun y hy => hm y (List.mem_cons_of_mem _ hy)) (.inl ?_)
  have := hm x List.mem_cons_self
  have key : ∀ c k : Int, f ≤ (pick s x.f1 c k).1 := by
   intro c k
   unfold pick
   split
   · exact this
   · rename_i hn
     rcases h with h | h
     · exact h
     · exact absurd (.inl h.1) hn
  exact key _ _
theorem bestP_ge (L : List S49) (W : List Int) (D f num : Int) (fl : Bool) (f0 : 0 ≤ f) (f1 : f ≤ L.length) : f ≤ (bestP L W D f num fl).1 := by
 rw [bestP_eq L W D f num fl f0 f1]
 refine fold_ge L D fl _ f _ _ (fun x hx => ?_) (.inr ⟨by decide, endsE_ne L W f num f0 f1⟩)
 obtain ⟨t, ft, _, rfl⟩ := endsE_mem L W f num x hx
 exact ft
end Go.Proofs.Ythapclmfkjldaaa.LinesP
