/- Proved: Report of the program adds the stretches between events up as the document tells, for every list of events and every time: a statement over numbers and lists alone, about the Lean functions of this seat's texts. No condition. -/
import Derived.Test.YtihmbddneapooaaHandCRb
import Derived.Test.YtihmbddneapooaaLib
namespace Go.Proofs.Ytihmbddneapooaa.Pure
open Go.RowKit Go.Proofs.Ytihmbddneapooaa.PClockLeft Go.Proofs.Ytihmbddneapooaa.HandCK Go.Proofs.Ytihmbddneapooaa.HandCR Go.Proofs.Ytihmbddneapooaa.QCL Go.Proofs.Ytihmbddneapooaa.QCR Go.Proofs.YtihmbddneapooaaW.PrintWords Go.Proofs.YtihmbddneapooaaW.PrintLast Go.Proofs.YtihmbddneapooaaW.PrintMore Go.Proofs.Ytihmbddneapooaa.Lib
set_option linter.unusedVariables false
set_option linter.unusedSimpArgs false
set_option linter.unusedSectionVars false
namespace ClockR
theorem in_ok (a b c : Int) : chanceryref3_In.f a b c = some (decide (b ≤ a ∧ a ≤ c)) := by
  unfold chanceryref3_In.f
  by_cases h : a ≥ b
  · rw [if_pos h]; congr 1; simp; omega
  · rw [if_neg h]; congr 1; simp; omega
/-- What no error means. -/
def Fit (last : Int) : List S72 → Prop
  | [] => True
  | x :: l => 0 ≤ x.f0 ∧ x.f0 ≤ 3 ∧ (x.f0 = 2 → 0 < x.f2) ∧ last ≤ x.f1 ∧ Fit x.f1 l
section
variable (l : List S72) (hl : l.length ≤ 1000) (i : Int) (h0 : 0 ≤ i) (h1 : i < l.length) (r : Bool) (last : Int) (st : Bool) (a b c : Int) (hx : rd_T72 l i = ⟨a, b, c⟩)
include hl h0 h1 hx
theorem c_kind (h : ¬ (0 ≤ a ∧ a ≤ 3)) : Ev (fun k => clock_Check.l0 k r last st l (l.length : Int) i) 8 := by
  refine Ev.step (fun k => by rw [clock_Check.l0]) (Ev.pos h1 (Ev.pos h0 (Ev.pos h1 ?_)))
  simp only [hx]
  by_cases ha : a < 0
  · exact Ev.pos ha (Ev.step (fun k => by rw [clock_Check.j1]) (Ev.pos rfl (Ev.now _)))
  · refine Ev.neg ha (Ev.step (fun k => by rw [clock_Check.j1]) (Ev.pos (decide_eq_true (by omega)) (Ev.now _)))
theorem c_fit (h : 0 ≤ a ∧ a ≤ 3) {e : Int} (k : Ev (fun k => clock_Check.j2 k r last st l (l.length : Int) i (!decide ((0 ≤ b ∧ b ≤ 10000000) ∧ (0 ≤ c ∧ c ≤ 1000))) a b c) e) : Ev (fun k => clock_Check.l0 k r last st l (l.length : Int) i) e := by
  refine Ev.step (fun k => by rw [clock_Check.l0]) (Ev.pos h1 (Ev.pos h0 (Ev.pos h1 ?_)))
  simp only [hx]
  refine Ev.neg (show ¬ a < 0 by omega) (Ev.step (fun k => by rw [clock_Check.j1]) (Ev.neg (by simp; omega) ?_))
  by_cases hb : b < 0
  · rw [decide_eq_false (by omega)] at k
    exact Ev.pos hb k
  refine Ev.neg hb ?_
  by_cases hb2 : b > 10000000
  · rw [decide_eq_false (by omega)] at k
    exact Ev.pos hb2 k
  refine Ev.neg hb2 ?_
  by_cases hc : c < 0
  · rw [decide_eq_false (by omega)] at k
    exact Ev.pos hc k
  refine Ev.neg hc ?_
  have e : (!decide ((0 ≤ b ∧ b ≤ 10000000) ∧ (0 ≤ c ∧ c ≤ 1000))) = decide (c > 1000) := by
    by_cases hc2 : c > 1000
    · rw [decide_eq_false (by omega), decide_eq_true hc2]; rfl
    · rw [decide_eq_true (by omega), decide_eq_false hc2]; rfl
  rw [e] at k
  exact k
theorem e_kind (h : ¬ (0 ≤ a ∧ a ≤ 3)) : Ev (fun k => chancerylaw3_clockError.l0 k l r l (l.length : Int) i) 8 := by
  refine Ev.step (fun k => by rw [chancerylaw3_clockError.l0]) (Ev.pos h1 (Ev.pos h0 (Ev.pos h1 ?_)))
  simp only [hx]
  refine Ev.bind0 (in_ok _ _ _) ?_
  rw [decide_eq_false h]
  exact Ev.neg (by simp) (Ev.now _)
theorem e_fit (h : 0 ≤ a ∧ a ≤ 3) {e : Int} (k : Ev (fun k => chancerylaw3_clockError.j1 k l r i l (l.length : Int) i (!decide ((0 ≤ b ∧ b ≤ 10000000) ∧ (0 ≤ c ∧ c ≤ 1000))) a b c) e) : Ev (fun k => chancerylaw3_clockError.l0 k l r l (l.length : Int) i) e := by
  refine Ev.step (fun k => by rw [chancerylaw3_clockError.l0]) (Ev.pos h1 (Ev.pos h0 (Ev.pos h1 ?_)))
  simp only [hx]
  refine Ev.bind0 (in_ok _ _ _) ?_
  rw [decide_eq_true h]
  refine Ev.pos rfl (Ev.bind0 (in_ok _ _ _) ?_)
  by_cases hb : 0 ≤ b ∧ b ≤ 10000000
  · rw [decide_eq_true hb]
    refine Ev.pos rfl (Ev.bind0 (in_ok _ _ _) ?_)
    have e : decide ((0 ≤ b ∧ b ≤ 10000000) ∧ (0 ≤ c ∧ c ≤ 1000)) = decide (0 ≤ c ∧ c ≤ 1000) := by simp [hb]
    rw [e] at k
    exact k
  · rw [decide_eq_false hb]
    rw [decide_eq_false (fun h => hb h.1)] at k
    exact Ev.neg (by simp) k
end
/-- Both checks answer alike. -/
theorem both (l : List S72) (hl : l.length ≤ 1000) : ∀ (d : Nat) (i : Int) (r : Bool) (last : Int) (st : Bool), 0 ≤ i → i + d = l.length → (i = 0 → st = false ∧ last = 0) → (0 < i → last = (rd_T72 l (i - 1)).f1 ∧ st = ((rd_T72 l (i - 1)).f0 == 3)) →
    ∃ e, Ev (fun k => clock_Check.l0 k r last st l (l.length : Int) i) e ∧ Ev (fun k => chancerylaw3_clockError.l0 k l r l (l.length : Int) i) e ∧ (e = 0 → Fit last (l.drop i.toNat)) := by
  intro d
  induction d with
  | zero =>
    intro i r last st h0 h1 _ _
    refine ⟨0, Ev.step (fun k => by rw [clock_Check.l0]) (Ev.neg (by omega) (Ev.now _)), Ev.step (fun k => by rw [chancerylaw3_clockError.l0]) (Ev.neg (by omega) (Ev.now _)), fun _ => ?_⟩
    rw [List.drop_eq_nil_of_le (by omega)]
    trivial
  | succ d ih =>
    intro i r last st h0 h1 hz hs
    obtain ⟨x, hx⟩ : ∃ x, rd_T72 l i = x := ⟨_, rfl⟩
    obtain ⟨a, b, c⟩ := x
    have hd : l.drop i.toNat = ⟨a, b, c⟩ :: l.drop (i + 1).toNat := by
      rw [List.drop_eq_getElem_cons (by omega), show (i + 1).toNat = i.toNat + 1 by omega, ← hx]
      unfold rd_T72
      rw [List.getD_eq_getElem?_getD, List.getElem?_eq_getElem (by omega)]
      rfl
    have hw : wrap64 (i + 1) = i + 1 := w64 (by omega) (by omega)
    have hi : i < (l.length : Int) := by omega
    by_cases ha : 0 ≤ a ∧ a ≤ 3
    rotate_left
    · exact ⟨8, c_kind l hl i h0 hi r last st a b c hx ha, e_kind l hl i h0 hi r a b c hx ha, fun h => absurd h (by decide)⟩
    have CF := fun {e : Int} => c_fit l hl i h0 hi r last st a b c hx ha (e := e)
    have EF := fun {e : Int} => e_fit l hl i h0 hi r a b c hx ha (e := e)
    by_cases hb : (0 ≤ b ∧ b ≤ 10000000) ∧ (0 ≤ c ∧ c ≤ 1000)
    rotate_left
    · rw [decide_eq_false hb] at CF EF
      refine ⟨2, CF (Ev.step (fun k => by rw [clock_Check.j2]) ?_), EF (Ev.step (fun k => by rw [chancerylaw3_clockError.j1]) ?_), fun h => absurd h (by decide)⟩
      · exact Ev.pos rfl (Ev.now _)
      · exact Ev.pos rfl (Ev.now _)
    rw [decide_eq_true hb] at CF EF
    by_cases hf : a = 2 ↔ c > 0
    rotate_left
    · refine ⟨4, CF (Ev.step (fun k => by rw [clock_Check.j2]) (Ev.neg (by simp) (Ev.pos ?_ (Ev.now _)))), EF (Ev.step (fun k => by rw [chancerylaw3_clockError.j1]) (Ev.neg (by simp) (Ev.pos ?_ (Ev.now _)))), fun h => absurd h (by decide)⟩
      · by_cases e : a = 2 <;> by_cases g : c > 0 <;> simp_all
      · by_cases e : a = 2
        · have g : c = 0 := by omega
          subst e g; rfl
        · have g : c ≠ 0 := by omega
          rw [beq_eq_false_iff_ne.2 e, beq_eq_false_iff_ne.2 g]; rfl
    have CF2 : ∀ {e : Int}, Ev (fun k => if b < last then some 5 else if st = true then clock_Check.j3 k r st l (l.length : Int) i true a b c else if a = 0 then (if r = true then clock_Check.j3 k r st l (l.length : Int) i true a b c else if a = 1 then clock_Check.j3 k r st l (l.length : Int) i (!r) a b c else clock_Check.j3 k r st l (l.length : Int) i false a b c) else if a = 1 then clock_Check.j3 k r st l (l.length : Int) i (!r) a b c else clock_Check.j3 k r st l (l.length : Int) i false a b c) e → Ev (fun k => clock_Check.l0 k r last st l (l.length : Int) i) e := fun h => by
      refine CF (Ev.step (fun k => by rw [clock_Check.j2]) (Ev.neg (by simp) (Ev.neg ?_ h)))
      by_cases e : a = 2
      · have g : c > 0 := hf.1 e
        rw [decide_eq_true g]; subst e; decide
      · have g : ¬ c > 0 := fun g => e (hf.2 g)
        rw [decide_eq_false g, beq_eq_false_iff_ne.2 e]; decide
    have EF2 : ∀ {e : Int}, Ev (fun k => if i > 0 then (if 0 ≤ wrap64 (i - 1) then (if wrap64 (i - 1) < (l.length : Int) then chancerylaw3_clockError.j2 k l r i l (l.length : Int) i (decide (b < (rd_T72 l (wrap64 (i - 1))).f1)) a b c else none) else none) else chancerylaw3_clockError.j2 k l r i l (l.length : Int) i false a b c) e → Ev (fun k => chancerylaw3_clockError.l0 k l r l (l.length : Int) i) e := fun h => by
      refine EF (Ev.step (fun k => by rw [chancerylaw3_clockError.j1]) (Ev.neg (by simp) (Ev.neg ?_ h)))
      by_cases e : a = 2
      · have g : c ≠ 0 := by have := hf.1 e; omega
        rw [beq_eq_false_iff_ne.2 g]; subst e; decide
      · have g : c = 0 := by have : ¬ c > 0 := fun g => e (hf.2 g); omega
        rw [beq_eq_false_iff_ne.2 e]; subst g; decide
    clear CF EF
    -- the law's test of order and of the stop
    have EF3 : ∀ {e : Int}, Ev (fun k => if decide (b < last) = true then some 5 else chancerylaw3_clockError.j3 k l r l (l.length : Int) i st a b c) e → Ev (fun k => chancerylaw3_clockError.l0 k l r l (l.length : Int) i) e := fun {e} h => by
      by_cases hi0 : i > 0
      · obtain ⟨e1, e2⟩ := hs hi0
        have hp : wrap64 (i - 1) = i - 1 := w64 (by omega) (by omega)
        refine EF2 (Ev.pos hi0 ?_)
        rw [hp]
        refine Ev.pos (by omega) (Ev.pos (by omega) ?_)
        rw [← e1]
        refine Ev.step (fun k => by rw [chancerylaw3_clockError.j2]) ?_
        rw [hp, ← e2]
        by_cases hlt : b < last
        · rw [decide_eq_true hlt] at h ⊢
          exact h
        · rw [decide_eq_false hlt] at h ⊢
          refine Ev.neg (by simp) (Ev.pos hi0 (Ev.pos (by omega) (Ev.pos (by omega) ?_)))
          exact Ev.congr (fun _ => (if_neg (by simp)).symm) h
      · obtain ⟨e1, e2⟩ := hz (by omega)
        refine EF2 (Ev.neg hi0 ?_)
        refine Ev.step (fun k => by rw [chancerylaw3_clockError.j2]) (Ev.neg (by simp) (Ev.neg hi0 ?_))
        rw [e1, e2, decide_eq_false (by omega)] at h
        exact Ev.congr (fun _ => (if_neg (by simp)).symm) h
    by_cases hlt : b < last
    · exact ⟨5, CF2 (Ev.pos hlt (Ev.now _)), EF3 (Ev.dpos hlt (Ev.now _)), fun h => absurd h (by decide)⟩
    have bad : ∀ f : Bool, f = true → Ev (fun k => clock_Check.j3 k r st l (l.length : Int) i f a b c) 13 := fun f hf => Ev.step (fun k => by rw [clock_Check.j3]) (Ev.pos hf (Ev.now _))
    by_cases hst : st = true
    · refine ⟨13, CF2 (Ev.neg hlt (Ev.pos hst (bad _ rfl))), EF3 (Ev.dneg hlt (Ev.step (fun k => by rw [chancerylaw3_clockError.j3]) (Ev.pos hst (Ev.now _)))), fun h => absurd h (by decide)⟩
    have EF4 : ∀ {e : Int}, Ev (fun k => if a = 0 then chancerylaw3_clockError.j4 k l r l (l.length : Int) i r a b c else chancerylaw3_clockError.j4 k l r l (l.length : Int) i false a b c) e → Ev (fun k => chancerylaw3_clockError.l0 k l r l (l.length : Int) i) e := fun h => EF3 (Ev.dneg hlt (Ev.step (fun k => by rw [chancerylaw3_clockError.j3]) (Ev.neg hst h)))
    have next : ∀ r' : Bool, ∃ e, Ev (fun k => clock_Check.l0 k r' b (a == 3) l (l.length : Int) (wrap64 (i + 1))) e ∧ Ev (fun k => chancerylaw3_clockError.l0 k l r' l (l.length : Int) (wrap64 (i + 1))) e ∧ (e = 0 → Fit last (l.drop i.toNat)) := by
      intro r'
      obtain ⟨e, e1, e2, e3⟩ := ih (i + 1) r' b (a == 3) (by omega) (by omega) (fun h => by omega) (fun _ => by rw [show i + 1 - 1 = i by omega, hx]; exact ⟨rfl, rfl⟩)
      rw [hw]
      refine ⟨e, e1, e2, fun e0 => ?_⟩
      rw [hd]
      exact ⟨ha.1, ha.2, fun h => hf.1 h, by show last ≤ b; omega, e3 e0⟩
    have hst0 : st = false := by cases st <;> simp_all
    subst hst0
    have ok : ∀ {e : Int}, Ev (fun k => if a = 0 then clock_Check.l0 k true b false l (l.length : Int) (wrap64 (i + 1)) else if a = 1 then clock_Check.l0 k false b false l (l.length : Int) (wrap64 (i + 1)) else if a = 3 then clock_Check.l0 k false b true l (l.length : Int) (wrap64 (i + 1)) else clock_Check.l0 k r b false l (l.length : Int) (wrap64 (i + 1))) e → Ev (fun k => clock_Check.j3 k r false l (l.length : Int) i false a b c) e := fun h => Ev.step (fun k => by rw [clock_Check.j3]) (Ev.neg (by simp) h)
    have B4 : Ev (fun k => chancerylaw3_clockError.j4 k l r l (l.length : Int) i true a b c) 13 := Ev.step (fun k => by rw [chancerylaw3_clockError.j4]) (Ev.pos rfl (Ev.now _))
    have J4 : ∀ {e : Int}, Ev (fun k => if a = 1 then (if r = true then chancerylaw3_clockError.l0 k l (a == 0) l (l.length : Int) (wrap64 (i + 1)) else some 13) else (if r = true then (if a = 3 then chancerylaw3_clockError.l0 k l (a == 0) l (l.length : Int) (wrap64 (i + 1)) else chancerylaw3_clockError.l0 k l true l (l.length : Int) (wrap64 (i + 1))) else chancerylaw3_clockError.l0 k l (a == 0) l (l.length : Int) (wrap64 (i + 1)))) e → Ev (fun k => chancerylaw3_clockError.j4 k l r l (l.length : Int) i false a b c) e := fun h => Ev.step (fun k => by rw [chancerylaw3_clockError.j4]) (Ev.neg (by simp) h)
    have a4 : a = 0 ∨ a = 1 ∨ a = 2 ∨ a = 3 := by omega
    rcases a4 with rfl | rfl | rfl | rfl
    · cases r with
      | true => exact ⟨13, CF2 (Ev.neg hlt (Ev.neg (by simp) (Ev.pos rfl (Ev.pos rfl (bad _ rfl))))), EF4 (Ev.pos rfl B4), fun h => absurd h (by decide)⟩
      | false =>
        obtain ⟨e, e1, e2, e3⟩ := next true
        exact ⟨e, CF2 (Ev.neg hlt (Ev.neg (by simp) (Ev.pos rfl (Ev.neg (by simp) (Ev.neg (by decide) (ok (Ev.pos rfl e1))))))), EF4 (Ev.pos rfl (J4 (Ev.neg (by decide) (Ev.neg (by simp) e2)))), e3⟩
    · cases r with
      | true =>
        obtain ⟨e, e1, e2, e3⟩ := next false
        exact ⟨e, CF2 (Ev.neg hlt (Ev.neg (by simp) (Ev.neg (by decide) (Ev.pos rfl (ok (Ev.neg (by decide) (Ev.pos rfl e1))))))), EF4 (Ev.neg (by decide) (J4 (Ev.pos rfl (Ev.pos rfl e2)))), e3⟩
      | false => exact ⟨13, CF2 (Ev.neg hlt (Ev.neg (by simp) (Ev.neg (by decide) (Ev.pos rfl (bad _ rfl))))), EF4 (Ev.neg (by decide) (J4 (Ev.pos rfl (Ev.neg (by simp) (Ev.now _))))), fun h => absurd h (by decide)⟩
    · obtain ⟨e, e1, e2, e3⟩ := next r
      refine ⟨e, CF2 (Ev.neg hlt (Ev.neg (by simp) (Ev.neg (by decide) (Ev.neg (by decide) (ok (Ev.neg (by decide) (Ev.neg (by decide) (Ev.neg (by decide) e1)))))))), EF4 (Ev.neg (by decide) (J4 (Ev.neg (by decide) ?_))), e3⟩
      cases r with
      | true => exact Ev.pos rfl (Ev.neg (by decide) e2)
      | false => exact Ev.neg (by simp) e2
    · obtain ⟨e, e1, e2, e3⟩ := next false
      refine ⟨e, CF2 (Ev.neg hlt (Ev.neg (by simp) (Ev.neg (by decide) (Ev.neg (by decide) (ok (Ev.neg (by decide) (Ev.neg (by decide) (Ev.pos rfl e1)))))))), EF4 (Ev.neg (by decide) (J4 (Ev.neg (by decide) ?_))), e3⟩
      cases r with
      | true => exact Ev.pos rfl (Ev.pos rfl e2)
      | false => exact Ev.neg (by simp) e2
theorem checks (l : List S72) : ∃ e, Ev (fun k => clock_Check.f k l) e ∧ Ev (fun k => chancerylaw3_clockError.f k l) e ∧ (e = 0 → l.length ≤ 1000 ∧ Fit 0 l) := by
  unfold clock_Check.f chancerylaw3_clockError.f
  by_cases h : (l.length : Int) > 1000
  · exact ⟨3, Ev.pos h (Ev.now _), Ev.pos h (Ev.now _), fun e => absurd e (by decide)⟩
  · obtain ⟨e, e1, e2, e3⟩ := both l (by omega) l.length 0 false 0 false (by omega) (by omega) (fun _ => ⟨rfl, rfl⟩) (fun h => by omega)
    exact ⟨e, Ev.neg h e1, Ev.neg h e2, fun h => ⟨by omega, e3 h⟩⟩
/- What Report's fold and the law's own loop reckon. -/
def Inv (s : Rep) : Prop := wrap64 s.tot = s.tot ∧ (∀ y ∈ s.sls, wrap64 y.f1 = y.f1) ∧ (s.sls.map S74.f0).Nodup ∧ (s.sl = 0 ∨ s.sl ∈ s.sls.map S74.f0)
theorem wrap_wrap (n : Int) : wrap64 (wrap64 n) = wrap64 n := by unfold wrap64; omega
theorem pass_f0 (sl d : Int) (x : S74) : (passX sl d x).f0 = x.f0 := by unfold passX; split <;> rfl
theorem pass_map (sl d : Int) (xs : List S74) : (xs.map (passX sl d)).map S74.f0 = xs.map S74.f0 := by
  rw [List.map_map]
  exact List.map_congr_left fun x _ => pass_f0 sl d x
theorem inv_pass {s : Rep} (h : Inv s) (d : Int) : Inv (passF s d) := by
  unfold passF
  split
  · obtain ⟨h1, h2, h3, h4⟩ := h
    refine ⟨wrap_wrap _, fun y hy => ?_, ?_, ?_⟩
    · obtain ⟨x, hx, rfl⟩ := List.mem_map.1 hy
      unfold passX
      split
      · exact wrap_wrap _
      · exact h2 x hx
    · show ((s.sls.map (passX s.sl d)).map S74.f0).Nodup
      rw [pass_map]; exact h3
    · show s.sl = 0 ∨ s.sl ∈ (s.sls.map (passX s.sl d)).map S74.f0
      rw [pass_map]; exact h4
  · exact h
theorem pass_zero {s : Rep} (h : Inv s) : passF s 0 = s := by
  obtain ⟨run, tot, sl, xs⟩ := s
  obtain ⟨h1, h2, -, -⟩ := h
  cases run
  · rfl
  · have e : xs.map (passX sl 0) = xs := by
      refine (List.map_congr_left fun x hx => ?_).trans (List.map_id xs)
      unfold passX
      split
      · have h9 := h2 x hx
        rw [Int.add_zero, h9]
        rfl
      · rfl
    show (⟨true, wrap64 (tot + 0), sl, xs.map (passX sl 0)⟩ : Rep) = ⟨true, tot, sl, xs⟩
    rw [e, Int.add_zero, show wrap64 tot = tot from h1]
theorem pass_fix {s : Rep} (h : Inv s) {d : Int} (hd : d = 0) : passF s (wrap64 d) = s := by
  subst hd
  rw [show wrap64 0 = 0 from w64 (by omega) (by omega)]
  exact pass_zero h
/-- Events behind the time change nothing. -/
theorem last_one (at_ : Int) (s : Rep) (t : Int) : (stepE at_ (s, t) ⟨-1, at_, 0⟩).1 = passF s (wrap64 (at_ - t)) := by
  unfold stepE
  rw [if_neg (show ¬ at_ < (⟨-1, at_, 0⟩ : S72).f1 from Int.lt_irrefl at_), if_neg (show ¬ (⟨-1, at_, 0⟩ : S72).f0 = 0 from (by decide : ¬ (-1 : Int) = 0)), if_neg (show ¬ ((⟨-1, at_, 0⟩ : S72).f0 = 1 ∨ (⟨-1, at_, 0⟩ : S72).f0 = 3) from (by decide : ¬ ((-1 : Int) = 1 ∨ (-1 : Int) = 3))), if_neg (show ¬ (⟨-1, at_, 0⟩ : S72).f0 = 2 from (by decide : ¬ (-1 : Int) = 2))]
theorem still (at_ : Int) {s : Rep} (h : Inv s) : ∀ (l : List S72) (last : Int), at_ < last → Fit last l → ((l ++ ([⟨-1, at_, 0⟩] : List S72)).foldl (stepE at_) (s, at_)).1 = s
  | [], _, _, _ => by
    show (stepE at_ (s, at_) ⟨-1, at_, 0⟩).1 = s
    rw [last_one]
    exact pass_fix h (by simp)
  | x :: l, last, hl, hF => by
    obtain ⟨_, _, _, h4, h5⟩ := hF
    have e : stepE at_ (s, at_) x = (s, at_) := by
      unfold stepE
      rw [if_pos (by omega)]
      exact Prod.ext (pass_fix h (by simp)) rfl
    rw [List.cons_append, List.foldl_cons, e]
    exact still at_ h l x.f1 (by omega) h5
/-- The last place of a number that is there, where the numbers differ. -/
theorem lastAt_none (n : Int) (xs : List S74) : ∀ i : Nat, i ≤ xs.length → (∀ j : Nat, j < i → (xs.getD j z74).f0 ≠ n) → lastAt n xs i = -1
  | 0, _, _ => rfl
  | i + 1, hi, h => by
    rw [lastAt, if_neg (h i (by omega))]
    exact lastAt_none n xs i (by omega) fun j hj => h j (by omega)
theorem lastAt_some (n : Int) (xs : List S74) (k : Nat) (hk : (xs.getD k z74).f0 = n) : ∀ i : Nat, k < i → (∀ j : Nat, k < j → j < i → (xs.getD j z74).f0 ≠ n) → lastAt n xs i = k
  | 0, h, _ => absurd h (by omega)
  | i + 1, h, g => by
    rw [lastAt]
    by_cases e : k = i
    · subst e
      rw [if_pos hk]
    · rw [if_neg (g i (by omega) (by omega))]
      exact lastAt_some n xs k hk i (by omega) fun j h1 h2 => g j h1 (by omega)
theorem nodup_ne {xs : List S74} (h : (xs.map S74.f0).Nodup) {j k : Nat} (hj : j < xs.length) (hk : k < xs.length) (e : (xs.getD j z74).f0 = (xs.getD k z74).f0) : j = k := by
  rw [List.getD_eq_getElem?_getD, List.getD_eq_getElem?_getD, List.getElem?_eq_getElem hj, List.getElem?_eq_getElem hk] at e
  have e : xs[j].f0 = xs[k].f0 := e
  have h9 := List.pairwise_iff_getElem.1 h
  rcases Nat.lt_trichotomy j k with g | g | g
  · have := h9 j k (by simpa using hj) (by simpa using hk) g
    simp only [List.getElem_map] at this
    exact absurd e this
  · exact g
  · have := h9 k j (by simpa using hk) (by simpa using hj) g
    simp only [List.getElem_map] at this
    exact absurd e.symm this
theorem first_or (n : Int) (xs : List S74) : (∀ j : Nat, j < xs.length → (xs.getD j z74).f0 ≠ n) ∨ ∃ k : Nat, k < xs.length ∧ (xs.getD k z74).f0 = n ∧ ∀ j : Nat, j < k → (xs.getD j z74).f0 ≠ n := by
  rcases first_bad (fun i => (xs.getD i.toNat z74).f0 ≠ n) xs.length with h | ⟨b, b0, b1, hb, hs⟩
  · exact .inl fun j hj => h j (by omega) (by omega)
  · refine .inr ⟨b.toNat, by omega, by simpa using hb, fun j hj => hs j (by omega) (by omega)⟩
theorem mem_at {n : Int} {xs : List S74} (h : n ∈ xs.map S74.f0) : ∃ k : Nat, k < xs.length ∧ (xs.getD k z74).f0 = n := by
  obtain ⟨x, hx, rfl⟩ := List.mem_map.1 h
  obtain ⟨k, hk, rfl⟩ := List.getElem_of_mem hx
  exact ⟨k, hk, by rw [List.getD_eq_getElem?_getD, List.getElem?_eq_getElem hk]; rfl⟩
theorem show_same {s : Rep} (h : Inv s) {n : Int} (hn : 0 < n) : showF s n = lawShow s n := by
  obtain ⟨run, tot, sl, xs⟩ := s
  obtain ⟨-, -, h3, h4⟩ := h
  have h3 : (xs.map S74.f0).Nodup := h3
  have h4 : sl = 0 ∨ sl ∈ xs.map S74.f0 := h4
  show (⟨run, tot, n, showL (sl == n) n xs⟩ : Rep) = ⟨run, tot, n, _⟩
  congr 1
  show showL (sl == n) n xs = if sl = n then addF ⟨run, tot, sl, xs⟩ n else _
  rcases first_or n xs with hno | ⟨k, hk, hkn, hks⟩
  · have e := lastAt_none n xs xs.length (Nat.le_refl _) hno
    have hsl : sl ≠ n := by
      rintro rfl
      rcases h4 with h4 | h4
      · omega
      · obtain ⟨k, hk, e⟩ := mem_at h4
        exact hno k hk e
    have hlt : lastAt n (⟨run, tot, sl, xs⟩ : Rep).sls (⟨run, tot, sl, xs⟩ : Rep).sls.length < 0 := by show lastAt n xs xs.length < 0; omega
    rw [showL_none _ n xs hno, if_neg hsl, addF_new _ n hlt, addK_new _ n hlt]
    show xs ++ [⟨n, 0, 1⟩] = (xs ++ ([⟨n, 0, 0⟩] : List S74)).set (xs.length : Int).toNat (upX ((xs ++ ([⟨n, 0, 0⟩] : List S74)).getD (xs.length : Int).toNat z74))
    rw [Int.toNat_natCast, List.getD_eq_getElem?_getD, List.getElem?_append_right (Nat.le_refl _), List.set_append_right _ _ (Nat.le_refl _), Nat.sub_self]
    show xs ++ [⟨n, 0, 1⟩] = xs ++ [(⟨n, 0, wrap64 (0 + 1)⟩ : S74)]
    rw [show wrap64 (0 + 1) = 1 from w64 (by omega) (by omega)]
  · have e := lastAt_some n xs k hkn xs.length hk fun j h1 h2 e2 => by
      have := nodup_ne h3 h2 hk (e2.trans hkn.symm)
      omega
    have hlt : ¬ lastAt n (⟨run, tot, sl, xs⟩ : Rep).sls (⟨run, tot, sl, xs⟩ : Rep).sls.length < 0 := by show ¬ lastAt n xs xs.length < 0; omega
    rw [showL_at _ n xs k hk hkn hks, addF_old _ n hlt, addK_old _ n hlt]
    show (if (sl == n) = true then xs else xs.set k (upX (xs.getD k z74))) = if sl = n then xs else xs.set (lastAt n xs xs.length).toNat (upX (xs.getD (lastAt n xs xs.length).toNat z74))
    rw [e, Int.toNat_natCast]
    by_cases g : sl = n
    · rw [if_pos g, if_pos (beq_iff_eq.2 g)]
    · rw [if_neg g, if_neg (by simpa using g)]
theorem showL_mem (ag : Bool) (n : Int) : ∀ xs : List S74, (∀ y ∈ xs, wrap64 y.f1 = y.f1) → ∀ y ∈ showL ag n xs, wrap64 y.f1 = y.f1
  | [], _, y, hy => by
    simp only [showL, List.mem_singleton] at hy
    subst hy
    exact w64 (n := 0) (by omega) (by omega)
  | x :: l, h, y, hy => by
    rw [showL] at hy
    split at hy
    · rcases List.mem_cons.1 hy with rfl | hy
      · split
        · exact h x (by simp)
        · exact h x (by simp)
      · exact h y (by simp [hy])
    · rcases List.mem_cons.1 hy with rfl | hy
      · exact h _ (by simp)
      · exact showL_mem ag n l (fun z hz => h z (by simp [hz])) y hy
theorem showL_map (ag : Bool) (n : Int) : ∀ xs : List S74, (showL ag n xs).map S74.f0 = if n ∈ xs.map S74.f0 then xs.map S74.f0 else xs.map S74.f0 ++ [n]
  | [] => by simp [showL]
  | x :: l => by
    rw [showL]
    by_cases e : x.f0 = n
    · rw [if_pos e, if_pos (show n ∈ (x :: l).map S74.f0 by rw [List.map_cons, e]; exact List.mem_cons_self)]
      cases ag <;> rfl
    · rw [if_neg e, List.map_cons, List.map_cons, showL_map ag n l]
      have e2 : n ∈ x.f0 :: l.map S74.f0 ↔ n ∈ l.map S74.f0 := by
        rw [List.mem_cons]
        exact ⟨fun h => h.resolve_left fun h => e h.symm, .inr⟩
      by_cases g : n ∈ l.map S74.f0
      · rw [if_pos g, if_pos (e2.2 g)]
      · rw [if_neg g, if_neg fun h => g (e2.1 h)]
        rfl
theorem inv_show {s : Rep} (h : Inv s) (n : Int) : Inv (showF s n) := by
  obtain ⟨h1, h2, h3, h4⟩ := h
  refine ⟨h1, showL_mem _ _ _ h2, ?_, .inr ?_⟩
  · show ((showL (s.sl == n) n s.sls).map S74.f0).Nodup
    rw [showL_map]
    split
    · exact h3
    · rename_i g
      refine List.nodup_append.2 ⟨h3, by simp, ?_⟩
      intro a ha b hb
      simp only [List.mem_singleton] at hb
      subst hb
      intro e
      exact g (e ▸ ha)
  · show n ∈ (showL (s.sl == n) n s.sls).map S74.f0
    rw [showL_map]
    split
    · rename_i g; exact g
    · simp
theorem inv_run {s : Rep} (h : Inv s) (b : Bool) : Inv { s with run := b } := h
theorem step_on {at_ : Int} {s : Rep} (h : Inv s) {t : Int} {x : S72} (hx : ¬ at_ < x.f1) (h0 : 0 ≤ x.f0) (h3 : x.f0 ≤ 3) (h2 : x.f0 = 2 → 0 < x.f2) : stepE at_ (s, t) x = (lawKind (passF s (wrap64 (x.f1 - t))) x, x.f1) ∧ Inv (lawKind (passF s (wrap64 (x.f1 - t))) x) := by
  have hI := inv_pass h (wrap64 (x.f1 - t))
  unfold stepE lawKind
  rw [if_neg hx]
  dsimp only
  generalize passF s (wrap64 (x.f1 - t)) = s1 at hI
  by_cases k0 : x.f0 = 0
  · rw [if_pos k0, if_pos k0]
    exact ⟨rfl, inv_run hI true⟩
  by_cases k2 : x.f0 = 2
  · rw [if_neg k0, if_neg (by omega), if_pos k2, if_neg k0, if_pos k2, ← show_same hI (h2 k2)]
    exact ⟨rfl, inv_show hI x.f2⟩
  · rw [if_neg k0, if_pos (by omega), if_neg k0, if_neg k2]
    exact ⟨rfl, inv_run hI false⟩
/-- The fold is the law's loop. -/
theorem folds (at_ : Int) : ∀ (l : List S72) (s : Rep) (t : Int), Inv s → Fit t l → ((l ++ ([⟨-1, at_, 0⟩] : List S72)).foldl (stepE at_) (s, t)).1 = lawGo at_ (passF s (wrap64 (toOf at_ l - t))) l
  | [], s, t, _, _ => by
    exact last_one at_ s t
  | x :: l, s, t, hI, hF => by
    obtain ⟨g0, g3, g2, gt, hF2⟩ := hF
    rw [List.cons_append, List.foldl_cons, lawGo, toOf]
    by_cases hx : at_ < x.f1
    · rw [if_pos hx, show mn at_ x.f1 = at_ by unfold mn; omega]
      have e : stepE at_ (s, t) x = (passF s (wrap64 (at_ - t)), at_) := by unfold stepE; rw [if_pos hx]
      rw [e]
      exact still at_ (inv_pass hI _) l x.f1 hx hF2
    · rw [if_neg hx, show mn at_ x.f1 = x.f1 by unfold mn; omega]
      obtain ⟨e, hI2⟩ := step_on (t := t) hI hx g0 g3 g2
      rw [e, folds at_ l _ x.f1 hI2 hF2]
      rfl
theorem reports (l : List S72) (at_ : Int) (hF : Fit 0 l) : (after at_ (evs l at_) (l.length + 1)).1 = lawGo at_ ⟨false, 0, 0, []⟩ l := by
  unfold after evs
  rw [List.take_of_length_le (by simp)]
  exact folds at_ l ⟨false, 0, 0, []⟩ 0 ⟨w64 (n := 0) (by omega) (by omega), fun y hy => by simp at hy, by simp, .inl rfl⟩ hF
end ClockR
open ClockR in
theorem ClockReports (l : List S72) (a : Int) : ∃ k, chancerylaw3_ClockReports.f k l a = some true := by
  refine Ev.rounds (r := true) ?_
  unfold chancerylaw3_ClockReports.f
  refine Ev.bind (a := true) (Ev.of (fun k => chancerylaw3_clocked.mono k) (k := 40) (by decide +kernel)) ?_
  obtain ⟨e, e1, e2, e3⟩ := checks l
  by_cases e0 : e = 0
  · subst e0
    obtain ⟨hl, hF⟩ := e3 rfl
    by_cases h : a < 0 ∨ a > 10000000
    · have hR : Ev (fun k => clock_Report.f k l a) (false, 0, 0, [], 2) := by
        unfold clock_Report.f
        exact Ev.bind e1 (Ev.pos rfl (Ev.pos h (Ev.now _)))
      refine Ev.bind hR (Ev.bind e2 (Ev.bind e1 (Ev.pos ⟨rfl, rfl⟩ (Ev.neg (by simp) (Ev.neg (by omega) (Ev.pos ⟨rfl, rfl, rfl⟩ (Ev.now _)))))))
    · have hR : Ev (fun k => clock_Report.f k l a) ((after a (evs l a) (l.length + 1)).1.run, (after a (evs l a) (l.length + 1)).1.tot, (after a (evs l a) (l.length + 1)).1.sl, (after a (evs l a) (l.length + 1)).1.sls, 0) := by
        unfold clock_Report.f
        exact Ev.bind e1 (Ev.pos rfl (Ev.neg h (Ev.pos hl (Ev.now _))))
      refine Ev.bind hR (Ev.bind e2 (Ev.bind e1 (Ev.pos ⟨rfl, rfl⟩ (Ev.neg (by simp) (Ev.pos (by omega) (Ev.pos ⟨hl, rfl⟩ (Ev.ret ?_)))))))
      rw [reports l a hF]
      exact same_yes ⟨rfl, rfl, rfl, rfl⟩
  · have hR : Ev (fun k => clock_Report.f k l a) (false, 0, 0, [], e) := by
      unfold clock_Report.f
      exact Ev.bind e1 (Ev.neg e0 (Ev.now _))
    exact Ev.bind hR (Ev.bind e2 (Ev.bind e1 (Ev.pos ⟨rfl, rfl⟩ (Ev.pos e0 (Ev.pos ⟨rfl, rfl, rfl⟩ (Ev.now _))))))
end Go.Proofs.Ytihmbddneapooaa.Pure
