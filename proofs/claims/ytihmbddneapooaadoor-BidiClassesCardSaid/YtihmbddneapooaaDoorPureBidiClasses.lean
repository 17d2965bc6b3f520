/- Proved: Class and Mirror of the program, over their tables, are Direction and the pairs of the document, for the numbers that the statement tries, from every whole number: a statement over numbers and lists alone, about the Lean functions of this seat's texts. No condition. -/
import Derived.Test.YtihmbddneapooaaDoorQBCx1
import Derived.Test.YtihmbddneapooaaDoorQBCx2
import Derived.Test.YtihmbddneapooaaDoorQBCx3
import Derived.Test.YtihmbddneapooaaDoorLib
namespace Go.Proofs.YtihmbddneapooaaDoor.Pure
open Go.RowKit Go.Proofs.YtihmbddneapooaaDoor.QBC Go.Proofs.YtihmbddneapooaaDoor.HandBC Go.Proofs.YtihmbddneapooaaDoorW.PrintWords Go.Proofs.YtihmbddneapooaaDoorW.PrintLast Go.Proofs.YtihmbddneapooaaDoorW.PrintMore Go.Proofs.YtihmbddneapooaaDoor.Lib
namespace BidiCls
theorem in_ok (a b c : Int) : chanceryref3_In.f a b c = some (decide (b ≤ a ∧ a ≤ c)) := by
  unfold chanceryref3_In.f
  by_cases h : a ≥ b
  · rw [if_pos h]; congr 1; simp; omega
  · rw [if_neg h]; congr 1; simp; omega
theorem within_ok (x lo hi : Int) (h0 : 0 ≤ lo) (h1 : lo ≤ hi) (h2 : hi ≤ 1000000000000) : ∃ t, chancerylaw3_within.f x lo hi = some t ∧ lo ≤ t ∧ t ≤ hi := by
  unfold chancerylaw3_within.f
  rw [w64 (n := hi - lo) (by omega) (by omega), w64 (n := hi - lo + 1) (by omega) (by omega), if_neg (by omega)]
  generalize hn : hi - lo + 1 = n at *
  have b1 : -n < Int.tmod x n ∧ Int.tmod x n < n := by
    rw [tmod_down x n (by omega)]
    have e2 := Int.emod_nonneg x (by omega : n ≠ 0)
    have e3 := Int.emod_lt_of_pos x (by omega : 0 < n)
    split <;> omega
  rw [w64 (n := Int.tmod x n + n) (by omega) (by omega), tmod_nn (by omega)]
  have e2 := Int.emod_nonneg (Int.tmod x n + n) (by omega : n ≠ 0)
  have e3 := Int.emod_lt_of_pos (Int.tmod x n + n) (by omega : 0 < n)
  rw [w64 (by omega) (by omega)]
  exact ⟨_, rfl, by omega, by omega⟩
theorem some_ok (c : Int) : ∃ xs : List Int, chancerylaw3_some.f c = some xs ∧ xs.length = 5 := by
  have key : ∀ L : List Int, 1 ≤ L.length → L.length ≤ 1000 → ∃ xs : List Int, ((chancerylaw3_within.f c 0 (wrap64 ((L.length : Int) - 1))).bind fun t => (if 0 ≤ t then (if t < (L.length : Int) then ((chancerylaw3_within.f c 0 12288).bind fun u => (some (([c, u, wrap64 ((rd L t) - 1), rd L t, wrap64 ((rd L t) + 1)] : List Int)))) else (none)) else (none))) = some xs ∧ xs.length = 5 := by
    intro L h1 h2
    obtain ⟨t, ht, t0, t1⟩ := within_ok c 0 ((L.length : Int) - 1) (by omega) (by omega) (by omega)
    obtain ⟨u, hu, _, _⟩ := within_ok c 0 12288 (by omega) (by omega) (by omega)
    rw [w64 (n := (L.length : Int) - 1) (by omega) (by omega), ht]
    simp only [Option.bind_some]
    rw [if_pos t0, if_pos (by omega), hu]
    exact ⟨_, rfl, rfl⟩
  exact key _ (by decide) (by decide)
/-- c and d lie on the same side of each of some numbers. -/
def Same (P : List Int) (c d : Int) : Prop := ∀ p ∈ P, (p ≤ c ↔ p ≤ d)
theorem same_rep (P : List Int) (c : Int) (h : ∃ p ∈ P, p ≤ c) : ∃ d ∈ P, Same P c d := by
  have key : ∀ Q : List Int, (∃ p ∈ Q, p ≤ c) → ∃ d ∈ Q, d ≤ c ∧ ∀ p ∈ Q, p ≤ c → p ≤ d := by
    intro Q
    induction Q with
    | nil => intro ⟨p, hp, _⟩; cases hp
    | cons q Q ih =>
      intro _
      by_cases hQ : ∃ p ∈ Q, p ≤ c
      · obtain ⟨d, hd, hdc, hm⟩ := ih hQ
        by_cases hq : q ≤ c ∧ d < q
        · refine ⟨q, List.mem_cons_self, hq.1, fun p hp hpc => ?_⟩
          rcases List.mem_cons.1 hp with rfl | hp
          · exact Int.le_refl _
          · have := hm p hp hpc; omega
        · refine ⟨d, List.mem_cons_of_mem _ hd, hdc, fun p hp hpc => ?_⟩
          rcases List.mem_cons.1 hp with rfl | hp
          · omega
          · exact hm p hp hpc
      · rename_i h'
        obtain ⟨p, hp, hpc⟩ := h'
        rcases List.mem_cons.1 hp with rfl | hp
        · refine ⟨p, List.mem_cons_self, hpc, fun r hr hrc => ?_⟩
          rcases List.mem_cons.1 hr with rfl | hr
          · exact Int.le_refl _
          · exact absurd ⟨r, hr, hrc⟩ hQ
        · exact absurd ⟨p, hp, hpc⟩ hQ
  obtain ⟨d, hd, hdc, hm⟩ := key P h
  exact ⟨d, hd, fun p hp => ⟨fun hpc => hm p hp hpc, fun hpd => by omega⟩⟩
def ends (L : List Sp) : List Int := L.flatMap fun x => [x.f0, x.f1 + 1]
theorem firstL_same {P : List Int} {L : List Sp} {c d : Int} (h : ∀ p ∈ ends L, p ∈ P) (hs : Same P c d) : firstL L c = firstL L d := by
  induction L with
  | nil => rfl
  | cons x L ih =>
    have h0 := hs x.f0 (h _ (by simp [ends]))
    have h1 := hs (x.f1 + 1) (h _ (by simp [ends]))
    have hr := ih fun p hp => h p (by simp only [ends, List.flatMap_cons, List.mem_append]; exact .inr hp)
    simp only [firstL]
    by_cases g : x.f0 ≤ c ∧ c ≤ x.f1
    · rw [if_pos g, if_pos (by omega)]
    · rw [if_neg g, if_neg (by omega), hr]
/-- Two such functions are one from lo on if they are one at lo and wherever a range of theirs begins or ends. -/
theorem firstL_eq {L M : List Sp} {lo : Int} (h : ∀ d ∈ lo :: (ends L ++ ends M), lo ≤ d → firstL L d = firstL M d) (c : Int) (hc : lo ≤ c) : firstL L c = firstL M c := by
  obtain ⟨d, hd, hs⟩ := same_rep (lo :: (ends L ++ ends M)) c ⟨lo, List.mem_cons_self, hc⟩
  have hl : lo ≤ d := (hs lo List.mem_cons_self).1 hc
  rw [firstL_same (P := lo :: (ends L ++ ends M)) (fun p hp => List.mem_cons_of_mem _ (List.mem_append_left _ hp)) hs, firstL_same (L := M) (P := lo :: (ends L ++ ends M)) (fun p hp => List.mem_cons_of_mem _ (List.mem_append_right _ hp)) hs]
  exact h d hd hl
def refTable : List Sp := [⟨9, 9, 11⟩, ⟨10, 10, 10⟩, ⟨0, 31, 9⟩, ⟨32, 32, 12⟩, ⟨35, 37, 5⟩, ⟨43, 43, 4⟩, ⟨45, 45, 4⟩, ⟨44, 44, 7⟩, ⟨46, 47, 7⟩, ⟨58, 58, 7⟩, ⟨48, 57, 3⟩, ⟨33, 64, 13⟩, ⟨91, 96, 13⟩, ⟨123, 126, 13⟩, ⟨127, 159, 9⟩, ⟨160, 160, 7⟩, ⟨162, 165, 5⟩, ⟨173, 173, 9⟩, ⟨176, 177, 5⟩]
def refRest : List Sp := [⟨170, 170, 0⟩, ⟨181, 181, 0⟩, ⟨186, 186, 0⟩, ⟨161, 191, 13⟩, ⟨215, 215, 13⟩, ⟨247, 247, 13⟩, ⟨768, 879, 8⟩, ⟨1425, 1469, 8⟩, ⟨1471, 1471, 8⟩, ⟨1473, 1473, 8⟩, ⟨1474, 1474, 8⟩, ⟨1552, 1562, 8⟩, ⟨1611, 1631, 8⟩, ⟨65024, 65039, 8⟩, ⟨1424, 1535, 1⟩, ⟨1984, 2143, 1⟩, ⟨8207, 8207, 1⟩, ⟨64285, 64335, 1⟩, ⟨1632, 1641, 6⟩, ⟨1643, 1643, 6⟩, ⟨1644, 1644, 6⟩, ⟨1776, 1785, 3⟩, ⟨1536, 1983, 2⟩, ⟨2144, 2303, 2⟩, ⟨64336, 65023, 2⟩, ⟨65136, 65278, 2⟩, ⟨8192, 8202, 12⟩, ⟨12288, 12288, 12⟩, ⟨8203, 8205, 9⟩, ⟨8288, 8293, 9⟩, ⟨65279, 65279, 9⟩, ⟨8234, 8234, 14⟩, ⟨8235, 8235, 15⟩, ⟨8236, 8236, 18⟩, ⟨8237, 8237, 16⟩, ⟨8238, 8238, 17⟩, ⟨8239, 8239, 7⟩, ⟨8294, 8294, 19⟩, ⟨8295, 8295, 20⟩, ⟨8296, 8296, 21⟩, ⟨8297, 8297, 22⟩, ⟨8352, 8399, 5⟩, ⟨8208, 8287, 13⟩, ⟨8592, 11263, 13⟩, ⟨12289, 12292, 13⟩, ⟨12296, 12320, 13⟩, ⟨65529, 65533, 13⟩]
theorem first_yes {a b v c : Int} {l : List Sp} (h : a ≤ c ∧ c ≤ b) : firstL (⟨a, b, v⟩ :: l) c = v := by simp only [firstL]; rw [if_pos h]
theorem first_no {a b v c : Int} {l : List Sp} (h : ¬ (a ≤ c ∧ c ≤ b)) : firstL (⟨a, b, v⟩ :: l) c = firstL l c := by simp only [firstL]; rw [if_neg h]
set_option maxRecDepth 10000 in
theorem dir_rest (c : Int) : Ev (fun k => if c = 170 then (chanceryref3_Direction.j1 k c (c == 170)) else (if c = 181 then (chanceryref3_Direction.j1 k c (c == 181)) else (chanceryref3_Direction.j1 k c (c == 186)))) (firstL refRest c) := by
  unfold refRest
  by_cases h0 : (170 : Int) ≤ c ∧ c ≤ 170
  · rw [first_yes h0]; refine Ev.pos (by omega) ?_; rw [show (c == 170) = true from beq_iff_eq.2 (by omega)]; exact Ev.step (fun k => by rw [chanceryref3_Direction.j1]) (Ev.pos rfl (Ev.now _))
  rw [first_no h0]
  refine Ev.neg (by omega) ?_
  by_cases h1 : (181 : Int) ≤ c ∧ c ≤ 181
  · rw [first_yes h1]; refine Ev.pos (by omega) ?_; rw [show (c == 181) = true from beq_iff_eq.2 (by omega)]; exact Ev.step (fun k => by rw [chanceryref3_Direction.j1]) (Ev.pos rfl (Ev.now _))
  rw [first_no h1]
  refine Ev.neg (by omega) ?_
  by_cases h2 : (186 : Int) ≤ c ∧ c ≤ 186
  · rw [first_yes h2]; rw [show (c == 186) = true from beq_iff_eq.2 (by omega)]; exact Ev.step (fun k => by rw [chanceryref3_Direction.j1]) (Ev.pos rfl (Ev.now _))
  rw [first_no h2]
  rw [show (c == 186) = false from beq_eq_false_iff_ne.2 (by omega)]
  refine Ev.step (fun k => by rw [chanceryref3_Direction.j1]) (Ev.neg (by simp) ?_)
  by_cases h3 : (161 : Int) ≤ c ∧ c ≤ 191
  · rw [first_yes h3]; refine Ev.bind0 (in_ok _ _ _) (Ev.dpos h3 ?_); rw [decide_eq_true h3]; exact Ev.step (fun k => by rw [chanceryref3_Direction.j2]) (Ev.pos rfl (Ev.now _))
  rw [first_no h3]
  refine Ev.bind0 (in_ok _ _ _) (Ev.dneg h3 ?_)
  by_cases h4 : (215 : Int) ≤ c ∧ c ≤ 215
  · rw [first_yes h4]; refine Ev.pos (by omega) ?_; rw [show (c == 215) = true from beq_iff_eq.2 (by omega)]; exact Ev.step (fun k => by rw [chanceryref3_Direction.j2]) (Ev.pos rfl (Ev.now _))
  rw [first_no h4]
  refine Ev.neg (by omega) ?_
  by_cases h5 : (247 : Int) ≤ c ∧ c ≤ 247
  · rw [first_yes h5]; rw [show (c == 247) = true from beq_iff_eq.2 (by omega)]; exact Ev.step (fun k => by rw [chanceryref3_Direction.j2]) (Ev.pos rfl (Ev.now _))
  rw [first_no h5]
  rw [show (c == 247) = false from beq_eq_false_iff_ne.2 (by omega)]
  refine Ev.step (fun k => by rw [chanceryref3_Direction.j2]) (Ev.neg (by simp) ?_)
  by_cases h6 : (768 : Int) ≤ c ∧ c ≤ 879
  · rw [first_yes h6]; refine Ev.bind0 (in_ok _ _ _) (Ev.dpos h6 ?_); rw [decide_eq_true h6]; exact Ev.step (fun k => by rw [chanceryref3_Direction.j3]) (Ev.pos rfl (Ev.now _))
  rw [first_no h6]
  refine Ev.bind0 (in_ok _ _ _) (Ev.dneg h6 ?_)
  by_cases h7 : (1425 : Int) ≤ c ∧ c ≤ 1469
  · rw [first_yes h7]; refine Ev.bind0 (in_ok _ _ _) (Ev.dpos h7 ?_); rw [decide_eq_true h7]; exact Ev.step (fun k => by rw [chanceryref3_Direction.j3]) (Ev.pos rfl (Ev.now _))
  rw [first_no h7]
  refine Ev.bind0 (in_ok _ _ _) (Ev.dneg h7 ?_)
  by_cases h8 : (1471 : Int) ≤ c ∧ c ≤ 1471
  · rw [first_yes h8]; refine Ev.pos (by omega) ?_; rw [show (c == 1471) = true from beq_iff_eq.2 (by omega)]; exact Ev.step (fun k => by rw [chanceryref3_Direction.j3]) (Ev.pos rfl (Ev.now _))
  rw [first_no h8]
  refine Ev.neg (by omega) ?_
  by_cases h9 : (1473 : Int) ≤ c ∧ c ≤ 1473
  · rw [first_yes h9]; refine Ev.pos (by omega) ?_; rw [show (c == 1473) = true from beq_iff_eq.2 (by omega)]; exact Ev.step (fun k => by rw [chanceryref3_Direction.j3]) (Ev.pos rfl (Ev.now _))
  rw [first_no h9]
  refine Ev.neg (by omega) ?_
  by_cases h10 : (1474 : Int) ≤ c ∧ c ≤ 1474
  · rw [first_yes h10]; refine Ev.pos (by omega) ?_; rw [show (c == 1474) = true from beq_iff_eq.2 (by omega)]; exact Ev.step (fun k => by rw [chanceryref3_Direction.j3]) (Ev.pos rfl (Ev.now _))
  rw [first_no h10]
  refine Ev.neg (by omega) ?_
  by_cases h11 : (1552 : Int) ≤ c ∧ c ≤ 1562
  · rw [first_yes h11]; refine Ev.bind0 (in_ok _ _ _) (Ev.dpos h11 ?_); rw [decide_eq_true h11]; exact Ev.step (fun k => by rw [chanceryref3_Direction.j3]) (Ev.pos rfl (Ev.now _))
  rw [first_no h11]
  refine Ev.bind0 (in_ok _ _ _) (Ev.dneg h11 ?_)
  by_cases h12 : (1611 : Int) ≤ c ∧ c ≤ 1631
  · rw [first_yes h12]; refine Ev.bind0 (in_ok _ _ _) (Ev.dpos h12 ?_); rw [decide_eq_true h12]; exact Ev.step (fun k => by rw [chanceryref3_Direction.j3]) (Ev.pos rfl (Ev.now _))
  rw [first_no h12]
  refine Ev.bind0 (in_ok _ _ _) (Ev.dneg h12 ?_)
  by_cases h13 : (65024 : Int) ≤ c ∧ c ≤ 65039
  · rw [first_yes h13]; refine Ev.bind0 (in_ok _ _ _) ?_; rw [decide_eq_true h13]; exact Ev.step (fun k => by rw [chanceryref3_Direction.j3]) (Ev.pos rfl (Ev.now _))
  rw [first_no h13]
  refine Ev.bind0 (in_ok _ _ _) ?_
  rw [decide_eq_false h13]
  refine Ev.step (fun k => by rw [chanceryref3_Direction.j3]) (Ev.neg (by simp) ?_)
  by_cases h14 : (1424 : Int) ≤ c ∧ c ≤ 1535
  · rw [first_yes h14]; refine Ev.bind0 (in_ok _ _ _) (Ev.dpos h14 ?_); rw [decide_eq_true h14]; exact Ev.step (fun k => by rw [chanceryref3_Direction.j4]) (Ev.pos rfl (Ev.now _))
  rw [first_no h14]
  refine Ev.bind0 (in_ok _ _ _) (Ev.dneg h14 ?_)
  by_cases h15 : (1984 : Int) ≤ c ∧ c ≤ 2143
  · rw [first_yes h15]; refine Ev.bind0 (in_ok _ _ _) (Ev.dpos h15 ?_); rw [decide_eq_true h15]; exact Ev.step (fun k => by rw [chanceryref3_Direction.j4]) (Ev.pos rfl (Ev.now _))
  rw [first_no h15]
  refine Ev.bind0 (in_ok _ _ _) (Ev.dneg h15 ?_)
  by_cases h16 : (8207 : Int) ≤ c ∧ c ≤ 8207
  · rw [first_yes h16]; refine Ev.pos (by omega) ?_; rw [show (c == 8207) = true from beq_iff_eq.2 (by omega)]; exact Ev.step (fun k => by rw [chanceryref3_Direction.j4]) (Ev.pos rfl (Ev.now _))
  rw [first_no h16]
  refine Ev.neg (by omega) ?_
  by_cases h17 : (64285 : Int) ≤ c ∧ c ≤ 64335
  · rw [first_yes h17]; refine Ev.bind0 (in_ok _ _ _) ?_; rw [decide_eq_true h17]; exact Ev.step (fun k => by rw [chanceryref3_Direction.j4]) (Ev.pos rfl (Ev.now _))
  rw [first_no h17]
  refine Ev.bind0 (in_ok _ _ _) ?_
  rw [decide_eq_false h17]
  refine Ev.step (fun k => by rw [chanceryref3_Direction.j4]) (Ev.neg (by simp) ?_)
  by_cases h18 : (1632 : Int) ≤ c ∧ c ≤ 1641
  · rw [first_yes h18]; refine Ev.bind0 (in_ok _ _ _) (Ev.dpos h18 ?_); rw [decide_eq_true h18]; exact Ev.step (fun k => by rw [chanceryref3_Direction.j5]) (Ev.pos rfl (Ev.now _))
  rw [first_no h18]
  refine Ev.bind0 (in_ok _ _ _) (Ev.dneg h18 ?_)
  by_cases h19 : (1643 : Int) ≤ c ∧ c ≤ 1643
  · rw [first_yes h19]; refine Ev.pos (by omega) ?_; rw [show (c == 1643) = true from beq_iff_eq.2 (by omega)]; exact Ev.step (fun k => by rw [chanceryref3_Direction.j5]) (Ev.pos rfl (Ev.now _))
  rw [first_no h19]
  refine Ev.neg (by omega) ?_
  by_cases h20 : (1644 : Int) ≤ c ∧ c ≤ 1644
  · rw [first_yes h20]; rw [show (c == 1644) = true from beq_iff_eq.2 (by omega)]; exact Ev.step (fun k => by rw [chanceryref3_Direction.j5]) (Ev.pos rfl (Ev.now _))
  rw [first_no h20]
  rw [show (c == 1644) = false from beq_eq_false_iff_ne.2 (by omega)]
  refine Ev.step (fun k => by rw [chanceryref3_Direction.j5]) (Ev.neg (by simp) ?_)
  by_cases h21 : (1776 : Int) ≤ c ∧ c ≤ 1785
  · rw [first_yes h21]; exact Ev.bind0 (in_ok _ _ _) (Ev.dpos h21 (Ev.now _))
  rw [first_no h21]
  refine Ev.bind0 (in_ok _ _ _) (Ev.dneg h21 ?_)
  by_cases h22 : (1536 : Int) ≤ c ∧ c ≤ 1983
  · rw [first_yes h22]; refine Ev.bind0 (in_ok _ _ _) (Ev.dpos h22 ?_); rw [decide_eq_true h22]; exact Ev.step (fun k => by rw [chanceryref3_Direction.j6]) (Ev.pos rfl (Ev.now _))
  rw [first_no h22]
  refine Ev.bind0 (in_ok _ _ _) (Ev.dneg h22 ?_)
  by_cases h23 : (2144 : Int) ≤ c ∧ c ≤ 2303
  · rw [first_yes h23]; refine Ev.bind0 (in_ok _ _ _) (Ev.dpos h23 ?_); rw [decide_eq_true h23]; exact Ev.step (fun k => by rw [chanceryref3_Direction.j6]) (Ev.pos rfl (Ev.now _))
  rw [first_no h23]
  refine Ev.bind0 (in_ok _ _ _) (Ev.dneg h23 ?_)
  by_cases h24 : (64336 : Int) ≤ c ∧ c ≤ 65023
  · rw [first_yes h24]; refine Ev.bind0 (in_ok _ _ _) (Ev.dpos h24 ?_); rw [decide_eq_true h24]; exact Ev.step (fun k => by rw [chanceryref3_Direction.j6]) (Ev.pos rfl (Ev.now _))
  rw [first_no h24]
  refine Ev.bind0 (in_ok _ _ _) (Ev.dneg h24 ?_)
  by_cases h25 : (65136 : Int) ≤ c ∧ c ≤ 65278
  · rw [first_yes h25]; refine Ev.bind0 (in_ok _ _ _) ?_; rw [decide_eq_true h25]; exact Ev.step (fun k => by rw [chanceryref3_Direction.j6]) (Ev.pos rfl (Ev.now _))
  rw [first_no h25]
  refine Ev.bind0 (in_ok _ _ _) ?_
  rw [decide_eq_false h25]
  refine Ev.step (fun k => by rw [chanceryref3_Direction.j6]) (Ev.neg (by simp) ?_)
  by_cases h26 : (8192 : Int) ≤ c ∧ c ≤ 8202
  · rw [first_yes h26]; refine Ev.bind0 (in_ok _ _ _) (Ev.dpos h26 ?_); rw [decide_eq_true h26]; exact Ev.step (fun k => by rw [chanceryref3_Direction.j7]) (Ev.pos rfl (Ev.now _))
  rw [first_no h26]
  refine Ev.bind0 (in_ok _ _ _) (Ev.dneg h26 ?_)
  by_cases h27 : (12288 : Int) ≤ c ∧ c ≤ 12288
  · rw [first_yes h27]; rw [show (c == 12288) = true from beq_iff_eq.2 (by omega)]; exact Ev.step (fun k => by rw [chanceryref3_Direction.j7]) (Ev.pos rfl (Ev.now _))
  rw [first_no h27]
  rw [show (c == 12288) = false from beq_eq_false_iff_ne.2 (by omega)]
  refine Ev.step (fun k => by rw [chanceryref3_Direction.j7]) (Ev.neg (by simp) ?_)
  by_cases h28 : (8203 : Int) ≤ c ∧ c ≤ 8205
  · rw [first_yes h28]; refine Ev.bind0 (in_ok _ _ _) (Ev.dpos h28 ?_); rw [decide_eq_true h28]; exact Ev.step (fun k => by rw [chanceryref3_Direction.j8]) (Ev.pos rfl (Ev.now _))
  rw [first_no h28]
  refine Ev.bind0 (in_ok _ _ _) (Ev.dneg h28 ?_)
  by_cases h29 : (8288 : Int) ≤ c ∧ c ≤ 8293
  · rw [first_yes h29]; refine Ev.bind0 (in_ok _ _ _) (Ev.dpos h29 ?_); rw [decide_eq_true h29]; exact Ev.step (fun k => by rw [chanceryref3_Direction.j8]) (Ev.pos rfl (Ev.now _))
  rw [first_no h29]
  refine Ev.bind0 (in_ok _ _ _) (Ev.dneg h29 ?_)
  by_cases h30 : (65279 : Int) ≤ c ∧ c ≤ 65279
  · rw [first_yes h30]; rw [show (c == 65279) = true from beq_iff_eq.2 (by omega)]; exact Ev.step (fun k => by rw [chanceryref3_Direction.j8]) (Ev.pos rfl (Ev.now _))
  rw [first_no h30]
  rw [show (c == 65279) = false from beq_eq_false_iff_ne.2 (by omega)]
  refine Ev.step (fun k => by rw [chanceryref3_Direction.j8]) (Ev.neg (by simp) ?_)
  by_cases h31 : (8234 : Int) ≤ c ∧ c ≤ 8234
  · rw [first_yes h31]; exact Ev.pos (by omega) (Ev.now _)
  rw [first_no h31]
  refine Ev.neg (by omega) ?_
  by_cases h32 : (8235 : Int) ≤ c ∧ c ≤ 8235
  · rw [first_yes h32]; exact Ev.pos (by omega) (Ev.now _)
  rw [first_no h32]
  refine Ev.neg (by omega) ?_
  by_cases h33 : (8236 : Int) ≤ c ∧ c ≤ 8236
  · rw [first_yes h33]; exact Ev.pos (by omega) (Ev.now _)
  rw [first_no h33]
  refine Ev.neg (by omega) ?_
  by_cases h34 : (8237 : Int) ≤ c ∧ c ≤ 8237
  · rw [first_yes h34]; exact Ev.pos (by omega) (Ev.now _)
  rw [first_no h34]
  refine Ev.neg (by omega) ?_
  by_cases h35 : (8238 : Int) ≤ c ∧ c ≤ 8238
  · rw [first_yes h35]; exact Ev.pos (by omega) (Ev.now _)
  rw [first_no h35]
  refine Ev.neg (by omega) ?_
  by_cases h36 : (8239 : Int) ≤ c ∧ c ≤ 8239
  · rw [first_yes h36]; exact Ev.pos (by omega) (Ev.now _)
  rw [first_no h36]
  refine Ev.neg (by omega) ?_
  by_cases h37 : (8294 : Int) ≤ c ∧ c ≤ 8294
  · rw [first_yes h37]; exact Ev.pos (by omega) (Ev.now _)
  rw [first_no h37]
  refine Ev.neg (by omega) ?_
  by_cases h38 : (8295 : Int) ≤ c ∧ c ≤ 8295
  · rw [first_yes h38]; exact Ev.pos (by omega) (Ev.now _)
  rw [first_no h38]
  refine Ev.neg (by omega) ?_
  by_cases h39 : (8296 : Int) ≤ c ∧ c ≤ 8296
  · rw [first_yes h39]; exact Ev.pos (by omega) (Ev.now _)
  rw [first_no h39]
  refine Ev.neg (by omega) ?_
  by_cases h40 : (8297 : Int) ≤ c ∧ c ≤ 8297
  · rw [first_yes h40]; exact Ev.pos (by omega) (Ev.now _)
  rw [first_no h40]
  refine Ev.neg (by omega) ?_
  by_cases h41 : (8352 : Int) ≤ c ∧ c ≤ 8399
  · rw [first_yes h41]; exact Ev.bind0 (in_ok _ _ _) (Ev.dpos h41 (Ev.now _))
  rw [first_no h41]
  refine Ev.bind0 (in_ok _ _ _) (Ev.dneg h41 ?_)
  by_cases h42 : (8208 : Int) ≤ c ∧ c ≤ 8287
  · rw [first_yes h42]; exact Ev.bind0 (in_ok _ _ _) (Ev.dpos h42 (Ev.now _))
  rw [first_no h42]
  refine Ev.bind0 (in_ok _ _ _) (Ev.dneg h42 ?_)
  by_cases h43 : (8592 : Int) ≤ c ∧ c ≤ 11263
  · rw [first_yes h43]; exact Ev.bind0 (in_ok _ _ _) (Ev.dpos h43 (Ev.now _))
  rw [first_no h43]
  refine Ev.bind0 (in_ok _ _ _) (Ev.dneg h43 ?_)
  by_cases h44 : (12289 : Int) ≤ c ∧ c ≤ 12292
  · rw [first_yes h44]; exact Ev.bind0 (in_ok _ _ _) (Ev.dpos h44 (Ev.now _))
  rw [first_no h44]
  refine Ev.bind0 (in_ok _ _ _) (Ev.dneg h44 ?_)
  by_cases h45 : (12296 : Int) ≤ c ∧ c ≤ 12320
  · rw [first_yes h45]; exact Ev.bind0 (in_ok _ _ _) (Ev.dpos h45 (Ev.now _))
  rw [first_no h45]
  refine Ev.bind0 (in_ok _ _ _) (Ev.dneg h45 ?_)
  by_cases h46 : (65529 : Int) ≤ c ∧ c ≤ 65533
  · rw [first_yes h46]; exact Ev.bind0 (in_ok _ _ _) (Ev.dpos h46 (Ev.now _))
  rw [first_no h46]
  refine Ev.bind0 (in_ok _ _ _) (Ev.dneg h46 ?_)
  exact Ev.now _
def sp (x : S51) : Sp := ⟨x.f0, x.f1, x.f2⟩
theorem drop_getD {α : Type} {L : List α} {i : Int} (z : α) (h0 : 0 ≤ i) (h : i < L.length) : L.drop i.toNat = L.getD i.toNat z :: L.drop (i + 1).toNat := by
  rw [List.getD_eq_getElem?_getD, List.getElem?_eq_getElem (by omega), show (i + 1).toNat = i.toNat + 1 by omega]
  exact List.drop_eq_getElem_cons (by omega)
theorem dir_table (L : List S51) (c : Int) (hL : L.length ≤ 1000) (d : Nat) : ∀ i : Int, 0 ≤ i → i + d = L.length → Ev (fun k => chanceryref3_Direction.l0 k c L (L.length : Int) i) (firstL ((L.drop i.toNat).map sp ++ refRest) c) := by
  induction d with
  | zero =>
    intro i h0 hi
    rw [List.drop_eq_nil_of_le (by omega)]
    exact Ev.step (fun k => by rw [chanceryref3_Direction.l0]) (Ev.neg (by omega) (dir_rest c))
  | succ d ih =>
    intro i h0 hi
    rw [drop_getD z51 h0 (by omega)]
    have e : rd_T51 L i = L.getD i.toNat z51 := rfl
    refine Ev.step (fun k => by rw [chanceryref3_Direction.l0]) (Ev.pos (by omega) (Ev.pos h0 (Ev.pos (by omega) (Ev.bind0 (in_ok _ _ _) ?_))))
    rw [e, w64 (n := i + 1) (by omega) (by omega), List.map_cons, List.cons_append]
    generalize L.getD i.toNat z51 = x
    by_cases h : x.f0 ≤ c ∧ c ≤ x.f1
    · exact Ev.dpos h (Ev.ret (first_yes h).symm)
    · refine Ev.dneg h ?_
      rw [show firstL (sp x :: (List.map sp (List.drop (i + 1).toNat L) ++ refRest)) c = _ from first_no h]
      exact ih (i + 1) (by omega) (by omega)
set_option maxRecDepth 10000 in
theorem dir_ok (c : Int) (hc : 0 ≤ c) : Ev (fun k => chanceryref3_Direction.f k c) (firstL table c) := by
  unfold chanceryref3_Direction.f
  refine Ev.bind0 rfl ?_
  refine Ev.out (dir_table _ c (by simp) 19 0 (by omega) (by simp)) ?_
  exact (firstL_eq (L := table) (M := refTable ++ refRest) (lo := 0) (by decide +kernel) c hc).symm
/-- The characters that are mirrored. -/
def pairs : List Int := [40, 41, 91, 93, 123, 125, 12300, 12301, 60, 62, 171, 187, 8249, 8250]
theorem pair_none (c : Int) (h : c ∉ pairs) : Ev (fun k => chancerylaw3_pairOf.f k c) (-1) := by
  unfold chancerylaw3_pairOf.f
  refine Ev.bind0 rfl ?_
  refine climb (g := fun i k => chancerylaw3_pairOf.l0 k c pairs (pairs.length : Int) i) (a := 0) (n := 14) (by omega) (Ev.step (fun k => by rw [chancerylaw3_pairOf.l0]) (Ev.neg (by decide) (Ev.now _))) fun i i0 i1 hi => ?_
  have hp : i < (pairs.length : Int) := i1
  refine Ev.step (fun k => by rw [chancerylaw3_pairOf.l0]) (Ev.pos hp (Ev.pos i0 (Ev.pos hp ?_)))
  rw [w64 (n := i + 1) (by omega) (by omega)]
  exact Ev.neg (fun e => h (e ▸ rd_mem hp i0)) hi
/-- Where the statement goes on behind Mirror. -/
theorem mirror_step (c : Int) (r : Bool) (xs : List Int) (n i : Int) (h : Ev (fun k => chancerylaw3_BidiClasses.l0 k xs n (wrap64 (i + 1))) r) : Ev (fun k => chancerylaw3_BidiClasses.j2 k c xs n i false) r := by
  refine Ev.step (fun k => by rw [chancerylaw3_BidiClasses.j2]) (Ev.neg (by simp) ?_)
  refine Ev.bind0 (a := mirrorL brackets c) rfl ?_
  refine Ev.bind0 (a := mirrorL brackets (mirrorL brackets c)) rfl ?_
  by_cases hc : c ∈ pairs
  · have one : ∀ (c q : Int), mirrorL brackets (mirrorL brackets c) = c → (mirrorL brackets c != c) = true → Ev (fun k => chancerylaw3_pairOf.f k c) q → (0 ≤ q ∧ q ≤ 13) →
        Ev (fun k => if mirrorL brackets (mirrorL brackets c) = c then ((chancerylaw3_pairOf.f k c).bind fun t111 => ((chanceryref3_In.f t111 0 13).bind fun t112 => (if ((mirrorL brackets c != c) != t112) = true then (some false) else (chancerylaw3_BidiClasses.l0 k xs n (wrap64 (i + 1)))))) else (some false)) r := by
      intro c q e1 e2 e3 e4
      refine Ev.pos e1 (Ev.bind e3 (Ev.bind0 (in_ok _ _ _) ?_))
      rw [e2, decide_eq_true e4]
      exact Ev.neg (by simp) h
    have ev : ∀ (c q : Int), chancerylaw3_pairOf.f 30 c = some q → Ev (fun k => chancerylaw3_pairOf.f k c) q := fun c q hq => Ev.of (fun k => chancerylaw3_pairOf.mono c k) hq
    simp only [pairs, List.mem_cons, List.not_mem_nil, or_false] at hc
    rcases hc with rfl | rfl | rfl | rfl | rfl | rfl | rfl | rfl | rfl | rfl | rfl | rfl | rfl | rfl
    · exact one 40 0 (by decide) (by decide) (ev _ _ (by decide +kernel)) (by omega)
    · exact one 41 1 (by decide) (by decide) (ev _ _ (by decide +kernel)) (by omega)
    · exact one 91 2 (by decide) (by decide) (ev _ _ (by decide +kernel)) (by omega)
    · exact one 93 3 (by decide) (by decide) (ev _ _ (by decide +kernel)) (by omega)
    · exact one 123 4 (by decide) (by decide) (ev _ _ (by decide +kernel)) (by omega)
    · exact one 125 5 (by decide) (by decide) (ev _ _ (by decide +kernel)) (by omega)
    · exact one 12300 6 (by decide) (by decide) (ev _ _ (by decide +kernel)) (by omega)
    · exact one 12301 7 (by decide) (by decide) (ev _ _ (by decide +kernel)) (by omega)
    · exact one 60 8 (by decide) (by decide) (ev _ _ (by decide +kernel)) (by omega)
    · exact one 62 9 (by decide) (by decide) (ev _ _ (by decide +kernel)) (by omega)
    · exact one 171 10 (by decide) (by decide) (ev _ _ (by decide +kernel)) (by omega)
    · exact one 187 11 (by decide) (by decide) (ev _ _ (by decide +kernel)) (by omega)
    · exact one 8249 12 (by decide) (by decide) (ev _ _ (by decide +kernel)) (by omega)
    · exact one 8250 13 (by decide) (by decide) (ev _ _ (by decide +kernel)) (by omega)
  · have e : mirrorL brackets c = c := by
      have hn : ∀ p ∈ pairs, c ≠ p := fun p hp e => hc (e ▸ hp)
      simp only [pairs, List.mem_cons, List.not_mem_nil, or_false, forall_eq_or_imp, forall_eq] at hn
      simp only [mirrorL, brackets]
      simp [hn]
    rw [e, e]
    refine Ev.pos rfl (Ev.bind (pair_none c hc) (Ev.bind0 (in_ok _ _ _) ?_))
    exact Ev.neg (by simp) h
end BidiCls
open BidiCls in
theorem BidiClasses (c : Int) : ∃ k, chancerylaw3_BidiClasses.f k c = some true := by
  refine Ev.rounds (r := true) ?_
  unfold chancerylaw3_BidiClasses.f
  refine Ev.bind0 (a := 1) (by decide +kernel) (Ev.pos rfl (Ev.bind0 (a := 41) (by decide +kernel) ?_))
  obtain ⟨xs, hx, hl⟩ := some_ok c
  refine Ev.step (fun k => by rw [chancerylaw3_BidiClasses.j0]) (Ev.neg (by simp) (Ev.bind0 hx ?_))
  refine climb (g := fun i k => chancerylaw3_BidiClasses.l0 k xs (xs.length : Int) i) (a := 0) (n := 5) (by omega) (Ev.step (fun k => by rw [chancerylaw3_BidiClasses.l0]) (Ev.neg (by omega) (Ev.now _))) fun i i0 i1 hi => ?_
  have wi : wrap64 (i + 1) = i + 1 := w64 (by omega) (by omega)
  refine Ev.step (fun k => by rw [chancerylaw3_BidiClasses.l0]) (Ev.pos (by omega) (Ev.pos i0 (Ev.pos (by omega) ?_)))
  by_cases hc : rd xs i ≥ 0
  · refine Ev.pos hc (Ev.bind0 rfl (Ev.bind (dir_ok _ hc) ?_))
    rw [bne_self_eq_false]
    exact mirror_step _ _ _ _ _ (by rw [wi]; exact hi)
  · exact Ev.neg hc (mirror_step _ _ _ _ _ (by rw [wi]; exact hi))
end Go.Proofs.YtihmbddneapooaaDoor.Pure
