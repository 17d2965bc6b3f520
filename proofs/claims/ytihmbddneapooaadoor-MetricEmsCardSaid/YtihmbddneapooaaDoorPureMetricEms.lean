/- Proved: Em and Mark of the program, over their tables, are Em and IsMark of the document, for the numbers that the statement tries, from every whole number: a statement over numbers and lists alone, about the Lean functions of this seat's texts. No condition. -/
import Derived.Test.YtihmbddneapooaaDoorQMEx3
import Derived.Test.YtihmbddneapooaaDoorLib
namespace Go.Proofs.YtihmbddneapooaaDoor.Pure
open Go.RowKit Go.Proofs.YtihmbddneapooaaDoor.PMetricEms Go.Proofs.YtihmbddneapooaaDoor.QME Go.Proofs.YtihmbddneapooaaDoor.HandME Go.Proofs.YtihmbddneapooaaDoor.HandMEf Go.Proofs.YtihmbddneapooaaDoorW.PrintWords Go.Proofs.YtihmbddneapooaaDoorW.PrintLast Go.Proofs.YtihmbddneapooaaDoorW.PrintMore Go.Proofs.YtihmbddneapooaaDoor.Lib
namespace MetEms
theorem in_ok (a b c : Int) : chanceryref3_In.f a b c = some (decide (b ≤ a ∧ a ≤ c)) := by
  unfold chanceryref3_In.f
  by_cases h : a ≥ b
  · rw [if_pos h]; congr 1; simp; omega
  · rw [if_neg h]; congr 1; simp; omega
theorem within_ok (x lo hi : Int) (h0 : 0 ≤ lo) (h1 : lo ≤ hi) (h2 : hi ≤ 1000000000000) : ∃ t, chancerylaw3_within.f x lo hi = some t ∧ lo ≤ t ∧ t ≤ hi := by
  unfold chancerylaw3_within.f
  rw [w64 (n := hi - lo) (by omega) (by omega), w64 (n := hi - lo + 1) (by omega) (by omega), if_neg (by omega)]
  generalize hn : hi - lo + 1 = n at *
  have b1 : -n < Int.tmod x n ∧ Int.tmod x n < n := by
    rw [tmod_down x n (by omega)]
    have e2 := Int.emod_nonneg x (by omega : n ≠ 0)
    have e3 := Int.emod_lt_of_pos x (by omega : 0 < n)
    split <;> omega
  rw [w64 (n := Int.tmod x n + n) (by omega) (by omega), tmod_nn (by omega)]
  have e2 := Int.emod_nonneg (Int.tmod x n + n) (by omega : n ≠ 0)
  have e3 := Int.emod_lt_of_pos (Int.tmod x n + n) (by omega : 0 < n)
  rw [w64 (by omega) (by omega)]
  exact ⟨_, rfl, by omega, by omega⟩
theorem some_ok (c : Int) : ∃ xs : List Int, chancerylaw3_some.f c = some xs ∧ xs.length = 5 := by
  have key : ∀ L : List Int, 1 ≤ L.length → L.length ≤ 1000 → ∃ xs : List Int, ((chancerylaw3_within.f c 0 (wrap64 ((L.length : Int) - 1))).bind fun t => (if 0 ≤ t then (if t < (L.length : Int) then ((chancerylaw3_within.f c 0 12288).bind fun u => (some (([c, u, wrap64 ((rd L t) - 1), rd L t, wrap64 ((rd L t) + 1)] : List Int)))) else (none)) else (none))) = some xs ∧ xs.length = 5 := by
    intro L h1 h2
    obtain ⟨t, ht, t0, t1⟩ := within_ok c 0 ((L.length : Int) - 1) (by omega) (by omega) (by omega)
    obtain ⟨u, hu, _, _⟩ := within_ok c 0 12288 (by omega) (by omega) (by omega)
    rw [w64 (n := (L.length : Int) - 1) (by omega) (by omega), ht]
    simp only [Option.bind_some]
    rw [if_pos t0, if_pos (by omega), hu]
    exact ⟨_, rfl, rfl⟩
  exact key _ (by decide) (by decide)
/-- The width of the first range that has the number, and whether there is one. -/
def findW : List S73 → Int → Int × Bool
  | [], _ => (0, false)
  | x :: l, c => if x.f0 ≤ c ∧ c ≤ x.f1 then (x.f2, true) else findW l c
/-- The width of the first range that has the number, or else e. -/
def firstD (e : Int) : List S73 → Int → Int
  | [], _ => e
  | x :: l, c => if x.f0 ≤ c ∧ c ≤ x.f1 then x.f2 else firstD e l c
theorem findW_yes {x : S73} {L : List S73} {c : Int} (h : x.f0 ≤ c ∧ c ≤ x.f1) : findW (x :: L) c = (x.f2, true) := if_pos h
theorem findW_no {x : S73} {L : List S73} {c : Int} (h : ¬ (x.f0 ≤ c ∧ c ≤ x.f1)) : findW (x :: L) c = findW L c := if_neg h
theorem firstD_yes {e : Int} {x : S73} {L : List S73} {c : Int} (h : x.f0 ≤ c ∧ c ≤ x.f1) : firstD e (x :: L) c = x.f2 := if_pos h
theorem firstD_no {e : Int} {x : S73} {L : List S73} {c : Int} (h : ¬ (x.f0 ≤ c ∧ c ≤ x.f1)) : firstD e (x :: L) c = firstD e L c := if_neg h
theorem firstD_app (e : Int) (L M : List S73) (c : Int) : firstD e (L ++ M) c = if (findW L c).2 = true then (findW L c).1 else firstD e M c := by
  induction L with
  | nil => rfl
  | cons x L ih =>
    by_cases h : x.f0 ≤ c ∧ c ≤ x.f1
    · rw [findW_yes h, List.cons_append, firstD_yes h]; rfl
    · rw [findW_no h, List.cons_append, firstD_no h, ih]
theorem firstD_find (e : Int) (L : List S73) (c : Int) : firstD e L c = if (findW L c).2 = true then (findW L c).1 else e := by
  have h := firstD_app e L [] c
  rw [List.append_nil] at h
  exact h
theorem find_zero {L : List S73} (h : ∀ x ∈ L, x.f2 = 0) (c : Int) : (findW L c).1 = 0 := by
  induction L with
  | nil => rfl
  | cons x L ih =>
    simp only [findW]
    split
    · exact h x List.mem_cons_self
    · exact ih fun y hy => h y (List.mem_cons_of_mem _ hy)
theorem find_one {L : List S73} (h : ∀ x ∈ L, x.f2 = 1) (c : Int) : (findW L c).2 = decide (firstD 0 L c = 1) := by
  induction L with
  | nil => rfl
  | cons x L ih =>
    simp only [findW, firstD]
    split
    · exact (decide_eq_true (h x List.mem_cons_self)).symm
    · exact ih fun y hy => h y (List.mem_cons_of_mem _ hy)
theorem drop_getD {α : Type} {L : List α} {i : Int} (z : α) (h0 : 0 ≤ i) (h : i < L.length) : L.drop i.toNat = L.getD i.toNat z :: L.drop (i + 1).toNat := by
  rw [List.getD_eq_getElem?_getD, List.getElem?_eq_getElem (by omega), show (i + 1).toNat = i.toNat + 1 by omega]
  exact List.drop_eq_getElem_cons (by omega)
theorem within_l (L : List S73) (c : Int) (hL : L.length ≤ 1000) (d : Nat) : ∀ (i : Int) (k : Nat), 0 ≤ i → i + d = L.length → d < k → metric_within.l0 k c L (L.length : Int) i = some (findW (L.drop i.toNat) c) := by
  induction d with
  | zero =>
    intro i k h0 hi hk
    obtain ⟨k, rfl⟩ : ∃ j, k = j + 1 := ⟨k - 1, by omega⟩
    rw [List.drop_eq_nil_of_le (by omega), metric_within.l0, if_neg (by omega)]
    rfl
  | succ d ih =>
    intro i k h0 hi hk
    obtain ⟨k, rfl⟩ : ∃ j, k = j + 1 := ⟨k - 1, by omega⟩
    have e : rd_T73 L i = L.getD i.toNat z73 := rfl
    rw [drop_getD z73 h0 (by omega), metric_within.l0, if_pos (by omega), if_pos h0, if_pos (by omega), e, w64 (n := i + 1) (by omega) (by omega), ih (i + 1) k (by omega) (by omega) (by omega)]
    generalize L.getD i.toNat z73 = x
    simp only [findW]
    by_cases a : c ≥ x.f0
    · by_cases b : c ≤ x.f1
      · rw [if_pos a, if_pos b, if_pos ⟨a, b⟩]
      · rw [if_pos a, if_neg b, if_neg (fun h => b h.2)]
    · rw [if_neg a, if_neg (fun h => a h.1)]
theorem within_f (L : List S73) (c : Int) (hL : L.length ≤ 20) : metric_within.f 30 L c = some (findW L c) := by
  unfold metric_within.f
  exact within_l L c (by omega) L.length 0 30 (by omega) (by omega) (by omega)
theorem mark_ok (c : Int) : metric_Mark.f c = some (findW marks c).2 := by
  unfold metric_Mark.f
  rw [within_f marks c (by decide)]
  rfl
def pts (v : Int) (l : List Int) : List S73 := l.map fun p => ⟨p, p, v⟩
theorem first_pts (e v : Int) (l : List Int) (T : List S73) (c : Int) : firstD e (pts v l ++ T) c = if c ∈ l then v else firstD e T c := by
  induction l with
  | nil => rfl
  | cons p l ih =>
    have e1 : firstD e (pts v (p :: l) ++ T) c = if p ≤ c ∧ c ≤ p then v else firstD e (pts v l ++ T) c := rfl
    rw [e1]
    by_cases h : c = p
    · rw [if_pos (by omega), if_pos (h ▸ List.mem_cons_self)]
    · rw [if_neg (by omega), ih]
      simp [h]
def singles : List S73 := pts 250 [32] ++ (pts 280 [105, 106, 108, 33, 39, 44, 46, 58, 59, 124] ++ (pts 330 [73, 102, 114, 116, 40, 41, 91, 93, 45] ++ (pts 760 [109, 119] ++ pts 880 [77, 87])))
def singleP : List Int := [32, 105, 106, 108, 33, 39, 44, 46, 58, 59, 124, 73, 102, 114, 116, 40, 41, 91, 93, 45, 109, 119, 77, 87]
theorem find_none {L : List S73} {c : Int} (h : ∀ x ∈ L, ¬ (x.f0 ≤ c ∧ c ≤ x.f1)) : findW L c = (0, false) := by
  induction L with
  | nil => rfl
  | cons x L ih =>
    simp only [findW]
    rw [if_neg (h x List.mem_cons_self)]
    exact ih fun y hy => h y (List.mem_cons_of_mem _ hy)
theorem single_ok (c : Int) : metric_single.f 9 c = some (findW singles c) := by
  by_cases hc : c ∈ singleP
  · have key : ∀ c ∈ singleP, metric_single.f 9 c = some (findW singles c) := by decide +kernel
    exact key c hc
  · have hx : ∀ x ∈ singles, x.f0 = x.f1 ∧ x.f0 ∈ singleP := by decide +kernel
    rw [find_none (L := singles) (c := c) fun x hm h => hc ((show x.f0 = c by have := (hx x hm).1; omega) ▸ (hx x hm).2)]
    have hn : ∀ p ∈ singleP, ¬ c = p := fun p hp e => hc (e ▸ hp)
    simp only [singleP, List.mem_cons, List.not_mem_nil, or_false, forall_eq_or_imp, forall_eq] at hn
    simp only [metric_single.f, metric_single.j0, metric_single.j1, metric_single.j2, hn, if_false, beq_iff_eq]
theorem em_ok (c : Int) : metric_Em.f c = some (firstD 600 (marks ++ (singles ++ others)) c) := by
  unfold metric_Em.f
  rw [mark_ok, single_ok, within_f others c (by decide), firstD_app, firstD_app, firstD_find, find_zero (by decide) c]
  simp only [Option.bind_some]
  split <;> try rfl
  split <;> try rfl
  split <;> rfl
/-- Numbers where a range begins, or the first behind one. -/
def ends (L : List S73) : List Int := L.flatMap fun x => [x.f0, x.f1 + 1]
def Same (P : List Int) (c d : Int) : Prop := ∀ p ∈ P, (p ≤ c ↔ p ≤ d)
theorem same_rep (P : List Int) (c : Int) (h : ∃ p ∈ P, p ≤ c) : ∃ d ∈ P, Same P c d := by
  have key : ∀ Q : List Int, (∃ p ∈ Q, p ≤ c) → ∃ d ∈ Q, d ≤ c ∧ ∀ p ∈ Q, p ≤ c → p ≤ d := by
    intro Q
    induction Q with
    | nil => intro ⟨p, hp, _⟩; cases hp
    | cons q Q ih =>
      intro _
      by_cases hQ : ∃ p ∈ Q, p ≤ c
      · obtain ⟨d, hd, hdc, hm⟩ := ih hQ
        by_cases hq : q ≤ c ∧ d < q
        · refine ⟨q, List.mem_cons_self, hq.1, fun p hp hpc => ?_⟩
          rcases List.mem_cons.1 hp with rfl | hp
          · exact Int.le_refl _
          · have := hm p hp hpc; omega
        · refine ⟨d, List.mem_cons_of_mem _ hd, hdc, fun p hp hpc => ?_⟩
          rcases List.mem_cons.1 hp with rfl | hp
          · omega
          · exact hm p hp hpc
      · rename_i h'
        obtain ⟨p, hp, hpc⟩ := h'
        rcases List.mem_cons.1 hp with rfl | hp
        · refine ⟨p, List.mem_cons_self, hpc, fun r hr hrc => ?_⟩
          rcases List.mem_cons.1 hr with rfl | hr
          · exact Int.le_refl _
          · exact absurd ⟨r, hr, hrc⟩ hQ
        · exact absurd ⟨p, hp, hpc⟩ hQ
  obtain ⟨d, hd, hdc, hm⟩ := key P h
  exact ⟨d, hd, fun p hp => ⟨fun hpc => hm p hp hpc, fun hpd => by omega⟩⟩
theorem firstD_same {e : Int} {P : List Int} {L : List S73} {c d : Int} (h : ∀ p ∈ ends L, p ∈ P) (hs : Same P c d) : firstD e L c = firstD e L d := by
  induction L with
  | nil => rfl
  | cons x L ih =>
    have h0 := hs x.f0 (h _ (by simp [ends]))
    have h1 := hs (x.f1 + 1) (h _ (by simp [ends]))
    have hr := ih fun p hp => h p (by simp only [ends, List.flatMap_cons, List.mem_append]; exact .inr hp)
    simp only [firstD]
    by_cases g : x.f0 ≤ c ∧ c ≤ x.f1
    · rw [if_pos g, if_pos (by omega)]
    · rw [if_neg g, if_neg (by omega), hr]
theorem firstD_low {e : Int} {L : List S73} {c : Int} (h : ∀ p ∈ ends L, ¬ p ≤ c) : firstD e L c = e := by
  induction L with
  | nil => rfl
  | cons x L ih =>
    have h0 := h x.f0 (by simp [ends])
    simp only [firstD]
    rw [if_neg (by omega)]
    exact ih fun p hp => h p (by simp only [ends, List.flatMap_cons, List.mem_append]; exact .inr hp)
/-- Two such functions are one if they are one wherever a range of theirs begins or ends. -/
theorem firstD_eq {e : Int} {L M : List S73} (h : ∀ d ∈ ends L ++ ends M, firstD e L d = firstD e M d) (c : Int) : firstD e L c = firstD e M c := by
  by_cases hp : ∃ p ∈ ends L ++ ends M, p ≤ c
  · obtain ⟨d, hd, hs⟩ := same_rep _ c hp
    rw [firstD_same (P := ends L ++ ends M) (fun p hp => List.mem_append_left _ hp) hs, firstD_same (L := M) (P := ends L ++ ends M) (fun p hp => List.mem_append_right _ hp) hs]
    exact h d hd
  · rw [firstD_low fun p hm hc => hp ⟨p, List.mem_append_left _ hm, hc⟩, firstD_low fun p hm hc => hp ⟨p, List.mem_append_right _ hm, hc⟩]
/-- The document's marks. -/
def refMarks : List S73 := [⟨173, 173, 0⟩, ⟨768, 879, 0⟩, ⟨1425, 1469, 0⟩, ⟨1471, 1471, 0⟩, ⟨1473, 1473, 0⟩, ⟨1474, 1474, 0⟩, ⟨1552, 1562, 0⟩, ⟨1611, 1631, 0⟩, ⟨8203, 8207, 0⟩, ⟨8234, 8238, 0⟩, ⟨8288, 8297, 0⟩, ⟨65024, 65039, 0⟩, ⟨65532, 65532, 0⟩]
theorem found_eq (L M : List S73) (h : ∀ d ∈ ends L ++ ends M, firstD 1 L d = firstD 1 M d) (hL : ∀ x ∈ L, x.f2 = 0) (hM : ∀ x ∈ M, x.f2 = 0) (c : Int) : (findW L c).2 = (findW M c).2 := by
  have e := firstD_eq h c
  rw [firstD_find, firstD_find, find_zero hL, find_zero hM] at e
  cases h1 : (findW L c).2 <;> cases h2 : (findW M c).2 <;> rw [h1, h2] at e <;> first | rfl | (exfalso; revert e; decide)
theorem step_in {c a b v : Int} {L : List S73} {o : Option Bool} (h : o = some (findW L c).2) : ((chanceryref3_In.f c a b).bind fun t => if t = true then some true else o) = some (findW (⟨a, b, v⟩ :: L) c).2 := by
  rw [in_ok, h]
  simp only [Option.bind_some, findW]
  by_cases g : a ≤ c ∧ c ≤ b
  · rw [if_pos (decide_eq_true g), if_pos g]
  · rw [if_neg (by simpa using g), if_neg g]
theorem step_eq {c a v : Int} {L : List S73} {o : Option Bool} (h : o = some (findW L c).2) : (if c = a then some true else o) = some (findW (⟨a, a, v⟩ :: L) c).2 := by
  rw [h]
  simp only [findW]
  by_cases g : c = a
  · rw [if_pos g, if_pos (by omega)]
  · rw [if_neg g, if_neg (by omega)]
theorem isMark_ok (c : Int) : chanceryref3_IsMark.f c = some (findW refMarks c).2 := by
  unfold chanceryref3_IsMark.f
  refine step_eq (step_in (step_in (step_eq (step_eq (step_eq (step_in (step_in (step_in (step_in (step_in (step_in ?_)))))))))))
  simp only [findW]
  by_cases g : c = 65532
  · rw [if_pos (by omega), beq_iff_eq.2 g]
  · rw [if_neg (by omega), beq_eq_false_iff_ne.2 g]
theorem marks_eq (c : Int) : (findW marks c).2 = (findW refMarks c).2 := found_eq marks refMarks (by decide +kernel) (by decide) (by decide) c
def runesF (s : ByteArray) : Nat → Nat → List Int
  | 0, _ => []
  | b + 1, i => if i < s.size then ((Utf8.decode s i).1 : Int) :: runesF s b (i + (Utf8.decode s i).2) else []
theorem hasF_runes (s : ByteArray) (b i : Nat) (c : Int) : hasF s b i c = decide (c ∈ runesF s b i) := by
  induction b generalizing i with
  | zero => simp [hasF, runesF]
  | succ b ih =>
    by_cases h : i < s.size
    · have e : runesF s (b + 1) i = ((Utf8.decode s i).1 : Int) :: runesF s b (i + (Utf8.decode s i).2) := if_pos h
      rw [e, hasF, if_pos h, ih]
      by_cases g : ((Utf8.decode s i).1 : Int) = c
      · rw [if_pos g]; simp [g]
      · rw [if_neg g]; simp [Ne.symm g]
    · have e : runesF s (b + 1) i = [] := if_neg h
      rw [e, hasF, if_neg h]; simp
theorem has_ok (s : ByteArray) (l : List Int) (c : Int) (h : runesF s s.size 0 = l) : chanceryref3_has.f s c = some (decide (c ∈ l)) := by
  unfold chanceryref3_has.f
  rw [hasF_runes, h]
def T5 : List S73 := [⟨880, 1327, 560⟩, ⟨1424, 2303, 520⟩, ⟨4352, 4447, 1000⟩, ⟨8212, 8212, 1000⟩, ⟨11904, 42191, 1000⟩, ⟨44032, 55203, 1000⟩, ⟨63744, 64255, 1000⟩, ⟨65280, 65376, 1000⟩, ⟨131072, 262141, 1000⟩]
def T4 : List S73 := ⟨33, 126, 500⟩ :: ⟨223, 591, 500⟩ :: ⟨8208, 8211, 500⟩ :: T5
def T3 : List S73 := ⟨65, 90, 660⟩ :: ⟨192, 222, 660⟩ :: T4
def T2 : List S73 := pts 880 [77, 87] ++ T3
def T1 : List S73 := pts 280 [105, 106, 108, 33, 39, 44, 46, 58, 59, 124] ++ (pts 330 [73, 102, 114, 116, 40, 41, 91, 93, 45] ++ (pts 760 [109, 119] ++ T2))
def T0 : List S73 := pts 250 [32, 160] ++ T1
def refT : List S73 := refMarks ++ (pts 0 [9, 10] ++ T0)
theorem fst_in {e c a b v : Int} {L : List S73} {f : Nat → Option Int} (h : Ev f (firstD e L c)) : Ev (fun k => (chanceryref3_In.f c a b).bind fun t => if t = true then some v else f k) (firstD e (⟨a, b, v⟩ :: L) c) := by
  refine Ev.bind0 (in_ok _ _ _) ?_
  by_cases g : a ≤ c ∧ c ≤ b
  · exact Ev.dpos g (Ev.ret (if_pos g).symm)
  · exact Ev.dneg g (Ev.out h (if_neg g).symm)
theorem fst_eq {e c a v : Int} {L : List S73} {f : Nat → Option Int} (h : Ev f (firstD e L c)) : Ev (fun k => if c = a then some v else f k) (firstD e (⟨a, a, v⟩ :: L) c) := by
  by_cases g : c = a
  · exact Ev.pos g (Ev.ret (if_pos ⟨Int.le_of_eq g.symm, Int.le_of_eq g⟩).symm)
  · exact Ev.neg g (Ev.out h (if_neg (fun x => g (Int.le_antisymm x.2 x.1))).symm)
/-- A range whose flag goes on into the next part. -/
theorem fst_go {e c a b v : Int} {L : List S73} {f g : Nat → Option Int} (hf : Ev f v) (h : Ev g (firstD e L c)) : Ev (fun k => (chanceryref3_In.f c a b).bind fun t => if t = true then f k else g k) (firstD e (⟨a, b, v⟩ :: L) c) := by
  refine Ev.bind0 (in_ok _ _ _) ?_
  by_cases w : a ≤ c ∧ c ≤ b
  · exact Ev.dpos w (Ev.out hf (if_pos w).symm)
  · exact Ev.dneg w (Ev.out h (if_neg w).symm)
theorem j5_no (c : Int) : Ev (fun k => chanceryref3_Em.j5 k c false) (firstD 600 T5 c) := by
  refine Ev.step (fun k => by rw [chanceryref3_Em.j5]) (Ev.neg (by simp) ?_)
  exact fst_in (fst_in (fst_in (fst_eq (fst_in (fst_in (fst_in (fst_in (fst_in (Ev.ret rfl)))))))))
theorem j5_yes (c : Int) : Ev (fun k => chanceryref3_Em.j5 k c true) 500 := Ev.step (fun k => by rw [chanceryref3_Em.j5]) (Ev.pos rfl (Ev.ret rfl))
theorem j4_yes (c : Int) : Ev (fun k => chanceryref3_Em.j4 k c true) 660 := Ev.step (fun k => by rw [chanceryref3_Em.j4]) (Ev.pos rfl (Ev.ret rfl))
theorem j3_yes (c : Int) : Ev (fun k => chanceryref3_Em.j3 k c true) 880 := Ev.step (fun k => by rw [chanceryref3_Em.j3]) (Ev.pos rfl (Ev.ret rfl))
theorem j2_yes (c : Int) : Ev (fun k => chanceryref3_Em.j2 k c true) 760 := Ev.step (fun k => by rw [chanceryref3_Em.j2]) (Ev.pos rfl (Ev.ret rfl))
theorem j1_yes (c : Int) : Ev (fun k => chanceryref3_Em.j1 k c true) 250 := Ev.step (fun k => by rw [chanceryref3_Em.j1]) (Ev.pos rfl (Ev.ret rfl))
theorem j0_yes (c : Int) : Ev (fun k => chanceryref3_Em.j0 k c true) 0 := Ev.step (fun k => by rw [chanceryref3_Em.j0]) (Ev.pos rfl (Ev.ret rfl))
theorem j4_no (c : Int) : Ev (fun k => chanceryref3_Em.j4 k c false) (firstD 600 T4 c) := by
  refine Ev.step (fun k => by rw [chanceryref3_Em.j4]) (Ev.neg (by simp) ?_)
  refine Ev.bind0 (in_ok _ _ _) ?_
  by_cases w : 33 ≤ c ∧ c ≤ 126
  · rw [decide_eq_true w]
    exact Ev.pos rfl (Ev.out (j5_yes c) (if_pos w).symm)
  rw [decide_eq_false w]
  refine Ev.neg (by simp) (Ev.out ?_ (if_neg w).symm)
  refine Ev.bind0 (in_ok _ _ _) ?_
  by_cases w : 223 ≤ c ∧ c ≤ 591
  · rw [decide_eq_true w]
    exact Ev.pos rfl (Ev.out (j5_yes c) (if_pos w).symm)
  rw [decide_eq_false w]
  refine Ev.neg (by simp) (Ev.out ?_ (if_neg w).symm)
  refine Ev.bind0 (in_ok _ _ _) ?_
  by_cases w : 8208 ≤ c ∧ c ≤ 8211
  · rw [decide_eq_true w]
    exact Ev.out (j5_yes c) (if_pos w).symm
  rw [decide_eq_false w]
  exact Ev.out (j5_no c) (if_neg w).symm
theorem j3_no (c : Int) : Ev (fun k => chanceryref3_Em.j3 k c false) (firstD 600 T3 c) := by
  refine Ev.step (fun k => by rw [chanceryref3_Em.j3]) (Ev.neg (by simp) ?_)
  refine Ev.bind0 (in_ok _ _ _) ?_
  by_cases w : 65 ≤ c ∧ c ≤ 90
  · rw [decide_eq_true w]
    exact Ev.pos rfl (Ev.out (j4_yes c) (if_pos w).symm)
  rw [decide_eq_false w]
  refine Ev.neg (by simp) (Ev.out ?_ (if_neg w).symm)
  refine Ev.bind0 (in_ok _ _ _) ?_
  by_cases w : 192 ≤ c ∧ c ≤ 222
  · rw [decide_eq_true w]
    exact Ev.out (j4_yes c) (if_pos w).symm
  rw [decide_eq_false w]
  exact Ev.out (j4_no c) (if_neg w).symm
theorem j2_no (c : Int) : Ev (fun k => chanceryref3_Em.j2 k c false) (firstD 600 T2 c) := by
  refine Ev.step (fun k => by rw [chanceryref3_Em.j2]) (Ev.neg (by simp) ?_)
  refine Ev.out ?_ (first_pts _ _ _ _ _).symm
  by_cases a : c = 77
  · rw [if_pos (by simp [a]), beq_iff_eq.2 a]
    exact Ev.pos a (j3_yes c)
  refine Ev.neg a ?_
  by_cases b : c = 87
  · rw [if_pos (by simp [b]), beq_iff_eq.2 b]
    exact (j3_yes c)
  rw [if_neg (by simp [a, b]), beq_eq_false_iff_ne.2 b]
  exact j3_no c
theorem j1_no (c : Int) : Ev (fun k => chanceryref3_Em.j1 k c false) (firstD 600 T1 c) := by
  refine Ev.step (fun k => by rw [chanceryref3_Em.j1]) (Ev.neg (by simp) ?_)
  refine Ev.out ?_ (first_pts _ _ _ _ _).symm
  refine Ev.bind0 (has_ok _ [105, 106, 108, 33, 39, 44, 46, 58, 59, 124] c (by decide +kernel)) ?_
  by_cases a : c ∈ [105, 106, 108, 33, 39, 44, 46, 58, 59, 124]
  · rw [if_pos a]; exact Ev.dpos a (Ev.ret rfl)
  rw [if_neg a]
  refine Ev.dneg a ?_
  refine Ev.out ?_ (first_pts _ _ _ _ _).symm
  refine Ev.bind0 (has_ok _ [73, 102, 114, 116, 40, 41, 91, 93, 45] c (by decide +kernel)) ?_
  by_cases a : c ∈ [73, 102, 114, 116, 40, 41, 91, 93, 45]
  · rw [if_pos a]; exact Ev.dpos a (Ev.ret rfl)
  rw [if_neg a]
  refine Ev.dneg a ?_
  refine Ev.out ?_ (first_pts _ _ _ _ _).symm
  by_cases a : c = 109
  · rw [if_pos (by simp [a]), beq_iff_eq.2 a]
    exact Ev.pos a (j2_yes c)
  refine Ev.neg a ?_
  by_cases b : c = 119
  · rw [if_pos (by simp [b]), beq_iff_eq.2 b]
    exact (j2_yes c)
  rw [if_neg (by simp [a, b]), beq_eq_false_iff_ne.2 b]
  exact j2_no c
theorem j0_no (c : Int) : Ev (fun k => chanceryref3_Em.j0 k c false) (firstD 600 T0 c) := by
  refine Ev.step (fun k => by rw [chanceryref3_Em.j0]) (Ev.neg (by simp) ?_)
  refine Ev.out ?_ (first_pts _ _ _ _ _).symm
  by_cases a : c = 32
  · rw [if_pos (by simp [a]), beq_iff_eq.2 a]
    exact Ev.pos a (j1_yes c)
  refine Ev.neg a ?_
  by_cases b : c = 160
  · rw [if_pos (by simp [b]), beq_iff_eq.2 b]
    exact (j1_yes c)
  rw [if_neg (by simp [a, b]), beq_eq_false_iff_ne.2 b]
  exact j1_no c
theorem refEm_ok (c : Int) : Ev (fun k => chanceryref3_Em.f k c) (firstD 600 refT c) := by
  unfold chanceryref3_Em.f
  refine Ev.bind0 (isMark_ok c) ?_
  refine Ev.out ?_ (firstD_app _ _ _ _).symm
  rw [find_zero (by decide) c]
  cases (findW refMarks c).2
  · refine Ev.neg (by simp) ?_
    rw [if_neg (by simp)]
    refine Ev.out ?_ (first_pts _ _ _ _ _).symm
    by_cases a : c = 9
    · rw [if_pos (by simp [a]), beq_iff_eq.2 a]
      exact Ev.pos a (j0_yes c)
    refine Ev.neg a ?_
    by_cases b : c = 10
    · rw [if_pos (by simp [b]), beq_iff_eq.2 b]
      exact (j0_yes c)
    rw [if_neg (by simp [a, b]), beq_eq_false_iff_ne.2 b]
    exact j0_no c
  · rw [if_pos rfl]
    exact Ev.pos rfl (j0_yes c)
theorem em_eq (c : Int) : firstD 600 (marks ++ (singles ++ others)) c = firstD 600 refT c := firstD_eq (by decide +kernel) c
end MetEms
open MetEms in
theorem MetricEms (c : Int) : ∃ k, chancerylaw3_MetricEms.f k c = some true := by
  refine Ev.rounds (r := true) ?_
  unfold chancerylaw3_MetricEms.f
  refine Ev.bind (Ev.of (fun k => chancerylaw3_metrics.mono k) (k := 20) (by decide +kernel)) (Ev.pos rfl ?_)
  obtain ⟨xs, hx, hl⟩ := some_ok c
  refine Ev.bind0 hx ?_
  refine climb (g := fun i k => chancerylaw3_MetricEms.l0 k xs (xs.length : Int) i) (a := 0) (n := 5) (by omega) (Ev.step (fun k => by rw [chancerylaw3_MetricEms.l0]) (Ev.neg (by omega) (Ev.now _))) fun i i0 i1 hi => ?_
  refine Ev.step (fun k => by rw [chancerylaw3_MetricEms.l0]) (Ev.pos (by omega) (Ev.pos i0 (Ev.pos (by omega) ?_)))
  rw [w64 (n := i + 1) (by omega) (by omega)]
  refine Ev.bind0 (em_ok _) (Ev.bind (refEm_ok _) (Ev.pos (em_eq _) (Ev.bind0 (mark_ok _) (Ev.bind0 (isMark_ok _) ?_))))
  rw [marks_eq, bne_self_eq_false]
  exact Ev.neg (by simp) hi
end Go.Proofs.YtihmbddneapooaaDoor.Pure
