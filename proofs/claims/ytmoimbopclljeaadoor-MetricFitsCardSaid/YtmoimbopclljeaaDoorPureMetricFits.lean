/- Proved: Fit of the program returns the longest beginning of a text that is not too wide, by the widths and marks of the document, for every text, look and width that the statement speaks of: a statement over numbers and lists alone, about the Lean functions of this seat's texts. No condition. -/
import Derived.Test.YtmoimbopclljeaaDoorQMFx2
import Derived.Test.YtmoimbopclljeaaDoorLib
namespace Go.Proofs.YtmoimbopclljeaaDoor.Pure
open Go.RowKit Go.Proofs.YtmoimbopclljeaaDoor.PMetricWidths Go.Proofs.YtmoimbopclljeaaDoor.QMW Go.Proofs.YtmoimbopclljeaaDoor.QMF Go.Proofs.YtmoimbopclljeaaDoor.HandMW Go.Proofs.YtmoimbopclljeaaDoor.HandMWf Go.Proofs.YtmoimbopclljeaaDoorW.PrintWords Go.Proofs.YtmoimbopclljeaaDoorW.PrintLast Go.Proofs.YtmoimbopclljeaaDoorW.PrintMore Go.Proofs.YtmoimbopclljeaaDoor.Lib
set_option linter.unusedVariables false
namespace MetEms
theorem in_ok (a b c : Int) : chanceryref3_In.f a b c = some (decide (b ≤ a ∧ a ≤ c)) := by
  unfold chanceryref3_In.f
  by_cases h : a ≥ b
  · rw [if_pos h]; congr 1; simp; omega
  · rw [if_neg h]; congr 1; simp; omega
/-- The width of the first range that has the number, and whether there is one. -/
def findW : List S50 → Int → Int × Bool
  | [], _ => (0, false)
  | x :: l, c => if x.f0 ≤ c ∧ c ≤ x.f1 then (x.f2, true) else findW l c
/-- The width of the first range that has the number, or else e. -/
def firstD (e : Int) : List S50 → Int → Int
  | [], _ => e
  | x :: l, c => if x.f0 ≤ c ∧ c ≤ x.f1 then x.f2 else firstD e l c
theorem findW_yes {x : S50} {L : List S50} {c : Int} (h : x.f0 ≤ c ∧ c ≤ x.f1) : findW (x :: L) c = (x.f2, true) := if_pos h
theorem findW_no {x : S50} {L : List S50} {c : Int} (h : ¬ (x.f0 ≤ c ∧ c ≤ x.f1)) : findW (x :: L) c = findW L c := if_neg h
theorem firstD_yes {e : Int} {x : S50} {L : List S50} {c : Int} (h : x.f0 ≤ c ∧ c ≤ x.f1) : firstD e (x :: L) c = x.f2 := if_pos h
theorem firstD_no {e : Int} {x : S50} {L : List S50} {c : Int} (h : ¬ (x.f0 ≤ c ∧ c ≤ x.f1)) : firstD e (x :: L) c = firstD e L c := if_neg h
theorem firstD_app (e : Int) (L M : List S50) (c : Int) : firstD e (L ++ M) c = if (findW L c).2 = true then (findW L c).1 else firstD e M c := by
  induction L with
  | nil => rfl
  | cons x L ih =>
    by_cases h : x.f0 ≤ c ∧ c ≤ x.f1
    · rw [findW_yes h, List.cons_append, firstD_yes h]; rfl
    · rw [findW_no h, List.cons_append, firstD_no h, ih]
theorem firstD_find (e : Int) (L : List S50) (c : Int) : firstD e L c = if (findW L c).2 = true then (findW L c).1 else e := by
  have h := firstD_app e L [] c
  rw [List.append_nil] at h
  exact h
theorem find_zero {L : List S50} (h : ∀ x ∈ L, x.f2 = 0) (c : Int) : (findW L c).1 = 0 := by
  induction L with
  | nil => rfl
  | cons x L ih =>
    simp only [findW]
    split
    · exact h x List.mem_cons_self
    · exact ih fun y hy => h y (List.mem_cons_of_mem _ hy)
theorem find_one {L : List S50} (h : ∀ x ∈ L, x.f2 = 1) (c : Int) : (findW L c).2 = decide (firstD 0 L c = 1) := by
  induction L with
  | nil => rfl
  | cons x L ih =>
    simp only [findW, firstD]
    split
    · exact (decide_eq_true (h x List.mem_cons_self)).symm
    · exact ih fun y hy => h y (List.mem_cons_of_mem _ hy)
theorem drop_getD {α : Type} {L : List α} {i : Int} (z : α) (h0 : 0 ≤ i) (h : i < L.length) : L.drop i.toNat = L.getD i.toNat z :: L.drop (i + 1).toNat := by
  rw [List.getD_eq_getElem?_getD, List.getElem?_eq_getElem (by omega), show (i + 1).toNat = i.toNat + 1 by omega]
  exact List.drop_eq_getElem_cons (by omega)
theorem within_l (L : List S50) (c : Int) (hL : L.length ≤ 1000) (d : Nat) : ∀ (i : Int) (k : Nat), 0 ≤ i → i + d = L.length → d < k → metric_within.l0 k c L (L.length : Int) i = some (findW (L.drop i.toNat) c) := by
  induction d with
  | zero =>
    intro i k h0 hi hk
    obtain ⟨k, rfl⟩ : ∃ j, k = j + 1 := ⟨k - 1, by omega⟩
    rw [List.drop_eq_nil_of_le (by omega), metric_within.l0, if_neg (by omega)]
    rfl
  | succ d ih =>
    intro i k h0 hi hk
    obtain ⟨k, rfl⟩ : ∃ j, k = j + 1 := ⟨k - 1, by omega⟩
    have e : rd_T50 L i = L.getD i.toNat z50 := rfl
    rw [drop_getD z50 h0 (by omega), metric_within.l0, if_pos (by omega), if_pos h0, if_pos (by omega), e, w64 (n := i + 1) (by omega) (by omega), ih (i + 1) k (by omega) (by omega) (by omega)]
    generalize L.getD i.toNat z50 = x
    simp only [findW]
    by_cases a : c ≥ x.f0
    · by_cases b : c ≤ x.f1
      · rw [if_pos a, if_pos b, if_pos ⟨a, b⟩]
      · rw [if_pos a, if_neg b, if_neg (fun h => b h.2)]
    · rw [if_neg a, if_neg (fun h => a h.1)]
theorem within_f (L : List S50) (c : Int) (hL : L.length ≤ 20) : metric_within.f 30 L c = some (findW L c) := by
  unfold metric_within.f
  exact within_l L c (by omega) L.length 0 30 (by omega) (by omega) (by omega)
theorem mark_ok (c : Int) : metric_Mark.f c = some (findW marks c).2 := by
  unfold metric_Mark.f
  rw [within_f marks c (by decide)]
  rfl
def pts (v : Int) (l : List Int) : List S50 := l.map fun p => ⟨p, p, v⟩
theorem first_pts (e v : Int) (l : List Int) (T : List S50) (c : Int) : firstD e (pts v l ++ T) c = if c ∈ l then v else firstD e T c := by
  induction l with
  | nil => rfl
  | cons p l ih =>
    have e1 : firstD e (pts v (p :: l) ++ T) c = if p ≤ c ∧ c ≤ p then v else firstD e (pts v l ++ T) c := rfl
    rw [e1]
    by_cases h : c = p
    · rw [if_pos (by omega), if_pos (h ▸ List.mem_cons_self)]
    · rw [if_neg (by omega), ih]
      simp [h]
def singles : List S50 := pts 250 [32] ++ (pts 280 [105, 106, 108, 33, 39, 44, 46, 58, 59, 124] ++ (pts 330 [73, 102, 114, 116, 40, 41, 91, 93, 45] ++ (pts 760 [109, 119] ++ pts 880 [77, 87])))
def singleP : List Int := [32, 105, 106, 108, 33, 39, 44, 46, 58, 59, 124, 73, 102, 114, 116, 40, 41, 91, 93, 45, 109, 119, 77, 87]
theorem find_none {L : List S50} {c : Int} (h : ∀ x ∈ L, ¬ (x.f0 ≤ c ∧ c ≤ x.f1)) : findW L c = (0, false) := by
  induction L with
  | nil => rfl
  | cons x L ih =>
    simp only [findW]
    rw [if_neg (h x List.mem_cons_self)]
    exact ih fun y hy => h y (List.mem_cons_of_mem _ hy)
theorem single_ok (c : Int) : metric_single.f 9 c = some (findW singles c) := by
  by_cases hc : c ∈ singleP
  · have key : ∀ c ∈ singleP, metric_single.f 9 c = some (findW singles c) := by decide +kernel
    exact key c hc
  · have hx : ∀ x ∈ singles, x.f0 = x.f1 ∧ x.f0 ∈ singleP := by decide +kernel
    rw [find_none (L := singles) (c := c) fun x hm h => hc ((show x.f0 = c by have := (hx x hm).1; omega) ▸ (hx x hm).2)]
    have hn : ∀ p ∈ singleP, ¬ c = p := fun p hp e => hc (e ▸ hp)
    simp only [singleP, List.mem_cons, List.not_mem_nil, or_false, forall_eq_or_imp, forall_eq] at hn
    simp only [metric_single.f, metric_single.j0, metric_single.j1, metric_single.j2, hn, if_false, beq_iff_eq]
theorem em_ok (c : Int) : metric_Em.f c = some (firstD 600 (marks ++ (singles ++ others)) c) := by
  unfold metric_Em.f
  rw [mark_ok, single_ok, within_f others c (by decide), firstD_app, firstD_app, firstD_find, find_zero (by decide) c]
  simp only [Option.bind_some]
  split <;> try rfl
  split <;> try rfl
  split <;> rfl
/-- Numbers where a range begins, or the first behind one. -/
def ends (L : List S50) : List Int := L.flatMap fun x => [x.f0, x.f1 + 1]
def Same (P : List Int) (c d : Int) : Prop := ∀ p ∈ P, (p ≤ c ↔ p ≤ d)
theorem same_rep (P : List Int) (c : Int) (h : ∃ p ∈ P, p ≤ c) : ∃ d ∈ P, Same P c d := by
  have key : ∀ Q : List Int, (∃ p ∈ Q, p ≤ c) → ∃ d ∈ Q, d ≤ c ∧ ∀ p ∈ Q, p ≤ c → p ≤ d := by
    intro Q
    induction Q with
    | nil => intro ⟨p, hp, _⟩; cases hp
    | cons q Q ih =>
      intro _
      by_cases hQ : ∃ p ∈ Q, p ≤ c
      · obtain ⟨d, hd, hdc, hm⟩ := ih hQ
        by_cases hq : q ≤ c ∧ d < q
        · refine ⟨q, List.mem_cons_self, hq.1, fun p hp hpc => ?_⟩
          rcases List.mem_cons.1 hp with rfl | hp
          · exact Int.le_refl _
          · have := hm p hp hpc; omega
        · refine ⟨d, List.mem_cons_of_mem _ hd, hdc, fun p hp hpc => ?_⟩
          rcases List.mem_cons.1 hp with rfl | hp
          · omega
          · exact hm p hp hpc
      · rename_i h'
        obtain ⟨p, hp, hpc⟩ := h'
        rcases List.mem_cons.1 hp with rfl | hp
        · refine ⟨p, List.mem_cons_self, hpc, fun r hr hrc => ?_⟩
          rcases List.mem_cons.1 hr with rfl | hr
          · exact Int.le_refl _
          · exact absurd ⟨r, hr, hrc⟩ hQ
        · exact absurd ⟨p, hp, hpc⟩ hQ
  obtain ⟨d, hd, hdc, hm⟩ := key P h
  exact ⟨d, hd, fun p hp => ⟨fun hpc => hm p hp hpc, fun hpd => by omega⟩⟩
theorem firstD_same {e : Int} {P : List Int} {L : List S50} {c d : Int} (h : ∀ p ∈ ends L, p ∈ P) (hs : Same P c d) : firstD e L c = firstD e L d := by
  induction L with
  | nil => rfl
  | cons x L ih =>
    have h0 := hs x.f0 (h _ (by simp [ends]))
    have h1 := hs (x.f1 + 1) (h _ (by simp [ends]))
    have hr := ih fun p hp => h p (by simp only [ends, List.flatMap_cons, List.mem_append]; exact .inr hp)
    simp only [firstD]
    by_cases g : x.f0 ≤ c ∧ c ≤ x.f1
    · rw [if_pos g, if_pos (by omega)]
    · rw [if_neg g, if_neg (by omega), hr]
theorem firstD_low {e : Int} {L : List S50} {c : Int} (h : ∀ p ∈ ends L, ¬ p ≤ c) : firstD e L c = e := by
  induction L with
  | nil => rfl
  | cons x L ih =>
    have h0 := h x.f0 (by simp [ends])
    simp only [firstD]
    rw [if_neg (by omega)]
    exact ih fun p hp => h p (by simp only [ends, List.flatMap_cons, List.mem_append]; exact .inr hp)
/-- Two such functions are one if they are one wherever a range of theirs begins or ends. -/
theorem firstD_eq {e : Int} {L M : List S50} (h : ∀ d ∈ ends L ++ ends M, firstD e L d = firstD e M d) (c : Int) : firstD e L c = firstD e M c := by
  by_cases hp : ∃ p ∈ ends L ++ ends M, p ≤ c
  · obtain ⟨d, hd, hs⟩ := same_rep _ c hp
    rw [firstD_same (P := ends L ++ ends M) (fun p hp => List.mem_append_left _ hp) hs, firstD_same (L := M) (P := ends L ++ ends M) (fun p hp => List.mem_append_right _ hp) hs]
    exact h d hd
  · rw [firstD_low fun p hm hc => hp ⟨p, List.mem_append_left _ hm, hc⟩, firstD_low fun p hm hc => hp ⟨p, List.mem_append_right _ hm, hc⟩]
/-- The document's marks. -/
def refMarks : List S50 := [⟨173, 173, 0⟩, ⟨768, 879, 0⟩, ⟨1425, 1469, 0⟩, ⟨1471, 1471, 0⟩, ⟨1473, 1473, 0⟩, ⟨1474, 1474, 0⟩, ⟨1552, 1562, 0⟩, ⟨1611, 1631, 0⟩, ⟨8203, 8207, 0⟩, ⟨8234, 8238, 0⟩, ⟨8288, 8297, 0⟩, ⟨65024, 65039, 0⟩, ⟨65532, 65532, 0⟩]
theorem found_eq (L M : List S50) (h : ∀ d ∈ ends L ++ ends M, firstD 1 L d = firstD 1 M d) (hL : ∀ x ∈ L, x.f2 = 0) (hM : ∀ x ∈ M, x.f2 = 0) (c : Int) : (findW L c).2 = (findW M c).2 := by
  have e := firstD_eq h c
  rw [firstD_find, firstD_find, find_zero hL, find_zero hM] at e
  cases h1 : (findW L c).2 <;> cases h2 : (findW M c).2 <;> rw [h1, h2] at e <;> first | rfl | (exfalso; revert e; decide)
theorem step_in {c a b v : Int} {L : List S50} {o : Option Bool} (h : o = some (findW L c).2) : ((chanceryref3_In.f c a b).bind fun t => if t = true then some true else o) = some (findW (⟨a, b, v⟩ :: L) c).2 := by
  rw [in_ok, h]
  simp only [Option.bind_some, findW]
  by_cases g : a ≤ c ∧ c ≤ b
  · rw [if_pos (decide_eq_true g), if_pos g]
  · rw [if_neg (by simpa using g), if_neg g]
theorem step_eq {c a v : Int} {L : List S50} {o : Option Bool} (h : o = some (findW L c).2) : (if c = a then some true else o) = some (findW (⟨a, a, v⟩ :: L) c).2 := by
  rw [h]
  simp only [findW]
  by_cases g : c = a
  · rw [if_pos g, if_pos (by omega)]
  · rw [if_neg g, if_neg (by omega)]
theorem isMark_ok (c : Int) : chanceryref3_IsMark.f c = some (findW refMarks c).2 := by
  unfold chanceryref3_IsMark.f
  refine step_eq (step_in (step_in (step_eq (step_eq (step_eq (step_in (step_in (step_in (step_in (step_in (step_in ?_)))))))))))
  simp only [findW]
  by_cases g : c = 65532
  · rw [if_pos (by omega), beq_iff_eq.2 g]
  · rw [if_neg (by omega), beq_eq_false_iff_ne.2 g]
theorem marks_eq (c : Int) : (findW marks c).2 = (findW refMarks c).2 := found_eq marks refMarks (by decide +kernel) (by decide) (by decide) c
def runesF (s : ByteArray) : Nat → Nat → List Int
  | 0, _ => []
  | b + 1, i => if i < s.size then ((Utf8.decode s i).1 : Int) :: runesF s b (i + (Utf8.decode s i).2) else []
theorem hasF_runes (s : ByteArray) (b i : Nat) (c : Int) : hasF s b i c = decide (c ∈ runesF s b i) := by
  induction b generalizing i with
  | zero => simp [hasF, runesF]
  | succ b ih =>
    by_cases h : i < s.size
    · have e : runesF s (b + 1) i = ((Utf8.decode s i).1 : Int) :: runesF s b (i + (Utf8.decode s i).2) := if_pos h
      rw [e, hasF, if_pos h, ih]
      by_cases g : ((Utf8.decode s i).1 : Int) = c
      · rw [if_pos g]; simp [g]
      · rw [if_neg g]; simp [Ne.symm g]
    · have e : runesF s (b + 1) i = [] := if_neg h
      rw [e, hasF, if_neg h]; simp
theorem has_ok (s : ByteArray) (l : List Int) (c : Int) (h : runesF s s.size 0 = l) : chanceryref3_has.f s c = some (decide (c ∈ l)) := by
  unfold chanceryref3_has.f
  rw [hasF_runes, h]
def T5 : List S50 := [⟨880, 1327, 560⟩, ⟨1424, 2303, 520⟩, ⟨4352, 4447, 1000⟩, ⟨8212, 8212, 1000⟩, ⟨11904, 42191, 1000⟩, ⟨44032, 55203, 1000⟩, ⟨63744, 64255, 1000⟩, ⟨65280, 65376, 1000⟩, ⟨131072, 262141, 1000⟩]
def T4 : List S50 := ⟨33, 126, 500⟩ :: ⟨223, 591, 500⟩ :: ⟨8208, 8211, 500⟩ :: T5
def T3 : List S50 := ⟨65, 90, 660⟩ :: ⟨192, 222, 660⟩ :: T4
def T2 : List S50 := pts 880 [77, 87] ++ T3
def T1 : List S50 := pts 280 [105, 106, 108, 33, 39, 44, 46, 58, 59, 124] ++ (pts 330 [73, 102, 114, 116, 40, 41, 91, 93, 45] ++ (pts 760 [109, 119] ++ T2))
def T0 : List S50 := pts 250 [32, 160] ++ T1
def refT : List S50 := refMarks ++ (pts 0 [9, 10] ++ T0)
theorem fst_in {e c a b v : Int} {L : List S50} {f : Nat → Option Int} (h : Ev f (firstD e L c)) : Ev (fun k => (chanceryref3_In.f c a b).bind fun t => if t = true then some v else f k) (firstD e (⟨a, b, v⟩ :: L) c) := by
  refine Ev.bind0 (in_ok _ _ _) ?_
  by_cases g : a ≤ c ∧ c ≤ b
  · exact Ev.dpos g (Ev.ret (if_pos g).symm)
  · exact Ev.dneg g (Ev.out h (if_neg g).symm)
theorem fst_eq {e c a v : Int} {L : List S50} {f : Nat → Option Int} (h : Ev f (firstD e L c)) : Ev (fun k => if c = a then some v else f k) (firstD e (⟨a, a, v⟩ :: L) c) := by
  by_cases g : c = a
  · exact Ev.pos g (Ev.ret (if_pos ⟨Int.le_of_eq g.symm, Int.le_of_eq g⟩).symm)
  · exact Ev.neg g (Ev.out h (if_neg (fun x => g (Int.le_antisymm x.2 x.1))).symm)
/-- A range whose flag goes on into the next part. -/
theorem fst_go {e c a b v : Int} {L : List S50} {f g : Nat → Option Int} (hf : Ev f v) (h : Ev g (firstD e L c)) : Ev (fun k => (chanceryref3_In.f c a b).bind fun t => if t = true then f k else g k) (firstD e (⟨a, b, v⟩ :: L) c) := by
  refine Ev.bind0 (in_ok _ _ _) ?_
  by_cases w : a ≤ c ∧ c ≤ b
  · exact Ev.dpos w (Ev.out hf (if_pos w).symm)
  · exact Ev.dneg w (Ev.out h (if_neg w).symm)
theorem j5_no (c : Int) : Ev (fun k => chanceryref3_Em.j5 k c false) (firstD 600 T5 c) := by
  refine Ev.step (fun k => by rw [chanceryref3_Em.j5]) (Ev.neg (by simp) ?_)
  exact fst_in (fst_in (fst_in (fst_eq (fst_in (fst_in (fst_in (fst_in (fst_in (Ev.ret rfl)))))))))
theorem j5_yes (c : Int) : Ev (fun k => chanceryref3_Em.j5 k c true) 500 := Ev.step (fun k => by rw [chanceryref3_Em.j5]) (Ev.pos rfl (Ev.ret rfl))
theorem j4_yes (c : Int) : Ev (fun k => chanceryref3_Em.j4 k c true) 660 := Ev.step (fun k => by rw [chanceryref3_Em.j4]) (Ev.pos rfl (Ev.ret rfl))
theorem j3_yes (c : Int) : Ev (fun k => chanceryref3_Em.j3 k c true) 880 := Ev.step (fun k => by rw [chanceryref3_Em.j3]) (Ev.pos rfl (Ev.ret rfl))
theorem j2_yes (c : Int) : Ev (fun k => chanceryref3_Em.j2 k c true) 760 := Ev.step (fun k => by rw [chanceryref3_Em.j2]) (Ev.pos rfl (Ev.ret rfl))
theorem j1_yes (c : Int) : Ev (fun k => chanceryref3_Em.j1 k c true) 250 := Ev.step (fun k => by rw [chanceryref3_Em.j1]) (Ev.pos rfl (Ev.ret rfl))
theorem j0_yes (c : Int) : Ev (fun k => chanceryref3_Em.j0 k c true) 0 := Ev.step (fun k => by rw [chanceryref3_Em.j0]) (Ev.pos rfl (Ev.ret rfl))
theorem j4_no (c : Int) : Ev (fun k => chanceryref3_Em.j4 k c false) (firstD 600 T4 c) := by
  refine Ev.step (fun k => by rw [chanceryref3_Em.j4]) (Ev.neg (by simp) ?_)
  refine Ev.bind0 (in_ok _ _ _) ?_
  by_cases w : 33 ≤ c ∧ c ≤ 126
  · rw [decide_eq_true w]
    exact Ev.pos rfl (Ev.out (j5_yes c) (if_pos w).symm)
  rw [decide_eq_false w]
  refine Ev.neg (by simp) (Ev.out ?_ (if_neg w).symm)
  refine Ev.bind0 (in_ok _ _ _) ?_
  by_cases w : 223 ≤ c ∧ c ≤ 591
  · rw [decide_eq_true w]
    exact Ev.pos rfl (Ev.out (j5_yes c) (if_pos w).symm)
  rw [decide_eq_false w]
  refine Ev.neg (by simp) (Ev.out ?_ (if_neg w).symm)
  refine Ev.bind0 (in_ok _ _ _) ?_
  by_cases w : 8208 ≤ c ∧ c ≤ 8211
  · rw [decide_eq_true w]
    exact Ev.out (j5_yes c) (if_pos w).symm
  rw [decide_eq_false w]
  exact Ev.out (j5_no c) (if_neg w).symm
theorem j3_no (c : Int) : Ev (fun k => chanceryref3_Em.j3 k c false) (firstD 600 T3 c) := by
  refine Ev.step (fun k => by rw [chanceryref3_Em.j3]) (Ev.neg (by simp) ?_)
  refine Ev.bind0 (in_ok _ _ _) ?_
  by_cases w : 65 ≤ c ∧ c ≤ 90
  · rw [decide_eq_true w]
    exact Ev.pos rfl (Ev.out (j4_yes c) (if_pos w).symm)
  rw [decide_eq_false w]
  refine Ev.neg (by simp) (Ev.out ?_ (if_neg w).symm)
  refine Ev.bind0 (in_ok _ _ _) ?_
  by_cases w : 192 ≤ c ∧ c ≤ 222
  · rw [decide_eq_true w]
    exact Ev.out (j4_yes c) (if_pos w).symm
  rw [decide_eq_false w]
  exact Ev.out (j4_no c) (if_neg w).symm
theorem j2_no (c : Int) : Ev (fun k => chanceryref3_Em.j2 k c false) (firstD 600 T2 c) := by
  refine Ev.step (fun k => by rw [chanceryref3_Em.j2]) (Ev.neg (by simp) ?_)
  refine Ev.out ?_ (first_pts _ _ _ _ _).symm
  by_cases a : c = 77
  · rw [if_pos (by simp [a]), beq_iff_eq.2 a]
    exact Ev.pos a (j3_yes c)
  refine Ev.neg a ?_
  by_cases b : c = 87
  · rw [if_pos (by simp [b]), beq_iff_eq.2 b]
    exact (j3_yes c)
  rw [if_neg (by simp [a, b]), beq_eq_false_iff_ne.2 b]
  exact j3_no c
theorem j1_no (c : Int) : Ev (fun k => chanceryref3_Em.j1 k c false) (firstD 600 T1 c) := by
  refine Ev.step (fun k => by rw [chanceryref3_Em.j1]) (Ev.neg (by simp) ?_)
  refine Ev.out ?_ (first_pts _ _ _ _ _).symm
  refine Ev.bind0 (has_ok _ [105, 106, 108, 33, 39, 44, 46, 58, 59, 124] c (by decide +kernel)) ?_
  by_cases a : c ∈ [105, 106, 108, 33, 39, 44, 46, 58, 59, 124]
  · rw [if_pos a]; exact Ev.dpos a (Ev.ret rfl)
  rw [if_neg a]
  refine Ev.dneg a ?_
  refine Ev.out ?_ (first_pts _ _ _ _ _).symm
  refine Ev.bind0 (has_ok _ [73, 102, 114, 116, 40, 41, 91, 93, 45] c (by decide +kernel)) ?_
  by_cases a : c ∈ [73, 102, 114, 116, 40, 41, 91, 93, 45]
  · rw [if_pos a]; exact Ev.dpos a (Ev.ret rfl)
  rw [if_neg a]
  refine Ev.dneg a ?_
  refine Ev.out ?_ (first_pts _ _ _ _ _).symm
  by_cases a : c = 109
  · rw [if_pos (by simp [a]), beq_iff_eq.2 a]
    exact Ev.pos a (j2_yes c)
  refine Ev.neg a ?_
  by_cases b : c = 119
  · rw [if_pos (by simp [b]), beq_iff_eq.2 b]
    exact (j2_yes c)
  rw [if_neg (by simp [a, b]), beq_eq_false_iff_ne.2 b]
  exact j2_no c
theorem j0_no (c : Int) : Ev (fun k => chanceryref3_Em.j0 k c false) (firstD 600 T0 c) := by
  refine Ev.step (fun k => by rw [chanceryref3_Em.j0]) (Ev.neg (by simp) ?_)
  refine Ev.out ?_ (first_pts _ _ _ _ _).symm
  by_cases a : c = 32
  · rw [if_pos (by simp [a]), beq_iff_eq.2 a]
    exact Ev.pos a (j1_yes c)
  refine Ev.neg a ?_
  by_cases b : c = 160
  · rw [if_pos (by simp [b]), beq_iff_eq.2 b]
    exact (j1_yes c)
  rw [if_neg (by simp [a, b]), beq_eq_false_iff_ne.2 b]
  exact j1_no c
theorem refEm_ok (c : Int) : Ev (fun k => chanceryref3_Em.f k c) (firstD 600 refT c) := by
  unfold chanceryref3_Em.f
  refine Ev.bind0 (isMark_ok c) ?_
  refine Ev.out ?_ (firstD_app _ _ _ _).symm
  rw [find_zero (by decide) c]
  cases (findW refMarks c).2
  · refine Ev.neg (by simp) ?_
    rw [if_neg (by simp)]
    refine Ev.out ?_ (first_pts _ _ _ _ _).symm
    by_cases a : c = 9
    · rw [if_pos (by simp [a]), beq_iff_eq.2 a]
      exact Ev.pos a (j0_yes c)
    refine Ev.neg a ?_
    by_cases b : c = 10
    · rw [if_pos (by simp [b]), beq_iff_eq.2 b]
      exact (j0_yes c)
    rw [if_neg (by simp [a, b]), beq_eq_false_iff_ne.2 b]
    exact j0_no c
  · rw [if_pos rfl]
    exact Ev.pos rfl (j0_yes c)
theorem em_eq (c : Int) : firstD 600 (marks ++ (singles ++ others)) c = firstD 600 refT c := firstD_eq (by decide +kernel) c
end MetEms
namespace MetW
open MetEms
def emV (c : Int) : Int := firstD 600 refT c
theorem firstD_bd {e lo hi : Int} {L : List S50} (he : lo ≤ e ∧ e ≤ hi) (h : ∀ x ∈ L, lo ≤ x.f2 ∧ x.f2 ≤ hi) (c : Int) : lo ≤ firstD e L c ∧ firstD e L c ≤ hi := by
  induction L with
  | nil => exact he
  | cons x L ih =>
    simp only [firstD]
    split
    · exact h x List.mem_cons_self
    · exact ih fun y hy => h y (List.mem_cons_of_mem _ hy)
theorem emV_bd (c : Int) : 0 ≤ emV c ∧ emV c ≤ 1000 := firstD_bd (by decide) (by decide +kernel) c
theorem emP_ok (c : Int) : metric_Em.f c = some (emV c) := by rw [em_ok, em_eq]; rfl
def rnd (x : Int) : Int := (2 * x + 1000) / 2000
theorem rnd_zero : rnd 0 = 0 := rfl
theorem rnd_bd {x b : Int} (h0 : 0 ≤ x) (h1 : x ≤ 1000 * b) : 0 ≤ rnd x ∧ rnd x ≤ b := by
  unfold rnd; omega
theorem round_ok (x : Int) (h0 : 0 ≤ x) (h1 : x ≤ 1000000000) : metric_round.f x 1000 = some (rnd x) := by
  unfold metric_round.f rnd
  rw [w64 (n := 2 * 1000) (by omega) (by omega), if_neg (by omega), w64 (n := 2 * x) (by omega) (by omega), w64 (n := 2 * x + 1000) (by omega) (by omega), show (2 * 1000 : Int) = 2000 by omega, tdiv_nn (by omega), w64 (by omega) (by omega)]
theorem half_ok (x : Int) (h0 : 0 ≤ x) (h1 : x ≤ 1000000000) : chanceryref3_Half.f x 1000 = some (rnd x) := by
  unfold chanceryref3_Half.f rnd
  rw [if_neg (by decide), tmod_nn h0, tdiv_nn h0, w64 (n := x / 1000) (by omega) (by omega), w64 (n := 2 * (x % 1000)) (by omega) (by omega)]
  by_cases h : 2 * (x % 1000) ≥ 1000
  · rw [if_pos h, w64 (by omega) (by omega)]; congr 1; omega
  · rw [if_neg h]; congr 1; omega
theorem prod_bd {a b A : Int} (ha : 0 ≤ a) (hA : a ≤ A) (hb : 40 ≤ b ∧ b ≤ 4000) : 0 ≤ a * b ∧ a * b ≤ A * 4000 :=
  ⟨Int.mul_nonneg ha (by omega), Int.mul_le_mul hA hb.2 (by omega) (by omega)⟩
def advL (c : Int) (b f : Bool) : Int := if emV c = 0 then 0 else if f = true then (if emV c = 1000 then 1200 else 600) else if b = true then emV c + 40 else emV c
theorem advL_bd (c : Int) (b f : Bool) : 0 ≤ advL c b f ∧ advL c b f ≤ 1200 := by
  have := emV_bd c
  unfold advL
  repeat' split
  all_goals omega
def advV (s : Int) (b f : Bool) (c : Int) : Int := rnd (advL c b f * s)
section
variable {s : Int} (hs : 40 ≤ s ∧ s ≤ 4000) (b f : Bool)
include hs
theorem advV_bd (c : Int) : 0 ≤ advV s b f c ∧ advV s b f c ≤ 4800 := by
  have h := advL_bd c b f
  have h2 := prod_bd h.1 h.2 hs
  exact rnd_bd h2.1 (by omega)
theorem rbind (x : Int) (h0 : 0 ≤ x) (h1 : x ≤ 1200) : ((metric_round.f (wrap64 (x * s)) 1000).bind fun t => some t) = some (rnd (x * s)) := by
  have h2 := prod_bd h0 h1 hs
  rw [w64 (n := x * s) (by omega) (by omega), round_ok _ h2.1 (by omega)]; rfl
theorem hbind (x : Int) (h0 : 0 ≤ x) (h1 : x ≤ 1200) : ((chanceryref3_Half.f (wrap64 (x * s)) 1000).bind fun t => some t) = some (rnd (x * s)) := by
  have h2 := prod_bd h0 h1 hs
  rw [w64 (n := x * s) (by omega) (by omega), half_ok _ h2.1 (by omega)]; rfl
theorem advance_ok (c : Int) : Ev (fun k => metric_advance.f k c s b f) (advV s b f c) := by
  have he := emV_bd c
  unfold metric_advance.f
  refine Ev.bind0 (emP_ok c) ?_
  by_cases h0 : emV c = 0
  · exact Ev.pos h0 (Ev.ret (by unfold advV advL; rw [if_pos h0, Int.zero_mul]; rfl))
  refine Ev.neg h0 ?_
  cases f with
  | true =>
    refine Ev.pos rfl (Ev.step (fun k => by rw [metric_advance.j0]) ?_)
    by_cases h1 : emV c = 1000
    · exact Ev.pos (by simp [h1]) (Ev.ret' (by rw [rbind hs _ (by omega) (by omega)]; unfold advV advL; rw [if_neg h0, if_pos rfl, if_pos h1]))
    · exact Ev.neg (by simp [h1]) (Ev.pos rfl (Ev.ret' (by rw [rbind hs _ (by omega) (by omega)]; unfold advV advL; rw [if_neg h0, if_pos rfl, if_neg h1])))
  | false =>
    refine Ev.neg (by simp) (Ev.step (fun k => by rw [metric_advance.j0]) (Ev.neg (by simp) (Ev.neg (by simp) ?_)))
    cases b with
    | true =>
      refine Ev.pos rfl (Ev.ret' ?_)
      rw [w64 (n := emV c + 40) (by omega) (by omega), rbind hs _ (by omega) (by omega)]
      unfold advV advL; rw [if_neg h0, if_neg (by simp), if_pos rfl]
    | false =>
      refine Ev.neg (by simp) (Ev.ret' ?_)
      rw [rbind hs _ (by omega) (by omega)]
      unfold advV advL; rw [if_neg h0, if_neg (by simp), if_neg (by simp)]
theorem wide_ok (c : Int) : Ev (fun k => chanceryref3_Wide.f k c s b f) (advV s b f c) := by
  have he := emV_bd c
  unfold chanceryref3_Wide.f
  refine Ev.bind (refEm_ok c) ?_
  by_cases h0 : emV c = 0
  · refine Ev.neg (by have : firstD 600 refT c = 0 := h0; omega) (Ev.step (fun k => by rw [chanceryref3_Wide.j0]) (Ev.neg (by simp) (Ev.neg (by have : firstD 600 refT c = 0 := h0; omega) (Ev.ret' ?_))))
    rw [show firstD 600 refT c = 0 from h0, hbind hs _ (by omega) (by omega)]
    unfold advV advL; rw [if_pos h0]
  have hpos : firstD 600 refT c > 0 := by have : emV c = firstD 600 refT c := rfl; omega
  refine Ev.pos hpos ?_
  cases f with
  | true =>
    refine Ev.step (fun k => by rw [chanceryref3_Wide.j0]) (Ev.pos rfl (Ev.bind (refEm_ok c) ?_))
    by_cases h1 : emV c = 1000
    · exact Ev.pos h1 (Ev.ret' (by rw [hbind hs _ (by omega) (by omega)]; unfold advV advL; rw [if_neg h0, if_pos rfl, if_pos h1]))
    · exact Ev.neg h1 (Ev.ret' (by rw [hbind hs _ (by omega) (by omega)]; unfold advV advL; rw [if_neg h0, if_pos rfl, if_neg h1]))
  | false =>
    refine Ev.step (fun k => by rw [chanceryref3_Wide.j0]) (Ev.neg (by simp) (Ev.pos hpos ?_))
    cases b with
    | true =>
      refine Ev.pos rfl (Ev.ret' ?_)
      rw [show firstD 600 refT c = emV c from rfl, w64 (n := emV c + 40) (by omega) (by omega), hbind hs _ (by omega) (by omega)]
      unfold advV advL; rw [if_neg h0, if_neg (by simp), if_pos rfl]
    | false =>
      refine Ev.neg (by simp) (Ev.ret' ?_)
      rw [show firstD 600 refT c = emV c from rfl, hbind hs _ (by omega) (by omega)]
      unfold advV advL; rw [if_neg h0, if_neg (by simp), if_neg (by simp)]
end
def offV (f : Bool) (n : Int) : Int := if f = true then 0 else n
theorem pairV_bd (a c : Int) : 0 ≤ pairV a c ∧ pairV a c ≤ 90 := by
  unfold pairV
  repeat' split
  all_goals omega
theorem offV_bd {f : Bool} {n : Int} (h : 0 ≤ n ∧ n ≤ 90) : 0 ≤ offV f n ∧ offV f n ≤ 90 := by
  unfold offV
  split
  all_goals omega
def nearV (s : Int) (f : Bool) (a c : Int) : Int := rnd (offV f (pairV a c) * s)
theorem has4 (c : Int) : chanceryref3_has.f (⟨#[84, 86, 87, 89]⟩ : ByteArray) c = some (leanB c) := by
  rw [has_ok _ [84, 86, 87, 89] c (by decide +kernel)]
  simp only [leanB, List.mem_cons, List.not_mem_nil, or_false]
theorem has5 (c : Int) : chanceryref3_has.f (⟨#[84, 86, 87, 89, 80]⟩ : ByteArray) c = some (decide (leanB c = true ∨ c = 80)) := by
  rw [has_ok _ [84, 86, 87, 89, 80] c (by decide +kernel)]
  simp only [leanB, List.mem_cons, List.not_mem_nil, or_false, decide_eq_true_eq, or_assoc]
section
variable {s : Int} (hs : 40 ≤ s ∧ s ≤ 4000) (b f : Bool)
include hs
theorem nearV_bd (a c : Int) : 0 ≤ nearV s f a c ∧ nearV s f a c ≤ 360 := by
  have h := offV_bd (f := f) (pairV_bd a c)
  have h2 := prod_bd h.1 h.2 hs
  exact rnd_bd h2.1 (by omega)
theorem n2_ok (n : Int) (hn : 0 ≤ n ∧ n ≤ 90) (t : Bool) : Ev (fun k => chanceryref3_Nearer.j2 k n t s b f) (rnd (offV f (if t = true then 90 else n) * s)) := by
  refine Ev.step (fun k => by rw [chanceryref3_Nearer.j2]) ?_
  cases t <;> cases f
  · exact Ev.neg (by simp) (Ev.neg (by simp) (Ev.ret' (by rw [hbind hs _ (by omega) (by omega)]; rfl)))
  · exact Ev.neg (by simp) (Ev.pos rfl (Ev.ret' (by rw [hbind hs _ (by omega) (by omega)]; rfl)))
  · exact Ev.pos rfl (Ev.neg (by simp) (Ev.ret' (by rw [hbind hs _ (by omega) (by omega)]; rfl)))
  · exact Ev.pos rfl (Ev.pos rfl (Ev.ret' (by rw [hbind hs _ (by omega) (by omega)]; rfl)))
theorem n1_ok (a c n : Int) (hn : 0 ≤ n ∧ n ≤ 90) : Ev (fun k => chanceryref3_Nearer.j1 k a c n s b f) (rnd (offV f (if (leanB a = true ∨ a = 80) ∧ (c = 46 ∨ c = 44) then 90 else n) * s)) := by
  refine Ev.step (fun k => by rw [chanceryref3_Nearer.j1]) (Ev.bind0 (has5 a) ?_)
  by_cases h : leanB a = true ∨ a = 80
  · refine Ev.dpos h ?_
    by_cases h1 : c = 46
    · refine Ev.pos h1 (Ev.out (n2_ok hs b f n hn true) ?_)
      rw [if_pos rfl, if_pos ⟨h, .inl h1⟩]
    · refine Ev.neg h1 (Ev.out (n2_ok hs b f n hn _) ?_)
      by_cases h2 : c = 44
      · rw [if_pos (by simp [h2]), if_pos ⟨h, .inr h2⟩]
      · rw [if_neg (by simp [h2]), if_neg (by simp [h1, h2])]
  · refine Ev.dneg h (Ev.out (n2_ok hs b f n hn false) ?_)
    rw [if_neg (by simp), if_neg (fun x => h x.1)]
theorem n0_ok (a c : Int) (t : Bool) (ht : t = true ↔ (leanB a = true ∧ c = 65) ∨ (a = 65 ∧ leanB c = true)) : Ev (fun k => chanceryref3_Nearer.j0 k a c 0 t s b f) (nearV s f a c) := by
  refine Ev.step (fun k => by rw [chanceryref3_Nearer.j0]) ?_
  cases t with
  | true =>
    refine Ev.pos rfl (Ev.out (n1_ok hs b f a c 70 (by omega)) ?_)
    have h := ht.1 rfl
    unfold nearV pairV
    rw [if_pos h, if_neg (fun x => by
      rcases h with ⟨h1, h2⟩ | ⟨h1, h2⟩
      · omega
      · subst h1
        rcases x.1 with y | y
        · revert y; decide
        · omega)]
  | false =>
    refine Ev.neg (by simp) (Ev.out (n1_ok hs b f a c 0 (by omega)) ?_)
    unfold nearV pairV
    rw [if_neg (show ¬ ((leanB a = true ∧ c = 65) ∨ (a = 65 ∧ leanB c = true)) from fun x => by have := ht.2 x; cases this)]
theorem nearer_ok (a c : Int) : Ev (fun k => chanceryref3_Nearer.f k a c s b f) (nearV s f a c) := by
  unfold chanceryref3_Nearer.f
  refine Ev.bind0 (has4 a) ?_
  cases h : leanB a with
  | true =>
    have ha : ¬ a = 65 := fun e => by subst e; revert h; decide
    refine Ev.pos rfl ?_
    by_cases h1 : c = 65
    · exact Ev.pos h1 (n0_ok hs b f a c true (by simp [h, h1]))
    · exact Ev.neg h1 (Ev.neg ha (n0_ok hs b f a c false (by simp [h1, ha])))
  | false =>
    refine Ev.neg (by simp) ?_
    by_cases ha : a = 65
    · exact Ev.pos ha (Ev.bind0 (has4 c) (n0_ok hs b f a c _ ⟨fun x => .inr ⟨ha, x⟩, fun x => by
        rcases x with ⟨h1, _⟩ | ⟨_, h2⟩
        · rw [h] at h1; cases h1
        · exact h2⟩))
    · exact Ev.neg ha (n0_ok hs b f a c false (by simp [h, ha]))
theorem kern_ok (a c : Int) : metric_kern.f a c s b f = some (- nearV s f a c) := by
  unfold metric_kern.f
  have hb := nearV_bd hs f a c
  cases f with
  | true => rw [if_pos rfl]; unfold nearV offV; rw [if_pos rfl, Int.zero_mul]; rfl
  | false =>
    rw [if_neg (by simp), show metric_pair.f a c = some (pairV a c) from rfl]
    simp only [Option.bind_some]
    have hp := pairV_bd a c
    have h2 := prod_bd hp.1 hp.2 hs
    rw [w64 (n := pairV a c * s) (by omega) (by omega), round_ok _ h2.1 (by omega)]
    simp only [Option.bind_some]
    rw [show rnd (pairV a c * s) = nearV s false a c by unfold nearV offV; rw [if_neg (by simp)], w64 (by omega) (by omega)]
end
/-- The width of the first i characters. -/
def sumW (A : Int → Int) (K : Int → Int → Int) (xs : List Int) : Nat → Int
  | 0 => 0
  | i + 1 => sumW A K xs i + A (rd xs i) - (if i = 0 then 0 else K (rd xs ((i : Int) - 1)) (rd xs i))
theorem sumW_succ (A : Int → Int) (K : Int → Int → Int) (xs : List Int) {i : Int} (h0 : 0 ≤ i) : sumW A K xs (i + 1).toNat = sumW A K xs i.toNat + A (rd xs i) - (if i = 0 then 0 else K (rd xs (i - 1)) (rd xs i)) := by
  rw [show (i + 1).toNat = i.toNat + 1 by omega, sumW, show ((i.toNat : Nat) : Int) = i by omega]
  congr 1
  by_cases e : i = 0
  · rw [if_pos e, if_pos (by omega)]
  · rw [if_neg e, if_neg (by omega)]
theorem sumW_bd {A : Int → Int} {K : Int → Int → Int} (hA : ∀ c, 0 ≤ A c ∧ A c ≤ 4800) (hK : ∀ a c, 0 ≤ K a c ∧ K a c ≤ 360) (xs : List Int) : ∀ i : Nat, -360 * (i : Int) ≤ sumW A K xs i ∧ sumW A K xs i ≤ 4800 * (i : Int) := by
  intro i
  induction i with
  | zero => simp [sumW]
  | succ i ih =>
    have h1 := hA (rd xs i)
    have h2 := hK (rd xs ((i : Int) - 1)) (rd xs i)
    rw [sumW]
    split
    all_goals omega
theorem sumW_congr (A : Int → Int) (K : Int → Int → Int) {xs ys : List Int} {n : Nat} (h : ∀ i : Int, 0 ≤ i → i < n → rd xs i = rd ys i) : sumW A K xs n = sumW A K ys n := by
  induction n with
  | zero => rfl
  | succ n ih =>
    rw [sumW, sumW, ih fun i h0 h1 => h i h0 (by omega), h n (by omega) (by omega)]
    by_cases e : n = 0
    · rw [if_pos e, if_pos e]
    · rw [if_neg e, if_neg e, h ((n : Int) - 1) (by omega) (by omega)]
def Ch (c : Int) : Prop := 0 ≤ c ∧ c ≤ 1114111
def All (xs : List Int) : Prop := ∀ i : Int, 0 ≤ i → i < xs.length → Ch (rd xs i)
theorem checkText_ok (xs : List Int) (hl : xs.length ≤ 1000) : (All xs → Ev (fun k => metric_checkText.f k xs) 0) ∧ (¬ All xs → Ev (fun k => metric_checkText.f k xs) 2) := by
  have go : ∀ i : Int, 0 ≤ i → i < xs.length → Ch (rd xs i) → ∀ r, Ev (fun k => metric_checkText.l0 k xs (xs.length : Int) (i + 1)) r → Ev (fun k => metric_checkText.l0 k xs (xs.length : Int) i) r := by
    intro i h0 h1 hc r h
    refine Ev.step (fun k => by rw [metric_checkText.l0]) (Ev.pos h1 (Ev.pos h0 (Ev.pos h1 (Ev.neg (by unfold Ch at hc; omega) (Ev.neg (by unfold Ch at hc; omega) ?_)))))
    rw [w64 (n := i + 1) (by omega) (by omega)]; exact h
  constructor
  · intro hA
    unfold metric_checkText.f
    refine Ev.neg (by omega) ?_
    exact climb (g := fun i k => metric_checkText.l0 k xs (xs.length : Int) i) (a := 0) (n := xs.length) (by omega) (Ev.step (fun k => by rw [metric_checkText.l0]) (Ev.neg (by omega) (Ev.now _))) fun i h0 h1 h => go i h0 h1 (hA i h0 h1) _ h
  · intro hA
    unfold metric_checkText.f
    refine Ev.neg (by omega) ?_
    rcases first_bad (fun i => Ch (rd xs i)) xs.length with h | ⟨j, j0, j1, hj, hb⟩
    · exact absurd h hA
    · refine climb (g := fun i k => metric_checkText.l0 k xs (xs.length : Int) i) (a := 0) (n := j) (by omega) (Ev.step (fun k => by rw [metric_checkText.l0]) (Ev.pos j1 (Ev.pos j0 (Ev.pos j1 ?_)))) fun i h0 h1 h => go i h0 (by omega) (hb i h0 h1) _ h
      by_cases hl : rd xs j < 0
      · exact Ev.pos hl (Ev.now _)
      · exact Ev.neg hl (Ev.pos (by unfold Ch at hj; omega) (Ev.now _))
theorem charsError_ok (xs : List Int) (hl : xs.length ≤ 1000) : (All xs → Ev (fun k => chanceryref3_CharsError.f k xs) 0) ∧ (¬ All xs → Ev (fun k => chanceryref3_CharsError.f k xs) 2) := by
  have go : ∀ i : Int, 0 ≤ i → i < xs.length → Ch (rd xs i) → ∀ r, Ev (fun k => chanceryref3_CharsError.l0 k xs (xs.length : Int) (i + 1)) r → Ev (fun k => chanceryref3_CharsError.l0 k xs (xs.length : Int) i) r := by
    intro i h0 h1 hc r h
    refine Ev.step (fun k => by rw [chanceryref3_CharsError.l0]) (Ev.pos h1 (Ev.pos h0 (Ev.pos h1 (Ev.bind0 (in_ok _ _ _) (Ev.dpos (p := 0 ≤ rd xs i ∧ rd xs i ≤ 1114111) hc ?_)))))
    rw [w64 (n := i + 1) (by omega) (by omega)]; exact h
  constructor
  · intro hA
    unfold chanceryref3_CharsError.f
    exact climb (g := fun i k => chanceryref3_CharsError.l0 k xs (xs.length : Int) i) (a := 0) (n := xs.length) (by omega) (Ev.step (fun k => by rw [chanceryref3_CharsError.l0]) (Ev.neg (by omega) (Ev.now _))) fun i h0 h1 h => go i h0 h1 (hA i h0 h1) _ h
  · intro hA
    unfold chanceryref3_CharsError.f
    rcases first_bad (fun i => Ch (rd xs i)) xs.length with h | ⟨j, j0, j1, hj, hb⟩
    · exact absurd h hA
    · refine climb (g := fun i k => chanceryref3_CharsError.l0 k xs (xs.length : Int) i) (a := 0) (n := j) (by omega) (Ev.step (fun k => by rw [chanceryref3_CharsError.l0]) (Ev.pos j1 (Ev.pos j0 (Ev.pos j1 (Ev.bind0 (in_ok _ _ _) (Ev.dneg (p := 0 ≤ rd xs j ∧ rd xs j ≤ 1114111) hj (Ev.now _))))))) fun i h0 h1 h => go i h0 (by omega) (hb i h0 h1) _ h
def Size (s : Int) : Prop := 40 ≤ s ∧ s ≤ 4000
theorem look_yes {s : Int} (h : Size s) (b f : Bool) : chanceryref3_LookError.f s b f = some 0 := by
  unfold chanceryref3_LookError.f; rw [in_ok, decide_eq_true (show 40 ≤ s ∧ s ≤ 4000 from h)]; rfl
theorem look_no {s : Int} (h : ¬ Size s) (b f : Bool) : chanceryref3_LookError.f s b f = some 2 := by
  unfold chanceryref3_LookError.f; rw [in_ok, decide_eq_false (show ¬ (40 ≤ s ∧ s ≤ 4000) from h)]; rfl
theorem check_yes {s : Int} (h : Size s) (b f : Bool) : metric_Check.f s b f = some 0 := by
  unfold Size at h; unfold metric_Check.f; rw [if_neg (by omega), if_neg (by omega)]
theorem check_no {s : Int} (h : ¬ Size s) (b f : Bool) : metric_Check.f s b f = some 2 := by
  unfold Size at h; unfold metric_Check.f
  by_cases hl : s < 40
  · rw [if_pos hl]
  · rw [if_neg hl, if_pos (by omega)]
section
variable {s : Int} (hs : Size s) (b f : Bool)
include hs
abbrev wid (s : Int) (b f : Bool) (xs : List Int) (i : Nat) : Int := sumW (advV s b f) (nearV s f) xs i
theorem wid_bd (xs : List Int) (i : Nat) (hi : i ≤ 1000) : -360000 ≤ wid s b f xs i ∧ wid s b f xs i ≤ 4800000 := by
  have := sumW_bd (advV_bd hs b f) (nearV_bd hs f) xs i
  unfold wid; omega
theorem textWidth_ok (xs : List Int) (hl : xs.length ≤ 1000) : Ev (fun k => chanceryref3_TextWidth.f k xs s b f) (wid s b f xs xs.length) := by
  unfold chanceryref3_TextWidth.f
  let T : Int → Int := fun i => wid s b f xs i.toNat - (if 0 < i ∧ i < xs.length then nearV s f (rd xs (i - 1)) (rd xs i) else 0)
  refine climb (g := fun i k => chanceryref3_TextWidth.l0 k xs (T i) xs (xs.length : Int) i s b f) (a := 0) (n := xs.length) (by omega) ?_ ?_
  · refine Ev.step (fun k => by rw [chanceryref3_TextWidth.l0]) (Ev.neg (by omega) (Ev.ret ?_))
    show wid s b f xs ((xs.length : Int)).toNat - _ = _
    rw [if_neg (by omega), show ((xs.length : Int)).toNat = xs.length by omega]; omega
  · intro i h0 h1 h
    have a1 := advV_bd hs b f (rd xs i)
    have w1 := wid_bd hs b f xs i.toNat (by omega)
    have w2 := wid_bd hs b f xs (i + 1).toNat (by omega)
    have n0 := nearV_bd hs f (rd xs (i - 1)) (rd xs i)
    have n1 := nearV_bd hs f (rd xs i) (rd xs (i + 1))
    have e : T i + advV s b f (rd xs i) = wid s b f xs (i + 1).toNat := by
      show wid s b f xs i.toNat - _ + _ = _
      unfold wid
      rw [sumW_succ _ _ xs h0]
      by_cases z : i = 0
      · rw [if_neg (by omega), if_pos z]; omega
      · rw [if_pos (by omega), if_neg z]; omega
    have e2 : T (i + 1) = wid s b f xs (i + 1).toNat - (if i + 1 < xs.length then nearV s f (rd xs i) (rd xs (i + 1)) else 0) := by
      show wid s b f xs (i + 1).toNat - _ = _
      rw [show i + 1 - 1 = i by omega]
      by_cases z : i + 1 < xs.length
      · rw [if_pos ⟨by omega, z⟩, if_pos z]
      · rw [if_neg (by omega), if_neg z]
    refine Ev.step (fun k => by rw [chanceryref3_TextWidth.l0]) (Ev.pos h1 (Ev.pos h0 (Ev.pos h1 (Ev.bind (wide_ok hs b f _) ?_))))
    rw [w64 (n := i + 1) (by omega) (by omega), e, w64 (n := wid s b f xs (i + 1).toNat) (by omega) (by omega)]
    by_cases z : i + 1 < xs.length
    · refine Ev.pos z (Ev.pos (by omega) (Ev.bind (nearer_ok hs b f _ _) ?_))
      rw [if_pos z] at e2
      rw [← e2, w64 (n := T (i + 1)) (by omega) (by omega)]
      exact h
    · refine Ev.neg z ?_
      rw [if_neg z, Int.sub_zero] at e2
      rw [← e2]; exact h
end
end MetW
namespace MetF
open MetEms MetW
def mk (c : Int) : Bool := (findW marks c).2
theorem mkP (c : Int) : metric_Mark.f c = some (mk c) := mark_ok c
theorem mkR (c : Int) : chanceryref3_IsMark.f c = some (mk c) := by rw [isMark_ok, ← marks_eq]; rfl
/-- The text can end behind place i, and is not too wide there. -/
def Good (s : Int) (b f : Bool) (xs : List Int) (w : Int) (i : Int) : Prop := (i + 1 = xs.length ∨ mk (rd xs (i + 1)) = false) ∧ wid s b f xs (i + 1).toNat ≤ w
instance (s : Int) (b f : Bool) (xs : List Int) (w : Int) (i : Int) : Decidable (Good s b f xs w i) := by unfold Good; infer_instance
def best (s : Int) (b f : Bool) (xs : List Int) (w : Int) : Nat → Int
  | 0 => 0
  | i + 1 => if Good s b f xs w i then (i : Int) + 1 else best s b f xs w i
theorem best_succ (s : Int) (b f : Bool) (xs : List Int) (w : Int) {i : Int} (h0 : 0 ≤ i) : best s b f xs w (i + 1).toNat = if Good s b f xs w i then i + 1 else best s b f xs w i.toNat := by
  rw [show (i + 1).toNat = i.toNat + 1 by omega, best, show ((i.toNat : Nat) : Int) = i by omega]
theorem best_bd (s : Int) (b f : Bool) (xs : List Int) (w : Int) (i : Nat) : 0 ≤ best s b f xs w i ∧ best s b f xs w i ≤ i := by
  induction i with
  | zero => exact ⟨Int.le_refl _, Int.le_refl _⟩
  | succ i ih =>
    rw [best]
    split
    all_goals omega
section
variable {s : Int} (hs : Size s) (b f : Bool)
include hs
theorem taken_ok (xs : List Int) (hl : xs.length ≤ 1000) (m : Int) (m0 : 0 ≤ m) (m1 : m ≤ xs.length) : Ev (fun k => chanceryref3_TextWidth.f k (xs.take m.toNat) s b f) (wid s b f xs m.toNat) := by
  have hlen : (xs.take m.toNat).length = m.toNat := by rw [List.length_take]; omega
  refine Ev.out (textWidth_ok hs b f (xs.take m.toNat) (by omega)) ?_
  rw [hlen]
  refine sumW_congr _ _ fun i h0 h1 => ?_
  rw [rd_nth _ i (by omega), rd_nth _ i (by omega)]
  exact List.getElem_take
theorem fit_ok (xs : List Int) (hl : xs.length ≤ 1000) (hA : All xs) (w : Int) (w0 : 0 ≤ w) (w1 : w ≤ 1073741824) : Ev (fun k => metric_Fit.f k xs s b f w) (best s b f xs w xs.length, wid s b f xs (best s b f xs w xs.length).toNat, 0) := by
  unfold metric_Fit.f
  refine Ev.bind0 (check_yes hs b f) (Ev.pos rfl (Ev.bind ((checkText_ok xs hl).1 hA) (Ev.pos rfl (Ev.neg (by omega) ?_))))
  rw [decide_eq_false (show ¬ (w > 1073741824) by omega)]
  refine Ev.step (fun k => by rw [metric_Fit.j0]) (Ev.neg (by simp) ?_)
  refine climb (g := fun i k => metric_Fit.l0 k xs w (best s b f xs w i.toNat) (wid s b f xs (best s b f xs w i.toNat).toNat) (wid s b f xs i.toNat) xs (xs.length : Int) i s b f) (a := 0) (n := xs.length) (by omega) ?_ ?_
  · refine Ev.step (fun k => by rw [metric_Fit.l0]) (Ev.neg (by omega) (Ev.ret ?_))
    rw [show ((xs.length : Int)).toNat = xs.length by omega]
  · intro i h0 h1 h
    have a1 := advV_bd hs b f (rd xs i)
    have w1 := wid_bd hs b f xs i.toNat (by omega)
    have w2 := wid_bd hs b f xs (i + 1).toNat (by omega)
    have n0 := nearV_bd hs f (rd xs (i - 1)) (rd xs i)
    have e : wid s b f xs (i + 1).toNat = _ := sumW_succ (advV s b f) (nearV s f) xs h0
    have eb := best_succ s b f xs w h0
    have j3 : ∀ t : Bool, (t = false ↔ (i + 1 = xs.length ∨ mk (rd xs (i + 1)) = false)) → Ev (fun k => metric_Fit.j3 k xs w (best s b f xs w i.toNat) (wid s b f xs (best s b f xs w i.toNat).toNat) (wid s b f xs (i + 1).toNat) i xs (xs.length : Int) i t s b f) (best s b f xs w xs.length, wid s b f xs (best s b f xs w xs.length).toNat, 0) := by
      intro t ht
      refine Ev.step (fun k => by rw [metric_Fit.j3]) ?_
      rw [w64 (n := i + 1) (by omega) (by omega)]
      cases t with
      | true =>
        refine Ev.pos rfl ?_
        rw [if_neg (fun g => by have := ht.2 g.1; cases this)] at eb
        rw [← eb]; exact h
      | false =>
        refine Ev.neg (by simp) ?_
        by_cases g : wid s b f xs (i + 1).toNat ≤ w
        · refine Ev.pos g ?_
          rw [if_pos ⟨ht.1 rfl, g⟩] at eb
          rw [eb] at h; exact h
        · refine Ev.neg g ?_
          rw [if_neg (fun x => g x.2)] at eb
          rw [← eb]; exact h
    have j2 : Ev (fun k => metric_Fit.j2 k xs w (best s b f xs w i.toNat) (wid s b f xs (best s b f xs w i.toNat).toNat) (wid s b f xs (i + 1).toNat) i xs (xs.length : Int) i s b f) (best s b f xs w xs.length, wid s b f xs (best s b f xs w xs.length).toNat, 0) := by
      refine Ev.step (fun k => by rw [metric_Fit.j2]) ?_
      rw [w64 (n := i + 1) (by omega) (by omega)]
      by_cases z : i + 1 < xs.length
      · refine Ev.pos z (Ev.pos (by omega) (Ev.bind0 (mkP _) (j3 _ ?_)))
        exact ⟨fun x => .inr x, fun x => by rcases x with x | x; omega; exact x⟩
      · exact Ev.neg z (j3 false ⟨fun _ => .inl (by omega), fun _ => rfl⟩)
    refine Ev.step (fun k => by rw [metric_Fit.l0]) (Ev.pos h1 (Ev.pos h0 (Ev.pos h1 (Ev.bind (advance_ok hs b f _) ?_))))
    rw [w64 (n := wid s b f xs i.toNat + advV s b f (rd xs i)) (by omega) (by omega)]
    by_cases z : i = 0
    · rw [if_pos z] at e
      refine Ev.neg (by omega) ?_
      rw [show wid s b f xs i.toNat + advV s b f (rd xs i) = wid s b f xs (i + 1).toNat by rw [e]; simp [wid]]
      exact j2
    · rw [if_neg z] at e
      rw [w64 (n := i - 1) (by omega) (by omega)]
      refine Ev.pos (by omega) (Ev.pos (by omega) (Ev.pos (by omega) (Ev.bind0 (kern_ok hs b f _ _) ?_)))
      rw [show wid s b f xs i.toNat + advV s b f (rd xs i) + - nearV s f (rd xs (i - 1)) (rd xs i) = wid s b f xs (i + 1).toNat by rw [e]; unfold wid; omega, w64 (by omega) (by omega)]
      exact j2
theorem fit_wide (xs : List Int) (hl : xs.length ≤ 1000) (hA : All xs) (w : Int) (hw : ¬ (0 ≤ w ∧ w ≤ 1073741824)) : Ev (fun k => metric_Fit.f k xs s b f w) (0, 0, 2) := by
  unfold metric_Fit.f
  refine Ev.bind0 (check_yes hs b f) (Ev.pos rfl (Ev.bind ((checkText_ok xs hl).1 hA) (Ev.pos rfl ?_)))
  by_cases g : w < 0
  · exact Ev.pos g (Ev.step (fun k => by rw [metric_Fit.j0]) (Ev.pos rfl (Ev.now _)))
  · refine Ev.neg g ?_
    rw [decide_eq_true (show w > 1073741824 by omega)]
    exact Ev.step (fun k => by rw [metric_Fit.j0]) (Ev.pos rfl (Ev.now _))
theorem fit_bad (xs : List Int) (hl : xs.length ≤ 1000) (hA : ¬ All xs) (w : Int) : Ev (fun k => metric_Fit.f k xs s b f w) (0, 0, 2) := by
  unfold metric_Fit.f
  exact Ev.bind0 (check_yes hs b f) (Ev.pos rfl (Ev.bind ((checkText_ok xs hl).2 hA) (Ev.neg (show ¬ ((2 : Int) = 0) by omega) (Ev.now _))))
theorem loop_ok (xs : List Int) (hl : xs.length ≤ 1000) (w : Int) : Ev (fun k => chancerylaw3_MetricFits.l0 k xs w (best s b f xs w xs.length) (wid s b f xs (best s b f xs w xs.length).toNat) 0 0 (xs.length : Int) 0 s b f) true := by
  refine climb (g := fun i k => chancerylaw3_MetricFits.l0 k xs w (best s b f xs w xs.length) (wid s b f xs (best s b f xs w xs.length).toNat) 0 (best s b f xs w i.toNat) (xs.length : Int) i s b f) (a := 0) (n := xs.length) (by omega) ?_ ?_
  · have hb := best_bd s b f xs w xs.length
    refine Ev.step (fun k => by rw [chancerylaw3_MetricFits.l0]) (Ev.neg (by omega) (Ev.pos rfl ?_))
    rw [show ((xs.length : Int)).toNat = xs.length by omega]
    exact Ev.pos rfl (Ev.pos (by omega) (Ev.pos (by omega) (Ev.bind (taken_ok hs b f xs hl _ (by omega) (by omega)) (Ev.ret (beq_self_eq_true _)))))
  · intro i h0 h1 h
    have eb := best_succ s b f xs w h0
    have go : (i + 1 = xs.length ∨ mk (rd xs (i + 1)) = false) → Ev (fun k => (chanceryref3_TextWidth.f k (xs.take (i + 1 : Int).toNat) s b f).bind fun t => (if t ≤ w then (chancerylaw3_MetricFits.l0 k xs w (best s b f xs w xs.length) (wid s b f xs (best s b f xs w xs.length).toNat) 0 (i + 1) (xs.length : Int) (i + 1) s b f) else (chancerylaw3_MetricFits.l0 k xs w (best s b f xs w xs.length) (wid s b f xs (best s b f xs w xs.length).toNat) 0 (best s b f xs w i.toNat) (xs.length : Int) (i + 1) s b f))) true := by
      intro hg
      refine Ev.bind (taken_ok hs b f xs hl (i + 1) (by omega) (by omega)) ?_
      by_cases g : wid s b f xs (i + 1).toNat ≤ w
      · refine Ev.pos g ?_
        rw [if_pos ⟨hg, g⟩] at eb
        rw [eb] at h; exact h
      · refine Ev.neg g ?_
        rw [if_neg (fun x => g x.2)] at eb
        rw [← eb]; exact h
    refine Ev.step (fun k => by rw [chancerylaw3_MetricFits.l0]) (Ev.pos h1 ?_)
    rw [w64 (n := i + 1) (by omega) (by omega)]
    by_cases z : i + 1 = xs.length
    · exact Ev.pos z (Ev.pos (by omega) (Ev.pos (by omega) (go (.inl z))))
    · refine Ev.neg z (Ev.pos (by omega) (Ev.pos (by omega) (Ev.bind0 (mkR _) ?_)))
      cases hm : mk (rd xs (i + 1)) with
      | true =>
        refine Ev.pos rfl ?_
        rw [if_neg (fun x => by
          rcases x.1 with y | y
          · exact z y
          · rw [hm] at y; cases y)] at eb
        rw [← eb]; exact h
      | false => exact Ev.neg (by simp) (Ev.pos (by omega) (go (.inr hm)))
end
theorem bad_end (xs : List Int) (s w : Int) (b f : Bool) : Ev (fun k => chancerylaw3_MetricFits.j3 k xs w 0 0 2 2 s b f) true :=
  by
  refine Ev.step (fun k => by rw [chancerylaw3_MetricFits.j3]) ?_
  exact Ev.neg (show ¬ ((2 : Int) = 0) by omega) (Ev.pos rfl (Ev.pos rfl (Ev.now _)))
theorem bad_two (xs : List Int) (s w : Int) (b f : Bool) : Ev (fun k => chancerylaw3_MetricFits.j1 k xs w 0 0 2 2 s b f) true :=
  Ev.step (fun k => by rw [chancerylaw3_MetricFits.j1]) (Ev.neg (show ¬ ((2 : Int) = 0) by omega) (Ev.step (fun k => by rw [chancerylaw3_MetricFits.j2]) (Ev.neg (by simp) (bad_end xs s w b f))))
theorem law_ok (xs : List Int) (hl : xs.length ≤ 1000) (s w : Int) (b f : Bool) : Ev (fun k => chancerylaw3_MetricFits.j0 k xs w s b f) true := by
  refine Ev.step (fun k => by rw [chancerylaw3_MetricFits.j0]) ?_
  by_cases hs : Size s
  · by_cases hA : All xs
    · by_cases hw : 0 ≤ w ∧ w ≤ 1073741824
      · refine Ev.bind (fit_ok hs b f xs hl hA w hw.1 hw.2) (Ev.bind0 (look_yes hs b f) (Ev.pos rfl (Ev.bind ((charsError_ok xs hl).1 hA) ?_)))
        refine Ev.step (fun k => by rw [chancerylaw3_MetricFits.j1]) (Ev.pos rfl (Ev.bind0 (in_ok _ _ _) ?_))
        rw [decide_eq_true hw]
        exact Ev.step (fun k => by rw [chancerylaw3_MetricFits.j2]) (Ev.neg (by simp) (Ev.step (fun k => by rw [chancerylaw3_MetricFits.j3]) (Ev.pos rfl (loop_ok hs b f xs hl w))))
      · refine Ev.bind (fit_wide hs b f xs hl hA w hw) (Ev.bind0 (look_yes hs b f) (Ev.pos rfl (Ev.bind ((charsError_ok xs hl).1 hA) ?_)))
        refine Ev.step (fun k => by rw [chancerylaw3_MetricFits.j1]) (Ev.pos rfl (Ev.bind0 (in_ok _ _ _) ?_))
        rw [decide_eq_false hw]
        refine Ev.step (fun k => by rw [chancerylaw3_MetricFits.j2]) ?_
        exact Ev.pos rfl (bad_end xs s w b f)
    · exact Ev.bind (fit_bad hs b f xs hl hA w) (Ev.bind0 (look_yes hs b f) (Ev.pos rfl (Ev.bind ((charsError_ok xs hl).2 hA) (bad_two xs s w b f))))
  · have h1 : Ev (fun k => metric_Fit.f k xs s b f w) (0, 0, 2) := by
      unfold metric_Fit.f
      exact Ev.bind0 (check_no hs b f) (Ev.neg (show ¬ ((2 : Int) = 0) by omega) (Ev.now _))
    exact Ev.bind h1 (Ev.bind0 (look_no hs b f) (Ev.neg (show ¬ ((2 : Int) = 0) by omega) (bad_two xs s w b f)))
end MetF
open MetF in
theorem MetricFits (xs : List Int) (s : Int) (b f : Bool) (w : Int) : ∃ k, chancerylaw3_MetricFits.f k xs s b f w = some true := by
  refine Ev.rounds (r := true) ?_
  unfold chancerylaw3_MetricFits.f
  refine Ev.bind (Ev.of (fun k => chancerylaw3_metrics.mono k) (k := 20) (by decide +kernel)) (Ev.pos rfl ?_)
  by_cases h : (xs.length : Int) > 1000
  · exact Ev.pos h (Ev.pos (by omega) (law_ok _ (by rw [List.length_take]; omega) s w b f))
  · exact Ev.neg h (law_ok _ (by omega) s w b f)
end Go.Proofs.YtmoimbopclljeaaDoor.Pure
