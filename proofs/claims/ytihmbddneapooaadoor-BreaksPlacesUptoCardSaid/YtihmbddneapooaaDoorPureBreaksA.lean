/- Proved: the classes of characters for the ends of lines, of the program and of the document, are one, number by letter. No condition. -/
import Derived.Test.YtihmbddneapooaaDoorQBRx4
import Derived.Test.YtihmbddneapooaaDoorHandCLf
import Derived.Test.YtihmbddneapooaaDoorLib
namespace Go.Proofs.YtihmbddneapooaaDoor.Pure
open Go.RowKit Go.Proofs.YtihmbddneapooaaDoor.PMetricEms Go.Proofs.YtihmbddneapooaaDoor.HandMB Go.Proofs.YtihmbddneapooaaDoor.HandMEf Go.Proofs.YtihmbddneapooaaDoor.HandCL Go.Proofs.YtihmbddneapooaaDoor.QBR Go.Proofs.YtihmbddneapooaaDoorW.PrintWords Go.Proofs.YtihmbddneapooaaDoorW.PrintLast Go.Proofs.YtihmbddneapooaaDoorW.PrintMore Go.Proofs.YtihmbddneapooaaDoor.Lib
set_option linter.unusedVariables false
set_option linter.unusedSimpArgs false
set_option linter.unusedSectionVars false
namespace BrkA
theorem in_ok (a b c : Int) : chanceryref3_In.f a b c = some (decide (b ≤ a ∧ a ≤ c)) := by
  unfold chanceryref3_In.f
  by_cases h : a ≥ b
  · rw [if_pos h]; congr 1; simp; omega
  · rw [if_neg h]; congr 1; simp; omega
/-- The width of the first range that has the number, and whether there is one. -/
def findW : List S73 → Int → Int × Bool
  | [], _ => (0, false)
  | x :: l, c => if x.f0 ≤ c ∧ c ≤ x.f1 then (x.f2, true) else findW l c
/-- The width of the first range that has the number, or else e. -/
def firstD (e : Int) : List S73 → Int → Int
  | [], _ => e
  | x :: l, c => if x.f0 ≤ c ∧ c ≤ x.f1 then x.f2 else firstD e l c
theorem findW_yes {x : S73} {L : List S73} {c : Int} (h : x.f0 ≤ c ∧ c ≤ x.f1) : findW (x :: L) c = (x.f2, true) := if_pos h
theorem findW_no {x : S73} {L : List S73} {c : Int} (h : ¬ (x.f0 ≤ c ∧ c ≤ x.f1)) : findW (x :: L) c = findW L c := if_neg h
theorem firstD_yes {e : Int} {x : S73} {L : List S73} {c : Int} (h : x.f0 ≤ c ∧ c ≤ x.f1) : firstD e (x :: L) c = x.f2 := if_pos h
theorem firstD_no {e : Int} {x : S73} {L : List S73} {c : Int} (h : ¬ (x.f0 ≤ c ∧ c ≤ x.f1)) : firstD e (x :: L) c = firstD e L c := if_neg h
theorem firstD_app (e : Int) (L M : List S73) (c : Int) : firstD e (L ++ M) c = if (findW L c).2 = true then (findW L c).1 else firstD e M c := by
  induction L with
  | nil => rfl
  | cons x L ih =>
    by_cases h : x.f0 ≤ c ∧ c ≤ x.f1
    · rw [findW_yes h, List.cons_append, firstD_yes h]; rfl
    · rw [findW_no h, List.cons_append, firstD_no h, ih]
theorem firstD_find (e : Int) (L : List S73) (c : Int) : firstD e L c = if (findW L c).2 = true then (findW L c).1 else e := by
  have h := firstD_app e L [] c
  rw [List.append_nil] at h
  exact h
theorem find_zero {L : List S73} (h : ∀ x ∈ L, x.f2 = 0) (c : Int) : (findW L c).1 = 0 := by
  induction L with
  | nil => rfl
  | cons x L ih =>
    simp only [findW]
    split
    · exact h x List.mem_cons_self
    · exact ih fun y hy => h y (List.mem_cons_of_mem _ hy)
theorem find_one {L : List S73} (h : ∀ x ∈ L, x.f2 = 1) (c : Int) : (findW L c).2 = decide (firstD 0 L c = 1) := by
  induction L with
  | nil => rfl
  | cons x L ih =>
    simp only [findW, firstD]
    split
    · exact (decide_eq_true (h x List.mem_cons_self)).symm
    · exact ih fun y hy => h y (List.mem_cons_of_mem _ hy)
theorem drop_getD {α : Type} {L : List α} {i : Int} (z : α) (h0 : 0 ≤ i) (h : i < L.length) : L.drop i.toNat = L.getD i.toNat z :: L.drop (i + 1).toNat := by
  rw [List.getD_eq_getElem?_getD, List.getElem?_eq_getElem (by omega), show (i + 1).toNat = i.toNat + 1 by omega]
  exact List.drop_eq_getElem_cons (by omega)
theorem within_l (L : List S73) (c : Int) (hL : L.length ≤ 1000) (d : Nat) : ∀ (i : Int) (k : Nat), 0 ≤ i → i + d = L.length → d < k → metric_within.l0 k c L (L.length : Int) i = some (findW (L.drop i.toNat) c) := by
  induction d with
  | zero =>
    intro i k h0 hi hk
    obtain ⟨k, rfl⟩ : ∃ j, k = j + 1 := ⟨k - 1, by omega⟩
    rw [List.drop_eq_nil_of_le (by omega), metric_within.l0, if_neg (by omega)]
    rfl
  | succ d ih =>
    intro i k h0 hi hk
    obtain ⟨k, rfl⟩ : ∃ j, k = j + 1 := ⟨k - 1, by omega⟩
    have e : rd_T73 L i = L.getD i.toNat z73 := rfl
    rw [drop_getD z73 h0 (by omega), metric_within.l0, if_pos (by omega), if_pos h0, if_pos (by omega), e, w64 (n := i + 1) (by omega) (by omega), ih (i + 1) k (by omega) (by omega) (by omega)]
    generalize L.getD i.toNat z73 = x
    simp only [findW]
    by_cases a : c ≥ x.f0
    · by_cases b : c ≤ x.f1
      · rw [if_pos a, if_pos b, if_pos ⟨a, b⟩]
      · rw [if_pos a, if_neg b, if_neg (fun h => b h.2)]
    · rw [if_neg a, if_neg (fun h => a h.1)]
theorem within_f (L : List S73) (c : Int) (hL : L.length ≤ 20) : metric_within.f 30 L c = some (findW L c) := by
  unfold metric_within.f
  exact within_l L c (by omega) L.length 0 30 (by omega) (by omega) (by omega)
theorem mark_ok (c : Int) : metric_Mark.f c = some (findW marks c).2 := by
  unfold metric_Mark.f
  rw [within_f marks c (by decide)]
  rfl
def pts (v : Int) (l : List Int) : List S73 := l.map fun p => ⟨p, p, v⟩
theorem first_pts (e v : Int) (l : List Int) (T : List S73) (c : Int) : firstD e (pts v l ++ T) c = if c ∈ l then v else firstD e T c := by
  induction l with
  | nil => rfl
  | cons p l ih =>
    have e1 : firstD e (pts v (p :: l) ++ T) c = if p ≤ c ∧ c ≤ p then v else firstD e (pts v l ++ T) c := rfl
    rw [e1]
    by_cases h : c = p
    · rw [if_pos (by omega), if_pos (h ▸ List.mem_cons_self)]
    · rw [if_neg (by omega), ih]
      simp [h]
theorem find_none {L : List S73} {c : Int} (h : ∀ x ∈ L, ¬ (x.f0 ≤ c ∧ c ≤ x.f1)) : findW L c = (0, false) := by
  induction L with
  | nil => rfl
  | cons x L ih =>
    simp only [findW]
    rw [if_neg (h x List.mem_cons_self)]
    exact ih fun y hy => h y (List.mem_cons_of_mem _ hy)
/-- Numbers where a range begins, or the first behind one. -/
def ends (L : List S73) : List Int := L.flatMap fun x => [x.f0, x.f1 + 1]
def Same (P : List Int) (c d : Int) : Prop := ∀ p ∈ P, (p ≤ c ↔ p ≤ d)
theorem same_rep (P : List Int) (c : Int) (h : ∃ p ∈ P, p ≤ c) : ∃ d ∈ P, Same P c d := by
  have key : ∀ Q : List Int, (∃ p ∈ Q, p ≤ c) → ∃ d ∈ Q, d ≤ c ∧ ∀ p ∈ Q, p ≤ c → p ≤ d := by
    intro Q
    induction Q with
    | nil => intro ⟨p, hp, _⟩; cases hp
    | cons q Q ih =>
      intro _
      by_cases hQ : ∃ p ∈ Q, p ≤ c
      · obtain ⟨d, hd, hdc, hm⟩ := ih hQ
        by_cases hq : q ≤ c ∧ d < q
        · refine ⟨q, List.mem_cons_self, hq.1, fun p hp hpc => ?_⟩
          rcases List.mem_cons.1 hp with rfl | hp
          · exact Int.le_refl _
          · have := hm p hp hpc; omega
        · refine ⟨d, List.mem_cons_of_mem _ hd, hdc, fun p hp hpc => ?_⟩
          rcases List.mem_cons.1 hp with rfl | hp
          · omega
          · exact hm p hp hpc
      · rename_i h'
        obtain ⟨p, hp, hpc⟩ := h'
        rcases List.mem_cons.1 hp with rfl | hp
        · refine ⟨p, List.mem_cons_self, hpc, fun r hr hrc => ?_⟩
          rcases List.mem_cons.1 hr with rfl | hr
          · exact Int.le_refl _
          · exact absurd ⟨r, hr, hrc⟩ hQ
        · exact absurd ⟨p, hp, hpc⟩ hQ
  obtain ⟨d, hd, hdc, hm⟩ := key P h
  exact ⟨d, hd, fun p hp => ⟨fun hpc => hm p hp hpc, fun hpd => by omega⟩⟩
theorem firstD_same {e : Int} {P : List Int} {L : List S73} {c d : Int} (h : ∀ p ∈ ends L, p ∈ P) (hs : Same P c d) : firstD e L c = firstD e L d := by
  induction L with
  | nil => rfl
  | cons x L ih =>
    have h0 := hs x.f0 (h _ (by simp [ends]))
    have h1 := hs (x.f1 + 1) (h _ (by simp [ends]))
    have hr := ih fun p hp => h p (by simp only [ends, List.flatMap_cons, List.mem_append]; exact .inr hp)
    simp only [firstD]
    by_cases g : x.f0 ≤ c ∧ c ≤ x.f1
    · rw [if_pos g, if_pos (by omega)]
    · rw [if_neg g, if_neg (by omega), hr]
theorem firstD_low {e : Int} {L : List S73} {c : Int} (h : ∀ p ∈ ends L, ¬ p ≤ c) : firstD e L c = e := by
  induction L with
  | nil => rfl
  | cons x L ih =>
    have h0 := h x.f0 (by simp [ends])
    simp only [firstD]
    rw [if_neg (by omega)]
    exact ih fun p hp => h p (by simp only [ends, List.flatMap_cons, List.mem_append]; exact .inr hp)
/-- Two such functions are one if they are one wherever a range of theirs begins or ends. -/
theorem firstD_eq {e : Int} {L M : List S73} (h : ∀ d ∈ ends L ++ ends M, firstD e L d = firstD e M d) (c : Int) : firstD e L c = firstD e M c := by
  by_cases hp : ∃ p ∈ ends L ++ ends M, p ≤ c
  · obtain ⟨d, hd, hs⟩ := same_rep _ c hp
    rw [firstD_same (P := ends L ++ ends M) (fun p hp => List.mem_append_left _ hp) hs, firstD_same (L := M) (P := ends L ++ ends M) (fun p hp => List.mem_append_right _ hp) hs]
    exact h d hd
  · rw [firstD_low fun p hm hc => hp ⟨p, List.mem_append_left _ hm, hc⟩, firstD_low fun p hm hc => hp ⟨p, List.mem_append_right _ hm, hc⟩]
/-- The document's marks. -/
def refMarks : List S73 := [⟨173, 173, 0⟩, ⟨768, 879, 0⟩, ⟨1425, 1469, 0⟩, ⟨1471, 1471, 0⟩, ⟨1473, 1473, 0⟩, ⟨1474, 1474, 0⟩, ⟨1552, 1562, 0⟩, ⟨1611, 1631, 0⟩, ⟨8203, 8207, 0⟩, ⟨8234, 8238, 0⟩, ⟨8288, 8297, 0⟩, ⟨65024, 65039, 0⟩, ⟨65532, 65532, 0⟩]
theorem found_eq (L M : List S73) (h : ∀ d ∈ ends L ++ ends M, firstD 1 L d = firstD 1 M d) (hL : ∀ x ∈ L, x.f2 = 0) (hM : ∀ x ∈ M, x.f2 = 0) (c : Int) : (findW L c).2 = (findW M c).2 := by
  have e := firstD_eq h c
  rw [firstD_find, firstD_find, find_zero hL, find_zero hM] at e
  cases h1 : (findW L c).2 <;> cases h2 : (findW M c).2 <;> rw [h1, h2] at e <;> first | rfl | (exfalso; revert e; decide)
theorem step_in {c a b v : Int} {L : List S73} {o : Option Bool} (h : o = some (findW L c).2) : ((chanceryref3_In.f c a b).bind fun t => if t = true then some true else o) = some (findW (⟨a, b, v⟩ :: L) c).2 := by
  rw [in_ok, h]
  simp only [Option.bind_some, findW]
  by_cases g : a ≤ c ∧ c ≤ b
  · rw [if_pos (decide_eq_true g), if_pos g]
  · rw [if_neg (by simpa using g), if_neg g]
theorem step_eq {c a v : Int} {L : List S73} {o : Option Bool} (h : o = some (findW L c).2) : (if c = a then some true else o) = some (findW (⟨a, a, v⟩ :: L) c).2 := by
  rw [h]
  simp only [findW]
  by_cases g : c = a
  · rw [if_pos g, if_pos (by omega)]
  · rw [if_neg g, if_neg (by omega)]
theorem isMark_ok (c : Int) : chanceryref3_IsMark.f c = some (findW refMarks c).2 := by
  unfold chanceryref3_IsMark.f
  refine step_eq (step_in (step_in (step_eq (step_eq (step_eq (step_in (step_in (step_in (step_in (step_in (step_in ?_)))))))))))
  simp only [findW]
  by_cases g : c = 65532
  · rw [if_pos (by omega), beq_iff_eq.2 g]
  · rw [if_neg (by omega), beq_eq_false_iff_ne.2 g]
theorem marks_eq (c : Int) : (findW marks c).2 = (findW refMarks c).2 := found_eq marks refMarks (by decide +kernel) (by decide) (by decide) c
def runesF (s : ByteArray) : Nat → Nat → List Int
  | 0, _ => []
  | b + 1, i => if i < s.size then ((Utf8.decode s i).1 : Int) :: runesF s b (i + (Utf8.decode s i).2) else []
theorem hasF_runes (s : ByteArray) (b i : Nat) (c : Int) : hasF s b i c = decide (c ∈ runesF s b i) := by
  induction b generalizing i with
  | zero => simp [hasF, runesF]
  | succ b ih =>
    by_cases h : i < s.size
    · have e : runesF s (b + 1) i = ((Utf8.decode s i).1 : Int) :: runesF s b (i + (Utf8.decode s i).2) := if_pos h
      rw [e, hasF, if_pos h, ih]
      by_cases g : ((Utf8.decode s i).1 : Int) = c
      · rw [if_pos g]; simp [g]
      · rw [if_neg g]; simp [Ne.symm g]
    · have e : runesF s (b + 1) i = [] := if_neg h
      rw [e, hasF, if_neg h]; simp
theorem has_ok (s : ByteArray) (l : List Int) (c : Int) (h : runesF s s.size 0 = l) : chanceryref3_has.f s c = some (decide (c ∈ l)) := by
  unfold chanceryref3_has.f
  rw [hasF_runes, h]
theorem fst_in {e c a b v : Int} {L : List S73} {f : Nat → Option Int} (h : Ev f (firstD e L c)) : Ev (fun k => (chanceryref3_In.f c a b).bind fun t => if t = true then some v else f k) (firstD e (⟨a, b, v⟩ :: L) c) := by
  refine Ev.bind0 (in_ok _ _ _) ?_
  by_cases g : a ≤ c ∧ c ≤ b
  · exact Ev.dpos g (Ev.ret (if_pos g).symm)
  · exact Ev.dneg g (Ev.out h (if_neg g).symm)
theorem fst_eq {e c a v : Int} {L : List S73} {f : Nat → Option Int} (h : Ev f (firstD e L c)) : Ev (fun k => if c = a then some v else f k) (firstD e (⟨a, a, v⟩ :: L) c) := by
  by_cases g : c = a
  · exact Ev.pos g (Ev.ret (if_pos ⟨Int.le_of_eq g.symm, Int.le_of_eq g⟩).symm)
  · exact Ev.neg g (Ev.out h (if_neg (fun x => g (Int.le_antisymm x.2 x.1))).symm)
/-- A range whose flag goes on into the next part. -/
theorem fst_go {e c a b v : Int} {L : List S73} {f g : Nat → Option Int} (hf : Ev f v) (h : Ev g (firstD e L c)) : Ev (fun k => (chanceryref3_In.f c a b).bind fun t => if t = true then f k else g k) (firstD e (⟨a, b, v⟩ :: L) c) := by
  refine Ev.bind0 (in_ok _ _ _) ?_
  by_cases w : a ≤ c ∧ c ≤ b
  · exact Ev.dpos w (Ev.out hf (if_pos w).symm)
  · exact Ev.dneg w (Ev.out h (if_neg w).symm)
theorem firstD_bd {e lo hi : Int} {L : List S73} (he : lo ≤ e ∧ e ≤ hi) (h : ∀ x ∈ L, lo ≤ x.f2 ∧ x.f2 ≤ hi) (c : Int) : lo ≤ firstD e L c ∧ firstD e L c ≤ hi := by
  induction L with
  | nil => exact he
  | cons x L ih =>
    simp only [firstD]
    split
    · exact h x List.mem_cons_self
    · exact ih fun y hy => h y (List.mem_cons_of_mem _ hy)
theorem firstD_map (g : Int → Int) (e : Int) (L : List S73) (c : Int) : g (firstD e L c) = firstD (g e) (L.map fun x => ⟨x.f0, x.f1, g x.f2⟩) c := by
  induction L with
  | nil => rfl
  | cons x L ih =>
    rw [List.map_cons]
    simp only [firstD]
    split
    · rfl
    · exact ih
theorem find_map (L : List S73) (v : Int) (c : Int) : (findW (L.map fun x => ⟨x.f0, x.f1, v⟩) c).2 = (findW L c).2 := by
  induction L with
  | nil => rfl
  | cons x L ih =>
    rw [List.map_cons]
    simp only [findW]
    split
    · rfl
    · exact ih
theorem first_all (e v : Int) (L : List S73) (h : ∀ x ∈ L, x.f2 = v) (c : Int) : firstD e L c = if (findW L c).2 = true then v else e := by
  induction L with
  | nil => rfl
  | cons x L ih =>
    simp only [findW, firstD]
    split
    · rw [if_pos rfl]; exact h x List.mem_cons_self
    · exact ih fun y hy => h y (List.mem_cons_of_mem _ hy)
theorem first_look (e : Int) (N : List (Int × Int)) (T : List S73) (c : Int) : firstD e ((N.map fun p => ⟨p.1, p.1, p.2⟩) ++ T) c = match N.lookup c with | some v => v | none => firstD e T c := by
  induction N with
  | nil => rfl
  | cons p N ih =>
    obtain ⟨a, b⟩ := p
    rw [List.map_cons, List.cons_append, List.lookup_cons]
    simp only [firstD]
    by_cases h : c = a
    · rw [if_pos (by omega), beq_iff_eq.2 h]
    · rw [if_neg (by omega), beq_eq_false_iff_ne.2 h]; exact ih
def wides : List S73 := [⟨11904, 42191, 9⟩, ⟨44032, 55203, 9⟩, ⟨63744, 64255, 9⟩, ⟨65280, 65376, 9⟩, ⟨131072, 262141, 9⟩]
def clsT : List S73 := (named.map fun p => ⟨p.1, p.1, p.2⟩) ++ (⟨48, 57, 11⟩ :: (wides ++ (marks.map fun x => ⟨x.f0, x.f1, 10⟩)))
/-- The class of a character, as a number. -/
def cls (c : Int) : Int := firstD 0 clsT c
theorem cls_bd (c : Int) : 0 ≤ cls c ∧ cls c ≤ 11 := firstD_bd (by decide) (by decide +kernel) c
theorem wide_find (c : Int) : (findW wides c).2 = true ↔ Wide c := by
  unfold Wide
  simp only [wides, findW]
  repeat' split
  all_goals simp only [true_iff, iff_true, Bool.false_eq_true, false_iff]; omega
theorem class_ok (c : Int) : breaks_class.f c = some (cls c) := by
  unfold breaks_class.f cls clsT
  rw [first_look]
  cases named.lookup c with
  | some v => rfl
  | none =>
    show (if 48 ≤ c ∧ c ≤ 57 then some 11 else if Wide c then some 9 else (metric_Mark.f c).bind fun m => some (if m = true then 10 else 0)) = some (if 48 ≤ c ∧ c ≤ 57 then 11 else firstD 0 (wides ++ (marks.map fun x => ⟨x.f0, x.f1, 10⟩)) c)
    by_cases d : 48 ≤ c ∧ c ≤ 57
    · rw [if_pos d, if_pos d]
    rw [if_neg d, if_neg d, firstD_app]
    by_cases w : Wide c
    · rw [if_pos w, if_pos ((wide_find c).2 w)]
      have := first_all 0 9 wides (by decide) c
      rw [firstD_find, if_pos ((wide_find c).2 w), if_pos ((wide_find c).2 w)] at this
      rw [this]
    · rw [if_neg w, if_neg (fun h => w ((wide_find c).1 h)), mark_ok, first_all 0 10 _ (by decide) c, find_map]
      rfl
def letter (k : Int) : Int := if k = 0 then 120 else if k = 1 then 110 else if k = 2 then 115 else if k = 3 then 122 else if k = 4 then 103 else if k = 5 then 104 else if k = 6 then 45 else if k = 7 then 111 else if k = 8 then 99 else if k = 9 then 119 else if k = 10 then 109 else 100
def R3 : List S73 := ⟨8205, 8205, 109⟩ :: (refMarks.map fun x => ⟨x.f0, x.f1, 109⟩)
def Rw : List S73 := ⟨65532, 65532, 119⟩ :: ⟨11904, 42191, 119⟩ :: ⟨44032, 55203, 119⟩ :: ⟨63744, 64255, 119⟩ :: ⟨65280, 65376, 119⟩ :: ⟨131072, 262141, 119⟩ :: R3
def R2 : List S73 := ⟨173, 173, 45⟩ :: ⟨48, 57, 100⟩ :: (pts 111 [40, 91, 123, 171, 191, 161, 8216, 8220, 12300] ++ (pts 99 [41, 93, 125, 44, 46, 58, 59, 33, 63, 187, 8217, 8221, 8230, 12289, 12290, 12301] ++ Rw))
def R1 : List S73 := pts 104 [45, 8208, 8211] ++ R2
def R0 : List S73 := ⟨8203, 8203, 122⟩ :: (pts 103 [160, 8239, 8288, 65279] ++ R1)
def RT : List S73 := ⟨10, 10, 110⟩ :: (pts 115 [9, 32] ++ R0)
theorem r3_yes (c : Int) : Ev (fun k => chanceryref3_breakClass.j3 k c true) 119 := Ev.step (fun k => by rw [chanceryref3_breakClass.j3]) (Ev.pos rfl (Ev.ret rfl))
theorem r3_no (c : Int) : Ev (fun k => chanceryref3_breakClass.j3 k c false) (firstD 120 R3 c) := by
  refine Ev.step (fun k => by rw [chanceryref3_breakClass.j3]) (Ev.neg (by simp) (fst_eq ?_))
  refine Ev.bind0 (isMark_ok c) ?_
  rw [first_all 120 109 _ (by decide) c, find_map]
  cases (findW refMarks c).2
  · exact Ev.neg (by simp) (Ev.ret rfl)
  · exact Ev.pos rfl (Ev.ret rfl)
theorem rw_ok (c : Int) : Ev (fun k => if c = 65532 then chanceryref3_breakClass.j3 k c true else ((chanceryref3_In.f c 11904 42191).bind fun t141 => (if t141 = true then (chanceryref3_breakClass.j3 k c true) else ((chanceryref3_In.f c 44032 55203).bind fun t142 => (if t142 = true then (chanceryref3_breakClass.j3 k c true) else ((chanceryref3_In.f c 63744 64255).bind fun t143 => (if t143 = true then (chanceryref3_breakClass.j3 k c true) else ((chanceryref3_In.f c 65280 65376).bind fun t144 => (if t144 = true then (chanceryref3_breakClass.j3 k c true) else ((chanceryref3_In.f c 131072 262141).bind fun t145 => (chanceryref3_breakClass.j3 k c t145)))))))))))  (firstD 120 Rw c) := by
  by_cases g : c = 65532
  · exact Ev.pos g (Ev.out (r3_yes c) (if_pos ⟨Int.le_of_eq g.symm, Int.le_of_eq g⟩).symm)
  refine Ev.neg g (Ev.out ?_ (if_neg (fun x => g (Int.le_antisymm x.2 x.1))).symm)
  refine fst_go (r3_yes c) (fst_go (r3_yes c) (fst_go (r3_yes c) (fst_go (r3_yes c) ?_)))
  refine Ev.bind0 (in_ok _ _ _) ?_
  by_cases w : 131072 ≤ c ∧ c ≤ 262141
  · rw [decide_eq_true w]
    exact Ev.out (r3_yes c) (if_pos w).symm
  · rw [decide_eq_false w]
    exact Ev.out (r3_no c) (if_neg w).symm
theorem r2_yes (c : Int) : Ev (fun k => chanceryref3_breakClass.j2 k c true) 104 := Ev.step (fun k => by rw [chanceryref3_breakClass.j2]) (Ev.pos rfl (Ev.ret rfl))
theorem r2_no (c : Int) : Ev (fun k => chanceryref3_breakClass.j2 k c false) (firstD 120 R2 c) := by
  refine Ev.step (fun k => by rw [chanceryref3_breakClass.j2]) (Ev.neg (by simp) (fst_eq (fst_in ?_)))
  refine Ev.out ?_ (first_pts _ _ _ _ _).symm
  refine Ev.bind0 (has_ok _ [40, 91, 123, 171, 191, 161, 8216, 8220, 12300] c (by decide +kernel)) ?_
  by_cases a : c ∈ [40, 91, 123, 171, 191, 161, 8216, 8220, 12300]
  · rw [if_pos a]; exact Ev.dpos a (Ev.ret rfl)
  rw [if_neg a]
  refine Ev.dneg a ?_
  refine Ev.out ?_ (first_pts _ _ _ _ _).symm
  refine Ev.bind0 (has_ok _ [41, 93, 125, 44, 46, 58, 59, 33, 63, 187, 8217, 8221, 8230, 12289, 12290, 12301] c (by decide +kernel)) ?_
  by_cases a : c ∈ [41, 93, 125, 44, 46, 58, 59, 33, 63, 187, 8217, 8221, 8230, 12289, 12290, 12301]
  · rw [if_pos a]; exact Ev.dpos a (Ev.ret rfl)
  rw [if_neg a]
  exact Ev.dneg a (rw_ok c)
theorem r1_yes (c : Int) : Ev (fun k => chanceryref3_breakClass.j1 k c true) 103 := Ev.step (fun k => by rw [chanceryref3_breakClass.j1]) (Ev.pos rfl (Ev.ret rfl))
theorem r1_no (c : Int) : Ev (fun k => chanceryref3_breakClass.j1 k c false) (firstD 120 R1 c) := by
  refine Ev.step (fun k => by rw [chanceryref3_breakClass.j1]) (Ev.neg (by simp) ?_)
  refine Ev.out ?_ (first_pts _ _ _ _ _).symm
  by_cases a : c = 45
  · rw [if_pos (by simp [a])]; exact Ev.pos a (r2_yes c)
  refine Ev.neg a ?_
  by_cases b : c = 8208
  · rw [if_pos (by simp [b])]; exact Ev.pos b (r2_yes c)
  refine Ev.neg b ?_
  by_cases d : c = 8211
  · rw [if_pos (by simp [d]), beq_iff_eq.2 d]; exact (r2_yes c)
  rw [if_neg (by simp [a, b, d]), beq_eq_false_iff_ne.2 d]
  exact r2_no c
theorem r0_yes (c : Int) : Ev (fun k => chanceryref3_breakClass.j0 k c true) 115 := Ev.step (fun k => by rw [chanceryref3_breakClass.j0]) (Ev.pos rfl (Ev.ret rfl))
theorem r0_no (c : Int) : Ev (fun k => chanceryref3_breakClass.j0 k c false) (firstD 120 R0 c) := by
  refine Ev.step (fun k => by rw [chanceryref3_breakClass.j0]) (Ev.neg (by simp) (fst_eq ?_))
  refine Ev.out ?_ (first_pts _ _ _ _ _).symm
  by_cases a : c = 160
  · rw [if_pos (by simp [a])]; exact Ev.pos a (r1_yes c)
  refine Ev.neg a ?_
  by_cases b : c = 8239
  · rw [if_pos (by simp [b])]; exact Ev.pos b (r1_yes c)
  refine Ev.neg b ?_
  by_cases d : c = 8288
  · rw [if_pos (by simp [d])]; exact Ev.pos d (r1_yes c)
  refine Ev.neg d ?_
  by_cases e : c = 65279
  · rw [if_pos (by simp [e]), beq_iff_eq.2 e]; exact (r1_yes c)
  rw [if_neg (by simp [a, b, d, e]), beq_eq_false_iff_ne.2 e]
  exact r1_no c
theorem refClass (c : Int) : Ev (fun k => chanceryref3_breakClass.f k c) (firstD 120 RT c) := by
  unfold chanceryref3_breakClass.f
  refine fst_eq ?_
  refine Ev.out ?_ (first_pts _ _ _ _ _).symm
  by_cases a : c = 9
  · rw [if_pos (by simp [a])]; exact Ev.pos a (r0_yes c)
  refine Ev.neg a ?_
  by_cases b : c = 32
  · rw [if_pos (by simp [b]), beq_iff_eq.2 b]; exact (r0_yes c)
  rw [if_neg (by simp [a, b]), beq_eq_false_iff_ne.2 b]
  exact r0_no c
theorem refClass_ok (c : Int) : Ev (fun k => chanceryref3_breakClass.f k c) (letter (cls c)) := by
  refine Ev.out (refClass c) ?_
  unfold cls
  rw [firstD_map letter 0 clsT c]
  exact (firstD_eq (by decide +kernel) c).symm
section
variable {k : Int} (h : 0 ≤ k ∧ k ≤ 11)
include h
theorem l1 : letter k = 110 ↔ k = 1 := by unfold letter; repeat' split
                                          all_goals omega
theorem l2 : letter k = 115 ↔ k = 2 := by unfold letter; repeat' split
                                          all_goals omega
theorem l3 : letter k = 122 ↔ k = 3 := by unfold letter; repeat' split
                                          all_goals omega
theorem l4 : letter k = 103 ↔ k = 4 := by unfold letter; repeat' split
                                          all_goals omega
theorem l5 : letter k = 104 ↔ k = 5 := by unfold letter; repeat' split
                                          all_goals omega
theorem l6 : letter k = 45 ↔ k = 6 := by unfold letter; repeat' split
                                         all_goals omega
theorem l7 : letter k = 111 ↔ k = 7 := by unfold letter; repeat' split
                                          all_goals omega
theorem l8 : letter k = 99 ↔ k = 8 := by unfold letter; repeat' split
                                         all_goals omega
theorem l9 : letter k = 119 ↔ k = 9 := by unfold letter; repeat' split
                                          all_goals omega
theorem l10 : letter k = 109 ↔ k = 10 := by unfold letter; repeat' split
                                            all_goals omega
theorem l11 : letter k = 100 ↔ k = 11 := by unfold letter; repeat' split
                                            all_goals omega
end
end BrkA
end Go.Proofs.YtihmbddneapooaaDoor.Pure
