import Derived.Test.YthapclmfkjldaaaHandLNe
namespace Go.Proofs.Ythapclmfkjldaaa.HandLN
set_option linter.unusedSectionVars false
set_option linter.unusedVariables false
set_option linter.unusedSimpArgs false
open Go.RowKit Go.Proofs.YthapclmfkjldaaaW.PrintWords Go.Proofs.YthapclmfkjldaaaW.PrintLast Go.Proofs.YthapclmfkjldaaaW.PrintMore Go.Proofs.Ythapclmfkjldaaa.QLN
structure S59 where
 f0 : Bool
 f1 : Int
 f2 : Int
 f3 : Int
def z59 : S59 := ⟨false, 0, 0, 0⟩
def k59 : Kd S59 := Kd.iso (Kd.pair Kd.bool (Kd.pair (Kd.int .i64) (Kd.pair (Kd.int .i64) (Kd.int .i64)))) (fun x : S59 => (x.f0, x.f1, x.f2, x.f3))
def c59 (x : S59) : List Value := [.bool x.f0, .int .i64 x.f1, .int .i64 x.f2, .int .i64 x.f3]
theorem k59_openM {w : World} {base : Nat} {ok : Nat → Prop} {x : S59} {cs : List Value} (h : k59.M w base ok x cs) : cs = c59 x := by
 obtain ⟨_, _, rfl, rfl, ⟨_, _, rfl, rfl, ⟨_, _, rfl, rfl, rfl⟩⟩⟩ := h
 exact rfl
theorem k59_mkM (w : World) (base : Nat) (ok : Nat → Prop) (x : S59) : k59.M w base ok x (c59 x) := ⟨[.bool x.f0], [.int .i64 x.f1, .int .i64 x.f2, .int .i64 x.f3], rfl, rfl, ⟨[.int .i64 x.f1], [.int .i64 x.f2, .int .i64 x.f3], rfl, rfl, ⟨[.int .i64 x.f2], [.int .i64 x.f3], rfl, rfl, rfl⟩⟩⟩
def encO (m : Nat) : Option (Nat × Nat) → Value
 | none => .slice none 0 0
 | some (b, c) => .slice (some ⟨b, 0, none⟩) (2 * m) c
theorem encO_one (m : Nat) (x : Option (Nat × Nat)) : (encO m x).oneCell' = true := by cases x <;> rfl
def kO (m : Nat) : Kd (Option (Nat × Nat)) := Kd.scalar (encO m) (encO_one m)
def SS (gk : Nat) (rs : List (Option (Nat × Nat))) (k : Nat) : Prop := k = gk ∨ ∃ i c : Nat, rs[i]? = some (some (k, c))
structure KN (w : World) (base g gw gk ck n m : Nat) (B : Nat → Nat → S59) (rs : List (Option (Nat × Nat))) : Prop where
 wk : w.heap[gw]? = some (.cells #[.pointer (some ⟨g, 0, none⟩), .slice (some ⟨gk, 0, none⟩) (n + 1) ck] 55 (0, 0))
 top : (kO m).R 71 w base (fun _ => True) (.slice (some ⟨gk, 0, none⟩) (n + 1) ck) rs
 row : ∀ i b c : Nat, rs[i]? = some (some (b, c)) → ∃ ps : List S59, k59.R 59 w base (fun _ => True) (.slice (some ⟨b, 0, none⟩) (2 * m) c) ps ∧ ∀ key : Nat, key < 2 * m → (ps.getD key z59).f0 = false ∨ ps.getD key z59 = B i key
 inj : ∀ i j b c c' : Nat, rs[i]? = some (some (b, c)) → rs[j]? = some (some (b, c')) → i = j
section
variable {w w1 w2 : World} {base g gw gk ck n m : Nat} {B : Nat → Nat → S59} {rs : List (Option (Nat × Nat))}
theorem KN.len (h : KN w base g gw gk ck n m B rs) : rs.length = n + 1 := (Kd.R_reads' h.top).1.symm
theorem KN.typed (h : KN w base g gw gk ck n m B rs) (k : Nat) (hk : SS gk rs k) : base ≤ k ∧ ∃ cells q, w.heap[k]? = some (.cells cells q (0, 0)) ∧ (q = 71 ∨ q = 59) := by
 rcases hk with rfl | ⟨i, c, hi⟩
 · obtain ⟨inner, ho⟩ := Kd.R_own h.top
   obtain ⟨cells, hc⟩ := own_typed ho k (by simp [Value.ownBlock])
   exact ⟨Kd.R_base h.top k (by simp [Value.ownBlock]), cells, 71, hc, .inl rfl⟩
 · obtain ⟨ps, hp, _⟩ := h.row i k c hi
   obtain ⟨inner, ho⟩ := Kd.R_own hp
   obtain ⟨cells, hc⟩ := own_typed ho k (by simp [Value.ownBlock])
   exact ⟨Kd.R_base hp k (by simp [Value.ownBlock]), cells, 59, hc, .inr rfl⟩
theorem KN.lt (h : KN w base g gw gk ck n m B rs) (k : Nat) (hk : SS gk rs k) : k < w.heap.size := by
 obtain ⟨_, cells, q, hc, _⟩ := h.typed k hk
 exact blk_lt hc
theorem KN.below (h : KN w base g gw gk ck n m B rs) (hb : Below w.heap.size w w1) : KN w1 base g gw gk ck n m B rs :=
 ⟨blk_below h.wk hb, Kd.R_below h.top hb, fun i b c hi => by
  obtain ⟨ps, hp, hq⟩ := h.row i b c hi
  exact ⟨ps, Kd.R_below hp hb, hq⟩, h.inj⟩
theorem KN.far (h : KN w base g gw gk ck n m B rs) {x : Nat} (hg : w.grownBy w1 (some x)) (hx : ¬ SS gk rs x) (hw : x ≠ gw) : KN w1 base g gw gk ck n m B rs :=
 ⟨(hg.block gw (blk_lt h.wk) (fun e => hw (by injection e with e; exact e.symm))).trans h.wk,
  Kd.R_mono (Kd.R_grown (Kd.R_tight rfl h.top) hg (fun k hk e => hx (.inl (by injection e with e; rw [← e]; injection hk with hk)))) (fun _ _ => trivial),
  fun i b c hi => by
   obtain ⟨ps, hp, hq⟩ := h.row i b c hi
   exact ⟨ps, Kd.R_mono (Kd.R_grown (Kd.R_tight rfl hp) hg (fun k hk e => hx (.inr ⟨i, c, by injection e with e; rw [← e]; injection hk with hk; rw [hk]; exact hi⟩))) (fun _ _ => trivial), hq⟩, h.inj⟩
theorem KN.cellTop (h : KN w base g gw gk ck n m B rs) (i : Int) (i0 : 0 ≤ i) (i1 : i ≤ n) : w.cell? ⟨gk, i.toNat, none⟩ = some (encO m (rs.getD i.toNat none)) ∧ w.frozen? ⟨gk, i.toNat, none⟩ = false :=
 Kd.R_celln none h.top i i0 (by omega)
theorem KN.cellRow (h : KN w base g gw gk ck n m B rs) {i b c : Nat} (hi : rs[i]? = some (some (b, c))) (key : Int) (k0 : 0 ≤ key) (k1 : key < 2 * m) :
    ∃ p : S59, (p.f0 = false ∨ p = B i key.toNat) ∧ (w.cell? ⟨b, key.toNat * 4, none⟩ = some (.bool p.f0) ∧ w.cell? ⟨b, key.toNat * 4 + 1, none⟩ = some (.int .i64 p.f1) ∧ w.cell? ⟨b, key.toNat * 4 + 2, none⟩ = some (.int .i64 p.f2) ∧ w.cell? ⟨b, key.toNat * 4 + 3, none⟩ = some (.int .i64 p.f3)) ∧ ∀ j, w.frozen? ⟨b, key.toNat * 4 + j, none⟩ = false := by
 obtain ⟨ps, hp, hq⟩ := h.row i b c hi
 obtain ⟨cs, hl, hM, hc, hf⟩ := Kd.R_elem hp z59 key k0 (by omega)
 obtain rfl := k59_openM hM
 exact ⟨_, hq key.toNat (by omega), ⟨hc 0 _ rfl, hc 1 _ rfl, hc 2 _ rfl, hc 3 _ rfl⟩, hf⟩
theorem KN.put (h : KN w base g gw gk ck n m B rs) {i b c : Nat} (hi : rs[i]? = some (some (b, c))) (key : Int) (k0 : 0 ≤ key) (k1 : key < 2 * m) :
    KN (w.setCells b (key.toNat * 4) (c59 (B i key.toNat))) base g gw gk ck n m B rs ∧ w.grownBy (w.setCells b (key.toNat * 4) (c59 (B i key.toNat))) (some b) := by
 obtain ⟨ps, hp, hq⟩ := h.row i b c hi
 obtain ⟨cs, hl, hM, hc, hf⟩ := Kd.R_elem hp z59 key k0 (by omega)
 obtain ⟨h1, h2⟩ := Kd.R_seg (okp := fun _ => False) (x' := B i key.toNat) (seg := c59 (B i key.toNat)) (j := 0) hp key k0 (by omega) hl hc (Nat.le_refl _)
  (by
   have : cs.take 0 ++ c59 (B i key.toNat) ++ cs.drop (0 + (c59 (B i key.toNat)).length) = c59 (B i key.toNat) := by
    rw [List.take_zero, List.nil_append, List.drop_eq_nil_of_le (by rw [hl]; exact Nat.le_refl _), List.append_nil]
   rw [this]
   exact k59_mkM _ _ _ _) (fun k hk => hk.elim)
 obtain ⟨inner, ho⟩ := Kd.R_own hp
 obtain ⟨cells, hcb⟩ := own_typed ho b (by simp [Value.ownBlock])
 have hgb : gk ≠ b := fun e => by
  obtain ⟨inner', ho'⟩ := Kd.R_own h.top
  obtain ⟨cells', hc'⟩ := own_typed ho' gk (by simp [Value.ownBlock])
  rw [e, hcb] at hc'
  simp at hc'
 have hwb : gw ≠ b := fun e => by
  have := h.wk
  rw [e, hcb] at this
  simp at this
 have hlen : key.toNat < ps.length := by have := (Kd.R_reads' hp).1; omega
 refine ⟨⟨(h2.block gw (blk_lt h.wk) (fun e => hwb (by injection e))).trans h.wk,
  Kd.R_mono (Kd.R_grown (Kd.R_tight rfl h.top) h2 (fun k hk e => hgb (by injection e with e; rw [← e]; injection hk with hk; exact hk.symm))) (fun _ _ => trivial), fun j b' c' hj => ?_, h.inj⟩, h2⟩
 by_cases e : j = i
 · subst e
   rw [hi] at hj
   injection hj with hj
   injection hj with hj
   injection hj with hj1 hj2
   subst hj1; subst hj2
   refine ⟨_, h1, fun key' hk' => ?_⟩
   rw [List.getD_eq_getElem?_getD]
   by_cases ek : key' = key.toNat
   · subst ek
     rw [List.getElem?_set_self hlen]
     exact .inr rfl
   · rw [List.getElem?_set_ne (fun e => ek e.symm), ← List.getD_eq_getElem?_getD]
     exact hq key' hk'
 · obtain ⟨ps', hp', hq'⟩ := h.row j b' c' hj
   have hbb : b' ≠ b := fun eb => e (h.inj j i b' c' c hj (eb ▸ hi))
   exact ⟨ps', Kd.R_mono (Kd.R_grown (Kd.R_tight rfl hp') h2 (fun k hk e => hbb (by injection e with e; rw [← e]; injection hk with hk; exact hk.symm))) (fun _ _ => trivial), hq'⟩
theorem KN.new (h : KN w base g gw gk ck n m B rs) {i b c : Nat} (hi : rs[i]? = some none) (hb : Below w.heap.size w w1) (hr : k59.R 59 w1 base (fun _ => True) (.slice (some ⟨b, 0, none⟩) (2 * m) c) (List.replicate (2 * m) z59)) (hf : w.heap.size ≤ b) :
    KN (w1.setCell ⟨gk, i, none⟩ (.slice (some ⟨b, 0, none⟩) (2 * m) c)) base g gw gk ck n m B (rs.set i (some (b, c))) ∧ w1.grownBy (w1.setCell ⟨gk, i, none⟩ (.slice (some ⟨b, 0, none⟩) (2 * m) c)) (some gk) := by
 have h' := h.below hb
 obtain ⟨t1, t2⟩ := Kd.R_putg h'.top (i : Int) (some (b, c))
 have t1' : (kO m).R 71 (w1.setCell ⟨gk, i, none⟩ (.slice (some ⟨b, 0, none⟩) (2 * m) c)) base (fun _ => True) (.slice (some ⟨gk, 0, none⟩) (n + 1) ck) (rs.set i (some (b, c))) := t1
 have hgk : gk < w.heap.size := h.lt gk (.inl rfl)
 have hil : i < rs.length := (List.getElem?_eq_some_iff.1 hi).1
 have far : ∀ {bb cc : Nat} {ps : List S59}, bb ≠ gk → k59.R 59 w1 base (fun _ => True) (.slice (some ⟨bb, 0, none⟩) (2 * m) cc) ps → k59.R 59 (w1.setCell ⟨gk, i, none⟩ (.slice (some ⟨b, 0, none⟩) (2 * m) c)) base (fun _ => True) (.slice (some ⟨bb, 0, none⟩) (2 * m) cc) ps := fun hne hp =>
  Kd.R_mono (Kd.R_far (p := ⟨gk, i, none⟩) (Kd.R_tight rfl hp) (fun k hk => by injection hk with hk; rw [hk]; exact hne) _) (fun _ _ => trivial)
 have hw : gw ≠ gk := fun e => by
  obtain ⟨_, cells, q, hc, hq⟩ := h.typed gk (.inl rfl)
  have := h.wk
  rw [e, hc] at this
  rcases hq with rfl | rfl <;> simp at this
 have old : ∀ j bb cc : Nat, (rs.set i (some (b, c)))[j]? = some (some (bb, cc)) → (j = i ∧ bb = b ∧ cc = c) ∨ (j ≠ i ∧ rs[j]? = some (some (bb, cc))) := by
  intro j bb cc hj
  by_cases e : j = i
  · subst e
    rw [List.getElem?_set_self hil] at hj
    injection hj with hj
    injection hj with hj
    injection hj with hj1 hj2
    exact .inl ⟨rfl, hj1.symm, hj2.symm⟩
  · rw [List.getElem?_set_ne (fun e' => e e'.symm)] at hj
    exact .inr ⟨e, hj⟩
 refine ⟨⟨blk_far h'.wk hw _, t1', fun j bb cc hj => ?_, fun j j' bb cc cc' hj hj' => ?_⟩, t2⟩
 · rcases old j bb cc hj with ⟨rfl, rfl, rfl⟩ | ⟨hne, hj⟩
   · refine ⟨_, far (by omega) hr, fun key hk => .inl ?_⟩
     rw [List.getD_eq_getElem?_getD, List.getElem?_replicate, if_pos hk]
     rfl
   · obtain ⟨ps, hp, hq⟩ := h'.row j bb cc hj
     refine ⟨ps, far (fun e => ?_) hp, hq⟩
     obtain ⟨inner, ho⟩ := Kd.R_own hp
     obtain ⟨cells, hcb⟩ := own_typed ho bb (by simp [Value.ownBlock])
     obtain ⟨inner', ho'⟩ := Kd.R_own h'.top
     obtain ⟨cells', hc'⟩ := own_typed ho' gk (by simp [Value.ownBlock])
     rw [e, hc'] at hcb
     simp at hcb
 · rcases old j bb cc hj with ⟨e1, e2, e3⟩ | ⟨hne, hjo⟩
   · rcases old j' bb cc' hj' with ⟨e1', _, _⟩ | ⟨hne', hjo'⟩
     · exact e1.trans e1'.symm
     · have := h.lt bb (.inr ⟨j', cc', hjo'⟩)
       omega
   · rcases old j' bb cc' hj' with ⟨e1, e2, e3⟩ | ⟨hne', hjo'⟩
     · have := h.lt bb (.inr ⟨j, cc, hjo⟩)
       omega
     · exact h.inj j j' bb cc cc' hjo hjo'
end
structure ST (WB : World) (g gw gk ck n m : Nat) (B : Nat → Nat → S59) (w : World) (rs0 : List (Option (Nat × Nat))) (w' : World) (rs : List (Option (Nat × Nat))) : Prop where
 below : Below WB.heap.size WB w'
 kn : KN w' WB.heap.size g gw gk ck n m B rs
 kept : Kept w w' (SS gk rs0)
 fresh : ∀ k, SS gk rs k → SS gk rs0 k ∨ w.heap.size ≤ k
 stay : ∀ (i : Nat) (x : Nat × Nat), rs0[i]? = some (some x) → rs[i]? = some (some x)
section
variable {base : Nat} {WB w w1 w2 : World} {g gw gk ck n m : Nat} {B : Nat → Nat → S59} {rs0 rs rs1 rs2 : List (Option (Nat × Nat))}
theorem ST.refl (hb : Below WB.heap.size WB w) (hk : KN w WB.heap.size g gw gk ck n m B rs) : ST WB g gw gk ck n m B w rs w rs := ⟨hb, hk, Kept.refl _ _, fun _ h => .inl h, fun _ _ h => h⟩
theorem ST.trans (h : ST WB g gw gk ck n m B w rs0 w1 rs1) (k : ST WB g gw gk ck n m B w1 rs1 w2 rs2) : ST WB g gw gk ck n m B w rs0 w2 rs2 :=
 ⟨k.below, k.kn, h.kept.then_ k.kept h.fresh, fun j hj => (k.fresh j hj).elim (fun h1 => h.fresh j h1) (fun h1 => .inr (Nat.le_trans h.kept.1 h1)), fun i x hi => k.stay i x (h.stay i x hi)⟩
theorem ST.step (h : ST WB g gw gk ck n m B w rs0 w1 rs) (hb : Below w1.heap.size w1 w2) : ST WB g gw gk ck n m B w rs0 w2 rs :=
 ⟨below_step h.below hb, h.kn.below hb, h.kept.below hb, h.fresh, h.stay⟩
theorem ST.far (h : ST WB g gw gk ck n m B w rs0 w1 rs) {x : Nat} (hg : w1.grownBy w2 (some x)) (hx : ¬ SS gk rs x) (hw : x ≠ gw) (hge : w.heap.size ≤ x) (hgb : WB.heap.size ≤ x) : ST WB g gw gk ck n m B w rs0 w2 rs :=
 ⟨pw_below_grown h.below (some x) h.below.size hg (fun k hk => by cases hk; exact hgb), h.kn.far hg hx hw, Kept.of_grown hg h.kept (fun k hk => .inr (by cases hk; exact hge)), h.fresh, h.stay⟩
theorem ST.put (h : ST WB g gw gk ck n m B w rs0 w1 rs) {i b c : Nat} (hi : rs[i]? = some (some (b, c))) (key : Int) (k0 : 0 ≤ key) (k1 : key < 2 * m) :
    ST WB g gw gk ck n m B w rs0 (w1.setCells b (key.toNat * 4) (c59 (B i key.toNat))) rs ∧ w1.grownBy (w1.setCells b (key.toNat * 4) (c59 (B i key.toNat))) (some b) := by
 obtain ⟨k1, k2⟩ := h.kn.put hi key k0 k1
 have hS : SS gk rs b := .inr ⟨i, c, hi⟩
 exact ⟨⟨pw_below_grown h.below (some b) h.below.size k2 (fun k hk => by cases hk; exact (h.kn.typed b hS).1), k1, Kept.of_grown k2 h.kept (fun k hk => by cases hk; exact h.fresh b hS), h.fresh, h.stay⟩, k2⟩
theorem ST.new (h : ST WB g gw gk ck n m B w rs0 w1 rs) {i b c : Nat} (hi : rs[i]? = some none) (hb : Below w1.heap.size w1 w2) (hr : k59.R 59 w2 WB.heap.size (fun _ => True) (.slice (some ⟨b, 0, none⟩) (2 * m) c) (List.replicate (2 * m) z59)) (hf : w1.heap.size ≤ b) :
    ST WB g gw gk ck n m B w rs0 (w2.setCell ⟨gk, i, none⟩ (.slice (some ⟨b, 0, none⟩) (2 * m) c)) (rs.set i (some (b, c))) ∧ w2.grownBy (w2.setCell ⟨gk, i, none⟩ (.slice (some ⟨b, 0, none⟩) (2 * m) c)) (some gk) := by
 obtain ⟨k1, k2⟩ := h.kn.new hi hb hr hf
 have hS : SS gk rs gk := .inl rfl
 have h2 := h.step hb
 refine ⟨⟨pw_below_grown h2.below (some gk) h2.below.size k2 (fun k hk => by cases hk; exact (h.kn.typed gk hS).1), k1, Kept.of_grown k2 h2.kept (fun k hk => by cases hk; exact h.fresh gk hS), fun k hk => ?_, fun j x hj => ?_⟩, k2⟩
 rotate_left
 · have hj2 := h.stay j x hj
   by_cases e : j = i
   · subst e
     rw [hi] at hj2
     cases hj2
   · rw [List.getElem?_set_ne (fun e' => e e'.symm)]
     exact hj2
 rcases hk with rfl | ⟨j, cc, hj⟩
 · exact h.fresh _ (.inl rfl)
 · by_cases e : j = i
   · subst e
     rw [List.getElem?_set_self (List.getElem?_eq_some_iff.1 hi).1] at hj
     injection hj with hj
     injection hj with hj
     injection hj with hj1 hj2
     subst hj1
     exact .inr (Nat.le_trans h.kept.1 hf)
   · rw [List.getElem?_set_ne (fun e' => e e'.symm)] at hj
     exact h.fresh k (.inr ⟨j, cc, hj⟩)
def Bx (gk : Nat) (rs : List (Option (Nat × Nat))) (w : World) (x : Nat) (cs : Array Value) (t : Nat) : Prop := w.heap[x]? = some (.cells cs t (0, 0)) ∧ ¬ SS gk rs x
theorem Bx.below {x t : Nat} {cs : Array Value} (h : Bx gk rs w1 x cs t) (hb : Below w1.heap.size w1 w2) : Bx gk rs w2 x cs t := ⟨blk_below h.1 hb, h.2⟩
theorem Bx.call {x t : Nat} {cs : Array Value} (h : Bx gk rs1 w1 x cs t) (hs : ST WB g gw gk ck n m B w1 rs1 w2 rs2) : Bx gk rs2 w2 x cs t :=
 ⟨blk_kept h.1 hs.kept h.2, fun hk => (hs.fresh x hk).elim h.2 (fun h2 => by have := blk_lt h.1; omega)⟩
theorem Bx.new {x t : Nat} {cs : Array Value} (hs : ST WB g gw gk ck n m B w rs0 w1 rs) (hx : w1.heap.size ≤ x) (h : w2.heap[x]? = some (.cells cs t (0, 0))) : Bx gk rs w2 x cs t :=
 ⟨h, fun hk => by have := hs.kn.lt x hk; omega⟩
theorem Bx.grown {x y t : Nat} {cs : Array Value} (h : Bx gk rs w1 x cs t) (hg : w1.grownBy w2 (some y)) (hne : x ≠ y) : Bx gk rs w2 x cs t := ⟨(hg.block x (blk_lt h.1) (fun e => hne (by injection e))).trans h.1, h.2⟩
theorem Bx.ne_gw {x t : Nat} {cs : Array Value} (h : Bx gk rs w1 x cs t) (hs : ST WB g gw gk ck n m B w rs0 w1 rs) (ht : t ≠ 55) : x ≠ gw := fun e => by
 have h1 := hs.kn.wk
 rw [← e, h.1] at h1
 injection h1 with h1
 injection h1 with _ h1
 exact ht h1
theorem grown_cell (W : World) (x j : Nat) (u : Value) : W.grownBy (W.setCell ⟨x, j, none⟩ u) (some x) := ⟨rfl, rfl, rfl, by simp [World.setCell], fun k _ hk => Below.heap_setCell W ⟨x, j, none⟩ u k (fun e => hk (by rw [e]))⟩
theorem ST.set {x t : Nat} {cs : Array Value} (h : ST WB g gw gk ck n m B w rs0 w1 rs) (hx : Bx gk rs w1 x cs t) (ht : t ≠ 55) (hge : w.heap.size ≤ x) (hgb : WB.heap.size ≤ x) (j : Nat) (u : Value) : ST WB g gw gk ck n m B w rs0 (w1.setCell ⟨x, j, none⟩ u) rs :=
 h.far (grown_cell w1 x j u) hx.2 (hx.ne_gw h ht) hge hgb
theorem Bx.set {x t : Nat} {cs : Array Value} (h : Bx gk rs w1 x cs t) (j : Nat) (u : Value) : Bx gk rs (w1.setCell ⟨x, j, none⟩ u) x (cs.setIfInBounds j u) t := ⟨blk_set h.1 j u, h.2⟩
theorem Bx.off {x y t : Nat} {cs : Array Value} (h : Bx gk rs w1 x cs t) (hne : x ≠ y) (j : Nat) (u : Value) : Bx gk rs (w1.setCell ⟨y, j, none⟩ u) x cs t := h.grown (grown_cell w1 y j u) hne
theorem KN.blk (h : KN w base g gw gk ck n m B rs) {i b c : Nat} (hi : rs[i]? = some (some (b, c))) (key : Int) (k0 : 0 ≤ key) (k1 : key < 2 * m) : ∃ cur, w.heap[b]? = some (.cells cur 59 (0, 0)) ∧ key.toNat * 4 + 4 ≤ cur.size := by
 obtain ⟨ps, hp, _⟩ := h.row i b c hi
 obtain ⟨inner, ho⟩ := Kd.R_own hp
 have hl := (Kd.R_reads' hp).1
 rcases ho.2 with ⟨hv, _⟩ | ⟨b', c', cur, hv, _, hh, hnc, _, hcs, _⟩
 · cases hv
 · injection hv with ha _ _
   injection ha with ha
   injection ha with hb
   subst hb
   refine ⟨cur, hh, ?_⟩
   have : k59.sz = 4 := rfl
   rw [hcs, this]
   omega
theorem Bx.newrow {x t i b c : Nat} {cs : Array Value} {u : Value} (h : Bx gk rs w1 x cs t) (hb : Below w1.heap.size w1 w2) (hf : w1.heap.size ≤ b) : Bx gk (rs.set i (some (b, c))) (w2.setCell ⟨gk, i, none⟩ u) x cs t := by
 refine ⟨blk_far (blk_below h.1 hb) (fun e => h.2 (.inl e)) _, fun hk => ?_⟩
 rcases hk with hk | ⟨j, cc, hj⟩
 · exact h.2 (.inl hk)
 · by_cases e : j = i
   · subst e
     rw [List.getElem?_set] at hj
     split at hj
     · split at hj
       · injection hj with hj
         injection hj with hj
         injection hj with hj1 hj2
         have := blk_lt h.1
         omega
       · cases hj
     · exact h.2 (.inr ⟨j, cc, hj⟩)
   · rw [List.getElem?_set_ne (fun e' => e e'.symm)] at hj
     exact h.2 (.inr ⟨j, cc, hj⟩)
theorem R41_call {ok : Nat → Prop} {v : Value} {xs : List S41} (h : Kd.R k41 41 w1 base ok v xs) (hk : KN w1 WB.heap.size g gw gk ck n m B rs1) (hs : ST WB g gw gk ck n m B w1 rs1 w2 rs2) : Kd.R k41 41 w2 base ok v xs := by
 refine Kd.R_mono (Kd.R_kept (Kd.R_bound h) hs.kept fun k hb hS => ?_) (fun _ hb => hb.1)
 obtain ⟨_, _, _, q, hq, cells, hc⟩ := hb
 obtain ⟨_, cells', q', hc', hq'⟩ := hk.typed k hS
 rw [hc] at hc'
 injection hc' with hc'
 injection hc' with _ hc'
 subst hc'
 rcases hq' with rfl | rfl <;> exact absurd hq (by decide)
end
end Go.Proofs.Ythapclmfkjldaaa.HandLN
