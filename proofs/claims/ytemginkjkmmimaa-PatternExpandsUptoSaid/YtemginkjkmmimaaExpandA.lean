/- Plain facts for PatternExpands: what a range over a string reads, and that a template read through at once gives what is given by its pieces between the signs 36. No program. -/
import GoSem.Core.Utf8
import Derived.Laws.RangeAny
import Derived.Lib.Bytealg
namespace Go.Proofs.Ytemginkjkmmimaa.Expand
open Go
set_option linter.unusedVariables false
set_option linter.unusedSimpArgs false
/-- A byte as a number. -/
def by_ (s : ByteArray) (i : Nat) : Nat := (s.get! i).toNat
def dec (b0 b1 b2 b3 : Nat) (c1 c2 c3 : Bool) : Nat × Nat :=
  if b0 < 0x80 then (b0, 1)
  else if b0 / 32 == 6 && c1 then
    (if (b0 % 32) * 64 + b1 % 64 ≥ 0x80 then ((b0 % 32) * 64 + b1 % 64, 2) else (Utf8.runeError, 1))
  else if b0 / 16 == 14 && c1 && c2 then
    (if (b0 % 16) * 4096 + (b1 % 64) * 64 + b2 % 64 ≥ 0x800 && Utf8.valid ((b0 % 16) * 4096 + (b1 % 64) * 64 + b2 % 64 : Nat) then ((b0 % 16) * 4096 + (b1 % 64) * 64 + b2 % 64, 3) else (Utf8.runeError, 1))
  else if b0 / 8 == 30 && c1 && c2 && c3 then
    (if (b0 % 8) * 262144 + (b1 % 64) * 4096 + (b2 % 64) * 64 + b3 % 64 ≥ 0x10000 && Utf8.valid ((b0 % 8) * 262144 + (b1 % 64) * 4096 + (b2 % 64) * 64 + b3 % 64 : Nat) then ((b0 % 8) * 262144 + (b1 % 64) * 4096 + (b2 % 64) * 64 + b3 % 64, 4) else (Utf8.runeError, 1))
  else (Utf8.runeError, 1)
def con (s : ByteArray) (i : Nat) : Bool := i < s.size && by_ s i / 64 == 2
theorem decode_dec (s : ByteArray) (i : Nat) : Utf8.decode s i = dec (by_ s i) (by_ s (i + 1)) (by_ s (i + 2)) (by_ s (i + 3)) (con s (i + 1)) (con s (i + 2)) (con s (i + 3)) := rfl
theorem dec1 (b0 b1 b2 b3 x1 x2 x3 : Nat) (c2 c3 d2 d3 : Bool) : dec b0 b1 b2 b3 false c2 c3 = dec b0 x1 x2 x3 false d2 d3 := by simp [dec]
theorem dec2 (b0 b1 b2 b3 x2 x3 : Nat) (c1 c3 d3 : Bool) : dec b0 b1 b2 b3 c1 false c3 = dec b0 b1 x2 x3 c1 false d3 := by simp [dec]
theorem dec3 (b0 b1 b2 b3 x3 : Nat) (c1 c2 : Bool) : dec b0 b1 b2 b3 c1 c2 false = dec b0 b1 b2 x3 c1 c2 false := by simp [dec]
theorem decode_pos (s : ByteArray) (i : Nat) : 1 ≤ (Utf8.decode s i).2 := by
  rw [decode_dec, dec]
  repeat' split
  all_goals simp
/-- What follows the first byte of a character is no sign of its own, and lies inside. -/
theorem decode_in (s : ByteArray) (i k : Nat) (h1 : 1 ≤ k) (h2 : k < (Utf8.decode s i).2) : con s (i + k) = true := by
  rw [decode_dec, dec] at h2
  repeat' split at h2
  all_goals (try (simp at h2; omega))
  all_goals (simp only [Bool.and_eq_true] at *)
  · obtain rfl : k = 1 := by omega
    simp_all
  · have : k = 1 ∨ k = 2 := by omega
    rcases this with rfl | rfl <;> simp_all
  · have : k = 1 ∨ k = 2 ∨ k = 3 := by omega
    rcases this with rfl | rfl | rfl <;> simp_all
theorem con_lt {s : ByteArray} {i : Nat} (h : con s i = true) : i < s.size ∧ by_ s i ≠ 36 := by
  simp only [con, Bool.and_eq_true, decide_eq_true_eq, beq_iff_eq] at h
  refine ⟨h.1, fun e => ?_⟩
  rw [e] at h
  exact absurd h.2 (by decide)
theorem decode_low (s : ByteArray) (i : Nat) (h : by_ s i < 128) : Utf8.decode s i = (by_ s i, 1) := by
  rw [decode_dec, dec, if_pos h]
theorem decode_high' (s : ByteArray) (i : Nat) (h : ¬ by_ s i < 128) : 128 ≤ (Utf8.decode s i).1 := by
  rw [decode_dec, dec, if_neg h]
  repeat' split
  all_goals (simp_all [Utf8.runeError])
  all_goals omega
theorem by_ext {s : ByteArray} {p q i : Nat} (hq : q ≤ s.size) (h : p + i < q) : by_ (s.extract p q) i = by_ s (p + i) := by
  have h1 : i < (s.extract p q).size := by rw [ByteArray.size_extract]; omega
  have e1 : (s.extract p q).get! i = (s.extract p q)[i] := get_at (s.extract p q) i h1
  have e2 : s.get! (p + i) = s[p + i]'(by omega) := get_at s (p + i) (by omega)
  unfold by_
  rw [e1, e2, ByteArray.getElem_extract]
theorem con_ext {s : ByteArray} {p q i : Nat} (hq : q ≤ s.size) (h : p + i < q) : con (s.extract p q) i = con s (p + i) := by
  unfold con
  rw [by_ext hq h, ByteArray.size_extract, decide_eq_true (show i < min q s.size - p by omega), decide_eq_true (show p + i < s.size by omega)]
theorem con_out {s : ByteArray} {p q i : Nat} (h : q ≤ p + i) : con (s.extract p q) i = false := by
  unfold con
  rw [ByteArray.size_extract, decide_eq_false (show ¬ i < min q s.size - p by omega)]
  rfl
/-- The piece ahead of a sign 36 reads as the whole does there. -/
theorem decode_ext {s : ByteArray} {p q : Nat} (hq : q ≤ s.size) (hb : q = s.size ∨ by_ s q = 36) (j : Nat) (hj : p + j < q) : Utf8.decode (s.extract p q) j = Utf8.decode s (p + j) := by
  have hcq : con s q = false := by
    rcases hb with h | h
    · unfold con; rw [decide_eq_false (by omega)]; rfl
    · unfold con; rw [h]; simp
  rw [decode_dec, decode_dec, by_ext hq hj]
  by_cases h1 : p + j + 1 = q
  · rw [con_out (i := j + 1) (by omega), h1, hcq]
    exact dec1 ..
  · have e1 : con (s.extract p q) (j + 1) = con s (p + j + 1) := con_ext hq (by omega)
    have f1 : by_ (s.extract p q) (j + 1) = by_ s (p + j + 1) := by_ext hq (by omega)
    rw [e1, f1]
    by_cases h2 : p + j + 2 = q
    · rw [con_out (i := j + 2) (by omega), h2, hcq]
      exact dec2 ..
    · have e2 : con (s.extract p q) (j + 2) = con s (p + j + 2) := con_ext hq (by omega)
      have f2 : by_ (s.extract p q) (j + 2) = by_ s (p + j + 2) := by_ext hq (by omega)
      rw [e2, f2]
      by_cases h3 : p + j + 3 = q
      · rw [con_out (i := j + 3) (by omega), h3, hcq]
        exact dec3 ..
      · have e3 : con (s.extract p q) (j + 3) = con s (p + j + 3) := con_ext hq (by omega)
        have f3 : by_ (s.extract p q) (j + 3) = by_ s (p + j + 3) := by_ext hq (by omega)
        rw [e3, f3]
/-- The characters of a text from place j on. -/
def runes (s : ByteArray) (j : Nat) : List Int :=
  if h : j < s.size then ((Utf8.decode s j).1 : Int) :: runes s (j + (Utf8.decode s j).2) else []
  termination_by s.size - j
  decreasing_by have := decode_pos s j; omega
theorem runes_on {s : ByteArray} {j : Nat} (h : j < s.size) : runes s j = ((Utf8.decode s j).1 : Int) :: runes s (j + (Utf8.decode s j).2) := by
  rw [runes, dif_pos h]
theorem runes_end {s : ByteArray} {j : Nat} (h : ¬ j < s.size) : runes s j = [] := by
  rw [runes, dif_neg h]
/-- A template read through at once: what is made, and the error. -/
def whole (grp : Int → Option (List Int)) (s : ByteArray) (p : Nat) (mark : Bool) (out : List Int) : List Int × Int :=
  if h : p < s.size then
    (if mark = false then
      (if (Utf8.decode s p).1 = 36 then whole grp s (p + (Utf8.decode s p).2) true out else whole grp s (p + (Utf8.decode s p).2) false (out ++ [((Utf8.decode s p).1 : Int)]))
    else if (Utf8.decode s p).1 = 36 then whole grp s (p + (Utf8.decode s p).2) false (out ++ [36])
    else if (Utf8.decode s p).1 < 48 ∨ (Utf8.decode s p).1 > 57 then ([], 10)
    else match grp (((Utf8.decode s p).1 : Int) - 48) with
      | none => ([], 7)
      | some l => whole grp s (p + (Utf8.decode s p).2) false (out ++ l))
  else if mark = true then ([], 10) else (out, 0)
  termination_by s.size - p
  decreasing_by all_goals (have := decode_pos s p; omega)
/-- A template read by its pieces. -/
def pieces (grp : Int → Option (List Int)) (r : ByteArray) (out : List Int) : List Int × Int :=
  if h : 0 < r.size then
    (if h2 : Lib.indexByte r.data.toList 36 < 0 then (out ++ runes r 0, 0)
    else if r.size ≤ (Lib.indexByte r.data.toList 36).toNat + 1 then ([], 10)
    else if by_ r ((Lib.indexByte r.data.toList 36).toNat + 1) = 36 then pieces grp (r.extract ((Lib.indexByte r.data.toList 36).toNat + 2) r.size) (out ++ runes (r.extract 0 (Lib.indexByte r.data.toList 36).toNat) 0 ++ [36])
    else if by_ r ((Lib.indexByte r.data.toList 36).toNat + 1) < 48 ∨ by_ r ((Lib.indexByte r.data.toList 36).toNat + 1) > 57 then ([], 10)
    else match grp ((by_ r ((Lib.indexByte r.data.toList 36).toNat + 1) : Int) - 48) with
      | none => ([], 7)
      | some l => pieces grp (r.extract ((Lib.indexByte r.data.toList 36).toNat + 2) r.size) (out ++ runes (r.extract 0 (Lib.indexByte r.data.toList 36).toNat) 0 ++ l))
  else (out, 0)
  termination_by r.size
  decreasing_by all_goals (rw [ByteArray.size_extract]; omega)
theorem index_none (l : List UInt8) (h : Lib.indexByte l 36 < 0) : ∀ b ∈ l, b ≠ 36 := by
  induction l with
  | nil => simp
  | cons b l ih =>
    rw [Lib.indexByte] at h
    have hg := Lib.indexByte_ge l 36
    split at h
    · omega
    · rename_i hb
      split at h
      · rename_i h1
        intro c hc
        rcases List.mem_cons.1 hc with rfl | hc
        · simpa using hb
        · exact ih (by have := beq_iff_eq.1 h1; omega) c hc
      · rename_i h1
        have h1 : Lib.indexByte l 36 ≠ -1 := by simpa using h1
        omega
theorem index_some (l : List UInt8) (h : ¬ Lib.indexByte l 36 < 0) : l[(Lib.indexByte l 36).toNat]? = some 36 ∧ ∀ j, j < (Lib.indexByte l 36).toNat → ∀ b, l[j]? = some b → b ≠ 36 := by
  induction l with
  | nil => simp [Lib.indexByte] at h
  | cons b l ih =>
    have hg := Lib.indexByte_ge l 36
    rw [Lib.indexByte] at h ⊢
    split
    · rename_i hb
      refine ⟨by simpa using hb, fun j hj => absurd hj (by simp)⟩
    · rename_i hb
      rw [if_neg hb] at h
      split
      · rename_i h1
        rw [if_pos h1] at h
        omega
      · rename_i h1
        have h1 : Lib.indexByte l 36 ≠ -1 := by simpa using h1
        obtain ⟨i1, i2⟩ := ih (by omega)
        rw [show (Lib.indexByte l 36 + 1).toNat = (Lib.indexByte l 36).toNat + 1 by omega]
        refine ⟨by simpa using i1, fun j hj c hc => ?_⟩
        cases j with
        | zero =>
          simp only [List.getElem?_cons_zero, Option.some.injEq] at hc
          subst hc
          simpa using hb
        | succ j => exact i2 j (by omega) c (by simpa using hc)
theorem by_list {s : ByteArray} {i : Nat} (h : i < s.size) : s.data.toList[i]? = some s[i] ∧ by_ s i = s[i].toNat := by
  refine ⟨?_, ?_⟩
  · rw [Array.getElem?_toList]
    rw [ByteArray.getElem_eq_getElem_data]
    exact Array.getElem?_eq_getElem _
  · unfold by_
    have e1 : s.get! i = s[i] := get_at s i h
    rw [e1]
theorem u8_36 (b : UInt8) : b = 36 ↔ b.toNat = 36 := ⟨fun h => by rw [h]; rfl, fun h => UInt8.toNat_inj.1 h⟩
theorem index_none' {s : ByteArray} (h : Lib.indexByte s.data.toList 36 < 0) (i : Nat) (hi : i < s.size) : by_ s i ≠ 36 := by
  obtain ⟨e1, e2⟩ := by_list hi
  rw [e2]
  have := index_none _ h s[i] (List.mem_of_getElem? e1)
  exact fun e => this ((u8_36 _).2 e)
theorem index_some' {s : ByteArray} (h : ¬ Lib.indexByte s.data.toList 36 < 0) : (Lib.indexByte s.data.toList 36).toNat < s.size ∧ by_ s (Lib.indexByte s.data.toList 36).toNat = 36 ∧ ∀ j, j < (Lib.indexByte s.data.toList 36).toNat → by_ s j ≠ 36 := by
  obtain ⟨i1, i2⟩ := index_some _ h
  have hlt : (Lib.indexByte s.data.toList 36).toNat < s.size := by
    have := (List.getElem?_eq_some_iff.1 i1).1
    simpa using this
  refine ⟨hlt, ?_, fun j hj => ?_⟩
  · obtain ⟨e1, e2⟩ := by_list hlt
    rw [e2, ← u8_36]
    rw [e1] at i1
    exact Option.some.inj i1
  · obtain ⟨e1, e2⟩ := by_list (s := s) (i := j) (by omega)
    rw [e2]
    exact fun e => i2 j hj _ e1 ((u8_36 _).2 e)
/-- Up to a sign 36 (or the end) the template gives its characters. -/
theorem whole_plain (grp : Int → Option (List Int)) {s : ByteArray} {p q : Nat} (hq : q ≤ s.size) (hb : q = s.size ∨ by_ s q = 36) (hno : ∀ i, p ≤ i → i < q → by_ s i ≠ 36) :
    ∀ (d j : Nat) (out : List Int), p + j + d = q → whole grp s (p + j) false out = whole grp s q false (out ++ runes (s.extract p q) j) := by
  intro d
  induction d using Nat.strongRecOn with
  | _ d ih =>
    intro j out hd
    have hsz : (s.extract p q).size = q - p := by rw [ByteArray.size_extract]; omega
    by_cases h : p + j = q
    · rw [runes_end (by omega), List.append_nil, h]
    · have hlt : p + j < q := by omega
      rw [runes_on (s := s.extract p q) (j := j) (by omega), decode_ext hq hb j hlt, whole, dif_pos (show p + j < s.size by omega), if_pos rfl]
      have hn := decode_pos s (p + j)
      have hin := decode_in s (p + j)
      have hne : (Utf8.decode s (p + j)).1 ≠ 36 := by
        by_cases hlow : by_ s (p + j) < 128
        · rw [decode_low _ _ hlow]
          exact hno _ (by omega) hlt
        · have := decode_high' s (p + j) hlow
          omega
      have hadv : p + j + (Utf8.decode s (p + j)).2 ≤ q := by
        refine Nat.le_of_not_lt fun hgt => ?_
        have hc := con_lt (hin (q - (p + j)) (by omega) (by omega))
        rw [show p + j + (q - (p + j)) = q by omega] at hc
        rcases hb with hb | hb
        · omega
        · exact hc.2 hb
      rw [if_neg hne]
      generalize (Utf8.decode s (p + j)).2 = n at hn hadv ⊢
      have := ih (d - n) (by omega) (j + n) (out ++ [((Utf8.decode s (p + j)).1 : Int)]) (by omega)
      rw [← Nat.add_assoc] at this
      rw [this, List.append_assoc]
      rfl
/-- Both readings agree. -/
theorem same_reading (grp : Int → Option (List Int)) (s : ByteArray) : ∀ (d p : Nat) (out : List Int), p + d = s.size → pieces grp (s.extract p s.size) out = whole grp s p false out := by
  intro d
  induction d using Nat.strongRecOn with
  | _ d ih =>
    intro p out hd
    have hsz : (s.extract p s.size).size = s.size - p := by rw [ByteArray.size_extract]; omega
    rw [pieces]
    by_cases h : 0 < (s.extract p s.size).size
    · rw [dif_pos h]
      by_cases hi : Lib.indexByte (s.extract p s.size).data.toList 36 < 0
      · rw [dif_pos hi]
        have hno : ∀ i, p ≤ i → i < s.size → by_ s i ≠ 36 := fun i h1 h2 => by
          have := index_none' hi (i - p) (by omega)
          rw [by_ext (Nat.le_refl _) (by omega), show p + (i - p) = i by omega] at this
          exact this
        have e := whole_plain grp (Nat.le_refl s.size) (.inl rfl) hno (s.size - p) 0 out (by omega)
        rw [Nat.add_zero] at e
        rw [e, whole, dif_neg (Nat.lt_irrefl _)]
        rfl
      · rw [dif_neg hi]
        obtain ⟨i1, i2, i3⟩ := index_some' hi
        generalize (Lib.indexByte (s.extract p s.size).data.toList 36).toNat = q at i1 i2 i3 ⊢
        rw [hsz] at i1 ⊢
        rw [by_ext (Nat.le_refl _) (by omega)] at i2
        have hno : ∀ i, p ≤ i → i < p + q → by_ s i ≠ 36 := fun i h1 h2 => by
          have := i3 (i - p) (by omega)
          rw [by_ext (Nat.le_refl _) (by omega), show p + (i - p) = i by omega] at this
          exact this
        have e := whole_plain grp (show p + q ≤ s.size by omega) (.inr i2) hno q 0 out (by omega)
        rw [Nat.add_zero] at e
        have e2 : (s.extract p s.size).extract 0 q = s.extract p (p + q) := by
          rw [ByteArray.extract_extract, Nat.add_zero, Nat.min_eq_left (by omega)]
        have e3 : (s.extract p s.size).extract (q + 2) (s.size - p) = s.extract (p + q + 2) s.size := by
          rw [ByteArray.extract_extract, Nat.add_assoc, show min (p + (s.size - p)) s.size = s.size by omega]
        rw [e, e2, e3, whole, dif_pos (show p + q < s.size by omega), if_pos rfl, decode_low s (p + q) (by omega), if_pos i2]
        generalize out ++ runes (s.extract p (p + q)) 0 = o
        rw [whole]
        by_cases ht : p + q + 1 < s.size
        · rw [dif_pos ht, if_neg (show ¬ (true = false) by simp), if_neg (show ¬ s.size - p ≤ q + 1 by omega), by_ext (i := q + 1) (Nat.le_refl s.size) (by omega), ← Nat.add_assoc]
          by_cases hlow : by_ s (p + q + 1) < 128
          · rw [decode_low _ _ hlow]
            dsimp only
            by_cases c1 : by_ s (p + q + 1) = 36
            · rw [if_pos c1, if_pos c1, ih (s.size - (p + q + 2)) (by omega) (p + q + 2) _ (by omega)]
            · rw [if_neg c1, if_neg c1]
              by_cases c2 : by_ s (p + q + 1) < 48 ∨ by_ s (p + q + 1) > 57
              · rw [if_pos c2, if_pos c2]
              · rw [if_neg c2, if_neg c2]
                cases grp ((by_ s (p + q + 1) : Int) - 48) with
                | none => rfl
                | some l => exact ih (s.size - (p + q + 2)) (by omega) (p + q + 2) _ (by omega)
          · have hh := decode_high' s (p + q + 1) hlow
            rw [if_neg (show ¬ by_ s (p + q + 1) = 36 by omega), if_pos (show by_ s (p + q + 1) < 48 ∨ by_ s (p + q + 1) > 57 by omega), if_neg (show ¬ (Utf8.decode s (p + q + 1)).1 = 36 by omega), if_pos (show (Utf8.decode s (p + q + 1)).1 < 48 ∨ (Utf8.decode s (p + q + 1)).1 > 57 by omega)]
        · rw [dif_neg ht, if_pos (by omega), if_pos rfl]
    · rw [dif_neg h, whole, dif_neg (by omega)]
      rfl
end Go.Proofs.Ytemginkjkmmimaa.Expand
