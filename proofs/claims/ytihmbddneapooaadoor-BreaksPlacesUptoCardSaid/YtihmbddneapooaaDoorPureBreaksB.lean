/- Proved: the scan of the program and the list of classes of the document decide each position alike, for texts of at most 1048576 characters. No other condition. -/
import Derived.Test.YtihmbddneapooaaDoorPureBreaksA
import Derived.Test.YtihmbddneapooaaDoorHandBR
import Derived.Test.YtihmbddneapooaaDoorQBRx5
namespace Go.Proofs.YtihmbddneapooaaDoor.Pure
open Go.RowKit Go.Proofs.YtihmbddneapooaaDoor.PMetricEms Go.Proofs.YtihmbddneapooaaDoor.HandMB Go.Proofs.YtihmbddneapooaaDoor.HandMEf Go.Proofs.YtihmbddneapooaaDoor.HandCL Go.Proofs.YtihmbddneapooaaDoor.QBR Go.Proofs.YtihmbddneapooaaDoor.HandBR Go.Proofs.YtihmbddneapooaaDoorW.PrintWords Go.Proofs.YtihmbddneapooaaDoorW.PrintLast Go.Proofs.YtihmbddneapooaaDoorW.PrintMore Go.Proofs.YtihmbddneapooaaDoor.Lib
set_option linter.unusedVariables false
set_option linter.unusedSimpArgs false
namespace BrkB
open BrkA (cls cls_bd class_ok letter refClass_ok l1 l2 l3 l4 l5 l6 l7 l8 l9 l10 l11 in_ok)
def lst (B : List Int) : Int := rd B ((B.length : Int) - 1)
def bef (B : List Int) : Int := if (B.length : Int) > 1 then rd B ((B.length : Int) - 2) else 1
def firmL (B : List Int) : Int := B.foldl (fun f k => if k = 2 then f else k) 0
theorem lst_snoc (B : List Int) (k : Int) : lst (B ++ [k]) = k := by
  unfold lst
  rw [List.length_append, List.length_singleton, show ((B.length + 1 : Nat) : Int) - 1 = B.length by omega, rd_app_right (by omega), Int.sub_self]
  rfl
theorem bef_snoc (B : List Int) (k : Int) : bef (B ++ [k]) = if 0 < B.length then lst B else 1 := by
  unfold bef lst
  rw [List.length_append, List.length_singleton]
  by_cases h : 0 < B.length
  · rw [if_pos (by omega), if_pos h, show ((B.length + 1 : Nat) : Int) - 2 = (B.length : Int) - 1 by omega, rd_app_left (by omega) (by omega)]
  · rw [if_neg (by omega), if_neg h]
theorem firm_snoc (B : List Int) (k : Int) : firmL (B ++ [k]) = if k = 2 then firmL B else k := by
  unfold firmL; rw [List.foldl_append]; rfl
/-- The classes, marks aside, behind one character more. -/
def nxt (B : List Int) (k : Int) : List Int := if k = 10 ∧ 0 < B.length ∧ lst B ≠ 1 then B else B ++ [if k = 10 then 0 else k]
def Bl (t : List Int) : Nat → List Int
  | 0 => []
  | i + 1 => nxt (Bl t i) (cls (rd t i))
theorem nxt_mem {B : List Int} {k : Int} (hk : 0 ≤ k ∧ k ≤ 11) (h : ∀ x ∈ B, 0 ≤ x ∧ x ≤ 11) : ∀ x ∈ nxt B k, 0 ≤ x ∧ x ≤ 11 := by
  intro x hx
  unfold nxt at hx
  split at hx
  · exact h x hx
  · rcases List.mem_append.1 hx with hx | hx
    · exact h x hx
    · rw [List.mem_singleton] at hx
      subst hx
      split <;> omega
theorem Bl_mem (t : List Int) : ∀ (i : Nat), ∀ x ∈ Bl t i, 0 ≤ x ∧ x ≤ 11
  | 0 => fun x hx => by cases hx
  | i + 1 => nxt_mem (cls_bd _) (Bl_mem t i)
theorem nxt_pos (B : List Int) (k : Int) : 0 < (nxt B k).length := by
  unfold nxt
  split
  · rename_i h; exact h.2.1
  · rw [List.length_append, List.length_singleton]; omega
theorem nxt_len (B : List Int) (k : Int) : (nxt B k).length ≤ B.length + 1 := by
  unfold nxt
  split
  · omega
  · rw [List.length_append, List.length_singleton]; omega
theorem Bl_len (t : List Int) : ∀ i : Nat, (Bl t i).length ≤ i
  | 0 => Nat.le_refl _
  | i + 1 => by have := nxt_len (Bl t i) (cls (rd t i)); have := Bl_len t i; show (nxt _ _).length ≤ _; omega
theorem Bl_pos (t : List Int) : ∀ i : Nat, 0 < i → 0 < (Bl t i).length
  | 0, h => absurd h (by omega)
  | i + 1, _ => nxt_pos _ _
theorem lst_bd {B : List Int} (h : ∀ x ∈ B, 0 ≤ x ∧ x ≤ 11) : 0 ≤ lst B ∧ lst B ≤ 11 := by
  unfold lst
  by_cases hp : 0 < B.length
  · exact h _ (rd_mem (by omega) (by omega))
  · have : B = [] := List.length_eq_zero_iff.1 (by omega)
    subst this
    exact ⟨by decide, by decide⟩
theorem bef_bd {B : List Int} (h : ∀ x ∈ B, 0 ≤ x ∧ x ≤ 11) : 0 ≤ bef B ∧ bef B ≤ 11 := by
  unfold bef
  split
  · exact h _ (rd_mem (by omega) (by omega))
  · omega
theorem firm_bd {B : List Int} (h : ∀ x ∈ B, 0 ≤ x ∧ x ≤ 11) : 0 ≤ firmL B ∧ firmL B ≤ 11 := by
  have key : ∀ (L : List Int) (f : Int), (∀ x ∈ L, 0 ≤ x ∧ x ≤ 11) → 0 ≤ f ∧ f ≤ 11 → 0 ≤ L.foldl (fun f k => if k = 2 then f else k) f ∧ L.foldl (fun f k => if k = 2 then f else k) f ≤ 11 := by
    intro L
    induction L with
    | nil => intro f _ hf; exact hf
    | cons x L ih =>
      intro f hL hf
      rw [List.foldl_cons]
      refine ih _ (fun y hy => hL y (List.mem_cons_of_mem _ hy)) ?_
      split
      · exact hf
      · exact hL x List.mem_cons_self
  exact key B 0 h (by omega)
/-- What may happen ahead of a character of class k: where, and whether. -/
def mayV (a b f k : Int) (j : Bool) : Int × Bool :=
  if b = 1 then (2, true) else if j = true ∨ k = 1 ∨ k = 2 ∨ k = 10 ∨ k = 3 then (0, false) else if f = 3 then (0, true)
  else if b = 4 ∨ (k = 4 ∧ b ≠ 2) ∨ k = 8 ∨ f = 7 then (0, false) else if b = 2 then (0, true) else if b = 6 then (1, true)
  else if b = 5 then (0, decide (k ≠ 11 ∧ a ≠ 2 ∧ a ≠ 1)) else if b = 9 ∨ k = 9 then (0, true) else (0, false)
def dec (a b f k : Int) (j : Bool) : Int := if (mayV a b f k j).2 = true then (mayV a b f k j).1 else -1
theorem mayV_nn (a b f k : Int) (j : Bool) : 0 ≤ (mayV a b f k j).1 := by
  unfold mayV
  repeat' split
  all_goals simp
/-- The scan's fields, behind the characters that gave B. -/
structure Inv (s : Sc) (B : List Int) (j : Bool) (n : Int) : Prop where
  base : s.base = lst B
  before : s.before = bef B
  firm : s.firm = firmL B
  any : s.any = decide (0 < B.length)
  spaces : 0 < s.spaces ↔ lst B = 2
  low : 0 ≤ s.spaces
  high : s.spaces ≤ n
  joined : s.joined = j
theorem may_end (k n : Nat) (b a sp f : Int) (an jo : Bool) (c : Int) (hsp : 0 < sp ↔ b = 2) (h0 : 0 ≤ sp) : QBR.breaks_scan_may.f (k + 2) b a sp f an jo c = some ((mayV a b f (cls c) jo).1, (mayV a b f (cls c) jo).2, b, a, sp, f, an, jo) := by
  unfold QBR.breaks_scan_may.f
  rw [class_ok]
  generalize cls c = q
  simp only [Option.bind_some]
  unfold mayV
  by_cases h1 : b = 1
  · rw [if_pos h1, if_pos h1]
  rw [if_neg h1, if_neg h1]
  have J : ∀ x : Bool, (x = true ↔ (jo = true ∨ q = 1 ∨ q = 2 ∨ q = 10 ∨ q = 3)) → QBR.breaks_scan_may.j0 (k + 2) q x b a sp f an jo = some ((if jo = true ∨ q = 1 ∨ q = 2 ∨ q = 10 ∨ q = 3 then ((0 : Int), false) else if f = 3 then (0, true)
      else if b = 4 ∨ (q = 4 ∧ b ≠ 2) ∨ q = 8 ∨ f = 7 then (0, false) else if b = 2 then (0, true) else if b = 6 then (1, true)
      else if b = 5 then (0, decide (q ≠ 11 ∧ a ≠ 2 ∧ a ≠ 1)) else if b = 9 ∨ q = 9 then (0, true) else (0, false)).1, (if jo = true ∨ q = 1 ∨ q = 2 ∨ q = 10 ∨ q = 3 then ((0 : Int), false) else if f = 3 then (0, true)
      else if b = 4 ∨ (q = 4 ∧ b ≠ 2) ∨ q = 8 ∨ f = 7 then (0, false) else if b = 2 then (0, true) else if b = 6 then (1, true)
      else if b = 5 then (0, decide (q ≠ 11 ∧ a ≠ 2 ∧ a ≠ 1)) else if b = 9 ∨ q = 9 then (0, true) else (0, false)).2, b, a, sp, f, an, jo) := by
    intro x hx
    rw [QBR.breaks_scan_may.j0]
    cases x with
    | true => rw [if_pos rfl, if_pos (hx.1 rfl)]
    | false =>
      have hn : ¬ (jo = true ∨ q = 1 ∨ q = 2 ∨ q = 10 ∨ q = 3) := fun h => by have := hx.2 h; cases this
      rw [if_neg (by simp), if_neg hn]
      by_cases h3 : f = 3
      · rw [if_pos h3, if_pos h3]
      rw [if_neg h3, if_neg h3]
      have K : ∀ y : Bool, (y = true ↔ (b = 4 ∨ (q = 4 ∧ b ≠ 2) ∨ q = 8 ∨ f = 7)) → QBR.breaks_scan_may.j1 (k + 1) q y b a sp f an jo = some ((if b = 4 ∨ (q = 4 ∧ b ≠ 2) ∨ q = 8 ∨ f = 7 then ((0 : Int), false) else if b = 2 then (0, true) else if b = 6 then (1, true)
          else if b = 5 then (0, decide (q ≠ 11 ∧ a ≠ 2 ∧ a ≠ 1)) else if b = 9 ∨ q = 9 then (0, true) else (0, false)).1, (if b = 4 ∨ (q = 4 ∧ b ≠ 2) ∨ q = 8 ∨ f = 7 then ((0 : Int), false) else if b = 2 then (0, true) else if b = 6 then (1, true)
          else if b = 5 then (0, decide (q ≠ 11 ∧ a ≠ 2 ∧ a ≠ 1)) else if b = 9 ∨ q = 9 then (0, true) else (0, false)).2, b, a, sp, f, an, jo) := by
        intro y hy
        rw [QBR.breaks_scan_may.j1]
        cases y with
        | true => rw [if_pos rfl, if_pos (hy.1 rfl)]
        | false =>
          have hm : ¬ (b = 4 ∨ (q = 4 ∧ b ≠ 2) ∨ q = 8 ∨ f = 7) := fun h => by have := hy.2 h; cases this
          rw [if_neg (by simp), if_neg hm]
          by_cases h4 : b = 2
          · rw [if_pos (hsp.2 h4), if_pos h4]
          rw [if_neg (fun h => h4 (hsp.1 h)), if_neg h4]
          by_cases h5 : b = 6
          · rw [if_pos h5, if_pos h5]
          rw [if_neg h5, if_neg h5]
          by_cases h6 : b = 5
          · rw [if_pos h6, if_pos h6]
            by_cases h7 : q = 11
            · rw [if_pos h7, decide_eq_false (by simp [h7])]
            rw [if_neg h7]
            by_cases h8 : a = 2
            · rw [if_pos h8, decide_eq_false (by simp [h8])]
            rw [if_neg h8]
            congr 3
            by_cases h9 : a = 1
            · simp [h9]
            · simp [h7, h8, h9]
          rw [if_neg h6, if_neg h6]
          by_cases h7 : b = 9
          · rw [if_pos h7, if_pos (.inl h7)]
          rw [if_neg h7]
          by_cases h8 : q = 9
          · rw [if_pos h8, if_pos (.inr h8)]
          · rw [if_neg h8, if_neg (by simp [h7, h8])]
      by_cases g1 : b = 4
      · rw [if_pos g1]; exact K true (by simp [g1])
      rw [if_neg g1]
      by_cases g2 : q = 4
      · rw [if_pos g2]
        by_cases g3 : sp = 0
        · rw [if_pos g3]; exact K true ⟨fun _ => .inr (.inl ⟨g2, fun e => by have := hsp.2 e; omega⟩), fun _ => rfl⟩
        · rw [if_neg g3]
          have hb2 : b = 2 := hsp.1 (by omega)
          rw [if_neg (by omega)]
          exact K _ (by simp [g1, hb2, g2])
      · rw [if_neg g2]
        by_cases g4 : q = 8
        · rw [if_pos g4]; exact K true (by simp [g4])
        · rw [if_neg g4]; exact K _ (by simp [g1, g2, g4])
  by_cases e1 : jo = true
  · rw [if_pos e1]; exact J true (by simp [e1])
  rw [if_neg e1]
  by_cases e2 : q = 1
  · rw [if_pos e2]; exact J true (by simp [e2])
  rw [if_neg e2]
  by_cases e3 : q = 2
  · rw [if_pos e3]; exact J true (by simp [e3])
  rw [if_neg e3]
  by_cases e4 : q = 10
  · rw [if_pos e4]; exact J true (by simp [e4])
  rw [if_neg e4]
  exact J _ (by simp [e1, e2, e3, e4])
theorem step_j (k : Nat) (x : Int) (s : Sc) (B : List Int) (jo : Bool) (n : Int) (h : Inv s B jo n) (hn : n ≤ 1048576) (j' : Bool) (hx : 0 ≤ x ∧ x ≤ 11) : ∃ s' : Sc, QBR.breaks_scan_step.j0 (k + 1) x s.base s.before s.spaces s.firm s.any j' = some (s'.base, s'.before, s'.spaces, s'.firm, s'.any, s'.joined) ∧ Inv s' (B ++ [x]) j' (n + 1) := by
  have hb := h.base
  have ha := h.any
  rw [QBR.breaks_scan_step.j0]
  have hw : wrap64 (s.spaces + 1) = s.spaces + 1 := w64 (by have := h.low; omega) (by have := h.high; omega)
  have fb : ∀ z : Int, z = bef (B ++ [x]) → ∃ s' : Sc, (if x = 2 then some (x, z, wrap64 (s.spaces + 1), s.firm, true, j') else some (x, z, 0, x, true, j')) = some (s'.base, s'.before, s'.spaces, s'.firm, s'.any, s'.joined) ∧ Inv s' (B ++ [x]) j' (n + 1) := by
    intro z hz
    have hany : true = decide (0 < (B ++ [x]).length) := by simp
    by_cases h2 : x = 2
    · refine ⟨⟨x, z, s.spaces + 1, s.firm, true, j'⟩, by rw [if_pos h2, hw], ?_⟩
      exact ⟨(lst_snoc B x).symm, hz, by rw [firm_snoc, if_pos h2]; exact h.firm, hany, ⟨fun _ => by rw [lst_snoc]; exact h2, fun _ => by have := h.low; show 0 < s.spaces + 1; omega⟩, by have := h.low; show 0 ≤ s.spaces + 1; omega, by have := h.high; show s.spaces + 1 ≤ n + 1; omega, rfl⟩
    · refine ⟨⟨x, z, 0, x, true, j'⟩, by rw [if_neg h2], ?_⟩
      exact ⟨(lst_snoc B x).symm, hz, by rw [firm_snoc, if_neg h2], hany, ⟨fun y => absurd (show (0 : Int) < 0 from y) (by decide), fun y => by rw [lst_snoc] at y; exact absurd y h2⟩, Int.le_refl _, by have := h.low; have := h.high; show 0 ≤ n + 1; omega, rfl⟩
  by_cases hB : 0 < B.length
  · rw [ha, decide_eq_true hB, if_pos rfl]
    exact fb s.base (by rw [bef_snoc, if_pos hB, hb])
  · rw [ha, decide_eq_false hB, if_neg (by simp)]
    exact fb s.before (by rw [bef_snoc, if_neg hB, h.before]; unfold bef; rw [if_neg (by omega)])
theorem step_ok (k : Nat) (c : Int) (s : Sc) (B : List Int) (jo : Bool) (n : Int) (h : Inv s B jo n) (hn : n ≤ 1048576) : ∃ s' : Sc, QBR.breaks_scan_step.f (k + 1) s.base s.before s.spaces s.firm s.any s.joined c = some (s'.base, s'.before, s'.spaces, s'.firm, s'.any, s'.joined) ∧ Inv s' (nxt B (cls c)) (c == 8205) (n + 1) := by
  have hc := cls_bd c
  unfold QBR.breaks_scan_step.f nxt
  rw [class_ok]
  simp only [Option.bind_some]
  by_cases h10 : cls c = 10
  · rw [if_pos h10]
    by_cases hB : 0 < B.length
    · rw [if_pos (by rw [h.any, decide_eq_true hB])]
      by_cases h1 : s.base = 1
      · rw [if_pos h1, if_neg (by rw [← h.base, h1]; simp), if_pos h10]
        exact step_j k 0 s B jo n h hn _ (by omega)
      · rw [if_neg h1, if_pos ⟨h10, hB, by rw [← h.base]; exact h1⟩]
        exact ⟨⟨s.base, s.before, s.spaces, s.firm, s.any, c == 8205⟩, rfl, ⟨h.base, h.before, h.firm, h.any, h.spaces, h.low, by have := h.high; show s.spaces ≤ n + 1; omega, rfl⟩⟩
    · rw [if_neg (by rw [h.any, decide_eq_false hB]; simp), if_neg (fun x => hB x.2.1), if_pos h10]
      exact step_j k 0 s B jo n h hn _ (by omega)
  · rw [if_neg h10, if_neg (fun x => h10 x.1), if_neg h10]
    exact step_j k _ s B jo n h hn _ hc
/-- The places that are found ahead of place i. -/
def jAt (t : List Int) (i : Int) : Bool := if 0 < i then rd t (i - 1) == 8205 else false
def mayAt (t : List Int) (i : Int) : Int × Bool := mayV (bef (Bl t i.toNat)) (lst (Bl t i.toNat)) (firmL (Bl t i.toNat)) (cls (rd t i)) (jAt t i)
def outL (t : List Int) : Nat → List QBS.S34
  | 0 => []
  | i + 1 => if 0 < i ∧ (mayAt t i).2 = true then outL t i ++ [⟨i, (mayAt t i).1⟩] else outL t i
theorem outL_len (t : List Int) : ∀ i : Nat, (outL t i).length ≤ i
  | 0 => Nat.le_refl _
  | i + 1 => by
    have := outL_len t i
    rw [outL]
    split
    · rw [List.length_append, List.length_singleton]; omega
    · omega
theorem outL_succ (t : List Int) {i : Int} (h0 : 0 ≤ i) : outL t (i + 1).toNat = if 0 < i ∧ (mayAt t i).2 = true then outL t i.toNat ++ [⟨i, (mayAt t i).1⟩] else outL t i.toNat := by
  rw [show (i + 1).toNat = i.toNat + 1 by omega, outL, show ((i.toNat : Nat) : Int) = i by omega]
  by_cases h : 0 < i ∧ (mayAt t i).2 = true
  · rw [if_pos h, if_pos ⟨by omega, h.2⟩]
  · rw [if_neg h, if_neg (fun x => h ⟨by omega, x.2⟩)]
theorem Bl_succ (t : List Int) {i : Int} (h0 : 0 ≤ i) : Bl t (i + 1).toNat = nxt (Bl t i.toNat) (cls (rd t i)) := by
  rw [show (i + 1).toNat = i.toNat + 1 by omega, Bl, show ((i.toNat : Nat) : Int) = i by omega]
theorem stepS_ok (q : Nat) (t : List Int) (i : Int) (h0 : 0 ≤ i) (s : Sc) (h : Inv s (Bl t i.toNat) (jAt t i) i) (hi : i ≤ 1048576) : ∃ s' : Sc, stepS (q + 2) t i (outL t i.toNat) s = some (outL t (i + 1).toNat, s') ∧ Inv s' (Bl t (i + 1).toNat) (jAt t (i + 1)) (i + 1) := by
  obtain ⟨s', hs, hI⟩ := step_ok (q + 1) (rd t i) s (Bl t i.toNat) (jAt t i) i h hi
  have hj : jAt t (i + 1) = (rd t i == 8205) := by unfold jAt; rw [if_pos (by omega), show i + 1 - 1 = i by omega]
  rw [Bl_succ t h0, hj, outL_succ t h0]
  refine ⟨s', ?_, hI⟩
  have hlen := outL_len t i.toNat
  unfold stepS
  by_cases hp : i > 0
  · have hm := may_end q 0 s.base s.before s.spaces s.firm s.any s.joined (rd t i) (by rw [h.base]; exact h.spaces) h.low
    have hv : mayV s.before s.base s.firm (cls (rd t i)) s.joined = mayAt t i := by unfold mayAt; rw [h.before, h.base, h.firm, h.joined]
    rw [hv] at hm
    rw [if_pos hp, hm]
    simp only [Option.bind_some]
    by_cases g : (mayAt t i).2 = true
    · rw [if_pos g, if_pos (by omega), hs, if_pos ⟨hp, g⟩]; rfl
    · rw [if_neg g, hs, if_neg (fun x => g x.2)]; rfl
  · rw [if_neg hp, hs, if_neg (fun x => hp x.1)]; rfl
theorem places_l (q : Nat) (t : List Int) (hl : t.length ≤ 1048576) : ∀ (d : Nat) (i : Int) (k : Nat) (s : Sc), 0 ≤ i → i + d = t.length → d < k → Inv s (Bl t i.toNat) (jAt t i) i → breaks_Places.l0 (q + 2) t k i (outL t i.toNat) s = some (outL t t.length, 0) := by
  intro d
  induction d with
  | zero =>
    intro i k s h0 hi hk hI
    obtain ⟨k, rfl⟩ : ∃ j, k = j + 1 := ⟨k - 1, by omega⟩
    rw [breaks_Places.l0, if_neg (by omega), show i.toNat = t.length by omega]
  | succ d ih =>
    intro i k s h0 hi hk hI
    obtain ⟨k, rfl⟩ : ∃ j, k = j + 1 := ⟨k - 1, by omega⟩
    obtain ⟨s', hs, hI'⟩ := stepS_ok q t i h0 s hI (by omega)
    rw [breaks_Places.l0, if_pos (by omega), if_pos h0, hs, Option.bind_some, w64 (n := i + 1) (by omega) (by omega)]
    exact ih (i + 1) k s' (by omega) (by omega) (by omega) hI'
def Ch (c : Int) : Prop := 0 ≤ c ∧ c ≤ 1114111
def All (xs : List Int) : Prop := ∀ i : Int, 0 ≤ i → i < xs.length → Ch (rd xs i)
theorem check_ok (xs : List Int) (hl : xs.length ≤ 1048576) : (All xs → Ev (fun k => QBR.breaks_check.f k xs) 0) ∧ (¬ All xs → Ev (fun k => QBR.breaks_check.f k xs) 2) := by
  have go : ∀ i : Int, 0 ≤ i → i < xs.length → Ch (rd xs i) → ∀ r, Ev (fun k => QBR.breaks_check.l0 k xs (xs.length : Int) (i + 1)) r → Ev (fun k => QBR.breaks_check.l0 k xs (xs.length : Int) i) r := by
    intro i h0 h1 hc r h
    refine Ev.step (fun k => by rw [QBR.breaks_check.l0]) (Ev.pos h1 (Ev.pos h0 (Ev.pos h1 (Ev.neg (by unfold Ch at hc; omega) (Ev.neg (by unfold Ch at hc; omega) ?_)))))
    rw [w64 (n := i + 1) (by omega) (by omega)]; exact h
  constructor
  · intro hA
    unfold QBR.breaks_check.f
    exact climb (g := fun i k => QBR.breaks_check.l0 k xs (xs.length : Int) i) (a := 0) (n := xs.length) (by omega) (Ev.step (fun k => by rw [QBR.breaks_check.l0]) (Ev.neg (by omega) (Ev.now _))) fun i h0 h1 h => go i h0 h1 (hA i h0 h1) _ h
  · intro hA
    unfold QBR.breaks_check.f
    rcases first_bad (fun i => Ch (rd xs i)) xs.length with h | ⟨j, j0, j1, hj, hb⟩
    · exact absurd h hA
    · refine climb (g := fun i k => QBR.breaks_check.l0 k xs (xs.length : Int) i) (a := 0) (n := j) (by omega) (Ev.step (fun k => by rw [QBR.breaks_check.l0]) (Ev.pos j1 (Ev.pos j0 (Ev.pos j1 ?_)))) fun i h0 h1 h => go i h0 (by omega) (hb i h0 h1) _ h
      by_cases hl : rd xs j < 0
      · exact Ev.pos hl (Ev.now _)
      · exact Ev.neg hl (Ev.pos (by unfold Ch at hj; omega) (Ev.now _))
theorem places_ok (t : List Int) (hl : t.length ≤ 1048576) (hA : All t) : Ev (fun k => breaks_Places.f k t) (outL t t.length, 0) := by
  obtain ⟨K, hK⟩ := (check_ok t hl).1 hA
  refine ⟨max K (t.length + 2), fun k hk => ?_⟩
  have hc := hK k (by omega)
  have hc' : QBR.breaks_check.f k t = some 0 := hc
  show breaks_Places.f k t = _
  unfold breaks_Places.f
  rw [hc', Option.bind_some, if_pos rfl]
  obtain ⟨q, rfl⟩ : ∃ q, k = q + 2 := ⟨k - 2, by omega⟩
  exact places_l q t hl t.length 0 (q + 2) ⟨0, 1, 0, 0, false, false⟩ (by omega) (by omega) (by omega) ⟨rfl, rfl, rfl, rfl, ⟨fun y => absurd (show (0 : Int) < 0 from y) (by decide), fun y => by have z : lst ([] : List Int) = 2 := y; have w : lst ([] : List Int) = 0 := rfl; omega⟩, Int.le_refl _, Int.le_refl _, rfl⟩
theorem places_bad (t : List Int) (hl : t.length ≤ 1048576) (hA : ¬ All t) : Ev (fun k => breaks_Places.f k t) ([], 2) := by
  unfold breaks_Places.f
  exact Ev.bind ((check_ok t hl).2 hA) (Ev.neg (show ¬ ((2 : Int) = 0) by omega) (Ev.now _))
theorem rd_map_letter (B : List Int) {i : Int} (h0 : 0 ≤ i) (h : i < B.length) : rd (B.map letter) i = letter (rd B i) := by
  rw [rd_nth _ i (by rw [List.length_map]; omega), rd_nth _ i (by omega), List.getElem_map]
theorem rd_take {t : List Int} {m : Nat} {i : Int} (h0 : 0 ≤ i) (h : i < m) (hm : m ≤ t.length) : rd (t.take m) i = rd t i := by
  rw [rd_nth _ i (by rw [List.length_take]; omega), rd_nth _ i (by omega)]
  exact List.getElem_take
/-- The end of the document's decision. -/
theorem tail_ok (a f b k : Int) (ha : 0 ≤ a ∧ a ≤ 11) (hf : 0 ≤ f ∧ f ≤ 11) (hb : 0 ≤ b ∧ b ≤ 11) (hk : 0 ≤ k ∧ k ≤ 11) (hb1 : ¬ b = 1) (j x : Bool) (hx : x = true ↔ (j = true ∨ k = 1 ∨ k = 2 ∨ k = 10 ∨ k = 3)) : Ev (fun n => QBR.chanceryref3_BreakAt.j4 n (letter a) (letter f) (letter b) (letter k) x) (dec a b f k j) := by
  refine Ev.step (fun n => by rw [QBR.chanceryref3_BreakAt.j4]) ?_
  unfold dec mayV
  rw [if_neg hb1]
  cases x with
  | true => rw [if_pos (hx.1 rfl)]; exact Ev.pos rfl (Ev.ret rfl)
  | false =>
    have hn : ¬ (j = true ∨ k = 1 ∨ k = 2 ∨ k = 10 ∨ k = 3) := fun h => by have := hx.2 h; cases this
    rw [if_neg hn]
    refine Ev.neg (by simp) ?_
    by_cases h3 : f = 3
    · rw [if_pos h3]; exact Ev.pos ((l3 hf).2 h3) (Ev.ret rfl)
    rw [if_neg h3]
    refine Ev.neg (fun h => h3 ((l3 hf).1 h)) ?_
    have K : ∀ y : Bool, (y = true ↔ (b = 4 ∨ (k = 4 ∧ b ≠ 2) ∨ k = 8 ∨ f = 7)) → Ev (fun n => QBR.chanceryref3_BreakAt.j5 n (letter a) (letter b) (letter k) y) (if (if b = 4 ∨ (k = 4 ∧ b ≠ 2) ∨ k = 8 ∨ f = 7 then ((0 : Int), false) else if b = 2 then (0, true) else if b = 6 then (1, true)
          else if b = 5 then (0, decide (k ≠ 11 ∧ a ≠ 2 ∧ a ≠ 1)) else if b = 9 ∨ k = 9 then (0, true) else (0, false)).2 = true then (if b = 4 ∨ (k = 4 ∧ b ≠ 2) ∨ k = 8 ∨ f = 7 then ((0 : Int), false) else if b = 2 then (0, true) else if b = 6 then (1, true)
          else if b = 5 then (0, decide (k ≠ 11 ∧ a ≠ 2 ∧ a ≠ 1)) else if b = 9 ∨ k = 9 then (0, true) else (0, false)).1 else -1) := by
      intro y hy
      refine Ev.step (fun n => by rw [QBR.chanceryref3_BreakAt.j5]) ?_
      cases y with
      | true => rw [if_pos (hy.1 rfl)]; exact Ev.pos rfl (Ev.ret rfl)
      | false =>
        have hm : ¬ (b = 4 ∨ (k = 4 ∧ b ≠ 2) ∨ k = 8 ∨ f = 7) := fun h => by have := hy.2 h; cases this
        rw [if_neg hm]
        refine Ev.neg (by simp) ?_
        by_cases h4 : b = 2
        · rw [if_pos h4]; exact Ev.pos ((l2 hb).2 h4) (Ev.ret rfl)
        rw [if_neg h4]
        refine Ev.neg (fun h => h4 ((l2 hb).1 h)) ?_
        by_cases h5 : b = 6
        · rw [if_pos h5]; exact Ev.pos ((l6 hb).2 h5) (Ev.ret rfl)
        rw [if_neg h5]
        refine Ev.neg (fun h => h5 ((l6 hb).1 h)) ?_
        by_cases h6 : b = 5
        · rw [if_pos h6]
          refine Ev.pos ((l5 hb).2 h6) ?_
          by_cases h7 : k = 11
          · exact Ev.pos ((l11 hk).2 h7) (Ev.ret (by simp [h7]))
          refine Ev.neg (fun h => h7 ((l11 hk).1 h)) ?_
          by_cases h8 : a = 2
          · exact Ev.pos ((l2 ha).2 h8) (Ev.ret (by simp [h8]))
          refine Ev.neg (fun h => h8 ((l2 ha).1 h)) ?_
          by_cases h9 : a = 1
          · exact Ev.pos ((l1 ha).2 h9) (Ev.ret (by simp [h9]))
          · exact Ev.neg (fun h => h9 ((l1 ha).1 h)) (Ev.ret (by simp [h7, h8, h9]))
        rw [if_neg h6]
        refine Ev.neg (fun h => h6 ((l5 hb).1 h)) ?_
        by_cases h7 : b = 9
        · rw [if_pos (show b = 9 ∨ k = 9 from .inl h7)]; exact Ev.pos ((l9 hb).2 h7) (Ev.ret rfl)
        refine Ev.neg (fun h => h7 ((l9 hb).1 h)) ?_
        by_cases h8 : k = 9
        · rw [if_pos (show b = 9 ∨ k = 9 from .inr h8)]; exact Ev.pos ((l9 hk).2 h8) (Ev.ret rfl)
        · rw [if_neg (show ¬ (b = 9 ∨ k = 9) by simp [h7, h8])]; exact Ev.neg (fun h => h8 ((l9 hk).1 h)) (Ev.ret rfl)
    by_cases g1 : b = 4
    · exact Ev.pos ((l4 hb).2 g1) (K true (by simp [g1]))
    refine Ev.neg (fun h => g1 ((l4 hb).1 h)) ?_
    have F7 : ((letter f == 111) = true) ↔ f = 7 := by rw [beq_iff_eq]; exact l7 hf
    by_cases g2 : k = 4
    · refine Ev.pos ((l4 hk).2 g2) ?_
      by_cases g3 : b = 2
      · refine Ev.pos ((l2 hb).2 g3) (Ev.neg (fun h => by have := (l8 hk).1 h; omega) (K _ ?_))
        rw [F7]; simp [g3, g2]
      · exact Ev.neg (fun h => g3 ((l2 hb).1 h)) (K true (by simp [g2, g3]))
    · refine Ev.neg (fun h => g2 ((l4 hk).1 h)) ?_
      by_cases g4 : k = 8
      · exact Ev.pos ((l8 hk).2 g4) (K true (by simp [g4]))
      · refine Ev.neg (fun h => g4 ((l8 hk).1 h)) (K _ ?_)
        rw [F7]; simp [g1, g2, g4]
theorem firm_take {B : List Int} {i : Int} (h0 : 0 ≤ i) (h : i < B.length) : firmL (B.take (i + 1).toNat) = if rd B i = 2 then firmL (B.take i.toNat) else rd B i := by
  rw [take_rd h0 h, firm_snoc]
def decAt (t : List Int) (i : Int) : Int := if (mayAt t i).2 = true then (mayAt t i).1 else -1
theorem breakAt_ok (t : List Int) (hl : t.length ≤ 1048576) (at_ : Int) (h1 : 1 ≤ at_) (h2 : at_ < t.length) : Ev (fun n => QBR.chanceryref3_BreakAt.f n t at_) (decAt t at_) := by
  have hB := Bl_mem t at_.toNat
  have hpos := Bl_pos t at_.toNat (by omega)
  have hlenB := Bl_len t at_.toNat
  unfold QBR.chanceryref3_BreakAt.f
  refine Ev.pos (by omega) (Ev.pos (by omega) ?_)
  have hlen : ((t.take at_.toNat).length : Int) = at_ := by rw [List.length_take]; omega
  rw [hlen]
  -- the last part: the list of classes is made
  have last : Ev (fun n => QBR.chanceryref3_BreakAt.j2 n t at_ ((Bl t at_.toNat).map letter) (letter (bef (Bl t at_.toNat))) 120 (letter (lst (Bl t at_.toNat)))) (decAt t at_) := by
    refine Ev.step (fun n => by rw [QBR.chanceryref3_BreakAt.j2]) ?_
    have hml : (((Bl t at_.toNat).map letter).length : Int) = (Bl t at_.toNat).length := by rw [List.length_map]
    rw [hml]
    generalize hBB : Bl t at_.toNat = B at *
    refine climb (g := fun i n => QBR.chanceryref3_BreakAt.l1 n t at_ (letter (bef B)) (letter (firmL (B.take i.toNat))) (letter (lst B)) (B.map letter) (B.length : Int) i) (a := 0) (n := B.length) (by omega) ?_ ?_
    · rw [show ((B.length : Int)).toNat = B.length by omega, List.take_length]
      refine Ev.step (fun n => by rw [QBR.chanceryref3_BreakAt.l1]) (Ev.neg (by omega) (Ev.pos (by omega) (Ev.pos h2 (Ev.bind (refClass_ok _) ?_))))
      have hk := cls_bd (rd t at_)
      have hd : decAt t at_ = dec (bef B) (lst B) (firmL B) (cls (rd t at_)) (rd t (at_ - 1) == 8205) := by
        have hj : jAt t at_ = (rd t (at_ - 1) == 8205) := by unfold jAt; rw [if_pos (by omega)]
        unfold decAt dec mayAt; rw [hj, hBB]
      rw [hd]
      by_cases b1 : lst B = 1
      · refine Ev.pos ((l1 (lst_bd hB)).2 b1) (Ev.ret ?_)
        unfold dec mayV; rw [if_pos b1]; rfl
      refine Ev.neg (fun h => b1 ((l1 (lst_bd hB)).1 h)) ?_
      rw [w64 (n := at_ - 1) (by omega) (by omega)]
      refine Ev.pos (by omega) (Ev.pos (by omega) ?_)
      have T := fun x hx => tail_ok (bef B) (firmL B) (lst B) (cls (rd t at_)) (bef_bd hB) (firm_bd hB) (lst_bd hB) hk b1 (rd t (at_ - 1) == 8205) x hx
      by_cases e1 : rd t (at_ - 1) = 8205
      · exact Ev.pos e1 (T true (by simp [e1]))
      refine Ev.neg e1 ?_
      by_cases e2 : cls (rd t at_) = 1
      · exact Ev.pos ((l1 hk).2 e2) (T true (by simp [e2]))
      refine Ev.neg (fun h => e2 ((l1 hk).1 h)) ?_
      by_cases e3 : cls (rd t at_) = 2
      · exact Ev.pos ((l2 hk).2 e3) (T true (by simp [e3]))
      refine Ev.neg (fun h => e3 ((l2 hk).1 h)) ?_
      by_cases e4 : cls (rd t at_) = 10
      · exact Ev.pos ((l10 hk).2 e4) (T true (by simp [e4]))
      refine Ev.neg (fun h => e4 ((l10 hk).1 h)) (T _ ?_)
      rw [beq_iff_eq, l3 hk]; simp [e1, e2, e3, e4]
    · intro i i0 i1 h
      have hr := hB _ (rd_mem i1 i0)
      rw [firm_take i0 i1] at h
      refine Ev.step (fun n => by rw [QBR.chanceryref3_BreakAt.l1]) (Ev.pos i1 (Ev.pos i0 (Ev.pos (by rw [List.length_map]; exact i1) ?_)))
      rw [rd_map_letter B i0 i1, w64 (n := i + 1) (by omega) (by omega)]
      by_cases e : rd B i = 2
      · rw [if_pos e] at h; exact Ev.pos ((l2 hr).2 e) h
      · rw [if_neg e] at h; exact Ev.neg (fun x => e ((l2 hr).1 x)) h
  refine climb (g := fun i n => QBR.chanceryref3_BreakAt.l0 n t at_ ((Bl t i.toNat).map letter) (t.take at_.toNat) at_ i) (a := 0) (n := at_) (by omega) ?_ ?_
  · refine Ev.step (fun n => by rw [QBR.chanceryref3_BreakAt.l0]) (Ev.neg (by omega) ?_)
    have hml : (((Bl t at_.toNat).map letter).length : Int) = (Bl t at_.toNat).length := by rw [List.length_map]
    rw [hml, w64 (n := ((Bl t at_.toNat).length : Int) - 1) (by omega) (by omega), w64 (n := ((Bl t at_.toNat).length : Int) - 2) (by omega) (by omega), rd_map_letter (Bl t at_.toNat) (i := ((Bl t at_.toNat).length : Int) - 1) (by omega) (by omega)]
    refine Ev.pos (by omega) (Ev.pos (by omega) ?_)
    unfold bef lst at last
    by_cases g : ((Bl t at_.toNat).length : Int) > 1
    · rw [if_pos g] at last
      rw [rd_map_letter (Bl t at_.toNat) (i := ((Bl t at_.toNat).length : Int) - 2) (by omega) (by omega)]
      exact Ev.pos g (Ev.pos (by omega) (Ev.pos (by omega) last))
    · rw [if_neg g, show letter 1 = 110 by decide] at last
      exact Ev.neg g last
  · intro i i0 i1 h
    have hBi := Bl_mem t i.toNat
    have hbl := Bl_len t i.toNat
    have hk := cls_bd (rd t i)
    rw [Bl_succ t i0] at h
    have htl : ((t.take at_.toNat).length : Int) = at_ := hlen
    have J : ∀ x : Bool, (x = true ↔ (cls (rd t i) = 10 ∧ ¬ (0 < (Bl t i.toNat).length ∧ lst (Bl t i.toNat) ≠ 1))) → Ev (fun n => QBR.chanceryref3_BreakAt.j1 n t at_ ((Bl t i.toNat).map letter) (letter (cls (rd t i))) (t.take at_.toNat) at_ i x) (decAt t at_) := by
      intro x hx
      refine Ev.step (fun n => by rw [QBR.chanceryref3_BreakAt.j1]) ?_
      rw [w64 (n := i + 1) (by omega) (by omega), List.length_map]
      unfold nxt at h
      cases x with
      | true =>
        have hc := hx.1 rfl
        rw [if_neg (fun y => hc.2 y.2), if_pos hc.1, List.map_append] at h
        exact Ev.pos rfl (Ev.neg (show ¬ ((120 : Nat) = 109) by decide) (Ev.pos (by omega) h))
      | false =>
        refine Ev.neg (by simp) ?_
        by_cases e : cls (rd t i) = 10
        · have hc : 0 < (Bl t i.toNat).length ∧ lst (Bl t i.toNat) ≠ 1 := Classical.byContradiction fun y => by have := hx.2 ⟨e, y⟩; cases this
          rw [if_pos ⟨e, hc⟩] at h
          exact Ev.pos ((l10 hk).2 e) h
        · rw [if_neg (fun y => e y.1), if_neg e, List.map_append] at h
          exact Ev.neg (fun y => e ((l10 hk).1 y)) (Ev.pos (by omega) h)
    refine Ev.step (fun n => by rw [QBR.chanceryref3_BreakAt.l0]) (Ev.pos i1 (Ev.pos i0 (Ev.pos (by omega) ?_)))
    rw [rd_take i0 (by omega) (by omega)]
    refine Ev.bind (refClass_ok _) ?_
    rw [List.length_map]
    by_cases e : cls (rd t i) = 10
    · refine Ev.pos ((l10 hk).2 e) ?_
      by_cases z : ((Bl t i.toNat).length : Int) = 0
      · exact Ev.pos z (J true ⟨fun _ => ⟨e, fun y => by omega⟩, fun _ => rfl⟩)
      · rw [w64 (n := ((Bl t i.toNat).length : Int) - 1) (by omega) (by omega), rd_map_letter (Bl t i.toNat) (i := ((Bl t i.toNat).length : Int) - 1) (by omega) (by omega)]
        refine Ev.neg z (Ev.pos (by omega) (Ev.pos (by omega) (J _ ?_)))
        rw [beq_iff_eq]
        have := l1 (lst_bd hBi)
        unfold lst at this ⊢
        rw [this]
        exact ⟨fun y => ⟨e, fun w => w.2 y⟩, fun y => Classical.byContradiction fun w => y.2 ⟨by omega, w⟩⟩
    · exact Ev.neg (fun y => e ((l10 hk).1 y)) (J false ⟨fun y => (by cases y), fun y => absurd y.1 e⟩)
end BrkB
end Go.Proofs.YtihmbddneapooaaDoor.Pure
