/- Walked by hand: metric.pair (it calls a function value of its own), chanceryref3.has (range over a string). No condition. -/
import Derived.Test.YtmoimbopclljeaaDoorPMetricWidthsx3
import Derived.Test.YtmoimbopclljeaaDoorLib
import Derived.Outline
import Derived.Laws.RangeAny
import Derived.FnLit
namespace Go.Proofs.YtmoimbopclljeaaDoor.HandMWf
open Go.RowKit Go.Proofs.YtmoimbopclljeaaDoorW.PrintWords Go.Proofs.YtmoimbopclljeaaDoorW.PrintLast Go.Proofs.YtmoimbopclljeaaDoorW.PrintMore
set_option linter.unusedVariables false
def hasF (s : ByteArray) : Nat → Nat → Int → Bool
  | 0, _, _ => false
  | b + 1, i, c => if i < s.size then (if ((Utf8.decode s i).1 : Int) = c then true else hasF s b (i + (Utf8.decode s i).2) c) else false
theorem width_pos (s : ByteArray) (pos : Nat) (h : pos < s.size) : 1 ≤ (Utf8.decode s pos).2 := by
  by_cases ha : (s[pos]'h).toNat < 128
  · rw [decode_ascii s pos h ha]
    exact Nat.le_refl _
  · exact (decode_high s pos h (by omega)).2
theorem hasF_end (s : ByteArray) (b pos : Nat) (c : Int) (h : ¬ pos < s.size) : hasF s b pos c = false := by
  cases b with
  | zero => rfl
  | succ b => simp [hasF, h]
def chanceryref3_has.f (s : ByteArray) (c : Int) : Option Bool := some (hasF s s.size 0 c)
theorem chanceryref3_has.calls (s : ByteArray) (c : Int) (r : Bool) (w : World) (h : chanceryref3_has.f s c = some r) :
    Calls Tryd.prog 23 #[.string s, .int .i64 c] w fun e w' => e = .returned (.bool r) ∧ Below w.heap.size w w' := by
  obtain rfl : hasF s s.size 0 c = r := Option.some.inj h
  clear h
  have HB := Aside0.mk (Below.refl w.heap.size w)
  go_enter Tryd.func23, Tryd.ntmps23
  go_wp2
  go_loopw [] (fun w' => ∃ (pos b : Nat), w' = w.iter s pos ∧ Aside0 (hasF s b pos c = hasF s s.size 0 c) ∧ s.size ≤ pos + b) (fun w' => s.size - w'.iterPos w.heap.size)
  case atStart => exact ⟨0, s.size, rfl, ⟨rfl⟩, by omega⟩
  case round =>
    obtain ⟨pos, b, rfl, HC, hb⟩ := hrel
    by_cases hp : pos < s.size
    · have hnx : ∀ ty, (Instr.next (.pointer (some ⟨w.heap.size, 0, none⟩)) true ty).run Tryd.prog (w.iter s pos) = _ := fun ty => run_next_any w s pos ty hp
      have hw := width_pos s pos hp
      have hle := decode_le s pos
      cases b with
      | zero => exact absurd hb (by omega)
      | succ b =>
      by_cases hx : ((Utf8.decode s pos).1 : Int) = c
      · have hbe : (((Utf8.decode s pos).1 : Int) == c) = true := beq_iff_eq.2 hx
        have HX := Aside0.mk hx
        clear hx
        go_wp2
        go_ret
        exact ⟨by rw [← HC.out]; simp only [hasF, if_pos hp, if_pos HX.out]; rfl, below_alloc HB.out _⟩
      · have hbe : (((Utf8.decode s pos).1 : Int) == c) = false := beq_eq_false_iff_ne.2 hx
        have HX := Aside0.mk hx
        clear hx
        go_wp2
        go_roundw
        case rel => exact ⟨pos + (Utf8.decode s pos).2, b, rfl, ⟨by rw [← HC.out]; simp only [hasF, if_pos hp, if_neg HX.out]⟩, by omega⟩
        case measure => simp; omega
    · have hnx : ∀ ty, (Instr.next (.pointer (some ⟨w.heap.size, 0, none⟩)) true ty).run Tryd.prog (w.iter s pos) = _ := fun ty => run_next_end w s pos ty hp
      go_wp2
      go_ret
      exact ⟨by rw [← HC.out, hasF_end s b pos c hp]; rfl, below_alloc HB.out _⟩
def leanB (c : Int) : Bool := decide (c = 84 ∨ c = 86 ∨ c = 87 ∨ c = 89)
theorem lean_any (c : Int) (w : World) : Calls Tryd.prog 30 #[.int .i64 c] w fun e w' => e = .returned (.bool (leanB c)) ∧ w = w' := by
  by_cases h1 : c = 84
  · subst h1
    have e : leanB 84 = true := rfl
    go_enter Tryd.func30, Tryd.ntmps30
    go_wp2
    go_ret
    exact ⟨rfl, rfl⟩
  by_cases h2 : c = 86
  · subst h2
    have e : leanB 86 = true := rfl
    clear h1
    go_enter Tryd.func30, Tryd.ntmps30
    go_wp2
    go_ret
    exact ⟨rfl, rfl⟩
  by_cases h3 : c = 87
  · subst h3
    have e : leanB 87 = true := rfl
    clear h1 h2
    go_enter Tryd.func30, Tryd.ntmps30
    go_wp2
    go_ret
    exact ⟨rfl, rfl⟩
  by_cases h4 : c = 89
  · subst h4
    have e : leanB 89 = true := rfl
    clear h1 h2 h3
    go_enter Tryd.func30, Tryd.ntmps30
    go_wp2
    go_ret
    exact ⟨rfl, rfl⟩
  have e : leanB c = false := by unfold leanB; exact decide_eq_false (by omega)
  have b1 : (c == 84) = false := beq_eq_false_iff_ne.2 h1
  have b2 : (c == 86) = false := beq_eq_false_iff_ne.2 h2
  have b3 : (c == 87) = false := beq_eq_false_iff_ne.2 h3
  have b4 : (c == 89) = false := beq_eq_false_iff_ne.2 h4
  clear h1 h2 h3 h4
  go_enter Tryd.func30, Tryd.ntmps30
  go_wp2
  go_ret
  exact ⟨by rw [e]; rfl, rfl⟩
def pairV (a b : Int) : Int := if (leanB a = true ∧ b = 65) ∨ (a = 65 ∧ leanB b = true) then 70 else if (leanB a = true ∨ a = 80) ∧ (b = 46 ∨ b = 44) then 90 else 0
def Goes (a b r : Int) (w : World) : Prop := Calls Tryd.prog 27 #[.int .i64 a, .int .i64 b] w fun e w' => e = .returned (.int .i64 r) ∧ Below w.heap.size w w'
theorem p1 (a : Int) (w : World) (la : leanB a = true) : Goes a 65 70 w := by
  have HB := Aside0.mk (Below.refl w.heap.size w)
  unfold Goes
  go_enter Tryd.func27, Tryd.ntmps27
  go_wp2_with (go_at_call 30; refine (lean_any _ _).mono ?_; rintro e w' ⟨rfl, rfl⟩)
  go_ret
  exact ⟨rfl, HB.out⟩
theorem p2 (a b : Int) (w : World) (la : leanB a = true) (a65 : (a == 65) = false) (b65 : (b == 65) = false) (b46 : (b == 46) = false) (b44 : (b == 44) = false) : Goes a b 0 w := by
  have HB := Aside0.mk (Below.refl w.heap.size w)
  unfold Goes
  go_enter Tryd.func27, Tryd.ntmps27
  go_wp2_with (go_at_call 30; refine (lean_any _ _).mono ?_; rintro e w' ⟨rfl, rfl⟩)
  go_ret
  exact ⟨rfl, HB.out⟩
theorem p3 (a : Int) (w : World) (la : leanB a = true) (a65 : (a == 65) = false) : Goes a 46 90 w := by
  have HB := Aside0.mk (Below.refl w.heap.size w)
  unfold Goes
  go_enter Tryd.func27, Tryd.ntmps27
  go_wp2_with (go_at_call 30; refine (lean_any _ _).mono ?_; rintro e w' ⟨rfl, rfl⟩)
  go_ret
  exact ⟨rfl, HB.out⟩
theorem p4 (a : Int) (w : World) (la : leanB a = true) (a65 : (a == 65) = false) : Goes a 44 90 w := by
  have HB := Aside0.mk (Below.refl w.heap.size w)
  unfold Goes
  go_enter Tryd.func27, Tryd.ntmps27
  go_wp2_with (go_at_call 30; refine (lean_any _ _).mono ?_; rintro e w' ⟨rfl, rfl⟩)
  go_ret
  exact ⟨rfl, HB.out⟩
theorem p5 (b : Int) (w : World) (la : leanB 65 = false) (lb : leanB b = true) : Goes 65 b 70 w := by
  have HB := Aside0.mk (Below.refl w.heap.size w)
  unfold Goes
  go_enter Tryd.func27, Tryd.ntmps27
  go_wp2_with (go_at_call 30; refine (lean_any _ _).mono ?_; rintro e w' ⟨rfl, rfl⟩)
  go_ret
  exact ⟨rfl, HB.out⟩
theorem p6 (b : Int) (w : World) (la : leanB 65 = false) (lb : leanB b = false) : Goes 65 b 0 w := by
  have HB := Aside0.mk (Below.refl w.heap.size w)
  unfold Goes
  go_enter Tryd.func27, Tryd.ntmps27
  go_wp2_with (go_at_call 30; refine (lean_any _ _).mono ?_; rintro e w' ⟨rfl, rfl⟩)
  go_ret
  exact ⟨rfl, HB.out⟩
theorem p7 (b : Int) (w : World) (la : leanB 80 = false) (b46 : (b == 46) = false) (b44 : (b == 44) = false) : Goes 80 b 0 w := by
  have HB := Aside0.mk (Below.refl w.heap.size w)
  unfold Goes
  go_enter Tryd.func27, Tryd.ntmps27
  go_wp2_with (go_at_call 30; refine (lean_any _ _).mono ?_; rintro e w' ⟨rfl, rfl⟩)
  go_ret
  exact ⟨rfl, HB.out⟩
theorem p8 (w : World) (la : leanB 80 = false) : Goes 80 46 90 w := by
  have HB := Aside0.mk (Below.refl w.heap.size w)
  unfold Goes
  go_enter Tryd.func27, Tryd.ntmps27
  go_wp2_with (go_at_call 30; refine (lean_any _ _).mono ?_; rintro e w' ⟨rfl, rfl⟩)
  go_ret
  exact ⟨rfl, HB.out⟩
theorem p9 (w : World) (la : leanB 80 = false) : Goes 80 44 90 w := by
  have HB := Aside0.mk (Below.refl w.heap.size w)
  unfold Goes
  go_enter Tryd.func27, Tryd.ntmps27
  go_wp2_with (go_at_call 30; refine (lean_any _ _).mono ?_; rintro e w' ⟨rfl, rfl⟩)
  go_ret
  exact ⟨rfl, HB.out⟩
theorem p10 (a b : Int) (w : World) (la : leanB a = false) (a65 : (a == 65) = false) (a80 : (a == 80) = false) : Goes a b 0 w := by
  have HB := Aside0.mk (Below.refl w.heap.size w)
  unfold Goes
  go_enter Tryd.func27, Tryd.ntmps27
  go_wp2_with (go_at_call 30; refine (lean_any _ _).mono ?_; rintro e w' ⟨rfl, rfl⟩)
  go_ret
  exact ⟨rfl, HB.out⟩
theorem pair_any (a b : Int) (w : World) : Goes a b (pairV a b) w := by
  unfold pairV
  cases la : leanB a with
  | true =>
    have a65 : ¬ a = 65 := fun e => by subst e; revert la; decide
    have a65b : (a == 65) = false := beq_eq_false_iff_ne.2 a65
    by_cases b65 : b = 65
    · subst b65; rw [if_pos (.inl ⟨rfl, rfl⟩)]; exact p1 a w la
    rw [if_neg (by simp [b65, a65])]
    by_cases b46 : b = 46
    · subst b46; rw [if_pos ⟨.inl rfl, .inl rfl⟩]; exact p3 a w la a65b
    by_cases b44 : b = 44
    · subst b44; rw [if_pos ⟨.inl rfl, .inr rfl⟩]; exact p4 a w la a65b
    rw [if_neg (by simp [b46, b44])]
    exact p2 a b w la a65b (beq_eq_false_iff_ne.2 b65) (beq_eq_false_iff_ne.2 b46) (beq_eq_false_iff_ne.2 b44)
  | false =>
    by_cases a65 : a = 65
    · subst a65
      cases lb : leanB b with
      | true => rw [if_pos (.inr ⟨rfl, rfl⟩)]; exact p5 b w la lb
      | false => rw [if_neg (by simp), if_neg (by simp)]; exact p6 b w la lb
    rw [if_neg (by simp [a65])]
    by_cases a80 : a = 80
    · subst a80
      by_cases b46 : b = 46
      · subst b46; rw [if_pos ⟨.inr rfl, .inl rfl⟩]; exact p8 w la
      by_cases b44 : b = 44
      · subst b44; rw [if_pos ⟨.inr rfl, .inr rfl⟩]; exact p9 w la
      rw [if_neg (by simp [b46, b44])]
      exact p7 b w la (beq_eq_false_iff_ne.2 b46) (beq_eq_false_iff_ne.2 b44)
    rw [if_neg (by simp [a80])]
    exact p10 a b w la (beq_eq_false_iff_ne.2 a65) (beq_eq_false_iff_ne.2 a80)
def metric_pair.f (a b : Int) : Option Int := some (pairV a b)
theorem metric_pair.calls (a b : Int) (r : Int) (w : World) (h : metric_pair.f a b = some r) :
    Calls Tryd.prog 27 #[.int .i64 a, .int .i64 b] w fun e w' => e = .returned (.int .i64 r) ∧ Below w.heap.size w w' := by
  obtain rfl : pairV a b = r := Option.some.inj h
  exact pair_any a b w
theorem zmul {x : Int} {t : Option Int} (h : PMetricWidths.chanceryref3_Half.f (wrap64 (0 * x)) 1000 = t) : PMetricWidths.chanceryref3_Half.f 0 1000 = t := by rw [Int.zero_mul, show wrap64 0 = 0 by unfold wrap64; omega] at h; exact h
end Go.Proofs.YtmoimbopclljeaaDoor.HandMWf
